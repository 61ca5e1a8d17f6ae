import Derived.Test.YtiejafonjemioaaGreatDoorLex
import Derived.Deep.QuietTactic
import Derived.BigQuiet
import Derived.WalkSmall
import Derived.Deep.WholeRow
set_option maxHeartbeats 1000000
set_option maxRecDepth 100000
set_option linter.unusedVariables false
set_option linter.unusedSimpArgs false
open Go.Value renaming slice→σ
open Go.Obj renaming cells→χ
namespace Go.Proofs.YtiejafonjemioaaGreatDoor
open Go.RowKit
variable {α:Type} {c:Cod} {w:World} {p:α->Bool} {l:List α}
theorem Xbv:Zn 145:=fun _ _=>by kernel_rfl
theorem Xfr:Zn 148:=fun _ _=>by kernel_rfl
theorem Xma (n:Int) (w:World) :
  Calls Tryz.prog 145 #[ι n] w fun e w'=>e=.returned (.bool (decide (n<0\/12<n)))/\w=w':=by
 go_enter Tryz.func145,Tryz.ntmps145
 go_wp2
 all_goals (go_ret;exact ⟨Za (by simp;try omega),rfl⟩)
theorem Xla (nm nm2:ByteArray) (p l r c:Value) (b:Nat) (w:World) (hb:b<w.heap.size) (h:w.cell? (π b 0)=some (.string nm2)) :
  Calls Tryz.prog 148 #[.agg #[.string nm,p,l,r,c],.pointer (some (π b 0))] w fun e w'=>e=.returned (.bool (Zt nm nm2))/\Below w.heap.size w w':=by
 have h':(w.alloc (χ #[.string nm,p,l,r,c] 93)).cell? (π b 0)=some (.string nm2):=by rw [World.cell?_alloc_past _ _ _ hb];exact h
 go_enter Tryz.func148,Tryz.ntmps148
 go_wp2
 go_ret
 exact ⟨rfl,Br.alloc (Nr _) _⟩
def Zr (x:Fun):Prop:=0<=x.params/\x.params<=6/\x.params<=x.locals/\x.locals<=100/\1<=x.code.length/\x.code.length<=1048576
def Xbh (c:Cod) (i:Nat) (x:Fun):Prop:=Uz x.name=true/\Zr x/\(c.funcs.take i).any (fun g=>Zt g.name x.name)=false
def Xcs (c:Cod):Prop:=c.fields.length<=12/\c.fields.any (fun n=>decide (n<0\/12<n))=false/\0<=c.globals/\c.globals<=8/\c.funcs.length<=40/\∀ i x,c.funcs[i]?=some x->Xbh c i x
noncomputable def U7 (c:Cod):Bool:=@decide (Xcs c) (Classical.propDecidable _)
theorem K6 (h:Xcs c):U7 c=true:=by unfold U7;exact @decide_eq_true _ (Classical.propDecidable _) h
theorem Zc (h:¬Xcs c):U7 c=false:=by unfold U7;exact @decide_eq_false _ (Classical.propDecidable _) h
theorem Xhh (w:World):∀ (x:Int) (w1:World) (av:Value),Below w.heap.size w w1->Xlj 0 w1 av x->Calls Tryz.prog 145 (#[av]++#[]) w1 (fun e w2=>e=.returned (.bool (decide (x<0\/12<x)))/\Below w1.heap.size w1 w2):=by
 rintro x w1 av _ ⟨rfl,_⟩
 exact (Xma x w1).mono fun e w2 ⟨he,hw⟩=>⟨he,hw▸Below.refl _ _⟩
theorem Xm6 (nm:ByteArray) (b:Nat) (B:Nat) (w:World) (hb:b<w.heap.size) (h:w.cell? (π b 0)=some (.string nm)):∀ (x:Fun) (w1:World) (av:Value),Below w.heap.size w w1->J4 B w1 av x->Calls Tryz.prog 148 (#[av]++#[.pointer (some (π b 0))]) w1 (fun e w2=>e=.returned (.bool (Zt x.name nm))/\Below w1.heap.size w1 w2):=by
 rintro x w1 av aA ⟨cv,rfl,_⟩
 exact Xla x.name nm _ _ _ _ b w1 (by have:=aA.size;omega) (by rw [aA.cell (p:=(π b 0)) hb];exact h)
theorem Xea (c:Cod) (cv:Value) (B:Nat) (w:World) (hL:Qa w) (hB:B<=w.heap.size) (hc:Yj B w cv c) :
  Calls Tryz.prog 118 #[cv] w fun e w'=>e=.returned (.bool (U7 c))/\Below w.heap.size w w':=by
 obtain ⟨fv,gv,rfl,hf,hg,aY⟩:=hc
 have HL:=Lh hL
 have HF:=Lh hf
 obtain ⟨fa,aJ,rfl,bF,_,_,_⟩:=hf
 obtain ⟨ga,aE,rfl,aM,aN,aO,aS⟩:=hg
 have aU:=Lh aS
 clear hL aS
 unfold in64 at aY
 by_cases h1:c.fields.length<=12
 ·have aW:Below B w (w.alloc (χ (Bc fa aJ ga aE c) 25)):=Br.alloc hB _
  have HF:=Lh (HF.o.ints aW)
  cases h2:c.fields.any (fun n=>decide (n<0\/12<n)) with
  | true=>
   have aA:=Lh (Zc (c:=c) (fun h=>by rw [h.2.1] at h2;cases h2))
   have H2:=Lh h2
   clear h2
   go_enter Tryz.func118,Tryz.ntmps118
   go_wp2_with fail
   refine (Y3 145 #[] _ c.fields _ B _ Xbv φ HF.o (Xhh _)).mono ?_
   rintro e w' ⟨rfl,hb⟩
   rw [H2.o]
   go_wp2
   go_ret
   exact ⟨by rw [aA.o];rfl,Yi hb⟩
  | false=>
   have H2:=Lh h2
   clear h2
   have bB:Hid (¬(0<=c.globals/\c.globals<=8/\c.funcs.length<=40)->U7 c=false):=fun h=>Zc (c:=c) (fun h'=>h ⟨h'.2.2.1,h'.2.2.2.1,h'.2.2.2.2.1⟩)
   go_enter Tryz.func118,Tryz.ntmps118
   go_wp2_with fail
   refine (Y3 145 #[] _ c.fields _ B _ Xbv φ HF.o (Xhh _)).mono ?_
   rintro e w' ⟨rfl,hb⟩
   rw [H2.o]
   have k1:=Zu hb 1 _ rfl
   have k2:=Zu hb 2 _ rfl
   by_cases h3:0<=c.globals/\c.globals<=8/\c.funcs.length<=40
   ·obtain ⟨h4,h5,h6⟩:=h3
    have e1:decide (c.globals<0)=false:=by simp;omega
    have e2:decide (8<c.globals)=false:=by simp;omega
    have e3:decide (40<(c.funcs.length:Int))=false:=by simp;omega
    go_wp2_with fail
    go_loopw [33] (fun i wr=>∃ k:Nat,k<=c.funcs.length/\i=ι k/\Below w'.heap.size w' wr/\Hid (∀ j x,j<k->c.funcs[j]?=some x->Xbh c j x)) (fun i _=>c.funcs.length - (intOf i).toNat)
    case atStart=>exact ⟨0,Nat.zero_le _,rfl,Below.refl _ _,fun j x hj=>by omega⟩
    case round=>
     obtain ⟨k,hk,rfl,aG,aF⟩:=hrel
     have aD:=(Yi hb).trans (aG.mono (Yi hb).size)
     have bC:=Xc aG k1
     have aT:=Xc aG k2
     by_cases bA:k<c.funcs.length
     ·obtain ⟨x,hx⟩:∃ x,c.funcs[k]?=some x:=⟨_,Lg bA⟩
      rcases aU.o with h|⟨b,o,rfl,aK,hE⟩
      ·rw [h] at hx;simp at hx
      have HE:=Lh hE
      have hE:=(hE k x hx).below (aD.mono hB) aK
      obtain ⟨g1,g2,g3,g4,⟨xv,g5,g6⟩,g7,g8,g9⟩:=hE
      obtain ⟨xa,bD,rfl,bE,_,_,_⟩:=g6
      have HX:=Lh hx
      clear hx
      unfold in64 at g8 g9
      clear k1 k2
      go_wp2_with fail
      refine (Xir _ _ (HL.o.below (aD.trans ((Br.alloc (Nr _) _).mono aD.size))) g7).mono ?_
      rintro e w2 ⟨rfl,aB⟩
      have aC:=aD.trans ((Yi aB).mono aD.size)
      have aH:=aG.trans ((Yi aB).mono aG.size)
      have q0:=Zu aB 0 _ rfl
      have q1:=Zu aB 1 _ rfl
      have q2:=Zu aB 2 _ rfl
      have q4:=Zu aB 4 _ rfl
      have k2'':=keepA aB aT
      clear bC aT g1 g2 g3 g4 g5
      cases hn:Uz x.name with
      | false=>
       have aA:=Lh (Zc (c:=c) (fun h=>by rw [(h.2.2.2.2.2 k x HX.o).1] at hn;cases hn))
       clear hn
       go_wp2
       go_ret
       exact ⟨by rw [aA.o];rfl,aC⟩
      | true=>
       have HN:=Lh hn
       clear hn
       by_cases aI:Zr x
       ·have aV:=Lh aI
        obtain ⟨o1,o2,o3,o4,o5,o6⟩:=aI
        have d1:decide (x.params<0)=false:=by simp;omega
        have d2:decide (6<x.params)=false:=by simp;omega
        have d3:decide (x.locals<x.params)=false:=by simp;omega
        have d4:decide (100<x.locals)=false:=by simp;omega
        have d5:decide ((x.code.length:Int)<1)=false:=by simp;omega
        have d6:decide (1048576<(x.code.length:Int))=false:=by simp;omega
        have HS:=Lh (Xf.take (cap:=aE) (E:=Zl B) k hk aM aN aO aK (fun i y hy=>(HE.o i y hy).below (aC.mono hB) aK))
        go_wp2_with fail
        refine (Ui 148 #[_] _ _ _ B _ Xfr (Nt hB aC.size) HS.o (Xm6 x.name wr.heap.size B _ (Bl q0) q0)).mono ?_
        rintro e w4 ⟨rfl,aR⟩
        have aX:=aC.trans (aR.mono aC.size)
        have aL:=aH.trans (aR.mono aH.size)
        cases hd:(c.funcs.take k).any (fun y=>Zt y.name x.name) with
        | true=>
         have aA:=Lh (Zc (c:=c) (fun h=>by rw [(h.2.2.2.2.2 k x HX.o).2.2] at hd;cases hd))
         clear hd
         go_wp2
         go_ret
         exact ⟨by rw [aA.o];rfl,aX⟩
        | false=>
         have aP:Hid (∀ j y,j<k+1->c.funcs[j]?=some y->Xbh c j y):=by
          intro j y hj hy
          by_cases aZ:j=k
          ·subst aZ;obtain rfl:x=y:=by simpa using HX.o.symm.trans hy
           exact ⟨HN.o,aV.o,hd⟩
          ·exact aF j y ω hy
         clear hd
         go_wp2
         go_roundw
         case rel=>exact ⟨k+1,ω,by go_num,aL,aP⟩
         case measure=>simp [intOf];omega
       ·have aQ:=Lh (Zc (c:=c) (fun h=>aI (h.2.2.2.2.2 k x HX.o).2.1))
        go_wp2_with fail
        all_goals first
         | (exfalso;apply aI;unfold Zr;omega)
         | (go_ret;exact ⟨by rw [aQ.o];rfl,aC⟩)
     ·have aA:=Lh (K6 (c:=c) ⟨h1,H2.o,h4,h5,h6,fun i x hx=>aF i x (by have:=(Ll hx);omega) hx⟩)
      go_wp2
      go_ret
      exact ⟨by rw [aA.o];rfl,aD⟩
   ·go_wp2_with fail
    all_goals
     go_ret
     exact ⟨by rw [bB.o ω];rfl,Yi hb⟩
 ·have aA:=Lh (Zc (c:=c) (fun h=>h1 h.1))
  go_enter Tryz.func118,Tryz.ntmps118
  go_wp2
  go_ret
  exact ⟨by rw [aA.o];rfl,Br.alloc (Nr _) _⟩
def Jw (c:Cod) (f:Fun) (op:Int):Option Int:=if op=2 then some f.locals else if op=3 then some f.locals else if op=4 then some c.globals else if op=5 then some c.globals else if op=6 then some 12 else if op=7 then some 12 else if op=8 then some (c.fields.length:Int) else if op=9 then some (c.funcs.length:Int) else if op=11 then some (f.code.length:Int) else if op=12 then some (f.code.length:Int) else none
def Zq (c:Cod) (f:Fun) (x:Ins):Bool:=
 if x.op<1\/31<x.op then false else match Jw c f x.op with
 | some n=>decide (0<=x.a/\x.a<n)
 | none=>if x.op=1 then decide (-1099511627776<=x.a/\x.a<=1099511627776) else decide (x.a=0)
theorem c3a (w:World) (A:Array Value) (T:TypeId) (B C:Obj) (j:Nat):(((w.alloc (χ A T)).alloc B).alloc C).cell? (π w.heap.size j)=A[j]?:=by
 rw [World.cell?_alloc_past,World.cell?_alloc_past,Y5]<;>(simp;try omega)
theorem c3b (w:World) (A:Obj) (B:Array Value) (T:TypeId) (C:Obj) (j:Nat):(((w.alloc A).alloc (χ B T)).alloc C).cell? (π (w.heap.size+1) j)=B[j]?:=by
 rw [World.cell?_alloc_past,World.cell?_alloc_at]<;>simp
theorem c3c (w:World) (A B:Obj) (C:Array Value) (T:TypeId) (j:Nat):(((w.alloc A).alloc B).alloc (χ C T)).cell? (π (w.heap.size+1+1) j)=C[j]?:=by
 rw [World.cell?_alloc_at];simp
theorem Ki (W:World) (es:Array MapEntry) (clock:Nat) (k:Int) (v:Value) (h:Instr.findNow (.int .i64) (ι k) es.toList 0=some none) :
  (Instr.mapUpdate 207 (.map (some W.heap.size)) (ι k) v).run Tryz.prog (W.alloc (.map es clock))=.ok () (W.alloc (.map (es.push ⟨ι k,v,clock⟩) (clock+1))):=by
 have hb:(W.alloc (.map es clock)).heap[W.heap.size]?=some (.map es clock):=Hn _ _
 have aA:∀ o,({ W.alloc (.map es clock) with heap:=(W.alloc (.map es clock)).heap.setIfInBounds W.heap.size o }:World)=W.alloc o:=by
  intro o
  have:(W.heap.push (.map es clock)).setIfInBounds W.heap.size o=W.heap.push o:=by
   apply Array.ext_getElem?
   intro i
   rw [Array.getElem?_setIfInBounds,Array.getElem?_push,Array.getElem?_push]
   by_cases hi:W.heap.size=i
   ·subst hi;simp
   ·rw [if_neg hi,if_neg (fun h=>hi h.symm),if_neg (fun h=>hi h.symm)]
  show ({ W with heap:=(W.heap.push (.map es clock)).setIfInBounds W.heap.size o }:World)=_
  rw [this]
  rfl
 simp [Instr.mapUpdate,run_underlying Tryz.underlying207,MapKept.run_getObj_map hb,MapKept.run_checkKey Tryz.underlying3 (k:=ι k) rfl,MapKept.run_findKey Tryz.underlying3 h,MapKept.run_setObj_map _ hb,Result.andThen]
 exact aA _
theorem Xrb (W:World) (es:Array MapEntry) (clock:Nat) (k:Int) (r:Option (Nat×Value)) (h:Instr.findNow (.int .i64) (ι k) es.toList 0=some r) :
  (Instr.lookup 207 (.map (some W.heap.size)) (ι k) true).run Tryz.prog (W.alloc (.map es clock))=.ok (.tuple #[match r with|some (_,v)=>v|none=>ι 0,.bool r.isSome]) (W.alloc (.map es clock)):=by
 have hb:(W.alloc (.map es clock)).heap[W.heap.size]?=some (.map es clock):=Hn _ _
 cases r with
 | none=>simp [Instr.lookup,run_underlying Tryz.underlying207,MapKept.run_getObj_map hb,MapKept.run_checkKey Tryz.underlying3 (k:=ι k) rfl,MapKept.run_findKey Tryz.underlying3 h,Result.andThen,Tryz.zeroValue3]
 | some r=>simp [Instr.lookup,run_underlying Tryz.underlying207,MapKept.run_getObj_map hb,MapKept.run_checkKey Tryz.underlying3 (k:=ι k) rfl,MapKept.run_findKey Tryz.underlying3 h,Result.andThen]
def Xbz (c:Cod) (f:Fun):Array MapEntry:=#[⟨ι 2,ι f.locals,0⟩,⟨ι 3,ι f.locals,1⟩,⟨ι 4,ι c.globals,2⟩,⟨ι 5,ι c.globals,3⟩,⟨ι 6,ι 12,4⟩,⟨ι 7,ι 12,5⟩,⟨ι 8,ι (c.fields.length:Int),6⟩,⟨ι 9,ι (c.funcs.length:Int),7⟩,⟨ι 11,ι (f.code.length:Int),8⟩,⟨ι 12,ι (f.code.length:Int),9⟩]
theorem Xnb (c:Cod) (f:Fun) (op:Int):∃ r,Instr.findNow (.int .i64) (ι op) (Xbz c f).toList 0=some r/\r.map (·.2)=(Jw c f op).map (.int .i64):=by
 simp only [Xbz,Instr.findNow,Instr.sameNow]
 unfold Jw
 by_cases h2:op=2
 ·subst h2;simp
 by_cases h3:op=3
 ·subst h3;simp
 by_cases h4:op=4
 ·subst h4;simp
 by_cases h5:op=5
 ·subst h5;simp
 by_cases h6:op=6
 ·subst h6;simp
 by_cases h7:op=7
 ·subst h7;simp
 by_cases h8:op=8
 ·subst h8;simp
 by_cases h9:op=9
 ·subst h9;simp
 by_cases aA:op=11
 ·subst aA;simp
 by_cases aB:op=12
 ·subst aB;simp
 have:∀ n,op≠n->(op == n)=false:=fun n h=>by simpa using h
 simp [this _ h2,h2,this _ h3,h3,this _ h4,h4,this _ h5,h5,this _ h6,h6,this _ h7,h7,this _ h8,h8,this _ h9,h9,this _ aA,aA,this _ aB,aB]
theorem Xh6 (W:World):(Instr.makeMap 207 none).run Tryz.prog W=.ok (.map (some W.heap.size)) (W.alloc (.map #[] 0)):=by simp [Instr.makeMap]
theorem Xpq (c:Cod) (f:Fun) (op:Int) (W:World) :
  (Instr.lookup 207 (.map (some W.heap.size)) (ι op) true).run Tryz.prog (W.alloc (.map (Xbz c f) 10)) =
   .ok (.tuple #[ι ((Jw c f op).getD 0),.bool (Jw c f op).isSome]) (W.alloc (.map (Xbz c f) 10)):=by
 obtain ⟨r,h,hr⟩:=Xnb c f op
 rw [Xrb W (Xbz c f) 10 op r h]
 cases r with
 | none=>cases hl:Jw c f op with
  | none=>rfl
  | some n=>rw [hl] at hr;cases hr
 | some r=>cases hl:Jw c f op with
  | none=>rw [hl] at hr;cases hr
  | some n=>rw [hl] at hr;simp at hr;simp [hr]
theorem Xh2 (c:Cod) (cv:Value) (f:Fun) (fv:Value) (x:Ins) (xv:Value) (B:Nat) (w:World) (hc:Yj B w cv c) (hf:J4 B w fv f) (hx:Xa3 B w xv x) :
  Calls Tryz.prog 151 #[cv,fv,xv] w fun e w'=>e=.returned (.bool (Zq c f x))/\Below w.heap.size w w':=by
 obtain ⟨fv,gv,rfl,aH,aI,aO⟩:=hc
 obtain ⟨kv,rfl,hk,hn,hp,aQ⟩:=hf
 obtain ⟨rfl,aR,ha⟩:=hx
 obtain ⟨fa,aA,rfl,aN,-,-,-⟩:=aH
 obtain ⟨ga,aB,rfl,aK,aL,aM,aJ⟩:=aI
 obtain ⟨ka,aC,rfl,aP,-,-,-⟩:=hk
 clear aJ
 unfold in64 at *
 go_enter Tryz.func151,Tryz.ntmps151
 go_wp2_with fail
 obtain ⟨W,hW⟩:∃ W,W=(((w.alloc (χ (Bc fa aA ga aB c) 25)).alloc (χ #[.string f.name,ι f.params,ι f.locals,.bool f.result,σ ka f.code.length aC] 93)).alloc (χ #[ι x.op,ι x.a] 124)):=⟨_,rfl⟩
 have aD:Below w.heap.size w W:=by rw [hW];exact ((Br.alloc (Nr _) _).alloc ψ _).alloc φ _
 have c0:∀ o,(W.alloc o).cell? (π w.heap.size 0)=some (σ fa c.fields.length aA):=fun o=>by rw [World.cell?_alloc_past];(· rw [hW,c3a];rfl);(· rw [hW];simp;try omega)
 have c1:∀ o,(W.alloc o).cell? (π w.heap.size 1)=some (ι c.globals):=fun o=>by rw [World.cell?_alloc_past];(· rw [hW,c3a];rfl);(· rw [hW];simp;try omega)
 have c2:∀ o,(W.alloc o).cell? (π w.heap.size 2)=some (σ ga c.funcs.length aB):=fun o=>by rw [World.cell?_alloc_past];(· rw [hW,c3a];rfl);(· rw [hW];simp;try omega)
 have f2:∀ o,(W.alloc o).cell? (π (w.heap.size+1) 2)=some (ι f.locals):=fun o=>by rw [World.cell?_alloc_past];(· rw [hW,c3b];rfl);(· rw [hW];simp;try omega)
 have f4:∀ o,(W.alloc o).cell? (π (w.heap.size+1) 4)=some (σ ka f.code.length aC):=fun o=>by rw [World.cell?_alloc_past];(· rw [hW,c3b];rfl);(· rw [hW];simp;try omega)
 have x0:∀ o,(W.alloc o).cell? (π (w.heap.size+1+1) 0)=some (ι x.op):=fun o=>by rw [World.cell?_alloc_past];(· rw [hW,c3c];rfl);(· rw [hW];simp;try omega)
 have x1:∀ o,(W.alloc o).cell? (π (w.heap.size+1+1) 1)=some (ι x.a):=fun o=>by rw [World.cell?_alloc_past];(· rw [hW,c3c];rfl);(· rw [hW];simp;try omega)
 rw [<-hW]
 have HW:=Lh hW
 clear hW
 have u2:=Ki W #[] 0 2 (ι f.locals) (by simp [Instr.findNow,Instr.sameNow])
 simp only [List.push_toArray,List.cons_append,List.nil_append,Nat.reduceAdd] at u2
 have u3:=Ki W #[⟨ι 2,ι f.locals,0⟩] 1 3 (ι f.locals) (by simp [Instr.findNow,Instr.sameNow])
 simp only [List.push_toArray,List.cons_append,List.nil_append,Nat.reduceAdd] at u3
 have u4:=Ki W #[⟨ι 2,ι f.locals,0⟩,⟨ι 3,ι f.locals,1⟩] 2 4 (ι c.globals) (by simp [Instr.findNow,Instr.sameNow])
 simp only [List.push_toArray,List.cons_append,List.nil_append,Nat.reduceAdd] at u4
 have u5:=Ki W #[⟨ι 2,ι f.locals,0⟩,⟨ι 3,ι f.locals,1⟩,⟨ι 4,ι c.globals,2⟩] 3 5 (ι c.globals) (by simp [Instr.findNow,Instr.sameNow])
 simp only [List.push_toArray,List.cons_append,List.nil_append,Nat.reduceAdd] at u5
 have u6:=Ki W #[⟨ι 2,ι f.locals,0⟩,⟨ι 3,ι f.locals,1⟩,⟨ι 4,ι c.globals,2⟩,⟨ι 5,ι c.globals,3⟩] 4 6 (ι 12) (by simp [Instr.findNow,Instr.sameNow])
 simp only [List.push_toArray,List.cons_append,List.nil_append,Nat.reduceAdd] at u6
 have u7:=Ki W #[⟨ι 2,ι f.locals,0⟩,⟨ι 3,ι f.locals,1⟩,⟨ι 4,ι c.globals,2⟩,⟨ι 5,ι c.globals,3⟩,⟨ι 6,ι 12,4⟩] 5 7 (ι 12) (by simp [Instr.findNow,Instr.sameNow])
 simp only [List.push_toArray,List.cons_append,List.nil_append,Nat.reduceAdd] at u7
 have u8:=Ki W #[⟨ι 2,ι f.locals,0⟩,⟨ι 3,ι f.locals,1⟩,⟨ι 4,ι c.globals,2⟩,⟨ι 5,ι c.globals,3⟩,⟨ι 6,ι 12,4⟩,⟨ι 7,ι 12,5⟩] 6 8 (ι (c.fields.length:Int)) (by simp [Instr.findNow,Instr.sameNow])
 simp only [List.push_toArray,List.cons_append,List.nil_append,Nat.reduceAdd] at u8
 have u9:=Ki W #[⟨ι 2,ι f.locals,0⟩,⟨ι 3,ι f.locals,1⟩,⟨ι 4,ι c.globals,2⟩,⟨ι 5,ι c.globals,3⟩,⟨ι 6,ι 12,4⟩,⟨ι 7,ι 12,5⟩,⟨ι 8,ι (c.fields.length:Int),6⟩] 7 9 (ι (c.funcs.length:Int)) (by simp [Instr.findNow,Instr.sameNow])
 simp only [List.push_toArray,List.cons_append,List.nil_append,Nat.reduceAdd] at u9
 have aF:=Ki W #[⟨ι 2,ι f.locals,0⟩,⟨ι 3,ι f.locals,1⟩,⟨ι 4,ι c.globals,2⟩,⟨ι 5,ι c.globals,3⟩,⟨ι 6,ι 12,4⟩,⟨ι 7,ι 12,5⟩,⟨ι 8,ι (c.fields.length:Int),6⟩,⟨ι 9,ι (c.funcs.length:Int),7⟩] 8 11 (ι (f.code.length:Int)) (by simp [Instr.findNow,Instr.sameNow])
 simp only [List.push_toArray,List.cons_append,List.nil_append,Nat.reduceAdd] at aF
 have aG:=Ki W #[⟨ι 2,ι f.locals,0⟩,⟨ι 3,ι f.locals,1⟩,⟨ι 4,ι c.globals,2⟩,⟨ι 5,ι c.globals,3⟩,⟨ι 6,ι 12,4⟩,⟨ι 7,ι 12,5⟩,⟨ι 8,ι (c.fields.length:Int),6⟩,⟨ι 9,ι (c.funcs.length:Int),7⟩,⟨ι 11,ι (f.code.length:Int),8⟩] 9 12 (ι (f.code.length:Int)) (by simp [Instr.findNow,Instr.sameNow])
 simp only [List.push_toArray,List.cons_append,List.nil_append,Nat.reduceAdd] at aG
 have mk:=Xh6 W
 have aE:=Xpq c f x.op W
 unfold Xbz at aE
 rw [mk]
 simp only [Result.andThen_ok,Oper.upon_value]
 go_wp2_with fail
 all_goals
  clear aE mk u2 u3 u4 u5 u6 u7 u8 u9 aF aG c0 c1 c2 f2 f4 x0 x1
  go_ret
  refine ⟨Za ?_,aD.trans ((Br.alloc (Nr _) _).mono aD.size)⟩
  unfold Zq
  first
   | (rw [if_pos ω])
   | (
    rw [if_neg ω]
    try simp only [beq_iff_eq,beq_eq_false_iff_ne] at *
    cases hl:Jw c f x.op with
    | none=>
     simp only [hl] at *
     first
      | (exfalso;simp at *;done)
      | (rw [if_pos (by assumption)];rw [Bool.eq_iff_iff];simp;try omega)
      | (rw [if_neg (by assumption)];rw [Bool.eq_iff_iff];simp;try omega)
    | some n=>
     simp only [hl] at *
     first
      | (exfalso;simp at *;done)
      | (rw [Bool.eq_iff_iff];simp;try omega))
theorem Xef:Zn 150:=fun _ _=>by kernel_rfl
theorem Xip (c:Cod) (f:Fun) (x:Ins) (cs fs:List Value) (xv:Value) (bc bf B:Nat) (w:World) (hcb:Xo w bc cs) (hfb:Xo w bf fs) (hc:Yj B w (.agg cs.toArray) c) (hf:J4 B w (.agg fs.toArray) f) (hx:Xa3 B w xv x) (hB:B<=w.heap.size) :
  Calls Tryz.prog 150 #[xv,.pointer (some (π bc 0)),.pointer (some (π bf 0))] w fun e w'=>e=.returned (.bool (!Zq c f x))/\Below w.heap.size w w':=by
 have aA:=Xa w (χ #[ι x.op,ι x.a] 124)
 have HC:=Lh (hc.below (aA.mono hB))
 have HF:=Lh (hf.below (aA.mono hB))
 obtain ⟨rfl,aB,ha⟩:=hx
 obtain ⟨fv,gv,h1,-⟩:=hc
 obtain ⟨kv,h2,-⟩:=hf
 simp only [Value.agg.injEq] at h1 h2
 obtain rfl:cs=[fv,ι c.globals,gv]:=by simpa using congrArg Array.toList h1
 obtain rfl:fs=[.string f.name,ι f.params,ι f.locals,.bool f.result,kv]:=by simpa using congrArg Array.toList h2
 clear h1 h2
 have c0:=hcb.alloc (χ #[ι x.op,ι x.a] 124) 0 _ rfl
 have c1:=hcb.alloc (χ #[ι x.op,ι x.a] 124) 1 _ rfl
 have c2:=hcb.alloc (χ #[ι x.op,ι x.a] 124) 2 _ rfl
 have f0:=hfb.alloc (χ #[ι x.op,ι x.a] 124) 0 _ rfl
 have f1:=hfb.alloc (χ #[ι x.op,ι x.a] 124) 1 _ rfl
 have f2:=hfb.alloc (χ #[ι x.op,ι x.a] 124) 2 _ rfl
 have f3:=hfb.alloc (χ #[ι x.op,ι x.a] 124) 3 _ rfl
 have f4:=hfb.alloc (χ #[ι x.op,ι x.a] 124) 4 _ rfl
 clear hcb hfb
 go_enter Tryz.func150,Tryz.ntmps150
 go_wp2_with fail
 refine (Xh2 c _ f _ x _ B _ HC.o HF.o ⟨rfl,aB,ha⟩).mono ?_
 rintro e w' ⟨rfl,hb⟩
 go_wp2
 go_ret
 exact ⟨rfl,Yi hb⟩
def Q4 (c:Cod):Bool:=c.funcs.any fun f=>f.code.any fun x=>!Zq c f x
def Xkn (b:Bool) (w:World) (e:Ending) (w':World):Prop:=∃ i k:Int,e=.returned (.tuple #[ι i,ι k,.bool b])/\Below w.heap.size w w'
theorem Xet {k:Nat} {x:Fun} (hx:c.funcs[k]?=some x) (h:(x.code.any fun y=>!Zq c x y)=true):Q4 c=true:=
 List.any_eq_true.2 ⟨x,Lm hx,h⟩
theorem Xcr (h:∀ (j:Nat) x,j<c.funcs.length->c.funcs[j]?=some x->(x.code.any fun y=>!Zq c x y)=false):Q4 c=false:=by
 unfold Q4
 rw [List.any_eq_false]
 intro x hx
 obtain ⟨i,hi,rfl⟩:=List.getElem_of_mem hx
 rw [h i _ hi (Lg hi)]
 simp
theorem Xqh (h:l.any p=true):0<=Qw p l:=by have:=Kd p l;rw [h] at this;simpa using this
theorem Xql (h:l.any p=false):Qw p l<0:=by have:=Kd p l;rw [h] at this;simpa using this
theorem Xfd (c:Cod) (cv:Value) (B:Nat) (w:World) (hB:B<=w.heap.size) (hc:Yj B w cv c) :
  Calls Tryz.prog 119 #[cv] w (Xkn (Q4 c) w):=by
 have HC:=Lh hc
 obtain ⟨fv,gv,rfl,-,hg,-⟩:=hc
 obtain ⟨ga,aC,rfl,aO,aP,aQ,aK⟩:=hg
 have aM:=Lh aK
 clear aK
 go_enter Tryz.func119,Tryz.ntmps119
 go_wp2_with fail
 go_loopw [11] (fun i wr=>∃ k:Nat,k<=c.funcs.length/\i=ι k/\Below (w.alloc (χ #[fv,ι c.globals,σ ga c.funcs.length aC] 25)).heap.size (w.alloc (χ #[fv,ι c.globals,σ ga c.funcs.length aC] 25)) wr/\Hid (∀ (j:Nat) x,j<k->c.funcs[j]?=some x->(x.code.any fun y=>!Zq c x y)=false)) (fun i _=>c.funcs.length - (intOf i).toNat)
 case atStart=>exact ⟨0,Nat.zero_le _,rfl,Below.refl _ _,fun j x hj=>by omega⟩
 case round=>
  obtain ⟨k,hk,rfl,aH,aD⟩:=hrel
  have aE:=Yi aH
  by_cases aS:k<c.funcs.length
  ·obtain ⟨x,hx⟩:∃ x,c.funcs[k]?=some x:=⟨_,Lg aS⟩
   rcases aM.o with h|⟨b,o,rfl,aN,hE⟩
   ·rw [h] at hx;simp at hx
   have hE:=(hE k x hx).below (aE.mono hB) aN
   obtain ⟨g1,g2,g3,g4,⟨xv,g5,g6⟩,g7,g8,g9⟩:=hE
   have HX:=Lh hx
   have H6:=Lh g6
   obtain ⟨xa,aF,rfl,-,-,-,-⟩:=g6
   clear hx
   have aG:=aE.then (Xa wr (χ #[.string x.name,ι x.params,ι x.locals,.bool x.result,σ xa x.code.length aF] 93))
   have aJ:=(Xb1 aH).alloc (χ #[.string x.name,ι x.params,ι x.locals,.bool x.result,σ xa x.code.length aF] 93)
   have aL:=Lh aJ
   clear aJ
   go_wp2_with fail
   refine (Xcw 150 #[_,_] (fun y=>!Zq c x y) x.code _ B _ Xef (Nt hB aG.size) (H6.o.inss ((Xa _ _).mono (Nt hB aE.size))) ?_).mono ?_
   ·intro y w1 av aA hy
    exact Xip c x y _ _ av _ _ B w1 (aL.o.keep aA) (Xb1 aA) (HC.o.below ((aG.then aA).mono hB)) ⟨_,rfl,(H6.o.inss ((Yi aA).mono (Nt hB aE.size))),g7,g8,g9⟩ hy (Nt hB (aG.then aA).size)
   rintro e w2 ⟨rfl,aA⟩
   cases hd:x.code.any (fun y=>!Zq c x y) with
   | true=>
    have aB:=Lh (Xet HX.o hd)
    have hi:=Xqh hd
    clear hd
    go_wp2_with fail
    go_ret3
    exact ⟨_,_,by rw [aB.o];rfl,aG.then aA⟩
   | false=>
    have aI:Hid (∀ (j:Nat) y,j<k+1->c.funcs[j]?=some y->(y.code.any fun z=>!Zq c y z)=false):=by
     intro j y hj hy
     by_cases aR:j=k
     ·subst aR;obtain rfl:x=y:=by simpa using HX.o.symm.trans hy
      exact hd
     ·exact aD j y ω hy
    have hi:=Xql hd
    clear hd
    go_wp2
    go_roundw
    case rel=>exact ⟨k+1,ω,by go_num,aH.thenA aA,aI⟩
    case measure=>simp [intOf];omega
  ·have aB:=Lh (Xcr (c:=c) (fun j x hj hx=>aD j x ω hx))
   go_wp2_with fail
   go_ret3
   exact ⟨_,_,by rw [aB.o];rfl,aE⟩
noncomputable def Ub (c:Cod):Bool:=U7 c && !Q4 c
theorem Xjb (c:Cod) (cv:Value) (B:Nat) (w:World) (hL:Qa w) (hB:B<=w.heap.size) (hc:Yj B w cv c) :
  Calls Tryz.prog 186 #[cv] w fun e w'=>e=.returned (.bool (Ub c))/\Below w.heap.size w w':=by
 have HC:=Lh hc
 have HL:=Lh hL
 obtain ⟨fv,gv,rfl,-,-,-⟩:=hc
 clear hL
 go_enter Tryz.func186,Tryz.ntmps186
 go_wp2_with fail
 refine (Xea c _ B _ (HL.o.below (Xa _ _)) φ (HC.o.below ((Xa _ _).mono hB))).mono ?_
 rintro e w' ⟨rfl,hb⟩
 have k0:=Zu hb 0 _ rfl
 have k1:=Zu hb 1 _ rfl
 have k2:=Zu hb 2 _ rfl
 cases hh:U7 c with
 | false=>
  have aA:Hid (Ub c=false):=by show _=_;unfold Ub;rw [hh];rfl
  clear hh
  go_wp2
  go_ret
  exact ⟨by rw [aA.o];rfl,Yi hb⟩
 | true=>
  have aA:Hid (Ub c=!Q4 c):=by show _=_;unfold Ub;rw [hh];rfl
  clear hh
  go_wp2_with fail
  refine (Xfd c _ B _ (Nt hB (Yi hb).size) (HC.o.below ((Yi hb).mono hB))).mono ?_
  rintro e w2 ⟨i,k,rfl,aB⟩
  go_wp2
  go_ret
  exact ⟨by rw [aA.o];rfl,(Yi hb).then aB⟩
theorem Xh {B:Nat} {a:World} (h:Below B a w) (n:Nat):Below B a (w.drewN n):=h.trans ⟨rfl,rfl,rfl,Nr _,fun _ _=>rfl⟩
def b2i (b:Bool):Int:=if b then 1 else 0
theorem Xkw (b:Bool) (w:World) :
  Calls Tryz.prog 179 #[.bool b] w fun e w'=>e=.returned (ι (b2i b))/\w'=w:=by
 cases b
 ·go_enter Tryz.func179,Tryz.ntmps179
  go_wp2
  go_ret
  exact ⟨rfl,rfl⟩
 ·go_enter Tryz.func179,Tryz.ntmps179
  go_wp2
  go_ret
  exact ⟨rfl,rfl⟩
def Ya (op:Int):Prop:=15<=op/\op<=25\/op=27\/op=28
instance (op:Int):Decidable (Ya op):=by unfold Ya;exact inferInstance
def Y1 (op:Int):Int:=if op=3\/op=5\/op=12\/op=30\/op=6\/op=14\/op=26\/op=29\/op=31 then 1 else if op=7 then 2 else 0
def Z7 (op:Int):Int:=if op=1\/op=2\/op=4\/op=8\/op=6\/op=14\/op=26\/op=29 then 1 else if op=31 then 2 else 0
def Xi0:List Int:=[0,0,0,1,0,1,1,0,0,1,1,0,1,1,2,0,0,1,0,0,0,0,0,0,1,0,0,0,1,1,0,0,0,0,0,0,0,0,0,0,0,0,0,0,0,0,0,0,0,0,0,0,1,1,0,0,0,0,1,1,1,0,1,2]
def J0:Array Value:=(Xi0.map (Value.int .i64)).toArray
theorem Xk4:∀ k:Nat,k<32->Xi0[k*2]?=some (Y1 k)/\Xi0[k*2+1]?=some (Z7 k):=δ
theorem Xk6 (op:Int) (h0:0<=op) (h1:op<=31):J0[op.toNat*2]?=some (ι (Y1 op))/\J0[op.toNat*2+1]?=some (ι (Z7 op)):=by
 obtain ⟨k,rfl⟩:=Int.eq_ofNat_of_zero_le h0
 obtain ⟨h2,h3⟩:=Xk4 k ω
 unfold J0
 simp only [Int.toNat_natCast,List.getElem?_toArray,List.getElem?_map,h2,h3,Option.map_some]
 trivial
theorem Jh {P:Program} {ops:Array Oper} {rest:List Oper} {o:Oper} {a:Act} {Q:Exit->Act->World->Prop} (hg:o.guard=none) (t:TypeId) (parts:Array (Nat×Operand)) (ho:o.op=.build t parts)
  (cells:Array Value) (hf:P.built t (parts.map fun (i,x)=>(i,a.eval x)).toList=some cells)
  (h:wpList P ops Q rest (a.put o.dst (.agg cells)) w):wpList P ops Q (o::rest) a w:=by
 refine wpList_build hg t parts ho (by rw [hf];rfl) ?_
 rw [hf]
 exact h
theorem Xai (W:World) (n:Nat) (c:Array Value) (hn:n=W.heap.size) (hc:c.size=64):(storeCells (π n 0) J0.toList 0).run Tryz.prog (W.alloc (χ c 214))=.ok () (W.alloc (χ J0 214)):=by
 subst hn
 exact run_storeCells_new W 214 c J0 κ (by rw [hc];rfl) κ
def Je (c:Cod) (a:Int):Option Fun:=c.funcs[a.toNat]?
def Xm (c:Cod) (f:Fun) (x:Ins):Int:=
 if x.op=9 then (match Je c x.a with|some g=>g.params|none=>0) else if x.op=10 then b2i f.result else if Ya x.op then 2 else Y1 x.op
def Xj (c:Cod) (f:Fun) (x:Ins):Int:=
 if x.op=9 then (match Je c x.a with|some g=>b2i g.result|none=>0) else if x.op=10 then 0 else if Ya x.op then 1 else Z7 x.op
theorem Xle (c:Cod) (cv:Value) (f:Fun) (fv:Value) (x:Ins) (xv:Value) (B:Nat) (w:World) (hB:B<=w.heap.size) (hc:Yj B w cv c) (hf:J4 B w fv f) (hx:Xa3 B w xv x) (h1:1<=x.op) (h2:x.op<=31) (hr:x.op=10) :
  Calls Tryz.prog 155 #[cv,fv,xv] w fun e w'=>e=.returned (.tuple #[ι (Xm c f x),ι (Xj c f x)])/\Below w.heap.size w w':=by
 obtain ⟨fv,gv,rfl,aE,aF,aM⟩:=hc
 obtain ⟨kv,rfl,hk,hn,hp,aO⟩:=hf
 obtain ⟨rfl,aP,ha⟩:=hx
 obtain ⟨fa,aC,rfl,aL,-,-,-⟩:=aE
 obtain ⟨ga,aD,rfl,aG,aH,aI,aB⟩:=aF
 obtain ⟨ka,aJ,rfl,aN,-,-,-⟩:=hk
 have aK:=Lh aB
 clear aB
 unfold in64 at *
 have e1:(x.op == 9)=false:=by rw [hr];rfl
 have e2:(x.op == 10)=true:=by rw [hr];rfl
 have aA:Hid (Xm c f x=b2i f.result/\Xj c f x=0):=by
  constructor
  ·unfold Xm;rw [if_neg ω,if_pos hr]
  ·unfold Xj;rw [if_neg ω,if_pos hr]
 clear hr
 go_enter Tryz.func155,Tryz.ntmps155
 go_wp2_with (with_reducible refine Jh (o:=⟨some 25,_,_,_,_,_⟩) rfl 214 _ rfl J0 κ ?_)
 rw [Xai]
 rotate_left
 ·simp
 ·rfl
 simp only [Result.andThen_ok,Oper.upon_skip]
 go_wp2_with fail
 refine (Xkw _ _).mono ?_
 rintro e w' ⟨rfl,rfl⟩
 go_wp2_with fail
 go_ret2
 exact ⟨by rw [aA.o.1,aA.o.2];rfl,(((Br.alloc (Nr _) _).alloc ψ _).alloc φ _).alloc φ _⟩
theorem Xlr (c:Cod) (cv:Value) (f:Fun) (fv:Value) (x:Ins) (xv:Value) (B:Nat) (w:World) (hB:B<=w.heap.size) (hc:Yj B w cv c) (hf:J4 B w fv f) (hx:Xa3 B w xv x) (h1:1<=x.op) (h2:x.op<=31) (hr:Ya x.op) :
  Calls Tryz.prog 155 #[cv,fv,xv] w fun e w'=>e=.returned (.tuple #[ι (Xm c f x),ι (Xj c f x)])/\Below w.heap.size w w':=by
 obtain ⟨fv,gv,rfl,aE,aF,aM⟩:=hc
 obtain ⟨kv,rfl,hk,hn,hp,aO⟩:=hf
 obtain ⟨rfl,aP,ha⟩:=hx
 obtain ⟨fa,aC,rfl,aL,-,-,-⟩:=aE
 obtain ⟨ga,aD,rfl,aG,aH,aI,aB⟩:=aF
 obtain ⟨ka,aJ,rfl,aN,-,-,-⟩:=hk
 have aK:=Lh aB
 clear aB
 unfold in64 at *
 unfold Ya at hr
 have e1:(x.op == 9)=false:=by simp;omega
 have e2:(x.op == 10)=false:=by simp;omega
 have aA:Hid (Xm c f x=2/\Xj c f x=1):=by
  constructor
  ·unfold Xm;rw [if_neg ω,if_neg ω,if_pos (by unfold Ya;exact hr)]
  ·unfold Xj;rw [if_neg ω,if_neg ω,if_pos (by unfold Ya;exact hr)]
 go_enter Tryz.func155,Tryz.ntmps155
 go_wp2_with (with_reducible refine Jh (o:=⟨some 25,_,_,_,_,_⟩) rfl 214 _ rfl J0 κ ?_)
 rw [Xai]
 rotate_left
 ·simp
 ·rfl
 simp only [Result.andThen_ok,Oper.upon_skip]
 go_wp2_with fail
 all_goals first
  | (exfalso;simp only [beq_iff_eq,beq_eq_false_iff_ne] at *;omega)
  | (go_ret2;exact ⟨by rw [aA.o.1,aA.o.2];rfl,(((Br.alloc (Nr _) _).alloc ψ _).alloc φ _).alloc φ _⟩)
theorem Xlu (c:Cod) (cv:Value) (f:Fun) (fv:Value) (x:Ins) (xv:Value) (B:Nat) (w:World) (hB:B<=w.heap.size) (hc:Yj B w cv c) (hf:J4 B w fv f) (hx:Xa3 B w xv x) (h1:1<=x.op) (h2:x.op<=31) (hr:¬Ya x.op) (hr2:x.op≠9) (hr3:x.op≠10) :
  Calls Tryz.prog 155 #[cv,fv,xv] w fun e w'=>e=.returned (.tuple #[ι (Xm c f x),ι (Xj c f x)])/\Below w.heap.size w w':=by
 obtain ⟨fv,gv,rfl,aJ,aK,aR⟩:=hc
 obtain ⟨kv,rfl,hk,hn,hp,aT⟩:=hf
 obtain ⟨rfl,aU,ha⟩:=hx
 obtain ⟨fa,aC,rfl,aQ,-,-,-⟩:=aJ
 obtain ⟨ga,aD,rfl,aL,aM,aN,aH⟩:=aK
 obtain ⟨ka,aG,rfl,aS,-,-,-⟩:=hk
 have aO:=Lh aH
 clear aH
 unfold in64 at *
 have aA:Hid (Xm c f x=Y1 x.op/\Xj c f x=Z7 x.op):=by
  constructor
  ·unfold Xm;rw [if_neg hr2,if_neg hr3,if_neg hr]
  ·unfold Xj;rw [if_neg hr2,if_neg hr3,if_neg hr]
 unfold Ya at hr
 have e1:(x.op == 9)=false:=by simp;omega
 have e2:(x.op == 10)=false:=by simp;omega
 have e3:(x.op == 27)=false:=by simp;omega
 have e4:(x.op == 28)=false:=by simp;omega
 have hT:=Xk6 x.op ω h2
 obtain ⟨p,aE⟩:∃ p,Y1 x.op=p:=⟨_,rfl⟩
 obtain ⟨q,aF⟩:∃ q,Z7 x.op=q:=⟨_,rfl⟩
 have aA:Hid (Xm c f x=p/\Xj c f x=q):=by rw [<-aE,<- aF];exact aA
 rw [aE,aF] at hT
 have HT:=Lh hT
 clear hT aE aF
 go_enter Tryz.func155,Tryz.ntmps155
 go_wp2_with (with_reducible refine Jh (o:=⟨some 25,_,_,_,_,_⟩) rfl 214 _ rfl J0 κ ?_)
 rw [Xai]
 rotate_left
 ·simp
 ·rfl
 simp only [Result.andThen_ok,Oper.upon_skip]
 obtain ⟨W,hW⟩:∃ W,W=(((w.alloc (χ (Bc fa aC ga aD c) 25)).alloc (χ #[.string f.name,ι f.params,ι f.locals,.bool f.result,σ ka f.code.length aG] 93)).alloc (χ #[ι x.op,ι x.a] 124)):=⟨_,rfl⟩
 have aB:W.heap.size=w.heap.size+1+1+1:=by rw [hW];simp
 have aI:Below w.heap.size w W:=by rw [hW];exact ((Br.alloc (Nr _) _).alloc ψ _).alloc φ _
 have x0:(W.alloc (χ J0 214)).cell? (π (w.heap.size+1+1) 0)=some (ι x.op):=by
  rw [World.cell?_alloc_past]
  ·rw [hW,c3c];rfl
  ·omega
 have t0:(W.alloc (χ J0 214)).cell? (π (w.heap.size+1+1+1) (x.op.toNat*2))=some (ι p):=by
  rw [World.cell?_alloc_at _ _ _ _ aB.symm];exact HT.o.1
 have t1:(W.alloc (χ J0 214)).cell? (π (w.heap.size+1+1+1) (x.op.toNat*2+1))=some (ι q):=by
  rw [World.cell?_alloc_at _ _ _ _ aB.symm];exact HT.o.2
 rw [<-hW]
 have HW:=Lh hW
 have aP:=Lh aB
 clear hW aB
 go_wp2_with fail
 all_goals first
  | (exfalso;simp only [beq_iff_eq,beq_eq_false_iff_ne] at *;omega)
  | skip
 all_goals go_quiet (fail)
 all_goals (go_wp2_with fail)
 all_goals
  go_ret2
  exact ⟨by rw [aA.o.1,aA.o.2];rfl,Xh (aI.then (Xa _ _)) _⟩
theorem Xi8 (c:Cod) (cv:Value) (f:Fun) (fv:Value) (x:Ins) (xv:Value) (B:Nat) (w:World) (hB:B<=w.heap.size) (hc:Yj B w cv c) (hf:J4 B w fv f) (hx:Xa3 B w xv x) (h1:1<=x.op) (h2:x.op<=31) (hr:x.op=9) (hr2:0<=x.a) (hr3:x.a<c.funcs.length) :
  Calls Tryz.prog 155 #[cv,fv,xv] w fun e w'=>e=.returned (.tuple #[ι (Xm c f x),ι (Xj c f x)])/\Below w.heap.size w w':=by
 obtain ⟨fv,gv,rfl,aK,aL,aR⟩:=hc
 obtain ⟨kv,rfl,hk,hn,hp,aT⟩:=hf
 obtain ⟨rfl,aU,ha⟩:=hx
 obtain ⟨fa,aC,rfl,aQ,-,-,-⟩:=aK
 obtain ⟨ga,aA,rfl,aM,aN,aO,aG⟩:=aL
 obtain ⟨ka,aD,rfl,aS,-,-,-⟩:=hk
 have aJ:=Lh aG
 clear aG
 unfold in64 at *
 obtain ⟨n,aH⟩:=Int.eq_ofNat_of_zero_le hr2
 have aP:n<c.funcs.length:=ω
 obtain ⟨g,hg⟩:∃ g,c.funcs[n]?=some g:=⟨_,Lg aP⟩
 have aB:Hid (Xm c f x=g.params/\Xj c f x=b2i g.result):=by
  have:Je c x.a=some g:=by unfold Je;rw [aH];exact hg
  constructor
  ·unfold Xm;rw [if_pos hr,this]
  ·unfold Xj;rw [if_pos hr,this]
 rcases aJ.o with h|⟨b,o,rfl,aF,hE⟩
 ·rw [h] at hg;simp at hg
 have hE:=(hE n g hg).below ((Below.refl B w)) aF
 have e1:(x.op == 9)=true:=by rw [hr];rfl
 obtain ⟨aI,xa⟩:=x
 simp only at *
 subst aH
 have HR:=Lh hr
 clear hr
 go_enter Tryz.func155,Tryz.ntmps155
 go_wp2_with (with_reducible refine Jh (o:=⟨some 25,_,_,_,_,_⟩) rfl 214 _ rfl J0 κ ?_)
 rw [Xai]
 rotate_left
 ·simp
 ·rfl
 simp only [Result.andThen_ok,Oper.upon_skip]
 obtain ⟨W,hW⟩:∃ W,W=((((w.alloc (χ #[σ fa c.fields.length aC,ι c.globals,σ (some (π b o)) c.funcs.length aA] 25)).alloc (χ #[.string f.name,ι f.params,ι f.locals,.bool f.result,σ ka f.code.length aD] 93)).alloc (χ #[ι aI,ι (n:Int)] 124)).alloc (χ J0 214)):=⟨_,rfl⟩
 have aE:Below w.heap.size w W:=by rw [hW];exact (((Br.alloc (Nr _) _).alloc ψ _).alloc φ _).alloc φ _
 obtain ⟨-,q1,-,q3,-⟩:=hE.below (aE.mono hB) aF
 have x0:W.cell? (π (w.heap.size+1+1) 0)=some (ι aI):=by
  rw [hW,World.cell?_alloc_past]
  ·rw [c3c];rfl
  ·simp
 have x1:W.cell? (π (w.heap.size+1+1) 1)=some (ι (n:Int)):=by
  rw [hW,World.cell?_alloc_past]
  ·rw [c3c];rfl
  ·simp
 have c2:W.cell? (π w.heap.size 2)=some (σ (some (π b o)) c.funcs.length aA):=by
  rw [hW,World.cell?_alloc_past]
  ·rw [c3a];rfl
  ·simp;omega
 rw [<-hW]
 have HW:=Lh hW
 have HE:=Lh hE
 clear hW hE hg
 go_wp2_with fail
 go_quiet ((go_at_call 179;exact Calls.quiet_of_same (Xkw _ _)))
 go_wp2_with fail
 go_ret2
 exact ⟨by rw [aB.o.1,aB.o.2];rfl,Xh aE _⟩
theorem Xlv (c:Cod) (cv:Value) (f:Fun) (fv:Value) (x:Ins) (xv:Value) (B:Nat) (w:World) (hB:B<=w.heap.size) (hc:Yj B w cv c) (hf:J4 B w fv f) (hx:Xa3 B w xv x) (h1:1<=x.op) (h2:x.op<=31) (hcall:x.op=9->0<=x.a/\x.a<c.funcs.length) :
  Calls Tryz.prog 155 #[cv,fv,xv] w fun e w'=>e=.returned (.tuple #[ι (Xm c f x),ι (Xj c f x)])/\Below w.heap.size w w':=by
 by_cases h9:x.op=9
 ·exact Xi8 c cv f fv x xv B w hB hc hf hx h1 h2 h9 (hcall h9).1 (hcall h9).2
 ·by_cases aA:x.op=10
  ·exact Xle c cv f fv x xv B w hB hc hf hx h1 h2 aA
  ·by_cases ht:Ya x.op
   ·exact Xlr c cv f fv x xv B w hB hc hf hx h1 h2 ht
   ·exact Xlu c cv f fv x xv B w hB hc hf hx h1 h2 ht h9 aA
