/- Contracts of package bytecode: head, operand, wrong, moves, heights, Check, Heights. Contracts of package bytecode: operand, wrong. Contracts of package bytecode: wrong, formed. -/
import Derived.Test.YtbmeoklmachjpaaGreatDoorLex
set_option maxHeartbeats 1000000
set_option maxRecDepth 100000
set_option linter.unusedVariables false
set_option linter.unusedSimpArgs false
namespace Go.Proofs.YtbmeoklmachjpaaGreatDoor
open Go.RowKit
theorem Xbv:Zn 107:=fun _ _=>by kernel_rfl
theorem Xfr:Zn 109:=fun _ _=>by kernel_rfl
theorem Xma (n:Int) (w:World) :
  Calls Tryz.prog 107 #[.int .i64 n] w fun e w'=>e=.returned (.bool (decide (n<0∨12<n)))∧w=w':=by
 go_enter Tryz.func107,Tryz.ntmps107
 go_wp2
 all_goals (go_ret;exact ⟨Za (by simp;try omega),rfl⟩)
theorem Xla (nm nm2:ByteArray) (p l r c:Value) (b:Nat) (w:World) (hb:b<w.heap.size) (h:w.cell? ⟨b,0,none⟩=some (.string nm2)) :
  Calls Tryz.prog 109 #[.agg #[.string nm,p,l,r,c],.pointer (some ⟨b,0,none⟩)] w fun e w'=>e=.returned (.bool (Zt nm nm2))∧Below w.heap.size w w':=by
 have h':(w.alloc (.cells #[.string nm,p,l,r,c] 75)).cell? ⟨b,0,none⟩=some (.string nm2):=by rw [World.cell?_alloc_past _ _ _ hb];exact h
 go_enter Tryz.func109,Tryz.ntmps109
 go_wp2
 go_ret
 exact ⟨rfl,(Below.refl _ _).alloc (Nat.le_refl _) _⟩
def Zr (x:Fun):Prop:=0≤x.params∧x.params≤6∧x.params≤x.locals∧x.locals≤100∧1≤x.code.length∧x.code.length≤1048576
/-- the head of function i -/
def Xbh (c:Cod) (i:Nat) (x:Fun):Prop:=Uz x.name=true∧Zr x∧(c.funcs.take i).any (fun g=>Zt g.name x.name)=false
/-- a code has a right head -/
def Xcs (c:Cod):Prop:=c.fields.length≤12∧c.fields.any (fun n=>decide (n<0∨12<n))=false∧0≤c.globals∧c.globals≤8∧c.funcs.length≤40∧∀ i x,c.funcs[i]?=some x→Xbh c i x
noncomputable def U7 (c:Cod):Bool:=@decide (Xcs c) (Classical.propDecidable _)
theorem K6 {c:Cod} (h:Xcs c):U7 c=true:=by unfold U7;exact @decide_eq_true _ (Classical.propDecidable _) h
theorem Zc {c:Cod} (h:¬Xcs c):U7 c=false:=by unfold U7;exact @decide_eq_false _ (Classical.propDecidable _) h
theorem Xhh (w:World):∀ (x:Int) (w1:World) (av:Value),Below w.heap.size w w1→Xlj 0 w1 av x→Calls Tryz.prog 107 (#[av]++#[]) w1 (fun e w2=>e=.returned (.bool (decide (x<0∨12<x)))∧Below w1.heap.size w1 w2):=by
 rintro x w1 av _ ⟨rfl,_⟩
 exact (Xma x w1).mono fun e w2 ⟨he,hw⟩=>⟨he,hw▸Below.refl _ _⟩
theorem Xm6 (nm:ByteArray) (b:Nat) (B:Nat) (w:World) (hb:b<w.heap.size) (h:w.cell? ⟨b,0,none⟩=some (.string nm)):∀ (x:Fun) (w1:World) (av:Value),Below w.heap.size w w1→J4 B w1 av x→Calls Tryz.prog 109 (#[av]++#[.pointer (some ⟨b,0,none⟩)]) w1 (fun e w2=>e=.returned (.bool (Zt x.name nm))∧Below w1.heap.size w1 w2):=by
 rintro x w1 av hb1 ⟨cv,rfl,_⟩
 exact Xla x.name nm _ _ _ _ b w1 (by have:=hb1.size;omega) (by rw [hb1.cell (p:=⟨b,0,none⟩) hb];exact h)
theorem Xea (c:Cod) (cv:Value) (B:Nat) (w:World) (hL:Qa w) (hB:B≤w.heap.size) (hc:Yj B w cv c) :
  Calls Tryz.prog 78 #[cv] w fun e w'=>e=.returned (.bool (U7 c))∧Below w.heap.size w w':=by
 obtain ⟨fv,gv,rfl,hf,hg,hgl⟩:=hc
 have HL:=Lh hL
 have HF:=Lh hf
 obtain ⟨fa,fcap,rfl,hfl,_,_,_⟩:=hf
 obtain ⟨ga,gcap,rfl,hgl2,hgl3,hgl4,hgE⟩:=hg
 have HGE:=Lh hgE
 clear hL hgE
 unfold in64 at hgl
 by_cases h1:c.fields.length≤12
 ·have hb0:Below B w (w.alloc (.cells #[.slice fa c.fields.length fcap,.int .i64 c.globals,.slice ga c.funcs.length gcap] 25)):=(Below.refl _ _).alloc hB _
  have HF:=Lh (HF.out.ints hb0)
  cases h2:c.fields.any (fun n=>decide (n<0∨12<n)) with
  | true=>
   have hfin:=Lh (Zc (c:=c) (fun h=>by rw [h.2.1] at h2;cases h2))
   have H2:=Lh h2
   clear h2
   go_enter Tryz.func78,Tryz.ntmps78
   go_wp2_with fail
   refine (Y3 107 #[] _ c.fields _ B _ Xbv (by simp;omega) HF.out (Xhh _)).mono ?_
   rintro e w' ⟨rfl,hb⟩
   rw [H2.out]
   go_wp2_with fail
   go_ret
   exact ⟨by rw [hfin.out];rfl,Yi hb⟩
  | false=>
   have H2:=Lh h2
   clear h2
   have hno:Hid (¬(0≤c.globals∧c.globals≤8∧c.funcs.length≤40)→U7 c=false):=fun h=>Zc (c:=c) (fun h'=>h ⟨h'.2.2.1,h'.2.2.2.1,h'.2.2.2.2.1⟩)
   go_enter Tryz.func78,Tryz.ntmps78
   go_wp2_with fail
   refine (Y3 107 #[] _ c.fields _ B _ Xbv (by simp;omega) HF.out (Xhh _)).mono ?_
   rintro e w' ⟨rfl,hb⟩
   rw [H2.out]
   have k1:=Zu hb 1 _ rfl
   have k2:=Zu hb 2 _ rfl
   by_cases h3:0≤c.globals∧c.globals≤8∧c.funcs.length≤40
   ·obtain ⟨h4,h5,h6⟩:=h3
    have e1:decide (c.globals<0)=false:=by simp;omega
    have e2:decide (8<c.globals)=false:=by simp;omega
    have e3:decide (40<(c.funcs.length:Int))=false:=by simp;omega
    go_wp2_with fail
    go_loopw [33] (fun i wr=>∃ k:Nat,k≤c.funcs.length∧i=.int .i64 k∧Below w'.heap.size w' wr∧Hid (∀ j x,j<k→c.funcs[j]?=some x→Xbh c j x)) (fun i _=>c.funcs.length - (intOf i).toNat)
    case atStart=>exact ⟨0,Nat.zero_le _,rfl,Below.refl _ _,fun j x hj=>by omega⟩
    case round=>
     obtain ⟨k,hk,rfl,hbr,hall⟩:=hrel
     have hbw:=(Yi hb).trans (hbr.mono (Yi hb).size)
     have k1':=Xc hbr k1
     have k2':=Xc hbr k2
     by_cases hlt:k<c.funcs.length
     ·obtain ⟨x,hx⟩:∃ x,c.funcs[k]?=some x:=⟨_,List.getElem?_eq_getElem hlt⟩
      rcases HGE.out with h|⟨b,o,rfl,hbB,hE⟩
      ·rw [h] at hx;simp at hx
      have HE:=Lh hE
      have hE:=(hE k x hx).below (hbw.mono hB) hbB
      obtain ⟨g1,g2,g3,g4,⟨xv,g5,g6⟩,g7,g8,g9⟩:=hE
      obtain ⟨xa,xcap,rfl,g10,_,_,_⟩:=g6
      have HX:=Lh hx
      clear hx
      unfold in64 at g8 g9
      clear k1 k2
      go_wp2_with fail
      refine (Xir _ _ (HL.out.below (hbw.trans (((Below.refl _ _).alloc (Nat.le_refl _) _).mono hbw.size))) g7).mono ?_
      rintro e w2 ⟨rfl,hb2⟩
      have hb3:=hbw.trans ((Yi hb2).mono hbw.size)
      have hbr3:=hbr.trans ((Yi hb2).mono hbr.size)
      have q0:=Zu hb2 0 _ rfl
      have q1:=Zu hb2 1 _ rfl
      have q2:=Zu hb2 2 _ rfl
      have q4:=Zu hb2 4 _ rfl
      have k2'':=keepA hb2 k2'
      clear k1' k2' g1 g2 g3 g4 g5
      cases hn:Uz x.name with
      | false=>
       have hfin:=Lh (Zc (c:=c) (fun h=>by rw [(h.2.2.2.2.2 k x HX.out).1] at hn;cases hn))
       clear hn
       go_wp2_with fail
       go_ret
       exact ⟨by rw [hfin.out];rfl,hb3⟩
      | true=>
       have HN:=Lh hn
       clear hn
       by_cases hok:Zr x
       ·have HOK:=Lh hok
        obtain ⟨o1,o2,o3,o4,o5,o6⟩:=hok
        have d1:decide (x.params<0)=false:=by simp;omega
        have d2:decide (6<x.params)=false:=by simp;omega
        have d3:decide (x.locals<x.params)=false:=by simp;omega
        have d4:decide (100<x.locals)=false:=by simp;omega
        have d5:decide ((x.code.length:Int)<1)=false:=by simp;omega
        have d6:decide (1048576<(x.code.length:Int))=false:=by simp;omega
        have HS:=Lh (Xf.take (cap:=gcap) (E:=Zl B) k hk hgl2 hgl3 hgl4 hbB (fun i y hy=>(HE.out i y hy).below (hb3.mono hB) hbB))
        go_wp2_with fail
        refine (Ui 109 #[_] _ _ _ B _ Xfr (Nat.le_trans hB hb3.size) HS.out (Xm6 x.name wr.heap.size B _ (Bl q0) q0)).mono ?_
        rintro e w4 ⟨rfl,hb4⟩
        have hb5:=hb3.trans (hb4.mono hb3.size)
        have hbr5:=hbr3.trans (hb4.mono hbr3.size)
        cases hd:(c.funcs.take k).any (fun y=>Zt y.name x.name) with
        | true=>
         have hfin:=Lh (Zc (c:=c) (fun h=>by rw [(h.2.2.2.2.2 k x HX.out).2.2] at hd;cases hd))
         clear hd
         go_wp2_with fail
         go_ret
         exact ⟨by rw [hfin.out];rfl,hb5⟩
        | false=>
         have hnew:Hid (∀ j y,j<k+1→c.funcs[j]?=some y→Xbh c j y):=by
          intro j y hj hy
          by_cases hjk:j=k
          ·subst hjk;obtain rfl:x=y:=by simpa using HX.out.symm.trans hy
           exact ⟨HN.out,HOK.out,hd⟩
          ·exact hall j y (by omega) hy
         clear hd
         go_wp2_with fail
         go_roundw
         case rel=>exact ⟨k+1,by omega,by go_num,hbr5,hnew⟩
         case measure=>simp [intOf];omega
       ·have hno2:=Lh (Zc (c:=c) (fun h=>hok (h.2.2.2.2.2 k x HX.out).2.1))
        go_wp2_with fail
        all_goals first
         | (exfalso;apply hok;unfold Zr;omega)
         | (go_ret;exact ⟨by rw [hno2.out];rfl,hb3⟩)
     ·have hfin:=Lh (K6 (c:=c) ⟨h1,H2.out,h4,h5,h6,fun i x hx=>hall i x (by have:=(Ll hx);omega) hx⟩)
      go_wp2_with fail
      go_ret
      exact ⟨by rw [hfin.out];rfl,hbw⟩
   ·go_wp2_with fail
    all_goals
     go_ret
     exact ⟨by rw [hno.out (by omega)];rfl,Yi hb⟩
 ·have hfin:=Lh (Zc (c:=c) (fun h=>h1 h.1))
  go_enter Tryz.func78,Tryz.ntmps78
  go_wp2_with fail
  go_ret
  exact ⟨by rw [hfin.out];rfl,(Below.refl _ _).alloc (Nat.le_refl _) _⟩
/-- the limit of an operand; none if the instruction has no such operand -/
def Jw (c:Cod) (f:Fun) (op:Int):Option Int:=if op=2 then some f.locals else if op=3 then some f.locals else if op=4 then some c.globals else if op=5 then some c.globals else if op=6 then some 12 else if op=7 then some 12 else if op=8 then some (c.fields.length:Int) else if op=9 then some (c.funcs.length:Int) else if op=11 then some (f.code.length:Int) else if op=12 then some (f.code.length:Int) else none
/-- an instruction is right -/
def Zq (c:Cod) (f:Fun) (x:Ins):Bool:=
 if x.op<1∨31<x.op then false else match Jw c f x.op with
 | some n=>decide (0≤x.a∧x.a<n)
 | none=>if x.op=1 then decide (-1099511627776≤x.a∧x.a≤1099511627776) else decide (x.a=0)
theorem c3a (w:World) (A:Array Value) (T:TypeId) (B C:Obj) (j:Nat):(((w.alloc (.cells A T)).alloc B).alloc C).cell? ⟨w.heap.size,j,none⟩=A[j]?:=by
 rw [World.cell?_alloc_past,World.cell?_alloc_past,Y5]<;>(simp;try omega)
theorem c3b (w:World) (A:Obj) (B:Array Value) (T:TypeId) (C:Obj) (j:Nat):(((w.alloc A).alloc (.cells B T)).alloc C).cell? ⟨w.heap.size+1,j,none⟩=B[j]?:=by
 rw [World.cell?_alloc_past,World.cell?_alloc_at]<;>simp
theorem c3c (w:World) (A B:Obj) (C:Array Value) (T:TypeId) (j:Nat):(((w.alloc A).alloc B).alloc (.cells C T)).cell? ⟨w.heap.size+1+1,j,none⟩=C[j]?:=by
 rw [World.cell?_alloc_at];simp
theorem Ki (W:World) (es:Array MapEntry) (clock:Nat) (k:Int) (v:Value) (h:Instr.findNow (.int .i64) (.int .i64 k) es.toList 0=some none) :
  (Instr.mapUpdate 175 (.map (some W.heap.size)) (.int .i64 k) v).run Tryz.prog (W.alloc (.map es clock))=.ok () (W.alloc (.map (es.push ⟨.int .i64 k,v,clock⟩) (clock+1))):=by
 have hb:(W.alloc (.map es clock)).heap[W.heap.size]?=some (.map es clock):=heap_alloc_new _ _
 have hset:∀ o,({ W.alloc (.map es clock) with heap:=(W.alloc (.map es clock)).heap.setIfInBounds W.heap.size o }:World)=W.alloc o:=by
  intro o
  have:(W.heap.push (.map es clock)).setIfInBounds W.heap.size o=W.heap.push o:=by
   apply Array.ext_getElem?
   intro i
   rw [Array.getElem?_setIfInBounds,Array.getElem?_push,Array.getElem?_push]
   by_cases hi:W.heap.size=i
   ·subst hi;simp
   ·rw [if_neg hi,if_neg (fun h=>hi h.symm),if_neg (fun h=>hi h.symm)]
  show ({ W with heap:=(W.heap.push (.map es clock)).setIfInBounds W.heap.size o }:World)=_
  rw [this]
  rfl
 simp [Instr.mapUpdate,run_underlying Tryz.underlying175,MapKept.run_getObj_map hb,MapKept.run_checkKey Tryz.underlying3 (k:=.int .i64 k) rfl,MapKept.run_findKey Tryz.underlying3 h,MapKept.run_setObj_map _ hb,Result.andThen]
 exact hset _
theorem Xrb (W:World) (es:Array MapEntry) (clock:Nat) (k:Int) (r:Option (Nat×Value)) (h:Instr.findNow (.int .i64) (.int .i64 k) es.toList 0=some r) :
  (Instr.lookup 175 (.map (some W.heap.size)) (.int .i64 k) true).run Tryz.prog (W.alloc (.map es clock))=.ok (.tuple #[match r with|some (_,v)=>v|none=>.int .i64 0,.bool r.isSome]) (W.alloc (.map es clock)):=by
 have hb:(W.alloc (.map es clock)).heap[W.heap.size]?=some (.map es clock):=heap_alloc_new _ _
 cases r with
 | none=>simp [Instr.lookup,run_underlying Tryz.underlying175,MapKept.run_getObj_map hb,MapKept.run_checkKey Tryz.underlying3 (k:=.int .i64 k) rfl,MapKept.run_findKey Tryz.underlying3 h,Result.andThen,Tryz.zeroValue3]
 | some r=>simp [Instr.lookup,run_underlying Tryz.underlying175,MapKept.run_getObj_map hb,MapKept.run_checkKey Tryz.underlying3 (k:=.int .i64 k) rfl,MapKept.run_findKey Tryz.underlying3 h,Result.andThen]
def Xbz (c:Cod) (f:Fun):Array MapEntry:=#[⟨.int .i64 2,.int .i64 f.locals,0⟩,⟨.int .i64 3,.int .i64 f.locals,1⟩,⟨.int .i64 4,.int .i64 c.globals,2⟩,⟨.int .i64 5,.int .i64 c.globals,3⟩,⟨.int .i64 6,.int .i64 12,4⟩,⟨.int .i64 7,.int .i64 12,5⟩,⟨.int .i64 8,.int .i64 (c.fields.length:Int),6⟩,⟨.int .i64 9,.int .i64 (c.funcs.length:Int),7⟩,⟨.int .i64 11,.int .i64 (f.code.length:Int),8⟩,⟨.int .i64 12,.int .i64 (f.code.length:Int),9⟩]
theorem Xnb (c:Cod) (f:Fun) (op:Int):∃ r,Instr.findNow (.int .i64) (.int .i64 op) (Xbz c f).toList 0=some r∧r.map (·.2)=(Jw c f op).map (.int .i64):=by
 simp only [Xbz,Instr.findNow,Instr.sameNow]
 unfold Jw
 by_cases h2:op=2
 ·subst h2;simp
 by_cases h3:op=3
 ·subst h3;simp
 by_cases h4:op=4
 ·subst h4;simp
 by_cases h5:op=5
 ·subst h5;simp
 by_cases h6:op=6
 ·subst h6;simp
 by_cases h7:op=7
 ·subst h7;simp
 by_cases h8:op=8
 ·subst h8;simp
 by_cases h9:op=9
 ·subst h9;simp
 by_cases h11:op=11
 ·subst h11;simp
 by_cases h12:op=12
 ·subst h12;simp
 have:∀ n,op≠n→(op == n)=false:=fun n h=>by simpa using h
 simp [this _ h2,h2,this _ h3,h3,this _ h4,h4,this _ h5,h5,this _ h6,h6,this _ h7,h7,this _ h8,h8,this _ h9,h9,this _ h11,h11,this _ h12,h12]
theorem Xh6 (W:World):(Instr.makeMap 175 none).run Tryz.prog W=.ok (.map (some W.heap.size)) (W.alloc (.map #[] 0)):=by simp [Instr.makeMap]
theorem Xpq (c:Cod) (f:Fun) (op:Int) (W:World) :
  (Instr.lookup 175 (.map (some W.heap.size)) (.int .i64 op) true).run Tryz.prog (W.alloc (.map (Xbz c f) 10)) =
   .ok (.tuple #[.int .i64 ((Jw c f op).getD 0),.bool (Jw c f op).isSome]) (W.alloc (.map (Xbz c f) 10)):=by
 obtain ⟨r,h,hr⟩:=Xnb c f op
 rw [Xrb W (Xbz c f) 10 op r h]
 cases r with
 | none=>cases hl:Jw c f op with
  | none=>rfl
  | some n=>rw [hl] at hr;cases hr
 | some r=>cases hl:Jw c f op with
  | none=>rw [hl] at hr;cases hr
  | some n=>rw [hl] at hr;simp at hr;simp [hr]
theorem Xh2 (c:Cod) (cv:Value) (f:Fun) (fv:Value) (x:Ins) (xv:Value) (B:Nat) (w:World) (hc:Yj B w cv c) (hf:J4 B w fv f) (hx:Xa3 B w xv x) :
  Calls Tryz.prog 119 #[cv,fv,xv] w fun e w'=>e=.returned (.bool (Zq c f x))∧Below w.heap.size w w':=by
 obtain ⟨fv,gv,rfl,hcf,hcg,hgl⟩:=hc
 obtain ⟨kv,rfl,hk,hn,hp,hlo⟩:=hf
 obtain ⟨rfl,hop,ha⟩:=hx
 obtain ⟨fa,fcap,rfl,hfl,-,-,-⟩:=hcf
 obtain ⟨ga,gcap,rfl,hgl2,hgl3,hgl4,hgE⟩:=hcg
 obtain ⟨ka,kcap,rfl,hkl,-,-,-⟩:=hk
 clear hgE
 unfold in64 at *
 go_enter Tryz.func119,Tryz.ntmps119
 go_wp2_with fail
 obtain ⟨W,hW⟩:∃ W,W=(((w.alloc (.cells #[.slice fa c.fields.length fcap,.int .i64 c.globals,.slice ga c.funcs.length gcap] 25)).alloc (.cells #[.string f.name,.int .i64 f.params,.int .i64 f.locals,.bool f.result,.slice ka f.code.length kcap] 75)).alloc (.cells #[.int .i64 x.op,.int .i64 x.a] 100)):=⟨_,rfl⟩
 have hWb:Below w.heap.size w W:=by rw [hW];exact (((Below.refl _ _).alloc (Nat.le_refl _) _).alloc (by simp) _).alloc (by simp;omega) _
 have c0:∀ o,(W.alloc o).cell? ⟨w.heap.size,0,none⟩=some (.slice fa c.fields.length fcap):=fun o=>by rw [World.cell?_alloc_past];(· rw [hW,c3a];rfl);(· rw [hW];simp;try omega)
 have c1:∀ o,(W.alloc o).cell? ⟨w.heap.size,1,none⟩=some (.int .i64 c.globals):=fun o=>by rw [World.cell?_alloc_past];(· rw [hW,c3a];rfl);(· rw [hW];simp;try omega)
 have c2:∀ o,(W.alloc o).cell? ⟨w.heap.size,2,none⟩=some (.slice ga c.funcs.length gcap):=fun o=>by rw [World.cell?_alloc_past];(· rw [hW,c3a];rfl);(· rw [hW];simp;try omega)
 have f2:∀ o,(W.alloc o).cell? ⟨w.heap.size+1,2,none⟩=some (.int .i64 f.locals):=fun o=>by rw [World.cell?_alloc_past];(· rw [hW,c3b];rfl);(· rw [hW];simp;try omega)
 have f4:∀ o,(W.alloc o).cell? ⟨w.heap.size+1,4,none⟩=some (.slice ka f.code.length kcap):=fun o=>by rw [World.cell?_alloc_past];(· rw [hW,c3b];rfl);(· rw [hW];simp;try omega)
 have x0:∀ o,(W.alloc o).cell? ⟨w.heap.size+1+1,0,none⟩=some (.int .i64 x.op):=fun o=>by rw [World.cell?_alloc_past];(· rw [hW,c3c];rfl);(· rw [hW];simp;try omega)
 have x1:∀ o,(W.alloc o).cell? ⟨w.heap.size+1+1,1,none⟩=some (.int .i64 x.a):=fun o=>by rw [World.cell?_alloc_past];(· rw [hW,c3c];rfl);(· rw [hW];simp;try omega)
 rw [←hW]
 have HW:=Lh hW
 clear hW
 have u2:=Ki W #[] 0 2 (.int .i64 f.locals) (by simp [Instr.findNow,Instr.sameNow])
 simp only [List.push_toArray,List.cons_append,List.nil_append,Nat.reduceAdd] at u2
 have u3:=Ki W #[⟨.int .i64 2,.int .i64 f.locals,0⟩] 1 3 (.int .i64 f.locals) (by simp [Instr.findNow,Instr.sameNow])
 simp only [List.push_toArray,List.cons_append,List.nil_append,Nat.reduceAdd] at u3
 have u4:=Ki W #[⟨.int .i64 2,.int .i64 f.locals,0⟩,⟨.int .i64 3,.int .i64 f.locals,1⟩] 2 4 (.int .i64 c.globals) (by simp [Instr.findNow,Instr.sameNow])
 simp only [List.push_toArray,List.cons_append,List.nil_append,Nat.reduceAdd] at u4
 have u5:=Ki W #[⟨.int .i64 2,.int .i64 f.locals,0⟩,⟨.int .i64 3,.int .i64 f.locals,1⟩,⟨.int .i64 4,.int .i64 c.globals,2⟩] 3 5 (.int .i64 c.globals) (by simp [Instr.findNow,Instr.sameNow])
 simp only [List.push_toArray,List.cons_append,List.nil_append,Nat.reduceAdd] at u5
 have u6:=Ki W #[⟨.int .i64 2,.int .i64 f.locals,0⟩,⟨.int .i64 3,.int .i64 f.locals,1⟩,⟨.int .i64 4,.int .i64 c.globals,2⟩,⟨.int .i64 5,.int .i64 c.globals,3⟩] 4 6 (.int .i64 12) (by simp [Instr.findNow,Instr.sameNow])
 simp only [List.push_toArray,List.cons_append,List.nil_append,Nat.reduceAdd] at u6
 have u7:=Ki W #[⟨.int .i64 2,.int .i64 f.locals,0⟩,⟨.int .i64 3,.int .i64 f.locals,1⟩,⟨.int .i64 4,.int .i64 c.globals,2⟩,⟨.int .i64 5,.int .i64 c.globals,3⟩,⟨.int .i64 6,.int .i64 12,4⟩] 5 7 (.int .i64 12) (by simp [Instr.findNow,Instr.sameNow])
 simp only [List.push_toArray,List.cons_append,List.nil_append,Nat.reduceAdd] at u7
 have u8:=Ki W #[⟨.int .i64 2,.int .i64 f.locals,0⟩,⟨.int .i64 3,.int .i64 f.locals,1⟩,⟨.int .i64 4,.int .i64 c.globals,2⟩,⟨.int .i64 5,.int .i64 c.globals,3⟩,⟨.int .i64 6,.int .i64 12,4⟩,⟨.int .i64 7,.int .i64 12,5⟩] 6 8 (.int .i64 (c.fields.length:Int)) (by simp [Instr.findNow,Instr.sameNow])
 simp only [List.push_toArray,List.cons_append,List.nil_append,Nat.reduceAdd] at u8
 have u9:=Ki W #[⟨.int .i64 2,.int .i64 f.locals,0⟩,⟨.int .i64 3,.int .i64 f.locals,1⟩,⟨.int .i64 4,.int .i64 c.globals,2⟩,⟨.int .i64 5,.int .i64 c.globals,3⟩,⟨.int .i64 6,.int .i64 12,4⟩,⟨.int .i64 7,.int .i64 12,5⟩,⟨.int .i64 8,.int .i64 (c.fields.length:Int),6⟩] 7 9 (.int .i64 (c.funcs.length:Int)) (by simp [Instr.findNow,Instr.sameNow])
 simp only [List.push_toArray,List.cons_append,List.nil_append,Nat.reduceAdd] at u9
 have u11:=Ki W #[⟨.int .i64 2,.int .i64 f.locals,0⟩,⟨.int .i64 3,.int .i64 f.locals,1⟩,⟨.int .i64 4,.int .i64 c.globals,2⟩,⟨.int .i64 5,.int .i64 c.globals,3⟩,⟨.int .i64 6,.int .i64 12,4⟩,⟨.int .i64 7,.int .i64 12,5⟩,⟨.int .i64 8,.int .i64 (c.fields.length:Int),6⟩,⟨.int .i64 9,.int .i64 (c.funcs.length:Int),7⟩] 8 11 (.int .i64 (f.code.length:Int)) (by simp [Instr.findNow,Instr.sameNow])
 simp only [List.push_toArray,List.cons_append,List.nil_append,Nat.reduceAdd] at u11
 have u12:=Ki W #[⟨.int .i64 2,.int .i64 f.locals,0⟩,⟨.int .i64 3,.int .i64 f.locals,1⟩,⟨.int .i64 4,.int .i64 c.globals,2⟩,⟨.int .i64 5,.int .i64 c.globals,3⟩,⟨.int .i64 6,.int .i64 12,4⟩,⟨.int .i64 7,.int .i64 12,5⟩,⟨.int .i64 8,.int .i64 (c.fields.length:Int),6⟩,⟨.int .i64 9,.int .i64 (c.funcs.length:Int),7⟩,⟨.int .i64 11,.int .i64 (f.code.length:Int),8⟩] 9 12 (.int .i64 (f.code.length:Int)) (by simp [Instr.findNow,Instr.sameNow])
 simp only [List.push_toArray,List.cons_append,List.nil_append,Nat.reduceAdd] at u12
 have mk:=Xh6 W
 have hlk:=Xpq c f x.op W
 unfold Xbz at hlk
 rw [mk]
 simp only [Result.andThen_ok,Oper.upon_value]
 go_wp2_with fail
 all_goals
  clear hlk mk u2 u3 u4 u5 u6 u7 u8 u9 u11 u12 c0 c1 c2 f2 f4 x0 x1
  go_ret
  refine ⟨Za ?_,hWb.trans (((Below.refl _ _).alloc (Nat.le_refl _) _).mono hWb.size)⟩
  unfold Zq
  first
   | (rw [if_pos (by omega)])
   | (
    rw [if_neg (by omega)]
    try simp only [beq_iff_eq,beq_eq_false_iff_ne] at *
    cases hl:Jw c f x.op with
    | none=>
     simp only [hl] at *
     first
      | (exfalso;simp at *;done)
      | (rw [if_pos (by assumption)];rw [Bool.eq_iff_iff];simp;try omega)
      | (rw [if_neg (by assumption)];rw [Bool.eq_iff_iff];simp;try omega)
    | some n=>
     simp only [hl] at *
     first
      | (exfalso;simp at *;done)
      | (rw [Bool.eq_iff_iff];simp;try omega))
theorem Xef:Zn 118:=fun _ _=>by kernel_rfl
theorem Xip (c:Cod) (f:Fun) (x:Ins) (cs fs:List Value) (xv:Value) (bc bf B:Nat) (w:World) (hcb:Xo w bc cs) (hfb:Xo w bf fs) (hc:Yj B w (.agg cs.toArray) c) (hf:J4 B w (.agg fs.toArray) f) (hx:Xa3 B w xv x) (hB:B≤w.heap.size) :
  Calls Tryz.prog 118 #[xv,.pointer (some ⟨bc,0,none⟩),.pointer (some ⟨bf,0,none⟩)] w fun e w'=>e=.returned (.bool (!Zq c f x))∧Below w.heap.size w w':=by
 have hb0:=Xa w (.cells #[.int .i64 x.op,.int .i64 x.a] 100)
 have HC:=Lh (hc.below (hb0.mono hB))
 have HF:=Lh (hf.below (hb0.mono hB))
 obtain ⟨rfl,hop,ha⟩:=hx
 obtain ⟨fv,gv,h1,-⟩:=hc
 obtain ⟨kv,h2,-⟩:=hf
 simp only [Value.agg.injEq] at h1 h2
 obtain rfl:cs=[fv,.int .i64 c.globals,gv]:=by simpa using congrArg Array.toList h1
 obtain rfl:fs=[.string f.name,.int .i64 f.params,.int .i64 f.locals,.bool f.result,kv]:=by simpa using congrArg Array.toList h2
 clear h1 h2
 have c0:=hcb.alloc (.cells #[.int .i64 x.op,.int .i64 x.a] 100) 0 _ rfl
 have c1:=hcb.alloc (.cells #[.int .i64 x.op,.int .i64 x.a] 100) 1 _ rfl
 have c2:=hcb.alloc (.cells #[.int .i64 x.op,.int .i64 x.a] 100) 2 _ rfl
 have f0:=hfb.alloc (.cells #[.int .i64 x.op,.int .i64 x.a] 100) 0 _ rfl
 have f1:=hfb.alloc (.cells #[.int .i64 x.op,.int .i64 x.a] 100) 1 _ rfl
 have f2:=hfb.alloc (.cells #[.int .i64 x.op,.int .i64 x.a] 100) 2 _ rfl
 have f3:=hfb.alloc (.cells #[.int .i64 x.op,.int .i64 x.a] 100) 3 _ rfl
 have f4:=hfb.alloc (.cells #[.int .i64 x.op,.int .i64 x.a] 100) 4 _ rfl
 clear hcb hfb
 go_enter Tryz.func118,Tryz.ntmps118
 go_wp2_with fail
 refine (Xh2 c _ f _ x _ B _ HC.out HF.out ⟨rfl,hop,ha⟩).mono ?_
 rintro e w' ⟨rfl,hb⟩
 go_wp2_with fail
 go_ret
 exact ⟨rfl,Yi hb⟩
/-- some instruction is not right -/
def Q4 (c:Cod):Bool:=c.funcs.any fun f=>f.code.any fun x=>!Zq c f x
def Xkn (b:Bool) (w:World) (e:Ending) (w':World):Prop:=∃ i k:Int,e=.returned (.tuple #[.int .i64 i,.int .i64 k,.bool b])∧Below w.heap.size w w'
theorem Xet {c:Cod} {k:Nat} {x:Fun} (hx:c.funcs[k]?=some x) (h:(x.code.any fun y=>!Zq c x y)=true):Q4 c=true:=
 List.any_eq_true.2 ⟨x,List.mem_of_getElem? hx,h⟩
theorem Xcr {c:Cod} (h:∀ (j:Nat) x,j<c.funcs.length→c.funcs[j]?=some x→(x.code.any fun y=>!Zq c x y)=false):Q4 c=false:=by
 unfold Q4
 rw [List.any_eq_false]
 intro x hx
 obtain ⟨i,hi,rfl⟩:=List.getElem_of_mem hx
 rw [h i _ hi (List.getElem?_eq_getElem hi)]
 simp
theorem Xqh {α:Type} {p:α→Bool} {l:List α} (h:l.any p=true):0≤Qw p l:=by have:=Kd p l;rw [h] at this;simpa using this
theorem Xql {α:Type} {p:α→Bool} {l:List α} (h:l.any p=false):Qw p l<0:=by have:=Kd p l;rw [h] at this;simpa using this
theorem Xfd (c:Cod) (cv:Value) (B:Nat) (w:World) (hB:B≤w.heap.size) (hc:Yj B w cv c) :
  Calls Tryz.prog 89 #[cv] w (Xkn (Q4 c) w):=by
 have HC:=Lh hc
 obtain ⟨fv,gv,rfl,-,hg,-⟩:=hc
 obtain ⟨ga,gcap,rfl,hgl2,hgl3,hgl4,hgE⟩:=hg
 have HGE:=Lh hgE
 clear hgE
 go_enter Tryz.func89,Tryz.ntmps89
 go_wp2_with fail
 go_loopw [11] (fun i wr=>∃ k:Nat,k≤c.funcs.length∧i=.int .i64 k∧Below (w.alloc (.cells #[fv,.int .i64 c.globals,.slice ga c.funcs.length gcap] 25)).heap.size (w.alloc (.cells #[fv,.int .i64 c.globals,.slice ga c.funcs.length gcap] 25)) wr∧Hid (∀ (j:Nat) x,j<k→c.funcs[j]?=some x→(x.code.any fun y=>!Zq c x y)=false)) (fun i _=>c.funcs.length - (intOf i).toNat)
 case atStart=>exact ⟨0,Nat.zero_le _,rfl,Below.refl _ _,fun j x hj=>by omega⟩
 case round=>
  obtain ⟨k,hk,rfl,hbr,hall⟩:=hrel
  have hbw:=Yi hbr
  by_cases hlt:k<c.funcs.length
  ·obtain ⟨x,hx⟩:∃ x,c.funcs[k]?=some x:=⟨_,List.getElem?_eq_getElem hlt⟩
   rcases HGE.out with h|⟨b,o,rfl,hbB,hE⟩
   ·rw [h] at hx;simp at hx
   have hE:=(hE k x hx).below (hbw.mono hB) hbB
   obtain ⟨g1,g2,g3,g4,⟨xv,g5,g6⟩,g7,g8,g9⟩:=hE
   have HX:=Lh hx
   have H6:=Lh g6
   obtain ⟨xa,xcap,rfl,-,-,-,-⟩:=g6
   clear hx
   have hb1:=hbw.then (Xa wr (.cells #[.string x.name,.int .i64 x.params,.int .i64 x.locals,.bool x.result,.slice xa x.code.length xcap] 75))
   have hcb:=(Xb1 hbr).alloc (.cells #[.string x.name,.int .i64 x.params,.int .i64 x.locals,.bool x.result,.slice xa x.code.length xcap] 75)
   have HCB:=Lh hcb
   clear hcb
   go_wp2_with fail
   refine (Xcw 118 #[_,_] (fun y=>!Zq c x y) x.code _ B _ Xef (Nat.le_trans hB hb1.size) (H6.out.inss ((Xa _ _).mono (Nat.le_trans hB hbw.size))) ?_).mono ?_
   ·intro y w1 av hb2 hy
    exact Xip c x y _ _ av _ _ B w1 (HCB.out.keep hb2) (Xb1 hb2) (HC.out.below ((hb1.then hb2).mono hB)) ⟨_,rfl,(H6.out.inss ((Yi hb2).mono (Nat.le_trans hB hbw.size))),g7,g8,g9⟩ hy (Nat.le_trans hB (hb1.then hb2).size)
   rintro e w2 ⟨rfl,hb2⟩
   cases hd:x.code.any (fun y=>!Zq c x y) with
   | true=>
    have hfin:=Lh (Xet HX.out hd)
    have hi:=Xqh hd
    clear hd
    go_wp2_with fail
    go_ret3
    exact ⟨_,_,by rw [hfin.out];rfl,hb1.then hb2⟩
   | false=>
    have hnew:Hid (∀ (j:Nat) y,j<k+1→c.funcs[j]?=some y→(y.code.any fun z=>!Zq c y z)=false):=by
     intro j y hj hy
     by_cases hjk:j=k
     ·subst hjk;obtain rfl:x=y:=by simpa using HX.out.symm.trans hy
      exact hd
     ·exact hall j y (by omega) hy
    have hi:=Xql hd
    clear hd
    go_wp2_with fail
    go_roundw
    case rel=>exact ⟨k+1,by omega,by go_num,hbr.thenA hb2,hnew⟩
    case measure=>simp [intOf];omega
  ·have hfin:=Lh (Xcr (c:=c) (fun j x hj hx=>hall j x (by omega) hx))
   go_wp2_with fail
   go_ret3
   exact ⟨_,_,by rw [hfin.out];rfl,hbw⟩
/-- a code is well-formed -/
noncomputable def Ub (c:Cod):Bool:=U7 c && !Q4 c
theorem Xjb (c:Cod) (cv:Value) (B:Nat) (w:World) (hL:Qa w) (hB:B≤w.heap.size) (hc:Yj B w cv c) :
  Calls Tryz.prog 79 #[cv] w fun e w'=>e=.returned (.bool (Ub c))∧Below w.heap.size w w':=by
 have HC:=Lh hc
 have HL:=Lh hL
 obtain ⟨fv,gv,rfl,-,-,-⟩:=hc
 clear hL
 go_enter Tryz.func79,Tryz.ntmps79
 go_wp2_with fail
 refine (Xea c _ B _ (HL.out.below (Xa _ _)) (by simp;omega) (HC.out.below ((Xa _ _).mono hB))).mono ?_
 rintro e w' ⟨rfl,hb⟩
 have k0:=Zu hb 0 _ rfl
 have k1:=Zu hb 1 _ rfl
 have k2:=Zu hb 2 _ rfl
 cases hh:U7 c with
 | false=>
  have hfin:Hid (Ub c=false):=by show _=_;unfold Ub;rw [hh];rfl
  clear hh
  go_wp2_with fail
  go_ret
  exact ⟨by rw [hfin.out];rfl,Yi hb⟩
 | true=>
  have hfin:Hid (Ub c=!Q4 c):=by show _=_;unfold Ub;rw [hh];rfl
  clear hh
  go_wp2_with fail
  refine (Xfd c _ B _ (Nat.le_trans hB (Yi hb).size) (HC.out.below ((Yi hb).mono hB))).mono ?_
  rintro e w2 ⟨i,k,rfl,hb2⟩
  go_wp2_with fail
  go_ret
  exact ⟨by rw [hfin.out];rfl,(Yi hb).then hb2⟩
end Go.Proofs.YtbmeoklmachjpaaGreatDoor
