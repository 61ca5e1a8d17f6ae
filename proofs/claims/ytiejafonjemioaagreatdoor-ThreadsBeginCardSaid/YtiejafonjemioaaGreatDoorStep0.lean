import Derived.Test.YtiejafonjemioaaGreatDoorHtSt
import Derived.Deep.AppendLies
import Derived.Deep.RegionLaw
import Derived.Deep.RegionHeld3
import Derived.Deep.RegionWith
set_option maxHeartbeats 8000000
set_option maxRecDepth 100000
set_option linter.unusedVariables false
set_option linter.unusedSimpArgs false
open Go.Value renaming slice→σ
open Go.Obj renaming cells→χ
namespace Go.Proofs.YtiejafonjemioaaGreatDoor
open Go.RowKit
variable {c:Cod} {f f':Fra} {F F' Fi Fl Fs Fs':List Nat} {a op:Int} {w w' W wr:World} {B bm fb cap k n z bl lb:Nat} {v lv sv sv':Value} {l args:List Int} {m m':Mch} {fs:List Fra} {cur:Array Value} {cs:List Value}
def Xv (c:Cod):Prop:=Xcs c/\Q4 c=false/\∀ f∈c.funcs,Zh c f
noncomputable def Xa2 (c:Cod):Bool:=@decide (Xv c) (Classical.propDecidable _)
theorem Zg (h:Xv c):Xa2 c=true:=by unfold Xa2;exact @decide_eq_true _ (Classical.propDecidable _) h
theorem Jp (h:¬Xv c):Xa2 c=false:=by unfold Xa2;exact @decide_eq_false _ (Classical.propDecidable _) h
theorem Xq3 :Xa2 c=true↔Xv c:=by
 constructor
 ·intro h
  by_cases hs:Xv c
  ·exact hs
  ·rw [Jp hs] at h;cases h
 ·exact Zg
theorem Xdo {f:Fun} {x:Ins} (hw:Q4 c=false) (hf:f∈c.funcs) (hx:x∈f.code):Zq c f x=true:=by
 unfold Q4 at hw
 rw [List.any_eq_false] at hw
 have:=hw f hf
 simp only [Bool.not_eq_true] at this
 rw [List.any_eq_false] at this
 simpa using this x hx
theorem Xj2 (b:Bool):0<=b2i b/\b2i b<=1:=by cases b<;>simp [b2i]
theorem Xqa (op:Int):0<=Y1 op/\Y1 op<=2:=by unfold Y1;split<;>(try split)<;>omega
theorem Xon (op:Int):0<=Z7 op/\Z7 op<=2:=by unfold Z7;split<;>(try split)<;>omega
theorem Xfv (h:Xcs c) {f:Fun} (hf:f∈c.funcs):Zr f:=by
 obtain ⟨i,hi,rfl⟩:=List.getElem_of_mem hf
 exact (h.2.2.2.2.2 i _ (Lg hi)).2.1
theorem Xjy {f:Fun} (h:Xcs c) (hw:Q4 c=false) (hf:f∈c.funcs):WfF c f:=by
 have aB:=Xfv h hf
 unfold Zr at aB
 have aC:∀ x∈f.code,1<=x.op/\x.op<=31:=fun x hx=>by
  have:=Xdo hw hf hx
  unfold Zq at this
  split at this
  ·cases this
  ·omega
 have aA:∀ x∈f.code,∀ n,Jw c f x.op=some n->0<=x.a/\x.a<n:=fun x hx n hn=>by
  have:=Xdo hw hf hx
  have h2:=aC x hx
  unfold Zq at this
  rw [if_neg ω,hn] at this
  simpa using this
 refine ⟨aB.2.2.2.2.1,aB.2.2.2.2.2,aC,fun x hx h9=>?_,fun x hx hj=>?_,fun x hx=>?_,fun x hx=>?_⟩
 ·have:=aA x hx c.funcs.length (by unfold Jw;rw [h9];rfl)
  exact this
 ·rcases hj with hj|hj
  ·exact aA x hx f.code.length (by unfold Jw;rw [hj];rfl)
  ·exact aA x hx f.code.length (by unfold Jw;rw [hj];rfl)
 ·unfold Xm
  split
  ·cases hg:Je c x.a with
   | none=>simp
   | some g=>
    have:=Xfv h (Lm hg)
    unfold Zr at this
    simp only []
    omega
  ·split
   ·have:=Xj2 f.result;omega
   ·split
    ·omega
    ·have:=Xqa x.op;omega
 ·unfold Xj
  split
  ·cases hg:Je c x.a with
   | none=>simp
   | some g=>have:=Xj2 g.result;simp only [];omega
  ·split
   ·omega
   ·split
    ·omega
    ·exact Xon x.op
def Xkl (c:Cod) (w:World) (e:Ending) (w':World):Prop:=
 ∃ i k err:Int,e=.returned (.tuple #[ι i,ι k,ι err])/\(err=0↔Xv c)/\Below w.heap.size w w'
theorem Xlz (c:Cod) (cv:Value) (B:Nat) (w:World) (hL:Qa w) (hB:B<=w.heap.size) (hc:Yj B w cv c) :
  Calls Tryz.prog 85 #[cv] w (Xkl c w):=by
 have HC:=Lh hc
 have HL:=Lh hL
 obtain ⟨bF,bG,rfl,aZ,bA,-⟩:=hc
 obtain ⟨ca,aW,rfl,-,-,-,-⟩:=aZ
 obtain ⟨cb,aR,rfl,bI,bJ,bK,aS⟩:=bA
 have aV:=Lh aS
 clear hL aS
 go_enter Tryz.func85,Tryz.ntmps85
 go_wp2_with fail
 refine (Xea c _ B _ (HL.o.below (Xa _ _)) φ (HC.o.below ((Xa _ _).mono hB))).mono ?_
 rintro e w1 ⟨rfl,hb⟩
 have k0:=Zu hb 0 _ rfl
 have k1:=Zu hb 1 _ rfl
 have k2:=Zu hb 2 _ rfl
 have aI:=Yi hb
 have hz:w.heap.size<w1.heap.size:=Bl k0
 by_cases hh:Xcs c
 ·rw [K6 hh]
  have HH:=Lh hh
  clear hh
  go_wp2_with fail
  refine (Xfd c _ B _ (Nt hB aI.size) (HC.o.below (aI.mono hB))).mono ?_
  rintro e w2 ⟨i,k,rfl,aG⟩
  have aO:=Xc aG k0
  have aT:=Xc aG k1
  have aU:=Xc aG k2
  have bL:w.heap.size<w2.heap.size:=Bl aO
  have aE:=aI.then aG
  clear k0 k1 k2
  cases aF:Q4 c with
  | true=>
   have aB:Hid (¬Xv c):=fun h=>by rw [h.2.1] at aF;cases aF
   clear aF
   go_wp2_with fail
   go_ret3
   exact ⟨_,_,_,rfl,⟨(fun h=>by cases h),fun h=>absurd h aB⟩,aE⟩
  | false=>
   have aQ:=Lh aF
   clear aF
   go_wp2_with fail
   go_loopg [28] (c.funcs.length+1) (fun gk ix wr=>∃ k:Nat,c.funcs.length+1<=gk+k/\k<=c.funcs.length/\ix=ι k/\Below w2.heap.size w2 wr/\Hid (∀ (j:Nat) f,j<k->c.funcs[j]?=some f->Zh c f))
   case atStart=>exact ⟨0,ω,Nat.zero_le _,rfl,Below.refl _ _,fun j f hj=>by omega⟩
   case round=>
    obtain ⟨k,bH,hk,rfl,aD,aC⟩:=hrel
    have aA:=aE.then aD
    have m0:=Xc aD aO
    have m1:=Xc aD aT
    have m2:=Xc aD aU
    have bM:w.heap.size<wr.heap.size:=Bl m0
    by_cases bD:k<c.funcs.length
    ·obtain ⟨x,hx⟩:∃ x,c.funcs[k]?=some x:=⟨_,Lg bD⟩
     rcases aV.o with h|⟨b,o,rfl,aY,hE⟩
     ·rw [h] at hx;simp at hx
     have hE:=(hE k x hx).below (aA.mono hB) aY
     obtain ⟨g1,g2,g3,g4,⟨xv,g5,g6⟩,g7,g8,g9⟩:=hE
     have H6:=Lh g6
     obtain ⟨xa,aP,rfl,-,-,-,-⟩:=g6
     have bE:=Lh (Xjy HH.o aQ.o (Lm hx))
     have HX:=Lh hx
     clear hx
     have aH:=aA.then (Xa wr (χ #[.string x.name,ι x.params,ι x.locals,.bool x.result,σ xa x.code.length aP] 93))
     clear aO aT aU
     go_wp2_with fail
     refine (Xcl c _ x _ B _ (HL.o.below aH) (Nt hB aH.size) (HC.o.below (aH.mono hB)) ⟨_,rfl,H6.o.inss ((Xa _ _).mono (Nt hB aA.size)),g7,g8,g9⟩ bE.o).mono ?_
     rintro e w3 (⟨q,aX,rfl,he,bB,aB,aJ⟩|⟨g,hs,rfl,hg,bC,hS,hA,aJ⟩)
     ·have aL:Hid (¬Xv c):=fun h=>aB (h.2.2 x (Lm HX.o))
      have e1:(aX != 0)=true:=bne_iff_ne.2 he
      have aK:=aH.then aJ
      clear aB
      go_wp2_with fail
      go_ret3
      exact ⟨_,_,_,rfl,⟨fun h=>absurd h he,fun h=>absurd h aL⟩,aK⟩
     ·have aM:Hid (∀ (j:Nat) f,j<k+1->c.funcs[j]?=some f->Zh c f):=fun j f hj hf=>by
       by_cases e:j=k
       ·subst e;rw [HX.o] at hf;cases hf;exact hS
       ·exact aC j f ω hf
      have aK:=aD.thenA aJ
      clear hS hA bC
      go_wp2_with fail
      go_roundg (gk - 1)
      case measure=>omega
      case rel=>exact ⟨k+1,ω,ω,by go_num,aK,aM⟩
    ·have aN:Hid (Xv c):=⟨HH.o,aQ.o,fun f hf=>by
      obtain ⟨j,hj,rfl⟩:=List.getElem_of_mem hf
      exact aC j _ ω (Lg hj)⟩
     go_wp2_with fail
     go_ret3
     exact ⟨_,_,_,rfl,⟨fun _=>aN,fun _=>rfl⟩,aA⟩
 ·rw [Zc hh]
  have aB:Hid (¬Xv c):=fun h=>hh h.1
  clear hh
  go_wp2_with fail
  go_ret3
  exact ⟨_,_,_,rfl,⟨(fun h=>by cases h),fun h=>absurd h aB⟩,aI⟩
theorem Jm (c:Cod) (cv:Value) (B:Nat) (w:World) (hL:Qa w) (hB:B<=w.heap.size) (hc:Yj B w cv c) :
  Calls Tryz.prog 106 #[cv] w fun e w'=>e=.returned (.bool (Xa2 c))/\Below w.heap.size w w':=by
 have HC:=Lh hc
 have HL:=Lh hL
 obtain ⟨aI,aJ,rfl,aG,aH,-⟩:=hc
 obtain ⟨ca,aF,rfl,-,-,-,-⟩:=aG
 obtain ⟨cb,aC,rfl,aK,aL,aM,-⟩:=aH
 clear hL
 go_enter Tryz.func106,Tryz.ntmps106
 go_wp2_with fail
 refine (Xlz c _ B _ (HL.o.below (Xa _ _)) φ (HC.o.below ((Xa _ _).mono hB))).mono ?_
 rintro e w1 ⟨i,k,aD,rfl,aA,hb⟩
 have aE:=Yi hb
 by_cases he:aD=0
 ·have aB:=Lh (Zg (aA.1 he))
  subst he
  clear aA
  go_wp2
  go_ret
  exact ⟨by rw [aB.o];rfl,aE⟩
 ·have aB:=Lh (Jp (fun h=>he (aA.2 h)))
  have e1:(aD == 0)=false:=beq_eq_false_iff_ne.2 he
  clear aA
  go_wp2
  go_ret
  exact ⟨by rw [aB.o];exact congrArg (fun b=>Ending.returned (.bool b)) (by first|exact e1|rfl),aE⟩
def Yv (w:World) (v:Value) (l:List Int) (F:List Nat):Prop:=
 w.ownsRow 0 3 1 v l.length (l.map (Value.int .i64))/\F=v.ownBlock.toList/\(∀ n∈l,in64 n)
def Yl (w:World):List Value->List Fra->List Nat->Prop
 | cells,[],F=>cells=[]/\F=[]
 | cells,f::fs,F=>∃ lv sv cs Fl Fs Fr,cells=ι f.fn::ι f.pc::lv::sv::cs/\Yv w lv f.locals Fl/\Yv w sv f.stack Fs/\in64 f.fn/\in64 f.pc/\Yl w cs fs Fr/\F=Fl++(Fs++Fr)
structure Xp (F F':List Nat) (w w':World):Prop where
 os:w'.os=w.os
 tape:w'.tape=w.tape
 output:w'.output=w.output
 size:w.heap.size<=w'.heap.size
 block:∀ k,k<w.heap.size->k∉F->w'.heap[k]?=w.heap[k]?
 new:∀ b∈F',b∈F\/w.heap.size<=b
theorem Xp.trans {F'':List Nat} {a b c:World} (h:Xp F F' a b) (k:Xp F' F'' b c):Xp F F'' a c:=
 ⟨k.os.trans h.os,k.tape.trans h.tape,k.output.trans h.output,Nt h.size k.size,fun i hi hF=>by
  rw [k.block i (Nl hi h.size) (fun aA=>by rcases h.new i aA with h1|h1;exact hF h1;omega),h.block i hi hF],fun x hx=>by
  rcases k.new x hx with h1|h1
  ·exact h.new x h1
  ·have:=h.size;right;omega⟩
theorem Xp.of_below (h:Below w.heap.size w w'):Xp F F w w':=⟨h.os,h.tape,h.output,h.size,fun k hk _=>h.block k hk,fun _ hb=>.inl hb⟩
theorem Xp.below (h:Xp F F' w w') (hF:∀ b∈F,B<=b) (hB:B<=w.heap.size):Below B w w':=
 ⟨h.os,h.tape,h.output,h.size,fun k hk=>h.block k ω (fun hm=>by have:=hF k hm;omega)⟩
theorem Xp.cell (h:Xp F F' w w') {a:Addr} (hc:w.cell? a=some v) (hF:a.block∉F):w'.cell? a=some v:=by
 rw [World.cell?_of_block (w:=w) (h.block a.block (World.block_lt_of_cell? w a hc) hF)];exact hc
theorem Xp.ge (h:Xp F F' w w') (hF:∀ b∈F,B<=b) (hB:B<=w.heap.size):∀ b∈F',B<=b:=fun b hb=>by
 rcases h.new b hb with h1|h1
 ·exact hF b h1
 ·omega
theorem Yv.keep (h:Yv w v l F) (hk:∀ b∈F,w'.heap[b]?=w.heap[b]?):Yv w' v l F:=by
 obtain ⟨h1,h2,h4⟩:=h
 subst h2
 refine ⟨⟨h1.1,?_⟩,rfl,h4⟩
 rcases h1.2 with h3|⟨g,cap,aA,rfl,hb,hg,r⟩
 ·exact .inl h3
 ·exact .inr ⟨g,cap,aA,rfl,hb,by rw [hk g (by simp [Value.ownBlock])];exact hg,r⟩
theorem Yv.lt (h:Yv w v l F):∀ b∈F,b<w.heap.size:=fun b hb=>by
 obtain ⟨h1,h2,_⟩:=h
 subst h2
 simp at hb
 exact (h1.lt b hb).2
theorem Yl.keep :∀ {fs:List Fra} {cells:List Value} {F:List Nat},Yl w cells fs F->(∀ b∈F,w'.heap[b]?=w.heap[b]?)->Yl w' cells fs F
 | [],_,_,h,_=>h
 | _::_,_,_,h,hk=>by
  obtain ⟨lv,sv,cs,Fl,Fs,Fr,h1,h2,h3,h4,h5,h6,rfl⟩:=h
  exact ⟨lv,sv,cs,Fl,Fs,Fr,h1,h2.keep (fun b hb=>hk b (by simp [hb])),h3.keep (fun b hb=>hk b (by simp [hb])),h4,h5,h6.keep (fun b hb=>hk b (by simp [hb])),rfl⟩
theorem Yl.lt :∀ {fs:List Fra} {cells:List Value} {F:List Nat},Yl w cells fs F->∀ b∈F,b<w.heap.size
 | [],_,_,h,b,hb=>by obtain ⟨_,rfl⟩:=h;simp at hb
 | _::_,_,_,h,b,hb=>by
  obtain ⟨lv,sv,cs,Fl,Fs,Fr,h1,h2,h3,h4,h5,h6,rfl⟩:=h
  simp at hb
  rcases hb with hb|hb|hb
  ·exact h2.lt b hb
  ·exact h3.lt b hb
  ·exact h6.lt b hb
theorem Yl.len :∀ {fs:List Fra} {cells:List Value} {F:List Nat},Yl w cells fs F->cells.length=fs.length*4
 | [],_,_,h=>by obtain ⟨rfl,_⟩:=h;rfl
 | _::_,_,_,h=>by
  obtain ⟨lv,sv,cs,Fl,Fs,Fr,rfl,h2,h3,h4,h5,h6,rfl⟩:=h
  simp [h6.len]
  omega
theorem Yl.snoc :∀ {fs:List Fra} {f:Fra} {cells:List Value} {F:List Nat},Yl w cells (fs++[f]) F->
  ∃ cs lv sv Fi Fl Fs,cells=cs++[ι f.fn,ι f.pc,lv,sv]/\Yl w cs fs Fi/\Yv w lv f.locals Fl/\Yv w sv f.stack Fs/\in64 f.fn/\in64 f.pc/\F=Fi++(Fl++Fs)
 | [],f,cells,F,h=>by
  obtain ⟨lv,sv,cs,Fl,Fs,Fr,rfl,h2,h3,h4,h5,⟨rfl,rfl⟩,rfl⟩:=h
  exact ⟨[],lv,sv,[],Fl,Fs,rfl,⟨rfl,rfl⟩,h2,h3,h4,h5,ψ⟩
 | g::fs,f,cells,F,h=>by
  obtain ⟨lv,sv,cs,Fl,Fs,Fr,rfl,h2,h3,h4,h5,h6,rfl⟩:=h
  obtain ⟨cs',lv',sv',Fi,aA,Fs',rfl,k2,k3,k4,k5,k6,rfl⟩:=h6.snoc
  exact ⟨_,lv',sv',Fl++(Fs++Fi),aA,Fs',ψ,⟨lv,sv,cs',Fl,Fs,Fi,rfl,h2,h3,h4,h5,k2,rfl⟩,k3,k4,k5,k6,ψ⟩
theorem Yl.add :∀ {fs:List Fra} {f:Fra} {cs:List Value} {lv sv:Value} {Fi Fl Fs:List Nat},Yl w cs fs Fi->Yv w lv f.locals Fl->Yv w sv f.stack Fs->in64 f.fn->in64 f.pc->
  Yl w (cs++[ι f.fn,ι f.pc,lv,sv]) (fs++[f]) (Fi++(Fl++Fs))
 | [],f,cs,lv,sv,Fi,Fl,Fs,h,h2,h3,h4,h5=>by
  obtain ⟨rfl,rfl⟩:=h
  exact ⟨lv,sv,[],Fl,Fs,[],rfl,h2,h3,h4,h5,⟨rfl,rfl⟩,ψ⟩
 | g::fs,f,cs,lv,sv,Fi,Fl,Fs,h,h2,h3,h4,h5=>by
  obtain ⟨lv',sv',cs',aA,Fs',aB,rfl,k2,k3,k4,k5,k6,rfl⟩:=h
  exact ⟨lv',sv',_,aA,Fs',aB++(Fl++Fs),rfl,k2,k3,k4,k5,k6.add h2 h3 h4 h5,ψ⟩
def Xb (fv:Value) (m:Mch):Array Value:=#[fv,ι m.req.kind,ι m.req.node,ι m.req.field,ι m.req.value,ι m.req.fault,ι m.fuel,ι m.compares,ι m.idle]
def X3 (w:World) (bm:Nat) (m:Mch) (F:List Nat):Prop:=
 ∃ fv cells Fr,w.heap[bm]?=some (χ (Xb fv m) 51 (0,0))/\w.ownsRow 0 129 4 fv m.frames.length cells/\Yl w cells m.frames Fr/\F=bm::(fv.ownBlock.toList++Fr)/\F.Nodup
structure Xk (w:World) (bm fb cap:Nat) (cur:Array Value) (cs:List Value) (fs:List Fra) (f:Fra) (lv sv:Value) (m:Mch) (Fi Fl Fs:List Nat):Prop where
 mach:w.heap[bm]?=some (χ (Xb (σ (some (π fb 0)) (fs.length+1) cap) m) 51 (0,0))
 row:w.heap[fb]?=some (χ cur 129 (0,0))
 capl:fs.length+1<=cap
 capm:cap<=9223372036854775807
 csize:cur.size=cap*4
 take:cur.toList.take ((fs.length+1)*4)=cs++[ι f.fn,ι f.pc,lv,sv]
 init:Yl w cs fs Fi
 loc:Yv w lv f.locals Fl
 stk:Yv w sv f.stack Fs
 fn:in64 f.fn
 pc:in64 f.pc
 nodup:(bm::fb::(Fi++(Fl++Fs))).Nodup
theorem X3.top (h:X3 w bm m F) (hm:m.frames=fs++[f]) :
  ∃ fb cap aA cs lv sv Fi Fl Fs,Xk w bm fb cap aA cs fs f lv sv m Fi Fl Fs/\F=bm::fb::(Fi++(Fl++Fs)):=by
 obtain ⟨fv,cells,Fr,h1,h2,h3,rfl,h5⟩:=h
 rw [hm] at h2 h3
 obtain ⟨cs,lv,sv,Fi,Fl,Fs,rfl,k2,k3,k4,k5,k6,rfl⟩:=h3.snoc
 rcases h2.2 with ⟨_,hn⟩|⟨g,cap,aA,rfl,_,hg,hc,aB,hs,ht⟩
 ·simp at hn
 ·simp only [List.length_append,List.length_singleton] at hc ht h1
  refine ⟨g,cap,aA,cs,lv,sv,Fi,Fl,Fs,⟨h1,hg,hc,by unfold maxLen at aB;omega,hs,ht,k2,k3,k4,k5,k6,?_⟩,?_⟩
  ·simpa [Value.ownBlock] using h5
  ·simp [Value.ownBlock]
theorem Xk.cslen (h:Xk w bm fb cap cur cs fs f lv sv m Fi Fl Fs):cs.length=fs.length*4:=h.init.len
theorem Xk.own (h:Xk w bm fb cap cur cs fs f lv sv m Fi Fl Fs) (hm:m.frames=fs++[f]) :
  X3 w bm m (bm::fb::(Fi++(Fl++Fs))):=by
 have hn:m.frames.length=fs.length+1:=by rw [hm];simp
 refine ⟨σ (some (π fb 0)) (fs.length+1) cap,cs++[ι f.fn,ι f.pc,lv,sv],Fi++(Fl++Fs),h.mach,?_,by rw [hm];exact h.init.add h.loc h.stk h.fn h.pc,by simp [Value.ownBlock],h.nodup⟩
 rw [hn]
 refine ⟨by simp [h.cslen];omega,.inr ⟨fb,cap,cur,rfl,Nat.zero_le _,h.row,h.capl,by unfold maxLen;have:=h.capm;omega,h.csize,h.take⟩⟩
theorem Xk.keep (h:Xk w bm fb cap cur cs fs f lv sv m Fi Fl Fs) (hb:Below w.heap.size w w'):Xk w' bm fb cap cur cs fs f lv sv m Fi Fl Fs:=
 ⟨by rw [hb.block bm (La h.mach)];exact h.mach,by rw [hb.block fb (La h.row)];exact h.row,h.capl,h.capm,h.csize,h.take,h.init.keep (fun b aA=>hb.block b (h.init.lt b aA)),h.loc.keep (fun b aA=>hb.block b (h.loc.lt b aA)),h.stk.keep (fun b aA=>hb.block b (h.stk.lt b aA)),h.fn,h.pc,h.nodup⟩
theorem Xk.sub (h:Xk w bm fb cap cur cs fs f lv sv m Fi Fl Fs) (hb:∀ b∈bm::fb::(Fi++(Fl++Fs)),w'.heap[b]?=w.heap[b]?):Xk w' bm fb cap cur cs fs f lv sv m Fi Fl Fs:=
 ⟨by rw [hb bm ψ];exact h.mach,by rw [hb fb ψ];exact h.row,h.capl,h.capm,h.csize,h.take,h.init.keep (fun b aA=>hb b (by simp [aA])),h.loc.keep (fun b aA=>hb b (by simp [aA])),h.stk.keep (fun b aA=>hb b (by simp [aA])),h.fn,h.pc,h.nodup⟩
theorem Xk.at_ (h:Xk w bm fb cap cur cs fs f lv sv m Fi Fl Fs) (j:Nat) (v:Value) (hv:([ι f.fn,ι f.pc,lv,sv]:List Value)[j]?=some v):w.cell? (π fb (fs.length*4+j))=some v:=by
 rw [cell_of_row _ _ _ _ _ _ h.row]
 have h1:(cs++[ι f.fn,ι f.pc,lv,sv])[fs.length*4+j]?=some v:=by
  rw [Ar (by rw [h.cslen];omega),h.cslen,Nat.add_sub_cancel_left];exact hv
 rw [<-h.take,List.getElem?_take] at h1
 split at h1
 ·simpa using h1
 ·cases h1
theorem Xk.ofm (h:Xk w bm fb cap cur cs fs f lv sv m Fi Fl Fs) (j:Nat) (v:Value) (hv:(Xb (σ (some (π fb 0)) (fs.length+1) cap) m)[j]?=some v):w.cell? (π bm j)=some v:=by
 rw [cell_of_row _ _ _ _ _ _ h.mach];exact hv
theorem Xk.cFrames (h:Xk w bm fb cap cur cs fs f lv sv m Fi Fl Fs):w.cell? (π bm 0)=some (σ (some (π fb 0)) (fs.length+1) cap):=h.ofm 0 _ rfl
theorem Xk.cFuel (h:Xk w bm fb cap cur cs fs f lv sv m Fi Fl Fs):w.cell? (π bm 6)=some (ι m.fuel):=h.ofm 6 _ rfl
theorem Xk.cCompares (h:Xk w bm fb cap cur cs fs f lv sv m Fi Fl Fs):w.cell? (π bm 7)=some (ι m.compares):=h.ofm 7 _ rfl
theorem Xk.cIdle (h:Xk w bm fb cap cur cs fs f lv sv m Fi Fl Fs):w.cell? (π bm 8)=some (ι m.idle):=h.ofm 8 _ rfl
theorem Xk.cFn (h:Xk w bm fb cap cur cs fs f lv sv m Fi Fl Fs):w.cell? (π fb (fs.length*4))=some (ι f.fn):=h.at_ 0 _ rfl
theorem Xk.cPc (h:Xk w bm fb cap cur cs fs f lv sv m Fi Fl Fs):w.cell? (π fb (fs.length*4+1))=some (ι f.pc):=h.at_ 1 _ rfl
theorem Xk.cLv (h:Xk w bm fb cap cur cs fs f lv sv m Fi Fl Fs):w.cell? (π fb (fs.length*4+2))=some (lv):=h.at_ 2 _ rfl
theorem Xk.cSv (h:Xk w bm fb cap cur cs fs f lv sv m Fi Fl Fs):w.cell? (π fb (fs.length*4+3))=some (sv):=h.at_ 3 _ rfl
theorem Xk.frm (h:Xk w bm fb cap cur cs fs f lv sv m Fi Fl Fs) (j:Nat):w.frozen? (π bm j)=false:=Fz h.mach
theorem Xk.frf (h:Xk w bm fb cap cur cs fs f lv sv m Fi Fl Fs) (j:Nat):w.frozen? (π fb j)=false:=Fz h.row
theorem Xn5 {j:Nat} {L:List Value} (hcs:cs.length=k*4) (hL:L.length=4) (h:cur.toList.take ((k+1)*4)=cs++L):(cur.setIfInBounds (k*4+j) v).toList.take ((k+1)*4)=cs++L.set j v:=by
 rw [Array.toList_setIfInBounds,List.take_set,h,List.set_append_right _ _ ω,hcs,Nat.add_sub_cancel_left]
theorem Xk.put {lv':Value} {Fl':List Nat} (h:Xk w bm fb cap cur cs fs f lv sv m Fi Fl Fs) (j:Nat) (v:Value)
  (hm:w'.heap[bm]?=w.heap[bm]?) (hf:w'.heap[fb]?=some (χ (cur.setIfInBounds (fs.length*4+j) v) 129 (0,0))) (hL:([ι f.fn,ι f.pc,lv,sv]:List Value).set j v=[ι f'.fn,ι f'.pc,lv',sv'])
  (hi:∀ b∈Fi,w'.heap[b]?=w.heap[b]?) (hl:Yv w' lv' f'.locals Fl') (hs:Yv w' sv' f'.stack Fs') (h1:in64 f'.fn) (h2:in64 f'.pc) (hn:(bm::fb::(Fi++(Fl'++Fs'))).Nodup) :
  Xk w' bm fb cap (cur.setIfInBounds (fs.length*4+j) v) cs fs f' lv' sv' m Fi Fl' Fs':=
 ⟨by rw [hm];exact h.mach,hf,h.capl,h.capm,by simpa using h.csize,by rw [<-hL];exact Xn5 h.cslen rfl h.take,h.init.keep hi,hl,hs,h1,h2,hn⟩
theorem Xk.putM (h:Xk w bm fb cap cur cs fs f lv sv m Fi Fl Fs)
  (hm:w'.heap[bm]?=some (χ (Xb (σ (some (π fb 0)) (fs.length+1) cap) m') 51 (0,0))) (ho:∀ b∈fb::(Fi++(Fl++Fs)),w'.heap[b]?=w.heap[b]?) :
  Xk w' bm fb cap cur cs fs f lv sv m' Fi Fl Fs:=
 ⟨hm,by rw [ho fb ψ];exact h.row,h.capl,h.capm,h.csize,h.take,h.init.keep (fun b hb=>ho b (by simp [hb])),h.loc.keep (fun b hb=>ho b (by simp [hb])),h.stk.keep (fun b hb=>ho b (by simp [hb])),h.fn,h.pc,h.nodup⟩
theorem Xk.lt (h:Xk w bm fb cap cur cs fs f lv sv m Fi Fl Fs):∀ b∈bm::fb::(Fi++(Fl++Fs)),b<w.heap.size:=fun b hb=>by
 simp only [List.mem_cons,List.mem_append] at hb
 rcases hb with rfl|rfl|hb|hb|hb
 ·exact (La h.mach)
 ·exact (La h.row)
 ·exact h.init.lt b hb
 ·exact h.loc.lt b hb
 ·exact h.stk.lt b hb
theorem Xk.ne (h:Xk w bm fb cap cur cs fs f lv sv m Fi Fl Fs) :
  bm≠fb/\(∀ b∈Fi++(Fl++Fs),b≠bm/\b≠fb):=by
 have:=h.nodup
 simp only [List.nodup_cons,List.mem_cons,not_or] at this
 obtain ⟨⟨h1,h2⟩,h3,_⟩:=this
 exact ⟨h1,fun b hb=>⟨fun e=>h2 (e▸hb),fun e=>h3 (e▸hb)⟩⟩
def Yz (w:World) (bm fb cap:Nat) (cs:List Value) (fs:List Fra) (f':Fra) (lv:Value) (m':Mch) (Fi Fl F:List Nat) (w':World):Prop:=
 ∃ cur' sv' Fs',Xk w' bm fb cap cur' cs fs f' lv sv' m' Fi Fl Fs'/\Xp F (bm::fb::(Fi++(Fl++Fs'))) w w'
def X1 (n:Int):Bool:=decide (-1099511627776<=n/\n<=1099511627776)
theorem Yy (n:Int) (w:World) :
  Calls Tryz.prog 137 #[ι n] w fun e w'=>e=.returned (.bool (X1 n))/\w=w':=by
 go_enter Tryz.func137,Tryz.ntmps137
 go_wp2
 all_goals (go_ret;exact ⟨by unfold X1;congr 2;simp;omega,rfl⟩)
theorem Ka (b:Bool) (w:World) :
  Calls Tryz.prog 194 #[.bool b] w fun e w'=>e=.returned (ι (b2i b))/\w=w':=by
 cases b
 ·go_enter Tryz.func194,Tryz.ntmps194
  go_wp2
  go_ret
  exact ⟨rfl,rfl⟩
 ·go_enter Tryz.func194,Tryz.ntmps194
  go_wp2
  go_ret
  exact ⟨rfl,rfl⟩
def Yw (cf cg:Value) (g:Int) (bm:Nat):Value:=.agg #[cf,ι g,cg,.pointer (some (π bm 0))]
theorem Kz (fa ga:Option Addr) (fn fc gn gc:Nat) (g:Int) (h:Xk w bm fb cap cur cs fs f lv sv m Fi Fl Fs) (hn:fs.length<=200) :
  Calls Tryz.prog 174 #[Yw (σ fa fn fc) (σ ga gn gc) g bm] w fun e w'=>e=.returned (.pointer (some (π fb (fs.length*4))))/\Below w.heap.size w w':=by
 have hA:=h.keep (Xa w (χ #[σ fa fn fc,ι g,σ ga gn gc,.pointer (some (π bm 0))] 175))
 have m0:=hA.cFrames
 have hc:=h.capl
 have HA:=Lh hA
 clear hA h
 unfold Yw
 go_enter Tryz.func174,Tryz.ntmps174
 go_wp2_with fail
 go_quiet (fail)
 go_wp2
 go_ret
 exact ⟨rfl,Xh (Xa _ _) _⟩
theorem Yv.last {n:Int} (h:Yv w v (l++[n]) F) :
  ∃ sb cap aA,v=σ (some (π sb 0)) (l.length+1) cap/\F=[sb]/\w.heap[sb]?=some (χ aA 3 (0,0))/\l.length+1<=cap/\cap<=9223372036854775807/\w.cell? (π sb l.length)=some (ι n)/\
   Yv w (σ (some (π sb 0)) l.length cap) l [sb]/\in64 n:=by
 obtain ⟨h1,h2,h3⟩:=h
 rcases h1.2 with ⟨_,hn⟩|⟨g,cap,aA,rfl,hb,hg,hc,aB,hs,ht⟩
 ·simp at hn
 ·simp only [List.length_append,List.length_singleton,Nat.mul_one] at hc ht hs
  refine ⟨g,cap,aA,ψ,by rw [h2];rfl,hg,hc,by unfold maxLen at aB;omega,?_,⟨⟨ψ,.inr ⟨g,cap,aA,rfl,Nat.zero_le _,hg,ω,aB,by simpa using hs,?_⟩⟩,rfl,fun x hx=>h3 x (by simp [hx])⟩,h3 n ψ⟩
  ·rw [cell_of_row _ _ _ _ _ _ hg]
   have h4:((l++[n]).map (Value.int .i64))[l.length]?=some (ι n):=by simp
   rw [<-ht,List.getElem?_take] at h4
   split at h4
   ·simpa using h4
   ·cases h4
  ·have:=congrArg (List.take l.length) ht
   rw [List.take_take,Nat.min_eq_left ω] at this
   rw [Nat.mul_one,this,<- List.map_take]
   simp
theorem Xp.self :Xp F F w w:=⟨rfl,rfl,rfl,Nr _,fun _ _ _=>rfl,fun _ h=>.inl h⟩
theorem Xfu {st:List Int} (H:Xk w bm fb cap cur cs fs f lv sv m Fi Fl Fs)
  (hm:W.heap[bm]?=w.heap[bm]?) (hf:W.heap[fb]?=w.heap[fb]?) (hi:∀ b∈Fi++Fl,W.heap[b]?=w.heap[b]?) (hO:Yv W sv' st Fs') (hnd:(bm::fb::(Fi++(Fl++Fs'))).Nodup) (hM:Xp (bm::fb::(Fi++(Fl++Fs))) (bm::fb::(Fi++(Fl++Fs'))) w W) :
  Yz w bm fb cap cs fs { f with stack:=st } lv m Fi Fl (bm::fb::(Fi++(Fl++Fs))) (W.setCell (π fb (fs.length*4+3)) sv'):=by
 have aA:=hnd
 simp only [List.nodup_cons,List.mem_cons,not_or] at aA
 obtain ⟨⟨n1,n2⟩,n3,_⟩:=aA
 have ho:∀ b,b≠fb->(W.setCell (π fb (fs.length*4+3)) sv').heap[b]?=W.heap[b]?:=fun b hb=>heap_setCell_other _ _ _ _ hb
 have aB:∀ b∈Fi++(Fl++Fs'),b≠fb:=fun b hb e=>n3 (e▸hb)
 refine ⟨cur.setIfInBounds (fs.length*4+3) sv',sv',Fs',H.put 3 sv' (by rw [ho bm n1,hm]) (heap_setCell_same _ _ _ _ _ _ (by rw [hf];exact H.row)) rfl (fun b hb=>by rw [ho b (aB b (by simp [hb])),hi b (by simp [hb])]) (H.loc.keep (fun b hb=>by rw [ho b (aB b (by simp [hb])),hi b (by simp [hb])])) (hO.keep (fun b hb=>ho b (aB b (by simp [hb])))) H.fn H.pc hnd,hM.trans ⟨rfl,rfl,rfl,ψ,fun k hk hF=>ho k (fun e=>hF (by simp [e])),fun _ h=>.inl h⟩⟩
theorem X9 (fa ga:Option Addr) (fn fc gn gc:Nat) (g:Int) (h:Xk w bm fb cap cur cs fs f lv sv m Fi Fl Fs) (hn:fs.length<=200) (l:List Int) (n:Int) (hst:f.stack=l++[n]) :
  Calls Tryz.prog 188 #[Yw (σ fa fn fc) (σ ga gn gc) g bm] w fun e w'=>e=.returned (ι n)/\Yz w bm fb cap cs fs { f with stack:=l } lv m Fi Fl (bm::fb::(Fi++(Fl++Fs))) w':=by
 have aD:=h.stk
 rw [hst] at aD
 obtain ⟨sb,aJ,aK,rfl,rfl,aN,aL,aM,aA,aB,aI⟩:=aD.last
 have H:=Lh h
 have HO:=Lh aB
 have aH:=Xa w (χ #[σ fa fn fc,ι g,σ ga gn gc,.pointer (some (π bm 0))] 175)
 have hA:=Lh (h.keep aH)
 have aF:=h.ne
 have aO:=aF.2 sb ψ
 clear hst aD aB h aF
 unfold Yw
 go_enter Tryz.func188,Tryz.ntmps188
 go_wp2_with fail
 refine (Kz fa ga fn fc gn gc g hA.o hn).mono ?_
 rintro e w1 ⟨rfl,aG⟩
 have aC:=Yi aG
 have h1:=Lh (H.o.keep aC)
 have c3:=h1.o.cSv
 have cc:=Xc aC aA
 have fr:=h1.o.frf (fs.length*4+3)
 clear aA
 go_wp2_with fail
 go_quiet (fail)
 go_wp2_with fail
 go_region
 go_wp2
 go_ret
 have aE:Below w.heap.size w (w1.drewN (nq+1)):=Xh aC _
 refine ⟨rfl,Xfu H.o (aE.block bm (H.o.lt bm ψ)) (aE.block fb (H.o.lt fb ψ)) (fun b hb=>aE.block b (H.o.lt b (by simp at hb ⊢;rcases hb with hb|hb<;>simp [hb]))) (HO.o.keep (fun b hb=>aE.block b (HO.o.lt b hb))) H.o.nodup (Xp.of_below aE)⟩
theorem Va {P:Program} (w:World) (t ty e:TypeId) (i:TypeInfo) (z:Value) (size bytes:Nat) (ht:P.underlying t=some (.slice e)) (hi:P.info? e=some i) (hz:i.zero=some z)
  (hsize:i.size=size) (hby:i.bytes=bytes) (hzs:z.cells.size=size) (hsz:0<size)
  (v:Value) (n:Nat) (xs:List Value) (hown:w.ownsRow 0 e size v n xs)
  (a:Addr) (m c:Nat) (news:List Value) (hl:news.length=m*size) (hnews:∀ j u,news[j]?=some u->w.cell? (a.add j)=some u) (h1:∀ u∈news,u.oneCell'=true)
  (h63:n+m<=maxLen) (hbytes:(n+m)*bytes<=140737488355328) (hm:0<m) :
  ∃ v' w' g,(Builtin.append_ #[t,t] ty #[v,σ (some a) m c]).run P w=.ok v' w'/\w'.ownsRow 0 e size v' (n+m) (xs++news)/\w.grownBy w' v.ownBlock/\v'.ownBlock=some g/\(v.ownBlock=some g\/w.heap.size<=g):=by
 obtain ⟨v',w',hr,ho,hg,aF⟩:=run_append_own (P:=P) w 0 t ty e i z size bytes ht hi hz hsize hby hzs hsz v n xs hown a m c news hl hnews h1 h63 hbytes (Nat.zero_le _)
 have aJ:v'≠ν:=fun h=>by have:=(aF.1 h).2;omega
 rcases hown.2 with ⟨rfl,rfl⟩|⟨g,cap,aD,rfl,aL,aI,aN,aM,aH,aG⟩
 ·have hx:xs=[]:=List.eq_nil_of_length_eq_zero (by simpa using hown.1)
  subst hx
  obtain ⟨v'',w'',aA,aK,_,_⟩:=run_append_own (P:=P) w w.heap.size t ty e i z size bytes ht hi hz hsize hby hzs hsz _ 0 [] (World.ownsRow_nil w w.heap.size e size) a m c news hl hnews h1 h63 hbytes (Nr _)
  rw [hr] at aA
  simp only [Result.ok.injEq] at aA
  obtain ⟨rfl,rfl⟩:=aA
  rcases aK.2 with ⟨h,_⟩|⟨g,cap,aD,rfl,hb,_⟩
  ·exact absurd h aJ
  ·exact ⟨_,_,g,hr,ho,hg,rfl,.inr hb⟩
 ·subst hsize
  subst hby
  by_cases aB:n+m<=cap
  ·have aE:n*i.size+news.length<=aD.size:=by rw [hl,aH,<- Nat.add_mul];exact Nat.mul_le_mul_right _ aB
   have aA:=run_append_room (P:=P) w t ty e i ht hi g n cap aD aI a m c news hl hnews h1 aB aE
   rw [hr] at aA
   simp only [Result.ok.injEq] at aA
   obtain ⟨rfl,rfl⟩:=aA
   exact ⟨_,_,g,hr,ho,hg,rfl,.inl rfl⟩
  ·have aC:∀ j u,xs[j]?=some u->w.cell? (((π g 0):Addr).add j)=some u:=hown.cells (g:=g) rfl
   have aA:=run_append_grow (P:=P) w t ty e i z ht hi hz (π g 0) n cap xs hown.1 aC a m c news hl hnews ω (by have:=h63;simp only [maxLen] at this;omega) (growslice_fits ω hbytes)
   rw [hr] at aA
   simp only [Result.ok.injEq] at aA
   obtain ⟨rfl,rfl⟩:=aA
   exact ⟨_,_,w.heap.size,hr,ho,hg,rfl,.inr (Nr _)⟩
theorem U3 {v':Value} {g:Nat} (hg:w.grownBy w' v.ownBlock) (h':v'.ownBlock=some g) (h:v.ownBlock=some g\/w.heap.size<=g):Xp v.ownBlock.toList v'.ownBlock.toList w w':=
 ⟨hg.os,hg.tape,hg.output,hg.size,fun k hk hF=>hg.block k hk (fun e=>hF (by rw [<-e];simp)),fun b hb=>by
  rw [h'] at hb;simp at hb;subst hb
  rcases h with h|h
  ·left;rw [h];simp
  ·right;exact h⟩
theorem Xnv (w:World) (v:Value) (l:List Int) (F:List Nat) (hO:Yv w v l F) (ad:Addr) (n:Int) (hn:in64 n) (hc:w.cell? ad=some (ι n)) (hl:l.length<1000000) (ty:TypeId) :
  ∃ v' w' F',(Builtin.append_ #[22,22] ty #[v,σ (some ad) 1 1]).run Tryz.prog w=.ok v' w'/\Yv w' v' (l++[n]) F'/\Xp F F' w w'/\(∃ g,F'=[g]/\(F=[g]\/w.heap.size<=g))/\(∃ a' c',v'=σ a' (l.length+1) c'):=by
 obtain ⟨i,hi,aA,aB,aC⟩:=info_parts Uc
 obtain ⟨v',w',g,hr,h2,h3,h4,h5⟩:=Va (P:=Tryz.prog) w 22 ty 3 i (ι 0) 1 8 Tryz.underlying22 hi aA aB aC rfl δ v l.length (l.map (Value.int .i64)) hO.1 ad 1 1 [ι n] rfl
  (fun j u hu=>by
   cases j with
   | zero=>simp at hu;subst hu;exact hc
   | succ j=>simp at hu) (by simp [Value.oneCell']) (by unfold maxLen;omega) ω ω
 have hF:=hO.2.1
 refine ⟨v',w',v'.ownBlock.toList,hr,⟨by simpa using h2,rfl,fun x hx=>by simp at hx;rcases hx with hx|rfl;exact hO.2.2 x hx;exact hn⟩,by rw [hF];exact U3 h3 h4 h5,⟨g,by rw [h4];rfl,?_⟩,?_⟩
 ·rcases h5 with h5|h5
  ·left;rw [hF,h5];rfl
  ·right;exact h5
 ·rcases h2.2 with ⟨rfl,aE⟩|⟨g',cap,aD,rfl,_⟩
  ·omega
  ·exact ⟨_,_,rfl⟩
theorem Xik {ops:Array Oper} {rest:List Oper} {o:Oper} {a:Act} {Q:Exit->Act->World->Prop} (hgd:o.guard=none) (s x:Operand) (ho:o.op=.call { callee:=.builtin .append,args:=#[s,x],argTypes:=#[22,22] })
  (v:Value) (l:List Int) (F:List Nat) (hs:a.eval s=v) (hO:Yv w v l F) (ad:Addr) (n:Int) (hn:in64 n) (hx:a.eval x=σ (some ad) 1 1) (hc:w.cell? ad=some (ι n)) (hl:l.length<1000000)
  (h:∀ a' c' w' F',Yv w' (σ a' (l.length+1) c') (l++[n]) F'->Xp F F' w w'->(∃ g,F'=[g]/\(F=[g]\/w.heap.size<=g))->wpList Tryz.prog ops Q rest (a.put o.dst (σ a' (l.length+1) c')) w'):wpList Tryz.prog ops Q (o::rest) a w:=by
 refine wpList_plain hgd fun K hK=>?_
 obtain ⟨v',w',F',hr,h2,h3,h4,⟨a',c',rfl⟩⟩:=Xnv w v l F hO ad n hn hc hl o.type
 unfold Oper.wp execOp
 simp only [ho,resolve,invoke,builtin,Sem.run_bind,Sem.run_pure,Result.andThen_ok,List.map_toArray,List.map_cons,List.map_nil,hs,hx,hr]
 exact hK _ _ (h a' c' w' F' h2 h3 h4)
theorem Xdw (h:(bm::fb::(Fi++(Fl++Fs))).Nodup) (hlt:∀ b∈bm::fb::(Fi++(Fl++Fs)),b<n) (hF:∃ g,Fs'=[g]/\(Fs=[g]\/n<=g)):(bm::fb::(Fi++(Fl++Fs'))).Nodup:=by
 obtain ⟨g,rfl,hg⟩:=hF
 rcases hg with rfl|hg
 ·exact h
 ·have h2:(bm::fb::(Fi++Fl)).Nodup:=by
   have e:bm::fb::(Fi++(Fl++Fs))=(bm::fb::(Fi++Fl))++Fs:=by simp
   rw [e] at h
   exact (List.nodup_append.1 h).1
  have e:bm::fb::(Fi++(Fl++[g]))=(bm::fb::(Fi++Fl))++[g]:=by simp
  rw [e,List.nodup_append]
  refine ⟨h2,ψ,fun a ha b hb=>?_⟩
  simp at hb
  subst hb
  have:=hlt a (by simp at ha ⊢;rcases ha with ha|ha|ha|ha<;>simp [ha])
  omega
theorem Xp.wide (h:Xp Fs Fs' w w') (h1:∀ b∈Fs,b∈F) (h2:∀ b∈F',b∈Fs'\/b∈F):Xp F F' w w':=
 ⟨h.os,h.tape,h.output,h.size,fun k hk hF=>h.block k hk (fun hm=>hF (h1 k hm)),fun b hb=>by
  rcases h2 b hb with h3|h3
  ·rcases h.new b h3 with h4|h4
   ·exact .inl (h1 b h4)
   ·exact .inr h4
  ·exact .inl h3⟩
theorem Qt (fa ga:Option Addr) (fn fc gn gc:Nat) (g:Int) (h:Xk w bm fb cap cur cs fs f lv sv m Fi Fl Fs) (hn:fs.length<=200) (n:Int) (h64:in64 n) (hst:f.stack.length<1000000) :
  Calls Tryz.prog 144 #[Yw (σ fa fn fc) (σ ga gn gc) g bm,ι n] w fun e w'=>e=.returned (.tuple #[])/\Yz w bm fb cap cs fs { f with stack:=f.stack++[n] } lv m Fi Fl (bm::fb::(Fi++(Fl++Fs))) w':=by
 have H:=Lh h
 have aL:=Xa w (χ #[σ fa fn fc,ι g,σ ga gn gc,.pointer (some (π bm 0))] 175)
 have hA:=Lh (h.keep aL)
 have aO:=h.ne
 have aH:=Lh h.lt
 have aN:=h.lt fb ψ
 have aG:fb∉Fs:=fun e=>(aO.2 fb (by simp [e])).2 rfl
 clear h
 unfold Yw
 go_enter Tryz.func144,Tryz.ntmps144
 go_wp2_with fail
 refine (Kz fa ga fn fc gn gc g hA.o hn).mono ?_
 rintro e w1 ⟨rfl,aK⟩
 have aB:=Yi aK
 have h1:=Lh (H.o.keep aB)
 have c3:=h1.o.cSv
 have aD:fb<w1.heap.size:=Nl aN aB.size
 have fr:∀ o,(w1.alloc o).frozen? (π fb (fs.length*4+3))=false:=fun o=>Fz (by rw [Ha _ _ _ aD];exact h1.o.row)
 have aF:=Lh h64
 go_wp2_with (at_builtin;refine Xik rfl (.tmp 11) (.tmp 13) rfl sv f.stack Fs rfl (h1.o.stk.keep (fun b hb=>(Ha _ _ _ (h1.o.stk.lt b hb)))) (π w1.heap.size 0) n aF.o rfl (by exact (Y5 _ _ _ 0)) hst ?_;intro a' c' w2 F' hO hM hF;have aA:w2.heap[fb]?=some (χ cur 129 (0,0)):=(by rw [hM.block fb φ aG,Ha _ _ _ aD];exact h1.o.row);have k3:w2.cell? (π fb (fs.length*4+3))=some sv:=(by rw [cell_of_row _ _ _ _ _ _ aA,<- cell_of_row _ _ _ _ _ _ h1.o.row];exact c3);have k4:=frozen_of_row _ _ (fs.length*4+3) _ _ aA;have aJ:=Lh aA;have HO:=Lh hO;have HM:=Lh hM;have HF:=Lh hF;clear hO hM hF aA)
 go_end0
 have aE:=aB.then (Xa w1 (χ #[ι n] 3))
 have aC:∀ b∈bm::fb::(Fi++Fl),w2.heap[b]?=w.heap[b]?:=fun b hb=>by
  have aI:b∈bm::fb::(Fi++(Fl++Fs)):=by simp at hb ⊢;rcases hb with hb|hb|hb|hb<;>simp [hb]
  have aM:b∉Fs:=fun e=>by
   have e1:bm::fb::(Fi++(Fl++Fs))=(bm::fb::(Fi++Fl))++Fs:=by simp
   have:=H.o.nodup
   rw [e1,List.nodup_append] at this
   exact this.2.2 b hb b e rfl
  rw [HM.o.block b (Nl (aH.o b aI) aE.size) aM,aE.block b (aH.o b aI)]
 refine ⟨rfl,Xfu H.o (aC bm ψ) (aC fb ψ) (fun b hb=>aC b (by simp at hb ⊢;rcases hb with hb|hb<;>simp [hb])) HO.o (Xdw H.o.nodup aH.o ?_) ((Xp.of_below aE).trans (HM.o.wide (fun b hb=>by simp [hb]) (fun b hb=>?_)))⟩
 ·obtain ⟨g',h1,h2⟩:=HF.o
  exact ⟨g',h1,by rcases h2 with h2|h2;exact .inl h2;exact .inr (Nt aE.size h2)⟩
 ·simp only [List.mem_cons,List.mem_append] at hb ⊢
  rcases hb with hb|hb|hb|hb|hb<;>simp [hb]
def Xdd (r:Rq):Value:=.iface 199 (.agg #[ι r.kind,ι r.node,ι r.field,ι r.value,ι r.fault])
def Xec (r:Rq) (w:World) (e:Ending) (w':World):Prop:=e=.panicked [{ v:=Xdd r,recovered:=false }]/\Below w.heap.size w w'
theorem U5 (fa ga:Option Addr) (fn fc gn gc:Nat) (g:Int) (bm:Nat) (k n f v e:Int) (w:World) :
  Calls Tryz.prog 189 #[Yw (σ fa fn fc) (σ ga gn gc) g bm,.agg #[ι k,ι n,ι f,ι v,ι e]] w (Xec ⟨k,n,f,v,e⟩ w):=by
 unfold Yw
 go_enter Tryz.func189,Tryz.ntmps189
 go_wp2_with fail
 exact ⟨rfl,⟨rfl,(Br.alloc (Nr _) _).alloc ψ _⟩⟩
def X0 (e:Int):Rq:=⟨5,0,0,0,e⟩
theorem Jx (fa ga:Option Addr) (fn fc gn gc:Nat) (g:Int) (bm:Nat) (e:Int) (w:World) :
  Calls Tryz.prog 187 #[Yw (σ fa fn fc) (σ ga gn gc) g bm,ι e] w (Xec (X0 e) w):=by
 unfold Yw
 go_enter Tryz.func187,Tryz.ntmps187
 go_wp2_with fail
 refine (U5 fa ga fn fc gn gc g bm 5 0 0 0 e _).mono ?_
 rintro e1 w1 ⟨rfl,hb⟩
 exact ⟨rfl,rfl,Yi hb⟩
theorem Vx (fa ga:Option Addr) (fn fc gn gc:Nat) (g:Int) (bm:Nat) (n:Int) (w:World) (h:X1 n=true) :
  Calls Tryz.prog 193 #[Yw (σ fa fn fc) (σ ga gn gc) g bm,ι n] w fun e w'=>e=.returned (ι n)/\Below w.heap.size w w':=by
 unfold Yw
 have H:=Lh h
 clear h
 go_enter Tryz.func193,Tryz.ntmps193
 go_wp2_with fail
 refine (Yy n _).mono ?_
 rintro e1 w1 ⟨rfl,rfl⟩
 rw [H.o]
 go_wp2
 go_ret
 exact ⟨rfl,Xa _ _⟩
theorem Xds (fa ga:Option Addr) (fn fc gn gc:Nat) (g:Int) (bm:Nat) (n:Int) (w:World) (h:X1 n=false) :
  Calls Tryz.prog 193 #[Yw (σ fa fn fc) (σ ga gn gc) g bm,ι n] w (Xec (X0 5) w):=by
 unfold Yw
 have H:=Lh h
 clear h
 go_enter Tryz.func193,Tryz.ntmps193
 go_wp2_with fail
 refine (Yy n _).mono ?_
 rintro e1 w1 ⟨rfl,rfl⟩
 rw [H.o]
 go_wp2_with fail
 refine (Jx fa ga fn fc gn gc g bm 5 _).mono ?_
 rintro e1 w1 ⟨rfl,hb⟩
 exact ⟨rfl,rfl,Yi hb⟩
theorem Vk (a:Int):max a (-a)=((a.natAbs:Nat):Int):=ω
theorem Xmh (fa ga:Option Addr) (fn fc gn gc:Nat) (g:Int) (bm:Nat) (a b:Int) (w:World) (ha:-1099511627776<=a/\a<=1099511627776) (hb:-1099511627776<=b/\b<=1099511627776) (h:a.natAbs*b.natAbs<=1099511627776) :
  Calls Tryz.prog 216 #[Yw (σ fa fn fc) (σ ga gn gc) g bm,ι a,ι b] w fun e w'=>e=.returned (ι (a*b))/\Below w.heap.size w w':=by
 unfold Yw
 have h1:Hid (a.natAbs*b.natAbs / 18446744073709551616=0):=by show _=_;omega
 have h2:Hid (a.natAbs*b.natAbs % 18446744073709551616=a.natAbs*b.natAbs):=by show _=_;omega
 have aA:-1099511627776<=a*b/\a*b<=1099511627776:=by
  have:(a*b).natAbs=a.natAbs*b.natAbs:=Int.natAbs_mul a b
  omega
 go_enter Tryz.func216,Tryz.ntmps216
 go_wp2_with fail
 rw [Vk,Vk]
 refine (Tryz.bits_Mul64 a.natAbs b.natAbs ω ω _).mono ?_
 rintro e w1 ⟨rfl,rfl⟩
 rw [h1.o,h2.o]
 generalize a.natAbs*b.natAbs=p at *
 clear h1 h2
 generalize hq:a*b=q at *
 have Hq:=Lh hq
 clear hq
 go_wp2_with (rw [Hq.o])
 go_ret
 exact ⟨Qd (IntWalk.wrap64_in q ω),Xa _ _⟩
theorem Xn8 (fa ga:Option Addr) (fn fc gn gc:Nat) (g:Int) (bm:Nat) (a b:Int) (w:World) (ha:-1099511627776<=a/\a<=1099511627776) (hb:-1099511627776<=b/\b<=1099511627776) (h:1099511627776<a.natAbs*b.natAbs) :
  Calls Tryz.prog 216 #[Yw (σ fa fn fc) (σ ga gn gc) g bm,ι a,ι b] w (Xec (X0 5) w):=by
 unfold Yw
 go_enter Tryz.func216,Tryz.ntmps216
 go_wp2_with fail
 rw [Vk,Vk]
 refine (Tryz.bits_Mul64 a.natAbs b.natAbs ω ω _).mono ?_
 rintro e w1 ⟨rfl,rfl⟩
 have aA:0<a.natAbs*b.natAbs / 18446744073709551616\/1099511627776<a.natAbs*b.natAbs % 18446744073709551616:=ω
 generalize a.natAbs*b.natAbs / 18446744073709551616=p at *
 generalize a.natAbs*b.natAbs % 18446744073709551616=q at *
 by_cases hp:0<p
 ·clear aA
  go_wp2_with fail
  refine (Jx fa ga fn fc gn gc g bm 5 _).mono ?_
  rintro e1 w1 ⟨rfl,hb⟩
  exact ⟨rfl,rfl,Yi hb⟩
 ·have hq:1099511627776<q:=ω
  obtain rfl:p=0:=ω
  clear aA hp
  go_wp2_with fail
  refine (Jx fa ga fn fc gn gc g bm 5 _).mono ?_
  rintro e1 w1 ⟨rfl,hb⟩
  exact ⟨rfl,rfl,Yi hb⟩
theorem Kw (h:Xk w bm fb cap cur cs fs f lv sv m Fi Fl Fs) (hb:Below w.heap.size w W) (j:Nat) (v:Value)
  (hj:(Xb (σ (some (π fb 0)) (fs.length+1) cap) m).setIfInBounds j v=Xb (σ (some (π fb 0)) (fs.length+1) cap) m') :
  Xk (W.setCell (π bm j) v) bm fb cap cur cs fs f lv sv m' Fi Fl Fs/\Xp (bm::fb::(Fi++(Fl++Fs))) (bm::fb::(Fi++(Fl++Fs))) w (W.setCell (π bm j) v):=by
 have aA:=h.ne
 have h1:=h.keep hb
 have ho:∀ b,b≠bm->(W.setCell (π bm j) v).heap[b]?=W.heap[b]?:=fun b hb=>heap_setCell_other _ _ _ _ hb
 refine ⟨h1.putM (by rw [<-hj];exact heap_setCell_same _ _ _ _ _ _ h1.mach) (fun b hb=>ho b ?_),(Xp.of_below hb).trans ⟨rfl,rfl,rfl,ψ,fun k hk hF=>ho k (fun e=>hF (by simp [e])),fun _ h=>.inl h⟩⟩
 simp only [List.mem_cons] at hb
 rcases hb with rfl|hb
 ·exact fun e=>aA.1 e.symm
 ·exact (aA.2 b hb).1
def Vg (r:Rq) (w:World) (bm fb cap:Nat) (cs:List Value) (fs:List Fra) (f':Fra) (lv:Value) (m':Mch) (Fi Fl F:List Nat) (e:Ending) (w':World):Prop:=
 e=.panicked [{ v:=Xdd r,recovered:=false }]/\Yz w bm fb cap cs fs f' lv m' Fi Fl F w'
theorem Yz.then {w1 w2:World} (h:Yz w bm fb cap cs fs f' lv m' Fi Fl F w1) (hb:Below w1.heap.size w1 w2):Yz w bm fb cap cs fs f' lv m' Fi Fl F w2:=by
 obtain ⟨aA,sv',Fs',h1,h2⟩:=h
 exact ⟨aA,sv',Fs',h1.keep hb,h2.trans (Xp.of_below hb)⟩
theorem Xas (fa ga:Option Addr) (fn fc gn gc:Nat) (g:Int) (h:Xk w bm fb cap cur cs fs f lv sv m Fi Fl Fs) (hn:fs.length<=200) (l:List Int) (n:Int) (hst:f.stack=l++[n]) (h1:1<=n) :
  Calls Tryz.prog 190 #[Yw (σ fa fn fc) (σ ga gn gc) g bm] w fun e w'=>e=.returned (ι n)/\Yz w bm fb cap cs fs { f with stack:=l } lv m Fi Fl (bm::fb::(Fi++(Fl++Fs))) w':=by
 have aB:=Xa w (χ #[σ fa fn fc,ι g,σ ga gn gc,.pointer (some (π bm 0))] 175)
 have hA:=Lh (h.keep aB)
 have HS:=Lh hst
 clear hst h
 unfold Yw
 go_enter Tryz.func190,Tryz.ntmps190
 go_wp2_with fail
 refine (X9 fa ga fn fc gn gc g hA.o hn l n HS.o).mono ?_
 rintro e w1 ⟨rfl,aA,sv',Fs',hT,hM⟩
 have HT:=Lh hT
 have HM:=Lh hM
 clear hT hM
 go_wp2
 go_ret
 exact ⟨rfl,aA,sv',Fs',HT.o,(Xp.of_below aB).trans HM.o⟩
theorem Xbw (fa ga:Option Addr) (fn fc gn gc:Nat) (g:Int) (h:Xk w bm fb cap cur cs fs f lv sv m Fi Fl Fs) (hn:fs.length<=200) (l:List Int) (n:Int) (hst:f.stack=l++[n]) (h1:n<1) :
  Calls Tryz.prog 190 #[Yw (σ fa fn fc) (σ ga gn gc) g bm] w (Vg (X0 17) w bm fb cap cs fs { f with stack:=l } lv m Fi Fl (bm::fb::(Fi++(Fl++Fs)))):=by
 have aC:=Xa w (χ #[σ fa fn fc,ι g,σ ga gn gc,.pointer (some (π bm 0))] 175)
 have aD:=Lh h.lt
 have hA:=Lh (h.keep aC)
 have HS:=Lh hst
 clear hst h
 unfold Yw
 go_enter Tryz.func190,Tryz.ntmps190
 go_wp2_with fail
 refine (X9 fa ga fn fc gn gc g hA.o hn l n HS.o).mono ?_
 rintro e w1 ⟨rfl,aB,sv',Fs',hT,hM⟩
 have HT:=Lh hT
 have HM:=Lh hM
 have aA:w.heap.size∉bm::fb::(Fi++(Fl++Fs)):=fun e=>by have:=aD.o _ e;omega
 have k0:=hM.cell (Xd (w:=w) 0 _ rfl) aA
 have k1:=hM.cell (Xd (w:=w) 1 _ rfl) aA
 have k2:=hM.cell (Xd (w:=w) 2 _ rfl) aA
 have k3:=hM.cell (Xd (w:=w) 3 _ rfl) aA
 clear hT hM
 go_wp2_with fail
 refine (Jx fa ga fn fc gn gc g bm 17 _).mono ?_
 rintro e1 w2 ⟨rfl,hb⟩
 exact ⟨rfl,rfl,Yz.then ⟨aB,sv',Fs',HT.o,(Xp.of_below aC).trans HM.o⟩ hb⟩
theorem Xp.notin (h:Xp F F' w w') (hn:n<w.heap.size) (hF:n∉F):n∉F':=fun e=>by
 rcases h.new n e with h1|h1
 ·exact hF h1
 ·omega
def Zk (op:Int):Int:=if 20<=op/\op<=23 then 1 else 0
def Yb (op a b:Int):Int:=
 if op=15 then (if X1 (a+b) then 0 else 5) else if op=16 then (if X1 (a - b) then 0 else 5) else if op=17 then (if a.natAbs*b.natAbs<=1099511627776 then 0 else 5)
 else if op=18\/op=19 then (if b=0 then 18 else 0) else 0
def Qk (op a b:Int):Int:=
 if op=15 then a+b else if op=16 then a - b else if op=17 then a*b else if op=18 then a.tdiv b else if op=19 then a.tmod b
 else if op=20\/op=24 then b2i (a == b) else if op=21\/op=25 then b2i (a != b) else if op=22 then b2i (decide (a<b)) else if op=23 then b2i (decide (a<=b))
 else if op=27 then max a b else min a b
def Zv (op a b:Int) (w:World) (bm fb cap:Nat) (cs:List Value) (fs:List Fra) (f':Fra) (lv:Value) (m:Mch) (Fi Fl F:List Nat) (e:Ending) (w':World):Prop:=
 (Yb op a b=0/\e=.returned (ι (Qk op a b))/\Yz w bm fb cap cs fs f' lv { m with compares:=m.compares+Zk op } Fi Fl F w')\/
 (Yb op a b≠0/\Vg (X0 (Yb op a b)) w bm fb cap cs fs f' lv { m with compares:=m.compares+Zk op } Fi Fl F e w')
theorem tdm (a b:Int) (ha:-1099511627776<=a/\a<=1099511627776) (hb:-1099511627776<=b/\b<=1099511627776) (hz:b≠0):wrap64 (a.tdiv b)=a.tdiv b/\wrap64 (a.tmod b)=a.tmod b:=by
 have h1:(a.tdiv b).natAbs<=a.natAbs:=by rw [Int.natAbs_tdiv];exact Nat.div_le_self _ _
 have h2:(a.tmod b).natAbs<=a.natAbs:=by rw [Int.natAbs_tmod];exact Nat.mod_le _ _
 exact ⟨IntWalk.wrap64_in _ ω,IntWalk.wrap64_in _ ω⟩
theorem Xuh (h:¬(20<=op/\op<=23)):({ m with compares:=m.compares+Zk op }:Mch)=m:=by
 unfold Zk
 rw [if_neg h]
 simp
theorem X16 (h:20<=op/\op<=23):({ m with compares:=m.compares+Zk op }:Mch)={ m with compares:=m.compares+1 }:=by
 unfold Zk
 rw [if_pos h]
theorem Xdf (op:Int) (aK:Ya op) (fa ga:Option Addr) (fn fc gn gc:Nat) (g:Int) (h:Xk w bm fb cap cur cs fs f lv sv m Fi Fl Fs) (hn:fs.length<=200) (l:List Int) (a b:Int) (hst:f.stack=l++[a]++[b])
  (ha:-1099511627776<=a/\a<=1099511627776) (hb:-1099511627776<=b/\b<=1099511627776) (hc:-1<=m.compares/\m.compares<=4611686018427387904) :
  Calls Tryz.prog 196 #[Yw (σ fa fn fc) (σ ga gn gc) g bm,ι op] w (Zv op a b w bm fb cap cs fs { f with stack:=l } lv m Fi Fl (bm::fb::(Fi++(Fl++Fs)))):=by
 have aM:=Lh aK
 clear aK
 have aQ:=Xa w (χ #[σ fa fn fc,ι g,σ ga gn gc,.pointer (some (π bm 0))] 175)
 have aT:=Lh h.lt
 have hA:=Lh (h.keep aQ)
 have HS:=Lh hst
 clear hst h
 have aC:w.heap.size∉bm::fb::(Fi++(Fl++Fs)):=fun e=>by have:=aT.o _ e;omega
 unfold Yw
 go_enter Tryz.func196,Tryz.ntmps196
 go_wp2_with fail
 refine (X9 fa ga fn fc gn gc g hA.o hn (l++[a]) b HS.o).mono ?_
 rintro e w1 ⟨rfl,aS,aX,aV,aO,aI⟩
 have j0:=aI.cell (Xd (w:=w) 0 _ rfl) aC
 have j1:=aI.cell (Xd (w:=w) 1 _ rfl) aC
 have j2:=aI.cell (Xd (w:=w) 2 _ rfl) aC
 have j3:=aI.cell (Xd (w:=w) 3 _ rfl) aC
 have aB:=aI.notin ψ aC
 have aN:=Lh aO
 have aL:=Lh aI
 clear aO aI
 go_wp2_with fail
 refine (X9 fa ga fn fc gn gc g aN.o hn l a rfl).mono ?_
 rintro e w2 ⟨rfl,aA,aH,aE,aP,aJ⟩
 have k0:=aJ.cell j0 aB
 have k1:=aJ.cell j1 aB
 have k2:=aJ.cell j2 aB
 have k3:=aJ.cell j3 aB
 have aD:=Lh aP
 have aF:=Lh (((Xp.of_below aQ).trans aL.o).trans aJ)
 clear aP aJ j0 j1 j2 j3 aN aL
 have aK:=aM.o
 unfold Ya at aK
 have:(op=15\/op=16)\/op=17\/(op=18\/op=19)\/(op=20\/op=21\/op=22\/op=23)\/(op=24\/op=25)\/op=27\/op=28:=ω
 clear aM aK
 rcases this with h|rfl|h|h|h|h
 ·obtain ⟨x,hx⟩:∃ x,x=if op=15 then a+b else a - b:=⟨_,rfl⟩
  have HX:=Lh hx
  clear hx
  rcases h with rfl|rfl
  all_goals
   go_wp2_with fail
   have hx:=HX.o
   simp only [Int.reduceEq,if_true,if_false] at hx
   rw [<-hx]
   cases hv:X1 x with
   | true=>
    refine (Vx fa ga fn fc gn gc g bm _ _ hv).mono ?_
    rintro e w3 ⟨rfl,aG⟩
    rw [hx] at hv
    have HV:=Lh hv
    clear hv hx
    go_wp2
    go_ret
    have hv:=HV.o
    exact .inl ⟨by simp [Yb,hv],by rw [HX.o];rfl,by rw [Xuh δ];exact Yz.then ⟨aA,aH,aE,aD.o,aF.o⟩ aG⟩
   | false=>
    refine (Xds fa ga fn fc gn gc g bm _ _ hv).mono ?_
    rintro e w3 ⟨rfl,aG⟩
    rw [hx] at hv
    refine ⟨rfl,.inr ⟨by simp [Yb,hv],?_⟩⟩
    rw [Xuh δ]
    first|rw [show Yb 15 a b=5 by simp [Yb,hv]]|rw [show Yb 16 a b=5 by simp [Yb,hv]]
    exact ⟨rfl,Yz.then ⟨aA,aH,aE,aD.o,aF.o⟩ aG⟩
 ·by_cases hv:a.natAbs*b.natAbs<=1099511627776
  all_goals
   have HV:=Lh hv
   clear hv
   go_wp2_with fail
  ·refine (Xmh fa ga fn fc gn gc g bm a b _ ha hb HV.o).mono ?_
   rintro e w3 ⟨rfl,aG⟩
   go_wp2
   go_ret
   exact .inl ⟨by simp [Yb,HV.o],rfl,by rw [Xuh δ];exact Yz.then ⟨aA,aH,aE,aD.o,aF.o⟩ aG⟩
  ·refine (Xn8 fa ga fn fc gn gc g bm a b _ ha hb (by have:=HV.o;omega)).mono ?_
   rintro e w3 ⟨rfl,aG⟩
   refine ⟨rfl,.inr ⟨by simp [Yb,HV.o],?_⟩⟩
   rw [Xuh δ,show Yb 17 a b=5 by simp [Yb,HV.o]]
   exact ⟨rfl,Yz.then ⟨aA,aH,aE,aD.o,aF.o⟩ aG⟩
 ·by_cases hz:b=0
  ·have HZ:=Lh hz
   have aU:(b == 0)=true:=by rw [hz];rfl
   clear hz
   rcases h with rfl|rfl
   all_goals
    go_wp2_with fail
    refine (Jx fa ga fn fc gn gc g bm 18 _).mono ?_
    rintro e w3 ⟨rfl,aG⟩
    refine ⟨rfl,.inr ⟨by simp [Yb,HZ.o],?_⟩⟩
    rw [Xuh δ]
    first|rw [show Yb 18 a b=18 by simp [Yb,HZ.o]]|rw [show Yb 19 a b=18 by simp [Yb,HZ.o]]
    exact ⟨rfl,Yz.then ⟨aA,aH,aE,aD.o,aF.o⟩ aG⟩
  ·have aU:(b == 0)=false:=beq_eq_false_iff_ne.2 hz
   have hd:=tdm a b ha hb hz
   rcases h with rfl|rfl
   all_goals
    go_wp2
    go_ret
    exact .inl ⟨by simp [Yb,hz],Qd (by unfold Qk;simp only [Int.reduceEq,or_false,if_false,if_true];try (first|rfl|exact hd.1|exact hd.2)),by rw [Xuh δ];exact ⟨aA,aH,aE,aD.o,aF.o⟩⟩
 ·have cC:=aD.o.cCompares
  have aW:=aD.o.frm 7
  have hP:=Kw (m':={ m with compares:=m.compares+1 }) aD.o Br 7 (ι (m.compares+1)) rfl
  have aR:w.heap.size≠bm:=fun e=>aC (by simp [e])
  have HP:=Lh hP
  clear hP
  rcases h with rfl|rfl|rfl|rfl
  all_goals
   go_wp2_with fail
   refine (Ka _ _).mono ?_
   rintro e w3 ⟨rfl,rfl⟩
   go_wp2
   go_ret
   exact .inl ⟨by simp [Yb],Qd (by simp [Qk]),by rw [X16 δ];exact ⟨aA,aH,aE,HP.o.1,aF.o.trans HP.o.2⟩⟩
 ·rcases h with rfl|rfl
  all_goals
   go_wp2_with fail
   refine (Ka _ _).mono ?_
   rintro e w3 ⟨rfl,rfl⟩
   go_wp2
   go_ret
   exact .inl ⟨by simp [Yb],Qd (by simp [Qk]),by rw [Xuh δ];exact ⟨aA,aH,aE,aD.o,aF.o⟩⟩
 ·rcases h with rfl|rfl
  all_goals
   go_wp2
   go_ret
   exact .inl ⟨by simp [Yb],Qd (by simp [Qk]),by rw [Xuh δ];exact ⟨aA,aH,aE,aD.o,aF.o⟩⟩
def Qg (args:List Int) (z k:Nat):List Int:=List.replicate k 0++(args.drop k++List.replicate z 0)
theorem Xd4 (h:args[k]?=some a):(Qg args z (k+1)).set k a=Qg args z k:=by
 unfold Qg
 have hk:k<args.length:=(Ll h)
 rw [List.drop_eq_getElem_cons hk,List.replicate_succ',List.append_assoc,List.set_append_right _ _ ψ]
 have:args[k]=a:=by rw [Lg hk] at h;simpa using h
 simp [this]
theorem Xdq (h:k<=args.length):(Qg args z k).length=args.length+z:=by
 simp [Qg];omega
theorem Xc9 (args:List Int) (z:Nat):Qg args z args.length=List.replicate (args.length+z) 0:=by
 simp [Qg,List.replicate_append_replicate]
theorem K7 (W:World) (n:Nat) (hn:n<=1048576):(Instr.makeSlice 22 (ι (n:Int)) (ι (n:Int))).run Tryz.prog W=.ok (σ (some (π W.heap.size 0)) n n) (W.alloc (χ (Xx (List.replicate n 0)) 3)):=by
 rw [Xe7 W n hn]
 simp [Js,Xx]
theorem Xe4 (h:l[k]?=some a):l.take (k+1)=l.take k++[a]:=by
 obtain ⟨hk,rfl⟩:=List.getElem?_eq_some_iff.1 h
 exact List.take_succ_eq_append_getElem hk
theorem Xp.drop (hb:Below w.heap.size w W) (h:Xp (bl::F) F' W wr) (hbl:w.heap.size<=bl):Xp F F' w wr:=
 ⟨h.os.trans hb.os,h.tape.trans hb.tape,h.output.trans hb.output,Nt hb.size h.size,fun k hk hF=>by
  rw [h.block k (Nl hk hb.size) (fun e=>by rw [List.mem_cons] at e;rcases e with e|e;omega;exact hF e),hb.block k hk],fun b aA=>by
  rcases h.new b aA with h1|h1
  ·rw [List.mem_cons] at h1
   rcases h1 with rfl|h1
   ·exact .inr hbl
   ·exact .inl h1
  ·exact .inr (Nt hb.size h1)⟩
theorem Xk.rowOwn (h:Xk w bm fb cap cur cs fs f lv sv m Fi Fl Fs):w.ownsRow 0 129 4 (σ (some (π fb 0)) (fs.length+1) cap) (fs.length+1) (cs++[ι f.fn,ι f.pc,lv,sv]):=
 ⟨by simp [h.cslen];omega,.inr ⟨fb,cap,cur,rfl,Nat.zero_le _,h.row,h.capl,by unfold maxLen;have:=h.capm;omega,h.csize,h.take⟩⟩
theorem add_zero (g j:Nat):((π g 0):Addr).add j=(π g j):=by unfold Addr.add;split<;>simp_all
theorem Xft (W:World) (vs:List Value) (T:TypeId):∀ j u,vs[j]?=some u->(W.alloc (χ vs.toArray T)).drew.cell? (((π W.heap.size 0):Addr).add j)=some u:=fun j u hu=>by
 rw [add_zero]
 show (W.alloc (χ vs.toArray T)).cell? _=_
 rw [Y5];simpa using hu
theorem Vb:(Tryz.prog.info? 129).map (fun i=>(i.zero,i.size,i.bytes))=some (some (.agg #[ι 0,ι 0,ν,ν]),4,64):=by kernel_rfl
theorem Xij {w5:World} {f1:Fra} {o:Obj} {g2 cap2:Nat} {locs:List Int} (HT:Xk wr bm fb cap cur cs fs f1 lv sv m Fi Fl Fs) (hM:Xp F (bm::fb::(Fi++(Fl++Fs))) w wr) (hn:locs.length=n) (hn2:n<=1000000) (h64:∀ x∈locs,in64 x) (hk:k<=1000000)
  (hbw:w.heap.size<=bl) (hnb:bl∉bm::fb::(Fi++(Fl++Fs))) (hbl:wr.heap[bl]?=some (χ (Xx locs) 3 (0,0)))
  (hown:w5.ownsRow 0 129 4 (σ (some (π g2 0)) (fs.length+1+1) cap2) (fs.length+1+1) ((cs++[ι f1.fn,ι f1.pc,lv,sv])++[ι (k:Int),ι 0,σ (some (π bl 0)) n n,ν]))
  (hg:((wr.alloc o).drew).grownBy w5 (some fb)) (hlies:some fb=some g2\/g2=((wr.alloc o).drew).heap.size) :
  ∃ F',X3 (w5.setCell (π bm 0) (σ (some (π g2 0)) (fs.length+1+1) cap2)) bm { m with frames:=fs++[f1]++[⟨k,0,locs,[]⟩] } F'/\Xp F F' w (w5.setCell (π bm 0) (σ (some (π g2 0)) (fs.length+1+1) cap2)):=by
 have aF:=HT.ne
 have aE:=HT.lt
 have aI:bl<wr.heap.size:=(La hbl)
 have aD:g2=fb\/wr.heap.size<g2:=by
  rcases hlies with h|h
  ·left;simpa using h.symm
  ·right;rw [h];simp
 have aB:g2≠bm:=by
  have:=aE bm ψ
  rcases aD with h|h
  ·rw [h];exact fun e=>aF.1 e.symm
  ·omega
 have h5:∀ b,b<wr.heap.size->b≠fb->w5.heap[b]?=wr.heap[b]?:=fun b hb aN=>by
  rw [hg.block b φ (fun e=>aN (by simpa using e))]
  exact Ha _ _ _ hb
 have ho:∀ b,b≠bm->(w5.setCell (π bm 0) (σ (some (π g2 0)) (fs.length+1+1) cap2)).heap[b]?=w5.heap[b]?:=fun b hb=>heap_setCell_other _ _ _ _ hb
 have aA:∀ b∈Fi++(Fl++Fs),(w5.setCell (π bm 0) (σ (some (π g2 0)) (fs.length+1+1) cap2)).heap[b]?=wr.heap[b]?:=fun b hb=>by
  rw [ho b (aF.2 b hb).1,h5 b (aE b (by simp only [List.mem_cons];exact .inr (.inr hb))) (aF.2 b hb).2]
 have aH:(w5.setCell (π bm 0) (σ (some (π g2 0)) (fs.length+1+1) cap2)).heap[bl]?=some (χ (Xx locs) 3 (0,0)):=by
  rw [ho bl (fun e=>hnb (by simp [e])),h5 bl aI (fun e=>hnb (by simp [e]))];exact hbl
 have aC:(w5.setCell (π bm 0) (σ (some (π g2 0)) (fs.length+1+1) cap2)).ownsRow 0 129 4 (σ (some (π g2 0)) (fs.length+1+1) cap2) (fs.length+1+1) ((cs++[ι f1.fn,ι f1.pc,lv,sv])++[ι (k:Int),ι 0,σ (some (π bl 0)) n n,ν]):=by
  refine ⟨hown.1,?_⟩
  rcases hown.2 with ⟨h,_⟩|⟨g',c',cu,he,hb,aO,r⟩
  ·cases h
  ·have:g'=g2:=by simp at he;exact he.1.symm
   exact .inr ⟨g',c',cu,he,hb,by rw [ho g' (by rw [this];exact aB)];exact aO,r⟩
 have aK:Yv (w5.setCell (π bm 0) (σ (some (π g2 0)) (fs.length+1+1) cap2)) (σ (some (π bl 0)) n n) locs [bl]:=
  ⟨⟨ψ,.inr ⟨bl,n,Xx locs,by rw [hn],Nat.zero_le _,aH,ω,by unfold maxLen;omega,by simp only [Xx,List.size_toArray,List.length_map,Nat.mul_one];exact hn,by simp only [Xx,Nat.mul_one];exact List.take_of_length_le ψ⟩⟩,rfl,h64⟩
 have aL:Yv (w5.setCell (π bm 0) (σ (some (π g2 0)) (fs.length+1+1) cap2)) ν [] []:=⟨World.ownsRow_nil _ _ _ _,rfl,ψ⟩
 refine ⟨bm::g2::((Fi++(Fl++Fs))++([bl]++[])),⟨σ (some (π g2 0)) (fs.length+1+1) cap2,(cs++[ι f1.fn,ι f1.pc,lv,sv])++[ι (k:Int),ι 0,σ (some (π bl 0)) n n,ν],(Fi++(Fl++Fs))++([bl]++[]),?_,?_,?_,by simp [Value.ownBlock],?_⟩,?_⟩
 ·exact heap_setCell_same _ _ _ _ _ _ (by rw [h5 bm (aE bm ψ) aF.1];exact HT.mach)
 ·have:(fs++[f1]++[(⟨k,0,locs,[]⟩:Fra)]).length=fs.length+1+1:=by simp
  rw [this];exact aC
 ·exact ((HT.init.keep (fun b hb=>aA b (by simp [hb]))).add (HT.loc.keep (fun b hb=>aA b (by simp [hb]))) (HT.stk.keep (fun b hb=>aA b (by simp [hb]))) HT.fn HT.pc).add (f:=⟨k,0,locs,[]⟩) aK aL ⟨by show (_:Int)<=(k:Int);omega,by show (k:Int)<=_;omega⟩ ⟨by show (_:Int)<=(0:Int);omega,by show (0:Int)<=_;omega⟩
 ·have hd:=HT.nodup
  simp only [List.nodup_cons,List.mem_cons,not_or] at hd hnb
  have aG:∀ b∈Fi++(Fl++Fs),b<wr.heap.size:=fun b hb=>aE b (by simp only [List.mem_cons];exact .inr (.inr hb))
  simp only [List.append_nil,List.nodup_cons,List.mem_cons,not_or]
  refine ⟨⟨fun e=>aB e.symm,?_⟩,?_,?_⟩
  ·rw [List.mem_append,not_or];exact ⟨hd.1.2,by simp;exact fun e=>hnb.1 e.symm⟩
  ·rw [List.mem_append,not_or]
   constructor
   ·intro e
    rcases aD with h|h
    ·rw [h] at e;exact hd.2.1 e
    ·have:=aG _ e;omega
   ·simp
    intro e
    rcases aD with h|h
    ·exact hnb.2.1 (e▸h)
    ·omega
  ·rw [List.nodup_append]
   exact ⟨hd.2.2,ψ,fun a ha b hb=>by simp at hb;subst hb;exact fun e=>hnb.2.2 (e▸ha)⟩
 ·refine ⟨hg.os.trans hM.os,hg.tape.trans hM.tape,hg.output.trans hM.output,by have h1:=hg.size;have h2:=hM.size;simp at h1 ⊢;omega,fun b hb hF=>?_,fun b hb=>?_⟩
  ·have aM:b<wr.heap.size:=Nl hb hM.size
   have aJ:=hM.notin hb hF
   rw [ho b (fun e=>aJ (by simp [e])),h5 b aM (fun e=>aJ (by simp [e])),hM.block b hb hF]
  ·simp only [List.mem_cons,List.mem_append,List.append_nil,List.not_mem_nil,or_false] at hb
   rcases hb with hb|hb|(hb|hb|hb)|hb
   ·exact hM.new b (by simp [hb])
   ·rcases aD with h|h
    ·exact hM.new b (by simp [hb,h])
    ·right;have:=hM.size;omega
   ·exact hM.new b (by simp [hb])
   ·exact hM.new b (by simp [hb])
   ·exact hM.new b (by simp [hb])
   ·right;omega
theorem Xoh (hs:f.stack=l++args) (h:∀ n∈f.stack,in64 n):∀ n∈args++List.replicate z 0,in64 n:=fun n hn=>by
 rw [List.mem_append] at hn
 rcases hn with hn|hn
 ·exact h n (by rw [hs];simp [hn])
 ·rw [List.eq_of_mem_replicate hn];exact ⟨δ,δ⟩
theorem Xcc (args:List Int) (z:Nat):Qg args z 0=args++List.replicate z 0:=by simp [Qg]
def Xby (W:World) (bm fb cap:Nat) (cs:List Value) (fs:List Fra) (f':Fra) (lv:Value) (m:Mch) (Fi Fl F:List Nat) (bl:Nat) (wr:World):Prop:=
 ∃ cur' sv' Fs',Xk wr bm fb cap cur' cs fs f' lv sv' m Fi Fl Fs'/\Xp (bl::F) (bl::bm::fb::(Fi++(Fl++Fs'))) W wr/\bl∉bm::fb::(Fi++(Fl++Fs'))
def Xoe (w:World) (bm fb cap:Nat) (cs:List Value) (fs:List Fra) (f:Fra) (l args:List Int) (z k:Nat) (lv:Value) (m:Mch) (Fi Fl F:List Nat) (e:Ending) (w':World):Prop:=
 (fs.length+1<200/\e=.returned (.tuple #[])/\∃ F',X3 w' bm { m with frames:=fs++[{ f with stack:=l }]++[⟨k,0,args++List.replicate z 0,[]⟩] } F'/\Xp F F' w w')\/
 (¬fs.length+1<200/\Vg (X0 19) w bm fb cap cs fs { f with stack:=l } lv m Fi Fl F e w')
theorem Xh8 (fa ga:Option Addr) (fn fc gc:Nat) (g:Int) (h:Xk w bm fb cap cur cs fs f lv sv m Fi Fl Fs) (hn:fs.length<200)
  (B:Nat) (hB:∀ b∈bm::fb::(Fi++(Fl++Fs)),B<=b) (funcs:List Fun) (hfl:funcs.length<=1000000) (hfs:Xf B w 5 (Zl B) (σ ga funcs.length gc) funcs) (k:Nat) (x:Fun) (hx:funcs[k]?=some x) (l args:List Int) (aR:f.stack=l++args) (hp:x.params=args.length) (z:Nat) (hq:x.locals=args.length+z) (hq2:args.length+z<=100) (h64:∀ n∈f.stack,in64 n) (hm:m.frames=fs++[f]) :
  Calls Tryz.prog 191 #[Yw (σ fa fn fc) (σ ga funcs.length gc) g bm,ι (k:Int)] w (Xoe w bm fb cap cs fs f l args z k lv m Fi Fl (bm::fb::(Fi++(Fl++Fs)))):=by
 have bG:=Xa w (χ #[σ fa fn fc,ι g,σ ga funcs.length gc,.pointer (some (π bm 0))] 175)
 have bJ:=Lh h.lt
 have HB:=Lh hB
 have bO:B<=w.heap.size:=Nat.le_of_lt (Nat.lt_of_le_of_lt (hB bm ψ) (h.lt bm ψ))
 have aY:w.heap.size∉bm::fb::(Fi++(Fl++Fs)):=fun e=>by have:=bJ.o _ e;omega
 obtain ⟨a0,aT,bH,cJ,cK,cL,hE⟩:=hfs
 obtain ⟨rfl,rfl⟩:ga=a0/\gc=aT:=by simpa using bH
 have cI:k<funcs.length:=(Ll hx)
 rcases hE with h0|⟨b,o,rfl,bR,hE⟩
 ·rw [h0] at hx;simp at hx
 obtain ⟨g1,g2,g3,g4,⟨xv,g5,g6⟩,g7,-,-⟩:=(hE k x hx).below (bG.mono bO) bR
 obtain ⟨xa,aF,rfl,-,-,-,-⟩:=g6
 have bQ:=bG.then (Xa _ (χ #[.string x.name,ι x.params,ι x.locals,.bool x.result,σ xa x.code.length aF] 93))
 rw [hp] at g2
 rw [hq] at g3
 have H:=Lh h
 have HS:=Lh aR
 have bL:=Lh h64
 have cD:=Lh hm
 have bV:∀ W,(Instr.makeSlice 22 (ι ((args.length:Int)+(z:Int))) (ι ((args.length:Int)+(z:Int)))).run Tryz.prog W=.ok (σ (some (π W.heap.size 0)) (args.length+z) (args.length+z)) (W.alloc (χ (Xx (List.replicate (args.length+z) 0)) 3)):=by
  intro W
  have:=K7 W (args.length+z) ω
  rw [Int.natCast_add] at this
  exact this
 clear h hB hE bH aR hx hp hq h64 hm
 unfold Yw
 go_enter Tryz.func191,Tryz.ntmps191
 go_wp2_with fail
 obtain ⟨W3,aE⟩:∃ W,W=(((w.alloc (χ #[σ fa fn fc,ι g,σ (some (π b o)) funcs.length gc,.pointer (some (π bm 0))] 175)).alloc (χ #[.string x.name,ι (args.length:Int),ι ((args.length:Int)+(z:Int)),.bool x.result,σ xa x.code.length aF] 93)).alloc (χ (Xx (List.replicate (args.length+z) 0)) 3)):=⟨_,rfl⟩
 have aI:Below w.heap.size w W3:=by rw [aE];exact ((Br.alloc (Nr _) _).alloc ψ _).alloc φ _
 have aJ:W3.heap.size=w.heap.size+1+1+1:=by rw [aE];simp
 have aB:Hid (Xo W3 w.heap.size [σ fa fn fc,ι g,σ (some (π b o)) funcs.length gc,.pointer (some (π bm 0))]):=by rw [aE];exact (Xd.alloc _).alloc _
 have bS:Hid (W3.heap[w.heap.size+1+1]?=some (χ (Xx (Qg args z args.length)) 3 (0,0))):=by
  show _=_
  rw [Xc9,aE]
  have:=Hn ((w.alloc (χ #[σ fa fn fc,ι g,σ (some (π b o)) funcs.length gc,.pointer (some (π bm 0))] 175)).alloc (χ #[.string x.name,ι (args.length:Int),ι ((args.length:Int)+(z:Int)),.bool x.result,σ xa x.code.length aF] 93)) (χ (Xx (List.replicate (args.length+z) 0)) 3)
  simpa using this
 have aW:w.heap.size+1+1∉bm::fb::(Fi++(Fl++Fs)):=fun e=>by have:=bJ.o _ e;omega
 have aA:w.heap.size∉(w.heap.size+1+1)::bm::fb::(Fi++(Fl++Fs)):=fun e=>by
  rw [List.mem_cons] at e;rcases e with e|e;omega;exact aY e
 have bA:Hid (Xby W3 bm fb cap cs fs { f with stack:=l++args.take args.length } lv m Fi Fl (bm::fb::(Fi++(Fl++Fs))) (w.heap.size+1+1) W3):=by
  refine ⟨cur,sv,Fs,?_,Xp.self,aW⟩
  have:({ f with stack:=l++args.take args.length }:Fra)=f:=by rw [List.take_length,<- HS.o]
  rw [this];exact H.o.keep aI
 rw [<-aE]
 have cE:=Lh aE
 have aS:=Lh aJ
 clear aE aJ bV g1 g2 g3 g4 g5
 go_loopg [6] (args.length+1) (fun gk ix wr=>∃ r:Nat,r<gk/\r<=args.length/\ix=ι ((r:Int) - 1)/\Hid (Xby W3 bm fb cap cs fs { f with stack:=l++args.take r } lv m Fi Fl (bm::fb::(Fi++(Fl++Fs))) (w.heap.size+1+1) wr)/\Hid (wr.heap[w.heap.size+1+1]?=some (χ (Xx (Qg args z r)) 3 (0,0))))
 case atStart=>exact ⟨args.length,ω,Nr _,rfl,bA,bS⟩
 case round=>
  obtain ⟨r,cN,cO,rfl,aR,hh⟩:=hrel
  obtain ⟨aH,sv',Fs',hT,hM,aV⟩:=aR.o
  have k0:=hM.cell (aB.o 0 _ rfl) aA
  have k1:=hM.cell (aB.o 1 _ rfl) aA
  have k2:=hM.cell (aB.o 2 _ rfl) aA
  have k3:=hM.cell (aB.o 3 _ rfl) aA
  have bK:w.heap.size+1+1<wr.heap.size:=(La hh.o)
  have bW:w.heap.size∉bm::fb::(Fi++(Fl++Fs')):=fun e=>(hM.notin (by have:=aS.o;omega) aA) (List.mem_cons_of_mem _ e)
  by_cases cM:0<r
  ·obtain ⟨q,rfl⟩:∃ q,r=q+1:=⟨r - 1,ω⟩
   obtain ⟨a,ha⟩:∃ a,args[q]?=some a:=⟨_,Lg ω⟩
   have HT:=Lh hT
   have HM:=Lh hM
   have HA:=Lh ha
   clear hT hM ha
   go_wp2_with fail
   refine (X9 fa (some (π b o)) fn fc funcs.length gc g HT.o ω (l++args.take q) a (by show l++args.take (q+1)=_;rw [Xe4 HA.o,List.append_assoc])).mono ?_
   rintro e w2 ⟨rfl,aU,cC,bD,bF,aP⟩
   have aQ:w2.heap[w.heap.size+1+1]?=some (χ (Xx (Qg args z (q+1))) 3 (0,0)):=by rw [aP.block _ bK aV];exact hh.o
   have aN:=aP.notin bK aV
   obtain ⟨old,aO⟩:∃ old,(Qg args z (q+1))[q]?=some old:=⟨_,Lg (by rw [Xdq ω];omega)⟩
   have cl:w2.cell? (π (w.heap.size+1+1) q)=some (ι old):=by rw [cell_of_row _ _ _ _ _ _ aQ];exact Qe aO
   have fr:=frozen_of_row _ _ q _ _ aQ
   have aX:Hid ((w2.setCell (π (w.heap.size+1+1) q) (ι a)).heap[w.heap.size+1+1]?=some (χ (Xx (Qg args z q)) 3 (0,0))):=by
    show _=_;rw [heap_setCell_same _ _ _ _ _ _ aQ,Jq,Xd4 HA.o]
   have ho:∀ bb,bb≠w.heap.size+1+1->(w2.setCell (π (w.heap.size+1+1) q) (ι a)).heap[bb]?=w2.heap[bb]?:=fun bb hb=>heap_setCell_other _ _ _ _ hb
   have bB:Hid (Xby W3 bm fb cap cs fs { f with stack:=l++args.take q } lv m Fi Fl (bm::fb::(Fi++(Fl++Fs))) (w.heap.size+1+1) (w2.setCell (π (w.heap.size+1+1) q) (ι a))):=by
    refine ⟨aU,cC,bD,?_,(HM.o.trans (aP.wide (F:=(w.heap.size+1+1)::bm::fb::(Fi++(Fl++Fs'))) (F':=(w.heap.size+1+1)::bm::fb::(Fi++(Fl++bD))) (fun b hb=>List.mem_cons_of_mem _ hb) (fun b hb=>?_))).trans ⟨rfl,rfl,rfl,ψ,fun k hk hF=>ho k (fun e=>hF (by simp [e])),fun _ h=>.inl h⟩,aN⟩
    ·exact bF.sub (fun b hb=>ho b (fun e=>aN (e▸hb)))
    ·rw [List.mem_cons] at hb;rcases hb with hb|hb;right;simp [hb];left;exact hb
   clear bF aP aO aQ
   go_wp2_with fail
   go_roundg (gk - 1)
   case measure=>omega
   case rel=>exact ⟨q,ω,ω,by go_num,bB,aX⟩
  ·obtain rfl:r=0:=ω
   have bE:=Lh ((hM.drop aI ω).wide (F:=bm::fb::(Fi++(Fl++Fs))) (F':=bm::fb::(Fi++(Fl++Fs'))) (fun _ h=>h) (fun _ h=>.inl (List.mem_cons_of_mem _ h)))
   have HT:Hid (Xk wr bm fb cap aH cs fs { f with stack:=l } lv sv' m Fi Fl Fs'):=by
    have e:({ f with stack:=l++args.take 0 }:Fra)={ f with stack:=l }:=by simp
    rw [e] at hT;exact hT
   have bU:Hid (wr.heap[w.heap.size+1+1]?=some (χ (Xx (args++List.replicate z 0)) 3 (0,0))):=by show _=_;rw [<-Xcc];exact hh.o
   have cF:=HT.o.cFrames
   have fF:=HT.o.frm 0
   have bT:bm<wr.heap.size:=HT.o.lt bm ψ
   have aC:¬bm=fb:=HT.o.ne.1
   have bX:w.heap.size<wr.heap.size:=ω
   have bC:¬w.heap.size=fb:=fun e=>bW (by simp [e])
   by_cases aL:fs.length+1<200
   ·have aZ:=Lh HT.o.rowOwn
    obtain ⟨ti,bY,bZ,cA,cB⟩:=info_parts Vb
    clear hT hM
    go_wp2_with fail
    go_region_law (refine step_append_lies _ rfl (.tmp 43) (.tmp 47) 47 rfl 0 129 ti (.agg #[ι 0,ι 0,ν,ν]) 4 64 Tryz.underlying47 bY bZ cA cB rfl δ (σ (some (π fb 0)) (fs.length+1) cap) (fs.length+1) (cs++[ι f.fn,ι f.pc,lv,sv']) rfl ((aZ.o.alloc _).drew) (π wr.heap.size 0) 1 1 [ι (k:Int),ι 0,σ (some (π (w.heap.size+1+1) 0)) (args.length+z) (args.length+z),ν] rfl rfl (Xft wr _ _) (by simp [Value.oneCell']) ω (by unfold maxLen;omega) ω (Nat.zero_le _) _ rfl ?_;intro g2 bN w5 aD aK aM bI;have aG:=Lh aD;have bM:=Lh aK;have cG:=(World.grownBy.cell aK (show ((wr.alloc (χ #[ι (k:Int),ι 0,σ (some (π (w.heap.size+1+1) 0)) (args.length+z) (args.length+z),ν] 129)).drew).cell? (π bm 0)=_ from Xc (Xa _ _) cF) (by simp [Value.ownBlock];exact aC));have cP:=(World.grownBy.cell aK (show ((wr.alloc (χ #[ι (k:Int),ι 0,σ (some (π (w.heap.size+1+1) 0)) (args.length+z) (args.length+z),ν] 129)).drew).cell? (π w.heap.size 3)=_ from Xc (Xa _ _) k3) (by simp [Value.ownBlock];exact bC));have cH:w5.frozen? (π bm 0)=false:=(by rw [World.frozen?_of_block (w:=wr) (a:=(π bm 0)) (by rw [aK.block bm φ (by simp [Value.ownBlock];exact aC)];exact Ha _ _ _ bT)];exact fF);clear aD aK)
    all_goals go_end0
    all_goals exact .inl ⟨aL,rfl,Xij HT.o bE.o ψ ω (Xoh HS.o bL.o) ω ω aV bU.o aG.o bM.o aM⟩
   ·clear hT hM
    go_wp2_with fail
    refine (Jx fa (some (π b o)) fn fc funcs.length gc g bm 19 _).mono ?_
    rintro e w4 ⟨rfl,bP⟩
    exact ⟨rfl,.inr ⟨aL,rfl,Yz.then ⟨aH,sv',Fs',HT.o,bE.o⟩ bP⟩⟩
theorem X3.keep (h:X3 w bm m F) (hb:Below w.heap.size w w'):X3 w' bm m F:=by
 obtain ⟨fv,cells,Fr,h1,h2,h3,rfl,h5⟩:=h
 refine ⟨fv,cells,Fr,by rw [hb.block _ (La h1)];exact h1,⟨h2.1,?_⟩,h3.keep (fun b aB=>hb.block b (h3.lt b aB)),rfl,h5⟩
 rcases h2.2 with e|⟨g,cap,aA,rfl,x,hg,r⟩
 ·exact .inl e
 ·exact .inr ⟨g,cap,aA,rfl,x,by rw [hb.block g (La hg)];exact hg,r⟩
theorem Xk.reframe (h:Xk w bm fb cap cur cs fs f lv sv m Fi Fl Fs) (l:List Fra):Xk w bm fb cap cur cs fs f lv sv { m with frames:=l } Fi Fl Fs:=
 ⟨h.mach,h.row,h.capl,h.capm,h.csize,h.take,h.init,h.loc,h.stk,h.fn,h.pc,h.nodup⟩
theorem Xkc (h:Xk w bm fb cap cur cs fs f lv sv m Fi Fl Fs) (hb:Below w.heap.size w W) :
  X3 (W.setCell (π bm 0) (σ (some (π fb 0)) fs.length cap)) bm { m with frames:=fs } (bm::fb::Fi)/\Xp (bm::fb::(Fi++(Fl++Fs))) (bm::fb::Fi) w (W.setCell (π bm 0) (σ (some (π fb 0)) fs.length cap)):=by
 have aA:=h.ne
 have h1:=h.keep hb
 have ho:∀ b,b≠bm->(W.setCell (π bm 0) (σ (some (π fb 0)) fs.length cap)).heap[b]?=W.heap[b]?:=fun b hb=>heap_setCell_other _ _ _ _ hb
 have aB:(bm::fb::Fi).Nodup:=by
  have e:bm::fb::(Fi++(Fl++Fs))=(bm::fb::Fi)++(Fl++Fs):=by simp
  have:=h.nodup
  rw [e] at this
  exact (List.nodup_append.1 this).1
 refine ⟨⟨σ (some (π fb 0)) fs.length cap,cs,Fi,heap_setCell_same _ _ _ _ _ _ h1.mach,?_,h1.init.keep (fun b hb=>ho b (aA.2 b (by simp [hb])).1),by simp [Value.ownBlock],aB⟩,(Xp.of_below hb).trans ⟨rfl,rfl,rfl,ψ,fun k hk hF=>ho k (fun e=>hF (by simp [e])),fun b hb=>.inl (by simp at hb ⊢;rcases hb with hb|hb|hb<;>simp [hb])⟩⟩
 refine ⟨h.cslen,.inr ⟨fb,cap,cur,rfl,Nat.zero_le _,by rw [ho fb (fun e=>aA.1 e.symm)];exact h1.row,by have:=h.capl;show fs.length<=cap;omega,by unfold maxLen;have:=h.capm;omega,h.csize,?_⟩⟩
 have e:=congrArg (List.take (fs.length*4)) h.take
 rw [List.take_take,Nat.min_eq_left ω] at e
 refine e.trans ?_
 rw [<-h.cslen];exact List.take_left
def Jc (v:Int):Rq:=⟨4,0,0,v,0⟩
def Xmn (w:World) (bm:Nat) (fs:List Fra) (has:Bool) (v:Int) (m:Mch) (F:List Nat) (e:Ending) (w':World):Prop:=
 (fs=[]/\e=.panicked [{ v:=Xdd (Jc v),recovered:=false }]/\∃ F',X3 w' bm { m with frames:=[] } F'/\Xp F F' w w')\/
 ∃ fs' f',fs=fs'++[f']/\e=.returned (.tuple #[])/\∃ F',X3 w' bm { m with frames:=fs'++[{ f' with stack:=f'.stack++(if has then [v] else []) }] } F'/\Xp F F' w w'
theorem Xhw (fa ga:Option Addr) (fn fc gc:Nat) (g:Int) (h:Xk w bm fb cap cur cs fs f lv sv m Fi Fl Fs) (hn:fs.length<200)
  (B:Nat) (hB:∀ b∈bm::fb::(Fi++(Fl++Fs)),B<=b) (funcs:List Fun) (hfs:Xf B w 5 (Zl B) (σ ga funcs.length gc) funcs) (k:Nat) (hk:f.fn=k) (x:Fun) (hx:funcs[k]?=some x) (v:Int) (hst:f.stack=if x.result then [v] else []) (hv:x.result=false->v=0) (h64:in64 v)
  (hsl:∀ f∈fs,f.stack.length<1000000) :
  Calls Tryz.prog 192 #[Yw (σ fa fn fc) (σ ga funcs.length gc) g bm] w (Xmn w bm fs x.result v m (bm::fb::(Fi++(Fl++Fs)))):=by
 have aS:=Xa w (χ #[σ fa fn fc,ι g,σ ga funcs.length gc,.pointer (some (π bm 0))] 175)
 have bX:=Lh h.lt
 have cC:B<=w.heap.size:=Nat.le_of_lt (Nat.lt_of_le_of_lt (hB bm ψ) (h.lt bm ψ))
 have aE:w.heap.size∉bm::fb::(Fi++(Fl++Fs)):=fun e=>by have:=bX.o _ e;omega
 obtain ⟨a0,aQ,bC,cK,cL,cM,hE⟩:=hfs
 obtain ⟨rfl,rfl⟩:ga=a0/\gc=aQ:=by simpa using bC
 have cJ:k<funcs.length:=(Ll hx)
 rcases hE with h0|⟨b,o,rfl,cD,hE⟩
 ·rw [h0] at hx;simp at hx
 have hE:=hE k x hx
 have H:=Lh h
 have HA:=Lh (h.keep aS)
 have HB:=Lh hB
 have HS:=Lh hst
 have HV:=Lh hv
 have aR:=h.cFn
 rw [hk] at aR
 have HE:=Lh hE
 have q3:=hE.2.2.2.1
 clear h hB bC hst hx hv hE hk
 obtain ⟨WA,aL⟩:∃ W,W=w.alloc (χ #[σ fa fn fc,ι g,σ (some (π b o)) funcs.length gc,.pointer (some (π bm 0))] 175):=⟨_,rfl⟩
 have aD:Xo WA w.heap.size [σ fa fn fc,ι g,σ (some (π b o)) funcs.length gc,.pointer (some (π bm 0))]:=by rw [aL];exact Xd
 have k0:=aD 0 _ rfl
 have k1:=aD 1 _ rfl
 have k2:=aD 2 _ rfl
 have k3:=aD 3 _ rfl
 have aC:Below w.heap.size w WA:=by rw [aL];exact aS
 have cN:w.heap.size<WA.heap.size:=by rw [aL];simp
 have aJ:=Xc aC aR
 have bE:=Xc aC q3
 have aI:=Lh aC
 have bJ:Hid (Xk WA.drew bm fb cap cur cs fs f lv sv m Fi Fl Fs):=H.o.keep (Xh aC 1)
 have cH:(0:Int)<=(k:Int):=In _
 have cI:(k:Int)<(funcs.length:Int):=ω
 clear aD aC HA aR q3
 unfold Yw
 go_enter Tryz.func192,Tryz.ntmps192
 go_upto_region 1 with fail
 rw [<-aL]
 clear aL aS
 go_region_held3 (fun W=>W.cell? (π w.heap.size 0)=some (σ fa fn fc)/\W.cell? (π w.heap.size 1)=some (ι g)/\W.cell? (π w.heap.size 2)=some (σ (some (π b o)) funcs.length gc)/\W.cell? (π w.heap.size 3)=some (.pointer (some (π bm 0)))/\W.cell? (π fb (fs.length*4))=some (ι (k:Int))/\W.cell? (π b (o+k*5+3))=some (.bool x.result)/\Hid (Below WA.heap.size WA W))
  (first|exact ⟨k0,k1,k2,k3,aJ,bE,Lh (Xh Br 1)⟩|exact ⟨Xc aB k0,Xc aB k1,Xc aB k2,Xc aB k3,Xc aB aJ,Xc aB bE,Lh aB⟩)
  (first|(go_at_call 174;refine (Kz fa (some (π b o)) fn fc funcs.length gc g bJ.o ω).mono ?_;rintro e w1 ⟨rfl,bU⟩;have aB:Below WA.heap.size WA w1:=(Xh Br 1).trans bU))
 have h1:=Lh (H.o.keep (aI.o.then aB))
 have cB:=Lh aB
 obtain ⟨k0,k1,k2,k3,-,-,-⟩:w1.cell? (π w.heap.size 0)=some (σ fa fn fc)/\w1.cell? (π w.heap.size 1)=some (ι g)/\w1.cell? (π w.heap.size 2)=some (σ (some (π b o)) funcs.length gc)/\w1.cell? (π w.heap.size 3)=some (.pointer (some (π bm 0)))/\True/\True/\True:=⟨Xc aB k0,Xc aB k1,Xc aB k2,Xc aB k3,trivial,trivial,trivial⟩
 have aV:=Lh (aI.o.then aB)
 clear aB
 go_upto_if 15 with fail
 go_cut [2,3] (fun s2 s3 wx=>s2=.bool x.result/\s3=ι v/\Hid (Yz w bm fb cap cs fs { f with stack:=[] } lv m Fi Fl (bm::fb::(Fi++(Fl++Fs))) wx)/\Hid (Xp (bm::fb::(Fi++(Fl++Fs))) [] w1 wx))
 case first=>
  cases aA:x.result
  ·have cA:=HV.o aA
   subst cA
   have aH:=HS.o
   rw [aA] at aH
   have e:f={ f with stack:=[] }:=by cases f;simp_all
   have HP:Hid (Yz w bm fb cap cs fs { f with stack:=[] } lv m Fi Fl (bm::fb::(Fi++(Fl++Fs))) w1):=⟨cur,sv,Fs,e▸h1.o,Xp.of_below aV.o⟩
   have aP:Hid (Xp (bm::fb::(Fi++(Fl++Fs))) [] w1 w1):=⟨rfl,rfl,rfl,Nr _,fun _ _ _=>rfl,ψ⟩
   clear aH e
   go_wp2
   go_meet
   exact ⟨by rw [aA],rfl,HP,aP⟩
  ·have aH:=HS.o
   rw [aA] at aH
   have bM:=Lh aH
   clear aH
   go_wp2_with fail
   refine (X9 fa (some (π b o)) fn fc funcs.length gc g h1.o ω [] v (by rw [bM.o];rfl)).mono ?_
   rintro e w2 ⟨rfl,hP⟩
   obtain ⟨aK,bF,aU,bA,aG⟩:=hP
   have HP:Hid (Yz w bm fb cap cs fs { f with stack:=[] } lv m Fi Fl (bm::fb::(Fi++(Fl++Fs))) w2):=⟨aK,bF,aU,bA,(Xp.of_below aV.o).trans aG⟩
   have aP:Hid (Xp (bm::fb::(Fi++(Fl++Fs))) [] w1 w2):=⟨aG.os,aG.tape,aG.output,aG.size,aG.block,ψ⟩
   clear bA aG
   go_wp2
   go_meet
   exact ⟨by rw [aA],rfl,HP,aP⟩
 case rest=>
  obtain ⟨rfl,rfl,hP,hM⟩:=hcut
  obtain ⟨aK,bF,aU,hT,aY⟩:=hP.o
  have k0:=hM.o.cell k0 aE
  have k1:=hM.o.cell k1 aE
  have k2:=hM.o.cell k2 aE
  have k3:=hM.o.cell k3 aE
  have cF:=hT.cFrames
  have fF:=hT.frm 0
  have cE:bm<wc.heap.size:=hT.lt bm ψ
  have bZ:w.heap.size<wc.heap.size:=Bl k0
  have cG:¬w.heap.size=bm:=fun e=>aE (by simp [e])
  have bV:=hT.capl
  have HT:=Lh hT
  have bL:=Lh aY
  clear hT aY
  go_wp2_with fail
  obtain ⟨hO,aX⟩:=Xkc HT.o Br
  have HO:Hid (X3 ((wc.setCell (π bm 0) (σ (some (π fb 0)) fs.length cap)).drew) bm { m with frames:=fs } (bm::fb::Fi)):=hO.keep (Xh Br 1)
  have aN:Hid (Xp (bm::fb::(Fi++(Fl++Fs))) (bm::fb::Fi) w ((wc.setCell (π bm 0) (σ (some (π fb 0)) fs.length cap)).drew)):=(bL.o.trans aX).trans (Xp.of_below (Xh Br 1))
  clear hO aX
  by_cases hz:(fs.length:Int)=0
  ·have bW:fs.length=0:=ω
   have aO:=HO.o
   have aM:=aN.o
   rw [bW] at aO aM
   have aO:=Lh aO
   have aM:=Lh aM
   clear HO aN
   go_region
   go_wp2_with fail
   refine (U5 fa (some (π b o)) fn fc funcs.length gc g bm 4 0 0 v 0 _).mono ?_
   rintro e w6 ⟨rfl,bB⟩
   have bD:fs=[]:=List.eq_nil_of_length_eq_zero ω
   refine ⟨rfl,.inl ⟨bD,rfl,bm::fb::Fi,?_,aM.o.trans (Xp.of_below bB)⟩⟩
   have:=aO.o.keep bB
   rw [bD] at this
   exact this
  ·obtain ⟨aF,f',hf⟩:∃ aF f',fs=aF++[f']:=by
    rcases List.eq_nil_or_concat fs with e|⟨l,a,e⟩
    ·rw [e] at hz;simp at hz
    ·exact ⟨l,a,by rw [e];simp⟩
   have HF:=Lh hf
   have bY:=hsl f' (by rw [hf];simp)
   obtain ⟨bR,bO,bP,cs',lv',sv',bG,bH,Fs',aZ,aW⟩:=HO.o.top hf
   have bN:=Lh aZ
   have bK:=Lh aW
   clear aZ aW hf
   cases aA:x.result
   ·go_region
    go_wp2_with fail
    go_end0
    refine .inr ⟨aF,f',HF.o,rfl,bm::fb::Fi,?_,aN.o⟩
    have aT:({ m with frames:=aF++[{ f' with stack:=f'.stack++(if x.result then [v] else []) }] }:Mch)={ m with frames:=fs }:=by rw [aA,HF.o];simp
    rw [aT];exact HO.o
   ·go_region
    go_wp2_with fail
    refine (Qt fa (some (π b o)) fn fc funcs.length gc g bN.o (by have:=congrArg List.length HF.o;simp at this;omega) v h64 bY).mono ?_
    rintro e w6 ⟨rfl,bQ,cO,bI,bT,bS⟩
    go_wp2_with fail
    go_end0
    have aT:({ m with frames:=aF++[{ f' with stack:=f'.stack++(if x.result then [v] else []) }] }:Mch)={ m with frames:=aF++[{ f' with stack:=f'.stack++[v] }] }:=by rw [aA];simp
    refine .inr ⟨aF,f',HF.o,rfl,bm::bR::(bG++(bH++bI)),?_,aN.o.trans ?_⟩
    ·rw [aT];exact (bT.reframe (aF++[{ f' with stack:=f'.stack++[v] }])).own rfl
    ·rw [bK.o];exact bS
def Xll (f:Fra) (has:Bool) (v:Int):Fra:={ f with stack:=f.stack++(if has then [v] else []) }
inductive Out where
 | go (m:Mch)
 | stop (r:Rq) (m:Mch)
def Km (w:World) (bm:Nat) (F:List Nat) (o:Out) (e:Ending) (w':World):Prop:=
 match o with
 | .go m=>e=.returned (.tuple #[])/\∃ F',X3 w' bm m F'/\Xp F F' w w'
 | .stop r m=>e=.panicked [{ v:=Xdd r,recovered:=false }]/\∃ F',X3 w' bm m F'/\Xp F F' w w'
theorem K9 (h:Xk w bm fb cap cur cs fs f lv sv m Fi Fl Fs) (n:Int) (h64:in64 n) :
  Xk (w.setCell (π fb (fs.length*4+1)) (ι n)) bm fb cap (cur.setIfInBounds (fs.length*4+1) (ι n)) cs fs { f with pc:=n } lv sv m Fi Fl Fs/\Xp (bm::fb::(Fi++(Fl++Fs))) (bm::fb::(Fi++(Fl++Fs))) w (w.setCell (π fb (fs.length*4+1)) (ι n)):=by
 have aA:=h.ne
 have ho:∀ b,b≠fb->(w.setCell (π fb (fs.length*4+1)) (ι n)).heap[b]?=w.heap[b]?:=fun b hb=>heap_setCell_other _ _ _ _ hb
 refine ⟨h.put (f':={ f with pc:=n }) 1 _ (ho bm aA.1) (heap_setCell_same _ _ _ _ _ _ h.row) rfl (fun b hb=>ho b (aA.2 b (by simp [hb])).2) (h.loc.keep (fun b hb=>ho b (aA.2 b (by simp [hb])).2)) (h.stk.keep (fun b hb=>ho b (aA.2 b (by simp [hb])).2)) h.fn h64 h.nodup,rfl,rfl,rfl,ψ,fun k hk hF=>ho k (fun e=>hF (by simp [e])),fun _ h=>.inl h⟩
theorem Yv.form (h:Yv w v l F) (hl:0<l.length):∃ lb cap,v=σ (some (π lb 0)) l.length cap/\F=[lb]/\l.length<=cap/\cap<=9223372036854775807:=by
 obtain ⟨h1,h2,h3⟩:=h
 rcases h1.2 with ⟨_,hn⟩|⟨g,cap,aB,rfl,hb,hg,hc,aA,hs,ht⟩
 ·omega
 ·exact ⟨g,cap,rfl,h2,hc,by unfold maxLen at aA;omega⟩
theorem Yv.cellAt (h:Yv w (σ (some (π lb 0)) l.length cap) l F) {i:Nat} {n:Int} (hi:l[i]?=some n):w.cell? (π lb i)=some (ι n):=by
 have hl:=(Ll hi)
 rw [h.1.cellAt i ω,List.getElem?_map,hi];rfl
theorem Xko {lcap:Nat} (h:Xk w bm fb cap cur cs fs f (σ (some (π lb 0)) f.locals.length lcap) sv m Fi Fl Fs) (i:Nat) (n:Int) (h64:in64 n) :
  Xk (w.setCell (π lb i) (ι n)) bm fb cap cur cs fs { f with locals:=f.locals.set i n } (σ (some (π lb 0)) f.locals.length lcap) sv m Fi Fl Fs/\Xp (bm::fb::(Fi++(Fl++Fs))) (bm::fb::(Fi++(Fl++Fs))) w (w.setCell (π lb i) (ι n)):=by
 have aD:=h.ne
 have ho:∀ b,b≠lb->(w.setCell (π lb i) (ι n)).heap[b]?=w.heap[b]?:=fun b hb=>heap_setCell_other _ _ _ _ hb
 obtain ⟨l1,l2,l3⟩:=h.loc
 obtain rfl:Fl=[lb]:=l2
 have hl:=aD.2 lb ψ
 have aA:=h.nodup
 simp only [List.nodup_cons,List.mem_cons,List.nodup_append,List.mem_append,List.mem_singleton,List.not_mem_nil,or_false] at aA
 obtain ⟨-,-,aE,⟨-,aF,aC⟩,aB⟩:=aA
 refine ⟨⟨?_,?_,h.capl,h.capm,h.csize,h.take,h.init.keep (fun b hb=>ho b (fun e=>?_)),⟨?_,rfl,fun x hx=>?_⟩,h.stk.keep (fun b hb=>ho b (fun e=>?_)),h.fn,h.pc,h.nodup⟩,rfl,rfl,rfl,ψ,fun k hk hF=>ho k (fun e=>hF (by simp [e])),fun _ h=>.inl h⟩
 ·rw [ho bm (fun e=>hl.1 e.symm)];exact h.mach
 ·rw [ho fb (fun e=>hl.2 e.symm)];exact h.row
 ·exact aB b hb lb ψ e
 ·have:=(l1.stored i (ι n)).1
  rw [<-List.map_set] at this
  simpa using this
 ·rcases List.mem_or_eq_of_mem_set hx with h|h
  ·exact l3 x h
  ·rw [h];exact h64
 ·exact aC lb rfl b hb e.symm
theorem K2:∀ f x,Lib.bitLenAux f x<=f
 | 0,x=>by simp [Lib.bitLenAux]
 | f+1,x=>by
  have:=K2 f (x / 2)
  unfold Lib.bitLenAux
  split<;>omega
