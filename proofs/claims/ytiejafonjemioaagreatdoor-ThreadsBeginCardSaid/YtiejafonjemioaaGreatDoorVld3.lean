import Derived.Test.YtiejafonjemioaaGreatDoorVpu
set_option maxHeartbeats 8000000
set_option maxRecDepth 1000000
set_option linter.unusedVariables false
set_option linter.unusedSimpArgs false
open Go.Value renaming slice→σ
open Go.Obj renaming cells→χ
namespace Go.Proofs.YtiejafonjemioaaGreatDoor
open Go.RowKit
theorem Xly (c:Cod) (fs:List Fra) (kind node field value fault fuel compares idle:Int) (fa ga ma:Option Addr) (fc gc mc:Nat) (B:Nat) (w:World) (hL:Qa w) (hB:B<=w.heap.size) (hc:Yj B w (.agg (Bc fa fc ga gc c)) c) (hn:¬(Xv c/\¬fuel<0/\¬1048576<fuel/\¬compares<0/\¬1099511627776<compares/\¬idle<0/\¬100000<idle/\¬200<(fs.length:Int))) :
  Calls Tryz.prog 128 #[.agg (Bc fa fc ga gc c),.agg #[σ ma fs.length mc,ι kind,ι node,ι field,ι value,ι fault,ι fuel,ι compares,ι idle]] w fun e w'=>e=.returned (.bool false)/\Below w.heap.size w w':=by
 have HN:=Lh hn
 clear hn
 obtain ⟨W,hW⟩:∃ W,W=(w.alloc (χ (Bc fa fc ga gc c) 25)).alloc (χ #[σ ma fs.length mc,ι kind,ι node,ι field,ι value,ι fault,ι fuel,ι compares,ι idle] 51):=⟨_,rfl⟩
 have aC:Hid (Below w.heap.size w W):=by rw [hW];exact (Xa _ _).then (Xa _ _)
 have aD:Hid (W.heap.size=w.heap.size+2):=by rw [hW];exact Lh ψ
 have b0:Hid (Xo W w.heap.size [σ fa c.fields.length fc,ι c.globals,σ ga c.funcs.length gc]):=by rw [hW];exact Lh (Xd.alloc _)
 have b1:Hid (Xo W (w.heap.size+1) [σ ma fs.length mc,ι kind,ι node,ι field,ι value,ι fault,ι fuel,ι compares,ι idle]):=by
  rw [hW]
  have:=@Xd (w.alloc (χ (Bc fa fc ga gc c) 25)) #[σ ma fs.length mc,ι kind,ι node,ι field,ι value,ι fault,ι fuel,ι compares,ι idle] 51
  exact Lh (by simpa using this)
 have HC:=Lh hc
 have aF:=Lh (hc.below (aC.o.mono hB))
 have HL:=Lh hL
 have aE:B<=W.heap.size:=by have:=aD.o;omega
 clear hc hL
 have i0:=b0.o 0 _ rfl
 have i1:=b0.o 1 _ rfl
 have i2:=b0.o 2 _ rfl
 have m0:=b1.o 0 _ rfl
 have m1:=b1.o 1 _ rfl
 have m2:=b1.o 2 _ rfl
 have m3:=b1.o 3 _ rfl
 have m4:=b1.o 4 _ rfl
 have m5:=b1.o 5 _ rfl
 have m6:=b1.o 6 _ rfl
 have m7:=b1.o 7 _ rfl
 have m8:=b1.o 8 _ rfl
 have z0:w.heap.size<W.heap.size:=by have:=aD.o;omega
 have z1:w.heap.size+1<W.heap.size:=by have:=aD.o;omega
 go_enter Tryz.func128,Tryz.ntmps128
 go_upto_region 1 with fail
 rw [<-hW]
 have HW:=Lh hW
 clear hW
 go_wp2_with fail
 refine (Jm c _ B W (HL.o.below aC.o) aE aF.o).mono ?_
 rintro e w1 ⟨rfl,aA⟩
 have i0:=Xc aA i0
 have i1:=Xc aA i1
 have i2:=Xc aA i2
 have m0:=Xc aA m0
 have m1:=Xc aA m1
 have m2:=Xc aA m2
 have m3:=Xc aA m3
 have m4:=Xc aA m4
 have m5:=Xc aA m5
 have m6:=Xc aA m6
 have m7:=Xc aA m7
 have m8:=Xc aA m8
 have z0:=Bl i0
 have z1:=Bl m0
 have aB:=Lh (aC.o.then aA)
 clear aA
 by_cases hs:Xv c
 rotate_left
 ·rw [Jp hs]
  go_wp2
  go_ret
  exact ⟨rfl,aB.o⟩
 rw [Zg hs]
 by_cases h0:fuel<0
 ·have d0:decide (fuel<0)=true:=by simp;omega
  go_wp2
  go_ret
  exact ⟨rfl,aB.o⟩
 have d0:decide (fuel<0)=false:=by simp;omega
 by_cases h1:1048576<fuel
 ·have d1:decide (1048576<fuel)=true:=by simp;omega
  go_wp2
  go_ret
  exact ⟨rfl,aB.o⟩
 have d1:decide (1048576<fuel)=false:=by simp;omega
 by_cases h2:compares<0
 ·have d2:decide (compares<0)=true:=by simp;omega
  go_wp2
  go_ret
  exact ⟨rfl,aB.o⟩
 have d2:decide (compares<0)=false:=by simp;omega
 by_cases h3:1099511627776<compares
 ·have d3:decide (1099511627776<compares)=true:=by simp;omega
  go_wp2
  go_ret
  exact ⟨rfl,aB.o⟩
 have d3:decide (1099511627776<compares)=false:=by simp;omega
 by_cases h4:idle<0
 ·have d4:decide (idle<0)=true:=by simp;omega
  go_wp2
  go_ret
  exact ⟨rfl,aB.o⟩
 have d4:decide (idle<0)=false:=by simp;omega
 by_cases h5:100000<idle
 ·have d5:decide (100000<idle)=true:=by simp;omega
  go_wp2
  go_ret
  exact ⟨rfl,aB.o⟩
 have d5:decide (100000<idle)=false:=by simp;omega
 by_cases h6:200<(fs.length:Int)
 ·have d6:decide (200<(fs.length:Int))=true:=by simp;omega
  have aG:decide (200<fs.length)=true:=by simp;omega
  go_wp2
  go_ret
  exact ⟨rfl,aB.o⟩
 exact (HN.o ⟨hs,ω,ω,ω,ω,ω,ω,ω⟩).elim
def Ud (e:Int):Bool:=[17,18,19,20,5,21,6].any (fun a=>e == a)
def Qx (r:Rq):Bool:=if r.kind=4 then X1 r.value && (r.node == 0 && r.field == 0 && r.fault == 0) else if r.kind=5 then Ud r.fault && (r.node == 0 && r.field == 0 && r.value == 0) else false
theorem Uw (W:World) (T:TypeId) (b:Nat) (hb:b=W.heap.size):∀ (j:Nat) (u:Int),([17,18,19,20,5,21,6]:List Int)[j]?=some u->(W.alloc (χ #[ι 17,ι 18,ι 19,ι 20,ι 5,ι 21,ι 6] T)).cell? (π b j)=some (ι u):=fun j u hu=>by
 subst hb
 rw [Y5]
 have h:j<7:=(Ll hu)
 have hj:j=0\/j=1\/j=2\/j=3\/j=4\/j=5\/j=6:=ω
 rcases hj with rfl|rfl|rfl|rfl|rfl|rfl|rfl<;>simp at hu<;>subst hu<;>rfl
theorem Xjs (c:Cod) (kind node field value fault fuel compares idle:Int) (fa ga ma:Option Addr) (fc gc mc:Nat) (B:Nat) (w:World) (hL:Qa w) (hB:B<=w.heap.size) (hc:Yj B w (.agg (Bc fa fc ga gc c)) c) (hs:Xv c) (h0:¬fuel<0) (h1:¬1048576<fuel) (h2:¬compares<0) (h3:¬1099511627776<compares) (h4:¬idle<0) (h5:¬100000<idle) :
  Calls Tryz.prog 128 #[.agg (Bc fa fc ga gc c),.agg #[σ ma 0 mc,ι kind,ι node,ι field,ι value,ι fault,ι fuel,ι compares,ι idle]] w fun e w'=>e=.returned (.bool (Qx ⟨kind,node,field,value,fault⟩))/\Below w.heap.size w w':=by
 have d0:decide (fuel<0)=false:=by simp;omega
 have d1:decide (1048576<fuel)=false:=by simp;omega
 have d2:decide (compares<0)=false:=by simp;omega
 have d3:decide (1099511627776<compares)=false:=by simp;omega
 have d4:decide (idle<0)=false:=by simp;omega
 have d5:decide (100000<idle)=false:=by simp;omega
 obtain ⟨W,hW⟩:∃ W,W=(w.alloc (χ (Bc fa fc ga gc c) 25)).alloc (χ #[σ ma 0 mc,ι kind,ι node,ι field,ι value,ι fault,ι fuel,ι compares,ι idle] 51):=⟨_,rfl⟩
 have aE:Hid (Below w.heap.size w W):=by rw [hW];exact (Xa _ _).then (Xa _ _)
 have aH:Hid (W.heap.size=w.heap.size+2):=by rw [hW];exact Lh ψ
 have b0:Hid (Xo W w.heap.size [σ fa c.fields.length fc,ι c.globals,σ ga c.funcs.length gc]):=by rw [hW];exact Lh (Xd.alloc _)
 have b1:Hid (Xo W (w.heap.size+1) [σ ma 0 mc,ι kind,ι node,ι field,ι value,ι fault,ι fuel,ι compares,ι idle]):=by
  rw [hW]
  have:=@Xd (w.alloc (χ (Bc fa fc ga gc c) 25)) #[σ ma 0 mc,ι kind,ι node,ι field,ι value,ι fault,ι fuel,ι compares,ι idle] 51
  exact Lh (by simpa using this)
 have HC:=Lh hc
 have aJ:=Lh (hc.below (aE.o.mono hB))
 have HL:=Lh hL
 have aI:B<=W.heap.size:=by have:=aH.o;omega
 clear hc hL
 have i0:=b0.o 0 _ rfl
 have i1:=b0.o 1 _ rfl
 have i2:=b0.o 2 _ rfl
 have m0:=b1.o 0 _ rfl
 have m1:=b1.o 1 _ rfl
 have m2:=b1.o 2 _ rfl
 have m3:=b1.o 3 _ rfl
 have m4:=b1.o 4 _ rfl
 have m5:=b1.o 5 _ rfl
 have m6:=b1.o 6 _ rfl
 have m7:=b1.o 7 _ rfl
 have m8:=b1.o 8 _ rfl
 have z0:w.heap.size<W.heap.size:=by have:=aH.o;omega
 have z1:w.heap.size+1<W.heap.size:=by have:=aH.o;omega
 go_enter Tryz.func128,Tryz.ntmps128
 go_upto_region 1 with fail
 rw [<-hW]
 have HW:=Lh hW
 clear hW
 go_wp2_with fail
 refine (Jm c _ B W (HL.o.below aE.o) aI aJ.o).mono ?_
 rintro e w1 ⟨rfl,aA⟩
 rw [Zg hs]
 have i0:=Xc aA i0
 have i1:=Xc aA i1
 have i2:=Xc aA i2
 have m0:=Xc aA m0
 have m1:=Xc aA m1
 have m2:=Xc aA m2
 have m3:=Xc aA m3
 have m4:=Xc aA m4
 have m5:=Xc aA m5
 have m6:=Xc aA m6
 have m7:=Xc aA m7
 have m8:=Xc aA m8
 have z0:=Bl i0
 have z1:=Bl m0
 have aB:=Lh (aE.o.then aA)
 clear aA
 by_cases aF:kind=4
 ·subst aF
  cases hv:X1 value with
  | false=>
   have hf:Hid (Qx ⟨4,node,field,value,fault⟩=false):=Lh (by unfold Qx;simp [hv])
   have HV:=Lh hv
   clear hv
   go_wp2_with (go_at_call 137;refine (Yy _ _).mono ?_;rintro e w2 ⟨rfl,rfl⟩;rw [HV.o])
   go_ret
   exact ⟨by rw [hf.o];rfl,aB.o.then (Xa _ _)⟩
  | true=>
   by_cases hn:node=0
   rotate_left
   ·have hf:Hid (Qx ⟨4,node,field,value,fault⟩=false):=Lh (by unfold Qx;simp [hv,hn])
    have HV:=Lh hv
    clear hv
    go_wp2_with (go_at_call 137;refine (Yy _ _).mono ?_;rintro e w2 ⟨rfl,rfl⟩;rw [HV.o])
    go_ret
    exact ⟨by rw [hf.o];rfl,aB.o.then (Xa _ _)⟩
   subst hn
   by_cases aC:field=0
   rotate_left
   ·have hf:Hid (Qx ⟨4,0,field,value,fault⟩=false):=Lh (by unfold Qx;simp [hv,aC])
    have HV:=Lh hv
    clear hv
    go_wp2_with (go_at_call 137;refine (Yy _ _).mono ?_;rintro e w2 ⟨rfl,rfl⟩;rw [HV.o])
    go_ret
    exact ⟨by rw [hf.o];rfl,aB.o.then (Xa _ _)⟩
   subst aC
   by_cases aD:fault=0
   ·subst aD
    have hf:Hid (Qx ⟨4,0,0,value,0⟩=true):=Lh (by unfold Qx;simp [hv])
    have HV:=Lh hv
    clear hv
    go_wp2_with (go_at_call 137;refine (Yy _ _).mono ?_;rintro e w2 ⟨rfl,rfl⟩;rw [HV.o])
    go_ret
    exact ⟨by rw [hf.o];rfl,aB.o.then (Xa _ _)⟩
   ·have hf:Hid (Qx ⟨4,0,0,value,fault⟩=false):=Lh (by unfold Qx;simp [hv,aD])
    have HV:=Lh hv
    clear hv
    go_wp2_with (go_at_call 137;refine (Yy _ _).mono ?_;rintro e w2 ⟨rfl,rfl⟩;rw [HV.o])
    go_ret
    exact ⟨by rw [hf.o];rfl,aB.o.then (Xa _ _)⟩
 by_cases aG:kind=5
 ·subst aG
  cases hv:Ud fault with
  | false=>
   have hf:Hid (Qx ⟨5,node,field,value,fault⟩=false):=Lh (by unfold Qx;simp [hv])
   have HV:=Lh hv
   clear hv
   go_wp2_with (go_at_call 160;refine (Ql fault [17,18,19,20,5,21,6] _ 7 _ δ (fun j u hu=>?_)).mono ?_;(exact Uw _ _ _ ψ j u hu);rintro e w2 ⟨rfl,rfl⟩;rw [show [17,18,19,20,5,21,6].any (fun a=>fault == a)=Ud fault from rfl,HV.o])
   go_ret
   exact ⟨by rw [hf.o];rfl,aB.o.then ((Xa _ _).then (Xa _ _))⟩
  | true=>
   by_cases hn:node=0
   rotate_left
   ·have hf:Hid (Qx ⟨5,node,field,value,fault⟩=false):=Lh (by unfold Qx;simp [hv,hn])
    have HV:=Lh hv
    clear hv
    go_wp2_with (go_at_call 160;refine (Ql fault [17,18,19,20,5,21,6] _ 7 _ δ (fun j u hu=>?_)).mono ?_;(exact Uw _ _ _ ψ j u hu);rintro e w2 ⟨rfl,rfl⟩;rw [show [17,18,19,20,5,21,6].any (fun a=>fault == a)=Ud fault from rfl,HV.o])
    go_ret
    exact ⟨by rw [hf.o];rfl,aB.o.then ((Xa _ _).then (Xa _ _))⟩
   subst hn
   by_cases aC:field=0
   rotate_left
   ·have hf:Hid (Qx ⟨5,0,field,value,fault⟩=false):=Lh (by unfold Qx;simp [hv,aC])
    have HV:=Lh hv
    clear hv
    go_wp2_with (go_at_call 160;refine (Ql fault [17,18,19,20,5,21,6] _ 7 _ δ (fun j u hu=>?_)).mono ?_;(exact Uw _ _ _ ψ j u hu);rintro e w2 ⟨rfl,rfl⟩;rw [show [17,18,19,20,5,21,6].any (fun a=>fault == a)=Ud fault from rfl,HV.o])
    go_ret
    exact ⟨by rw [hf.o];rfl,aB.o.then ((Xa _ _).then (Xa _ _))⟩
   subst aC
   by_cases aD:value=0
   ·subst aD
    have hf:Hid (Qx ⟨5,0,0,0,fault⟩=true):=Lh (by unfold Qx;simp [hv])
    have HV:=Lh hv
    clear hv
    go_wp2_with (go_at_call 160;refine (Ql fault [17,18,19,20,5,21,6] _ 7 _ δ (fun j u hu=>?_)).mono ?_;(exact Uw _ _ _ ψ j u hu);rintro e w2 ⟨rfl,rfl⟩;rw [show [17,18,19,20,5,21,6].any (fun a=>fault == a)=Ud fault from rfl,HV.o])
    go_ret
    exact ⟨by rw [hf.o];rfl,aB.o.then ((Xa _ _).then (Xa _ _))⟩
   ·have hf:Hid (Qx ⟨5,0,0,value,fault⟩=false):=Lh (by unfold Qx;simp [hv,aD])
    have HV:=Lh hv
    clear hv
    go_wp2_with (go_at_call 160;refine (Ql fault [17,18,19,20,5,21,6] _ 7 _ δ (fun j u hu=>?_)).mono ?_;(exact Uw _ _ _ ψ j u hu);rintro e w2 ⟨rfl,rfl⟩;rw [show [17,18,19,20,5,21,6].any (fun a=>fault == a)=Ud fault from rfl,HV.o])
    go_ret
    exact ⟨by rw [hf.o];rfl,aB.o.then ((Xa _ _).then (Xa _ _))⟩
 have hf:Hid (Qx ⟨kind,node,field,value,fault⟩=false):=Lh (by unfold Qx;simp [aF,aG])
 have e4:(kind == 4)=false:=by simp [aF]
 have e5:(kind == 5)=false:=by simp [aG]
 go_wp2
 go_ret
 exact ⟨by rw [hf.o];rfl,aB.o.then (Xa _ _)⟩
theorem Xgf (W:World):(Instr.makeMap 192 none).run Tryz.prog W=.ok (.map (some W.heap.size)) (W.alloc (.map #[] 0)):=by simp [Instr.makeMap]
theorem Xkr {l:List Int} (h:l.any (fun n=>!X1 n)=false):∀ n∈l,isV n:=fun n hn=>by
 rw [List.any_eq_false] at h
 have:=h n hn
 simp at this
 exact Ye.1 this
theorem Xkh {l:List Int} (h:l.any (fun n=>!X1 n)=true):¬∀ n∈l,isV n:=fun hh=>by
 rw [List.any_eq_true] at h
 obtain ⟨n,hn,h⟩:=h
 have:=Ye.2 (hh n hn)
 rw [this] at h
 cases h
theorem Xjn (c:Cod) (fs:List Fra) (kind node field value fault fuel compares idle:Int) (fa ga ma:Option Addr) (fc gc mc:Nat) (B:Nat) (w:World) (hL:Qa w) (hB:B<=w.heap.size) (hc:Yj B w (.agg (Bc fa fc ga gc c)) c) (hm:Xf B w 4 (Qp B) (σ ma fs.length mc) fs) (hs:Xv c) (hsm:Zb c) (h0:¬fuel<0) (h1:¬1048576<fuel) (h2:¬compares<0) (h3:¬1099511627776<compares) (h4:¬idle<0) (h5:¬100000<idle) (h6:¬200<(fs.length:Int)) (hne:0<fs.length) :
  Calls Tryz.prog 128 #[.agg (Bc fa fc ga gc c),.agg #[σ ma fs.length mc,ι kind,ι node,ι field,ι value,ι fault,ι fuel,ι compares,ι idle]] w fun e w'=>e=.returned (.bool (pB (∀ k f,fs[k]?=some f->Yx c fs ⟨kind,node,field,value,fault⟩ k f)))/\Below w.heap.size w w':=by
 have d0:decide (fuel<0)=false:=by simp;omega
 have d1:decide (1048576<fuel)=false:=by simp;omega
 have d2:decide (compares<0)=false:=by simp;omega
 have d3:decide (1099511627776<compares)=false:=by simp;omega
 have d4:decide (idle<0)=false:=by simp;omega
 have d5:decide (100000<idle)=false:=by simp;omega
 have d6:decide (200<fs.length)=false:=by simp;omega
 have gI:¬fs.length=0:=ω
 have gJ:((fs.length:Int) == 0)=false:=by rw [beq_eq_false_iff_ne];omega
 have gA:decide ((200:Int)<(fs.length:Int))=false:=by simp;omega
 have HM:=Lh hm
 have eK:c.funcs.length<=40:=hs.1.2.2.2.2.1
 have gF:=Xgf
 clear hm
 obtain ⟨W,hW⟩:∃ W,W=(w.alloc (χ (Bc fa fc ga gc c) 25)).alloc (χ #[σ ma fs.length mc,ι kind,ι node,ι field,ι value,ι fault,ι fuel,ι compares,ι idle] 51):=⟨_,rfl⟩
 have dO:Hid (Below w.heap.size w W):=by rw [hW];exact (Xa _ _).then (Xa _ _)
 have dZ:Hid (W.heap.size=w.heap.size+2):=by rw [hW];exact Lh ψ
 have b0:Hid (Xo W w.heap.size [σ fa c.fields.length fc,ι c.globals,σ ga c.funcs.length gc]):=by rw [hW];exact Lh (Xd.alloc _)
 have b1:Hid (Xo W (w.heap.size+1) [σ ma fs.length mc,ι kind,ι node,ι field,ι value,ι fault,ι fuel,ι compares,ι idle]):=by
  rw [hW]
  have:=@Xd (w.alloc (χ (Bc fa fc ga gc c) 25)) #[σ ma fs.length mc,ι kind,ι node,ι field,ι value,ι fault,ι fuel,ι compares,ι idle] 51
  exact Lh (by simpa using this)
 have HC:=Lh hc
 have fH:=Lh (hc.below (dO.o.mono hB))
 have HL:=Lh hL
 have fF:B<=W.heap.size:=by have:=dZ.o;omega
 clear hc hL
 have i0:=b0.o 0 _ rfl
 have i1:=b0.o 1 _ rfl
 have i2:=b0.o 2 _ rfl
 have m0:=b1.o 0 _ rfl
 have m1:=b1.o 1 _ rfl
 have m2:=b1.o 2 _ rfl
 have m3:=b1.o 3 _ rfl
 have m4:=b1.o 4 _ rfl
 have m5:=b1.o 5 _ rfl
 have m6:=b1.o 6 _ rfl
 have m7:=b1.o 7 _ rfl
 have m8:=b1.o 8 _ rfl
 have z0:w.heap.size<W.heap.size:=by have:=dZ.o;omega
 have z1:w.heap.size+1<W.heap.size:=by have:=dZ.o;omega
 go_enter Tryz.func128,Tryz.ntmps128
 go_upto_region 1 with fail
 rw [<-hW]
 have HW:=Lh hW
 clear hW
 go_wp2_with fail
 refine (Jm c _ B W (HL.o.below dO.o) fF fH.o).mono ?_
 rintro e w1 ⟨rfl,aR⟩
 rw [Zg hs]
 have i0:=Xc aR i0
 have i1:=Xc aR i1
 have i2:=Xc aR i2
 have m0:=Xc aR m0
 have m1:=Xc aR m1
 have m2:=Xc aR m2
 have m3:=Xc aR m3
 have m4:=Xc aR m4
 have m5:=Xc aR m5
 have m6:=Xc aR m6
 have m7:=Xc aR m7
 have m8:=Xc aR m8
 have z0:=Bl i0
 have z1:=Bl m0
 have eR:=Lh (dO.o.then aR)
 clear aR
 have dT:Hid (∀ k f,fs[k]?=some f->¬Yx c fs ⟨kind,node,field,value,fault⟩ k f->pB (∀ k f,fs[k]?=some f->Yx c fs ⟨kind,node,field,value,fault⟩ k f)=false):=Lh (fun k f hf hn=>K8 (fun h=>hn (h k f hf)))
 obtain ⟨mb,mo,rfl,bP,eH⟩:∃ mb mo,ma=some (π mb mo)/\mb<B/\∀ (i:Nat) f,fs[i]?=some f->Qp B w mb (mo+i*4) f:=by
  obtain ⟨a0,aN,bO,fL,fM,fN,hE⟩:=HM.o
  obtain ⟨rfl,rfl⟩:ma=a0/\mc=aN:=by simpa using bO
  rcases hE with h0|⟨mb,mo,rfl,hb,hE⟩
  ·rw [h0] at hne;simp at hne
  ·exact ⟨mb,mo,rfl,hb,hE⟩
 have bX:=Lh eH
 obtain ⟨bk,bT⟩:∃ b,b=w1.heap.size:=⟨_,rfl⟩
 have fX:=Lh bT
 obtain ⟨W1,bZ⟩:∃ W,W=w1.alloc (.map #[] 0):=⟨_,rfl⟩
 have fE:Hid (Vy c bk W1 bk #[] 0):=Lh ⟨by rw [bZ,bT];exact Hn _ _,ψ⟩
 have dP:Hid (Below bk w1 W1):=Lh (by rw [bZ,bT];exact Xa _ _)
 have fV:w.heap.size+1<bk:=by rw [bT];exact z1
 clear eH
 go_wp2_with fail
 rw [<-bZ,<- bT]
 have fY:=Lh bZ
 clear bZ bT
 go_loopg [91] (fs.length+1) (fun gk i wr=>∃ k:Nat,k<=fs.length/\i=ι k/\fs.length - k<gk/\Hid (Below bk w1 wr)/\Hid (∃ es aH,Vy c bk wr bk es aH)/\Hid (∀ j f,j<k->fs[j]?=some f->Yx c fs ⟨kind,node,field,value,fault⟩ j f))
 case atStart=>exact ⟨0,Nat.zero_le _,rfl,ω,dP,Lh ⟨_,_,fE.o⟩,Lh (fun j f hj=>by omega)⟩
 case round=>
  obtain ⟨k,hk,rfl,dU,aS,eL,aY⟩:=hrel
  have cN:Hid (Below w.heap.size w wr):=Lh (eR.o.trans (aS.o.mono ω))
  have i0:=(aS.o.cell (p:=(π w.heap.size 0)) (show w.heap.size<bk by omega)).trans i0
  have i1:=(aS.o.cell (p:=(π w.heap.size 1)) (show w.heap.size<bk by omega)).trans i1
  have i2:=(aS.o.cell (p:=(π w.heap.size 2)) (show w.heap.size<bk by omega)).trans i2
  have m0:=(aS.o.cell (p:=(π (w.heap.size+1) 0)) (show w.heap.size+1<bk by omega)).trans m0
  have m1:=(aS.o.cell (p:=(π (w.heap.size+1) 1)) (show w.heap.size+1<bk by omega)).trans m1
  have m2:=(aS.o.cell (p:=(π (w.heap.size+1) 2)) (show w.heap.size+1<bk by omega)).trans m2
  have m3:=(aS.o.cell (p:=(π (w.heap.size+1) 3)) (show w.heap.size+1<bk by omega)).trans m3
  have m4:=(aS.o.cell (p:=(π (w.heap.size+1) 4)) (show w.heap.size+1<bk by omega)).trans m4
  have m5:=(aS.o.cell (p:=(π (w.heap.size+1) 5)) (show w.heap.size+1<bk by omega)).trans m5
  have m6:=(aS.o.cell (p:=(π (w.heap.size+1) 6)) (show w.heap.size+1<bk by omega)).trans m6
  have m7:=(aS.o.cell (p:=(π (w.heap.size+1) 7)) (show w.heap.size+1<bk by omega)).trans m7
  have m8:=(aS.o.cell (p:=(π (w.heap.size+1) 8)) (show w.heap.size+1<bk by omega)).trans m8
  have z0:=Bl i0
  have z1:=Bl m0
  obtain ⟨es,aH,dN⟩:=eL.o
  have eW:=Lh dN
  have cF:bk<wr.heap.size:=(La dN.map)
  clear eL dN
  by_cases fP:k<fs.length
  ·obtain ⟨f,hf⟩:∃ f,fs[k]?=some f:=⟨_,Lg fP⟩
   have HF:=Lh hf
   have aJ:Hid (¬Yx c fs ⟨kind,node,field,value,fault⟩ k f->pB (∀ k f,fs[k]?=some f->Yx c fs ⟨kind,node,field,value,fault⟩ k f)=false):=Lh (dT.o k f hf)
   obtain ⟨q0,q1,⟨lv,q2,cV⟩,⟨sv,q3,cW⟩,eQ,eP⟩:=(bX.o k f hf).below (cN.o.mono hB) bP
   have eX:=Lh cV
   have eZ:=Lh cW
   obtain ⟨la,lc,rfl⟩:=cV.form
   obtain ⟨sa,sc,rfl⟩:=cW.form
   have fO:f.locals.length<=140737488355328:=by obtain ⟨_,_,_,h,_⟩:=cV;exact h
   have fT:f.stack.length<=140737488355328:=by obtain ⟨_,_,_,h,_⟩:=cW;exact h
   have gD:(0:Int)<=(k:Int):=In _
   have gE:(k:Int)<(fs.length:Int):=ω
   have zq:=Bl q0
   obtain ⟨W2,cA⟩:∃ W,W=wr.alloc (χ #[ι f.fn,ι f.pc,σ la f.locals.length lc,σ sa f.stack.length sc] 129):=⟨_,rfl⟩
   have aK:Below wr.heap.size wr W2:=by rw [cA];exact Xa _ _
   have cM:=Lh aK
   have cQ:Hid (Xo W2 wr.heap.size [ι f.fn,ι f.pc,σ la f.locals.length lc,σ sa f.stack.length sc]):=by rw [cA];exact Lh Xd
   clear hf cV cW
   unfold in64 at eQ eP
   go_upto_region 16 with fail
   rw [<-cA]
   have fZ:=Lh cA
   have i0:=Xc aK i0
   have i1:=Xc aK i1
   have i2:=Xc aK i2
   have m0:=Xc aK m0
   have m1:=Xc aK m1
   have m2:=Xc aK m2
   have m3:=Xc aK m3
   have m4:=Xc aK m4
   have m5:=Xc aK m5
   have m6:=Xc aK m6
   have m7:=Xc aK m7
   have m8:=Xc aK m8
   have n0:=cQ.o 0 _ rfl
   have n1:=cQ.o 1 _ rfl
   have n2:=cQ.o 2 _ rfl
   have n3:=cQ.o 3 _ rfl
   have z0:=Bl i0
   have z1:=Bl m0
   have zn:=Bl n0
   have aW:=Lh (cN.o.then aK)
   have eT:=Lh (eW.o.keep aK)
   clear cA aK q0 q1 q2 q3 zq
   by_cases c1:f.fn<0
   ·have d:decide (f.fn<0)=true:=by simp [c1]
    have hv:=Lh (aJ.o (fun ⟨_,_,_,hb,_⟩=>by have:=hb.fn0;omega))
    go_wp2
    go_ret
    exact ⟨by rw [hv.o];rfl,aW.o⟩
   obtain ⟨n,hn⟩:∃ n:Nat,f.fn=n:=⟨f.fn.toNat,ω⟩
   have HN:=Lh hn
   rw [hn] at n0
   have dn:decide ((n:Int)<0)=false:=by simp
   clear hn c1
   by_cases c2:c.funcs.length<=n
   ·have d:decide (c.funcs.length<=n)=true:=by simp [c2]
    have hv:=Lh (aJ.o (fun ⟨y,_,_,hb,_⟩=>by
     have h1:=hb.fn
     rw [HN.o,Int.toNat_natCast,List.getElem?_eq_none c2] at h1
     cases h1))
    go_wp2
    go_ret
    exact ⟨by rw [hv.o];rfl,aW.o⟩
   have d2:decide (c.funcs.length<=n)=false:=by simp;omega
   obtain ⟨y,hy⟩:∃ y,c.funcs[n]?=some y:=⟨_,Lg ω⟩
   have HY:=Lh hy
   obtain ⟨yb,yo,fK,bR,eG⟩:∃ yb yo,ga=some (π yb yo)/\yb<B/\Zl B w yb (yo+n*5) y:=by
    obtain ⟨fv0,gB,eI,_,hg,_⟩:=HC.o
    simp only [Value.agg.injEq,Array.mk.injEq,List.cons.injEq,and_true] at eI
    obtain ⟨_,_,rfl⟩:=eI
    obtain ⟨a0,aN,bO,fL,fM,fN,hE⟩:=hg
    obtain ⟨rfl,rfl⟩:ga=a0/\gc=aN:=by simpa using bO
    rcases hE with h0|⟨yb,yo,rfl,bR,hE⟩
    ·rw [h0] at hy;simp at hy
    ·exact ⟨yb,yo,rfl,bR,hE n y hy⟩
   subst fK
   have eF:B<=W2.heap.size:=Nt hB aW.o.size
   obtain ⟨g1,g2,g3,g4,⟨xv,g5,g6⟩,g7,g8,g9⟩:=eG.below (aW.o.mono hB) bR
   obtain ⟨ca,cc,rfl⟩:=g6.form
   have eD:=Lh g6
   have fI:=hsm y (Lm hy)
   have fJ:=hs.fok hy
   unfold Zr at fJ
   have zy:=Bl g1
   have gG:(0:Int)<=(n:Int):=In _
   have gH:(n:Int)<(c.funcs.length:Int):=ω
   obtain ⟨W3,cB⟩:∃ W,W=W2.alloc (χ #[.string y.name,ι y.params,ι y.locals,.bool y.result,σ ca y.code.length cc] 93):=⟨_,rfl⟩
   have aI:Below W2.heap.size W2 W3:=by rw [cB];exact Xa _ _
   have cH:Hid (Xo W3 W2.heap.size [.string y.name,ι y.params,ι y.locals,.bool y.result,σ ca y.code.length cc]):=by rw [cB];exact Lh Xd
   clear hy g6 g7 g8 g9 eG
   go_upto_region 19 with fail
   rw [<-cB]
   have dH:=Lh cB
   have i0:=Xc aI i0
   have i1:=Xc aI i1
   have i2:=Xc aI i2
   have m0:=Xc aI m0
   have m1:=Xc aI m1
   have m2:=Xc aI m2
   have m3:=Xc aI m3
   have m4:=Xc aI m4
   have m5:=Xc aI m5
   have m6:=Xc aI m6
   have m7:=Xc aI m7
   have m8:=Xc aI m8
   have n0:=Xc aI n0
   have n1:=Xc aI n1
   have n2:=Xc aI n2
   have n3:=Xc aI n3
   have y0:=cH.o 0 _ rfl
   have y1:=cH.o 1 _ rfl
   have y2:=cH.o 2 _ rfl
   have y3:=cH.o 3 _ rfl
   have y4:=cH.o 4 _ rfl
   have z0:=Bl i0
   have z1:=Bl m0
   have zn:=Bl n0
   have zy:=Bl y0
   have aX:=Lh (aW.o.then aI)
   have eU:=Lh (eT.o.keep aI)
   obtain ⟨ib,cR⟩:∃ b,b=wr.heap.size:=⟨_,rfl⟩
   obtain ⟨yc,cU⟩:∃ b,b=W2.heap.size:=⟨_,rfl⟩
   rw [<-cR] at n0 n1 n2 n3 zn
   rw [<-cU] at y0 y1 y2 y3 y4 zy
   rw [<-cR,<- cU]
   have eS:=Lh cR
   have fB:=Lh cU
   clear cB aI cR cU g1 g2 g3 g4 g5
   by_cases c3:f.pc<1
   ·have d:decide (f.pc<1)=true:=by simp [c3]
    have hv:=Lh (aJ.o (fun ⟨_,_,_,_,h1,_⟩=>by omega))
    go_wp2
    go_ret
    exact ⟨by rw [hv.o];rfl,aX.o⟩
   obtain ⟨p,hp⟩:∃ p:Nat,f.pc=(p:Int)+1:=⟨(f.pc - 1).toNat,ω⟩
   have HP:=Lh hp
   rw [hp] at n1
   have dp:decide ((p:Int)+1<1)=false:=by simp;omega
   have fS:(p:Int)+1<=9223372036854775807:=ω
   clear hp c3
   by_cases c4:(y.code.length:Int)<(p:Int)+1
   ·have d:decide ((y.code.length:Int)<(p:Int)+1)=true:=by simp;omega
    have hv:=Lh (aJ.o (fun ⟨y',x',_,hb,_,hx,_⟩=>by
     have h1:=hb.fn
     rw [HN.o,Int.toNat_natCast,HY.o] at h1
     cases h1
     rw [HP.o,show ((p:Int)+1 - 1).toNat=p by omega,List.getElem?_eq_none ω] at hx
     cases hx))
    go_wp2
    go_ret
    exact ⟨by rw [hv.o];rfl,aX.o⟩
   have d4:decide ((y.code.length:Int)<(p:Int)+1)=false:=by simp;omega
   by_cases c5:(f.locals.length:Int)=y.locals
   rotate_left
   ·have d:((f.locals.length:Int) == y.locals)=false:=by simp [c5]
    have d':((f.locals.length:Int) != y.locals)=true:=by simp [c5]
    have hv:=Lh (aJ.o (fun ⟨y',x',_,hb,_⟩=>by
     have h1:=hb.fn
     rw [HN.o,Int.toNat_natCast,HY.o] at h1
     cases h1
     exact c5 hb.loc))
    go_wp2
    go_ret
    exact ⟨by rw [hv.o];rfl,aX.o⟩
   have dC:=Lh c5
   rw [<-c5] at y2
   clear c5
   have dJ:B<=W3.heap.size:=Nt hB aX.o.size
   have cG:Hid (Below B wr W3):=Lh (by
    have h1:=cM.o.mono (Nt hB cN.o.size)
    have h2:Below W2.heap.size W2 W3:=by rw [dH.o];exact Xa _ _
    exact h1.trans (h2.mono eF))
   have dD:=Lh (eX.o.ints cG.o)
   go_wp2_with fail
   refine (Y3 161 #[] (fun n=>!X1 n) f.locals _ B W3 Xat dJ dD.o (Xe1 _)).mono ?_
   rintro e W4 ⟨rfl,aE⟩
   have i0:=Xc aE i0
   have i1:=Xc aE i1
   have i2:=Xc aE i2
   have m0:=Xc aE m0
   have m1:=Xc aE m1
   have m2:=Xc aE m2
   have m3:=Xc aE m3
   have m4:=Xc aE m4
   have m5:=Xc aE m5
   have m6:=Xc aE m6
   have m7:=Xc aE m7
   have m8:=Xc aE m8
   have n0:=Xc aE n0
   have n1:=Xc aE n1
   have n2:=Xc aE n2
   have n3:=Xc aE n3
   have y0:=Xc aE y0
   have y1:=Xc aE y1
   have y2:=Xc aE y2
   have y3:=Xc aE y3
   have y4:=Xc aE y4
   have z0:=Bl i0
   have z1:=Bl m0
   have zn:=Bl n0
   have zy:=Bl y0
   have bC:=Lh (aX.o.then aE)
   have eV:=Lh (eU.o.keep aE)
   have dF:=Lh ((eZ.o.ints cG.o).ints (aE.mono dJ))
   have cX:=Lh aE
   clear aE
   cases cS:f.locals.any (fun n=>!X1 n) with
   | true=>
    have hv:=Lh (aJ.o (fun ⟨_,_,_,hb,_⟩=>Xkh cS hb.lv))
    clear cS
    go_wp2
    go_ret
    exact ⟨by rw [hv.o];rfl,bC.o⟩
   | false=>
   have dE:=Lh (Xkr cS)
   clear cS
   go_wp2_with fail
   refine (Y3 161 #[] (fun n=>!X1 n) f.stack _ B W4 Xat (Nt hB bC.o.size) dF.o (Xe1 _)).mono ?_
   rintro e W5 ⟨rfl,aF⟩
   have i0:=Xc aF i0
   have i1:=Xc aF i1
   have i2:=Xc aF i2
   have m0:=Xc aF m0
   have m1:=Xc aF m1
   have m2:=Xc aF m2
   have m3:=Xc aF m3
   have m4:=Xc aF m4
   have m5:=Xc aF m5
   have m6:=Xc aF m6
   have m7:=Xc aF m7
   have m8:=Xc aF m8
   have n0:=Xc aF n0
   have n1:=Xc aF n1
   have n2:=Xc aF n2
   have n3:=Xc aF n3
   have y0:=Xc aF y0
   have y1:=Xc aF y1
   have y2:=Xc aF y2
   have y3:=Xc aF y3
   have y4:=Xc aF y4
   have z0:=Bl i0
   have z1:=Bl m0
   have zn:=Bl n0
   have zy:=Bl y0
   have aL:=Lh (bC.o.then aF)
   have bJ:=Lh (eV.o.keep aF)
   have cC:Hid (Below B W2 W5):=Lh (by
    have h2:Below W2.heap.size W2 W3:=by rw [dH.o];exact Xa _ _
    exact ((h2.mono eF).trans (cX.o.mono dJ)).trans (aF.mono (Nt hB bC.o.size)))
   have cD:Hid (Below bk w1 W5):=Lh (by
    have h1:=aS.o.trans (cM.o.mono (Nat.le_of_lt cF))
    have h2:Below W2.heap.size W2 W3:=by rw [dH.o];exact Xa _ _
    have e2:bk<=W2.heap.size:=Nt (Nat.le_of_lt cF) cM.o.size
    have e3:bk<=W3.heap.size:=Nt e2 h2.size
    have e4:bk<=W4.heap.size:=Nt e3 cX.o.size
    exact ((h1.trans (h2.mono e2)).trans (cX.o.mono e3)).trans (aF.mono e4))
   clear aF
   cases cT:f.stack.any (fun n=>!X1 n) with
   | true=>
    have hv:=Lh (aJ.o (fun ⟨_,_,_,hb,_⟩=>Xkh cT hb.sv))
    clear cT
    go_wp2
    go_ret
    exact ⟨by rw [hv.o];rfl,aL.o⟩
   | false=>
   have dG:=Lh (Xkr cT)
   clear cT
   have cJ:p<y.code.length:=ω
   clear eP eQ fS fO fT
   obtain ⟨x,hx⟩:∃ x,y.code[p]?=some x:=⟨_,Lg cJ⟩
   have HX:=Lh hx
   have bH:Hid (Xaa c f y):=Lh ⟨by rw [HN.o];omega,by rw [HN.o,Int.toNat_natCast];exact HY.o,by rw [HP.o];omega,dC.o,dE.o,dG.o⟩
   have cI:=(hs.wf HY.o).op x (Lm hx)
   have h9:Hid (x.op=9->0<=x.a/\x.a<c.funcs.length):=Lh (fun e=>hs.lim HY.o hx (by rw [e];rfl))
   have eN:Hid (0<=Qb c x/\Qb c x<=6):=Lh (by
    unfold Qb
    split
    ·omega
    split
    ·omega
    split
    ·rename_i e _ e9
     have:=h9.o e9
     cases hg:Je c x.a with
     | none=>simp
     | some z=>have:=hs.fok (show c.funcs[x.a.toNat]?=some z from hg);unfold Zr at this;simp only [];omega
    ·omega)
   clear hx
   have fW:Hid (∀ es' clock',True):=Lh (fun (_:Nat) (_:Nat)=>trivial)
   clear fW
   rcases bJ.o.find n y HY.o with dY|⟨jf,g,cK,eJ,bA,hA⟩
   ·have eM:(Instr.lookup 192 (.map (some bk)) (ι (n:Int)) true).run Tryz.prog W5=.ok (.tuple #[ν,.bool false]) W5:=Xki bJ.o.map n none dY
    have eY:=Lh dY
    have dK:B<=W5.heap.size:=Nt hB aL.o.size
    have cE:=(La bJ.o.map)
    clear dY
    go_wp2_with fail
    refine (Xhn c _ n y B W5 (HL.o.below aL.o) dK (HC.o.below (aL.o.mono hB)) hs HY.o).mono ?_
    rintro e W6 ⟨g,cK,rfl,gC,aT,hA,aD⟩
    have dB:=Lh (bJ.o.keep aD)
    have eO:(Instr.mapUpdate 192 (.map (some bk)) (ι (n:Int)) (σ (some (π g 0)) y.code.length y.code.length)).run Tryz.prog W6=.ok () (Kr W6 bk (.map (es.push ⟨ι n,σ (some (π g 0)) y.code.length y.code.length,aH⟩) (aH+1))):=Xnc dB.o.map n _ eY.o
    obtain ⟨WY,cP⟩:∃ W,W=Kr W6 bk (.map (es.push ⟨ι n,σ (some (π g 0)) y.code.length y.code.length,aH⟩) (aH+1)):=⟨_,rfl⟩
    rw [<-cP] at eO
    have dU:g≠bk:=ω
    have eE:Hid (Vy c bk WY bk _ _):=Lh (by rw [cP];exact dB.o.add n y HY.o g cK aT hA ω dU)
    have bS:Xp [bk] [bk] W6 WY:=by rw [cP];exact Xh4
    have bA:WY.heap[g]?=some (χ (Xx cK) 3 (0,0)):=by rw [bS.block g (La aT) (by simp;exact dU)];exact aT
    have cZ:Hid (Below w.heap.size w WY):=Lh ((aL.o.then aD).trans (bS.below (fun b hb=>by simp at hb;omega) (aL.o.then aD).size))
    have dQ:Hid (Below bk w1 WY):=Lh ((cD.o.trans (aD.mono (Nat.le_of_lt cE))).trans (bS.below (fun b hb=>by simp at hb;omega) (Nat.le_of_lt (La dB.o.map))))
    have fG:Hid (Below B W2 WY):=Lh ((cC.o.trans (aD.mono dK)).trans (bS.below (fun b hb=>by simp at hb;omega) (Nt dK aD.size)))
    have i0:=Xc aD i0
    have i1:=Xc aD i1
    have i2:=Xc aD i2
    have m0:=Xc aD m0
    have m1:=Xc aD m1
    have m2:=Xc aD m2
    have m3:=Xc aD m3
    have m4:=Xc aD m4
    have m5:=Xc aD m5
    have m6:=Xc aD m6
    have m7:=Xc aD m7
    have m8:=Xc aD m8
    have n0:=Xc aD n0
    have n1:=Xc aD n1
    have n2:=Xc aD n2
    have n3:=Xc aD n3
    have y0:=Xc aD y0
    have y1:=Xc aD y1
    have y2:=Xc aD y2
    have y3:=Xc aD y3
    have y4:=Xc aD y4
    have z0:=Bl i0
    have z1:=Bl m0
    have zn:=Bl n0
    have zy:=Bl y0
    clear cP
    go_upto_region 26 with fail
    have aG:∀ {a:Addr} {u:Value},W6.cell? a=some u->a.block≠bk->WY.cell? a=some u:=fun h1 h2=>bS.cell h1 (by simp;exact h2)
    have cO:ib≠bk:=by rw [eS.o];omega
    have bY:yc≠bk:=by rw [fB.o];have:=cM.o.size;omega
    have i0:=aG i0 (show w.heap.size≠bk by omega)
    have i1:=aG i1 (show w.heap.size≠bk by omega)
    have i2:=aG i2 (show w.heap.size≠bk by omega)
    have m0:=aG m0 (show w.heap.size+1≠bk by omega)
    have m1:=aG m1 (show w.heap.size+1≠bk by omega)
    have m2:=aG m2 (show w.heap.size+1≠bk by omega)
    have m3:=aG m3 (show w.heap.size+1≠bk by omega)
    have m4:=aG m4 (show w.heap.size+1≠bk by omega)
    have m5:=aG m5 (show w.heap.size+1≠bk by omega)
    have m6:=aG m6 (show w.heap.size+1≠bk by omega)
    have m7:=aG m7 (show w.heap.size+1≠bk by omega)
    have m8:=aG m8 (show w.heap.size+1≠bk by omega)
    have n0:=aG n0 cO
    have n1:=aG n1 cO
    have n2:=aG n2 cO
    have n3:=aG n3 cO
    have y0:=aG y0 bY
    have y1:=aG y1 bY
    have y2:=aG y2 bY
    have y3:=aG y3 bY
    have y4:=aG y4 bY
    have z0:=Bl i0
    have z1:=Bl m0
    have zn:=Bl n0
    have zy:=Bl y0
    clear aG eM eO aD bS aT
    obtain ⟨v,hv⟩:∃ v,cK[p]?=some v:=⟨_,Lg (by rw [hA.1];omega)⟩
    have hT:Hid (Vu c f y x v):=Lh ⟨bH.o,by rw [HP.o];omega,by rw [HP.o,show ((p:Int)+1 - 1).toNat=p by omega];exact HX.o,by rw [HP.o,show ((p:Int)+1 - 1).toNat=p by omega];exact hA.2 p v hv⟩
    have fU:-1<=v/\v<=100000:=by
     rcases hA.2 p v hv with ⟨h,_⟩|⟨h,hr⟩
     ·omega
     ·have:=Qu (hs.wf HY.o) (hs.snd HY.o) hr;omega
    have r0:WY.cell? (π g p)=some (ι v):=by rw [cell_of_row _ _ _ _ _ _ bA];exact Qe hv
    have zg:=Bl r0
    obtain ⟨cb,co,dR,dS,dM⟩:∃ cb co,ca=some (π cb co)/\cb<B/\Xbu WY cb (co+p*2) x:=by
     obtain ⟨a0,aN,bO,_,_,_,hE⟩:=eD.o.inss fG.o
     obtain ⟨rfl,rfl⟩:ca=a0/\cc=aN:=by simpa using bO
     rcases hE with h0|⟨cb,co,rfl,hb,hE⟩
     ·rw [h0] at cJ;simp at cJ
     ·exact ⟨cb,co,rfl,hb,hE p x HX.o⟩
    subst dR
    obtain ⟨x0,x1,eB,cL⟩:=dM
    have zx:=Bl x0
    have fQ:(0:Int)<=(p:Int):=In _
    have fR:(p:Int)<(y.code.length:Int):=ω
    obtain ⟨aC,xa⟩:=x
    dsimp only at x0 x1 cI
    obtain ⟨W7,bD⟩:∃ W,W=WY.alloc (χ #[ι aC,ι xa] 124):=⟨_,rfl⟩
    have aB:Below WY.heap.size WY W7:=by rw [bD];exact Xa _ _
    have bN:Hid (Xo W7 WY.heap.size [ι aC,ι xa]):=by rw [bD];exact Lh Xd
    have HA:=Lh hA
    have HV:=Lh hv
    clear hA hv bA
    go_upto_region 27 with fail
    rw [<-bD]
    have i0:=Xc aB i0
    have i1:=Xc aB i1
    have i2:=Xc aB i2
    have m0:=Xc aB m0
    have m1:=Xc aB m1
    have m2:=Xc aB m2
    have m3:=Xc aB m3
    have m4:=Xc aB m4
    have m5:=Xc aB m5
    have m6:=Xc aB m6
    have m7:=Xc aB m7
    have m8:=Xc aB m8
    have n0:=Xc aB n0
    have n1:=Xc aB n1
    have n2:=Xc aB n2
    have n3:=Xc aB n3
    have y0:=Xc aB y0
    have y1:=Xc aB y1
    have y2:=Xc aB y2
    have y3:=Xc aB y3
    have y4:=Xc aB y4
    have r0:=Xc aB r0
    have z0:=Bl i0
    have z1:=Bl m0
    have zn:=Bl n0
    have zy:=Bl y0
    have x0:=bN.o 0 _ rfl
    have x1:=bN.o 1 _ rfl
    have zx:=Bl x0
    have zg:=Bl r0
    have bB:=Lh (cZ.o.then aB)
    have bW:=Lh (eE.o.keep aB)
    have bM:Hid (Below bk w1 W7):=Lh (dQ.o.trans (aB.mono (Nat.le_of_lt (La eE.o.map))))
    have dL:B<=W7.drew.heap.size:=Nt hB bB.o.size
    have dA:Hid (Yj B W7.drew (.agg #[σ fa c.fields.length fc,ι c.globals,σ (some (π yb yo)) c.funcs.length gc]) c):=Lh (HC.o.below ((Xh bB.o 1).mono hB))
    obtain ⟨xb,bQ⟩:∃ b,b=WY.heap.size:=⟨_,rfl⟩
    rw [<-bQ] at x0 x1 zx
    rw [<-bQ]
    clear bD aB bQ bN
    by_cases c8:v<0
    ·have d:decide (v<0)=true:=by simp [c8]
     have hv:=Lh (aJ.o (hT.o.neg c8))
     go_quiet (fail)
     go_wp2
     go_ret
     exact ⟨by rw [hv.o];rfl,Xh bB.o _⟩
    have d8:decide (v<0)=false:=by simp;omega
    have hw:IntKind.i64.wrap (v - Qb c ⟨aC,xa⟩)=v - Qb c ⟨aC,xa⟩:=by have:=eN.o;rw [IntKind.wrap_i64];omega
    have fA:=Lh hw
    go_region_held3 (fun V=>V.cell? (π g p)=some (ι v)/\V.cell? (π ib 3)=some (σ sa f.stack.length sc)/\V.cell? (π w.heap.size 0)=some (σ fa c.fields.length fc)/\V.cell? (π w.heap.size 1)=some (ι c.globals)/\V.cell? (π w.heap.size 2)=some (σ (some (π yb yo)) c.funcs.length gc)/\V.cell? (π xb 0)=some (ι aC)/\V.cell? (π xb 1)=some (ι xa))
     (first|exact ⟨r0,n3,i0,i1,i2,x0,x1⟩|exact ⟨Xc aA r0,Xc aA n3,Xc aA i0,Xc aA i1,Xc aA i2,Xc aA x0,Xc aA x1⟩)
     (first|(go_at_call 163;refine (Xhe c _ ⟨aC,xa⟩ B W7.drew dL dA.o h9.o).mono ?_;rintro e W8 ⟨rfl,aA⟩))
    have aV:=Lh ((Xh bB.o 1).then aA)
    have bK:=Lh ((bW.o.keep (Xh Br 1)).keep aA)
    have aZ:Hid (Below bk w1 W8):=Lh ((bM.o.trans (Xh Br 1)).trans (aA.mono (Nat.le_of_lt (La bW.o.map))))
    have i0:=Xc aA (show W7.drew.cell? _=_ from i0)
    have i1:=Xc aA (show W7.drew.cell? _=_ from i1)
    have i2:=Xc aA (show W7.drew.cell? _=_ from i2)
    have m0:=Xc aA (show W7.drew.cell? _=_ from m0)
    have m1:=Xc aA (show W7.drew.cell? _=_ from m1)
    have m2:=Xc aA (show W7.drew.cell? _=_ from m2)
    have m3:=Xc aA (show W7.drew.cell? _=_ from m3)
    have m4:=Xc aA (show W7.drew.cell? _=_ from m4)
    have m5:=Xc aA (show W7.drew.cell? _=_ from m5)
    have m6:=Xc aA (show W7.drew.cell? _=_ from m6)
    have m7:=Xc aA (show W7.drew.cell? _=_ from m7)
    have m8:=Xc aA (show W7.drew.cell? _=_ from m8)
    have n0:=Xc aA (show W7.drew.cell? _=_ from n0)
    have n1:=Xc aA (show W7.drew.cell? _=_ from n1)
    have n2:=Xc aA (show W7.drew.cell? _=_ from n2)
    have n3:=Xc aA (show W7.drew.cell? _=_ from n3)
    have y0:=Xc aA (show W7.drew.cell? _=_ from y0)
    have y1:=Xc aA (show W7.drew.cell? _=_ from y1)
    have y2:=Xc aA (show W7.drew.cell? _=_ from y2)
    have y3:=Xc aA (show W7.drew.cell? _=_ from y3)
    have y4:=Xc aA (show W7.drew.cell? _=_ from y4)
    have x0:=Xc aA (show W7.drew.cell? _=_ from x0)
    have x1:=Xc aA (show W7.drew.cell? _=_ from x1)
    have z0:=Bl i0
    have z1:=Bl m0
    have zn:=Bl n0
    have zy:=Bl y0
    have zx:=Bl x0
    clear aA hw
    by_cases c9:(f.stack.length:Int)=v - Qb c ⟨aC,xa⟩
    rotate_left
    ·have d:((f.stack.length:Int) == v - Qb c ⟨aC,xa⟩)=false:=by simp [c9]
     have d':((f.stack.length:Int) != v - Qb c ⟨aC,xa⟩)=true:=by simp [c9]
     have hv:=Lh (aJ.o (fun hf=>c9 (hT.o.ht hs hf).1))
     go_wp2
     go_ret
     exact ⟨by rw [hv.o];rfl,aV.o⟩
    have bU:=Lh c9
    have d9:((f.stack.length:Int) == v - Qb c ⟨aC,xa⟩)=true:=by simp [c9]
    have fD:((f.stack.length:Int) != v - Qb c ⟨aC,xa⟩)=false:=by simp [c9]
    clear c9
    by_cases cl:k+1=fs.length
    ·have aU:=Lh cl
     have dl:((k:Int) == (fs.length:Int) - 1)=true:=by simp;omega
     clear cl
     go_wp2_with fail
     refine (Xfe ⟨aC,xa⟩ ⟨kind,node,field,value,fault⟩ W8).mono ?_
     rintro e W9 ⟨rfl,bF⟩
     have cY:=Lh (aV.o.then bF)
     have bL:=Lh (bK.o.keep bF)
     have aO:Hid (Below bk w1 W9):=Lh (aZ.o.trans (bF.mono (Nat.le_of_lt (La bK.o.map))))
     clear bF
     cases bE:Xr ⟨aC,xa⟩ ⟨kind,node,field,value,fault⟩ with
     | false=>
      have hv:=Lh (aJ.o (fun hf=>by
       have:=(hT.o.ht hs hf).2
       rw [if_pos aU.o,bE] at this
       cases this))
      clear bE
      go_wp2
      go_ret
      exact ⟨by rw [hv.o];rfl,cY.o⟩
     | true=>
      have aQ:Hid (Yx c fs ⟨kind,node,field,value,fault⟩ k f):=Lh (hT.o.yes ω bU.o (by rw [if_pos aU.o];exact bE))
      clear bE
      go_wp2_with fail
      go_roundg (gk - 1)
      case measure=>omega
      case rel=>exact ⟨k+1,ω,by go_num,ω,aO,Lh ⟨_,_,bL.o⟩,Lh (fun j f' hj aP=>by
       by_cases e:j=k
       ·subst e;rw [HF.o] at aP;cases aP;exact aQ.o
       ·exact aY.o j f' ω aP)⟩
    ·have dl:((k:Int) == (fs.length:Int) - 1)=false:=by simp;omega
     obtain ⟨f2,bG⟩:∃ f2,fs[k+1]?=some f2:=⟨_,Lg ω⟩
     have q0:=((bX.o (k+1) f2 bG).below (aV.o.mono hB) bP).1
     have eC:=(bX.o (k+1) f2 bG).2.2.2.2.1
     have zq:=Bl q0
     have bV:=Lh bG
     have aU:=Lh cl
     have dV:(0:Int)<=(k:Int)+1:=ω
     have dW:(k:Int)+1<(fs.length:Int):=ω
     have dX:((k:Int)+1).toNat=k+1:=ω
     have eA:IntKind.i64.wrap ((k:Int)+1)=(k:Int)+1:=by rw [IntKind.wrap_i64];omega
     clear bG cl
     go_upto_region 32 with fail
     by_cases c11:aC=9
     rotate_left
     ·have d:(aC == 9)=false:=by simp [c11]
      have d':(aC != 9)=true:=by simp [c11]
      have hv:=Lh (aJ.o (fun hf=>by
       have:=(hT.o.ht hs hf).2
       rw [if_neg aU.o] at this
       exact c11 this.1))
      go_quiet (fail)
      go_wp2
      go_ret
      exact ⟨by rw [hv.o];rfl,Xh aV.o _⟩
     have fC:(aC == 9)=true:=by simp [c11]
     have dI:(aC != 9)=false:=by simp [c11]
     have bI:=Lh c11
     clear c11
     by_cases aM:xa=f2.fn
     ·have d:(xa == f2.fn)=true:=by simp [aM]
      have d':(xa != f2.fn)=false:=by simp [aM]
      have aQ:Hid (Yx c fs ⟨kind,node,field,value,fault⟩ k f):=Lh (hT.o.yes ω bU.o (by rw [if_neg aU.o];exact ⟨bI.o,f2,bV.o,aM⟩))
      clear aM
      go_quiet (fail)
      have bL:=Lh (bK.o.keep (Xh Br nq))
      have aO:Hid (Below bk w1 (W8.drewN nq)):=Lh (aZ.o.trans (Xh Br nq))
      clear dX eA
      go_wp2_with fail
      go_roundg (gk - 1)
      case measure=>omega
      case rel=>exact ⟨k+1,ω,by go_num,ω,aO,Lh ⟨_,_,bL.o⟩,Lh (fun j f' hj aP=>by
       by_cases e:j=k
       ·subst e;rw [HF.o] at aP;cases aP;exact aQ.o
       ·exact aY.o j f' ω aP)⟩
     ·have d:(xa == f2.fn)=false:=by simp [aM]
      have d':(xa != f2.fn)=true:=by simp [aM]
      have hv:=Lh (aJ.o (fun hf=>by
       have:=(hT.o.ht hs hf).2
       rw [if_neg aU.o] at this
       obtain ⟨_,f3,h3,h4⟩:=this
       rw [bV.o] at h3
       cases h3
       exact aM h4))
      go_quiet (fail)
      go_wp2
      go_ret
      exact ⟨by rw [hv.o];rfl,Xh aV.o _⟩
   ·have eM:(Instr.lookup 192 (.map (some bk)) (ι (n:Int)) true).run Tryz.prog W5=.ok (.tuple #[σ (some (π g 0)) y.code.length y.code.length,.bool true]) W5:=Xki bJ.o.map n _ eJ
    clear eJ
    obtain ⟨v,hv⟩:∃ v,cK[p]?=some v:=⟨_,Lg (by rw [hA.1];omega)⟩
    have hT:Hid (Vu c f y x v):=Lh ⟨bH.o,by rw [HP.o];omega,by rw [HP.o,show ((p:Int)+1 - 1).toNat=p by omega];exact HX.o,by rw [HP.o,show ((p:Int)+1 - 1).toNat=p by omega];exact hA.2 p v hv⟩
    have fU:-1<=v/\v<=100000:=by
     rcases hA.2 p v hv with ⟨h,_⟩|⟨h,hr⟩
     ·omega
     ·have:=Qu (hs.wf HY.o) (hs.snd HY.o) hr;omega
    have r0:W5.cell? (π g p)=some (ι v):=by rw [cell_of_row _ _ _ _ _ _ bA];exact Qe hv
    have zg:=Bl r0
    obtain ⟨cb,co,dR,dS,dM⟩:∃ cb co,ca=some (π cb co)/\cb<B/\Xbu W5 cb (co+p*2) x:=by
     obtain ⟨a0,aN,bO,_,_,_,hE⟩:=eD.o.inss cC.o
     obtain ⟨rfl,rfl⟩:ca=a0/\cc=aN:=by simpa using bO
     rcases hE with h0|⟨cb,co,rfl,hb,hE⟩
     ·rw [h0] at cJ;simp at cJ
     ·exact ⟨cb,co,rfl,hb,hE p x HX.o⟩
    subst dR
    obtain ⟨x0,x1,eB,cL⟩:=dM
    have zx:=Bl x0
    have fQ:(0:Int)<=(p:Int):=In _
    have fR:(p:Int)<(y.code.length:Int):=ω
    obtain ⟨aC,xa⟩:=x
    dsimp only at x0 x1 cI
    obtain ⟨W7,bD⟩:∃ W,W=W5.alloc (χ #[ι aC,ι xa] 124):=⟨_,rfl⟩
    have aB:Below W5.heap.size W5 W7:=by rw [bD];exact Xa _ _
    have bN:Hid (Xo W7 W5.heap.size [ι aC,ι xa]):=by rw [bD];exact Lh Xd
    have HA:=Lh hA
    have HV:=Lh hv
    clear hA hv bA
    go_upto_region 27 with fail
    rw [<-bD]
    have i0:=Xc aB i0
    have i1:=Xc aB i1
    have i2:=Xc aB i2
    have m0:=Xc aB m0
    have m1:=Xc aB m1
    have m2:=Xc aB m2
    have m3:=Xc aB m3
    have m4:=Xc aB m4
    have m5:=Xc aB m5
    have m6:=Xc aB m6
    have m7:=Xc aB m7
    have m8:=Xc aB m8
    have n0:=Xc aB n0
    have n1:=Xc aB n1
    have n2:=Xc aB n2
    have n3:=Xc aB n3
    have y0:=Xc aB y0
    have y1:=Xc aB y1
    have y2:=Xc aB y2
    have y3:=Xc aB y3
    have y4:=Xc aB y4
    have r0:=Xc aB r0
    have z0:=Bl i0
    have z1:=Bl m0
    have zn:=Bl n0
    have zy:=Bl y0
    have x0:=bN.o 0 _ rfl
    have x1:=bN.o 1 _ rfl
    have zx:=Bl x0
    have zg:=Bl r0
    have bB:=Lh (aL.o.then aB)
    have bW:=Lh (bJ.o.keep aB)
    have bM:Hid (Below bk w1 W7):=Lh (cD.o.trans (aB.mono (Nat.le_of_lt (La bJ.o.map))))
    have dL:B<=W7.drew.heap.size:=Nt hB bB.o.size
    have dA:Hid (Yj B W7.drew (.agg #[σ fa c.fields.length fc,ι c.globals,σ (some (π yb yo)) c.funcs.length gc]) c):=Lh (HC.o.below ((Xh bB.o 1).mono hB))
    obtain ⟨xb,bQ⟩:∃ b,b=W5.heap.size:=⟨_,rfl⟩
    rw [<-bQ] at x0 x1 zx
    rw [<-bQ]
    clear bD aB bQ bN
    by_cases c8:v<0
    ·have d:decide (v<0)=true:=by simp [c8]
     have hv:=Lh (aJ.o (hT.o.neg c8))
     go_quiet (fail)
     go_wp2
     go_ret
     exact ⟨by rw [hv.o];rfl,Xh bB.o _⟩
    have d8:decide (v<0)=false:=by simp;omega
    have hw:IntKind.i64.wrap (v - Qb c ⟨aC,xa⟩)=v - Qb c ⟨aC,xa⟩:=by have:=eN.o;rw [IntKind.wrap_i64];omega
    have fA:=Lh hw
    go_region_held3 (fun V=>V.cell? (π g p)=some (ι v)/\V.cell? (π ib 3)=some (σ sa f.stack.length sc)/\V.cell? (π w.heap.size 0)=some (σ fa c.fields.length fc)/\V.cell? (π w.heap.size 1)=some (ι c.globals)/\V.cell? (π w.heap.size 2)=some (σ (some (π yb yo)) c.funcs.length gc)/\V.cell? (π xb 0)=some (ι aC)/\V.cell? (π xb 1)=some (ι xa))
     (first|exact ⟨r0,n3,i0,i1,i2,x0,x1⟩|exact ⟨Xc aA r0,Xc aA n3,Xc aA i0,Xc aA i1,Xc aA i2,Xc aA x0,Xc aA x1⟩)
     (first|(go_at_call 163;refine (Xhe c _ ⟨aC,xa⟩ B W7.drew dL dA.o h9.o).mono ?_;rintro e W8 ⟨rfl,aA⟩))
    have aV:=Lh ((Xh bB.o 1).then aA)
    have bK:=Lh ((bW.o.keep (Xh Br 1)).keep aA)
    have aZ:Hid (Below bk w1 W8):=Lh ((bM.o.trans (Xh Br 1)).trans (aA.mono (Nat.le_of_lt (La bW.o.map))))
    have i0:=Xc aA (show W7.drew.cell? _=_ from i0)
    have i1:=Xc aA (show W7.drew.cell? _=_ from i1)
    have i2:=Xc aA (show W7.drew.cell? _=_ from i2)
    have m0:=Xc aA (show W7.drew.cell? _=_ from m0)
    have m1:=Xc aA (show W7.drew.cell? _=_ from m1)
    have m2:=Xc aA (show W7.drew.cell? _=_ from m2)
    have m3:=Xc aA (show W7.drew.cell? _=_ from m3)
    have m4:=Xc aA (show W7.drew.cell? _=_ from m4)
    have m5:=Xc aA (show W7.drew.cell? _=_ from m5)
    have m6:=Xc aA (show W7.drew.cell? _=_ from m6)
    have m7:=Xc aA (show W7.drew.cell? _=_ from m7)
    have m8:=Xc aA (show W7.drew.cell? _=_ from m8)
    have n0:=Xc aA (show W7.drew.cell? _=_ from n0)
    have n1:=Xc aA (show W7.drew.cell? _=_ from n1)
    have n2:=Xc aA (show W7.drew.cell? _=_ from n2)
    have n3:=Xc aA (show W7.drew.cell? _=_ from n3)
    have y0:=Xc aA (show W7.drew.cell? _=_ from y0)
    have y1:=Xc aA (show W7.drew.cell? _=_ from y1)
    have y2:=Xc aA (show W7.drew.cell? _=_ from y2)
    have y3:=Xc aA (show W7.drew.cell? _=_ from y3)
    have y4:=Xc aA (show W7.drew.cell? _=_ from y4)
    have x0:=Xc aA (show W7.drew.cell? _=_ from x0)
    have x1:=Xc aA (show W7.drew.cell? _=_ from x1)
    have z0:=Bl i0
    have z1:=Bl m0
    have zn:=Bl n0
    have zy:=Bl y0
    have zx:=Bl x0
    clear aA hw
    by_cases c9:(f.stack.length:Int)=v - Qb c ⟨aC,xa⟩
    rotate_left
    ·have d:((f.stack.length:Int) == v - Qb c ⟨aC,xa⟩)=false:=by simp [c9]
     have d':((f.stack.length:Int) != v - Qb c ⟨aC,xa⟩)=true:=by simp [c9]
     have hv:=Lh (aJ.o (fun hf=>c9 (hT.o.ht hs hf).1))
     go_wp2
     go_ret
     exact ⟨by rw [hv.o];rfl,aV.o⟩
    have bU:=Lh c9
    have d9:((f.stack.length:Int) == v - Qb c ⟨aC,xa⟩)=true:=by simp [c9]
    have fD:((f.stack.length:Int) != v - Qb c ⟨aC,xa⟩)=false:=by simp [c9]
    clear c9
    by_cases cl:k+1=fs.length
    ·have aU:=Lh cl
     have dl:((k:Int) == (fs.length:Int) - 1)=true:=by simp;omega
     clear cl
     go_wp2_with fail
     refine (Xfe ⟨aC,xa⟩ ⟨kind,node,field,value,fault⟩ W8).mono ?_
     rintro e W9 ⟨rfl,bF⟩
     have cY:=Lh (aV.o.then bF)
     have bL:=Lh (bK.o.keep bF)
     have aO:Hid (Below bk w1 W9):=Lh (aZ.o.trans (bF.mono (Nat.le_of_lt (La bK.o.map))))
     clear bF
     cases bE:Xr ⟨aC,xa⟩ ⟨kind,node,field,value,fault⟩ with
     | false=>
      have hv:=Lh (aJ.o (fun hf=>by
       have:=(hT.o.ht hs hf).2
       rw [if_pos aU.o,bE] at this
       cases this))
      clear bE
      go_wp2
      go_ret
      exact ⟨by rw [hv.o];rfl,cY.o⟩
     | true=>
      have aQ:Hid (Yx c fs ⟨kind,node,field,value,fault⟩ k f):=Lh (hT.o.yes ω bU.o (by rw [if_pos aU.o];exact bE))
      clear bE
      go_wp2_with fail
      go_roundg (gk - 1)
      case measure=>omega
      case rel=>exact ⟨k+1,ω,by go_num,ω,aO,Lh ⟨_,_,bL.o⟩,Lh (fun j f' hj aP=>by
       by_cases e:j=k
       ·subst e;rw [HF.o] at aP;cases aP;exact aQ.o
       ·exact aY.o j f' ω aP)⟩
    ·have dl:((k:Int) == (fs.length:Int) - 1)=false:=by simp;omega
     obtain ⟨f2,bG⟩:∃ f2,fs[k+1]?=some f2:=⟨_,Lg ω⟩
     have q0:=((bX.o (k+1) f2 bG).below (aV.o.mono hB) bP).1
     have eC:=(bX.o (k+1) f2 bG).2.2.2.2.1
     have zq:=Bl q0
     have bV:=Lh bG
     have aU:=Lh cl
     have dV:(0:Int)<=(k:Int)+1:=ω
     have dW:(k:Int)+1<(fs.length:Int):=ω
     have dX:((k:Int)+1).toNat=k+1:=ω
     have eA:IntKind.i64.wrap ((k:Int)+1)=(k:Int)+1:=by rw [IntKind.wrap_i64];omega
     clear bG cl
     go_upto_region 32 with fail
     by_cases c11:aC=9
     rotate_left
     ·have d:(aC == 9)=false:=by simp [c11]
      have d':(aC != 9)=true:=by simp [c11]
      have hv:=Lh (aJ.o (fun hf=>by
       have:=(hT.o.ht hs hf).2
       rw [if_neg aU.o] at this
       exact c11 this.1))
      go_quiet (fail)
      go_wp2
      go_ret
      exact ⟨by rw [hv.o];rfl,Xh aV.o _⟩
     have fC:(aC == 9)=true:=by simp [c11]
     have dI:(aC != 9)=false:=by simp [c11]
     have bI:=Lh c11
     clear c11
     by_cases aM:xa=f2.fn
     ·have d:(xa == f2.fn)=true:=by simp [aM]
      have d':(xa != f2.fn)=false:=by simp [aM]
      have aQ:Hid (Yx c fs ⟨kind,node,field,value,fault⟩ k f):=Lh (hT.o.yes ω bU.o (by rw [if_neg aU.o];exact ⟨bI.o,f2,bV.o,aM⟩))
      clear aM
      go_quiet (fail)
      have bL:=Lh (bK.o.keep (Xh Br nq))
      have aO:Hid (Below bk w1 (W8.drewN nq)):=Lh (aZ.o.trans (Xh Br nq))
      clear dX eA
      go_wp2_with fail
      go_roundg (gk - 1)
      case measure=>omega
      case rel=>exact ⟨k+1,ω,by go_num,ω,aO,Lh ⟨_,_,bL.o⟩,Lh (fun j f' hj aP=>by
       by_cases e:j=k
       ·subst e;rw [HF.o] at aP;cases aP;exact aQ.o
       ·exact aY.o j f' ω aP)⟩
     ·have d:(xa == f2.fn)=false:=by simp [aM]
      have d':(xa != f2.fn)=true:=by simp [aM]
      have hv:=Lh (aJ.o (fun hf=>by
       have:=(hT.o.ht hs hf).2
       rw [if_neg aU.o] at this
       obtain ⟨_,f3,h3,h4⟩:=this
       rw [bV.o] at h3
       cases h3
       exact aM h4))
      go_quiet (fail)
      go_wp2
      go_ret
      exact ⟨by rw [hv.o];rfl,Xh aV.o _⟩
  ·obtain rfl:k=fs.length:=ω
   have hv:Hid (pB (∀ k f,fs[k]?=some f->Yx c fs ⟨kind,node,field,value,fault⟩ k f)=true):=Lh (Kh (fun j f hf=>aY.o j f (Ll hf) hf))
   go_wp2
   go_ret
   exact ⟨by rw [hv.o];rfl,cN.o⟩
