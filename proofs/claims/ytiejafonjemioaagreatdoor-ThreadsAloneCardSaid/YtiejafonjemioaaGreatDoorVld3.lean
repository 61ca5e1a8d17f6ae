import Derived.Test.YtiejafonjemioaaGreatDoorVpu
import Derived.Deep.RegionHeld3
import Derived.Outline
set_option maxHeartbeats 8000000
set_option maxRecDepth 1000000
set_option linter.unusedVariables false
set_option linter.unusedSimpArgs false
namespace Go.Proofs.YtiejafonjemioaaGreatDoor
open Go.RowKit
theorem Xly (c:Cod) (fs:List Fra) (kind node field value fault fuel compares idle:Int) (fa ga ma:Option Addr) (fc gc mc:Nat) (B:Nat) (w:World) (hL:Qa w) (hB:B≤w.heap.size) (hc:Yj B w (.agg #[.slice fa c.fields.length fc,.int .i64 c.globals,.slice ga c.funcs.length gc]) c) (hn:¬(Xv c∧¬fuel<0∧¬1048576<fuel∧¬compares<0∧¬1099511627776<compares∧¬idle<0∧¬100000<idle∧¬200<(fs.length:Int))) :
  Calls Tryz.prog 128 #[.agg #[.slice fa c.fields.length fc,.int .i64 c.globals,.slice ga c.funcs.length gc],.agg #[.slice ma fs.length mc,.int .i64 kind,.int .i64 node,.int .i64 field,.int .i64 value,.int .i64 fault,.int .i64 fuel,.int .i64 compares,.int .i64 idle]] w fun e w'=>e=.returned (.bool false)∧Below w.heap.size w w':=by
 have HN:=Lh hn
 clear hn
 obtain ⟨W,hW⟩:∃ W,W=(w.alloc (.cells #[.slice fa c.fields.length fc,.int .i64 c.globals,.slice ga c.funcs.length gc] 25)).alloc (.cells #[.slice ma fs.length mc,.int .i64 kind,.int .i64 node,.int .i64 field,.int .i64 value,.int .i64 fault,.int .i64 fuel,.int .i64 compares,.int .i64 idle] 51):=⟨_,rfl⟩
 have aC:Hid (Below w.heap.size w W):=by rw [hW];exact (Xa _ _).then (Xa _ _)
 have aD:Hid (W.heap.size=w.heap.size+2):=by rw [hW];exact Lh (by simp)
 have b0:Hid (Xo W w.heap.size [.slice fa c.fields.length fc,.int .i64 c.globals,.slice ga c.funcs.length gc]):=by rw [hW];exact Lh (Xd.alloc _)
 have b1:Hid (Xo W (w.heap.size+1) [.slice ma fs.length mc,.int .i64 kind,.int .i64 node,.int .i64 field,.int .i64 value,.int .i64 fault,.int .i64 fuel,.int .i64 compares,.int .i64 idle]):=by
  rw [hW]
  have:=@Xd (w.alloc (.cells #[.slice fa c.fields.length fc,.int .i64 c.globals,.slice ga c.funcs.length gc] 25)) #[.slice ma fs.length mc,.int .i64 kind,.int .i64 node,.int .i64 field,.int .i64 value,.int .i64 fault,.int .i64 fuel,.int .i64 compares,.int .i64 idle] 51
  exact Lh (by simpa using this)
 have HC:=Lh hc
 have aF:=Lh (hc.below (aC.out.mono hB))
 have HL:=Lh hL
 have aE:B≤W.heap.size:=by have:=aD.out;omega
 clear hc hL
 have i0:=b0.out 0 _ rfl
 have i1:=b0.out 1 _ rfl
 have i2:=b0.out 2 _ rfl
 have m0:=b1.out 0 _ rfl
 have m1:=b1.out 1 _ rfl
 have m2:=b1.out 2 _ rfl
 have m3:=b1.out 3 _ rfl
 have m4:=b1.out 4 _ rfl
 have m5:=b1.out 5 _ rfl
 have m6:=b1.out 6 _ rfl
 have m7:=b1.out 7 _ rfl
 have m8:=b1.out 8 _ rfl
 have z0:w.heap.size<W.heap.size:=by have:=aD.out;omega
 have z1:w.heap.size+1<W.heap.size:=by have:=aD.out;omega
 go_enter Tryz.func128,Tryz.ntmps128
 go_upto_region 1 with fail
 rw [←hW]
 have HW:=Lh hW
 clear hW
 go_wp2_with fail
 refine (Jm c _ B W (HL.out.below aC.out) aE aF.out).mono ?_
 rintro e w1 ⟨rfl,aA⟩
 have i0:=Xc aA i0
 have i1:=Xc aA i1
 have i2:=Xc aA i2
 have m0:=Xc aA m0
 have m1:=Xc aA m1
 have m2:=Xc aA m2
 have m3:=Xc aA m3
 have m4:=Xc aA m4
 have m5:=Xc aA m5
 have m6:=Xc aA m6
 have m7:=Xc aA m7
 have m8:=Xc aA m8
 have z0:=Bl i0
 have z1:=Bl m0
 have aB:=Lh (aC.out.then aA)
 clear aA
 by_cases hs:Xv c
 rotate_left
 ·rw [Jp hs]
  go_wp2_with fail
  go_ret
  exact ⟨rfl,aB.out⟩
 rw [Zg hs]
 by_cases h0:fuel<0
 ·have d0:decide (fuel<0)=true:=by simp;omega
  go_wp2_with fail
  go_ret
  exact ⟨rfl,aB.out⟩
 have d0:decide (fuel<0)=false:=by simp;omega
 by_cases h1:1048576<fuel
 ·have d1:decide (1048576<fuel)=true:=by simp;omega
  go_wp2_with fail
  go_ret
  exact ⟨rfl,aB.out⟩
 have d1:decide (1048576<fuel)=false:=by simp;omega
 by_cases h2:compares<0
 ·have d2:decide (compares<0)=true:=by simp;omega
  go_wp2_with fail
  go_ret
  exact ⟨rfl,aB.out⟩
 have d2:decide (compares<0)=false:=by simp;omega
 by_cases h3:1099511627776<compares
 ·have d3:decide (1099511627776<compares)=true:=by simp;omega
  go_wp2_with fail
  go_ret
  exact ⟨rfl,aB.out⟩
 have d3:decide (1099511627776<compares)=false:=by simp;omega
 by_cases h4:idle<0
 ·have d4:decide (idle<0)=true:=by simp;omega
  go_wp2_with fail
  go_ret
  exact ⟨rfl,aB.out⟩
 have d4:decide (idle<0)=false:=by simp;omega
 by_cases h5:100000<idle
 ·have d5:decide (100000<idle)=true:=by simp;omega
  go_wp2_with fail
  go_ret
  exact ⟨rfl,aB.out⟩
 have d5:decide (100000<idle)=false:=by simp;omega
 by_cases h6:200<(fs.length:Int)
 ·have d6:decide (200<(fs.length:Int))=true:=by simp;omega
  have aG:decide (200<fs.length)=true:=by simp;omega
  go_wp2_with fail
  go_ret
  exact ⟨rfl,aB.out⟩
 exact (HN.out ⟨hs,by omega,by omega,by omega,by omega,by omega,by omega,by omega⟩).elim
def Ud (e:Int):Bool:=[17,18,19,20,5,21,6].any (fun a=>e == a)
def Qx (r:Rq):Bool:=if r.kind=4 then X1 r.value && (r.node == 0 && r.field == 0 && r.fault == 0) else if r.kind=5 then Ud r.fault && (r.node == 0 && r.field == 0 && r.value == 0) else false
theorem Uw (W:World) (T:TypeId) (b:Nat) (hb:b=W.heap.size):∀ (j:Nat) (u:Int),([17,18,19,20,5,21,6]:List Int)[j]?=some u→(W.alloc (.cells #[.int .i64 17,.int .i64 18,.int .i64 19,.int .i64 20,.int .i64 5,.int .i64 21,.int .i64 6] T)).cell? ⟨b,j,none⟩=some (.int .i64 u):=fun j u hu=>by
 subst hb
 rw [Y5]
 have h:j<7:=(Ll hu)
 have hj:j=0∨j=1∨j=2∨j=3∨j=4∨j=5∨j=6:=by omega
 rcases hj with rfl|rfl|rfl|rfl|rfl|rfl|rfl<;>simp at hu<;>subst hu<;>rfl
theorem Xjs (c:Cod) (kind node field value fault fuel compares idle:Int) (fa ga ma:Option Addr) (fc gc mc:Nat) (B:Nat) (w:World) (hL:Qa w) (hB:B≤w.heap.size) (hc:Yj B w (.agg #[.slice fa c.fields.length fc,.int .i64 c.globals,.slice ga c.funcs.length gc]) c) (hs:Xv c) (h0:¬fuel<0) (h1:¬1048576<fuel) (h2:¬compares<0) (h3:¬1099511627776<compares) (h4:¬idle<0) (h5:¬100000<idle) :
  Calls Tryz.prog 128 #[.agg #[.slice fa c.fields.length fc,.int .i64 c.globals,.slice ga c.funcs.length gc],.agg #[.slice ma 0 mc,.int .i64 kind,.int .i64 node,.int .i64 field,.int .i64 value,.int .i64 fault,.int .i64 fuel,.int .i64 compares,.int .i64 idle]] w fun e w'=>e=.returned (.bool (Qx ⟨kind,node,field,value,fault⟩))∧Below w.heap.size w w':=by
 have d0:decide (fuel<0)=false:=by simp;omega
 have d1:decide (1048576<fuel)=false:=by simp;omega
 have d2:decide (compares<0)=false:=by simp;omega
 have d3:decide (1099511627776<compares)=false:=by simp;omega
 have d4:decide (idle<0)=false:=by simp;omega
 have d5:decide (100000<idle)=false:=by simp;omega
 obtain ⟨W,hW⟩:∃ W,W=(w.alloc (.cells #[.slice fa c.fields.length fc,.int .i64 c.globals,.slice ga c.funcs.length gc] 25)).alloc (.cells #[.slice ma 0 mc,.int .i64 kind,.int .i64 node,.int .i64 field,.int .i64 value,.int .i64 fault,.int .i64 fuel,.int .i64 compares,.int .i64 idle] 51):=⟨_,rfl⟩
 have aE:Hid (Below w.heap.size w W):=by rw [hW];exact (Xa _ _).then (Xa _ _)
 have aH:Hid (W.heap.size=w.heap.size+2):=by rw [hW];exact Lh (by simp)
 have b0:Hid (Xo W w.heap.size [.slice fa c.fields.length fc,.int .i64 c.globals,.slice ga c.funcs.length gc]):=by rw [hW];exact Lh (Xd.alloc _)
 have b1:Hid (Xo W (w.heap.size+1) [.slice ma 0 mc,.int .i64 kind,.int .i64 node,.int .i64 field,.int .i64 value,.int .i64 fault,.int .i64 fuel,.int .i64 compares,.int .i64 idle]):=by
  rw [hW]
  have:=@Xd (w.alloc (.cells #[.slice fa c.fields.length fc,.int .i64 c.globals,.slice ga c.funcs.length gc] 25)) #[.slice ma 0 mc,.int .i64 kind,.int .i64 node,.int .i64 field,.int .i64 value,.int .i64 fault,.int .i64 fuel,.int .i64 compares,.int .i64 idle] 51
  exact Lh (by simpa using this)
 have HC:=Lh hc
 have aJ:=Lh (hc.below (aE.out.mono hB))
 have HL:=Lh hL
 have aI:B≤W.heap.size:=by have:=aH.out;omega
 clear hc hL
 have i0:=b0.out 0 _ rfl
 have i1:=b0.out 1 _ rfl
 have i2:=b0.out 2 _ rfl
 have m0:=b1.out 0 _ rfl
 have m1:=b1.out 1 _ rfl
 have m2:=b1.out 2 _ rfl
 have m3:=b1.out 3 _ rfl
 have m4:=b1.out 4 _ rfl
 have m5:=b1.out 5 _ rfl
 have m6:=b1.out 6 _ rfl
 have m7:=b1.out 7 _ rfl
 have m8:=b1.out 8 _ rfl
 have z0:w.heap.size<W.heap.size:=by have:=aH.out;omega
 have z1:w.heap.size+1<W.heap.size:=by have:=aH.out;omega
 go_enter Tryz.func128,Tryz.ntmps128
 go_upto_region 1 with fail
 rw [←hW]
 have HW:=Lh hW
 clear hW
 go_wp2_with fail
 refine (Jm c _ B W (HL.out.below aE.out) aI aJ.out).mono ?_
 rintro e w1 ⟨rfl,aA⟩
 rw [Zg hs]
 have i0:=Xc aA i0
 have i1:=Xc aA i1
 have i2:=Xc aA i2
 have m0:=Xc aA m0
 have m1:=Xc aA m1
 have m2:=Xc aA m2
 have m3:=Xc aA m3
 have m4:=Xc aA m4
 have m5:=Xc aA m5
 have m6:=Xc aA m6
 have m7:=Xc aA m7
 have m8:=Xc aA m8
 have z0:=Bl i0
 have z1:=Bl m0
 have aB:=Lh (aE.out.then aA)
 clear aA
 by_cases aF:kind=4
 ·subst aF
  cases hv:X1 value with
  | false=>
   have hf:Hid (Qx ⟨4,node,field,value,fault⟩=false):=Lh (by unfold Qx;simp [hv])
   have HV:=Lh hv
   clear hv
   go_wp2_with (go_at_call 137;refine (Yy _ _).mono ?_;rintro e w2 ⟨rfl,rfl⟩;rw [HV.out])
   go_ret
   exact ⟨by rw [hf.out];rfl,aB.out.then (Xa _ _)⟩
  | true=>
   by_cases hn:node=0
   rotate_left
   ·have hf:Hid (Qx ⟨4,node,field,value,fault⟩=false):=Lh (by unfold Qx;simp [hv,hn])
    have HV:=Lh hv
    clear hv
    go_wp2_with (go_at_call 137;refine (Yy _ _).mono ?_;rintro e w2 ⟨rfl,rfl⟩;rw [HV.out])
    go_ret
    exact ⟨by rw [hf.out];rfl,aB.out.then (Xa _ _)⟩
   subst hn
   by_cases aC:field=0
   rotate_left
   ·have hf:Hid (Qx ⟨4,0,field,value,fault⟩=false):=Lh (by unfold Qx;simp [hv,aC])
    have HV:=Lh hv
    clear hv
    go_wp2_with (go_at_call 137;refine (Yy _ _).mono ?_;rintro e w2 ⟨rfl,rfl⟩;rw [HV.out])
    go_ret
    exact ⟨by rw [hf.out];rfl,aB.out.then (Xa _ _)⟩
   subst aC
   by_cases aD:fault=0
   ·subst aD
    have hf:Hid (Qx ⟨4,0,0,value,0⟩=true):=Lh (by unfold Qx;simp [hv])
    have HV:=Lh hv
    clear hv
    go_wp2_with (go_at_call 137;refine (Yy _ _).mono ?_;rintro e w2 ⟨rfl,rfl⟩;rw [HV.out])
    go_ret
    exact ⟨by rw [hf.out];rfl,aB.out.then (Xa _ _)⟩
   ·have hf:Hid (Qx ⟨4,0,0,value,fault⟩=false):=Lh (by unfold Qx;simp [hv,aD])
    have HV:=Lh hv
    clear hv
    go_wp2_with (go_at_call 137;refine (Yy _ _).mono ?_;rintro e w2 ⟨rfl,rfl⟩;rw [HV.out])
    go_ret
    exact ⟨by rw [hf.out];rfl,aB.out.then (Xa _ _)⟩
 by_cases aG:kind=5
 ·subst aG
  cases hv:Ud fault with
  | false=>
   have hf:Hid (Qx ⟨5,node,field,value,fault⟩=false):=Lh (by unfold Qx;simp [hv])
   have HV:=Lh hv
   clear hv
   go_wp2_with (go_at_call 160;refine (Ql fault [17,18,19,20,5,21,6] _ 7 _ (by decide) (fun j u hu=>?_)).mono ?_;(exact Uw _ _ _ (by simp) j u hu);rintro e w2 ⟨rfl,rfl⟩;rw [show [17,18,19,20,5,21,6].any (fun a=>fault == a)=Ud fault from rfl,HV.out])
   go_ret
   exact ⟨by rw [hf.out];rfl,aB.out.then ((Xa _ _).then (Xa _ _))⟩
  | true=>
   by_cases hn:node=0
   rotate_left
   ·have hf:Hid (Qx ⟨5,node,field,value,fault⟩=false):=Lh (by unfold Qx;simp [hv,hn])
    have HV:=Lh hv
    clear hv
    go_wp2_with (go_at_call 160;refine (Ql fault [17,18,19,20,5,21,6] _ 7 _ (by decide) (fun j u hu=>?_)).mono ?_;(exact Uw _ _ _ (by simp) j u hu);rintro e w2 ⟨rfl,rfl⟩;rw [show [17,18,19,20,5,21,6].any (fun a=>fault == a)=Ud fault from rfl,HV.out])
    go_ret
    exact ⟨by rw [hf.out];rfl,aB.out.then ((Xa _ _).then (Xa _ _))⟩
   subst hn
   by_cases aC:field=0
   rotate_left
   ·have hf:Hid (Qx ⟨5,0,field,value,fault⟩=false):=Lh (by unfold Qx;simp [hv,aC])
    have HV:=Lh hv
    clear hv
    go_wp2_with (go_at_call 160;refine (Ql fault [17,18,19,20,5,21,6] _ 7 _ (by decide) (fun j u hu=>?_)).mono ?_;(exact Uw _ _ _ (by simp) j u hu);rintro e w2 ⟨rfl,rfl⟩;rw [show [17,18,19,20,5,21,6].any (fun a=>fault == a)=Ud fault from rfl,HV.out])
    go_ret
    exact ⟨by rw [hf.out];rfl,aB.out.then ((Xa _ _).then (Xa _ _))⟩
   subst aC
   by_cases aD:value=0
   ·subst aD
    have hf:Hid (Qx ⟨5,0,0,0,fault⟩=true):=Lh (by unfold Qx;simp [hv])
    have HV:=Lh hv
    clear hv
    go_wp2_with (go_at_call 160;refine (Ql fault [17,18,19,20,5,21,6] _ 7 _ (by decide) (fun j u hu=>?_)).mono ?_;(exact Uw _ _ _ (by simp) j u hu);rintro e w2 ⟨rfl,rfl⟩;rw [show [17,18,19,20,5,21,6].any (fun a=>fault == a)=Ud fault from rfl,HV.out])
    go_ret
    exact ⟨by rw [hf.out];rfl,aB.out.then ((Xa _ _).then (Xa _ _))⟩
   ·have hf:Hid (Qx ⟨5,0,0,value,fault⟩=false):=Lh (by unfold Qx;simp [hv,aD])
    have HV:=Lh hv
    clear hv
    go_wp2_with (go_at_call 160;refine (Ql fault [17,18,19,20,5,21,6] _ 7 _ (by decide) (fun j u hu=>?_)).mono ?_;(exact Uw _ _ _ (by simp) j u hu);rintro e w2 ⟨rfl,rfl⟩;rw [show [17,18,19,20,5,21,6].any (fun a=>fault == a)=Ud fault from rfl,HV.out])
    go_ret
    exact ⟨by rw [hf.out];rfl,aB.out.then ((Xa _ _).then (Xa _ _))⟩
 have hf:Hid (Qx ⟨kind,node,field,value,fault⟩=false):=Lh (by unfold Qx;simp [aF,aG])
 have e4:(kind == 4)=false:=by simp [aF]
 have e5:(kind == 5)=false:=by simp [aG]
 go_wp2_with fail
 go_ret
 exact ⟨by rw [hf.out];rfl,aB.out.then (Xa _ _)⟩
theorem Xgf (W:World):(Instr.makeMap 192 none).run Tryz.prog W=.ok (.map (some W.heap.size)) (W.alloc (.map #[] 0)):=by simp [Instr.makeMap]
theorem Xkr {l:List Int} (h:l.any (fun n=>!X1 n)=false):∀ n∈l,isV n:=fun n hn=>by
 rw [List.any_eq_false] at h
 have:=h n hn
 simp at this
 exact Ye.1 this
theorem Xkh {l:List Int} (h:l.any (fun n=>!X1 n)=true):¬∀ n∈l,isV n:=fun hh=>by
 rw [List.any_eq_true] at h
 obtain ⟨n,hn,h⟩:=h
 have:=Ye.2 (hh n hn)
 rw [this] at h
 cases h
theorem Xjn (c:Cod) (fs:List Fra) (kind node field value fault fuel compares idle:Int) (fa ga ma:Option Addr) (fc gc mc:Nat) (B:Nat) (w:World) (hL:Qa w) (hB:B≤w.heap.size) (hc:Yj B w (.agg #[.slice fa c.fields.length fc,.int .i64 c.globals,.slice ga c.funcs.length gc]) c) (hm:Xf B w 4 (Qp B) (.slice ma fs.length mc) fs) (hs:Xv c) (hsm:Zb c) (h0:¬fuel<0) (h1:¬1048576<fuel) (h2:¬compares<0) (h3:¬1099511627776<compares) (h4:¬idle<0) (h5:¬100000<idle) (h6:¬200<(fs.length:Int)) (hne:0<fs.length) :
  Calls Tryz.prog 128 #[.agg #[.slice fa c.fields.length fc,.int .i64 c.globals,.slice ga c.funcs.length gc],.agg #[.slice ma fs.length mc,.int .i64 kind,.int .i64 node,.int .i64 field,.int .i64 value,.int .i64 fault,.int .i64 fuel,.int .i64 compares,.int .i64 idle]] w fun e w'=>e=.returned (.bool (pB (∀ k f,fs[k]?=some f→Yx c fs ⟨kind,node,field,value,fault⟩ k f)))∧Below w.heap.size w w':=by
 have d0:decide (fuel<0)=false:=by simp;omega
 have d1:decide (1048576<fuel)=false:=by simp;omega
 have d2:decide (compares<0)=false:=by simp;omega
 have d3:decide (1099511627776<compares)=false:=by simp;omega
 have d4:decide (idle<0)=false:=by simp;omega
 have d5:decide (100000<idle)=false:=by simp;omega
 have d6:decide (200<fs.length)=false:=by simp;omega
 have gI:¬fs.length=0:=by omega
 have gJ:((fs.length:Int) == 0)=false:=by rw [beq_eq_false_iff_ne];omega
 have gA:decide ((200:Int)<(fs.length:Int))=false:=by simp;omega
 have HM:=Lh hm
 have eK:c.funcs.length≤40:=hs.1.2.2.2.2.1
 have gF:=Xgf
 clear hm
 obtain ⟨W,hW⟩:∃ W,W=(w.alloc (.cells #[.slice fa c.fields.length fc,.int .i64 c.globals,.slice ga c.funcs.length gc] 25)).alloc (.cells #[.slice ma fs.length mc,.int .i64 kind,.int .i64 node,.int .i64 field,.int .i64 value,.int .i64 fault,.int .i64 fuel,.int .i64 compares,.int .i64 idle] 51):=⟨_,rfl⟩
 have dO:Hid (Below w.heap.size w W):=by rw [hW];exact (Xa _ _).then (Xa _ _)
 have dZ:Hid (W.heap.size=w.heap.size+2):=by rw [hW];exact Lh (by simp)
 have b0:Hid (Xo W w.heap.size [.slice fa c.fields.length fc,.int .i64 c.globals,.slice ga c.funcs.length gc]):=by rw [hW];exact Lh (Xd.alloc _)
 have b1:Hid (Xo W (w.heap.size+1) [.slice ma fs.length mc,.int .i64 kind,.int .i64 node,.int .i64 field,.int .i64 value,.int .i64 fault,.int .i64 fuel,.int .i64 compares,.int .i64 idle]):=by
  rw [hW]
  have:=@Xd (w.alloc (.cells #[.slice fa c.fields.length fc,.int .i64 c.globals,.slice ga c.funcs.length gc] 25)) #[.slice ma fs.length mc,.int .i64 kind,.int .i64 node,.int .i64 field,.int .i64 value,.int .i64 fault,.int .i64 fuel,.int .i64 compares,.int .i64 idle] 51
  exact Lh (by simpa using this)
 have HC:=Lh hc
 have fH:=Lh (hc.below (dO.out.mono hB))
 have HL:=Lh hL
 have fF:B≤W.heap.size:=by have:=dZ.out;omega
 clear hc hL
 have i0:=b0.out 0 _ rfl
 have i1:=b0.out 1 _ rfl
 have i2:=b0.out 2 _ rfl
 have m0:=b1.out 0 _ rfl
 have m1:=b1.out 1 _ rfl
 have m2:=b1.out 2 _ rfl
 have m3:=b1.out 3 _ rfl
 have m4:=b1.out 4 _ rfl
 have m5:=b1.out 5 _ rfl
 have m6:=b1.out 6 _ rfl
 have m7:=b1.out 7 _ rfl
 have m8:=b1.out 8 _ rfl
 have z0:w.heap.size<W.heap.size:=by have:=dZ.out;omega
 have z1:w.heap.size+1<W.heap.size:=by have:=dZ.out;omega
 go_enter Tryz.func128,Tryz.ntmps128
 go_upto_region 1 with fail
 rw [←hW]
 have HW:=Lh hW
 clear hW
 go_wp2_with fail
 refine (Jm c _ B W (HL.out.below dO.out) fF fH.out).mono ?_
 rintro e w1 ⟨rfl,aR⟩
 rw [Zg hs]
 have i0:=Xc aR i0
 have i1:=Xc aR i1
 have i2:=Xc aR i2
 have m0:=Xc aR m0
 have m1:=Xc aR m1
 have m2:=Xc aR m2
 have m3:=Xc aR m3
 have m4:=Xc aR m4
 have m5:=Xc aR m5
 have m6:=Xc aR m6
 have m7:=Xc aR m7
 have m8:=Xc aR m8
 have z0:=Bl i0
 have z1:=Bl m0
 have eR:=Lh (dO.out.then aR)
 clear aR
 have dT:Hid (∀ k f,fs[k]?=some f→¬Yx c fs ⟨kind,node,field,value,fault⟩ k f→pB (∀ k f,fs[k]?=some f→Yx c fs ⟨kind,node,field,value,fault⟩ k f)=false):=Lh (fun k f hf hn=>K8 (fun h=>hn (h k f hf)))
 obtain ⟨mb,mo,rfl,bP,eH⟩:∃ mb mo,ma=some ⟨mb,mo,none⟩∧mb<B∧∀ (i:Nat) f,fs[i]?=some f→Qp B w mb (mo+i*4) f:=by
  obtain ⟨a0,aN,bO,fL,fM,fN,hE⟩:=HM.out
  obtain ⟨rfl,rfl⟩:ma=a0∧mc=aN:=by simpa using bO
  rcases hE with h0|⟨mb,mo,rfl,hb,hE⟩
  ·rw [h0] at hne;simp at hne
  ·exact ⟨mb,mo,rfl,hb,hE⟩
 have bX:=Lh eH
 obtain ⟨bk,bT⟩:∃ b,b=w1.heap.size:=⟨_,rfl⟩
 have fX:=Lh bT
 obtain ⟨W1,bZ⟩:∃ W,W=w1.alloc (.map #[] 0):=⟨_,rfl⟩
 have fE:Hid (Vy c bk W1 bk #[] 0):=Lh ⟨by rw [bZ,bT];exact Hn _ _,by simp⟩
 have dP:Hid (Below bk w1 W1):=Lh (by rw [bZ,bT];exact Xa _ _)
 have fV:w.heap.size+1<bk:=by rw [bT];exact z1
 clear eH
 go_wp2_with fail
 rw [←bZ,← bT]
 have fY:=Lh bZ
 clear bZ bT
 go_loopg [91] (fs.length+1) (fun gk i wr=>∃ k:Nat,k≤fs.length∧i=.int .i64 k∧fs.length - k<gk∧Hid (Below bk w1 wr)∧Hid (∃ es aH,Vy c bk wr bk es aH)∧Hid (∀ j f,j<k→fs[j]?=some f→Yx c fs ⟨kind,node,field,value,fault⟩ j f))
 case atStart=>exact ⟨0,Nat.zero_le _,rfl,by omega,dP,Lh ⟨_,_,fE.out⟩,Lh (fun j f hj=>by omega)⟩
 case round=>
  obtain ⟨k,hk,rfl,dU,aS,eL,aY⟩:=hrel
  have cN:Hid (Below w.heap.size w wr):=Lh (eR.out.trans (aS.out.mono (by omega)))
  have i0:=(aS.out.cell (p:=⟨w.heap.size,0,none⟩) (show w.heap.size<bk by omega)).trans i0
  have i1:=(aS.out.cell (p:=⟨w.heap.size,1,none⟩) (show w.heap.size<bk by omega)).trans i1
  have i2:=(aS.out.cell (p:=⟨w.heap.size,2,none⟩) (show w.heap.size<bk by omega)).trans i2
  have m0:=(aS.out.cell (p:=⟨w.heap.size+1,0,none⟩) (show w.heap.size+1<bk by omega)).trans m0
  have m1:=(aS.out.cell (p:=⟨w.heap.size+1,1,none⟩) (show w.heap.size+1<bk by omega)).trans m1
  have m2:=(aS.out.cell (p:=⟨w.heap.size+1,2,none⟩) (show w.heap.size+1<bk by omega)).trans m2
  have m3:=(aS.out.cell (p:=⟨w.heap.size+1,3,none⟩) (show w.heap.size+1<bk by omega)).trans m3
  have m4:=(aS.out.cell (p:=⟨w.heap.size+1,4,none⟩) (show w.heap.size+1<bk by omega)).trans m4
  have m5:=(aS.out.cell (p:=⟨w.heap.size+1,5,none⟩) (show w.heap.size+1<bk by omega)).trans m5
  have m6:=(aS.out.cell (p:=⟨w.heap.size+1,6,none⟩) (show w.heap.size+1<bk by omega)).trans m6
  have m7:=(aS.out.cell (p:=⟨w.heap.size+1,7,none⟩) (show w.heap.size+1<bk by omega)).trans m7
  have m8:=(aS.out.cell (p:=⟨w.heap.size+1,8,none⟩) (show w.heap.size+1<bk by omega)).trans m8
  have z0:=Bl i0
  have z1:=Bl m0
  obtain ⟨es,aH,dN⟩:=eL.out
  have eW:=Lh dN
  have cF:bk<wr.heap.size:=(La dN.map)
  clear eL dN
  by_cases fP:k<fs.length
  ·obtain ⟨f,hf⟩:∃ f,fs[k]?=some f:=⟨_,Lg fP⟩
   have HF:=Lh hf
   have aJ:Hid (¬Yx c fs ⟨kind,node,field,value,fault⟩ k f→pB (∀ k f,fs[k]?=some f→Yx c fs ⟨kind,node,field,value,fault⟩ k f)=false):=Lh (dT.out k f hf)
   obtain ⟨q0,q1,⟨lv,q2,cV⟩,⟨sv,q3,cW⟩,eQ,eP⟩:=(bX.out k f hf).below (cN.out.mono hB) bP
   have eX:=Lh cV
   have eZ:=Lh cW
   obtain ⟨la,lc,rfl⟩:=cV.form
   obtain ⟨sa,sc,rfl⟩:=cW.form
   have fO:f.locals.length≤140737488355328:=by obtain ⟨_,_,_,h,_⟩:=cV;exact h
   have fT:f.stack.length≤140737488355328:=by obtain ⟨_,_,_,h,_⟩:=cW;exact h
   have gD:(0:Int)≤(k:Int):=In _
   have gE:(k:Int)<(fs.length:Int):=by omega
   have zq:=Bl q0
   obtain ⟨W2,cA⟩:∃ W,W=wr.alloc (.cells #[.int .i64 f.fn,.int .i64 f.pc,.slice la f.locals.length lc,.slice sa f.stack.length sc] 129):=⟨_,rfl⟩
   have aK:Below wr.heap.size wr W2:=by rw [cA];exact Xa _ _
   have cM:=Lh aK
   have cQ:Hid (Xo W2 wr.heap.size [.int .i64 f.fn,.int .i64 f.pc,.slice la f.locals.length lc,.slice sa f.stack.length sc]):=by rw [cA];exact Lh Xd
   clear hf cV cW
   unfold in64 at eQ eP
   go_upto_region 16 with fail
   rw [←cA]
   have fZ:=Lh cA
   have i0:=Xc aK i0
   have i1:=Xc aK i1
   have i2:=Xc aK i2
   have m0:=Xc aK m0
   have m1:=Xc aK m1
   have m2:=Xc aK m2
   have m3:=Xc aK m3
   have m4:=Xc aK m4
   have m5:=Xc aK m5
   have m6:=Xc aK m6
   have m7:=Xc aK m7
   have m8:=Xc aK m8
   have n0:=cQ.out 0 _ rfl
   have n1:=cQ.out 1 _ rfl
   have n2:=cQ.out 2 _ rfl
   have n3:=cQ.out 3 _ rfl
   have z0:=Bl i0
   have z1:=Bl m0
   have zn:=Bl n0
   have aW:=Lh (cN.out.then aK)
   have eT:=Lh (eW.out.keep aK)
   clear cA aK q0 q1 q2 q3 zq
   by_cases c1:f.fn<0
   ·have d:decide (f.fn<0)=true:=by simp [c1]
    have hv:=Lh (aJ.out (fun ⟨_,_,_,hb,_⟩=>by have:=hb.fn0;omega))
    go_wp2_with fail
    go_ret
    exact ⟨by rw [hv.out];rfl,aW.out⟩
   obtain ⟨n,hn⟩:∃ n:Nat,f.fn=n:=⟨f.fn.toNat,by omega⟩
   have HN:=Lh hn
   rw [hn] at n0
   have dn:decide ((n:Int)<0)=false:=by simp
   clear hn c1
   by_cases c2:c.funcs.length≤n
   ·have d:decide (c.funcs.length≤n)=true:=by simp [c2]
    have hv:=Lh (aJ.out (fun ⟨y,_,_,hb,_⟩=>by
     have h1:=hb.fn
     rw [HN.out,Int.toNat_natCast,List.getElem?_eq_none c2] at h1
     cases h1))
    go_wp2_with fail
    go_ret
    exact ⟨by rw [hv.out];rfl,aW.out⟩
   have d2:decide (c.funcs.length≤n)=false:=by simp;omega
   obtain ⟨y,hy⟩:∃ y,c.funcs[n]?=some y:=⟨_,Lg (by omega)⟩
   have HY:=Lh hy
   obtain ⟨yb,yo,fK,bR,eG⟩:∃ yb yo,ga=some ⟨yb,yo,none⟩∧yb<B∧Zl B w yb (yo+n*5) y:=by
    obtain ⟨fv0,gB,eI,_,hg,_⟩:=HC.out
    simp only [Value.agg.injEq,Array.mk.injEq,List.cons.injEq,and_true] at eI
    obtain ⟨_,_,rfl⟩:=eI
    obtain ⟨a0,aN,bO,fL,fM,fN,hE⟩:=hg
    obtain ⟨rfl,rfl⟩:ga=a0∧gc=aN:=by simpa using bO
    rcases hE with h0|⟨yb,yo,rfl,bR,hE⟩
    ·rw [h0] at hy;simp at hy
    ·exact ⟨yb,yo,rfl,bR,hE n y hy⟩
   subst fK
   have eF:B≤W2.heap.size:=Nt hB aW.out.size
   obtain ⟨g1,g2,g3,g4,⟨xv,g5,g6⟩,g7,g8,g9⟩:=eG.below (aW.out.mono hB) bR
   obtain ⟨ca,cc,rfl⟩:=g6.form
   have eD:=Lh g6
   have fI:=hsm y (Lm hy)
   have fJ:=hs.fok hy
   unfold Zr at fJ
   have zy:=Bl g1
   have gG:(0:Int)≤(n:Int):=In _
   have gH:(n:Int)<(c.funcs.length:Int):=by omega
   obtain ⟨W3,cB⟩:∃ W,W=W2.alloc (.cells #[.string y.name,.int .i64 y.params,.int .i64 y.locals,.bool y.result,.slice ca y.code.length cc] 93):=⟨_,rfl⟩
   have aI:Below W2.heap.size W2 W3:=by rw [cB];exact Xa _ _
   have cH:Hid (Xo W3 W2.heap.size [.string y.name,.int .i64 y.params,.int .i64 y.locals,.bool y.result,.slice ca y.code.length cc]):=by rw [cB];exact Lh Xd
   clear hy g6 g7 g8 g9 eG
   go_upto_region 19 with fail
   rw [←cB]
   have dH:=Lh cB
   have i0:=Xc aI i0
   have i1:=Xc aI i1
   have i2:=Xc aI i2
   have m0:=Xc aI m0
   have m1:=Xc aI m1
   have m2:=Xc aI m2
   have m3:=Xc aI m3
   have m4:=Xc aI m4
   have m5:=Xc aI m5
   have m6:=Xc aI m6
   have m7:=Xc aI m7
   have m8:=Xc aI m8
   have n0:=Xc aI n0
   have n1:=Xc aI n1
   have n2:=Xc aI n2
   have n3:=Xc aI n3
   have y0:=cH.out 0 _ rfl
   have y1:=cH.out 1 _ rfl
   have y2:=cH.out 2 _ rfl
   have y3:=cH.out 3 _ rfl
   have y4:=cH.out 4 _ rfl
   have z0:=Bl i0
   have z1:=Bl m0
   have zn:=Bl n0
   have zy:=Bl y0
   have aX:=Lh (aW.out.then aI)
   have eU:=Lh (eT.out.keep aI)
   obtain ⟨ib,cR⟩:∃ b,b=wr.heap.size:=⟨_,rfl⟩
   obtain ⟨yc,cU⟩:∃ b,b=W2.heap.size:=⟨_,rfl⟩
   rw [←cR] at n0 n1 n2 n3 zn
   rw [←cU] at y0 y1 y2 y3 y4 zy
   rw [←cR,← cU]
   have eS:=Lh cR
   have fB:=Lh cU
   clear cB aI cR cU g1 g2 g3 g4 g5
   by_cases c3:f.pc<1
   ·have d:decide (f.pc<1)=true:=by simp [c3]
    have hv:=Lh (aJ.out (fun ⟨_,_,_,_,h1,_⟩=>by omega))
    go_wp2_with fail
    go_ret
    exact ⟨by rw [hv.out];rfl,aX.out⟩
   obtain ⟨p,hp⟩:∃ p:Nat,f.pc=(p:Int)+1:=⟨(f.pc - 1).toNat,by omega⟩
   have HP:=Lh hp
   rw [hp] at n1
   have dp:decide ((p:Int)+1<1)=false:=by simp;omega
   have fS:(p:Int)+1≤9223372036854775807:=by omega
   clear hp c3
   by_cases c4:(y.code.length:Int)<(p:Int)+1
   ·have d:decide ((y.code.length:Int)<(p:Int)+1)=true:=by simp;omega
    have hv:=Lh (aJ.out (fun ⟨y',x',_,hb,_,hx,_⟩=>by
     have h1:=hb.fn
     rw [HN.out,Int.toNat_natCast,HY.out] at h1
     cases h1
     rw [HP.out,show ((p:Int)+1 - 1).toNat=p by omega,List.getElem?_eq_none (by omega)] at hx
     cases hx))
    go_wp2_with fail
    go_ret
    exact ⟨by rw [hv.out];rfl,aX.out⟩
   have d4:decide ((y.code.length:Int)<(p:Int)+1)=false:=by simp;omega
   by_cases c5:(f.locals.length:Int)=y.locals
   rotate_left
   ·have d:((f.locals.length:Int) == y.locals)=false:=by simp [c5]
    have d':((f.locals.length:Int) != y.locals)=true:=by simp [c5]
    have hv:=Lh (aJ.out (fun ⟨y',x',_,hb,_⟩=>by
     have h1:=hb.fn
     rw [HN.out,Int.toNat_natCast,HY.out] at h1
     cases h1
     exact c5 hb.loc))
    go_wp2_with fail
    go_ret
    exact ⟨by rw [hv.out];rfl,aX.out⟩
   have dC:=Lh c5
   rw [←c5] at y2
   clear c5
   have dJ:B≤W3.heap.size:=Nt hB aX.out.size
   have cG:Hid (Below B wr W3):=Lh (by
    have h1:=cM.out.mono (Nt hB cN.out.size)
    have h2:Below W2.heap.size W2 W3:=by rw [dH.out];exact Xa _ _
    exact h1.trans (h2.mono eF))
   have dD:=Lh (eX.out.ints cG.out)
   go_wp2_with fail
   refine (Y3 161 #[] (fun n=>!X1 n) f.locals _ B W3 Xat dJ dD.out (Xe1 _)).mono ?_
   rintro e W4 ⟨rfl,aE⟩
   have i0:=Xc aE i0
   have i1:=Xc aE i1
   have i2:=Xc aE i2
   have m0:=Xc aE m0
   have m1:=Xc aE m1
   have m2:=Xc aE m2
   have m3:=Xc aE m3
   have m4:=Xc aE m4
   have m5:=Xc aE m5
   have m6:=Xc aE m6
   have m7:=Xc aE m7
   have m8:=Xc aE m8
   have n0:=Xc aE n0
   have n1:=Xc aE n1
   have n2:=Xc aE n2
   have n3:=Xc aE n3
   have y0:=Xc aE y0
   have y1:=Xc aE y1
   have y2:=Xc aE y2
   have y3:=Xc aE y3
   have y4:=Xc aE y4
   have z0:=Bl i0
   have z1:=Bl m0
   have zn:=Bl n0
   have zy:=Bl y0
   have bC:=Lh (aX.out.then aE)
   have eV:=Lh (eU.out.keep aE)
   have dF:=Lh ((eZ.out.ints cG.out).ints (aE.mono dJ))
   have cX:=Lh aE
   clear aE
   cases cS:f.locals.any (fun n=>!X1 n) with
   | true=>
    have hv:=Lh (aJ.out (fun ⟨_,_,_,hb,_⟩=>Xkh cS hb.lv))
    clear cS
    go_wp2_with fail
    go_ret
    exact ⟨by rw [hv.out];rfl,bC.out⟩
   | false=>
   have dE:=Lh (Xkr cS)
   clear cS
   go_wp2_with fail
   refine (Y3 161 #[] (fun n=>!X1 n) f.stack _ B W4 Xat (Nt hB bC.out.size) dF.out (Xe1 _)).mono ?_
   rintro e W5 ⟨rfl,aF⟩
   have i0:=Xc aF i0
   have i1:=Xc aF i1
   have i2:=Xc aF i2
   have m0:=Xc aF m0
   have m1:=Xc aF m1
   have m2:=Xc aF m2
   have m3:=Xc aF m3
   have m4:=Xc aF m4
   have m5:=Xc aF m5
   have m6:=Xc aF m6
   have m7:=Xc aF m7
   have m8:=Xc aF m8
   have n0:=Xc aF n0
   have n1:=Xc aF n1
   have n2:=Xc aF n2
   have n3:=Xc aF n3
   have y0:=Xc aF y0
   have y1:=Xc aF y1
   have y2:=Xc aF y2
   have y3:=Xc aF y3
   have y4:=Xc aF y4
   have z0:=Bl i0
   have z1:=Bl m0
   have zn:=Bl n0
   have zy:=Bl y0
   have aL:=Lh (bC.out.then aF)
   have bJ:=Lh (eV.out.keep aF)
   have cC:Hid (Below B W2 W5):=Lh (by
    have h2:Below W2.heap.size W2 W3:=by rw [dH.out];exact Xa _ _
    exact ((h2.mono eF).trans (cX.out.mono dJ)).trans (aF.mono (Nt hB bC.out.size)))
   have cD:Hid (Below bk w1 W5):=Lh (by
    have h1:=aS.out.trans (cM.out.mono (Nat.le_of_lt cF))
    have h2:Below W2.heap.size W2 W3:=by rw [dH.out];exact Xa _ _
    have e2:bk≤W2.heap.size:=Nt (Nat.le_of_lt cF) cM.out.size
    have e3:bk≤W3.heap.size:=Nt e2 h2.size
    have e4:bk≤W4.heap.size:=Nt e3 cX.out.size
    exact ((h1.trans (h2.mono e2)).trans (cX.out.mono e3)).trans (aF.mono e4))
   clear aF
   cases cT:f.stack.any (fun n=>!X1 n) with
   | true=>
    have hv:=Lh (aJ.out (fun ⟨_,_,_,hb,_⟩=>Xkh cT hb.sv))
    clear cT
    go_wp2_with fail
    go_ret
    exact ⟨by rw [hv.out];rfl,aL.out⟩
   | false=>
   have dG:=Lh (Xkr cT)
   clear cT
   have cJ:p<y.code.length:=by omega
   clear eP eQ fS fO fT
   obtain ⟨x,hx⟩:∃ x,y.code[p]?=some x:=⟨_,Lg cJ⟩
   have HX:=Lh hx
   have bH:Hid (Xaa c f y):=Lh ⟨by rw [HN.out];omega,by rw [HN.out,Int.toNat_natCast];exact HY.out,by rw [HP.out];omega,dC.out,dE.out,dG.out⟩
   have cI:=(hs.wf HY.out).op x (Lm hx)
   have h9:Hid (x.op=9→0≤x.a∧x.a<c.funcs.length):=Lh (fun e=>hs.lim HY.out hx (by rw [e];rfl))
   have eN:Hid (0≤Qb c x∧Qb c x≤6):=Lh (by
    unfold Qb
    split
    ·omega
    split
    ·omega
    split
    ·rename_i e _ e9
     have:=h9.out e9
     cases hg:Je c x.a with
     | none=>simp
     | some z=>have:=hs.fok (show c.funcs[x.a.toNat]?=some z from hg);unfold Zr at this;simp only [];omega
    ·omega)
   clear hx
   have fW:Hid (∀ es' clock',True):=Lh (fun (_:Nat) (_:Nat)=>trivial)
   clear fW
   rcases bJ.out.find n y HY.out with dY|⟨jf,g,cK,eJ,bA,hA⟩
   ·have eM:(Instr.lookup 192 (.map (some bk)) (.int .i64 (n:Int)) true).run Tryz.prog W5=.ok (.tuple #[.slice none 0 0,.bool false]) W5:=Xki bJ.out.map n none dY
    have eY:=Lh dY
    have dK:B≤W5.heap.size:=Nt hB aL.out.size
    have cE:=(La bJ.out.map)
    clear dY
    go_wp2_with fail
    refine (Xhn c _ n y B W5 (HL.out.below aL.out) dK (HC.out.below (aL.out.mono hB)) hs HY.out).mono ?_
    rintro e W6 ⟨g,cK,rfl,gC,aT,hA,aD⟩
    have dB:=Lh (bJ.out.keep aD)
    have eO:(Instr.mapUpdate 192 (.map (some bk)) (.int .i64 (n:Int)) (.slice (some ⟨g,0,none⟩) y.code.length y.code.length)).run Tryz.prog W6=.ok () (Kr W6 bk (.map (es.push ⟨.int .i64 n,.slice (some ⟨g,0,none⟩) y.code.length y.code.length,aH⟩) (aH+1))):=Xnc dB.out.map n _ eY.out
    obtain ⟨WY,cP⟩:∃ W,W=Kr W6 bk (.map (es.push ⟨.int .i64 n,.slice (some ⟨g,0,none⟩) y.code.length y.code.length,aH⟩) (aH+1)):=⟨_,rfl⟩
    rw [←cP] at eO
    have dU:g≠bk:=by omega
    have eE:Hid (Vy c bk WY bk _ _):=Lh (by rw [cP];exact dB.out.add n y HY.out g cK aT hA (by omega) dU)
    have bS:Xp [bk] [bk] W6 WY:=by rw [cP];exact Xh4
    have bA:WY.heap[g]?=some (.cells (Xx cK) 3 (0,0)):=by rw [bS.block g (La aT) (by simp;exact dU)];exact aT
    have cZ:Hid (Below w.heap.size w WY):=Lh ((aL.out.then aD).trans (bS.below (fun b hb=>by simp at hb;omega) (aL.out.then aD).size))
    have dQ:Hid (Below bk w1 WY):=Lh ((cD.out.trans (aD.mono (Nat.le_of_lt cE))).trans (bS.below (fun b hb=>by simp at hb;omega) (Nat.le_of_lt (La dB.out.map))))
    have fG:Hid (Below B W2 WY):=Lh ((cC.out.trans (aD.mono dK)).trans (bS.below (fun b hb=>by simp at hb;omega) (Nt dK aD.size)))
    have i0:=Xc aD i0
    have i1:=Xc aD i1
    have i2:=Xc aD i2
    have m0:=Xc aD m0
    have m1:=Xc aD m1
    have m2:=Xc aD m2
    have m3:=Xc aD m3
    have m4:=Xc aD m4
    have m5:=Xc aD m5
    have m6:=Xc aD m6
    have m7:=Xc aD m7
    have m8:=Xc aD m8
    have n0:=Xc aD n0
    have n1:=Xc aD n1
    have n2:=Xc aD n2
    have n3:=Xc aD n3
    have y0:=Xc aD y0
    have y1:=Xc aD y1
    have y2:=Xc aD y2
    have y3:=Xc aD y3
    have y4:=Xc aD y4
    have z0:=Bl i0
    have z1:=Bl m0
    have zn:=Bl n0
    have zy:=Bl y0
    clear cP
    go_upto_region 26 with fail
    have aG:∀ {a:Addr} {u:Value},W6.cell? a=some u→a.block≠bk→WY.cell? a=some u:=fun h1 h2=>bS.cell h1 (by simp;exact h2)
    have cO:ib≠bk:=by rw [eS.out];omega
    have bY:yc≠bk:=by rw [fB.out];have:=cM.out.size;omega
    have i0:=aG i0 (show w.heap.size≠bk by omega)
    have i1:=aG i1 (show w.heap.size≠bk by omega)
    have i2:=aG i2 (show w.heap.size≠bk by omega)
    have m0:=aG m0 (show w.heap.size+1≠bk by omega)
    have m1:=aG m1 (show w.heap.size+1≠bk by omega)
    have m2:=aG m2 (show w.heap.size+1≠bk by omega)
    have m3:=aG m3 (show w.heap.size+1≠bk by omega)
    have m4:=aG m4 (show w.heap.size+1≠bk by omega)
    have m5:=aG m5 (show w.heap.size+1≠bk by omega)
    have m6:=aG m6 (show w.heap.size+1≠bk by omega)
    have m7:=aG m7 (show w.heap.size+1≠bk by omega)
    have m8:=aG m8 (show w.heap.size+1≠bk by omega)
    have n0:=aG n0 cO
    have n1:=aG n1 cO
    have n2:=aG n2 cO
    have n3:=aG n3 cO
    have y0:=aG y0 bY
    have y1:=aG y1 bY
    have y2:=aG y2 bY
    have y3:=aG y3 bY
    have y4:=aG y4 bY
    have z0:=Bl i0
    have z1:=Bl m0
    have zn:=Bl n0
    have zy:=Bl y0
    clear aG eM eO aD bS aT
    obtain ⟨v,hv⟩:∃ v,cK[p]?=some v:=⟨_,Lg (by rw [hA.1];omega)⟩
    have hT:Hid (Vu c f y x v):=Lh ⟨bH.out,by rw [HP.out];omega,by rw [HP.out,show ((p:Int)+1 - 1).toNat=p by omega];exact HX.out,by rw [HP.out,show ((p:Int)+1 - 1).toNat=p by omega];exact hA.2 p v hv⟩
    have fU:-1≤v∧v≤100000:=by
     rcases hA.2 p v hv with ⟨h,_⟩|⟨h,hr⟩
     ·omega
     ·have:=Qu (hs.wf HY.out) (hs.snd HY.out) hr;omega
    have r0:WY.cell? ⟨g,p,none⟩=some (.int .i64 v):=by rw [cell_of_row _ _ _ _ _ _ bA];exact Qe hv
    have zg:=Bl r0
    obtain ⟨cb,co,dR,dS,dM⟩:∃ cb co,ca=some ⟨cb,co,none⟩∧cb<B∧Xbu WY cb (co+p*2) x:=by
     obtain ⟨a0,aN,bO,_,_,_,hE⟩:=eD.out.inss fG.out
     obtain ⟨rfl,rfl⟩:ca=a0∧cc=aN:=by simpa using bO
     rcases hE with h0|⟨cb,co,rfl,hb,hE⟩
     ·rw [h0] at cJ;simp at cJ
     ·exact ⟨cb,co,rfl,hb,hE p x HX.out⟩
    subst dR
    obtain ⟨x0,x1,eB,cL⟩:=dM
    have zx:=Bl x0
    have fQ:(0:Int)≤(p:Int):=In _
    have fR:(p:Int)<(y.code.length:Int):=by omega
    obtain ⟨aC,xa⟩:=x
    dsimp only at x0 x1 cI
    obtain ⟨W7,bD⟩:∃ W,W=WY.alloc (.cells #[.int .i64 aC,.int .i64 xa] 124):=⟨_,rfl⟩
    have aB:Below WY.heap.size WY W7:=by rw [bD];exact Xa _ _
    have bN:Hid (Xo W7 WY.heap.size [.int .i64 aC,.int .i64 xa]):=by rw [bD];exact Lh Xd
    have HA:=Lh hA
    have HV:=Lh hv
    clear hA hv bA
    go_upto_region 27 with fail
    rw [←bD]
    have i0:=Xc aB i0
    have i1:=Xc aB i1
    have i2:=Xc aB i2
    have m0:=Xc aB m0
    have m1:=Xc aB m1
    have m2:=Xc aB m2
    have m3:=Xc aB m3
    have m4:=Xc aB m4
    have m5:=Xc aB m5
    have m6:=Xc aB m6
    have m7:=Xc aB m7
    have m8:=Xc aB m8
    have n0:=Xc aB n0
    have n1:=Xc aB n1
    have n2:=Xc aB n2
    have n3:=Xc aB n3
    have y0:=Xc aB y0
    have y1:=Xc aB y1
    have y2:=Xc aB y2
    have y3:=Xc aB y3
    have y4:=Xc aB y4
    have r0:=Xc aB r0
    have z0:=Bl i0
    have z1:=Bl m0
    have zn:=Bl n0
    have zy:=Bl y0
    have x0:=bN.out 0 _ rfl
    have x1:=bN.out 1 _ rfl
    have zx:=Bl x0
    have zg:=Bl r0
    have bB:=Lh (cZ.out.then aB)
    have bW:=Lh (eE.out.keep aB)
    have bM:Hid (Below bk w1 W7):=Lh (dQ.out.trans (aB.mono (Nat.le_of_lt (La eE.out.map))))
    have dL:B≤W7.drew.heap.size:=Nt hB bB.out.size
    have dA:Hid (Yj B W7.drew (.agg #[.slice fa c.fields.length fc,.int .i64 c.globals,.slice (some ⟨yb,yo,none⟩) c.funcs.length gc]) c):=Lh (HC.out.below ((Xh bB.out 1).mono hB))
    obtain ⟨xb,bQ⟩:∃ b,b=WY.heap.size:=⟨_,rfl⟩
    rw [←bQ] at x0 x1 zx
    rw [←bQ]
    clear bD aB bQ bN
    by_cases c8:v<0
    ·have d:decide (v<0)=true:=by simp [c8]
     have hv:=Lh (aJ.out (hT.out.neg c8))
     go_quiet (fail)
     go_wp2_with fail
     go_ret
     exact ⟨by rw [hv.out];rfl,Xh bB.out _⟩
    have d8:decide (v<0)=false:=by simp;omega
    have hw:IntKind.i64.wrap (v - Qb c ⟨aC,xa⟩)=v - Qb c ⟨aC,xa⟩:=by have:=eN.out;rw [IntKind.wrap_i64];omega
    have fA:=Lh hw
    go_region_held3 (fun V=>V.cell? ⟨g,p,none⟩=some (.int .i64 v)∧V.cell? ⟨ib,3,none⟩=some (.slice sa f.stack.length sc)∧V.cell? ⟨w.heap.size,0,none⟩=some (.slice fa c.fields.length fc)∧V.cell? ⟨w.heap.size,1,none⟩=some (.int .i64 c.globals)∧V.cell? ⟨w.heap.size,2,none⟩=some (.slice (some ⟨yb,yo,none⟩) c.funcs.length gc)∧V.cell? ⟨xb,0,none⟩=some (.int .i64 aC)∧V.cell? ⟨xb,1,none⟩=some (.int .i64 xa))
     (first|exact ⟨r0,n3,i0,i1,i2,x0,x1⟩|exact ⟨Xc aA r0,Xc aA n3,Xc aA i0,Xc aA i1,Xc aA i2,Xc aA x0,Xc aA x1⟩)
     (first|(go_at_call 163;refine (Xhe c _ ⟨aC,xa⟩ B W7.drew dL dA.out h9.out).mono ?_;rintro e W8 ⟨rfl,aA⟩))
    have aV:=Lh ((Xh bB.out 1).then aA)
    have bK:=Lh ((bW.out.keep (Xh Br 1)).keep aA)
    have aZ:Hid (Below bk w1 W8):=Lh ((bM.out.trans (Xh Br 1)).trans (aA.mono (Nat.le_of_lt (La bW.out.map))))
    have i0:=Xc aA (show W7.drew.cell? _=_ from i0)
    have i1:=Xc aA (show W7.drew.cell? _=_ from i1)
    have i2:=Xc aA (show W7.drew.cell? _=_ from i2)
    have m0:=Xc aA (show W7.drew.cell? _=_ from m0)
    have m1:=Xc aA (show W7.drew.cell? _=_ from m1)
    have m2:=Xc aA (show W7.drew.cell? _=_ from m2)
    have m3:=Xc aA (show W7.drew.cell? _=_ from m3)
    have m4:=Xc aA (show W7.drew.cell? _=_ from m4)
    have m5:=Xc aA (show W7.drew.cell? _=_ from m5)
    have m6:=Xc aA (show W7.drew.cell? _=_ from m6)
    have m7:=Xc aA (show W7.drew.cell? _=_ from m7)
    have m8:=Xc aA (show W7.drew.cell? _=_ from m8)
    have n0:=Xc aA (show W7.drew.cell? _=_ from n0)
    have n1:=Xc aA (show W7.drew.cell? _=_ from n1)
    have n2:=Xc aA (show W7.drew.cell? _=_ from n2)
    have n3:=Xc aA (show W7.drew.cell? _=_ from n3)
    have y0:=Xc aA (show W7.drew.cell? _=_ from y0)
    have y1:=Xc aA (show W7.drew.cell? _=_ from y1)
    have y2:=Xc aA (show W7.drew.cell? _=_ from y2)
    have y3:=Xc aA (show W7.drew.cell? _=_ from y3)
    have y4:=Xc aA (show W7.drew.cell? _=_ from y4)
    have x0:=Xc aA (show W7.drew.cell? _=_ from x0)
    have x1:=Xc aA (show W7.drew.cell? _=_ from x1)
    have z0:=Bl i0
    have z1:=Bl m0
    have zn:=Bl n0
    have zy:=Bl y0
    have zx:=Bl x0
    clear aA hw
    by_cases c9:(f.stack.length:Int)=v - Qb c ⟨aC,xa⟩
    rotate_left
    ·have d:((f.stack.length:Int) == v - Qb c ⟨aC,xa⟩)=false:=by simp [c9]
     have d':((f.stack.length:Int) != v - Qb c ⟨aC,xa⟩)=true:=by simp [c9]
     have hv:=Lh (aJ.out (fun hf=>c9 (hT.out.ht hs hf).1))
     go_wp2_with fail
     go_ret
     exact ⟨by rw [hv.out];rfl,aV.out⟩
    have bU:=Lh c9
    have d9:((f.stack.length:Int) == v - Qb c ⟨aC,xa⟩)=true:=by simp [c9]
    have fD:((f.stack.length:Int) != v - Qb c ⟨aC,xa⟩)=false:=by simp [c9]
    clear c9
    by_cases cl:k+1=fs.length
    ·have aU:=Lh cl
     have dl:((k:Int) == (fs.length:Int) - 1)=true:=by simp;omega
     clear cl
     go_wp2_with fail
     refine (Xfe ⟨aC,xa⟩ ⟨kind,node,field,value,fault⟩ W8).mono ?_
     rintro e W9 ⟨rfl,bF⟩
     have cY:=Lh (aV.out.then bF)
     have bL:=Lh (bK.out.keep bF)
     have aO:Hid (Below bk w1 W9):=Lh (aZ.out.trans (bF.mono (Nat.le_of_lt (La bK.out.map))))
     clear bF
     cases bE:Xr ⟨aC,xa⟩ ⟨kind,node,field,value,fault⟩ with
     | false=>
      have hv:=Lh (aJ.out (fun hf=>by
       have:=(hT.out.ht hs hf).2
       rw [if_pos aU.out,bE] at this
       cases this))
      clear bE
      go_wp2_with fail
      go_ret
      exact ⟨by rw [hv.out];rfl,cY.out⟩
     | true=>
      have aQ:Hid (Yx c fs ⟨kind,node,field,value,fault⟩ k f):=Lh (hT.out.yes (by omega) bU.out (by rw [if_pos aU.out];exact bE))
      clear bE
      go_wp2_with fail
      go_roundg (gk - 1)
      case measure=>omega
      case rel=>exact ⟨k+1,by omega,by go_num,by omega,aO,Lh ⟨_,_,bL.out⟩,Lh (fun j f' hj aP=>by
       by_cases e:j=k
       ·subst e;rw [HF.out] at aP;cases aP;exact aQ.out
       ·exact aY.out j f' (by omega) aP)⟩
    ·have dl:((k:Int) == (fs.length:Int) - 1)=false:=by simp;omega
     obtain ⟨f2,bG⟩:∃ f2,fs[k+1]?=some f2:=⟨_,Lg (by omega)⟩
     have q0:=((bX.out (k+1) f2 bG).below (aV.out.mono hB) bP).1
     have eC:=(bX.out (k+1) f2 bG).2.2.2.2.1
     have zq:=Bl q0
     have bV:=Lh bG
     have aU:=Lh cl
     have dV:(0:Int)≤(k:Int)+1:=by omega
     have dW:(k:Int)+1<(fs.length:Int):=by omega
     have dX:((k:Int)+1).toNat=k+1:=by omega
     have eA:IntKind.i64.wrap ((k:Int)+1)=(k:Int)+1:=by rw [IntKind.wrap_i64];omega
     clear bG cl
     go_upto_region 32 with fail
     by_cases c11:aC=9
     rotate_left
     ·have d:(aC == 9)=false:=by simp [c11]
      have d':(aC != 9)=true:=by simp [c11]
      have hv:=Lh (aJ.out (fun hf=>by
       have:=(hT.out.ht hs hf).2
       rw [if_neg aU.out] at this
       exact c11 this.1))
      go_quiet (fail)
      go_wp2_with fail
      go_ret
      exact ⟨by rw [hv.out];rfl,Xh aV.out _⟩
     have fC:(aC == 9)=true:=by simp [c11]
     have dI:(aC != 9)=false:=by simp [c11]
     have bI:=Lh c11
     clear c11
     by_cases aM:xa=f2.fn
     ·have d:(xa == f2.fn)=true:=by simp [aM]
      have d':(xa != f2.fn)=false:=by simp [aM]
      have aQ:Hid (Yx c fs ⟨kind,node,field,value,fault⟩ k f):=Lh (hT.out.yes (by omega) bU.out (by rw [if_neg aU.out];exact ⟨bI.out,f2,bV.out,aM⟩))
      clear aM
      go_quiet (fail)
      have bL:=Lh (bK.out.keep (Xh Br nq))
      have aO:Hid (Below bk w1 (W8.drewN nq)):=Lh (aZ.out.trans (Xh Br nq))
      clear dX eA
      go_wp2_with fail
      go_roundg (gk - 1)
      case measure=>omega
      case rel=>exact ⟨k+1,by omega,by go_num,by omega,aO,Lh ⟨_,_,bL.out⟩,Lh (fun j f' hj aP=>by
       by_cases e:j=k
       ·subst e;rw [HF.out] at aP;cases aP;exact aQ.out
       ·exact aY.out j f' (by omega) aP)⟩
     ·have d:(xa == f2.fn)=false:=by simp [aM]
      have d':(xa != f2.fn)=true:=by simp [aM]
      have hv:=Lh (aJ.out (fun hf=>by
       have:=(hT.out.ht hs hf).2
       rw [if_neg aU.out] at this
       obtain ⟨_,f3,h3,h4⟩:=this
       rw [bV.out] at h3
       cases h3
       exact aM h4))
      go_quiet (fail)
      go_wp2_with fail
      go_ret
      exact ⟨by rw [hv.out];rfl,Xh aV.out _⟩
   ·have eM:(Instr.lookup 192 (.map (some bk)) (.int .i64 (n:Int)) true).run Tryz.prog W5=.ok (.tuple #[.slice (some ⟨g,0,none⟩) y.code.length y.code.length,.bool true]) W5:=Xki bJ.out.map n _ eJ
    clear eJ
    obtain ⟨v,hv⟩:∃ v,cK[p]?=some v:=⟨_,Lg (by rw [hA.1];omega)⟩
    have hT:Hid (Vu c f y x v):=Lh ⟨bH.out,by rw [HP.out];omega,by rw [HP.out,show ((p:Int)+1 - 1).toNat=p by omega];exact HX.out,by rw [HP.out,show ((p:Int)+1 - 1).toNat=p by omega];exact hA.2 p v hv⟩
    have fU:-1≤v∧v≤100000:=by
     rcases hA.2 p v hv with ⟨h,_⟩|⟨h,hr⟩
     ·omega
     ·have:=Qu (hs.wf HY.out) (hs.snd HY.out) hr;omega
    have r0:W5.cell? ⟨g,p,none⟩=some (.int .i64 v):=by rw [cell_of_row _ _ _ _ _ _ bA];exact Qe hv
    have zg:=Bl r0
    obtain ⟨cb,co,dR,dS,dM⟩:∃ cb co,ca=some ⟨cb,co,none⟩∧cb<B∧Xbu W5 cb (co+p*2) x:=by
     obtain ⟨a0,aN,bO,_,_,_,hE⟩:=eD.out.inss cC.out
     obtain ⟨rfl,rfl⟩:ca=a0∧cc=aN:=by simpa using bO
     rcases hE with h0|⟨cb,co,rfl,hb,hE⟩
     ·rw [h0] at cJ;simp at cJ
     ·exact ⟨cb,co,rfl,hb,hE p x HX.out⟩
    subst dR
    obtain ⟨x0,x1,eB,cL⟩:=dM
    have zx:=Bl x0
    have fQ:(0:Int)≤(p:Int):=In _
    have fR:(p:Int)<(y.code.length:Int):=by omega
    obtain ⟨aC,xa⟩:=x
    dsimp only at x0 x1 cI
    obtain ⟨W7,bD⟩:∃ W,W=W5.alloc (.cells #[.int .i64 aC,.int .i64 xa] 124):=⟨_,rfl⟩
    have aB:Below W5.heap.size W5 W7:=by rw [bD];exact Xa _ _
    have bN:Hid (Xo W7 W5.heap.size [.int .i64 aC,.int .i64 xa]):=by rw [bD];exact Lh Xd
    have HA:=Lh hA
    have HV:=Lh hv
    clear hA hv bA
    go_upto_region 27 with fail
    rw [←bD]
    have i0:=Xc aB i0
    have i1:=Xc aB i1
    have i2:=Xc aB i2
    have m0:=Xc aB m0
    have m1:=Xc aB m1
    have m2:=Xc aB m2
    have m3:=Xc aB m3
    have m4:=Xc aB m4
    have m5:=Xc aB m5
    have m6:=Xc aB m6
    have m7:=Xc aB m7
    have m8:=Xc aB m8
    have n0:=Xc aB n0
    have n1:=Xc aB n1
    have n2:=Xc aB n2
    have n3:=Xc aB n3
    have y0:=Xc aB y0
    have y1:=Xc aB y1
    have y2:=Xc aB y2
    have y3:=Xc aB y3
    have y4:=Xc aB y4
    have r0:=Xc aB r0
    have z0:=Bl i0
    have z1:=Bl m0
    have zn:=Bl n0
    have zy:=Bl y0
    have x0:=bN.out 0 _ rfl
    have x1:=bN.out 1 _ rfl
    have zx:=Bl x0
    have zg:=Bl r0
    have bB:=Lh (aL.out.then aB)
    have bW:=Lh (bJ.out.keep aB)
    have bM:Hid (Below bk w1 W7):=Lh (cD.out.trans (aB.mono (Nat.le_of_lt (La bJ.out.map))))
    have dL:B≤W7.drew.heap.size:=Nt hB bB.out.size
    have dA:Hid (Yj B W7.drew (.agg #[.slice fa c.fields.length fc,.int .i64 c.globals,.slice (some ⟨yb,yo,none⟩) c.funcs.length gc]) c):=Lh (HC.out.below ((Xh bB.out 1).mono hB))
    obtain ⟨xb,bQ⟩:∃ b,b=W5.heap.size:=⟨_,rfl⟩
    rw [←bQ] at x0 x1 zx
    rw [←bQ]
    clear bD aB bQ bN
    by_cases c8:v<0
    ·have d:decide (v<0)=true:=by simp [c8]
     have hv:=Lh (aJ.out (hT.out.neg c8))
     go_quiet (fail)
     go_wp2_with fail
     go_ret
     exact ⟨by rw [hv.out];rfl,Xh bB.out _⟩
    have d8:decide (v<0)=false:=by simp;omega
    have hw:IntKind.i64.wrap (v - Qb c ⟨aC,xa⟩)=v - Qb c ⟨aC,xa⟩:=by have:=eN.out;rw [IntKind.wrap_i64];omega
    have fA:=Lh hw
    go_region_held3 (fun V=>V.cell? ⟨g,p,none⟩=some (.int .i64 v)∧V.cell? ⟨ib,3,none⟩=some (.slice sa f.stack.length sc)∧V.cell? ⟨w.heap.size,0,none⟩=some (.slice fa c.fields.length fc)∧V.cell? ⟨w.heap.size,1,none⟩=some (.int .i64 c.globals)∧V.cell? ⟨w.heap.size,2,none⟩=some (.slice (some ⟨yb,yo,none⟩) c.funcs.length gc)∧V.cell? ⟨xb,0,none⟩=some (.int .i64 aC)∧V.cell? ⟨xb,1,none⟩=some (.int .i64 xa))
     (first|exact ⟨r0,n3,i0,i1,i2,x0,x1⟩|exact ⟨Xc aA r0,Xc aA n3,Xc aA i0,Xc aA i1,Xc aA i2,Xc aA x0,Xc aA x1⟩)
     (first|(go_at_call 163;refine (Xhe c _ ⟨aC,xa⟩ B W7.drew dL dA.out h9.out).mono ?_;rintro e W8 ⟨rfl,aA⟩))
    have aV:=Lh ((Xh bB.out 1).then aA)
    have bK:=Lh ((bW.out.keep (Xh Br 1)).keep aA)
    have aZ:Hid (Below bk w1 W8):=Lh ((bM.out.trans (Xh Br 1)).trans (aA.mono (Nat.le_of_lt (La bW.out.map))))
    have i0:=Xc aA (show W7.drew.cell? _=_ from i0)
    have i1:=Xc aA (show W7.drew.cell? _=_ from i1)
    have i2:=Xc aA (show W7.drew.cell? _=_ from i2)
    have m0:=Xc aA (show W7.drew.cell? _=_ from m0)
    have m1:=Xc aA (show W7.drew.cell? _=_ from m1)
    have m2:=Xc aA (show W7.drew.cell? _=_ from m2)
    have m3:=Xc aA (show W7.drew.cell? _=_ from m3)
    have m4:=Xc aA (show W7.drew.cell? _=_ from m4)
    have m5:=Xc aA (show W7.drew.cell? _=_ from m5)
    have m6:=Xc aA (show W7.drew.cell? _=_ from m6)
    have m7:=Xc aA (show W7.drew.cell? _=_ from m7)
    have m8:=Xc aA (show W7.drew.cell? _=_ from m8)
    have n0:=Xc aA (show W7.drew.cell? _=_ from n0)
    have n1:=Xc aA (show W7.drew.cell? _=_ from n1)
    have n2:=Xc aA (show W7.drew.cell? _=_ from n2)
    have n3:=Xc aA (show W7.drew.cell? _=_ from n3)
    have y0:=Xc aA (show W7.drew.cell? _=_ from y0)
    have y1:=Xc aA (show W7.drew.cell? _=_ from y1)
    have y2:=Xc aA (show W7.drew.cell? _=_ from y2)
    have y3:=Xc aA (show W7.drew.cell? _=_ from y3)
    have y4:=Xc aA (show W7.drew.cell? _=_ from y4)
    have x0:=Xc aA (show W7.drew.cell? _=_ from x0)
    have x1:=Xc aA (show W7.drew.cell? _=_ from x1)
    have z0:=Bl i0
    have z1:=Bl m0
    have zn:=Bl n0
    have zy:=Bl y0
    have zx:=Bl x0
    clear aA hw
    by_cases c9:(f.stack.length:Int)=v - Qb c ⟨aC,xa⟩
    rotate_left
    ·have d:((f.stack.length:Int) == v - Qb c ⟨aC,xa⟩)=false:=by simp [c9]
     have d':((f.stack.length:Int) != v - Qb c ⟨aC,xa⟩)=true:=by simp [c9]
     have hv:=Lh (aJ.out (fun hf=>c9 (hT.out.ht hs hf).1))
     go_wp2_with fail
     go_ret
     exact ⟨by rw [hv.out];rfl,aV.out⟩
    have bU:=Lh c9
    have d9:((f.stack.length:Int) == v - Qb c ⟨aC,xa⟩)=true:=by simp [c9]
    have fD:((f.stack.length:Int) != v - Qb c ⟨aC,xa⟩)=false:=by simp [c9]
    clear c9
    by_cases cl:k+1=fs.length
    ·have aU:=Lh cl
     have dl:((k:Int) == (fs.length:Int) - 1)=true:=by simp;omega
     clear cl
     go_wp2_with fail
     refine (Xfe ⟨aC,xa⟩ ⟨kind,node,field,value,fault⟩ W8).mono ?_
     rintro e W9 ⟨rfl,bF⟩
     have cY:=Lh (aV.out.then bF)
     have bL:=Lh (bK.out.keep bF)
     have aO:Hid (Below bk w1 W9):=Lh (aZ.out.trans (bF.mono (Nat.le_of_lt (La bK.out.map))))
     clear bF
     cases bE:Xr ⟨aC,xa⟩ ⟨kind,node,field,value,fault⟩ with
     | false=>
      have hv:=Lh (aJ.out (fun hf=>by
       have:=(hT.out.ht hs hf).2
       rw [if_pos aU.out,bE] at this
       cases this))
      clear bE
      go_wp2_with fail
      go_ret
      exact ⟨by rw [hv.out];rfl,cY.out⟩
     | true=>
      have aQ:Hid (Yx c fs ⟨kind,node,field,value,fault⟩ k f):=Lh (hT.out.yes (by omega) bU.out (by rw [if_pos aU.out];exact bE))
      clear bE
      go_wp2_with fail
      go_roundg (gk - 1)
      case measure=>omega
      case rel=>exact ⟨k+1,by omega,by go_num,by omega,aO,Lh ⟨_,_,bL.out⟩,Lh (fun j f' hj aP=>by
       by_cases e:j=k
       ·subst e;rw [HF.out] at aP;cases aP;exact aQ.out
       ·exact aY.out j f' (by omega) aP)⟩
    ·have dl:((k:Int) == (fs.length:Int) - 1)=false:=by simp;omega
     obtain ⟨f2,bG⟩:∃ f2,fs[k+1]?=some f2:=⟨_,Lg (by omega)⟩
     have q0:=((bX.out (k+1) f2 bG).below (aV.out.mono hB) bP).1
     have eC:=(bX.out (k+1) f2 bG).2.2.2.2.1
     have zq:=Bl q0
     have bV:=Lh bG
     have aU:=Lh cl
     have dV:(0:Int)≤(k:Int)+1:=by omega
     have dW:(k:Int)+1<(fs.length:Int):=by omega
     have dX:((k:Int)+1).toNat=k+1:=by omega
     have eA:IntKind.i64.wrap ((k:Int)+1)=(k:Int)+1:=by rw [IntKind.wrap_i64];omega
     clear bG cl
     go_upto_region 32 with fail
     by_cases c11:aC=9
     rotate_left
     ·have d:(aC == 9)=false:=by simp [c11]
      have d':(aC != 9)=true:=by simp [c11]
      have hv:=Lh (aJ.out (fun hf=>by
       have:=(hT.out.ht hs hf).2
       rw [if_neg aU.out] at this
       exact c11 this.1))
      go_quiet (fail)
      go_wp2_with fail
      go_ret
      exact ⟨by rw [hv.out];rfl,Xh aV.out _⟩
     have fC:(aC == 9)=true:=by simp [c11]
     have dI:(aC != 9)=false:=by simp [c11]
     have bI:=Lh c11
     clear c11
     by_cases aM:xa=f2.fn
     ·have d:(xa == f2.fn)=true:=by simp [aM]
      have d':(xa != f2.fn)=false:=by simp [aM]
      have aQ:Hid (Yx c fs ⟨kind,node,field,value,fault⟩ k f):=Lh (hT.out.yes (by omega) bU.out (by rw [if_neg aU.out];exact ⟨bI.out,f2,bV.out,aM⟩))
      clear aM
      go_quiet (fail)
      have bL:=Lh (bK.out.keep (Xh Br nq))
      have aO:Hid (Below bk w1 (W8.drewN nq)):=Lh (aZ.out.trans (Xh Br nq))
      clear dX eA
      go_wp2_with fail
      go_roundg (gk - 1)
      case measure=>omega
      case rel=>exact ⟨k+1,by omega,by go_num,by omega,aO,Lh ⟨_,_,bL.out⟩,Lh (fun j f' hj aP=>by
       by_cases e:j=k
       ·subst e;rw [HF.out] at aP;cases aP;exact aQ.out
       ·exact aY.out j f' (by omega) aP)⟩
     ·have d:(xa == f2.fn)=false:=by simp [aM]
      have d':(xa != f2.fn)=true:=by simp [aM]
      have hv:=Lh (aJ.out (fun hf=>by
       have:=(hT.out.ht hs hf).2
       rw [if_neg aU.out] at this
       obtain ⟨_,f3,h3,h4⟩:=this
       rw [bV.out] at h3
       cases h3
       exact aM h4))
      go_quiet (fail)
      go_wp2_with fail
      go_ret
      exact ⟨by rw [hv.out];rfl,Xh aV.out _⟩
  ·obtain rfl:k=fs.length:=by omega
   have hv:Hid (pB (∀ k f,fs[k]?=some f→Yx c fs ⟨kind,node,field,value,fault⟩ k f)=true):=Lh (Kh (fun j f hf=>aY.out j f (Ll hf) hf))
   go_wp2_with fail
   go_ret
   exact ⟨by rw [hv.out];rfl,cN.out⟩
