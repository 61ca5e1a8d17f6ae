/- Valid of a machine without frames. MADE BY wip/gen_vld.py -/
import Derived.Test.YtbmeoklmachjpaaGreatDoorVld
set_option maxHeartbeats 1000000
set_option maxRecDepth 100000
set_option linter.unusedVariables false
set_option linter.unusedSimpArgs false
namespace Go.Proofs.YtbmeoklmachjpaaGreatDoor
open Go.RowKit
def Ud (e:Int):Bool:=[17,18,19,20,5,21,6].any (fun a=>e == a)
def Qx (r:Rq):Bool:=if r.kind=4 then X1 r.value && (r.node == 0 && r.field == 0 && r.fault == 0) else if r.kind=5 then Ud r.fault && (r.node == 0 && r.field == 0 && r.value == 0) else false
theorem Uw (W:World) (T:TypeId) (b:Nat) (hb:b=W.heap.size):∀ (j:Nat) (u:Int),([17,18,19,20,5,21,6]:List Int)[j]?=some u→(W.alloc (.cells #[.int .i64 17,.int .i64 18,.int .i64 19,.int .i64 20,.int .i64 5,.int .i64 21,.int .i64 6] T)).cell? ⟨b,j,none⟩=some (.int .i64 u):=fun j u hu=>by
 subst hb
 rw [Y5]
 have h:j<7:=(Ll hu)
 have hj:j=0∨j=1∨j=2∨j=3∨j=4∨j=5∨j=6:=by omega
 rcases hj with rfl|rfl|rfl|rfl|rfl|rfl|rfl<;>simp at hu<;>subst hu<;>rfl
theorem Xjs (c:Cod) (kind node field value fault fuel compares idle:Int) (fa ga ma:Option Addr) (fc gc mc:Nat) (B:Nat) (w:World) (hL:Qa w) (hB:B≤w.heap.size) (hc:Yj B w (.agg #[.slice fa c.fields.length fc,.int .i64 c.globals,.slice ga c.funcs.length gc]) c) (hs:Xv c) (h0:¬fuel<0) (h1:¬1048576<fuel) (h2:¬compares<0) (h3:¬1099511627776<compares) (h4:¬idle<0) (h5:¬100000<idle) :
  Calls Tryz.prog 17 #[.agg #[.slice fa c.fields.length fc,.int .i64 c.globals,.slice ga c.funcs.length gc],.agg #[.slice ma 0 mc,.int .i64 kind,.int .i64 node,.int .i64 field,.int .i64 value,.int .i64 fault,.int .i64 fuel,.int .i64 compares,.int .i64 idle]] w fun e w'=>e=.returned (.bool (Qx ⟨kind,node,field,value,fault⟩))∧Below w.heap.size w w':=by
 have d0:decide (fuel<0)=false:=by simp;omega
 have d1:decide (1048576<fuel)=false:=by simp;omega
 have d2:decide (compares<0)=false:=by simp;omega
 have d3:decide (1099511627776<compares)=false:=by simp;omega
 have d4:decide (idle<0)=false:=by simp;omega
 have d5:decide (100000<idle)=false:=by simp;omega
 obtain ⟨W,hW⟩:∃ W,W=(w.alloc (.cells #[.slice fa c.fields.length fc,.int .i64 c.globals,.slice ga c.funcs.length gc] 25)).alloc (.cells #[.slice ma 0 mc,.int .i64 kind,.int .i64 node,.int .i64 field,.int .i64 value,.int .i64 fault,.int .i64 fuel,.int .i64 compares,.int .i64 idle] 36):=⟨_,rfl⟩
 have hWb:Hid (Below w.heap.size w W):=by rw [hW];exact (Xa _ _).then (Xa _ _)
 have hsz:Hid (W.heap.size=w.heap.size+2):=by rw [hW];exact Lh (by simp)
 have b0:Hid (Xo W w.heap.size [.slice fa c.fields.length fc,.int .i64 c.globals,.slice ga c.funcs.length gc]):=by rw [hW];exact Lh (Xd.alloc _)
 have b1:Hid (Xo W (w.heap.size+1) [.slice ma 0 mc,.int .i64 kind,.int .i64 node,.int .i64 field,.int .i64 value,.int .i64 fault,.int .i64 fuel,.int .i64 compares,.int .i64 idle]):=by
  rw [hW]
  have:=@Xd (w.alloc (.cells #[.slice fa c.fields.length fc,.int .i64 c.globals,.slice ga c.funcs.length gc] 25)) #[.slice ma 0 mc,.int .i64 kind,.int .i64 node,.int .i64 field,.int .i64 value,.int .i64 fault,.int .i64 fuel,.int .i64 compares,.int .i64 idle] 36
  exact Lh (by simpa using this)
 have HC:=Lh hc
 have hcW:=Lh (hc.below (hWb.out.mono hB))
 have HL:=Lh hL
 have hWB:B≤W.heap.size:=by have:=hsz.out;omega
 clear hc hL
 have i0:=b0.out 0 _ rfl
 have i1:=b0.out 1 _ rfl
 have i2:=b0.out 2 _ rfl
 have m0:=b1.out 0 _ rfl
 have m1:=b1.out 1 _ rfl
 have m2:=b1.out 2 _ rfl
 have m3:=b1.out 3 _ rfl
 have m4:=b1.out 4 _ rfl
 have m5:=b1.out 5 _ rfl
 have m6:=b1.out 6 _ rfl
 have m7:=b1.out 7 _ rfl
 have m8:=b1.out 8 _ rfl
 have z0:w.heap.size<W.heap.size:=by have:=hsz.out;omega
 have z1:w.heap.size+1<W.heap.size:=by have:=hsz.out;omega
 go_enter Tryz.func17,Tryz.ntmps17
 go_upto_region 1 with fail
 rw [←hW]
 have HW:=Lh hW
 clear hW
 go_wp2_with fail
 refine (Jm c _ B W (HL.out.below hWb.out) hWB hcW.out).mono ?_
 rintro e w1 ⟨rfl,hb1⟩
 rw [Zg hs]
 have i0:=Xc hb1 i0
 have i1:=Xc hb1 i1
 have i2:=Xc hb1 i2
 have m0:=Xc hb1 m0
 have m1:=Xc hb1 m1
 have m2:=Xc hb1 m2
 have m3:=Xc hb1 m3
 have m4:=Xc hb1 m4
 have m5:=Xc hb1 m5
 have m6:=Xc hb1 m6
 have m7:=Xc hb1 m7
 have m8:=Xc hb1 m8
 have z0:=Bl i0
 have z1:=Bl m0
 have HB1:=Lh (hWb.out.then hb1)
 clear hb1
 by_cases hk4:kind=4
 ·subst hk4
  cases hv:X1 value with
  | false=>
   have hf:Hid (Qx ⟨4,node,field,value,fault⟩=false):=Lh (by unfold Qx;simp [hv])
   have HV:=Lh hv
   clear hv
   go_wp2_with (go_at_call 45;refine (Yy _ _).mono ?_;rintro e w2 ⟨rfl,rfl⟩;rw [HV.out])
   go_ret
   exact ⟨by rw [hf.out];rfl,HB1.out.then (Xa _ _)⟩
  | true=>
   by_cases hn:node=0
   rotate_left
   ·have hf:Hid (Qx ⟨4,node,field,value,fault⟩=false):=Lh (by unfold Qx;simp [hv,hn])
    have HV:=Lh hv
    clear hv
    go_wp2_with (go_at_call 45;refine (Yy _ _).mono ?_;rintro e w2 ⟨rfl,rfl⟩;rw [HV.out])
    go_ret
    exact ⟨by rw [hf.out];rfl,HB1.out.then (Xa _ _)⟩
   subst hn
   by_cases hfd:field=0
   rotate_left
   ·have hf:Hid (Qx ⟨4,0,field,value,fault⟩=false):=Lh (by unfold Qx;simp [hv,hfd])
    have HV:=Lh hv
    clear hv
    go_wp2_with (go_at_call 45;refine (Yy _ _).mono ?_;rintro e w2 ⟨rfl,rfl⟩;rw [HV.out])
    go_ret
    exact ⟨by rw [hf.out];rfl,HB1.out.then (Xa _ _)⟩
   subst hfd
   by_cases hft:fault=0
   ·subst hft
    have hf:Hid (Qx ⟨4,0,0,value,0⟩=true):=Lh (by unfold Qx;simp [hv])
    have HV:=Lh hv
    clear hv
    go_wp2_with (go_at_call 45;refine (Yy _ _).mono ?_;rintro e w2 ⟨rfl,rfl⟩;rw [HV.out])
    go_ret
    exact ⟨by rw [hf.out];rfl,HB1.out.then (Xa _ _)⟩
   ·have hf:Hid (Qx ⟨4,0,0,value,fault⟩=false):=Lh (by unfold Qx;simp [hv,hft])
    have HV:=Lh hv
    clear hv
    go_wp2_with (go_at_call 45;refine (Yy _ _).mono ?_;rintro e w2 ⟨rfl,rfl⟩;rw [HV.out])
    go_ret
    exact ⟨by rw [hf.out];rfl,HB1.out.then (Xa _ _)⟩
 by_cases hk5:kind=5
 ·subst hk5
  cases hv:Ud fault with
  | false=>
   have hf:Hid (Qx ⟨5,node,field,value,fault⟩=false):=Lh (by unfold Qx;simp [hv])
   have HV:=Lh hv
   clear hv
   go_wp2_with (go_at_call 46;refine (Ql fault [17,18,19,20,5,21,6] _ 7 _ (by decide) (fun j u hu=>?_)).mono ?_;(exact Uw _ _ _ (by simp) j u hu);rintro e w2 ⟨rfl,rfl⟩;rw [show [17,18,19,20,5,21,6].any (fun a=>fault == a)=Ud fault from rfl,HV.out])
   go_ret
   exact ⟨by rw [hf.out];rfl,HB1.out.then ((Xa _ _).then (Xa _ _))⟩
  | true=>
   by_cases hn:node=0
   rotate_left
   ·have hf:Hid (Qx ⟨5,node,field,value,fault⟩=false):=Lh (by unfold Qx;simp [hv,hn])
    have HV:=Lh hv
    clear hv
    go_wp2_with (go_at_call 46;refine (Ql fault [17,18,19,20,5,21,6] _ 7 _ (by decide) (fun j u hu=>?_)).mono ?_;(exact Uw _ _ _ (by simp) j u hu);rintro e w2 ⟨rfl,rfl⟩;rw [show [17,18,19,20,5,21,6].any (fun a=>fault == a)=Ud fault from rfl,HV.out])
    go_ret
    exact ⟨by rw [hf.out];rfl,HB1.out.then ((Xa _ _).then (Xa _ _))⟩
   subst hn
   by_cases hfd:field=0
   rotate_left
   ·have hf:Hid (Qx ⟨5,0,field,value,fault⟩=false):=Lh (by unfold Qx;simp [hv,hfd])
    have HV:=Lh hv
    clear hv
    go_wp2_with (go_at_call 46;refine (Ql fault [17,18,19,20,5,21,6] _ 7 _ (by decide) (fun j u hu=>?_)).mono ?_;(exact Uw _ _ _ (by simp) j u hu);rintro e w2 ⟨rfl,rfl⟩;rw [show [17,18,19,20,5,21,6].any (fun a=>fault == a)=Ud fault from rfl,HV.out])
    go_ret
    exact ⟨by rw [hf.out];rfl,HB1.out.then ((Xa _ _).then (Xa _ _))⟩
   subst hfd
   by_cases hft:value=0
   ·subst hft
    have hf:Hid (Qx ⟨5,0,0,0,fault⟩=true):=Lh (by unfold Qx;simp [hv])
    have HV:=Lh hv
    clear hv
    go_wp2_with (go_at_call 46;refine (Ql fault [17,18,19,20,5,21,6] _ 7 _ (by decide) (fun j u hu=>?_)).mono ?_;(exact Uw _ _ _ (by simp) j u hu);rintro e w2 ⟨rfl,rfl⟩;rw [show [17,18,19,20,5,21,6].any (fun a=>fault == a)=Ud fault from rfl,HV.out])
    go_ret
    exact ⟨by rw [hf.out];rfl,HB1.out.then ((Xa _ _).then (Xa _ _))⟩
   ·have hf:Hid (Qx ⟨5,0,0,value,fault⟩=false):=Lh (by unfold Qx;simp [hv,hft])
    have HV:=Lh hv
    clear hv
    go_wp2_with (go_at_call 46;refine (Ql fault [17,18,19,20,5,21,6] _ 7 _ (by decide) (fun j u hu=>?_)).mono ?_;(exact Uw _ _ _ (by simp) j u hu);rintro e w2 ⟨rfl,rfl⟩;rw [show [17,18,19,20,5,21,6].any (fun a=>fault == a)=Ud fault from rfl,HV.out])
    go_ret
    exact ⟨by rw [hf.out];rfl,HB1.out.then ((Xa _ _).then (Xa _ _))⟩
 have hf:Hid (Qx ⟨kind,node,field,value,fault⟩=false):=Lh (by unfold Qx;simp [hk4,hk5])
 have e4:(kind == 4)=false:=by simp [hk4]
 have e5:(kind == 5)=false:=by simp [hk5]
 go_wp2_with fail
 go_ret
 exact ⟨by rw [hf.out];rfl,HB1.out.then (Xa _ _)⟩
end Go.Proofs.YtbmeoklmachjpaaGreatDoor
