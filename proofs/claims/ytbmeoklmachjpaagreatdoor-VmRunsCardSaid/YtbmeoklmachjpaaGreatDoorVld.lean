/- The tests of Valid ahead of its loop. MADE BY wip/gen_vld.py -/
import Derived.Test.YtbmeoklmachjpaaGreatDoorVpu
set_option maxHeartbeats 1000000
set_option maxRecDepth 100000
set_option linter.unusedVariables false
set_option linter.unusedSimpArgs false
namespace Go.Proofs.YtbmeoklmachjpaaGreatDoor
open Go.RowKit
theorem Xly (c:Cod) (fs:List Fra) (kind node field value fault fuel compares idle:Int) (fa ga ma:Option Addr) (fc gc mc:Nat) (B:Nat) (w:World) (hL:Qa w) (hB:B≤w.heap.size) (hc:Yj B w (.agg #[.slice fa c.fields.length fc,.int .i64 c.globals,.slice ga c.funcs.length gc]) c) (hn:¬(Xv c∧¬fuel<0∧¬1048576<fuel∧¬compares<0∧¬1099511627776<compares∧¬idle<0∧¬100000<idle∧¬200<(fs.length:Int))) :
  Calls Tryz.prog 17 #[.agg #[.slice fa c.fields.length fc,.int .i64 c.globals,.slice ga c.funcs.length gc],.agg #[.slice ma fs.length mc,.int .i64 kind,.int .i64 node,.int .i64 field,.int .i64 value,.int .i64 fault,.int .i64 fuel,.int .i64 compares,.int .i64 idle]] w fun e w'=>e=.returned (.bool false)∧Below w.heap.size w w':=by
 have HN:=Lh hn
 clear hn
 obtain ⟨W,hW⟩:∃ W,W=(w.alloc (.cells #[.slice fa c.fields.length fc,.int .i64 c.globals,.slice ga c.funcs.length gc] 25)).alloc (.cells #[.slice ma fs.length mc,.int .i64 kind,.int .i64 node,.int .i64 field,.int .i64 value,.int .i64 fault,.int .i64 fuel,.int .i64 compares,.int .i64 idle] 36):=⟨_,rfl⟩
 have hWb:Hid (Below w.heap.size w W):=by rw [hW];exact (Xa _ _).then (Xa _ _)
 have hsz:Hid (W.heap.size=w.heap.size+2):=by rw [hW];exact Lh (by simp)
 have b0:Hid (Xo W w.heap.size [.slice fa c.fields.length fc,.int .i64 c.globals,.slice ga c.funcs.length gc]):=by rw [hW];exact Lh (Xd.alloc _)
 have b1:Hid (Xo W (w.heap.size+1) [.slice ma fs.length mc,.int .i64 kind,.int .i64 node,.int .i64 field,.int .i64 value,.int .i64 fault,.int .i64 fuel,.int .i64 compares,.int .i64 idle]):=by
  rw [hW]
  have:=@Xd (w.alloc (.cells #[.slice fa c.fields.length fc,.int .i64 c.globals,.slice ga c.funcs.length gc] 25)) #[.slice ma fs.length mc,.int .i64 kind,.int .i64 node,.int .i64 field,.int .i64 value,.int .i64 fault,.int .i64 fuel,.int .i64 compares,.int .i64 idle] 36
  exact Lh (by simpa using this)
 have HC:=Lh hc
 have hcW:=Lh (hc.below (hWb.out.mono hB))
 have HL:=Lh hL
 have hWB:B≤W.heap.size:=by have:=hsz.out;omega
 clear hc hL
 have i0:=b0.out 0 _ rfl
 have i1:=b0.out 1 _ rfl
 have i2:=b0.out 2 _ rfl
 have m0:=b1.out 0 _ rfl
 have m1:=b1.out 1 _ rfl
 have m2:=b1.out 2 _ rfl
 have m3:=b1.out 3 _ rfl
 have m4:=b1.out 4 _ rfl
 have m5:=b1.out 5 _ rfl
 have m6:=b1.out 6 _ rfl
 have m7:=b1.out 7 _ rfl
 have m8:=b1.out 8 _ rfl
 have z0:w.heap.size<W.heap.size:=by have:=hsz.out;omega
 have z1:w.heap.size+1<W.heap.size:=by have:=hsz.out;omega
 go_enter Tryz.func17,Tryz.ntmps17
 go_upto_region 1 with fail
 rw [←hW]
 have HW:=Lh hW
 clear hW
 go_wp2_with fail
 refine (Jm c _ B W (HL.out.below hWb.out) hWB hcW.out).mono ?_
 rintro e w1 ⟨rfl,hb1⟩
 have i0:=Xc hb1 i0
 have i1:=Xc hb1 i1
 have i2:=Xc hb1 i2
 have m0:=Xc hb1 m0
 have m1:=Xc hb1 m1
 have m2:=Xc hb1 m2
 have m3:=Xc hb1 m3
 have m4:=Xc hb1 m4
 have m5:=Xc hb1 m5
 have m6:=Xc hb1 m6
 have m7:=Xc hb1 m7
 have m8:=Xc hb1 m8
 have z0:=Bl i0
 have z1:=Bl m0
 have HB1:=Lh (hWb.out.then hb1)
 clear hb1
 by_cases hs:Xv c
 rotate_left
 ·rw [Jp hs]
  go_wp2_with fail
  go_ret
  exact ⟨rfl,HB1.out⟩
 rw [Zg hs]
 by_cases h0:fuel<0
 ·have d0:decide (fuel<0)=true:=by simp;omega
  go_wp2_with fail
  go_ret
  exact ⟨rfl,HB1.out⟩
 have d0:decide (fuel<0)=false:=by simp;omega
 by_cases h1:1048576<fuel
 ·have d1:decide (1048576<fuel)=true:=by simp;omega
  go_wp2_with fail
  go_ret
  exact ⟨rfl,HB1.out⟩
 have d1:decide (1048576<fuel)=false:=by simp;omega
 by_cases h2:compares<0
 ·have d2:decide (compares<0)=true:=by simp;omega
  go_wp2_with fail
  go_ret
  exact ⟨rfl,HB1.out⟩
 have d2:decide (compares<0)=false:=by simp;omega
 by_cases h3:1099511627776<compares
 ·have d3:decide (1099511627776<compares)=true:=by simp;omega
  go_wp2_with fail
  go_ret
  exact ⟨rfl,HB1.out⟩
 have d3:decide (1099511627776<compares)=false:=by simp;omega
 by_cases h4:idle<0
 ·have d4:decide (idle<0)=true:=by simp;omega
  go_wp2_with fail
  go_ret
  exact ⟨rfl,HB1.out⟩
 have d4:decide (idle<0)=false:=by simp;omega
 by_cases h5:100000<idle
 ·have d5:decide (100000<idle)=true:=by simp;omega
  go_wp2_with fail
  go_ret
  exact ⟨rfl,HB1.out⟩
 have d5:decide (100000<idle)=false:=by simp;omega
 by_cases h6:200<(fs.length:Int)
 ·have d6:decide (200<(fs.length:Int))=true:=by simp;omega
  have d6b:decide (200<fs.length)=true:=by simp;omega
  go_wp2_with fail
  go_ret
  exact ⟨rfl,HB1.out⟩
 exact (HN.out ⟨hs,by omega,by omega,by omega,by omega,by omega,by omega,by omega⟩).elim
end Go.Proofs.YtbmeoklmachjpaaGreatDoor
