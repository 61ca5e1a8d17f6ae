/- The walk of VmStarts. -/
import Derived.Test.YtbmeoklmachjpaaGreatDoorAwk
import Derived.Test.YtbmeoklmachjpaaGreatDoorRst
import Derived.Test.YtbmeoklmachjpaaGreatDoorRg
import Derived.Deep.RegionHeld3
set_option maxHeartbeats 4000000
set_option maxRecDepth 1000000
set_option linter.unusedVariables false
set_option linter.unusedSimpArgs false
namespace Go.Proofs.YtbmeoklmachjpaaGreatDoor
open Go.RowKit
/-- the boxes of a law's code and call, and what they read as -/
def StIn (bk:Nat) (c0 c2 x1:Value) (g:Int) (xp:ByteArray) (c:Cod) (x:Cal) (V:World):Prop:=
 Cells V bk [c0,.int .i64 g,c2]∧Cells V (bk+1) [.string xp,x1]∧CodV bk V (.agg #[c0,.int .i64 g,c2]) c∧CalV bk V (.agg #[.string xp,x1]) x∧Laid V∧bk+1<V.heap.size
theorem StIn.keep {bk:Nat} {c0 c2 x1:Value} {g:Int} {xp:ByteArray} {c:Cod} {x:Cal} {V V':World} (h:StIn bk c0 c2 x1 g xp c x V) (hb:Below V.heap.size V V'):StIn bk c0 c2 x1 g xp c x V':=by
 obtain ⟨h1,h3,h4,h6,h7,h8⟩:=h
 have hm:Below bk V V':=hb.mono (by omega)
 exact ⟨h1.keep hb,h3.keep hb,h4.below hm,h6.below hm,h7.below hb,by have:=hb.size;omega⟩
theorem stIn_start {w:World} {c0 c2 x1:Value} {g:Int} {xp:ByteArray} {c:Cod} {x:Cal} {T1 T3:TypeId} (hL:Laid w) (hc:CodV w.heap.size w (.agg #[c0,.int .i64 g,c2]) c) (hx:CalV w.heap.size w (.agg #[.string xp,x1]) x) :
  StIn w.heap.size c0 c2 x1 g xp c x ((w.alloc (.cells #[c0,.int .i64 g,c2] T1)).alloc (.cells #[.string xp,x1] T3)):=by
 have hb:Below w.heap.size w ((w.alloc (.cells #[c0,.int .i64 g,c2] T1)).alloc (.cells #[.string xp,x1] T3)):=(below_alloc _ _).then (below_alloc _ _)
 exact ⟨cells_new.alloc _,cells_next15,hc.below hb,hx.below hb,hL.below hb,by simp⟩
theorem vmStarts_walk (hp:PlayAny) (c:Cod) (x:Cal) (fuel:Int) (cv xv:Value) (w:World) (hL:Laid w) (hc:CodV w.heap.size w cv c) (hx:CalV w.heap.size w xv x) :
  Calls Tryz.prog 3 #[cv,xv,.int .i64 fuel] w (fun e w'=>e=.returned (.bool true)∧Below w.heap.size w w'):=by
 obtain ⟨cf,cg,hcv,hcf,hcg,hg64⟩:=hc
 have hc:CodV w.heap.size w (.agg #[cf,.int .i64 c.globals,cg]) c:=⟨cf,cg,rfl,hcf,hcg,hg64⟩
 obtain ⟨fa,fc,rfl⟩:=hcf.form
 obtain ⟨ga,gc,rfl⟩:=hcg.form
 obtain ⟨xg,hxv,hxg,hx47⟩:=hx
 have hx:CalV w.heap.size w (.agg #[.string x.proc,xg]) x:=⟨xg,rfl,hxg,hx47⟩
 obtain ⟨xa,xc,rfl⟩:=hxg.form
 have hI:=@stIn_start w _ _ _ _ _ c x 25 27 hL hc hx
 subst hcv hxv
 obtain ⟨cfn,hcfn⟩:∃ n,n=c.fields.length:=⟨_,rfl⟩
 obtain ⟨cgn,hcgn⟩:∃ n,n=c.funcs.length:=⟨_,rfl⟩
 obtain ⟨xan,hxan⟩:∃ n,n=x.args.length:=⟨_,rfl⟩
 obtain ⟨cgl,hcgl⟩:∃ n,n=c.globals:=⟨_,rfl⟩
 obtain ⟨xpr,hxpr⟩:∃ n,n=x.proc:=⟨_,rfl⟩
 rw [←hcfn,← hcgn,← hxan,← hcgl,← hxpr] at hI ⊢
 have HP:=Lh hp
 clear hcf hcg hxg hcfn hcgn hxan hcgl hxpr hL hc hx hp hg64 hx47
 obtain ⟨W,hW⟩:∃ W,W=(w.alloc (.cells #[.slice fa cfn fc,.int .i64 cgl,.slice ga cgn gc] 25)).alloc (.cells #[.string xpr,.slice xa xan xc] 27):=⟨_,rfl⟩
 have HW:Hid (Below w.heap.size w W):=by rw [hW];exact Lh ((below_alloc _ _).then (below_alloc _ _))
 rw [←hW] at hI
 have HI:=Lh hI
 clear hI
 go_enter Tryz.func3,Tryz.ntmps3
 go_wp2_with fail
 rw [←hW]
 clear hW
 refine (awake_any HP.out W HI.out.2.2.2.2.1).mono ?_
 rintro e w1 ⟨rfl,hb1⟩
 have HI:=Lh (HI.out.keep hb1)
 have HB1:=Lh (HW.out.then hb1)
 clear hb1 HW
 have q0:=HI.out.1 0 _ rfl
 have q1:=HI.out.1 1 _ rfl
 have q2:=HI.out.1 2 _ rfl
 go_wp2_with fail
 clear q0 q1 q2
 refine (few_any c _ w.heap.size w1 (by have:=HI.out.2.2.2.2.2;omega) HI.out.2.2.1).mono ?_
 rintro e w2 ⟨r1,rfl,hsm,hb2⟩
 have HI:=Lh (HI.out.keep hb2)
 have HB2:=Lh (HB1.out.then hb2)
 have HSM:=Lh hsm
 clear hb2 HB1 hsm
 cases r1 with
 | false=>
  go_wp2_with fail
  refine (awake_any HP.out _ HI.out.2.2.2.2.1).mono ?_
  rintro e w3 ⟨rfl,hb3⟩
  have HB3:=Lh (HB2.out.then hb3)
  clear hb3
  go_wp2_with fail
  go_ret
  exact ⟨rfl,HB3.out⟩
 | true=>
 have HS:Hid (Small c):=Lh (fun y hy=>by have:=HSM.out rfl y hy;omega)
 clear HSM
 have q0:=HI.out.2.1 0 _ rfl
 have q1:=HI.out.2.1 1 _ rfl
 go_wp2_with fail
 clear q0 q1
 refine (callL_any x _ w.heap.size w2 HI.out.2.2.2.1).mono ?_
 rintro e w3 ⟨r2,rfl,hb3⟩
 have HI:=Lh (HI.out.keep hb3)
 have HB3:=Lh (HB2.out.then hb3)
 clear hb3 HB2
 cases r2 with
 | false=>
  go_wp2_with fail
  refine (awake_any HP.out _ HI.out.2.2.2.2.1).mono ?_
  rintro e w4 ⟨rfl,hb4⟩
  have HB4:=Lh (HB3.out.then hb4)
  clear hb4
  go_wp2_with fail
  go_ret
  exact ⟨rfl,HB4.out⟩
 | true=>
 by_cases h6:60<fuel∧fuel≤1048576
 ·have e1:decide (60<fuel)=true:=by simp;omega
  have e2:decide (fuel≤1048576)=true:=by simp;omega
  clear h6
  go_wp2_with fail
  refine (awake_any HP.out _ HI.out.2.2.2.2.1).mono ?_
  rintro e w4 ⟨rfl,hb4⟩
  have HB4:=Lh (HB3.out.then hb4)
  clear hb4
  go_wp2_with fail
  go_ret
  exact ⟨rfl,HB4.out⟩
 have q0:=HI.out.1 0 _ rfl
 have q1:=HI.out.1 1 _ rfl
 have q2:=HI.out.1 2 _ rfl
 have q5:=HI.out.2.1 0 _ rfl
 have q6:=HI.out.2.1 1 _ rfl
 have hWs:w.heap.size≤w3.heap.size:=by have:=HI.out.2.2.2.2.2;omega
 rcases (show decide (60<fuel)=false∨(decide (60<fuel)=true∧decide (fuel≤1048576)=false) by
  by_cases h:60<fuel
  ·right;simp;omega
  ·left;simp;omega) with e1|⟨e1,e2⟩
 all_goals
  clear h6
  go_wp2_with fail
  clear q0 q1 q2 q5 q6 e1
  refine (Start_any c x fuel _ _ w.heap.size w3 HI.out.2.2.2.2.1 hWs HI.out.2.2.1 HI.out.2.2.2.1 HS.out).mono ?_
  rintro e w4 (⟨hns,rfl,hb4⟩|⟨hs,⟨hg0,rfl,hb4⟩|⟨hg0,m',fv,hR,rfl,hN⟩⟩)
  ·have HNS:=Lh hns
   unfold machV machCells zeroM
   dsimp only
   obtain ⟨A4,hA4⟩:∃ V,V=w4.alloc (.cells #[.slice none 0 0,.int .i64 0,.int .i64 0,.int .i64 0,.int .i64 0,.int .i64 0,.int .i64 0,.int .i64 0,.int .i64 0] 36):=⟨_,rfl⟩
   have hAb4:Below w4.heap.size w4 A4:=by rw [hA4];exact below_alloc _ _
   have HK4:Hid (Cells A4 w4.heap.size (#[.slice none 0 0,.int .i64 0,.int .i64 0,.int .i64 0,.int .i64 0,.int .i64 0,.int .i64 0,.int .i64 0,.int .i64 0]:Array Value).toList):=by rw [hA4];exact Lh cells_new
   have HI:=Lh (HI.out.keep (hb4.then hAb4))
   have HB4:=Lh ((HB3.out.then hb4).then hAb4)
   obtain ⟨b4,hb4k⟩:∃ n,n=w4.heap.size:=⟨_,rfl⟩
   go_upto_region 4 with fail
   rw [←hA4,← hb4k]
   rw [←hb4k] at HK4
   clear hA4 hAb4 hb4k
   have q0:=HI.out.1 0 _ rfl
   have q1:=HI.out.1 1 _ rfl
   have q2:=HI.out.1 2 _ rfl
   have hWs4:w.heap.size≤A4.heap.size:=by have:=HI.out.2.2.2.2.2;omega
   go_wp2_with fail
   clear q0 q1 q2
   refine (rsound_any c _ w.heap.size A4 hWs4 HI.out.2.2.1).mono ?_
   rintro e w5 ⟨rfl,hb5⟩
   have HI:=Lh (HI.out.keep hb5)
   have HK4:=Lh (HK4.out.keep hb5)
   have HB5:=Lh (HB4.out.then hb5)
   clear hb5
   clear hb4 hns
   rw [soundB_no HNS.out]
   have k0:=HK4.out 0 _ rfl
   have k1:=HK4.out 1 _ rfl
   have k2:=HK4.out 2 _ rfl
   have k3:=HK4.out 3 _ rfl
   have k4:=HK4.out 4 _ rfl
   have k5:=HK4.out 5 _ rfl
   have k6:=HK4.out 6 _ rfl
   have k7:=HK4.out 7 _ rfl
   have k8:=HK4.out 8 _ rfl
   have zk:=Bl k0
   go_wp2_with fail
   clear k0 k1 k2 k3 k4 k5 k6 k7 k8 zk
   refine (none_any _).mono ?_
   rintro e w6 ⟨rfl,hb6⟩
   have HB6:=Lh (HB5.out.then hb6)
   clear hb6
   go_wp2_with fail
   go_ret
   exact ⟨rfl,HB6.out⟩
  ·have HSO:=Lh hs
   obtain ⟨ge,hge⟩:∃ q,q=givenE c x fuel:=⟨_,rfl⟩
   rw [←hge] at hg0 ⊢
   have HGE:=Lh hge
   have e3:(ge != 0)=true:=by simpa using hg0
   have e4:(ge == 0)=false:=by simpa using hg0
   unfold machV machCells zeroM
   dsimp only
   clear hge hg0
   obtain ⟨A4,hA4⟩:∃ V,V=w4.alloc (.cells #[.slice none 0 0,.int .i64 0,.int .i64 0,.int .i64 0,.int .i64 0,.int .i64 0,.int .i64 0,.int .i64 0,.int .i64 0] 36):=⟨_,rfl⟩
   have hAb4:Below w4.heap.size w4 A4:=by rw [hA4];exact below_alloc _ _
   have HK4:Hid (Cells A4 w4.heap.size (#[.slice none 0 0,.int .i64 0,.int .i64 0,.int .i64 0,.int .i64 0,.int .i64 0,.int .i64 0,.int .i64 0,.int .i64 0]:Array Value).toList):=by rw [hA4];exact Lh cells_new
   have HI:=Lh (HI.out.keep (hb4.then hAb4))
   have HB4:=Lh ((HB3.out.then hb4).then hAb4)
   obtain ⟨b4,hb4k⟩:∃ n,n=w4.heap.size:=⟨_,rfl⟩
   go_upto_region 4 with fail
   rw [←hA4,← hb4k]
   rw [←hb4k] at HK4
   clear hA4 hAb4 hb4k
   have q0:=HI.out.1 0 _ rfl
   have q1:=HI.out.1 1 _ rfl
   have q2:=HI.out.1 2 _ rfl
   have hWs4:w.heap.size≤A4.heap.size:=by have:=HI.out.2.2.2.2.2;omega
   go_wp2_with fail
   clear q0 q1 q2
   refine (rsound_any c _ w.heap.size A4 hWs4 HI.out.2.2.1).mono ?_
   rintro e w5 ⟨rfl,hb5⟩
   have HI:=Lh (HI.out.keep hb5)
   have HK4:=Lh (HK4.out.keep hb5)
   have HB5:=Lh (HB4.out.then hb5)
   clear hb5
   clear hb4 hs
   rw [soundB_yes HSO.out]
   have q0:=HI.out.1 0 _ rfl
   have q1:=HI.out.1 1 _ rfl
   have q2:=HI.out.1 2 _ rfl
   have q5:=HI.out.2.1 0 _ rfl
   have q6:=HI.out.2.1 1 _ rfl
   have hWs5:w.heap.size≤w5.heap.size:=by have:=HI.out.2.2.2.2.2;omega
   go_wp2_with fail
   clear q0 q1 q2 q5 q6
   refine (rgiven_any c _ x _ fuel w.heap.size w5 hWs5 HI.out.2.2.1 HI.out.2.2.2.1).mono ?_
   rintro e w6 ⟨rfl,hb6⟩
   have HI:=Lh (HI.out.keep hb6)
   have HK4:=Lh (HK4.out.keep hb6)
   have HB6:=Lh (HB5.out.then hb6)
   clear hb6
   rw [←HGE.out]
   have k0:=HK4.out 0 _ rfl
   have k1:=HK4.out 1 _ rfl
   have k2:=HK4.out 2 _ rfl
   have k3:=HK4.out 3 _ rfl
   have k4:=HK4.out 4 _ rfl
   have k5:=HK4.out 5 _ rfl
   have k6:=HK4.out 6 _ rfl
   have k7:=HK4.out 7 _ rfl
   have k8:=HK4.out 8 _ rfl
   have zk:=Bl k0
   go_wp2_with fail
   clear k0 k1 k2 k3 k4 k5 k6 k7 k8 zk
   refine (none_any _).mono ?_
   rintro e w7 ⟨rfl,hb7⟩
   have HB7:=Lh (HB6.out.then hb7)
   clear hb7
   go_wp2_with fail
   go_ret
   exact ⟨rfl,HB7.out⟩
  ·have HSO:=Lh hs
   have HG0:=Lh hg0
   have HR:=Lh hR
   have hmod:Modest m':=(startM_ends hs hg0 hR).1.modest hs HS.out
   have HMO:=Lh hmod
   obtain ⟨F4,hv4,hge4,hb4⟩:=hN
   obtain ⟨a4,c4,rfl⟩:=hv4.form
   have HS4:=Lh (hv4.reads hmod.1 hmod.2)
   obtain ⟨n4,hn4⟩:∃ q,q=m'.frames.length:=⟨_,rfl⟩
   rw [←hn4] at HS4 ⊢
   have HN4:=Lh hn4
   unfold machV machCells
   clear hv4 hge4 hmod hn4 hg0 hR
   obtain ⟨A4,hA4⟩:∃ V,V=w4.alloc (.cells #[.slice a4 n4 c4,.int .i64 m'.req.kind,.int .i64 m'.req.node,.int .i64 m'.req.field,.int .i64 m'.req.value,.int .i64 m'.req.fault,.int .i64 m'.fuel,.int .i64 m'.compares,.int .i64 m'.idle] 36):=⟨_,rfl⟩
   have hAb4:Below w4.heap.size w4 A4:=by rw [hA4];exact below_alloc _ _
   have HK4:Hid (Cells A4 w4.heap.size (#[.slice a4 n4 c4,.int .i64 m'.req.kind,.int .i64 m'.req.node,.int .i64 m'.req.field,.int .i64 m'.req.value,.int .i64 m'.req.fault,.int .i64 m'.fuel,.int .i64 m'.compares,.int .i64 m'.idle]:Array Value).toList):=by rw [hA4];exact Lh cells_new
   have HI:=Lh (HI.out.keep (hb4.then hAb4))
   have HB4:=Lh ((HB3.out.then hb4).then hAb4)
   obtain ⟨b4,hb4k⟩:∃ n,n=w4.heap.size:=⟨_,rfl⟩
   go_upto_region 4 with fail
   rw [←hA4,← hb4k]
   rw [←hb4k] at HK4
   have HS4:=Lh ((HS4.out.fras hAb4).up hAb4.size (fun _ _ _ h=>h.up hAb4.size))
   clear hA4 hAb4 hb4k
   have q0:=HI.out.1 0 _ rfl
   have q1:=HI.out.1 1 _ rfl
   have q2:=HI.out.1 2 _ rfl
   have hWs4:w.heap.size≤A4.heap.size:=by have:=HI.out.2.2.2.2.2;omega
   go_wp2_with fail
   clear q0 q1 q2
   refine (rsound_any c _ w.heap.size A4 hWs4 HI.out.2.2.1).mono ?_
   rintro e w5 ⟨rfl,hb5⟩
   have HI:=Lh (HI.out.keep hb5)
   have HK4:=Lh (HK4.out.keep hb5)
   have HB5:=Lh (HB4.out.then hb5)
   have HS4:=Lh ((HS4.out.fras hb5).up hb5.size (fun _ _ _ h=>h.up hb5.size))
   clear hb5
   clear hb4 hs
   rw [soundB_yes HSO.out]
   have q0:=HI.out.1 0 _ rfl
   have q1:=HI.out.1 1 _ rfl
   have q2:=HI.out.1 2 _ rfl
   have q5:=HI.out.2.1 0 _ rfl
   have q6:=HI.out.2.1 1 _ rfl
   have hWs5:w.heap.size≤w5.heap.size:=by have:=HI.out.2.2.2.2.2;omega
   go_wp2_with fail
   clear q0 q1 q2 q5 q6
   refine (rgiven_any c _ x _ fuel w.heap.size w5 hWs5 HI.out.2.2.1 HI.out.2.2.2.1).mono ?_
   rintro e w6 ⟨rfl,hb6⟩
   have HI:=Lh (HI.out.keep hb6)
   have HK4:=Lh (HK4.out.keep hb6)
   have HB6:=Lh (HB5.out.then hb6)
   have HS4:=Lh ((HS4.out.fras hb6).up hb6.size (fun _ _ _ h=>h.up hb6.size))
   clear hb6
   rw [HG0.out]
   have k0:=HK4.out 0 _ rfl
   have k1:=HK4.out 1 _ rfl
   have k2:=HK4.out 2 _ rfl
   have k3:=HK4.out 3 _ rfl
   have k4:=HK4.out 4 _ rfl
   have k5:=HK4.out 5 _ rfl
   have k6:=HK4.out 6 _ rfl
   have k7:=HK4.out 7 _ rfl
   have k8:=HK4.out 8 _ rfl
   have zk:=Bl k0
   have q0:=HI.out.1 0 _ rfl
   have q1:=HI.out.1 1 _ rfl
   have q2:=HI.out.1 2 _ rfl
   have q5:=HI.out.2.1 0 _ rfl
   have q6:=HI.out.2.1 1 _ rfl
   have hWs6:w.heap.size≤w6.drew.heap.size:=by have:=HI.out.2.2.2.2.2;show w.heap.size≤w6.heap.size;omega
   have HCd:=Lh (HI.out.2.2.1.below (bdrew (Below.refl w.heap.size w6) 1))
   have HXd:=Lh (HI.out.2.2.2.1.below (bdrew (Below.refl w.heap.size w6) 1))
   go_upto_region 9 with fail
   go_region_held3 (fun V=>V.cell? ⟨b4,0,none⟩=some (.slice a4 n4 c4)∧V.cell? ⟨b4,1,none⟩=some (.int .i64 m'.req.kind)∧V.cell? ⟨b4,2,none⟩=some (.int .i64 m'.req.node)∧V.cell? ⟨b4,3,none⟩=some (.int .i64 m'.req.field)∧V.cell? ⟨b4,4,none⟩=some (.int .i64 m'.req.value)∧V.cell? ⟨b4,5,none⟩=some (.int .i64 m'.req.fault)∧V.cell? ⟨b4,6,none⟩=some (.int .i64 m'.fuel)∧V.cell? ⟨b4,7,none⟩=some (.int .i64 m'.compares)∧V.cell? ⟨b4,8,none⟩=some (.int .i64 m'.idle)∧V.cell? ⟨w.heap.size,0,none⟩=some (.slice fa cfn fc)∧V.cell? ⟨w.heap.size,1,none⟩=some (.int .i64 cgl)∧V.cell? ⟨w.heap.size,2,none⟩=some (.slice ga cgn gc)∧V.cell? ⟨w.heap.size+1,0,none⟩=some (.string xpr)∧V.cell? ⟨w.heap.size+1,1,none⟩=some (.slice xa xan xc))
    (first|with_reducible exact ⟨l0,l1,l2,l3,l4,l5,l6,l7,l8,u0,u1,u2,u5,u6⟩|with_reducible exact ⟨j0,j1,j2,j3,j4,j5,j6,j7,j8,v0,v1,v2,v5,v6⟩|exact ⟨k0,k1,k2,k3,k4,k5,k6,k7,k8,q0,q1,q2,q5,q6⟩)
    (first
     | (go_at_call 14;refine (rstart_any c _ x _ fuel w.heap.size w6.drew hWs6 HCd.out HXd.out HSO.out HS.out HG0.out).mono ?_;rintro e w7 ⟨m2,fv2,hR2,rfl,hN2⟩;obtain rfl:=runs_det hR2 HR.out;obtain ⟨F7,hv7,hge7,hb7⟩:=hN2;obtain ⟨a7,c7,rfl⟩:=hv7.form;have HS7:=Lh (hv7.reads HMO.out.1 HMO.out.2);have hb67:Below w6.heap.size w6 w7:=(bdrew (Below.refl _ _) 1).trans hb7;have HS47:=Lh ((HS4.out.fras hb67).up hb67.size (fun _ _ _ h=>h.up hb67.size));have j0:=keepC hb67 k0;have j1:=keepC hb67 k1;have j2:=keepC hb67 k2;have j3:=keepC hb67 k3;have j4:=keepC hb67 k4;have j5:=keepC hb67 k5;have j6:=keepC hb67 k6;have j7:=keepC hb67 k7;have j8:=keepC hb67 k8;have v0:=keepC hb67 q0;have v1:=keepC hb67 q1;have v2:=keepC hb67 q2;have v5:=keepC hb67 q5;have v6:=keepC hb67 q6;have HB7:=Lh (HB6.out.then hb67);clear hR2 hv7 hge7 hb7 hb67;unfold machV machCells;rw [←HN4.out] at HS7 ⊢)
     | (go_at_call 13;refine (Same_eq m2 (.slice a4 n4 c4) (.slice a7 n4 c7) w7.heap.size w7.heap.size w7 (Nat.le_refl _) (Nat.le_refl _) HS47.out HS7.out).mono ?_;rintro e w8 ⟨rfl,hb8⟩;have l0:=keepC hb8 j0;have l1:=keepC hb8 j1;have l2:=keepC hb8 j2;have l3:=keepC hb8 j3;have l4:=keepC hb8 j4;have l5:=keepC hb8 j5;have l6:=keepC hb8 j6;have l7:=keepC hb8 j7;have l8:=keepC hb8 j8;have u0:=keepC hb8 v0;have u1:=keepC hb8 v1;have u2:=keepC hb8 v2;have u5:=keepC hb8 v5;have u6:=keepC hb8 v6;have HB8:=Lh (HB7.out.then hb8);clear hb8))
   all_goals
    go_wp2_with fail
    go_ret
    exact ⟨rfl,HB8.out⟩
end Go.Proofs.YtbmeoklmachjpaaGreatDoor
