/- The contract of the reference's step: to which function it goes; the instructions with two values. MADE BY wip/gen_rx.py -/
import Derived.Test.YtbmeoklmachjpaaGreatDoorRu
import Derived.Test.YtbmeoklmachjpaaGreatDoorRa
import Derived.Deep.RegionHeld3
import Derived.Deep.RegionWith
set_option maxHeartbeats 2000000
set_option maxRecDepth 100000
set_option linter.unusedVariables false
set_option linter.unusedSimpArgs false
namespace Go.Proofs.YtbmeoklmachjpaaGreatDoor
open Go.RowKit
theorem Xd5 {w:World} {bm fb cap:Nat} {cur:Array Value} {cs:List Value} {fs:List Fra} {f:Fra} {lv sv:Value} {m:Mch} {Fi Fl Fs:List Nat} (h:Xk w bm fb cap cur cs fs f lv sv m Fi Fl Fs) :
  Z9 w (.slice (some ⟨fb,0,none⟩) (fs.length+1) cap) (fs++[f]) (fb::(Fi++(Fl++Fs))):=by
 obtain ⟨F0,h9,hv9,e,hn⟩:=Vz ((h.reframe (fs++[f])).own rfl) h.cFrames
 rw [(List.cons.inj e).2];exact hv9
theorem Ke {w:World} {m m':Mch} {F:List Nat} (a fa ga:Option Addr) (n c0n fn fc gn gc:Nat) (g op xa:Int) (hF:∀ b∈F,b<w.heap.size) (HA:Hid (Kx op=true))
  (hcall:∀ W,Below w.heap.size w W→Calls Tryz.prog 97 #[Xi (.slice a n c0n) m,.agg #[.int .i64 op,.int .i64 xa]] W (Qh W F m')) :
  Calls Tryz.prog 71 #[.agg #[.slice fa fn fc,.int .i64 g,.slice ga gn gc],Xi (.slice a n c0n) m,.agg #[.int .i64 op,.int .i64 xa]] w (Qh w F m'):=by
 have HF:=Lh hF
 have HC:=Lh hcall
 obtain ⟨W,hW⟩:∃ W,W=(((w.alloc (.cells #[.slice fa fn fc,.int .i64 g,.slice ga gn gc] 25)).alloc (.cells (Xb (.slice a n c0n) m) 36)).alloc (.cells #[.int .i64 op,.int .i64 xa] 100)).alloc (.cells (Xb (.slice none 0 0) Xl) 36):=⟨_,rfl⟩
 have hWb:Hid (Below w.heap.size w W):=by rw [hW];exact Lh ((((Xa _ _).then (Xa _ _)).then (Xa _ _)).then (Xa _ _))
 have hsz:Hid (W.heap.size=w.heap.size+4):=by rw [hW];exact Lh (by simp)
 have b0:Xo W w.heap.size [.slice fa fn fc,.int .i64 g,.slice ga gn gc]:=by rw [hW];exact ((Xd.alloc _).alloc _).alloc _
 have b1:W.heap[w.heap.size+1]?=some (.cells (Xb (.slice a n c0n) m) 36 (0,0)):=by
  rw [hW,Below.heap_alloc _ _ _ (by simp),Below.heap_alloc _ _ _ (by simp)]
  have:=heap_alloc_new (w.alloc (.cells #[.slice fa fn fc,.int .i64 g,.slice ga gn gc] 25)) (.cells (Xb (.slice a n c0n) m) 36)
  simpa using this
 have b2:Hid (Xo W (w.heap.size+1+1) [.int .i64 op,.int .i64 xa]):=by
  rw [hW]
  have:=(@Xd ((w.alloc (.cells #[.slice fa fn fc,.int .i64 g,.slice ga gn gc] 25)).alloc (.cells (Xb (.slice a n c0n) m) 36)) #[.int .i64 op,.int .i64 xa] 100).alloc (.cells (Xb (.slice none 0 0) Xl) 36)
  exact Lh (by simpa using this)
 have b3:W.heap[w.heap.size+1+1+1]?=some (.cells (Xb (.slice none 0 0) Xl) 36 (0,0)):=by
  rw [hW]
  have:=heap_alloc_new (((w.alloc (.cells #[.slice fa fn fc,.int .i64 g,.slice ga gn gc] 25)).alloc (.cells (Xb (.slice a n c0n) m) 36)).alloc (.cells #[.int .i64 op,.int .i64 xa] 100)) (.cells (Xb (.slice none 0 0) Xl) 36)
  simpa using this
 obtain ⟨k0,k1,k2,k3,k4,k5,k6,k7,k8⟩:=Xq b1
 have z1:=(La b1)
 have c0:=b0 0 _ rfl
 have c1:=b0 1 _ rfl
 have c2:=b0 2 _ rfl
 have i0:=b2.out 0 _ rfl
 have i1:=b2.out 1 _ rfl
 have z0:=Bl c0
 have z2:=Bl i0
 have B3:=Lh b3
 clear b0 b1 b3 hF hcall
 unfold Xi
 unfold Xb Xl at hW
 unfold Xb
 dsimp only at hW ⊢
 go_enter Tryz.func71,Tryz.ntmps71
 go_upto_region 1 with fail
 rw [←hW]
 have HW:=Lh hW
 clear hW
 go_wp2_with fail
 refine (J7 op _).mono ?_
 rintro e w' ⟨rfl,rfl⟩
 rw [HA.out]
 go_wp2_with fail
 refine (HC.out W hWb.out).mono ?_
 rintro e w9 ⟨fv9,F9,rfl,hV9,hM9⟩
 obtain ⟨a9,c9,rfl⟩:=hV9.form
 obtain ⟨t1,t2,t3⟩:=J2 (R:=w.heap.size+1+1+1) (bm:=w.heap.size+1) hWb.out hV9 (hM9.wide (F:=(w.heap.size+1)::F) (F':=F9) (fun b hb=>List.mem_cons_of_mem _ hb) (fun b hb=>.inl hb)) (fun b hb=>hb) HF.out (by omega) (by omega) (by omega) (by have:=hsz.out;omega) B3.out
 obtain ⟨m9n,hm9n⟩:∃ q,q=m'.frames.length:=⟨_,rfl⟩
 rw [←hm9n] at t2 t3 ⊢
 have HM9N:=Lh hm9n
 have Q2:=Lh t2
 have Q3:=Lh t3
 obtain ⟨r0,r1,r2,r3,r4,r5,r6,r7,r8⟩:=Xq t1
 obtain ⟨q0,q1,q2,q3,q4,q5,q6,q7,q8⟩:=Xu t1
 have y2:=(La t1)
 clear t1 t2 t3
 clear hV9 hM9 hm9n
 clear k0 k1 k2 k3 k4 k5 k6 k7 k8 z1 c0 c1 c2 i0 i1 z0 z2
 unfold Xi Xb
 go_wp2_with fail
 exact bodyPost_ret (v:=Xi (.slice a9 m9n c9) m') (Xn (p:=6) rfl Q2.out _ rfl) rfl Q3.out
theorem Xi3 {w:World} {m m':Mch} {F:List Nat} (a fa ga:Option Addr) (n c0n fn fc gn gc:Nat) (g op xa:Int) (hF:∀ b∈F,b<w.heap.size) (HA:Hid (Kx op=false)) (e9:(op == 9)=true)
  (hcall:∀ W,Below w.heap.size w W→Calls Tryz.prog 98 #[.agg #[.slice fa fn fc,.int .i64 g,.slice ga gn gc],Xi (.slice a n c0n) m,.int .i64 xa] W (Qh W F m')) :
  Calls Tryz.prog 71 #[.agg #[.slice fa fn fc,.int .i64 g,.slice ga gn gc],Xi (.slice a n c0n) m,.agg #[.int .i64 op,.int .i64 xa]] w (Qh w F m'):=by
 have HF:=Lh hF
 have HC:=Lh hcall
 obtain ⟨W,hW⟩:∃ W,W=(((w.alloc (.cells #[.slice fa fn fc,.int .i64 g,.slice ga gn gc] 25)).alloc (.cells (Xb (.slice a n c0n) m) 36)).alloc (.cells #[.int .i64 op,.int .i64 xa] 100)).alloc (.cells (Xb (.slice none 0 0) Xl) 36):=⟨_,rfl⟩
 have hWb:Hid (Below w.heap.size w W):=by rw [hW];exact Lh ((((Xa _ _).then (Xa _ _)).then (Xa _ _)).then (Xa _ _))
 have hsz:Hid (W.heap.size=w.heap.size+4):=by rw [hW];exact Lh (by simp)
 have b0:Xo W w.heap.size [.slice fa fn fc,.int .i64 g,.slice ga gn gc]:=by rw [hW];exact ((Xd.alloc _).alloc _).alloc _
 have b1:W.heap[w.heap.size+1]?=some (.cells (Xb (.slice a n c0n) m) 36 (0,0)):=by
  rw [hW,Below.heap_alloc _ _ _ (by simp),Below.heap_alloc _ _ _ (by simp)]
  have:=heap_alloc_new (w.alloc (.cells #[.slice fa fn fc,.int .i64 g,.slice ga gn gc] 25)) (.cells (Xb (.slice a n c0n) m) 36)
  simpa using this
 have b2:Hid (Xo W (w.heap.size+1+1) [.int .i64 op,.int .i64 xa]):=by
  rw [hW]
  have:=(@Xd ((w.alloc (.cells #[.slice fa fn fc,.int .i64 g,.slice ga gn gc] 25)).alloc (.cells (Xb (.slice a n c0n) m) 36)) #[.int .i64 op,.int .i64 xa] 100).alloc (.cells (Xb (.slice none 0 0) Xl) 36)
  exact Lh (by simpa using this)
 have b3:W.heap[w.heap.size+1+1+1]?=some (.cells (Xb (.slice none 0 0) Xl) 36 (0,0)):=by
  rw [hW]
  have:=heap_alloc_new (((w.alloc (.cells #[.slice fa fn fc,.int .i64 g,.slice ga gn gc] 25)).alloc (.cells (Xb (.slice a n c0n) m) 36)).alloc (.cells #[.int .i64 op,.int .i64 xa] 100)) (.cells (Xb (.slice none 0 0) Xl) 36)
  simpa using this
 obtain ⟨k0,k1,k2,k3,k4,k5,k6,k7,k8⟩:=Xq b1
 have z1:=(La b1)
 have c0:=b0 0 _ rfl
 have c1:=b0 1 _ rfl
 have c2:=b0 2 _ rfl
 have i0:=b2.out 0 _ rfl
 have i1:=b2.out 1 _ rfl
 have z0:=Bl c0
 have z2:=Bl i0
 have B3:=Lh b3
 clear b0 b1 b3 hF hcall
 unfold Xi
 unfold Xb Xl at hW
 unfold Xb
 dsimp only at hW ⊢
 go_enter Tryz.func71,Tryz.ntmps71
 go_upto_region 1 with fail
 rw [←hW]
 have HW:=Lh hW
 clear hW
 go_wp2_with fail
 refine (J7 op _).mono ?_
 rintro e w' ⟨rfl,rfl⟩
 rw [HA.out]
 go_wp2_with fail
 refine (HC.out W hWb.out).mono ?_
 rintro e w9 ⟨fv9,F9,rfl,hV9,hM9⟩
 obtain ⟨a9,c9,rfl⟩:=hV9.form
 obtain ⟨t1,t2,t3⟩:=J2 (R:=w.heap.size+1+1+1) (bm:=w.heap.size+1) hWb.out hV9 (hM9.wide (F:=(w.heap.size+1)::F) (F':=F9) (fun b hb=>List.mem_cons_of_mem _ hb) (fun b hb=>.inl hb)) (fun b hb=>hb) HF.out (by omega) (by omega) (by omega) (by have:=hsz.out;omega) B3.out
 obtain ⟨m9n,hm9n⟩:∃ q,q=m'.frames.length:=⟨_,rfl⟩
 rw [←hm9n] at t2 t3 ⊢
 have HM9N:=Lh hm9n
 have Q2:=Lh t2
 have Q3:=Lh t3
 obtain ⟨r0,r1,r2,r3,r4,r5,r6,r7,r8⟩:=Xq t1
 obtain ⟨q0,q1,q2,q3,q4,q5,q6,q7,q8⟩:=Xu t1
 have y2:=(La t1)
 clear t1 t2 t3
 clear hV9 hM9 hm9n
 clear k0 k1 k2 k3 k4 k5 k6 k7 k8 z1 c0 c1 c2 i0 i1 z0 z2
 unfold Xi Xb
 go_wp2_with fail
 exact bodyPost_ret (v:=Xi (.slice a9 m9n c9) m') (Xn (p:=6) rfl Q2.out _ rfl) rfl Q3.out
theorem Xjd {w:World} {m m':Mch} {F:List Nat} (a fa ga:Option Addr) (n c0n fn fc gn gc:Nat) (g op xa:Int) (hF:∀ b∈F,b<w.heap.size) (HA:Hid (Kx op=false)) (e9:(op == 9)=false) (e10:(op == 10)=true)
  (hcall:∀ W,Below w.heap.size w W→Calls Tryz.prog 99 #[.agg #[.slice fa fn fc,.int .i64 g,.slice ga gn gc],Xi (.slice a n c0n) m] W (Qh W F m')) :
  Calls Tryz.prog 71 #[.agg #[.slice fa fn fc,.int .i64 g,.slice ga gn gc],Xi (.slice a n c0n) m,.agg #[.int .i64 op,.int .i64 xa]] w (Qh w F m'):=by
 have HF:=Lh hF
 have HC:=Lh hcall
 obtain ⟨W,hW⟩:∃ W,W=(((w.alloc (.cells #[.slice fa fn fc,.int .i64 g,.slice ga gn gc] 25)).alloc (.cells (Xb (.slice a n c0n) m) 36)).alloc (.cells #[.int .i64 op,.int .i64 xa] 100)).alloc (.cells (Xb (.slice none 0 0) Xl) 36):=⟨_,rfl⟩
 have hWb:Hid (Below w.heap.size w W):=by rw [hW];exact Lh ((((Xa _ _).then (Xa _ _)).then (Xa _ _)).then (Xa _ _))
 have hsz:Hid (W.heap.size=w.heap.size+4):=by rw [hW];exact Lh (by simp)
 have b0:Xo W w.heap.size [.slice fa fn fc,.int .i64 g,.slice ga gn gc]:=by rw [hW];exact ((Xd.alloc _).alloc _).alloc _
 have b1:W.heap[w.heap.size+1]?=some (.cells (Xb (.slice a n c0n) m) 36 (0,0)):=by
  rw [hW,Below.heap_alloc _ _ _ (by simp),Below.heap_alloc _ _ _ (by simp)]
  have:=heap_alloc_new (w.alloc (.cells #[.slice fa fn fc,.int .i64 g,.slice ga gn gc] 25)) (.cells (Xb (.slice a n c0n) m) 36)
  simpa using this
 have b2:Hid (Xo W (w.heap.size+1+1) [.int .i64 op,.int .i64 xa]):=by
  rw [hW]
  have:=(@Xd ((w.alloc (.cells #[.slice fa fn fc,.int .i64 g,.slice ga gn gc] 25)).alloc (.cells (Xb (.slice a n c0n) m) 36)) #[.int .i64 op,.int .i64 xa] 100).alloc (.cells (Xb (.slice none 0 0) Xl) 36)
  exact Lh (by simpa using this)
 have b3:W.heap[w.heap.size+1+1+1]?=some (.cells (Xb (.slice none 0 0) Xl) 36 (0,0)):=by
  rw [hW]
  have:=heap_alloc_new (((w.alloc (.cells #[.slice fa fn fc,.int .i64 g,.slice ga gn gc] 25)).alloc (.cells (Xb (.slice a n c0n) m) 36)).alloc (.cells #[.int .i64 op,.int .i64 xa] 100)) (.cells (Xb (.slice none 0 0) Xl) 36)
  simpa using this
 obtain ⟨k0,k1,k2,k3,k4,k5,k6,k7,k8⟩:=Xq b1
 have z1:=(La b1)
 have c0:=b0 0 _ rfl
 have c1:=b0 1 _ rfl
 have c2:=b0 2 _ rfl
 have i0:=b2.out 0 _ rfl
 have i1:=b2.out 1 _ rfl
 have z0:=Bl c0
 have z2:=Bl i0
 have B3:=Lh b3
 clear b0 b1 b3 hF hcall
 unfold Xi
 unfold Xb Xl at hW
 unfold Xb
 dsimp only at hW ⊢
 go_enter Tryz.func71,Tryz.ntmps71
 go_upto_region 1 with fail
 rw [←hW]
 have HW:=Lh hW
 clear hW
 go_wp2_with fail
 refine (J7 op _).mono ?_
 rintro e w' ⟨rfl,rfl⟩
 rw [HA.out]
 go_wp2_with fail
 refine (HC.out W hWb.out).mono ?_
 rintro e w9 ⟨fv9,F9,rfl,hV9,hM9⟩
 obtain ⟨a9,c9,rfl⟩:=hV9.form
 obtain ⟨t1,t2,t3⟩:=J2 (R:=w.heap.size+1+1+1) (bm:=w.heap.size+1) hWb.out hV9 (hM9.wide (F:=(w.heap.size+1)::F) (F':=F9) (fun b hb=>List.mem_cons_of_mem _ hb) (fun b hb=>.inl hb)) (fun b hb=>hb) HF.out (by omega) (by omega) (by omega) (by have:=hsz.out;omega) B3.out
 obtain ⟨m9n,hm9n⟩:∃ q,q=m'.frames.length:=⟨_,rfl⟩
 rw [←hm9n] at t2 t3 ⊢
 have HM9N:=Lh hm9n
 have Q2:=Lh t2
 have Q3:=Lh t3
 obtain ⟨r0,r1,r2,r3,r4,r5,r6,r7,r8⟩:=Xq t1
 obtain ⟨q0,q1,q2,q3,q4,q5,q6,q7,q8⟩:=Xu t1
 have y2:=(La t1)
 clear t1 t2 t3
 clear hV9 hM9 hm9n
 clear k0 k1 k2 k3 k4 k5 k6 k7 k8 z1 c0 c1 c2 i0 i1 z0 z2
 unfold Xi Xb
 go_wp2_with fail
 exact bodyPost_ret (v:=Xi (.slice a9 m9n c9) m') (Xn (p:=6) rfl Q2.out _ rfl) rfl Q3.out
theorem Yt {w:World} {m m':Mch} {F:List Nat} (a fa ga:Option Addr) (n c0n fn fc gn gc:Nat) (g op xa:Int) (hF:∀ b∈F,b<w.heap.size) (HA:Hid (Kx op=false)) (e9:(op == 9)=false) (e10:(op == 10)=false) (HT:Hid (decide (Ya op)=false))
  (hcall:∀ W,Below w.heap.size w W→Calls Tryz.prog 101 #[Xi (.slice a n c0n) m,.agg #[.int .i64 op,.int .i64 xa]] W (Qh W F m')) :
  Calls Tryz.prog 71 #[.agg #[.slice fa fn fc,.int .i64 g,.slice ga gn gc],Xi (.slice a n c0n) m,.agg #[.int .i64 op,.int .i64 xa]] w (Qh w F m'):=by
 have HF:=Lh hF
 have HC:=Lh hcall
 obtain ⟨W,hW⟩:∃ W,W=(((w.alloc (.cells #[.slice fa fn fc,.int .i64 g,.slice ga gn gc] 25)).alloc (.cells (Xb (.slice a n c0n) m) 36)).alloc (.cells #[.int .i64 op,.int .i64 xa] 100)).alloc (.cells (Xb (.slice none 0 0) Xl) 36):=⟨_,rfl⟩
 have hWb:Hid (Below w.heap.size w W):=by rw [hW];exact Lh ((((Xa _ _).then (Xa _ _)).then (Xa _ _)).then (Xa _ _))
 have hsz:Hid (W.heap.size=w.heap.size+4):=by rw [hW];exact Lh (by simp)
 have b0:Xo W w.heap.size [.slice fa fn fc,.int .i64 g,.slice ga gn gc]:=by rw [hW];exact ((Xd.alloc _).alloc _).alloc _
 have b1:W.heap[w.heap.size+1]?=some (.cells (Xb (.slice a n c0n) m) 36 (0,0)):=by
  rw [hW,Below.heap_alloc _ _ _ (by simp),Below.heap_alloc _ _ _ (by simp)]
  have:=heap_alloc_new (w.alloc (.cells #[.slice fa fn fc,.int .i64 g,.slice ga gn gc] 25)) (.cells (Xb (.slice a n c0n) m) 36)
  simpa using this
 have b2:Hid (Xo W (w.heap.size+1+1) [.int .i64 op,.int .i64 xa]):=by
  rw [hW]
  have:=(@Xd ((w.alloc (.cells #[.slice fa fn fc,.int .i64 g,.slice ga gn gc] 25)).alloc (.cells (Xb (.slice a n c0n) m) 36)) #[.int .i64 op,.int .i64 xa] 100).alloc (.cells (Xb (.slice none 0 0) Xl) 36)
  exact Lh (by simpa using this)
 have b3:W.heap[w.heap.size+1+1+1]?=some (.cells (Xb (.slice none 0 0) Xl) 36 (0,0)):=by
  rw [hW]
  have:=heap_alloc_new (((w.alloc (.cells #[.slice fa fn fc,.int .i64 g,.slice ga gn gc] 25)).alloc (.cells (Xb (.slice a n c0n) m) 36)).alloc (.cells #[.int .i64 op,.int .i64 xa] 100)) (.cells (Xb (.slice none 0 0) Xl) 36)
  simpa using this
 obtain ⟨k0,k1,k2,k3,k4,k5,k6,k7,k8⟩:=Xq b1
 have z1:=(La b1)
 have c0:=b0 0 _ rfl
 have c1:=b0 1 _ rfl
 have c2:=b0 2 _ rfl
 have i0:=b2.out 0 _ rfl
 have i1:=b2.out 1 _ rfl
 have z0:=Bl c0
 have z2:=Bl i0
 have B3:=Lh b3
 clear b0 b1 b3 hF hcall
 unfold Xi
 unfold Xb Xl at hW
 unfold Xb
 dsimp only at hW ⊢
 go_enter Tryz.func71,Tryz.ntmps71
 go_upto_region 1 with fail
 rw [←hW]
 have HW:=Lh hW
 clear hW
 go_wp2_with fail
 refine (J7 op _).mono ?_
 rintro e w' ⟨rfl,rfl⟩
 rw [HA.out]
 go_wp2_with fail
 refine (Xdy op _).mono ?_
 rintro e w' ⟨rfl,rfl⟩
 rw [HT.out]
 go_wp2_with fail
 refine (HC.out W hWb.out).mono ?_
 rintro e w9 ⟨fv9,F9,rfl,hV9,hM9⟩
 obtain ⟨a9,c9,rfl⟩:=hV9.form
 obtain ⟨t1,t2,t3⟩:=J2 (R:=w.heap.size+1+1+1) (bm:=w.heap.size+1) hWb.out hV9 (hM9.wide (F:=(w.heap.size+1)::F) (F':=F9) (fun b hb=>List.mem_cons_of_mem _ hb) (fun b hb=>.inl hb)) (fun b hb=>hb) HF.out (by omega) (by omega) (by omega) (by have:=hsz.out;omega) B3.out
 obtain ⟨m9n,hm9n⟩:∃ q,q=m'.frames.length:=⟨_,rfl⟩
 rw [←hm9n] at t2 t3 ⊢
 have HM9N:=Lh hm9n
 have Q2:=Lh t2
 have Q3:=Lh t3
 obtain ⟨r0,r1,r2,r3,r4,r5,r6,r7,r8⟩:=Xq t1
 obtain ⟨q0,q1,q2,q3,q4,q5,q6,q7,q8⟩:=Xu t1
 have y2:=(La t1)
 clear t1 t2 t3
 clear hV9 hM9 hm9n
 clear k0 k1 k2 k3 k4 k5 k6 k7 k8 z1 c0 c1 c2 i0 i1 z0 z2
 unfold Xi Xb
 go_wp2_with fail
 exact bodyPost_ret (v:=Xi (.slice a9 m9n c9) m') (Xn (p:=6) rfl Q2.out _ rfl) rfl Q3.out
theorem Xgb {w:World} {fv:Value} {m:Mch} {F:List Nat} {fs:List Fra} {f:Fra} (fa ga:Option Addr) (fn fc gn gc:Nat) (g op xa:Int) (h2:Ya op) (l:List Int) (u v:Int) (hst:f.stack=l++[u]++[v]) (hu:isV u) (hvv:isV v) (hE:¬Yb op u v=0) (hv:Z9 w fv m.frames F) (hm:m.frames=fs++[f]) (hn:fs.length≤199) (hsl:f.stack.length<1000000) :
  Calls Tryz.prog 71 #[.agg #[.slice fa fn fc,.int .i64 g,.slice ga gn gc],Xi fv m,.agg #[.int .i64 op,.int .i64 xa]] w (Qh w F { m with req:=X0 (Yb op u v),frames:=[] }):=by
 obtain ⟨fb,cap,cur,cs,lv,sv,Fi,Fl,Fs,rfl,rfl,hT⟩:=hv.top hm
 have HF:=Lh hv.lt
 have HS:=Lh hst
 have HE:=Lh hE
 have H2:=Lh h2
 have hop:=h2
 unfold Ya at hop
 have HA:Hid (Kx op=false):=Lh (by unfold Kx;simp;omega)
 have HT:Hid (decide (Ya op)=true):=Lh (by simp [h2])
 have e9:(op == 9)=false:=by simp;omega
 have e10:(op == 10)=false:=by simp;omega
 obtain ⟨W,hW⟩:∃ W,W=(((w.alloc (.cells #[.slice fa fn fc,.int .i64 g,.slice ga gn gc] 25)).alloc (.cells (Xb (.slice (some ⟨fb,0,none⟩) (fs.length+1) cap) m) 36)).alloc (.cells #[.int .i64 op,.int .i64 xa] 100)).alloc (.cells (Xb (.slice none 0 0) Xl) 36):=⟨_,rfl⟩
 have hWb:Hid (Below w.heap.size w W):=by rw [hW];exact Lh ((((Xa _ _).then (Xa _ _)).then (Xa _ _)).then (Xa _ _))
 have hsz:Hid (W.heap.size=w.heap.size+4):=by rw [hW];exact Lh (by simp)
 have b0:Xo W w.heap.size [.slice fa fn fc,.int .i64 g,.slice ga gn gc]:=by rw [hW];exact ((Xd.alloc _).alloc _).alloc _
 have b1:W.heap[w.heap.size+1]?=some (.cells (Xb (.slice (some ⟨fb,0,none⟩) (fs.length+1) cap) m) 36 (0,0)):=by
  rw [hW,Below.heap_alloc _ _ _ (by simp),Below.heap_alloc _ _ _ (by simp)]
  have:=heap_alloc_new (w.alloc (.cells #[.slice fa fn fc,.int .i64 g,.slice ga gn gc] 25)) (.cells (Xb (.slice (some ⟨fb,0,none⟩) (fs.length+1) cap) m) 36)
  simpa using this
 have b2:Hid (Xo W (w.heap.size+1+1) [.int .i64 op,.int .i64 xa]):=by
  rw [hW]
  have:=(@Xd ((w.alloc (.cells #[.slice fa fn fc,.int .i64 g,.slice ga gn gc] 25)).alloc (.cells (Xb (.slice (some ⟨fb,0,none⟩) (fs.length+1) cap) m) 36)) #[.int .i64 op,.int .i64 xa] 100).alloc (.cells (Xb (.slice none 0 0) Xl) 36)
  exact Lh (by simpa using this)
 have b3:W.heap[w.heap.size+1+1+1]?=some (.cells (Xb (.slice none 0 0) Xl) 36 (0,0)):=by
  rw [hW]
  have:=heap_alloc_new (((w.alloc (.cells #[.slice fa fn fc,.int .i64 g,.slice ga gn gc] 25)).alloc (.cells (Xb (.slice (some ⟨fb,0,none⟩) (fs.length+1) cap) m) 36)).alloc (.cells #[.int .i64 op,.int .i64 xa] 100)) (.cells (Xb (.slice none 0 0) Xl) 36)
  simpa using this
 obtain ⟨k0,k1,k2,k3,k4,k5,k6,k7,k8⟩:=Xq b1
 have z1:=(La b1)
 have c0:=b0 0 _ rfl
 have c1:=b0 1 _ rfl
 have c2:=b0 2 _ rfl
 have i0:=b2.out 0 _ rfl
 have i1:=b2.out 1 _ rfl
 have z0:=Bl c0
 have z2:=Bl i0
 have B3:=Lh b3
 have hT0:=hT W (w.heap.size+1) m hWb.out b1 (by omega)
 have H:=Lh hT0
 have hnotI:w.heap.size+1+1∉((w.heap.size+1)::fb::(Fi++(Fl++Fs))):=fun e=>by
  rw [List.mem_cons] at e
  rcases e with e|e
  ·omega
  ·have:=HF.out _ e;omega
 have hll:l.length<1000000:=by have:=congrArg List.length hst;simp at this;omega
 clear b0 b1 b3 hT hT0 hv hm hst hE h2 hop
 unfold Xi
 unfold Xb Xl at hW
 unfold Xb
 dsimp only at hW ⊢
 go_enter Tryz.func71,Tryz.ntmps71
 go_upto_region 1 with fail
 rw [←hW]
 have HW:=Lh hW
 clear hW
 go_wp2_with fail
 refine (J7 op _).mono ?_
 rintro e w' ⟨rfl,rfl⟩
 rw [HA.out]
 go_wp2_with fail
 refine (Xdy op _).mono ?_
 rintro e w' ⟨rfl,rfl⟩
 rw [HT.out]
 go_wp2_with fail
 refine (Yu m H.out (by omega) (l++[u]) v HS.out).mono ?_
 rintro e w1 ⟨rfl,cur1,sv1,Fs1,hT1,hM1⟩
 have i0:=hM1.cell i0 hnotI
 have i1:=hM1.cell i1 hnotI
 have z2:=Bl i0
 have hnotI1:w.heap.size+1+1∉(w.heap.size+1)::fb::(Fi++(Fl++Fs1)):=hM1.notin (by have:=hsz.out;omega) hnotI
 obtain ⟨k0,k1,k2,k3,k4,k5,k6,k7,k8⟩:=Xq hT1.mach
 have z1:=(La hT1.mach)
 have HT1:=Lh hT1
 have HT1d:Hid (Xk w1.drew (w.heap.size+1) fb cap cur1 cs fs { f with stack:=l++[u] } lv sv1 m Fi Fl Fs1):=Lh (hT1.keep (Xh (Below.refl _ _) 1))
 have HM1:=Lh hM1
 clear hT1 hM1 c0 c1 c2 z0
 go_upto_region 10 with fail
 go_region_held3 (fun V=>V.cell? ⟨w.heap.size+1,0,none⟩=some (.slice (some ⟨fb,0,none⟩) (fs.length+1) cap)∧V.cell? ⟨w.heap.size+1,1,none⟩=some (.int .i64 m.req.kind)∧V.cell? ⟨w.heap.size+1,2,none⟩=some (.int .i64 m.req.node)∧V.cell? ⟨w.heap.size+1,3,none⟩=some (.int .i64 m.req.field)∧V.cell? ⟨w.heap.size+1,4,none⟩=some (.int .i64 m.req.value)∧V.cell? ⟨w.heap.size+1,5,none⟩=some (.int .i64 m.req.fault)∧V.cell? ⟨w.heap.size+1,6,none⟩=some (.int .i64 m.fuel)∧V.cell? ⟨w.heap.size+1,7,none⟩=some (.int .i64 m.compares)∧V.cell? ⟨w.heap.size+1,8,none⟩=some (.int .i64 m.idle)∧V.cell? ⟨w.heap.size+1+1,0,none⟩=some (.int .i64 op))
  (first|exact ⟨k0,k1,k2,k3,k4,k5,k6,k7,k8,i0⟩|exact ⟨j0,j1,j2,j3,j4,j5,j6,j7,j8,ji⟩)
  (first|(go_at_call 102;refine (Yu m HT1d.out (by omega) l u rfl).mono ?_;rintro e w2 ⟨rfl,cur2,sv2,Fs2,hT2,hM2⟩;obtain ⟨j0,j1,j2,j3,j4,j5,j6,j7,j8⟩:=Xq hT2.mach;have ji:=hM2.cell (show w1.drew.cell? _=_ from i0) hnotI1;have HT2:=Lh hT2;have HM2:=Lh ((HM1.out.trans (Xp.of_below (Xh (Below.refl _ _) 1))).trans hM2);clear hT2 hM2)|(go_at_call 103;refine (Xex op u v H2.out hu hvv _).mono ?_;rintro e w3 ⟨rfl,rfl⟩))
 clear i0 i1 z1 z2 k0 k1 k2 k3 k4 k5 k6 k7 k8 ji
 have z1:=(La HT2.out.mach)
 have e0:(Yb op u v != 0)=true:=by simp;exact HE.out
 go_wp2_with fail
 refine (Q0 _ _ _ m (Yb op u v) _).mono ?_
 rintro e w9 ⟨rfl,hb9⟩
 obtain ⟨t1,t2,t3⟩:=J2 (R:=w.heap.size+1+1+1) (bm:=w.heap.size+1) (F0:=[]) (F2:=[]) (m1:={ m with req:=X0 (Yb op u v),frames:=[] }) (fv:=.slice none 0 0) hWb.out (Jd w9) (HM2.out.trans ((Xp.of_below hb9).wide (Fs:=[]) (Fs':=[]) (by simp) (by simp))) (by simp) HF.out (by omega) (by omega) (by omega) (by have:=hsz.out;omega) B3.out
 have Q2:=Lh t2
 have Q3:=Lh t3
 obtain ⟨r0,r1,r2,r3,r4,r5,r6,r7,r8⟩:=Xq t1
 obtain ⟨q0,q1,q2,q3,q4,q5,q6,q7,q8⟩:=Xu t1
 have y2:=(La t1)
 clear t1 t2 t3
 clear hb9 j0 j1 j2 j3 j4 j5 j6 j7 j8 z1 e0
 unfold Xi Xb
 go_wp2_with fail
 exact bodyPost_ret (v:=Xi (.slice none 0 0) { m with req:=X0 (Yb op u v),frames:=[] }) (Xn (p:=6) rfl Q2.out _ rfl) rfl Q3.out
theorem Xln {w:World} {fv:Value} {m:Mch} {F:List Nat} {fs:List Fra} {f:Fra} (fa ga:Option Addr) (fn fc gn gc:Nat) (g op xa:Int) (h2:Ya op) (l:List Int) (u v:Int) (hst:f.stack=l++[u]++[v]) (hu:isV u) (hvv:isV v) (hE:Yb op u v=0) (hc:-1≤m.compares∧m.compares≤4611686018427387904) (hv:Z9 w fv m.frames F) (hm:m.frames=fs++[f]) (hn:fs.length≤199) (hsl:f.stack.length<1000000) :
  Calls Tryz.prog 71 #[.agg #[.slice fa fn fc,.int .i64 g,.slice ga gn gc],Xi fv m,.agg #[.int .i64 op,.int .i64 xa]] w (Qh w F { m with compares:=m.compares+Zk op,frames:=fs++[{ f with stack:=l++[Qk op u v] }] }):=by
 obtain ⟨fb,cap,cur,cs,lv,sv,Fi,Fl,Fs,rfl,rfl,hT⟩:=hv.top hm
 have HF:=Lh hv.lt
 have HS:=Lh hst
 have HE:=Lh hE
 have H2:=Lh h2
 have hop:=h2
 unfold Ya at hop
 have HA:Hid (Kx op=false):=Lh (by unfold Kx;simp;omega)
 have HT:Hid (decide (Ya op)=true):=Lh (by simp [h2])
 have e9:(op == 9)=false:=by simp;omega
 have e10:(op == 10)=false:=by simp;omega
 obtain ⟨W,hW⟩:∃ W,W=(((w.alloc (.cells #[.slice fa fn fc,.int .i64 g,.slice ga gn gc] 25)).alloc (.cells (Xb (.slice (some ⟨fb,0,none⟩) (fs.length+1) cap) m) 36)).alloc (.cells #[.int .i64 op,.int .i64 xa] 100)).alloc (.cells (Xb (.slice none 0 0) Xl) 36):=⟨_,rfl⟩
 have hWb:Hid (Below w.heap.size w W):=by rw [hW];exact Lh ((((Xa _ _).then (Xa _ _)).then (Xa _ _)).then (Xa _ _))
 have hsz:Hid (W.heap.size=w.heap.size+4):=by rw [hW];exact Lh (by simp)
 have b0:Xo W w.heap.size [.slice fa fn fc,.int .i64 g,.slice ga gn gc]:=by rw [hW];exact ((Xd.alloc _).alloc _).alloc _
 have b1:W.heap[w.heap.size+1]?=some (.cells (Xb (.slice (some ⟨fb,0,none⟩) (fs.length+1) cap) m) 36 (0,0)):=by
  rw [hW,Below.heap_alloc _ _ _ (by simp),Below.heap_alloc _ _ _ (by simp)]
  have:=heap_alloc_new (w.alloc (.cells #[.slice fa fn fc,.int .i64 g,.slice ga gn gc] 25)) (.cells (Xb (.slice (some ⟨fb,0,none⟩) (fs.length+1) cap) m) 36)
  simpa using this
 have b2:Hid (Xo W (w.heap.size+1+1) [.int .i64 op,.int .i64 xa]):=by
  rw [hW]
  have:=(@Xd ((w.alloc (.cells #[.slice fa fn fc,.int .i64 g,.slice ga gn gc] 25)).alloc (.cells (Xb (.slice (some ⟨fb,0,none⟩) (fs.length+1) cap) m) 36)) #[.int .i64 op,.int .i64 xa] 100).alloc (.cells (Xb (.slice none 0 0) Xl) 36)
  exact Lh (by simpa using this)
 have b3:W.heap[w.heap.size+1+1+1]?=some (.cells (Xb (.slice none 0 0) Xl) 36 (0,0)):=by
  rw [hW]
  have:=heap_alloc_new (((w.alloc (.cells #[.slice fa fn fc,.int .i64 g,.slice ga gn gc] 25)).alloc (.cells (Xb (.slice (some ⟨fb,0,none⟩) (fs.length+1) cap) m) 36)).alloc (.cells #[.int .i64 op,.int .i64 xa] 100)) (.cells (Xb (.slice none 0 0) Xl) 36)
  simpa using this
 obtain ⟨k0,k1,k2,k3,k4,k5,k6,k7,k8⟩:=Xq b1
 have z1:=(La b1)
 have c0:=b0 0 _ rfl
 have c1:=b0 1 _ rfl
 have c2:=b0 2 _ rfl
 have i0:=b2.out 0 _ rfl
 have i1:=b2.out 1 _ rfl
 have z0:=Bl c0
 have z2:=Bl i0
 have B3:=Lh b3
 have hT0:=hT W (w.heap.size+1) m hWb.out b1 (by omega)
 have H:=Lh hT0
 have hnotI:w.heap.size+1+1∉((w.heap.size+1)::fb::(Fi++(Fl++Fs))):=fun e=>by
  rw [List.mem_cons] at e
  rcases e with e|e
  ·omega
  ·have:=HF.out _ e;omega
 have hll:l.length<1000000:=by have:=congrArg List.length hst;simp at this;omega
 clear b0 b1 b3 hT hT0 hv hm hst hE h2 hop
 unfold Xi
 unfold Xb Xl at hW
 unfold Xb
 dsimp only at hW ⊢
 go_enter Tryz.func71,Tryz.ntmps71
 go_upto_region 1 with fail
 rw [←hW]
 have HW:=Lh hW
 clear hW
 go_wp2_with fail
 refine (J7 op _).mono ?_
 rintro e w' ⟨rfl,rfl⟩
 rw [HA.out]
 go_wp2_with fail
 refine (Xdy op _).mono ?_
 rintro e w' ⟨rfl,rfl⟩
 rw [HT.out]
 go_wp2_with fail
 refine (Yu m H.out (by omega) (l++[u]) v HS.out).mono ?_
 rintro e w1 ⟨rfl,cur1,sv1,Fs1,hT1,hM1⟩
 have i0:=hM1.cell i0 hnotI
 have i1:=hM1.cell i1 hnotI
 have z2:=Bl i0
 have hnotI1:w.heap.size+1+1∉(w.heap.size+1)::fb::(Fi++(Fl++Fs1)):=hM1.notin (by have:=hsz.out;omega) hnotI
 obtain ⟨k0,k1,k2,k3,k4,k5,k6,k7,k8⟩:=Xq hT1.mach
 have z1:=(La hT1.mach)
 have HT1:=Lh hT1
 have HT1d:Hid (Xk w1.drew (w.heap.size+1) fb cap cur1 cs fs { f with stack:=l++[u] } lv sv1 m Fi Fl Fs1):=Lh (hT1.keep (Xh (Below.refl _ _) 1))
 have HM1:=Lh hM1
 clear hT1 hM1 c0 c1 c2 z0
 go_upto_region 10 with fail
 go_region_held3 (fun V=>V.cell? ⟨w.heap.size+1,0,none⟩=some (.slice (some ⟨fb,0,none⟩) (fs.length+1) cap)∧V.cell? ⟨w.heap.size+1,1,none⟩=some (.int .i64 m.req.kind)∧V.cell? ⟨w.heap.size+1,2,none⟩=some (.int .i64 m.req.node)∧V.cell? ⟨w.heap.size+1,3,none⟩=some (.int .i64 m.req.field)∧V.cell? ⟨w.heap.size+1,4,none⟩=some (.int .i64 m.req.value)∧V.cell? ⟨w.heap.size+1,5,none⟩=some (.int .i64 m.req.fault)∧V.cell? ⟨w.heap.size+1,6,none⟩=some (.int .i64 m.fuel)∧V.cell? ⟨w.heap.size+1,7,none⟩=some (.int .i64 m.compares)∧V.cell? ⟨w.heap.size+1,8,none⟩=some (.int .i64 m.idle)∧V.cell? ⟨w.heap.size+1+1,0,none⟩=some (.int .i64 op))
  (first|exact ⟨k0,k1,k2,k3,k4,k5,k6,k7,k8,i0⟩|exact ⟨j0,j1,j2,j3,j4,j5,j6,j7,j8,ji⟩)
  (first|(go_at_call 102;refine (Yu m HT1d.out (by omega) l u rfl).mono ?_;rintro e w2 ⟨rfl,cur2,sv2,Fs2,hT2,hM2⟩;obtain ⟨j0,j1,j2,j3,j4,j5,j6,j7,j8⟩:=Xq hT2.mach;have ji:=hM2.cell (show w1.drew.cell? _=_ from i0) hnotI1;have HT2:=Lh hT2;have HM2:=Lh ((HM1.out.trans (Xp.of_below (Xh (Below.refl _ _) 1))).trans hM2);clear hT2 hM2)|(go_at_call 103;refine (Xex op u v H2.out hu hvv _).mono ?_;rintro e w3 ⟨rfl,rfl⟩))
 clear i0 i1 z1 z2 k0 k1 k2 k3 k4 k5 k6 k7 k8
 have hcv:Y8 op u v=Qk op u v:=by unfold Y8;rw [if_pos HE.out]
 rw [HE.out,hcv]
 clear hcv
 have z1:=(La HT2.out.mach)
 have z2:=Bl ji
 have g7:w2.frozen? ⟨w.heap.size+1,7,none⟩=false:=HT2.out.frm 7
 have hcm:b2i (decide (20≤op) && decide (op≤23))=Zk op:=by unfold b2i Zk;simp
 have hcb:=Xc3 op
 have hwr:IntKind.i64.wrap (m.compares+Zk op)=m.compares+Zk op:=by rw [IntKind.wrap_i64];omega
 go_upto_region 13 with fail
 go_region_with (first|(go_at_call 105;refine (Xen op _).mono ?_;rintro e w' ⟨rfl,rfl⟩)|(go_at_call 104;refine (Kp (decide (20≤op) && decide (op≤23)) _).mono ?_;rintro e w' ⟨rfl,rfl⟩;rw [hcm]))
 all_goals
  obtain ⟨h4',hM4'⟩:=Kw HT2.out (Below.refl _ _) (m':={ m with compares:=m.compares+Zk op }) 7 (.int .i64 (m.compares+Zk op)) (by unfold Xb;rfl)
  obtain ⟨w4,hw4⟩:∃ V,V=(w2.setCell ⟨w.heap.size+1,7,none⟩ (.int .i64 (m.compares+Zk op))).drew:=⟨_,rfl⟩
  have hb4:Below (w2.setCell ⟨w.heap.size+1,7,none⟩ (.int .i64 (m.compares+Zk op))).heap.size (w2.setCell ⟨w.heap.size+1,7,none⟩ (.int .i64 (m.compares+Zk op))) w4:=by rw [hw4];exact Xh (Below.refl _ _) 1
  have h4:=h4'.keep hb4
  have hM4:=hM4'.trans (Xp.of_below hb4)
  clear h4' hM4' hb4 hwr
  rw [←hw4]
  have HT4:=Lh h4
  have HM4:=Lh (HM2.out.trans hM4)
  have HW4:=Lh hw4
  clear h4 hM4 hw4 j0 j1 j2 j3 j4 j5 j6 j7 j8 ji z1 z2 g7 hcm
  obtain ⟨k0,k1,k2,k3,k4,k5,k6,k7,k8⟩:=Xq HT4.out.mach
  have z1:=(La HT4.out.mach)
  go_wp2_with fail
  refine (Qm { m with compares:=m.compares+Zk op } HT4.out (by omega) (Qk op u v) (Xdb H2.out hu hvv HE.out).in64 hll).mono ?_
  rintro e w5 ⟨rfl,cur5,sv5,Fs5,hT5,hM5⟩
  obtain ⟨t1,t2,t3⟩:=J2 (R:=w.heap.size+1+1+1) (bm:=w.heap.size+1) (m1:={ m with compares:=m.compares+Zk op,frames:=fs++[{ f with stack:=l++[Qk op u v] }] }) hWb.out (Xd5 hT5) (HM4.out.trans hM5) (fun x hx=>List.mem_cons_of_mem _ hx) HF.out (by omega) (by omega) (by omega) (by have:=hsz.out;omega) B3.out
  have Q2:=Lh t2
  have Q3:=Lh t3
  obtain ⟨r0,r1,r2,r3,r4,r5,r6,r7,r8⟩:=Xq t1
  obtain ⟨q0,q1,q2,q3,q4,q5,q6,q7,q8⟩:=Xu t1
  have y2:=(La t1)
  clear t1 t2 t3
 
  clear k0 k1 k2 k3 k4 k5 k6 k7 k8 z1
  obtain ⟨k0,k1,k2,k3,k4,k5,k6,k7,k8⟩:=Xq hT5.mach
  have z1:=(La hT5.mach)
  clear hT5 hM5
  go_wp2_with fail
  exact bodyPost_ret (v:=Xi (.slice (some ⟨fb,0,none⟩) (fs.length+1) cap) { m with compares:=m.compares+Zk op,frames:=fs++[{ f with stack:=l++[Qk op u v] }] }) (Xn (p:=6) rfl Q2.out _ rfl) rfl Q3.out
end Go.Proofs.YtbmeoklmachjpaaGreatDoor
