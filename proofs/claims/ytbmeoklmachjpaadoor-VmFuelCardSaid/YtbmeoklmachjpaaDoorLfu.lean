/- The walk of VmFuel. -/
import Derived.Test.YtbmeoklmachjpaaDoorAwk
import Derived.Test.YtbmeoklmachjpaaDoorSam
import Derived.Test.YtbmeoklmachjpaaDoorSam2
set_option linter.unusedVariables false
set_option linter.unusedSimpArgs false
namespace Go.Proofs.YtbmeoklmachjpaaDoor
open Go.RowKit

/-- the boxes of a law's code, memory and call, and what they read as -/
def FuIn (bk : Nat) (c0 c2 m0 m1 x1 : Value) (g : Int) (xp : ByteArray) (c : Cod) (m : Mm) (x : Cal) (V : World) : Prop :=
  Cells V bk [c0, .int .i64 g, c2] ∧ Cells V (bk + 1) [m0, m1] ∧ Cells V (bk + 2) [.string xp, x1] ∧ CodV bk V (.agg #[c0, .int .i64 g, c2]) c ∧ MmV bk V (.agg #[m0, m1]) m ∧ CalV bk V (.agg #[.string xp, x1]) x ∧ Laid V ∧ bk + 2 < V.heap.size
theorem FuIn.keep {bk : Nat} {c0 c2 m0 m1 x1 : Value} {g : Int} {xp : ByteArray} {c : Cod} {m : Mm} {x : Cal} {V V' : World} (h : FuIn bk c0 c2 m0 m1 x1 g xp c m x V) (hb : Below V.heap.size V V') : FuIn bk c0 c2 m0 m1 x1 g xp c m x V' := by
  obtain ⟨h1, h2, h3, h4, h5, h6, h7, h8⟩ := h
  have hm : Below bk V V' := hb.mono (by omega)
  exact ⟨h1.keep hb, h2.keep hb, h3.keep hb, h4.below hm, h5.below hm, h6.below hm, h7.below hb, by have := hb.size; omega⟩
theorem cells_next {w : World} {A : Array Value} {T : TypeId} {o : Obj} : Cells ((w.alloc o).alloc (.cells A T)) (w.heap.size + 1) A.toList := by
  have := @cells_new (w.alloc o) A T
  simpa using this
theorem cells_next2 {w : World} {A : Array Value} {T : TypeId} {o o2 : Obj} : Cells (((w.alloc o).alloc o2).alloc (.cells A T)) (w.heap.size + 2) A.toList := by
  have := @cells_new ((w.alloc o).alloc o2) A T
  simpa using this
theorem fuIn_start {w : World} {c0 c2 m0 m1 x1 : Value} {g : Int} {xp : ByteArray} {c : Cod} {m : Mm} {x : Cal} {T1 T2 T3 : TypeId} (hL : Laid w) (hc : CodV w.heap.size w (.agg #[c0, .int .i64 g, c2]) c) (hm : MmV w.heap.size w (.agg #[m0, m1]) m) (hx : CalV w.heap.size w (.agg #[.string xp, x1]) x) :
    FuIn w.heap.size c0 c2 m0 m1 x1 g xp c m x (((w.alloc (.cells #[c0, .int .i64 g, c2] T1)).alloc (.cells #[m0, m1] T2)).alloc (.cells #[.string xp, x1] T3)) := by
  have hb : Below w.heap.size w (((w.alloc (.cells #[c0, .int .i64 g, c2] T1)).alloc (.cells #[m0, m1] T2)).alloc (.cells #[.string xp, x1] T3)) := ((below_alloc _ _).then (below_alloc _ _)).then (below_alloc _ _)
  exact ⟨(cells_new.alloc _).alloc _, cells_next.alloc _, cells_next2, hc.below hb, hm.below hb, hx.below hb, hL.below hb, by simp⟩
set_option maxRecDepth 1000000 in
set_option maxHeartbeats 4000000 in
theorem vmFuel_walk (hp : PlayAny) (c : Cod) (m : Mm) (x : Cal) (a b : Nat) (ha : a ≤ 255) (hb : b ≤ 255) (cv mv xv : Value) (w : World) (hL : Laid w) (hc : CodV w.heap.size w cv c) (hm : MmV w.heap.size w mv m) (hx : CalV w.heap.size w xv x) :
    Calls Tryd.prog 4 #[cv, mv, xv, .int .u8 (a : Int), .int .u8 (b : Int)] w (fun e w' => e = .returned (.bool true) ∧ Below w.heap.size w w') := by
  obtain ⟨cf, cg, hcv, hcf, hcg, hg64⟩ := hc
  have hc : CodV w.heap.size w (.agg #[cf, .int .i64 c.globals, cg]) c := ⟨cf, cg, rfl, hcf, hcg, hg64⟩
  obtain ⟨fa, fc, rfl⟩ := hcf.form
  obtain ⟨ga, gc, rfl⟩ := hcg.form
  obtain ⟨mg, mn, hmv, hmg, hmn⟩ := hm
  have hm : MmV w.heap.size w (.agg #[mg, mn]) m := ⟨mg, mn, rfl, hmg, hmn⟩
  obtain ⟨va, vc, rfl⟩ := hmg.form
  obtain ⟨na, nc, rfl⟩ := hmn.form
  obtain ⟨xg, hxv, hxg, hx47⟩ := hx
  have hx : CalV w.heap.size w (.agg #[.string x.proc, xg]) x := ⟨xg, rfl, hxg, hx47⟩
  obtain ⟨xa, xc, rfl⟩ := hxg.form
  have hI := @fuIn_start w _ _ _ _ _ _ _ c m x 32 49 42 hL hc hm hx
  subst hcv hmv hxv
  obtain ⟨cfn, hcfn⟩ : ∃ n, n = c.fields.length := ⟨_, rfl⟩
  obtain ⟨cgn, hcgn⟩ : ∃ n, n = c.funcs.length := ⟨_, rfl⟩
  obtain ⟨mgn, hmgn⟩ : ∃ n, n = m.globals.length := ⟨_, rfl⟩
  obtain ⟨mnn, hmnn⟩ : ∃ n, n = m.nodes.length := ⟨_, rfl⟩
  obtain ⟨xan, hxan⟩ : ∃ n, n = x.args.length := ⟨_, rfl⟩
  obtain ⟨cgl, hcgl⟩ : ∃ n, n = c.globals := ⟨_, rfl⟩
  obtain ⟨xpr, hxpr⟩ : ∃ n, n = x.proc := ⟨_, rfl⟩
  rw [← hcfn, ← hcgn, ← hmgn, ← hmnn, ← hxan, ← hcgl, ← hxpr] at hI ⊢
  have HP := Lib.hid hp
  clear hcf hcg hmg hmn hxg hcfn hcgn hmgn hmnn hxan hcgl hxpr hL hc hm hx hp hg64 hx47
  obtain ⟨W, hW⟩ : ∃ W, W = ((w.alloc (.cells #[.slice fa cfn fc, .int .i64 cgl, .slice ga cgn gc] 32)).alloc (.cells #[.slice va mgn vc, .slice na mnn nc] 49)).alloc (.cells #[.string xpr, .slice xa xan xc] 42) := ⟨_, rfl⟩
  have HW : Hid (Below w.heap.size w W) := by rw [hW]; exact Lib.hid (((below_alloc _ _).then (below_alloc _ _)).then (below_alloc _ _))
  rw [← hW] at hI
  have HI := Lib.hid hI
  clear hI
  go_enter Tryd.func4, Tryd.ntmps4
  go_wp2_with fail
  rw [← hW]
  clear hW
  refine (awake_any HP.out W HI.out.2.2.2.2.2.2.1).mono ?_
  rintro e w1 ⟨rfl, hb1⟩
  have HI := Lib.hid (HI.out.keep hb1)
  have HB1 := Lib.hid (HW.out.then hb1)
  clear hb1 HW
  have q0 := HI.out.1 0 _ rfl
  have q1 := HI.out.1 1 _ rfl
  have q2 := HI.out.1 2 _ rfl
  go_wp2_with fail
  clear q0 q1 q2
  refine (few_any c _ w.heap.size w1 (by have := HI.out.2.2.2.2.2.2.2; omega) HI.out.2.2.2.1).mono ?_
  rintro e w2 ⟨r1, rfl, hsm, hb2⟩
  have HI := Lib.hid (HI.out.keep hb2)
  have HB2 := Lib.hid (HB1.out.then hb2)
  have HSM := Lib.hid hsm
  clear hb2 HB1 hsm
  cases r1 with
  | false =>
    go_wp2_with fail
    refine (awake_any HP.out _ HI.out.2.2.2.2.2.2.1).mono ?_
    rintro e w3 ⟨rfl, hb3⟩
    have HB3 := Lib.hid (HB2.out.then hb3)
    clear hb3
    go_wp2_with fail
    go_ret
    exact ⟨rfl, HB3.out⟩
  | true =>
  have HS : Hid (Small c) := Lib.hid (fun y hy => by have := HSM.out rfl y hy; omega)
  clear HSM
  have q0 := HI.out.2.2.1 0 _ rfl
  have q1 := HI.out.2.2.1 1 _ rfl
  go_wp2_with fail
  clear q0 q1
  refine (callL_any x _ w.heap.size w2 HI.out.2.2.2.2.2.1).mono ?_
  rintro e w3 ⟨r2, rfl, hb3⟩
  have HI := Lib.hid (HI.out.keep hb3)
  have HB3 := Lib.hid (HB2.out.then hb3)
  clear hb3 HB2
  cases r2 with
  | false =>
    go_wp2_with fail
    refine (awake_any HP.out _ HI.out.2.2.2.2.2.2.1).mono ?_
    rintro e w4 ⟨rfl, hb4⟩
    have HB4 := Lib.hid (HB3.out.then hb4)
    clear hb4
    go_wp2_with fail
    go_ret
    exact ⟨rfl, HB4.out⟩
  | true =>
  have q0 := HI.out.2.1 0 _ rfl
  have q1 := HI.out.2.1 1 _ rfl
  go_wp2_with fail
  clear q0 q1
  refine (memory_any m _ w.heap.size w3 (by have := HI.out.2.2.2.2.2.2.2; omega) HI.out.2.2.2.2.1).mono ?_
  rintro e w4 ⟨r3, rfl, hb4⟩
  have HI := Lib.hid (HI.out.keep hb4)
  have HB4 := Lib.hid (HB3.out.then hb4)
  clear hb4 HB3
  cases r3 with
  | false =>
    go_wp2_with fail
    refine (awake_any HP.out _ HI.out.2.2.2.2.2.2.1).mono ?_
    rintro e w5 ⟨rfl, hb5⟩
    have HB5 := Lib.hid (HB4.out.then hb5)
    clear hb5
    go_wp2_with fail
    go_ret
    exact ⟨rfl, HB5.out⟩
  | true =>
  by_cases ha6 : 60 < a
  · have e1 : decide (60 < (a : Int)) = true := by simp; omega
    go_wp2_with fail
    refine (awake_any HP.out _ HI.out.2.2.2.2.2.2.1).mono ?_
    rintro e w5 ⟨rfl, hb5⟩
    have HB5 := Lib.hid (HB4.out.then hb5)
    clear hb5
    go_wp2_with fail
    go_ret
    exact ⟨rfl, HB5.out⟩
  have ha7 : a ≤ 60 := by omega
  by_cases hb6 : 60 < b
  · have e1 : decide (60 < (b : Int)) = true := by simp; omega
    go_wp2_with fail
    refine (awake_any HP.out _ HI.out.2.2.2.2.2.2.1).mono ?_
    rintro e w5 ⟨rfl, hb5⟩
    have HB5 := Lib.hid (HB4.out.then hb5)
    clear hb5
    go_wp2_with fail
    go_ret
    exact ⟨rfl, HB5.out⟩
  have hb7 : b ≤ 60 := by omega
  clear ha6 hb6 ha hb
  have q0 := HI.out.1 0 _ rfl
  have q1 := HI.out.1 1 _ rfl
  have q2 := HI.out.1 2 _ rfl
  have q3 := HI.out.2.1 0 _ rfl
  have q4 := HI.out.2.1 1 _ rfl
  have q5 := HI.out.2.2.1 0 _ rfl
  have q6 := HI.out.2.2.1 1 _ rfl
  go_wp2_with fail
  clear q0 q1 q2 q3 q4 q5 q6
  have hWs : w.heap.size ≤ w4.heap.size := by have := HI.out.2.2.2.2.2.2.2; omega
  refine (Run_any HP.out c m x (a : Int) _ _ _ w.heap.size w4 HI.out.2.2.2.2.2.2.1 hWs HI.out.2.2.2.1 HI.out.2.2.2.2.1 HI.out.2.2.2.2.2.1 HS.out).mono ?_
  rintro e w5 ⟨er1, o1, ga1, na1, la1, gn1, gc1, nn1, nc1, ln1, lc1, rfl, hE1, hR1, hb5⟩
  obtain ⟨f1, v1, k1, d1⟩ := o1
  obtain ⟨A5, hA5⟩ : ∃ V, V = (w5.alloc (.cells #[.int .i64 f1, .int .i64 v1, .int .i64 k1, .int .i64 d1, .int .i64 0] 46)).alloc (.cells #[.slice ga1 gn1 gc1, .slice na1 nn1 nc1] 49) := ⟨_, rfl⟩
  have hAb5 : Below w5.heap.size w5 A5 := by rw [hA5]; exact (below_alloc _ _).then (below_alloc _ _)
  have HO1 : Hid (Cells A5 w5.heap.size [.int .i64 f1, .int .i64 v1, .int .i64 k1, .int .i64 d1, .int .i64 0]) := by rw [hA5]; exact Lib.hid (cells_new.alloc _)
  have HM1 : Hid (Cells A5 (w5.heap.size + 1) [.slice ga1 gn1 gc1, .slice na1 nn1 nc1]) := by rw [hA5]; exact Lib.hid cells_next
  have HE1 := Lib.hid hE1
  have HR1 := Lib.hid (hR1.keepB hAb5)
  have HI := Lib.hid (HI.out.keep (hb5.then hAb5))
  have HB5 := Lib.hid ((HB4.out.then hb5).then hAb5)
  obtain ⟨b5, hb5k⟩ : ∃ n, n = w5.heap.size := ⟨_, rfl⟩
  rw [← hb5k] at HO1 HM1
  clear hE1 hR1 hb5 hAb5 hWs
  unfold outV outCells
  go_upto_region 4 with fail
  rw [← hA5, ← hb5k]
  clear hA5 hb5k
  have q0 := HI.out.1 0 _ rfl
  have q1 := HI.out.1 1 _ rfl
  have q2 := HI.out.1 2 _ rfl
  have q3 := HI.out.2.1 0 _ rfl
  have q4 := HI.out.2.1 1 _ rfl
  have q5 := HI.out.2.2.1 0 _ rfl
  have q6 := HI.out.2.2.1 1 _ rfl
  go_wp2_with fail
  clear q0 q1 q2 q3 q4 q5 q6
  have hWs : w.heap.size ≤ A5.heap.size := by have := HI.out.2.2.2.2.2.2.2; omega
  refine (Acc_any HP.out c m x (a : Int) _ _ _ w.heap.size A5 HI.out.2.2.2.2.2.2.1 hWs HI.out.2.2.2.1 HI.out.2.2.2.2.1 HI.out.2.2.2.2.2.1 HS.out).mono ?_
  rintro e w6 ⟨er2, o2, ga2, na2, la2, gn2, gc2, nn2, nc2, ln2, lc2, rfl, hE2, hR2, hb6⟩
  obtain rfl : er2 = er1 := hE2.det HE1.out
  have HR2 := Lib.hid hR2
  have HR1 := Lib.hid (HR1.out.keepB hb6)
  have HO1 := Lib.hid (HO1.out.keep hb6)
  have HM1 := Lib.hid (HM1.out.keep hb6)
  have HI := Lib.hid (HI.out.keep hb6)
  have HB6 := Lib.hid (HB5.out.then hb6)
  clear hE2 hR2 hb6 hWs
  have q0 := HI.out.1 0 _ rfl
  have q1 := HI.out.1 1 _ rfl
  have q2 := HI.out.1 2 _ rfl
  have q3 := HI.out.2.1 0 _ rfl
  have q4 := HI.out.2.1 1 _ rfl
  have q5 := HI.out.2.2.1 0 _ rfl
  have q6 := HI.out.2.2.1 1 _ rfl
  go_wp2_with fail
  clear q0 q1 q2 q3 q4 q5 q6
  have hWs : w.heap.size ≤ w6.heap.size := by have := HI.out.2.2.2.2.2.2.2; omega
  refine (Run_any HP.out c m x ((a : Int) + (b : Int)) _ _ _ w.heap.size w6 HI.out.2.2.2.2.2.2.1 hWs HI.out.2.2.2.1 HI.out.2.2.2.2.1 HI.out.2.2.2.2.2.1 HS.out).mono ?_
  rintro e w7 ⟨er3, o3, ga3, na3, la3, gn3, gc3, nn3, nc3, ln3, lc3, rfl, hE3, hR3, hb7⟩
  obtain rfl : er3 = er2 := hE3.det (HE1.out.fuel (by omega) (by omega))
  obtain ⟨f3, v3, k3, d3⟩ := o3
  obtain ⟨A7, hA7⟩ : ∃ V, V = (w7.alloc (.cells #[.int .i64 f3, .int .i64 v3, .int .i64 k3, .int .i64 d3, .int .i64 0] 46)).alloc (.cells #[.slice ga3 gn3 gc3, .slice na3 nn3 nc3] 49) := ⟨_, rfl⟩
  have hAb7 : Below w7.heap.size w7 A7 := by rw [hA7]; exact (below_alloc _ _).then (below_alloc _ _)
  have HO3 : Hid (Cells A7 w7.heap.size [.int .i64 f3, .int .i64 v3, .int .i64 k3, .int .i64 d3, .int .i64 0]) := by rw [hA7]; exact Lib.hid (cells_new.alloc _)
  have HM3 : Hid (Cells A7 (w7.heap.size + 1) [.slice ga3 gn3 gc3, .slice na3 nn3 nc3]) := by rw [hA7]; exact Lib.hid cells_next
  have HR3 := Lib.hid (hR3.keepB hAb7)
  have HR2 := Lib.hid (HR2.out.keepB (hb7.then hAb7))
  have HR1 := Lib.hid (HR1.out.keepB (hb7.then hAb7))
  have HO1 := Lib.hid (HO1.out.keep (hb7.then hAb7))
  have HM1 := Lib.hid (HM1.out.keep (hb7.then hAb7))
  have HI := Lib.hid (HI.out.keep (hb7.then hAb7))
  have HB7 := Lib.hid ((HB6.out.then hb7).then hAb7)
  obtain ⟨b7, hb7k⟩ : ∃ n, n = w7.heap.size := ⟨_, rfl⟩
  rw [← hb7k] at HO3 HM3
  clear hE3 hR3 hb7 hAb7 hWs
  unfold outV outCells
  go_upto_region 6 with fail
  rw [← hA7, ← hb7k]
  clear hA7 hb7k
  have q0 := HI.out.1 0 _ rfl
  have q1 := HI.out.1 1 _ rfl
  have q2 := HI.out.1 2 _ rfl
  have q3 := HI.out.2.1 0 _ rfl
  have q4 := HI.out.2.1 1 _ rfl
  have q5 := HI.out.2.2.1 0 _ rfl
  have q6 := HI.out.2.2.1 1 _ rfl
  go_wp2_with fail
  clear q0 q1 q2 q3 q4 q5 q6
  have hWs : w.heap.size ≤ A7.heap.size := by have := HI.out.2.2.2.2.2.2.2; omega
  refine (Acc_any HP.out c m x ((a : Int) + (b : Int)) _ _ _ w.heap.size A7 HI.out.2.2.2.2.2.2.1 hWs HI.out.2.2.2.1 HI.out.2.2.2.2.1 HI.out.2.2.2.2.2.1 HS.out).mono ?_
  rintro e w8 ⟨er4, o4, ga4, na4, la4, gn4, gc4, nn4, nc4, ln4, lc4, rfl, hE4, hR4, hb8⟩
  obtain rfl : er4 = er3 := hE4.det (HE1.out.fuel (by omega) (by omega))
  have HR4 := Lib.hid hR4
  have HR3 := Lib.hid (HR3.out.keepB hb8)
  have HR2 := Lib.hid (HR2.out.keepB hb8)
  have HR1 := Lib.hid (HR1.out.keepB hb8)
  have HO1 := Lib.hid (HO1.out.keep hb8)
  have HM1 := Lib.hid (HM1.out.keep hb8)
  have HO3 := Lib.hid (HO3.out.keep hb8)
  have HM3 := Lib.hid (HM3.out.keep hb8)
  have HB8 := Lib.hid (HB7.out.then hb8)
  clear hE4 hR4 hb8 hWs HI
  by_cases h0 : er4 = 0
  rotate_left
  · obtain rfl : ln2 = 0 := HR2.out.zero h0
    obtain rfl : ln4 = 0 := HR4.out.zero h0
    have e1 : (er4 != 0) = true := by simpa using h0
    clear h0
    go_wp2_with fail
    go_ret
    exact ⟨rfl, HB8.out⟩
  subst h0
  obtain ⟨m1, p1, h11, h12, h13, h14, h15, h16⟩ := HR1.out.reads
  obtain ⟨m2, p2, h21, h22, h23, h24, h25, h26⟩ := HR2.out.reads
  obtain ⟨m3, p3, h31, h32, h33, h34, h35, h36⟩ := HR3.out.reads
  obtain ⟨m4, p4, h41, h42, h43, h44, h45, h46⟩ := HR4.out.reads
  obtain rfl := runs_det h21 h11
  obtain ⟨rfl, rfl⟩ := plays_det h22 h12
  obtain rfl := runs_det h41 h31
  obtain ⟨rfl, rfl⟩ := plays_det h42 h32
  obtain ⟨hpre, hcase⟩ := two_runs (by omega) (by omega) h11 h12 h31 h32
  have hT := accs_take h44 hpre
  obtain ⟨n2, hn2⟩ : ∃ n, n = p2.log.length := ⟨_, rfl⟩
  obtain ⟨n4, hn4⟩ : ∃ n, n = p4.log.length := ⟨_, rfl⟩
  have hle : n2 ≤ n4 := by rw [hn2, hn4]; exact hpre.length_le
  have hc4 : n4 ≤ lc4 ∧ lc4 ≤ 9223372036854775807 ∧ ln4 = n4 ∧ n4 ≤ 1000000000000 := by
    obtain ⟨_, _, he, _, h2, h3, _⟩ := h44
    cases he
    exact ⟨by rw [hn4]; exact h2, h3, hn4.symm, by rw [hn4]; exact h46⟩
  obtain ⟨hc41, hc42, hc43, hc44⟩ := hc4
  have hc2 : ln2 = n2 := by
    obtain ⟨_, _, he, _⟩ := h24
    cases he
    exact hn2.symm
  subst hc43 hc2
  have HT := Lib.hid hT
  have HA2 := Lib.hid h24
  have HG1 := Lib.hid h13
  have HG3 := Lib.hid h33
  have HCS := Lib.hid hcase
  have HN2 := Lib.hid hn2
  have HN4 := Lib.hid hn4
  rw [← HN2.out] at HT
  have e0 : decide (ln4 < ln2) = false := by simp; omega
  clear h11 h12 h13 h14 h15 h16 h21 h22 h23 h24 h25 h26 h31 h32 h33 h34 h35 h36 h41 h42 h43 h44 h45 h46 hpre hT hcase hn2 hn4 HR1 HR2 HR3 HR4
  go_wp2_with fail
  refine (equalA_eq p2.log _ _ w8.heap.size w8.heap.size w8 HA2.out HT.out).mono ?_
  rintro e w9 ⟨rfl, nq, rfl⟩
  obtain ⟨w9, hw9⟩ : ∃ V, V = w8.drewN nq := ⟨_, rfl⟩
  have hb9 : Below w8.heap.size w8 w9 := by rw [hw9]; exact bdrew (Below.refl _ _) nq
  rw [← hw9]
  clear hw9
  have HO1 := Lib.hid (HO1.out.keep hb9)
  have HM1 := Lib.hid (HM1.out.keep hb9)
  have HO3 := Lib.hid (HO3.out.keep hb9)
  have HM3 := Lib.hid (HM3.out.keep hb9)
  have HG1 := Lib.hid (HG1.out.below hb9)
  have HG3 := Lib.hid (HG3.out.below hb9)
  have hz9 := hb9.size
  have HB9 := Lib.hid (HB8.out.then hb9)
  clear hb9 HB8
  have r0 := HO1.out 0 _ rfl
  have r1 := HO1.out 1 _ rfl
  have r2 := HO1.out 2 _ rfl
  have r3 := HO1.out 3 _ rfl
  have r4 := HO1.out 4 _ rfl
  have s0 := HM1.out 0 _ rfl
  have s1 := HM1.out 1 _ rfl
  by_cases hf : f1 = 20
  · have e1 : (f1 == 20) = true := by simpa using hf
    clear hf
    go_wp2_with fail
    go_ret
    exact ⟨rfl, HB9.out⟩
  have e1 : (f1 == 20) = false := by simpa using hf
  rcases HCS.out with h | ⟨ho, hp⟩
  · exact absurd h hf
  cases ho
  subst hp
  obtain rfl : ln2 = ln4 := HN2.out.trans HN4.out.symm
  clear hf e0 HN2 HN4 HCS HT HA2
  have t0 := HO3.out 0 _ rfl
  have t1 := HO3.out 1 _ rfl
  have t2 := HO3.out 2 _ rfl
  have t3 := HO3.out 3 _ rfl
  have t4 := HO3.out 4 _ rfl
  have u0 := HM3.out 0 _ rfl
  have u1 := HM3.out 1 _ rfl
  go_wp2_with fail
  refine (Equal_eq p2.mem _ _ w8.heap.size w8.heap.size w9 hz9 hz9 HG1.out HG3.out).mono ?_
  rintro e w10 ⟨rfl, hb10⟩
  have HB10 := Lib.hid (HB9.out.then hb10)
  clear hb10 r0 r1 r2 r3 r4 s0 s1 t0 t1 t2 t3 t4 u0 u1
  go_wp2_with fail
  go_ret
  exact ⟨rfl, HB10.out⟩
end Go.Proofs.YtbmeoklmachjpaaDoor
