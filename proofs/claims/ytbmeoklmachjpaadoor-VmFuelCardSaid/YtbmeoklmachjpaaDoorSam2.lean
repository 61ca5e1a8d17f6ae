/- ref12.Equal at equal memories; slices.Equal at equal lists of accesses. Plain: what two runs over a memory, with different fuel, have in common. -/
import Derived.Test.YtbmeoklmachjpaaDoorRdb
import Derived.Test.YtbmeoklmachjpaaDoorSam
import Derived.Test.YtbmeoklmachjpaaDoorFul
set_option linter.unusedVariables false
set_option linter.unusedSimpArgs false
namespace Go.Proofs.YtbmeoklmachjpaaDoor
open Go.RowKit

theorem SliceOf.nodElem {B : Nat} {w : World} {a : Option Addr} {cap n : Nat} {l : List Nod} (h : SliceOf B w 2 (NodE B) (.slice a n cap) l) {w' : World} (hb : Below B w w') {k : Nat} {f : Nod} (hx : l[k]? = some f) : ∃ b o la lc, a = some ⟨b, o, none⟩ ∧ b < B ∧ w'.cell? ⟨b, o + k * 2, none⟩ = some (.int .i64 f.type) ∧ w'.cell? ⟨b, o + k * 2 + 1, none⟩ = some (.slice la f.f.length lc) ∧ SliceOf B w' 1 IntE (.slice la f.f.length lc) f.f := by
  obtain ⟨b, o, rfl, hbB, hE⟩ := (h.nods hb).elem hx
  obtain ⟨h1, ⟨v, h3, h4⟩, h7⟩ := hE
  obtain ⟨la, lc, rfl, _⟩ := h4.frm
  exact ⟨b, o, la, lc, rfl, hbB, h1, h3, h4⟩
set_option maxRecDepth 100000 in
set_option maxHeartbeats 2000000 in
theorem Equal_eq (m : Mm) (va vb : Value) (A B : Nat) (w : World) (hA : A ≤ w.heap.size) (hB : B ≤ w.heap.size) (ha : MmV A w va m) (hb : MmV B w vb m) :
    Calls Tryd.prog 14 #[va, vb] w (fun e w' => e = .returned (.bool true) ∧ Below w.heap.size w w') := by
  obtain ⟨g1, n1, rfl, hg1, hn1⟩ := ha
  obtain ⟨g2, n2, rfl, hg2, hn2⟩ := hb
  obtain ⟨ga1, gc1, rfl, hgl⟩ := hg1.frm
  obtain ⟨ga2, gc2, rfl, _⟩ := hg2.frm
  obtain ⟨na1, nc1, rfl, hnl⟩ := hn1.frm
  obtain ⟨na2, nc2, rfl, _⟩ := hn2.frm
  have HG1 := Lib.hid hg1
  have HG2 := Lib.hid hg2
  have HN1 := Lib.hid hn1
  have HN2 := Lib.hid hn2
  obtain ⟨gn, hgn⟩ : ∃ n, n = m.globals.length := ⟨_, rfl⟩
  obtain ⟨ln, hln⟩ : ∃ n, n = m.nodes.length := ⟨_, rfl⟩
  rw [← hgn] at HG1 HG2 ⊢
  rw [← hln] at hnl HN1 HN2 ⊢
  have HLN := Lib.hid hln
  have hne : ((ln : Int) != (ln : Int)) = false := by simp
  obtain ⟨W, hW⟩ : ∃ W, W = (w.alloc (.cells #[.slice ga1 gn gc1, .slice na1 ln nc1] 49)).alloc (.cells #[.slice ga2 gn gc2, .slice na2 ln nc2] 49) := ⟨_, rfl⟩
  have hWb : Hid (Below w.heap.size w W) := by rw [hW]; exact Lib.hid ((below_alloc _ _).then (below_alloc _ _))
  have hc1 : Hid (Cells W w.heap.size [.slice ga1 gn gc1, .slice na1 ln nc1]) := by rw [hW]; exact Lib.hid (cells_new.alloc _)
  have hc2 : Hid (Cells W (w.heap.size + 1) [.slice ga2 gn gc2, .slice na2 ln nc2]) := by
    rw [hW]
    have := @cells_new (w.alloc (.cells #[.slice ga1 gn gc1, .slice na1 ln nc1] 49)) #[.slice ga2 gn gc2, .slice na2 ln nc2] 49
    exact Lib.hid (by simpa using this)
  have p0 := hc1.out 0 _ rfl
  have p1 := hc1.out 1 _ rfl
  have q0 := hc2.out 0 _ rfl
  have q1 := hc2.out 1 _ rfl
  have zp := World.block_lt_of_cell? W _ p0
  have zq := World.block_lt_of_cell? W _ q0
  have hAW : A ≤ W.heap.size := Nat.le_trans hA hWb.out.size
  have hBW : B ≤ W.heap.size := Nat.le_trans hB hWb.out.size
  clear hg1 hg2 hn1 hn2 hgn hln
  go_enter Tryd.func14, Tryd.ntmps14
  go_upto_region 1 with fail
  rw [← hW]
  clear hW
  go_wp2_with fail
  refine (sameInts_eq m.globals _ _ A B W (HG1.out.ints (hWb.out.mono hA)) (HG2.out.ints (hWb.out.mono hB))).mono ?_
  rintro e w8 ⟨rfl, nq, rfl⟩
  go_wp2_with fail
  go_loopw [5] (fun i wr => ∃ k : Nat, k ≤ ln ∧ i = .int .i64 k ∧ Hid (∃ n, wr = W.drewN n)) (fun i _ => ln - (intOf i).toNat)
  case atStart => exact ⟨0, Nat.zero_le _, rfl, Lib.hid ⟨nq, rfl⟩⟩
  case round =>
    obtain ⟨k, hk, rfl, hw⟩ := hrel
    obtain ⟨n, hn⟩ := hw.out
    have hb : Below W.heap.size W wr := by rw [hn]; exact bdrew (Below.refl _ _) n
    have s0 := keepC hb p0
    have s1 := keepC hb p1
    have t0 := keepC hb q0
    have t1 := keepC hb q1
    have zs := World.block_lt_of_cell? wr _ s0
    have zt := World.block_lt_of_cell? wr _ t0
    by_cases hlt : k < ln
    · obtain ⟨f, hx⟩ : ∃ x, m.nodes[k]? = some x := ⟨_, List.getElem?_eq_getElem (by have := HLN.out; omega)⟩
      obtain ⟨b1, o1, la1, lc1, hb1, hb1A, k1, k2, hl1⟩ := HN1.out.nodElem ((hWb.out.mono hA).trans (hb.mono hAW)) hx
      obtain ⟨b2, o2, la2, lc2, hb2, hb2B, j1, j2, hl2⟩ := HN2.out.nodElem ((hWb.out.mono hB).trans (hb.mono hBW)) hx
      subst hb1 hb2
      have HL1 := Lib.hid hl1
      have HL2 := Lib.hid hl2
      obtain ⟨ty, fl⟩ := f
      dsimp only at k1 k2 j1 j2 HL1 HL2
      obtain ⟨fn, hfn⟩ : ∃ n, n = fl.length := ⟨_, rfl⟩
      rw [← hfn] at k2 j2 HL1 HL2
      have z1 := World.block_lt_of_cell? wr _ k1
      have z2 := World.block_lt_of_cell? wr _ j1
      have hi0 : (0 : Int) ≤ (k : Int) := Int.natCast_nonneg _
      have hi1 : (k : Int) < (ln : Int) := by omega
      have hxx : (ty != ty) = false := by simp
      have HN := Lib.hid hn
      clear hx hl1 hl2 hfn hw hn hb
      go_wp2_with fail
      go_quiet ((go_at_call 25; exact Calls.quiet_of (sameInts_eq fl _ _ A B _ (HL1.out.ints (bdrew (Below.refl _ _) _)) (HL2.out.ints (bdrew (Below.refl _ _) _)))))
      go_wp2_with fail
      go_roundw
      case rel => exact ⟨k + 1, by omega, by go_num, Lib.hid ⟨_, by rw [HN.out, World.drewN_drewN]⟩⟩
      case measure => simp [intOf]; omega
    · clear hb
      go_wp2_with fail
      go_ret
      exact ⟨rfl, bdrew hWb.out n⟩
set_option maxRecDepth 100000 in
set_option maxHeartbeats 1000000 in
theorem equalA_eq (l : List Acc) (va vb : Value) (A B : Nat) (w : World) (ha : SliceOf A w 3 AccE va l) (hb : SliceOf B w 3 AccE vb l) : Calls Tryd.prog 13 #[va, vb] w (Tru w) := by
  obtain ⟨aa, ac, rfl, hl⟩ := ha.frm
  obtain ⟨ba, bc, rfl, _⟩ := hb.frm
  have HA := Lib.hid ha
  have HB := Lib.hid hb
  obtain ⟨ln, hln⟩ : ∃ n, n = l.length := ⟨_, rfl⟩
  rw [← hln] at hl HA HB ⊢
  have HLN := Lib.hid hln
  have hne : ((ln : Int) != (ln : Int)) = false := by simp
  clear ha hb hln
  go_enter Tryd.func13, Tryd.ntmps13
  go_wp2_with fail
  go_loopw [13] (fun i wr => ∃ k : Nat, k ≤ ln ∧ i = .int .i64 k ∧ Hid (∃ n, wr = w.drewN n)) (fun i _ => ln - (intOf i).toNat)
  case atStart => exact ⟨0, Nat.zero_le _, rfl, Lib.hid ⟨0, rfl⟩⟩
  case round =>
    obtain ⟨k, hk, rfl, hw⟩ := hrel
    obtain ⟨n, hn⟩ := hw.out
    by_cases hlt : k < ln
    · obtain ⟨x, hx⟩ : ∃ x, l[k]? = some x := ⟨_, List.getElem?_eq_getElem (by have := HLN.out; omega)⟩
      obtain ⟨b1, o1, hb1, _, h1⟩ := HA.out.elem hx
      obtain ⟨b2, o2, hb2, _, h2⟩ := HB.out.elem hx
      subst hb1 hb2
      obtain ⟨kd, nd, fd⟩ := x
      have c1 : wr.cell? ⟨b1, o1 + k * 3, none⟩ = some (.int .i64 kd) := by rw [hn]; exact h1.1
      have c2 : wr.cell? ⟨b1, o1 + k * 3 + 1, none⟩ = some (.int .i64 nd) := by rw [hn]; exact h1.2.1
      have c3 : wr.cell? ⟨b1, o1 + k * 3 + 2, none⟩ = some (.int .i64 fd) := by rw [hn]; exact h1.2.2
      have d1 : wr.cell? ⟨b2, o2 + k * 3, none⟩ = some (.int .i64 kd) := by rw [hn]; exact h2.1
      have d2 : wr.cell? ⟨b2, o2 + k * 3 + 1, none⟩ = some (.int .i64 nd) := by rw [hn]; exact h2.2.1
      have d3 : wr.cell? ⟨b2, o2 + k * 3 + 2, none⟩ = some (.int .i64 fd) := by rw [hn]; exact h2.2.2
      have hi0 : (0 : Int) ≤ (k : Int) := Int.natCast_nonneg _
      have hi1 : (k : Int) < (ln : Int) := by omega
      have HN := Lib.hid hn
      clear hx h1 h2 hw hn
      go_wp2_with fail
      go_quiet (fail)
      go_wp2_with fail
      go_roundw
      case rel => exact ⟨k + 1, by omega, by go_num, Lib.hid ⟨_, by rw [HN.out, World.drewN_drewN]⟩⟩
      case measure => simp [intOf]; omega
    · go_wp2_with fail
      go_ret
      exact ⟨rfl, n, rfl⟩
end Go.Proofs.YtbmeoklmachjpaaDoor
namespace Go.Proofs.YtbmeoklmachjpaaDoor
open Go.RowKit

theorem givenE_fuel {c : Cod} {x : Cal} {a b : Int} (ha : 0 ≤ a ∧ a ≤ 1048576) (hb : 0 ≤ b ∧ b ≤ 1048576) : givenE c x a = givenE c x b := by
  unfold givenE
  rw [if_neg (show ¬ (a < 0 ∨ 1048576 < a) by omega), if_neg (show ¬ (b < 0 ∨ 1048576 < b) by omega)]
theorem RunE.fuel {c : Cod} {m : Mm} {x : Cal} {a b er : Int} (ha : 0 ≤ a ∧ a ≤ 1048576) (hb : 0 ≤ b ∧ b ≤ 1048576) (h : RunE c m x a er) : RunE c m x b er := by
  rcases h with h | ⟨h1, h2, h3⟩
  · exact .inl h
  · exact .inr ⟨h1, h2, by rw [h3, givenE_fuel ha hb]⟩
theorem startM_addF {c : Cod} {x : Cal} {a b : Int} : startM c x b = addF (b - a) (startM c x a) := by
  have e : a + (b - a) = b := by omega
  show startM c x b = ⟨_, _, a + (b - a), _, _⟩
  rw [e]; rfl
/-- two runs: the second one has more fuel -/
theorem two_runs {c : Cod} {m : Mm} {x : Cal} {a b : Int} (h0 : 0 ≤ a) (hab : a ≤ b) {m1 m2 : Mch} {o1 o2 : OutC} {p1 p2 : Ply} (h1 : Runs c (startM c x a) m1) (k1 : Plays c m1 ⟨m, [], 0⟩ o1 p1) (h2 : Runs c (startM c x b) m2) (k2 : Plays c m2 ⟨m, [], 0⟩ o2 p2) :
    p1.log <+: p2.log ∧ (o1.fault = 20 ∨ (o1 = o2 ∧ p1 = p2)) := by
  rw [startM_addF (a := a)] at h2
  exact plays_fuel (by omega) k1 _ _ _ (runs_fuel (by omega) h1 _ (by show 0 ≤ a; exact h0) h2) k2
theorem PRes.zero {A : Nat} {c : Cod} {m : Mm} {x : Cal} {fuel er : Int} {o : OutC} {gv nv : Value} {la : Option Addr} {ln lc : Nat} {w : World} (h : PRes A c m x fuel er o gv nv (.slice la ln lc) w) (he : er ≠ 0) : ln = 0 := by
  rcases h with ⟨_, _, _, _, h⟩ | ⟨h, _⟩
  · cases h; rfl
  · exact absurd h he
/-- a beginning of a list of accesses -/
theorem accs_take {B : Nat} {w : World} {la : Option Addr} {ln lc : Nat} {l l2 : List Acc} (h : SliceOf B w 3 AccE (.slice la ln lc) l2) (hp : l <+: l2) : SliceOf B w 3 AccE (.slice la l.length lc) l := by
  obtain ⟨a, cap, e, h1, h2, h3, h4⟩ := h
  cases e
  obtain ⟨r, rfl⟩ := hp
  rw [List.length_append] at h1 h2
  refine ⟨la, lc, rfl, by omega, by omega, h3, ?_⟩
  rcases h4 with h | ⟨b, o, rfl, hb, hE⟩
  · simp at h; exact .inl h.1
  · exact .inr ⟨b, o, rfl, hb, fun i x hx => hE i x (by rw [List.getElem?_append_left (List.getElem?_eq_some_iff.1 hx).1]; exact hx)⟩
end Go.Proofs.YtbmeoklmachjpaaDoor
