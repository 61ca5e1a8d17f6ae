/- The walk of VmIdle. -/
import Derived.Test.YtbmeoklmachjpaaDoorAwk
import Derived.Test.YtbmeoklmachjpaaDoorFul
set_option linter.unusedVariables false
set_option linter.unusedSimpArgs false
namespace Go.Proofs.YtbmeoklmachjpaaDoor
open Go.RowKit

theorem info_instr : (Tryd.prog.info? 26).map (fun i => (i.zero, i.size, i.bytes)) = some (some (.agg #[.int .i64 0, .int .i64 0]), 2, 16) := by kernel_rfl
theorem insCells_app (a b : List Ins) : insCells (a ++ b) = insCells a ++ insCells b := by simp [insCells]
theorem idle_pre_cells (k : Nat) : insCells (idlePre (k + 1)) = insCells (idlePre k) ++ [.int .i64 1, .int .i64 1, .int .i64 30, .int .i64 0] := by
  rw [idlePre, insCells_app]; rfl
theorem idle_cells (k : Nat) : insCells (idleFun k).code = insCells (idlePre k) ++ [.int .i64 11, .int .i64 0] := by
  show insCells (idlePre k ++ [⟨11, 0⟩]) = _
  rw [insCells_app]; rfl
set_option maxRecDepth 1000000 in
set_option maxHeartbeats 4000000 in
theorem vmIdle_walk (hp : PlayAny) (a b : Nat) (ha : a ≤ 255) (hb : b ≤ 65535) (w : World) (hL : Laid w) : Calls Tryd.prog 3 #[.int .u8 (a : Int), .int .u16 (b : Int)] w (fun e w' => e = .returned (.bool true) ∧ Below w.heap.size w w') := by
  have HP := Lib.hid hp
  have HL := Lib.hid hL
  clear hp hL
  go_enter Tryd.func3, Tryd.ntmps3
  go_wp2_with fail
  refine (awake_any HP.out w HL.out).mono ?_
  rintro e w1 ⟨rfl, hb1⟩
  have HB1 := Lib.hid hb1
  clear hb1
  go_wp2_with fail
  obtain ⟨k, hk, hk50⟩ : ∃ k : Nat, (a : Int) % 50 = (k : Int) ∧ k < 50 := ⟨a % 50, by omega, by omega⟩
  rw [hk]
  clear hk
  obtain ⟨i0, hi, hz0, hz1, hz2⟩ := info_parts info_instr
  go_loopw [6, 20] (fun v i wr => ∃ j : Nat, j ≤ k ∧ i = .int .i64 j ∧ Hid (wr.ownsRow w1.heap.size 26 2 v (2 * j) (insCells (idlePre j)) ∧ Below w1.heap.size w1 wr)) (fun _ i _ => k - (intOf i).toNat)
  case atStart => exact ⟨0, Nat.zero_le _, rfl, Lib.hid ⟨World.ownsRow_nil _ _ _ _, Below.refl _ _⟩⟩
  case round =>
    obtain ⟨j, hj, rfl, hs⟩ := hrel
    obtain ⟨va, vc, hv⟩ := (ownsRow_ge hs.out.1).2.2
    subst hv
    have hrow : Hid ((wr.alloc (.cells #[.int .i64 1, .int .i64 1, .int .i64 30, .int .i64 0] 26)).ownsRow w1.heap.size 26 2 (.slice va (2 * j) vc) (2 * j) (insCells (idlePre j))) := Lib.hid (hs.out.1.alloc _)
    have hrow2 : Hid ((wr.alloc (.cells #[.int .i64 11, .int .i64 0] 26)).ownsRow w1.heap.size 26 2 (.slice va (2 * j) vc) (2 * j) (insCells (idlePre j))) := Lib.hid (hs.out.1.alloc _)
    have hnews : Hid (∀ i u, ([.int .i64 1, .int .i64 1, .int .i64 30, .int .i64 0] : List Value)[i]? = some u → (wr.alloc (.cells #[.int .i64 1, .int .i64 1, .int .i64 30, .int .i64 0] 26)).cell? ((⟨wr.heap.size, 0, none⟩ : Addr).add i) = some u) := Lib.hid (fun i u hu => by rw [add_off, Nat.zero_add, cell_new]; simpa using hu)
    have hnews2 : Hid (∀ i u, ([.int .i64 11, .int .i64 0] : List Value)[i]? = some u → (wr.alloc (.cells #[.int .i64 11, .int .i64 0] 26)).cell? ((⟨wr.heap.size, 0, none⟩ : Addr).add i) = some u) := Lib.hid (fun i u hu => by rw [add_off, Nat.zero_add, cell_new]; simpa using hu)
    have hwr : w1.heap.size ≤ wr.heap.size + 1 := by have := hs.out.2.size; omega
    have hgr : Hid (∀ (o : Obj) w2, (wr.alloc o).grownBy w2 (Value.slice va (2 * j) vc).ownBlock → Below w1.heap.size w1 w2) := Lib.hid (fun o w2 hg => (hs.out.2.trans ((below_alloc wr o).mono hs.out.2.size)).grown hg (by have := hs.out.2.size; simp; omega) (fun b hb => (ownsRow_ge hs.out.1).2.1 b (by rw [hb]; simp)))
    by_cases hlt : j < k
    · go_wp2_with (at_builtin; refine wpList_append_own _ rfl (.tmp 22) (.tmp 25) 24 rfl w1.heap.size 26 i0 (.agg #[.int .i64 0, .int .i64 0]) 2 16 Tryd.underlying24 hi hz0 hz1 hz2 rfl (by decide) (.slice va (2 * j) vc) (2 * j) (insCells (idlePre j)) rfl hrow.out ⟨wr.heap.size, 0, none⟩ 2 2 [.int .i64 1, .int .i64 1, .int .i64 30, .int .i64 0] rfl rfl hnews.out (by simp [Value.oneCell']) (by unfold maxLen; omega) (by omega) (by simp; omega) ?_; intro v' w2 hown hg _; have HO := Lib.hid hown; have HB2 := Lib.hid (hgr.out _ w2 hg); clear hown hg)
      go_roundw
      case rel => exact ⟨j + 1, by omega, by go_num, Lib.hid ⟨by have := HO.out; rw [← idle_pre_cells] at this; exact this, HB2.out⟩⟩
      case measure => simp [intOf]; omega
    · obtain rfl : j = k := by omega
      go_upto_region 10 with (at_builtin; refine wpList_append_own _ rfl (.tmp 28) (.tmp 30) 24 rfl w1.heap.size 26 i0 (.agg #[.int .i64 0, .int .i64 0]) 2 16 Tryd.underlying24 hi hz0 hz1 hz2 rfl (by decide) (.slice va (2 * j) vc) (2 * j) (insCells (idlePre j)) rfl hrow2.out ⟨wr.heap.size, 0, none⟩ 1 1 [.int .i64 11, .int .i64 0] rfl rfl hnews2.out (by simp [Value.oneCell']) (by unfold maxLen; omega) (by omega) (by simp; omega) ?_; intro v' w2 hown hg _; have HO := Lib.hid hown; have HB2 := Lib.hid (hgr.out _ w2 hg); clear hown hg)
      have hHO := HO.out
      rw [← idle_cells] at hHO
      have hB12 := Lib.hid (HB1.out.then HB2.out)
      obtain ⟨g, cap, hv', hgw, hcap, hcap2, hcells⟩ : ∃ g cap, v' = .slice (some ⟨g, 0, none⟩) (2 * j + 1) cap ∧ g < w2.heap.size ∧ 2 * j + 1 ≤ cap ∧ cap ≤ 9223372036854775807 ∧ Cells w2 g (insCells (idleFun j).code) := by
        rcases hHO.2 with ⟨_, h0⟩ | ⟨g, cap, cur, rfl, _, hg, hc, hcm, _⟩
        · omega
        · refine ⟨g, cap, rfl, (Array.getElem?_eq_some_iff.1 hg).1, hc, by unfold maxLen at hcm; omega, fun i u hu => ?_⟩
          have hl := (List.getElem?_eq_some_iff.1 hu).1
          rw [insCells_len, idle_len] at hl
          rw [hHO.cellAt i (by omega)]; exact hu
      subst hv'
      have HCL := Lib.hid hcells
      obtain ⟨W3, hW3⟩ : ∃ V, V = (w2.alloc (.cells #[.string ⟨#[102]⟩, .int .i64 0, .int .i64 0, .bool false, .slice (some ⟨g, 0, none⟩) (2 * j + 1) cap] 28)).alloc (.cells #[.slice none 0 0, .int .i64 0, .slice (some ⟨w2.heap.size, 0, none⟩) 1 1] 32) := ⟨_, rfl⟩
      have hb3 : Below w2.heap.size w2 W3 := by rw [hW3]; exact (below_alloc _ _).then (below_alloc _ _)
      have hf3 : Cells W3 w2.heap.size [.string ⟨#[102]⟩, .int .i64 0, .int .i64 0, .bool false, .slice (some ⟨g, 0, none⟩) (2 * j + 1) cap] := by rw [hW3]; exact cells_new.alloc _
      have hc3 : Hid (Cells W3 (w2.heap.size + 1) [.slice none 0 0, .int .i64 0, .slice (some ⟨w2.heap.size, 0, none⟩) 1 1]) := by
        rw [hW3]
        have := @cells_new (w2.alloc (.cells #[.string ⟨#[102]⟩, .int .i64 0, .int .i64 0, .bool false, .slice (some ⟨g, 0, none⟩) (2 * j + 1) cap] 28)) #[.slice none 0 0, .int .i64 0, .slice (some ⟨w2.heap.size, 0, none⟩) 1 1] 32
        exact Lib.hid (by simpa using this)
      have hC : Hid (CodV W3.heap.size W3 (.agg #[.slice none 0 0, .int .i64 0, .slice (some ⟨w2.heap.size, 0, none⟩) 1 1]) (idleCod j)) := Lib.hid (by
        refine ⟨_, _, rfl, ⟨none, 0, rfl, by simp [idleCod], by simp [idleCod], by omega, .inl rfl⟩, ⟨_, 1, rfl, by simp [idleCod], by simp [idleCod], by omega, .inr ⟨_, 0, rfl, World.block_lt_of_cell? W3 _ (hf3 0 _ rfl), fun i x hx => ?_⟩⟩, by simp [idleCod, in64]⟩
        match i, hx with
        | 0, hx =>
          obtain rfl : x = idleFun j := by simpa [idleCod] using hx.symm
          refine ⟨hf3 0 _ rfl, hf3 1 _ rfl, hf3 2 _ rfl, hf3 3 _ rfl, ⟨_, hf3 4 _ rfl, ?_⟩, (show (⟨#[102]⟩ : ByteArray).size ≤ 140737488355328 by decide), by simp [idleFun, in64], by simp [idleFun, in64]⟩
          have h1 := inss_of (B := W3.heap.size) (w := W3) (b := g) (cap := cap) (idleFun j).code (hcells.keep hb3) (fun x hx => by rcases idle_mem hx with rfl | rfl | rfl <;> simp [in64]) (Nat.lt_of_lt_of_le hgw hb3.size) (by rw [idle_len]; omega) (by rw [idle_len]; omega) hcap2
          rw [idle_len] at h1
          exact h1
        | i + 1, hx => simp [idleCod] at hx)
      have HB3 := Lib.hid (hB12.out.then hb3)
      clear hcells hHO hf3 hb3
      go_upto_region 11 with fail
      rw [← hW3]
      clear hW3
      have c0 := hc3.out 0 _ rfl
      have c1 := hc3.out 1 _ rfl
      have c2 := hc3.out 2 _ rfl
      have zc := World.block_lt_of_cell? W3 _ c0
      obtain ⟨cb, hcb⟩ : ∃ n, n = w2.heap.size + 1 := ⟨_, rfl⟩
      rw [← hcb] at c0 c1 c2 zc ⊢
      have HCB := Lib.hid hcb
      clear hcb hc3
      have hsm : Small (idleCod j) := fun y hy => by
        simp only [idleCod, List.mem_singleton] at hy
        rw [hy, idle_len]; omega
      have HSM := Lib.hid hsm
      have hxv : ∀ (B : Nat) (V : World), CalV B V (.agg #[.string ⟨#[102]⟩, .slice none 0 0]) idleCal := fun B V => ⟨_, rfl, ⟨none, 0, rfl, by simp [idleCal], by simp [idleCal], by omega, .inl rfl⟩, by decide⟩
      have HXV := Lib.hid hxv
      clear hsm hxv
      go_wp2_with fail
      refine (Start_is (m1 := idleEnd (b : Int)) (idle_sound hk50) HSM.out (idle_given (by omega) (by omega)) idle_law mod_nil _ _ W3.heap.size W3 (HL.out.below HB3.out) (Nat.le_refl _) hC.out (HXV.out _ _)).mono ?_
      rintro e w4 ⟨fa4, fc4, rfl, hS4, hb4⟩
      rw [show machCells (.slice fa4 (idleEnd (b : Int)).frames.length fc4) (idleEnd (b : Int)) = #[.slice fa4 0 fc4, .int .i64 5, .int .i64 0, .int .i64 0, .int .i64 0, .int .i64 6, .int .i64 (b : Int), .int .i64 0, .int .i64 100000] from rfl]
      have HS4 : Hid (SliceOf w4.heap.size w4 4 (FraE w4.heap.size) (.slice fa4 0 fc4) []) := Lib.hid hS4
      obtain ⟨A4, hA4⟩ : ∃ V, V = w4.alloc (.cells #[.slice fa4 0 fc4, .int .i64 5, .int .i64 0, .int .i64 0, .int .i64 0, .int .i64 6, .int .i64 (b : Int), .int .i64 0, .int .i64 100000] 38) := ⟨_, rfl⟩
      have hAb4 : Below w4.heap.size w4 A4 := by rw [hA4]; exact below_alloc _ _
      have HK4 : Hid (Cells A4 w4.heap.size [.slice fa4 0 fc4, .int .i64 5, .int .i64 0, .int .i64 0, .int .i64 0, .int .i64 6, .int .i64 (b : Int), .int .i64 0, .int .i64 100000]) := by rw [hA4]; exact Lib.hid cells_new
      have c0 := keepC (hb4.then hAb4) c0
      have c1 := keepC (hb4.then hAb4) c1
      have c2 := keepC (hb4.then hAb4) c2
      have zc := World.block_lt_of_cell? A4 _ c0
      have hC4 : Hid (CodV A4.heap.size A4 (.agg #[.slice none 0 0, .int .i64 0, .slice (some ⟨w2.heap.size, 0, none⟩) 1 1]) (idleCod j)) := Lib.hid ((hC.out.below (hb4.then hAb4)).up (hb4.then hAb4).size)
      have HB4 := Lib.hid ((HB3.out.then hb4).then hAb4)
      have HS4 := Lib.hid ((HS4.out.fras hAb4).up hAb4.size (fun _ _ _ h => h.up hAb4.size))
      obtain ⟨b4, hb4k⟩ : ∃ n, n = w4.heap.size := ⟨_, rfl⟩
      go_upto_region 12 with fail
      rw [← hA4, ← hb4k]
      rw [← hb4k] at HK4
      clear hA4 hAb4 hb4 hS4 hb4k
      have hmv : ∀ (B : Nat) (V : World), MmV B V (.agg #[.slice none 0 0, .slice none 0 0]) ⟨[], []⟩ := fun B V => ⟨_, _, rfl, ⟨none, 0, rfl, by simp, by simp, by omega, .inl rfl⟩, ⟨none, 0, rfl, by simp, by simp, by omega, .inl rfl⟩⟩
      have HMV := Lib.hid hmv
      clear hmv
      go_wp2_with fail
      refine (Run_is HP.out (m := ⟨[], []⟩) (o := ⟨6, 0, 0, 0⟩) (p := ⟨⟨[], []⟩, [], 0⟩) (idle_sound hk50) (by simp [fitsB, idleCod]) HSM.out (idle_given (by omega) (by omega)) idle_law (.fail rfl) _ _ _ A4.heap.size A4 (HL.out.below HB4.out) (Nat.le_refl _) hC4.out (HMV.out _ _) (HXV.out _ _)).mono ?_
      rintro e w5 ⟨ga5, na5, gn5, gc5, nn5, nc5, rfl, hb5⟩
      rw [show outCells (OutC.mk 6 0 0 0).fault (OutC.mk 6 0 0 0).value (OutC.mk 6 0 0 0).compares (OutC.mk 6 0 0 0).nodes = #[.int .i64 6, .int .i64 0, .int .i64 0, .int .i64 0, .int .i64 0] from rfl]
      obtain ⟨A6, hA6⟩ : ∃ V, V = ((w5.alloc (.cells #[.int .i64 6, .int .i64 0, .int .i64 0, .int .i64 0, .int .i64 0] 46)).alloc (.cells #[.slice ga5 gn5 gc5, .slice na5 nn5 nc5] 49)).alloc (.cells #[.slice none 0 0, .int .i64 5, .int .i64 0, .int .i64 0, .int .i64 0, .int .i64 6, .int .i64 (b : Int), .int .i64 0, .int .i64 100000] 38) := ⟨_, rfl⟩
      have hAb6 : Below w5.heap.size w5 A6 := by rw [hA6]; exact ((below_alloc _ _).then (below_alloc _ _)).then (below_alloc _ _)
      have HK5 : Hid (Cells A6 w5.heap.size [.int .i64 6, .int .i64 0, .int .i64 0, .int .i64 0, .int .i64 0]) := by rw [hA6]; exact Lib.hid ((cells_new.alloc _).alloc _)
      have HK6 : Hid (Cells A6 (w5.heap.size + 1 + 1) [.slice none 0 0, .int .i64 5, .int .i64 0, .int .i64 0, .int .i64 0, .int .i64 6, .int .i64 (b : Int), .int .i64 0, .int .i64 100000]) := by
        obtain ⟨V, hV⟩ : ∃ V, V = (w5.alloc (.cells #[.int .i64 6, .int .i64 0, .int .i64 0, .int .i64 0, .int .i64 0] 46)).alloc (.cells #[.slice ga5 gn5 gc5, .slice na5 nn5 nc5] 49) := ⟨_, rfl⟩
        have hVs : V.heap.size = w5.heap.size + 1 + 1 := by rw [hV]; simp
        rw [hA6, ← hV, ← hVs]
        exact Lib.hid cells_new
      have HK4 := Lib.hid (HK4.out.keep (hb5.then hAb6))
      have HS4 := Lib.hid ((HS4.out.fras (hb5.then hAb6)).up (hb5.then hAb6).size (fun _ _ _ h => h.up (hb5.then hAb6).size))
      have HB6 := Lib.hid ((HB4.out.then hb5).then hAb6)
      go_upto_region 14 with fail
      rw [← hA6]
      clear hA6 hAb6 hb5
      have f40 := HK4.out 0 _ rfl
      have f41 := HK4.out 1 _ rfl
      have f42 := HK4.out 2 _ rfl
      have f43 := HK4.out 3 _ rfl
      have f44 := HK4.out 4 _ rfl
      have f45 := HK4.out 5 _ rfl
      have f46 := HK4.out 6 _ rfl
      have f47 := HK4.out 7 _ rfl
      have f48 := HK4.out 8 _ rfl
      have zf4 := World.block_lt_of_cell? A6 _ f40
      have f50 := HK5.out 0 _ rfl
      have f51 := HK5.out 1 _ rfl
      have f52 := HK5.out 2 _ rfl
      have f53 := HK5.out 3 _ rfl
      have f54 := HK5.out 4 _ rfl
      have zf5 := World.block_lt_of_cell? A6 _ f50
      have f60 := HK6.out 0 _ rfl
      have f61 := HK6.out 1 _ rfl
      have f62 := HK6.out 2 _ rfl
      have f63 := HK6.out 3 _ rfl
      have f64 := HK6.out 4 _ rfl
      have f65 := HK6.out 5 _ rfl
      have f66 := HK6.out 6 _ rfl
      have f67 := HK6.out 7 _ rfl
      have f68 := HK6.out 8 _ rfl
      have zf6 := World.block_lt_of_cell? A6 _ f60
      go_wp2_with fail
      refine (Same_eq (idleEnd (b : Int)) (.slice fa4 0 fc4) (.slice none 0 0) A6.heap.size 0 A6 (Nat.le_refl _) (Nat.zero_le _) HS4.out ⟨none, 0, rfl, by simp [idleEnd], by simp [idleEnd], by omega, .inl rfl⟩).mono ?_
      rintro e w7 ⟨rfl, hb7⟩
      have f50 := keepC hb7 f50
      have f51 := keepC hb7 f51
      have f52 := keepC hb7 f52
      have f53 := keepC hb7 f53
      have f54 := keepC hb7 f54
      have zf5 := World.block_lt_of_cell? w7 _ f50
      have HB7 := Lib.hid (HB6.out.then hb7)
      clear hb7
      go_wp2_with fail
      go_ret
      exact ⟨rfl, HB7.out⟩
end Go.Proofs.YtbmeoklmachjpaaDoor
