/- The steps, one instruction each. -/
import Derived.Test.YtbmeoklmachjpaaDoorStep0
import Derived.Deep.RegionHeld3
import Derived.Deep.RegionWith
set_option linter.unusedVariables false
set_option linter.unusedSimpArgs false
namespace Go.Proofs.YtbmeoklmachjpaaDoor
open Go.RowKit

set_option maxRecDepth 100000 in
set_option maxHeartbeats 2000000 in
theorem step_30 {w : World} {bm fb cap : Nat} {cur : Array Value} {cs : List Value} {fs : List Fra} {f : Fra} {lv sv : Value} {m : Mch} {Fi Fl Fs : List Nat} (fa ga : Option Addr) (fn fc gc : Nat) (g : Int) (h : TopOwn w bm fb cap cur cs fs f lv sv m Fi Fl Fs) (hn : fs.length < 200)
    (B : Nat) (hB : ∀ b ∈ bm :: fb :: (Fi ++ (Fl ++ Fs)), B ≤ b) (funcs : List Fun) (hfl : funcs.length ≤ 1000000) (hfs : SliceOf B w 5 (FunE B) (.slice ga funcs.length gc) funcs) (k : Nat) (hk : f.fn = k) (y : Fun) (hy : funcs[k]? = some y) (p : Nat) (hp : f.pc = p) (x : Ins) (hx : y.code[p]? = some x) (hcl : y.code.length ≤ 1000000)
    (hid : 0 ≤ m.idle ∧ m.idle < 100000) (hop : x.op = 30) (l : List Int) (v : Int) (hst : f.stack = l ++ [v]) :
    Calls Tryd.prog 54 #[runV (.slice fa fn fc) (.slice ga funcs.length gc) g bm] w (StepPost w bm (bm :: fb :: (Fi ++ (Fl ++ Fs))) (.go { m with idle := m.idle + 1, frames := fs ++ [{ f with pc := f.pc + 1, stack := l }] })) := by
  have HFS := Lib.hid hfs
  have HOP := Lib.hid hop
  have HK := Lib.hid hk
  have HP := Lib.hid hp
  clear hop hk hp
  obtain ⟨a0, cap0, he0, hl1, hl2, hl3, hE⟩ := hfs
  obtain ⟨rfl, rfl⟩ : ga = a0 ∧ gc = cap0 := by simpa using he0
  have hkl : k < funcs.length := (List.getElem?_eq_some_iff.1 hy).1
  rcases hE with h0 | ⟨b, o, rfl, hbB, hE⟩
  · rw [h0] at hy; simp at hy
  have hEk := Lib.hid (hE k y hy)
  obtain ⟨yv, q4, hyc⟩ := hEk.out.2.2.2.2.1
  obtain ⟨ya, ycap, rfl, hyl1, hyl2, hyl3, hEc⟩ := hyc
  have hpl : p < y.code.length := (List.getElem?_eq_some_iff.1 hx).1
  rcases hEc with h0 | ⟨yb, yo, rfl, hybB, hEc⟩
  · rw [h0] at hx; simp at hx
  obtain ⟨i0, i1, hi64, hi64a⟩ := hEc p x hx
  obtain ⟨xop, xa⟩ := x
  dsimp only at i0 i1 hi64 hi64a
  obtain ⟨WA, hWA⟩ : ∃ W, W = w.alloc (.cells #[.slice fa fn fc, .int .i64 g, .slice (some ⟨b, o, none⟩) funcs.length gc, .pointer (some ⟨bm, 0, none⟩)] 104) := ⟨_, rfl⟩
  have hbox : Hid (Cells WA w.heap.size [.slice fa fn fc, .int .i64 g, .slice (some ⟨b, o, none⟩) funcs.length gc, .pointer (some ⟨bm, 0, none⟩)]) := by rw [hWA]; exact cells_new
  have hWAb : Below w.heap.size w WA := by rw [hWA]; exact below_alloc w _
  have hWs : WA.heap.size = w.heap.size + 1 := by rw [hWA]; simp
  have H := Lib.hid h
  have hlt := Lib.hid h.lt
  have HB := Lib.hid hB
  have hnot : w.heap.size ∉ bm :: fb :: (Fi ++ (Fl ++ Fs)) := fun e => by have := hlt.out _ e; omega
  obtain ⟨h2, hM2⟩ := m_put (m' := { m with idle := m.idle + 1 }) h hWAb 8 (.int .i64 (m.idle + 1)) rfl
  obtain ⟨W2, hW2⟩ : ∃ W, W = WA.setCell ⟨bm, 8, none⟩ (.int .i64 (m.idle + 1)) := ⟨_, rfl⟩
  rw [← hW2] at h2 hM2
  have H2 := Lib.hid h2
  have HM2 := Lib.hid hM2
  have hA := h.keep hWAb
  have c8 := hA.cIdle
  have f8 := hA.frm 8
  have k0 := hbox.out 0 _ rfl
  have k1 := hbox.out 1 _ rfl
  have k2 := hbox.out 2 _ rfl
  have k3 := hbox.out 3 _ rfl
  have hbw : ¬ w.heap.size = bm := fun e => hnot (by simp [e])
  have hbm : bm < w.heap.size := h.lt bm (by simp)
  have hfb : fb < w.heap.size := h.lt fb (by simp)
  have HWAb := Lib.hid hWAb
  have HI0 := Lib.hid i0
  have HI1 := Lib.hid i1
  have HQ4 := Lib.hid q4
  clear h hB he0 hE hEc h2 hM2 hA i0 i1 q4 hWAb
  unfold runV
  go_enter Tryd.func54, Tryd.ntmps54
  go_upto_region 1 with fail
  rw [← hWA]
  clear hWA
  go_upto_region 4 with fail
  rw [← hW2]
  have hM2w : Hid (Below w.heap.size WA W2 → True) := fun _ => trivial
  have k0 : W2.cell? ⟨w.heap.size, 0, none⟩ = some (.slice fa fn fc) := by rw [hW2]; go_simp
  have k1 : W2.cell? ⟨w.heap.size, 1, none⟩ = some (.int .i64 g) := by rw [hW2]; go_simp
  have k2 : W2.cell? ⟨w.heap.size, 2, none⟩ = some (.slice (some ⟨b, o, none⟩) funcs.length gc) := by rw [hW2]; go_simp
  have k3 : W2.cell? ⟨w.heap.size, 3, none⟩ = some (.pointer (some ⟨bm, 0, none⟩)) := by rw [hW2]; go_simp
  have HW2 := Lib.hid hW2
  clear hW2 c8 f8 hM2w
  go_wp2_with fail
  refine (top_any fa (some ⟨b, o, none⟩) fn fc funcs.length gc g H2.out (by omega)).mono ?_
  rintro e w3 ⟨rfl, hb3⟩
  have H3 := Lib.hid (H2.out.keep hb3)
  have HM3 := Lib.hid (HM2.out.trans (Mods.of_below hb3))
  have hBw : B ≤ w.heap.size := Nat.le_of_lt (Nat.lt_of_le_of_lt (HB.out bm (by simp)) hbm)
  have hnB : ∀ bb, bb < B → bb ∉ bm :: fb :: (Fi ++ (Fl ++ Fs)) := fun bb hb e => by have := HB.out bb e; omega
  have k0 := keepC hb3 k0
  have k1 := keepC hb3 k1
  have k2 := keepC hb3 k2
  have k3 := keepC hb3 k3
  have i0 := HM3.out.cell HI0.out (hnB _ hybB)
  have i1 := HM3.out.cell HI1.out (hnB _ hybB)
  have q4 := HM3.out.cell HQ4.out (hnB _ hbB)
  have cfn := H3.out.cFn
  have cpc := H3.out.cPc
  rw [HK.out] at cfn
  rw [HP.out] at cpc
  have fpc := H3.out.frf (fs.length * 4 + 1)
  have hsz3 : w.heap.size < w3.heap.size := World.block_lt_of_cell? w3 _ k0
  have hfb3 : fb < w3.heap.size := by omega
  have hbm3 : bm < w3.heap.size := by omega
  have hi0 : (0 : Int) ≤ (k : Int) := Int.natCast_nonneg _
  have hi1 : (k : Int) < (funcs.length : Int) := by omega
  have hj0 : (0 : Int) ≤ (p : Int) := Int.natCast_nonneg _
  have hj1 : (p : Int) < (y.code.length : Int) := by omega
  have hyb3 := World.block_lt_of_cell? w3 _ i0
  have hbb3 := World.block_lt_of_cell? w3 _ q4
  clear hb3
  go_wp2_with fail
  go_region
  go_upto_region 7 with fail
  obtain ⟨h4, hM4⟩ := pc_put H3.out ((p : Int) + 1) ⟨by omega, by omega⟩
  obtain ⟨W4, hW4⟩ : ∃ W, W = ((w3.setCell ⟨fb, fs.length * 4 + 1, none⟩ (.int .i64 ((p : Int) + 1))).alloc (.cells #[.int .i64 xop, .int .i64 xa] 26)).drew := ⟨_, rfl⟩
  have hb4 : Below (w3.setCell ⟨fb, fs.length * 4 + 1, none⟩ (.int .i64 ((p : Int) + 1))).heap.size (w3.setCell ⟨fb, fs.length * 4 + 1, none⟩ (.int .i64 ((p : Int) + 1))) W4 := by rw [hW4]; exact bdrew (below_alloc _ _) 1
  have H4 := Lib.hid (h4.keep hb4)
  have HM4 := Lib.hid ((HM3.out.trans hM4).trans (Mods.of_below hb4))
  have d0 : W4.cell? ⟨w3.heap.size, 0, none⟩ = some (.int .i64 xop) := by rw [hW4]; go_simp
  have d1 : W4.cell? ⟨w3.heap.size, 1, none⟩ = some (.int .i64 xa) := by rw [hW4]; go_simp
  have hnfb : ¬ w.heap.size = fb := fun e => hnot (by simp [e])
  have k0 : W4.cell? ⟨w.heap.size, 0, none⟩ = some (.slice fa fn fc) := by rw [hW4]; go_simp
  have k1 : W4.cell? ⟨w.heap.size, 1, none⟩ = some (.int .i64 g) := by rw [hW4]; go_simp
  have k2 : W4.cell? ⟨w.heap.size, 2, none⟩ = some (.slice (some ⟨b, o, none⟩) funcs.length gc) := by rw [hW4]; go_simp
  have k3 : W4.cell? ⟨w.heap.size, 3, none⟩ = some (.pointer (some ⟨bm, 0, none⟩)) := by rw [hW4]; go_simp
  have hds : w3.heap.size < W4.heap.size := World.block_lt_of_cell? W4 _ d0
  have hdn : w3.heap.size ∉ bm :: fb :: (Fi ++ (Fl ++ Fs)) := fun e => by have := hlt.out _ e; omega
  have hnd := H.out.nodup
  rw [← hW4]
  obtain ⟨ib, hib⟩ : ∃ ib, ib = w3.heap.size := ⟨_, rfl⟩
  rw [← hib]
  rw [← hib] at d0 d1 hds hdn
  have hsz4 : w.heap.size < W4.heap.size := by omega
  have hibs : w.heap.size < ib := by omega
  have HEf := Lib.hid hEk.out
  clear hW4 hib H3 HM3 H2 HM2 HW2 hb4 h4 hM4 i0 i1 q4 cfn cpc fpc hfb3 hbm3 hyb3 hbb3 hsz3 HI0 HI1 HQ4 hbox HWAb hWs hEk
  obtain rfl : xop = 30 := HOP.out
  have HST := Lib.hid hst
  clear hst
  go_wp2_with fail
  refine (pop_any fa (some ⟨b, o, none⟩) fn fc funcs.length gc g H4.out (by omega) l v HST.out).mono ?_
  rintro e w5 ⟨rfl, cur5, sv5, Fs5, hT5, hM5⟩
  have HT5 := Lib.hid hT5
  have HM5 := Lib.hid (HM4.out.trans hM5)
  clear hT5 hM5
  go_wp2_with fail
  go_end0
  rw [HP.out]
  exact ⟨rfl, _, (HT5.out.reframe _).own rfl, HM5.out⟩
set_option maxRecDepth 100000 in
set_option maxHeartbeats 2000000 in
theorem step_12a {w : World} {bm fb cap : Nat} {cur : Array Value} {cs : List Value} {fs : List Fra} {f : Fra} {lv sv : Value} {m : Mch} {Fi Fl Fs : List Nat} (fa ga : Option Addr) (fn fc gc : Nat) (g : Int) (h : TopOwn w bm fb cap cur cs fs f lv sv m Fi Fl Fs) (hn : fs.length < 200)
    (B : Nat) (hB : ∀ b ∈ bm :: fb :: (Fi ++ (Fl ++ Fs)), B ≤ b) (funcs : List Fun) (hfl : funcs.length ≤ 1000000) (hfs : SliceOf B w 5 (FunE B) (.slice ga funcs.length gc) funcs) (k : Nat) (hk : f.fn = k) (y : Fun) (hy : funcs[k]? = some y) (p : Nat) (hp : f.pc = p) (x : Ins) (hx : y.code[p]? = some x) (hcl : y.code.length ≤ 1000000)
    (hid : 0 ≤ m.idle ∧ m.idle < 100000) (hop : x.op = 12) (l : List Int) (v : Int) (hst : f.stack = l ++ [v]) (hv0 : v ≠ 0) :
    Calls Tryd.prog 54 #[runV (.slice fa fn fc) (.slice ga funcs.length gc) g bm] w (StepPost w bm (bm :: fb :: (Fi ++ (Fl ++ Fs))) (.go { m with idle := m.idle + 1, frames := fs ++ [{ f with pc := f.pc + 1, stack := l }] })) := by
  have HFS := Lib.hid hfs
  have HOP := Lib.hid hop
  have HK := Lib.hid hk
  have HP := Lib.hid hp
  clear hop hk hp
  obtain ⟨a0, cap0, he0, hl1, hl2, hl3, hE⟩ := hfs
  obtain ⟨rfl, rfl⟩ : ga = a0 ∧ gc = cap0 := by simpa using he0
  have hkl : k < funcs.length := (List.getElem?_eq_some_iff.1 hy).1
  rcases hE with h0 | ⟨b, o, rfl, hbB, hE⟩
  · rw [h0] at hy; simp at hy
  have hEk := Lib.hid (hE k y hy)
  obtain ⟨yv, q4, hyc⟩ := hEk.out.2.2.2.2.1
  obtain ⟨ya, ycap, rfl, hyl1, hyl2, hyl3, hEc⟩ := hyc
  have hpl : p < y.code.length := (List.getElem?_eq_some_iff.1 hx).1
  rcases hEc with h0 | ⟨yb, yo, rfl, hybB, hEc⟩
  · rw [h0] at hx; simp at hx
  obtain ⟨i0, i1, hi64, hi64a⟩ := hEc p x hx
  obtain ⟨xop, xa⟩ := x
  dsimp only at i0 i1 hi64 hi64a
  obtain ⟨WA, hWA⟩ : ∃ W, W = w.alloc (.cells #[.slice fa fn fc, .int .i64 g, .slice (some ⟨b, o, none⟩) funcs.length gc, .pointer (some ⟨bm, 0, none⟩)] 104) := ⟨_, rfl⟩
  have hbox : Hid (Cells WA w.heap.size [.slice fa fn fc, .int .i64 g, .slice (some ⟨b, o, none⟩) funcs.length gc, .pointer (some ⟨bm, 0, none⟩)]) := by rw [hWA]; exact cells_new
  have hWAb : Below w.heap.size w WA := by rw [hWA]; exact below_alloc w _
  have hWs : WA.heap.size = w.heap.size + 1 := by rw [hWA]; simp
  have H := Lib.hid h
  have hlt := Lib.hid h.lt
  have HB := Lib.hid hB
  have hnot : w.heap.size ∉ bm :: fb :: (Fi ++ (Fl ++ Fs)) := fun e => by have := hlt.out _ e; omega
  obtain ⟨h2, hM2⟩ := m_put (m' := { m with idle := m.idle + 1 }) h hWAb 8 (.int .i64 (m.idle + 1)) rfl
  obtain ⟨W2, hW2⟩ : ∃ W, W = WA.setCell ⟨bm, 8, none⟩ (.int .i64 (m.idle + 1)) := ⟨_, rfl⟩
  rw [← hW2] at h2 hM2
  have H2 := Lib.hid h2
  have HM2 := Lib.hid hM2
  have hA := h.keep hWAb
  have c8 := hA.cIdle
  have f8 := hA.frm 8
  have k0 := hbox.out 0 _ rfl
  have k1 := hbox.out 1 _ rfl
  have k2 := hbox.out 2 _ rfl
  have k3 := hbox.out 3 _ rfl
  have hbw : ¬ w.heap.size = bm := fun e => hnot (by simp [e])
  have hbm : bm < w.heap.size := h.lt bm (by simp)
  have hfb : fb < w.heap.size := h.lt fb (by simp)
  have HWAb := Lib.hid hWAb
  have HI0 := Lib.hid i0
  have HI1 := Lib.hid i1
  have HQ4 := Lib.hid q4
  clear h hB he0 hE hEc h2 hM2 hA i0 i1 q4 hWAb
  unfold runV
  go_enter Tryd.func54, Tryd.ntmps54
  go_upto_region 1 with fail
  rw [← hWA]
  clear hWA
  go_upto_region 4 with fail
  rw [← hW2]
  have hM2w : Hid (Below w.heap.size WA W2 → True) := fun _ => trivial
  have k0 : W2.cell? ⟨w.heap.size, 0, none⟩ = some (.slice fa fn fc) := by rw [hW2]; go_simp
  have k1 : W2.cell? ⟨w.heap.size, 1, none⟩ = some (.int .i64 g) := by rw [hW2]; go_simp
  have k2 : W2.cell? ⟨w.heap.size, 2, none⟩ = some (.slice (some ⟨b, o, none⟩) funcs.length gc) := by rw [hW2]; go_simp
  have k3 : W2.cell? ⟨w.heap.size, 3, none⟩ = some (.pointer (some ⟨bm, 0, none⟩)) := by rw [hW2]; go_simp
  have HW2 := Lib.hid hW2
  clear hW2 c8 f8 hM2w
  go_wp2_with fail
  refine (top_any fa (some ⟨b, o, none⟩) fn fc funcs.length gc g H2.out (by omega)).mono ?_
  rintro e w3 ⟨rfl, hb3⟩
  have H3 := Lib.hid (H2.out.keep hb3)
  have HM3 := Lib.hid (HM2.out.trans (Mods.of_below hb3))
  have hBw : B ≤ w.heap.size := Nat.le_of_lt (Nat.lt_of_le_of_lt (HB.out bm (by simp)) hbm)
  have hnB : ∀ bb, bb < B → bb ∉ bm :: fb :: (Fi ++ (Fl ++ Fs)) := fun bb hb e => by have := HB.out bb e; omega
  have k0 := keepC hb3 k0
  have k1 := keepC hb3 k1
  have k2 := keepC hb3 k2
  have k3 := keepC hb3 k3
  have i0 := HM3.out.cell HI0.out (hnB _ hybB)
  have i1 := HM3.out.cell HI1.out (hnB _ hybB)
  have q4 := HM3.out.cell HQ4.out (hnB _ hbB)
  have cfn := H3.out.cFn
  have cpc := H3.out.cPc
  rw [HK.out] at cfn
  rw [HP.out] at cpc
  have fpc := H3.out.frf (fs.length * 4 + 1)
  have hsz3 : w.heap.size < w3.heap.size := World.block_lt_of_cell? w3 _ k0
  have hfb3 : fb < w3.heap.size := by omega
  have hbm3 : bm < w3.heap.size := by omega
  have hi0 : (0 : Int) ≤ (k : Int) := Int.natCast_nonneg _
  have hi1 : (k : Int) < (funcs.length : Int) := by omega
  have hj0 : (0 : Int) ≤ (p : Int) := Int.natCast_nonneg _
  have hj1 : (p : Int) < (y.code.length : Int) := by omega
  have hyb3 := World.block_lt_of_cell? w3 _ i0
  have hbb3 := World.block_lt_of_cell? w3 _ q4
  clear hb3
  go_wp2_with fail
  go_region
  go_upto_region 7 with fail
  obtain ⟨h4, hM4⟩ := pc_put H3.out ((p : Int) + 1) ⟨by omega, by omega⟩
  obtain ⟨W4, hW4⟩ : ∃ W, W = ((w3.setCell ⟨fb, fs.length * 4 + 1, none⟩ (.int .i64 ((p : Int) + 1))).alloc (.cells #[.int .i64 xop, .int .i64 xa] 26)).drew := ⟨_, rfl⟩
  have hb4 : Below (w3.setCell ⟨fb, fs.length * 4 + 1, none⟩ (.int .i64 ((p : Int) + 1))).heap.size (w3.setCell ⟨fb, fs.length * 4 + 1, none⟩ (.int .i64 ((p : Int) + 1))) W4 := by rw [hW4]; exact bdrew (below_alloc _ _) 1
  have H4 := Lib.hid (h4.keep hb4)
  have HM4 := Lib.hid ((HM3.out.trans hM4).trans (Mods.of_below hb4))
  have d0 : W4.cell? ⟨w3.heap.size, 0, none⟩ = some (.int .i64 xop) := by rw [hW4]; go_simp
  have d1 : W4.cell? ⟨w3.heap.size, 1, none⟩ = some (.int .i64 xa) := by rw [hW4]; go_simp
  have hnfb : ¬ w.heap.size = fb := fun e => hnot (by simp [e])
  have k0 : W4.cell? ⟨w.heap.size, 0, none⟩ = some (.slice fa fn fc) := by rw [hW4]; go_simp
  have k1 : W4.cell? ⟨w.heap.size, 1, none⟩ = some (.int .i64 g) := by rw [hW4]; go_simp
  have k2 : W4.cell? ⟨w.heap.size, 2, none⟩ = some (.slice (some ⟨b, o, none⟩) funcs.length gc) := by rw [hW4]; go_simp
  have k3 : W4.cell? ⟨w.heap.size, 3, none⟩ = some (.pointer (some ⟨bm, 0, none⟩)) := by rw [hW4]; go_simp
  have hds : w3.heap.size < W4.heap.size := World.block_lt_of_cell? W4 _ d0
  have hdn : w3.heap.size ∉ bm :: fb :: (Fi ++ (Fl ++ Fs)) := fun e => by have := hlt.out _ e; omega
  have hnd := H.out.nodup
  rw [← hW4]
  obtain ⟨ib, hib⟩ : ∃ ib, ib = w3.heap.size := ⟨_, rfl⟩
  rw [← hib]
  rw [← hib] at d0 d1 hds hdn
  have hsz4 : w.heap.size < W4.heap.size := by omega
  have hibs : w.heap.size < ib := by omega
  have HEf := Lib.hid hEk.out
  clear hW4 hib H3 HM3 H2 HM2 HW2 hb4 h4 hM4 i0 i1 q4 cfn cpc fpc hfb3 hbm3 hyb3 hbb3 hsz3 HI0 HI1 HQ4 hbox HWAb hWs hEk
  obtain rfl : xop = 12 := HOP.out
  have HST := Lib.hid hst
  clear hst
  go_wp2_with fail
  refine (pop_any fa (some ⟨b, o, none⟩) fn fc funcs.length gc g H4.out (by omega) l v HST.out).mono ?_
  rintro e w5 ⟨rfl, cur5, sv5, Fs5, hT5, hM5⟩
  have k0 := hM5.cell k0 hnot
  have k1 := hM5.cell k1 hnot
  have k2 := hM5.cell k2 hnot
  have k3 := hM5.cell k3 hnot
  have d1 := hM5.cell d1 hdn
  have hnot5 := hM5.notin hsz4 hnot
  have hdn5 := hM5.notin hds hdn
  have hsz5 : w.heap.size < w5.heap.size := World.block_lt_of_cell? w5 _ k0
  have hds5 : ib < w5.heap.size := World.block_lt_of_cell? w5 _ d1
  have HT5 := Lib.hid hT5
  have HM5 := Lib.hid (HM4.out.trans hM5)
  clear hT5 hM5
  have hv1 : ¬ v = 0 := hv0
  go_wp2_with fail
  go_end0
  rw [HP.out]
  exact ⟨rfl, _, (HT5.out.reframe _).own rfl, HM5.out⟩
set_option maxRecDepth 100000 in
set_option maxHeartbeats 2000000 in
theorem step_12b {w : World} {bm fb cap : Nat} {cur : Array Value} {cs : List Value} {fs : List Fra} {f : Fra} {lv sv : Value} {m : Mch} {Fi Fl Fs : List Nat} (fa ga : Option Addr) (fn fc gc : Nat) (g : Int) (h : TopOwn w bm fb cap cur cs fs f lv sv m Fi Fl Fs) (hn : fs.length < 200)
    (B : Nat) (hB : ∀ b ∈ bm :: fb :: (Fi ++ (Fl ++ Fs)), B ≤ b) (funcs : List Fun) (hfl : funcs.length ≤ 1000000) (hfs : SliceOf B w 5 (FunE B) (.slice ga funcs.length gc) funcs) (k : Nat) (hk : f.fn = k) (y : Fun) (hy : funcs[k]? = some y) (p : Nat) (hp : f.pc = p) (x : Ins) (hx : y.code[p]? = some x) (hcl : y.code.length ≤ 1000000)
    (hid : 0 ≤ m.idle ∧ m.idle < 100000) (hop : x.op = 12) (l : List Int) (hst : f.stack = l ++ [0]) :
    Calls Tryd.prog 54 #[runV (.slice fa fn fc) (.slice ga funcs.length gc) g bm] w (StepPost w bm (bm :: fb :: (Fi ++ (Fl ++ Fs))) (.go { m with idle := m.idle + 1, frames := fs ++ [{ f with pc := x.a, stack := l }] })) := by
  have HFS := Lib.hid hfs
  have HOP := Lib.hid hop
  have HK := Lib.hid hk
  have HP := Lib.hid hp
  clear hop hk hp
  obtain ⟨a0, cap0, he0, hl1, hl2, hl3, hE⟩ := hfs
  obtain ⟨rfl, rfl⟩ : ga = a0 ∧ gc = cap0 := by simpa using he0
  have hkl : k < funcs.length := (List.getElem?_eq_some_iff.1 hy).1
  rcases hE with h0 | ⟨b, o, rfl, hbB, hE⟩
  · rw [h0] at hy; simp at hy
  have hEk := Lib.hid (hE k y hy)
  obtain ⟨yv, q4, hyc⟩ := hEk.out.2.2.2.2.1
  obtain ⟨ya, ycap, rfl, hyl1, hyl2, hyl3, hEc⟩ := hyc
  have hpl : p < y.code.length := (List.getElem?_eq_some_iff.1 hx).1
  rcases hEc with h0 | ⟨yb, yo, rfl, hybB, hEc⟩
  · rw [h0] at hx; simp at hx
  obtain ⟨i0, i1, hi64, hi64a⟩ := hEc p x hx
  obtain ⟨xop, xa⟩ := x
  dsimp only at i0 i1 hi64 hi64a
  obtain ⟨WA, hWA⟩ : ∃ W, W = w.alloc (.cells #[.slice fa fn fc, .int .i64 g, .slice (some ⟨b, o, none⟩) funcs.length gc, .pointer (some ⟨bm, 0, none⟩)] 104) := ⟨_, rfl⟩
  have hbox : Hid (Cells WA w.heap.size [.slice fa fn fc, .int .i64 g, .slice (some ⟨b, o, none⟩) funcs.length gc, .pointer (some ⟨bm, 0, none⟩)]) := by rw [hWA]; exact cells_new
  have hWAb : Below w.heap.size w WA := by rw [hWA]; exact below_alloc w _
  have hWs : WA.heap.size = w.heap.size + 1 := by rw [hWA]; simp
  have H := Lib.hid h
  have hlt := Lib.hid h.lt
  have HB := Lib.hid hB
  have hnot : w.heap.size ∉ bm :: fb :: (Fi ++ (Fl ++ Fs)) := fun e => by have := hlt.out _ e; omega
  obtain ⟨h2, hM2⟩ := m_put (m' := { m with idle := m.idle + 1 }) h hWAb 8 (.int .i64 (m.idle + 1)) rfl
  obtain ⟨W2, hW2⟩ : ∃ W, W = WA.setCell ⟨bm, 8, none⟩ (.int .i64 (m.idle + 1)) := ⟨_, rfl⟩
  rw [← hW2] at h2 hM2
  have H2 := Lib.hid h2
  have HM2 := Lib.hid hM2
  have hA := h.keep hWAb
  have c8 := hA.cIdle
  have f8 := hA.frm 8
  have k0 := hbox.out 0 _ rfl
  have k1 := hbox.out 1 _ rfl
  have k2 := hbox.out 2 _ rfl
  have k3 := hbox.out 3 _ rfl
  have hbw : ¬ w.heap.size = bm := fun e => hnot (by simp [e])
  have hbm : bm < w.heap.size := h.lt bm (by simp)
  have hfb : fb < w.heap.size := h.lt fb (by simp)
  have HWAb := Lib.hid hWAb
  have HI0 := Lib.hid i0
  have HI1 := Lib.hid i1
  have HQ4 := Lib.hid q4
  clear h hB he0 hE hEc h2 hM2 hA i0 i1 q4 hWAb
  unfold runV
  go_enter Tryd.func54, Tryd.ntmps54
  go_upto_region 1 with fail
  rw [← hWA]
  clear hWA
  go_upto_region 4 with fail
  rw [← hW2]
  have hM2w : Hid (Below w.heap.size WA W2 → True) := fun _ => trivial
  have k0 : W2.cell? ⟨w.heap.size, 0, none⟩ = some (.slice fa fn fc) := by rw [hW2]; go_simp
  have k1 : W2.cell? ⟨w.heap.size, 1, none⟩ = some (.int .i64 g) := by rw [hW2]; go_simp
  have k2 : W2.cell? ⟨w.heap.size, 2, none⟩ = some (.slice (some ⟨b, o, none⟩) funcs.length gc) := by rw [hW2]; go_simp
  have k3 : W2.cell? ⟨w.heap.size, 3, none⟩ = some (.pointer (some ⟨bm, 0, none⟩)) := by rw [hW2]; go_simp
  have HW2 := Lib.hid hW2
  clear hW2 c8 f8 hM2w
  go_wp2_with fail
  refine (top_any fa (some ⟨b, o, none⟩) fn fc funcs.length gc g H2.out (by omega)).mono ?_
  rintro e w3 ⟨rfl, hb3⟩
  have H3 := Lib.hid (H2.out.keep hb3)
  have HM3 := Lib.hid (HM2.out.trans (Mods.of_below hb3))
  have hBw : B ≤ w.heap.size := Nat.le_of_lt (Nat.lt_of_le_of_lt (HB.out bm (by simp)) hbm)
  have hnB : ∀ bb, bb < B → bb ∉ bm :: fb :: (Fi ++ (Fl ++ Fs)) := fun bb hb e => by have := HB.out bb e; omega
  have k0 := keepC hb3 k0
  have k1 := keepC hb3 k1
  have k2 := keepC hb3 k2
  have k3 := keepC hb3 k3
  have i0 := HM3.out.cell HI0.out (hnB _ hybB)
  have i1 := HM3.out.cell HI1.out (hnB _ hybB)
  have q4 := HM3.out.cell HQ4.out (hnB _ hbB)
  have cfn := H3.out.cFn
  have cpc := H3.out.cPc
  rw [HK.out] at cfn
  rw [HP.out] at cpc
  have fpc := H3.out.frf (fs.length * 4 + 1)
  have hsz3 : w.heap.size < w3.heap.size := World.block_lt_of_cell? w3 _ k0
  have hfb3 : fb < w3.heap.size := by omega
  have hbm3 : bm < w3.heap.size := by omega
  have hi0 : (0 : Int) ≤ (k : Int) := Int.natCast_nonneg _
  have hi1 : (k : Int) < (funcs.length : Int) := by omega
  have hj0 : (0 : Int) ≤ (p : Int) := Int.natCast_nonneg _
  have hj1 : (p : Int) < (y.code.length : Int) := by omega
  have hyb3 := World.block_lt_of_cell? w3 _ i0
  have hbb3 := World.block_lt_of_cell? w3 _ q4
  clear hb3
  go_wp2_with fail
  go_region
  go_upto_region 7 with fail
  obtain ⟨h4, hM4⟩ := pc_put H3.out ((p : Int) + 1) ⟨by omega, by omega⟩
  obtain ⟨W4, hW4⟩ : ∃ W, W = ((w3.setCell ⟨fb, fs.length * 4 + 1, none⟩ (.int .i64 ((p : Int) + 1))).alloc (.cells #[.int .i64 xop, .int .i64 xa] 26)).drew := ⟨_, rfl⟩
  have hb4 : Below (w3.setCell ⟨fb, fs.length * 4 + 1, none⟩ (.int .i64 ((p : Int) + 1))).heap.size (w3.setCell ⟨fb, fs.length * 4 + 1, none⟩ (.int .i64 ((p : Int) + 1))) W4 := by rw [hW4]; exact bdrew (below_alloc _ _) 1
  have H4 := Lib.hid (h4.keep hb4)
  have HM4 := Lib.hid ((HM3.out.trans hM4).trans (Mods.of_below hb4))
  have d0 : W4.cell? ⟨w3.heap.size, 0, none⟩ = some (.int .i64 xop) := by rw [hW4]; go_simp
  have d1 : W4.cell? ⟨w3.heap.size, 1, none⟩ = some (.int .i64 xa) := by rw [hW4]; go_simp
  have hnfb : ¬ w.heap.size = fb := fun e => hnot (by simp [e])
  have k0 : W4.cell? ⟨w.heap.size, 0, none⟩ = some (.slice fa fn fc) := by rw [hW4]; go_simp
  have k1 : W4.cell? ⟨w.heap.size, 1, none⟩ = some (.int .i64 g) := by rw [hW4]; go_simp
  have k2 : W4.cell? ⟨w.heap.size, 2, none⟩ = some (.slice (some ⟨b, o, none⟩) funcs.length gc) := by rw [hW4]; go_simp
  have k3 : W4.cell? ⟨w.heap.size, 3, none⟩ = some (.pointer (some ⟨bm, 0, none⟩)) := by rw [hW4]; go_simp
  have hds : w3.heap.size < W4.heap.size := World.block_lt_of_cell? W4 _ d0
  have hdn : w3.heap.size ∉ bm :: fb :: (Fi ++ (Fl ++ Fs)) := fun e => by have := hlt.out _ e; omega
  have hnd := H.out.nodup
  rw [← hW4]
  obtain ⟨ib, hib⟩ : ∃ ib, ib = w3.heap.size := ⟨_, rfl⟩
  rw [← hib]
  rw [← hib] at d0 d1 hds hdn
  have hsz4 : w.heap.size < W4.heap.size := by omega
  have hibs : w.heap.size < ib := by omega
  have HEf := Lib.hid hEk.out
  clear hW4 hib H3 HM3 H2 HM2 HW2 hb4 h4 hM4 i0 i1 q4 cfn cpc fpc hfb3 hbm3 hyb3 hbb3 hsz3 HI0 HI1 HQ4 hbox HWAb hWs hEk
  obtain rfl : xop = 12 := HOP.out
  have HST := Lib.hid hst
  clear hst
  go_wp2_with fail
  refine (pop_any fa (some ⟨b, o, none⟩) fn fc funcs.length gc g H4.out (by omega) l 0 HST.out).mono ?_
  rintro e w5 ⟨rfl, cur5, sv5, Fs5, hT5, hM5⟩
  have k0 := hM5.cell k0 hnot
  have k1 := hM5.cell k1 hnot
  have k2 := hM5.cell k2 hnot
  have k3 := hM5.cell k3 hnot
  have d1 := hM5.cell d1 hdn
  have hnot5 := hM5.notin hsz4 hnot
  have hdn5 := hM5.notin hds hdn
  have hsz5 : w.heap.size < w5.heap.size := World.block_lt_of_cell? w5 _ k0
  have hds5 : ib < w5.heap.size := World.block_lt_of_cell? w5 _ d1
  have HT5 := Lib.hid hT5
  have HM5 := Lib.hid (HM4.out.trans hM5)
  clear hT5 hM5
  have cpc := HT5.out.cPc
  have fpc := HT5.out.frf (fs.length * 4 + 1)
  obtain ⟨h6, hM6⟩ := pc_put HT5.out xa hi64a
  have H6 := Lib.hid h6
  have HM6 := Lib.hid (HM5.out.trans hM6)
  clear h6 hM6
  go_wp2_with fail
  go_end0
  exact ⟨rfl, _, (H6.out.reframe _).own rfl, HM6.out⟩
set_option maxRecDepth 100000 in
set_option maxHeartbeats 2000000 in
theorem step_31 {w : World} {bm fb cap : Nat} {cur : Array Value} {cs : List Value} {fs : List Fra} {f : Fra} {lv sv : Value} {m : Mch} {Fi Fl Fs : List Nat} (fa ga : Option Addr) (fn fc gc : Nat) (g : Int) (h : TopOwn w bm fb cap cur cs fs f lv sv m Fi Fl Fs) (hn : fs.length < 200)
    (B : Nat) (hB : ∀ b ∈ bm :: fb :: (Fi ++ (Fl ++ Fs)), B ≤ b) (funcs : List Fun) (hfl : funcs.length ≤ 1000000) (hfs : SliceOf B w 5 (FunE B) (.slice ga funcs.length gc) funcs) (k : Nat) (hk : f.fn = k) (y : Fun) (hy : funcs[k]? = some y) (p : Nat) (hp : f.pc = p) (x : Ins) (hx : y.code[p]? = some x) (hcl : y.code.length ≤ 1000000)
    (hid : 0 ≤ m.idle ∧ m.idle < 100000) (hop : x.op = 31) (hsl : f.stack.length < 999999) (l : List Int) (v : Int) (hst : f.stack = l ++ [v]) (hv64 : in64 v) :
    Calls Tryd.prog 54 #[runV (.slice fa fn fc) (.slice ga funcs.length gc) g bm] w (StepPost w bm (bm :: fb :: (Fi ++ (Fl ++ Fs))) (.go { m with idle := m.idle + 1, frames := fs ++ [{ f with pc := f.pc + 1, stack := l ++ [v] ++ [v] }] })) := by
  have HFS := Lib.hid hfs
  have HOP := Lib.hid hop
  have HK := Lib.hid hk
  have HP := Lib.hid hp
  clear hop hk hp
  obtain ⟨a0, cap0, he0, hl1, hl2, hl3, hE⟩ := hfs
  obtain ⟨rfl, rfl⟩ : ga = a0 ∧ gc = cap0 := by simpa using he0
  have hkl : k < funcs.length := (List.getElem?_eq_some_iff.1 hy).1
  rcases hE with h0 | ⟨b, o, rfl, hbB, hE⟩
  · rw [h0] at hy; simp at hy
  have hEk := Lib.hid (hE k y hy)
  obtain ⟨yv, q4, hyc⟩ := hEk.out.2.2.2.2.1
  obtain ⟨ya, ycap, rfl, hyl1, hyl2, hyl3, hEc⟩ := hyc
  have hpl : p < y.code.length := (List.getElem?_eq_some_iff.1 hx).1
  rcases hEc with h0 | ⟨yb, yo, rfl, hybB, hEc⟩
  · rw [h0] at hx; simp at hx
  obtain ⟨i0, i1, hi64, hi64a⟩ := hEc p x hx
  obtain ⟨xop, xa⟩ := x
  dsimp only at i0 i1 hi64 hi64a
  obtain ⟨WA, hWA⟩ : ∃ W, W = w.alloc (.cells #[.slice fa fn fc, .int .i64 g, .slice (some ⟨b, o, none⟩) funcs.length gc, .pointer (some ⟨bm, 0, none⟩)] 104) := ⟨_, rfl⟩
  have hbox : Hid (Cells WA w.heap.size [.slice fa fn fc, .int .i64 g, .slice (some ⟨b, o, none⟩) funcs.length gc, .pointer (some ⟨bm, 0, none⟩)]) := by rw [hWA]; exact cells_new
  have hWAb : Below w.heap.size w WA := by rw [hWA]; exact below_alloc w _
  have hWs : WA.heap.size = w.heap.size + 1 := by rw [hWA]; simp
  have H := Lib.hid h
  have hlt := Lib.hid h.lt
  have HB := Lib.hid hB
  have hnot : w.heap.size ∉ bm :: fb :: (Fi ++ (Fl ++ Fs)) := fun e => by have := hlt.out _ e; omega
  obtain ⟨h2, hM2⟩ := m_put (m' := { m with idle := m.idle + 1 }) h hWAb 8 (.int .i64 (m.idle + 1)) rfl
  obtain ⟨W2, hW2⟩ : ∃ W, W = WA.setCell ⟨bm, 8, none⟩ (.int .i64 (m.idle + 1)) := ⟨_, rfl⟩
  rw [← hW2] at h2 hM2
  have H2 := Lib.hid h2
  have HM2 := Lib.hid hM2
  have hA := h.keep hWAb
  have c8 := hA.cIdle
  have f8 := hA.frm 8
  have k0 := hbox.out 0 _ rfl
  have k1 := hbox.out 1 _ rfl
  have k2 := hbox.out 2 _ rfl
  have k3 := hbox.out 3 _ rfl
  have hbw : ¬ w.heap.size = bm := fun e => hnot (by simp [e])
  have hbm : bm < w.heap.size := h.lt bm (by simp)
  have hfb : fb < w.heap.size := h.lt fb (by simp)
  have HWAb := Lib.hid hWAb
  have HI0 := Lib.hid i0
  have HI1 := Lib.hid i1
  have HQ4 := Lib.hid q4
  clear h hB he0 hE hEc h2 hM2 hA i0 i1 q4 hWAb
  unfold runV
  go_enter Tryd.func54, Tryd.ntmps54
  go_upto_region 1 with fail
  rw [← hWA]
  clear hWA
  go_upto_region 4 with fail
  rw [← hW2]
  have hM2w : Hid (Below w.heap.size WA W2 → True) := fun _ => trivial
  have k0 : W2.cell? ⟨w.heap.size, 0, none⟩ = some (.slice fa fn fc) := by rw [hW2]; go_simp
  have k1 : W2.cell? ⟨w.heap.size, 1, none⟩ = some (.int .i64 g) := by rw [hW2]; go_simp
  have k2 : W2.cell? ⟨w.heap.size, 2, none⟩ = some (.slice (some ⟨b, o, none⟩) funcs.length gc) := by rw [hW2]; go_simp
  have k3 : W2.cell? ⟨w.heap.size, 3, none⟩ = some (.pointer (some ⟨bm, 0, none⟩)) := by rw [hW2]; go_simp
  have HW2 := Lib.hid hW2
  clear hW2 c8 f8 hM2w
  go_wp2_with fail
  refine (top_any fa (some ⟨b, o, none⟩) fn fc funcs.length gc g H2.out (by omega)).mono ?_
  rintro e w3 ⟨rfl, hb3⟩
  have H3 := Lib.hid (H2.out.keep hb3)
  have HM3 := Lib.hid (HM2.out.trans (Mods.of_below hb3))
  have hBw : B ≤ w.heap.size := Nat.le_of_lt (Nat.lt_of_le_of_lt (HB.out bm (by simp)) hbm)
  have hnB : ∀ bb, bb < B → bb ∉ bm :: fb :: (Fi ++ (Fl ++ Fs)) := fun bb hb e => by have := HB.out bb e; omega
  have k0 := keepC hb3 k0
  have k1 := keepC hb3 k1
  have k2 := keepC hb3 k2
  have k3 := keepC hb3 k3
  have i0 := HM3.out.cell HI0.out (hnB _ hybB)
  have i1 := HM3.out.cell HI1.out (hnB _ hybB)
  have q4 := HM3.out.cell HQ4.out (hnB _ hbB)
  have cfn := H3.out.cFn
  have cpc := H3.out.cPc
  rw [HK.out] at cfn
  rw [HP.out] at cpc
  have fpc := H3.out.frf (fs.length * 4 + 1)
  have hsz3 : w.heap.size < w3.heap.size := World.block_lt_of_cell? w3 _ k0
  have hfb3 : fb < w3.heap.size := by omega
  have hbm3 : bm < w3.heap.size := by omega
  have hi0 : (0 : Int) ≤ (k : Int) := Int.natCast_nonneg _
  have hi1 : (k : Int) < (funcs.length : Int) := by omega
  have hj0 : (0 : Int) ≤ (p : Int) := Int.natCast_nonneg _
  have hj1 : (p : Int) < (y.code.length : Int) := by omega
  have hyb3 := World.block_lt_of_cell? w3 _ i0
  have hbb3 := World.block_lt_of_cell? w3 _ q4
  clear hb3
  go_wp2_with fail
  go_region
  go_upto_region 7 with fail
  obtain ⟨h4, hM4⟩ := pc_put H3.out ((p : Int) + 1) ⟨by omega, by omega⟩
  obtain ⟨W4, hW4⟩ : ∃ W, W = ((w3.setCell ⟨fb, fs.length * 4 + 1, none⟩ (.int .i64 ((p : Int) + 1))).alloc (.cells #[.int .i64 xop, .int .i64 xa] 26)).drew := ⟨_, rfl⟩
  have hb4 : Below (w3.setCell ⟨fb, fs.length * 4 + 1, none⟩ (.int .i64 ((p : Int) + 1))).heap.size (w3.setCell ⟨fb, fs.length * 4 + 1, none⟩ (.int .i64 ((p : Int) + 1))) W4 := by rw [hW4]; exact bdrew (below_alloc _ _) 1
  have H4 := Lib.hid (h4.keep hb4)
  have HM4 := Lib.hid ((HM3.out.trans hM4).trans (Mods.of_below hb4))
  have d0 : W4.cell? ⟨w3.heap.size, 0, none⟩ = some (.int .i64 xop) := by rw [hW4]; go_simp
  have d1 : W4.cell? ⟨w3.heap.size, 1, none⟩ = some (.int .i64 xa) := by rw [hW4]; go_simp
  have hnfb : ¬ w.heap.size = fb := fun e => hnot (by simp [e])
  have k0 : W4.cell? ⟨w.heap.size, 0, none⟩ = some (.slice fa fn fc) := by rw [hW4]; go_simp
  have k1 : W4.cell? ⟨w.heap.size, 1, none⟩ = some (.int .i64 g) := by rw [hW4]; go_simp
  have k2 : W4.cell? ⟨w.heap.size, 2, none⟩ = some (.slice (some ⟨b, o, none⟩) funcs.length gc) := by rw [hW4]; go_simp
  have k3 : W4.cell? ⟨w.heap.size, 3, none⟩ = some (.pointer (some ⟨bm, 0, none⟩)) := by rw [hW4]; go_simp
  have hds : w3.heap.size < W4.heap.size := World.block_lt_of_cell? W4 _ d0
  have hdn : w3.heap.size ∉ bm :: fb :: (Fi ++ (Fl ++ Fs)) := fun e => by have := hlt.out _ e; omega
  have hnd := H.out.nodup
  rw [← hW4]
  obtain ⟨ib, hib⟩ : ∃ ib, ib = w3.heap.size := ⟨_, rfl⟩
  rw [← hib]
  rw [← hib] at d0 d1 hds hdn
  have hsz4 : w.heap.size < W4.heap.size := by omega
  have hibs : w.heap.size < ib := by omega
  have HEf := Lib.hid hEk.out
  clear hW4 hib H3 HM3 H2 HM2 HW2 hb4 h4 hM4 i0 i1 q4 cfn cpc fpc hfb3 hbm3 hyb3 hbb3 hsz3 HI0 HI1 HQ4 hbox HWAb hWs hEk
  obtain rfl : xop = 31 := HOP.out
  have hll : l.length < 999999 := by have := congrArg List.length hst; simp at this; omega
  have HST := Lib.hid hst
  clear hst
  go_wp2_with fail
  refine (pop_any fa (some ⟨b, o, none⟩) fn fc funcs.length gc g H4.out (by omega) l v HST.out).mono ?_
  rintro e w5 ⟨rfl, cur5, sv5, Fs5, hT5, hM5⟩
  have k0 := hM5.cell k0 hnot
  have k1 := hM5.cell k1 hnot
  have k2 := hM5.cell k2 hnot
  have k3 := hM5.cell k3 hnot
  have d1 := hM5.cell d1 hdn
  have hnot5 := hM5.notin hsz4 hnot
  have hdn5 := hM5.notin hds hdn
  have hsz5 : w.heap.size < w5.heap.size := World.block_lt_of_cell? w5 _ k0
  have hds5 : ib < w5.heap.size := World.block_lt_of_cell? w5 _ d1
  have HT5 := Lib.hid hT5
  have HM5 := Lib.hid (HM4.out.trans hM5)
  clear hT5 hM5
  go_wp2_with fail
  refine (push_any fa (some ⟨b, o, none⟩) fn fc funcs.length gc g HT5.out (by omega) v hv64 (by show l.length < _; omega)).mono ?_
  rintro e w6 ⟨rfl, cur6, sv6, Fs6, hT6, hM6⟩
  have k0 := hM6.cell k0 hnot5
  have k1 := hM6.cell k1 hnot5
  have k2 := hM6.cell k2 hnot5
  have k3 := hM6.cell k3 hnot5
  have d1 := hM6.cell d1 hdn5
  have hnot6 := hM6.notin hsz5 hnot5
  have hdn6 := hM6.notin hds5 hdn5
  have hsz6 : w.heap.size < w6.heap.size := World.block_lt_of_cell? w6 _ k0
  have hds6 : ib < w6.heap.size := World.block_lt_of_cell? w6 _ d1
  have HT6 := Lib.hid hT6
  have HM6 := Lib.hid (HM5.out.trans hM6)
  clear hT6 hM6
  go_wp2_with fail
  refine (push_any fa (some ⟨b, o, none⟩) fn fc funcs.length gc g HT6.out (by omega) v hv64 (by show (l ++ [v]).length < _; simp; omega)).mono ?_
  rintro e w7 ⟨rfl, cur7, sv7, Fs7, hT7, hM7⟩
  have HT7 := Lib.hid hT7
  have HM7 := Lib.hid (HM6.out.trans hM7)
  clear hT7 hM7
  go_wp2_with fail
  go_end0
  rw [HP.out]
  exact ⟨rfl, _, (HT7.out.reframe _).own rfl, HM7.out⟩
set_option maxRecDepth 100000 in
set_option maxHeartbeats 2000000 in
theorem step_13a {w : World} {bm fb cap : Nat} {cur : Array Value} {cs : List Value} {fs : List Fra} {f : Fra} {lv sv : Value} {m : Mch} {Fi Fl Fs : List Nat} (fa ga : Option Addr) (fn fc gc : Nat) (g : Int) (h : TopOwn w bm fb cap cur cs fs f lv sv m Fi Fl Fs) (hn : fs.length < 200)
    (B : Nat) (hB : ∀ b ∈ bm :: fb :: (Fi ++ (Fl ++ Fs)), B ≤ b) (funcs : List Fun) (hfl : funcs.length ≤ 1000000) (hfs : SliceOf B w 5 (FunE B) (.slice ga funcs.length gc) funcs) (k : Nat) (hk : f.fn = k) (y : Fun) (hy : funcs[k]? = some y) (p : Nat) (hp : f.pc = p) (x : Ins) (hx : y.code[p]? = some x) (hcl : y.code.length ≤ 1000000)
    (hid : 0 ≤ m.idle ∧ m.idle < 100000) (hop : x.op = 13) (hf0 : m.fuel = 0) :
    Calls Tryd.prog 54 #[runV (.slice fa fn fc) (.slice ga funcs.length gc) g bm] w (StepPost w bm (bm :: fb :: (Fi ++ (Fl ++ Fs))) (.stop (failR 20) { m with idle := m.idle + 1, frames := fs ++ [{ f with pc := f.pc + 1 }] })) := by
  have HFS := Lib.hid hfs
  have HOP := Lib.hid hop
  have HK := Lib.hid hk
  have HP := Lib.hid hp
  clear hop hk hp
  obtain ⟨a0, cap0, he0, hl1, hl2, hl3, hE⟩ := hfs
  obtain ⟨rfl, rfl⟩ : ga = a0 ∧ gc = cap0 := by simpa using he0
  have hkl : k < funcs.length := (List.getElem?_eq_some_iff.1 hy).1
  rcases hE with h0 | ⟨b, o, rfl, hbB, hE⟩
  · rw [h0] at hy; simp at hy
  have hEk := Lib.hid (hE k y hy)
  obtain ⟨yv, q4, hyc⟩ := hEk.out.2.2.2.2.1
  obtain ⟨ya, ycap, rfl, hyl1, hyl2, hyl3, hEc⟩ := hyc
  have hpl : p < y.code.length := (List.getElem?_eq_some_iff.1 hx).1
  rcases hEc with h0 | ⟨yb, yo, rfl, hybB, hEc⟩
  · rw [h0] at hx; simp at hx
  obtain ⟨i0, i1, hi64, hi64a⟩ := hEc p x hx
  obtain ⟨xop, xa⟩ := x
  dsimp only at i0 i1 hi64 hi64a
  obtain ⟨WA, hWA⟩ : ∃ W, W = w.alloc (.cells #[.slice fa fn fc, .int .i64 g, .slice (some ⟨b, o, none⟩) funcs.length gc, .pointer (some ⟨bm, 0, none⟩)] 104) := ⟨_, rfl⟩
  have hbox : Hid (Cells WA w.heap.size [.slice fa fn fc, .int .i64 g, .slice (some ⟨b, o, none⟩) funcs.length gc, .pointer (some ⟨bm, 0, none⟩)]) := by rw [hWA]; exact cells_new
  have hWAb : Below w.heap.size w WA := by rw [hWA]; exact below_alloc w _
  have hWs : WA.heap.size = w.heap.size + 1 := by rw [hWA]; simp
  have H := Lib.hid h
  have hlt := Lib.hid h.lt
  have HB := Lib.hid hB
  have hnot : w.heap.size ∉ bm :: fb :: (Fi ++ (Fl ++ Fs)) := fun e => by have := hlt.out _ e; omega
  obtain ⟨h2, hM2⟩ := m_put (m' := { m with idle := m.idle + 1 }) h hWAb 8 (.int .i64 (m.idle + 1)) rfl
  obtain ⟨W2, hW2⟩ : ∃ W, W = WA.setCell ⟨bm, 8, none⟩ (.int .i64 (m.idle + 1)) := ⟨_, rfl⟩
  rw [← hW2] at h2 hM2
  have H2 := Lib.hid h2
  have HM2 := Lib.hid hM2
  have hA := h.keep hWAb
  have c8 := hA.cIdle
  have f8 := hA.frm 8
  have k0 := hbox.out 0 _ rfl
  have k1 := hbox.out 1 _ rfl
  have k2 := hbox.out 2 _ rfl
  have k3 := hbox.out 3 _ rfl
  have hbw : ¬ w.heap.size = bm := fun e => hnot (by simp [e])
  have hbm : bm < w.heap.size := h.lt bm (by simp)
  have hfb : fb < w.heap.size := h.lt fb (by simp)
  have HWAb := Lib.hid hWAb
  have HI0 := Lib.hid i0
  have HI1 := Lib.hid i1
  have HQ4 := Lib.hid q4
  clear h hB he0 hE hEc h2 hM2 hA i0 i1 q4 hWAb
  unfold runV
  go_enter Tryd.func54, Tryd.ntmps54
  go_upto_region 1 with fail
  rw [← hWA]
  clear hWA
  go_upto_region 4 with fail
  rw [← hW2]
  have hM2w : Hid (Below w.heap.size WA W2 → True) := fun _ => trivial
  have k0 : W2.cell? ⟨w.heap.size, 0, none⟩ = some (.slice fa fn fc) := by rw [hW2]; go_simp
  have k1 : W2.cell? ⟨w.heap.size, 1, none⟩ = some (.int .i64 g) := by rw [hW2]; go_simp
  have k2 : W2.cell? ⟨w.heap.size, 2, none⟩ = some (.slice (some ⟨b, o, none⟩) funcs.length gc) := by rw [hW2]; go_simp
  have k3 : W2.cell? ⟨w.heap.size, 3, none⟩ = some (.pointer (some ⟨bm, 0, none⟩)) := by rw [hW2]; go_simp
  have HW2 := Lib.hid hW2
  clear hW2 c8 f8 hM2w
  go_wp2_with fail
  refine (top_any fa (some ⟨b, o, none⟩) fn fc funcs.length gc g H2.out (by omega)).mono ?_
  rintro e w3 ⟨rfl, hb3⟩
  have H3 := Lib.hid (H2.out.keep hb3)
  have HM3 := Lib.hid (HM2.out.trans (Mods.of_below hb3))
  have hBw : B ≤ w.heap.size := Nat.le_of_lt (Nat.lt_of_le_of_lt (HB.out bm (by simp)) hbm)
  have hnB : ∀ bb, bb < B → bb ∉ bm :: fb :: (Fi ++ (Fl ++ Fs)) := fun bb hb e => by have := HB.out bb e; omega
  have k0 := keepC hb3 k0
  have k1 := keepC hb3 k1
  have k2 := keepC hb3 k2
  have k3 := keepC hb3 k3
  have i0 := HM3.out.cell HI0.out (hnB _ hybB)
  have i1 := HM3.out.cell HI1.out (hnB _ hybB)
  have q4 := HM3.out.cell HQ4.out (hnB _ hbB)
  have cfn := H3.out.cFn
  have cpc := H3.out.cPc
  rw [HK.out] at cfn
  rw [HP.out] at cpc
  have fpc := H3.out.frf (fs.length * 4 + 1)
  have hsz3 : w.heap.size < w3.heap.size := World.block_lt_of_cell? w3 _ k0
  have hfb3 : fb < w3.heap.size := by omega
  have hbm3 : bm < w3.heap.size := by omega
  have hi0 : (0 : Int) ≤ (k : Int) := Int.natCast_nonneg _
  have hi1 : (k : Int) < (funcs.length : Int) := by omega
  have hj0 : (0 : Int) ≤ (p : Int) := Int.natCast_nonneg _
  have hj1 : (p : Int) < (y.code.length : Int) := by omega
  have hyb3 := World.block_lt_of_cell? w3 _ i0
  have hbb3 := World.block_lt_of_cell? w3 _ q4
  clear hb3
  go_wp2_with fail
  go_region
  go_upto_region 7 with fail
  obtain ⟨h4, hM4⟩ := pc_put H3.out ((p : Int) + 1) ⟨by omega, by omega⟩
  obtain ⟨W4, hW4⟩ : ∃ W, W = ((w3.setCell ⟨fb, fs.length * 4 + 1, none⟩ (.int .i64 ((p : Int) + 1))).alloc (.cells #[.int .i64 xop, .int .i64 xa] 26)).drew := ⟨_, rfl⟩
  have hb4 : Below (w3.setCell ⟨fb, fs.length * 4 + 1, none⟩ (.int .i64 ((p : Int) + 1))).heap.size (w3.setCell ⟨fb, fs.length * 4 + 1, none⟩ (.int .i64 ((p : Int) + 1))) W4 := by rw [hW4]; exact bdrew (below_alloc _ _) 1
  have H4 := Lib.hid (h4.keep hb4)
  have HM4 := Lib.hid ((HM3.out.trans hM4).trans (Mods.of_below hb4))
  have d0 : W4.cell? ⟨w3.heap.size, 0, none⟩ = some (.int .i64 xop) := by rw [hW4]; go_simp
  have d1 : W4.cell? ⟨w3.heap.size, 1, none⟩ = some (.int .i64 xa) := by rw [hW4]; go_simp
  have hnfb : ¬ w.heap.size = fb := fun e => hnot (by simp [e])
  have k0 : W4.cell? ⟨w.heap.size, 0, none⟩ = some (.slice fa fn fc) := by rw [hW4]; go_simp
  have k1 : W4.cell? ⟨w.heap.size, 1, none⟩ = some (.int .i64 g) := by rw [hW4]; go_simp
  have k2 : W4.cell? ⟨w.heap.size, 2, none⟩ = some (.slice (some ⟨b, o, none⟩) funcs.length gc) := by rw [hW4]; go_simp
  have k3 : W4.cell? ⟨w.heap.size, 3, none⟩ = some (.pointer (some ⟨bm, 0, none⟩)) := by rw [hW4]; go_simp
  have hds : w3.heap.size < W4.heap.size := World.block_lt_of_cell? W4 _ d0
  have hdn : w3.heap.size ∉ bm :: fb :: (Fi ++ (Fl ++ Fs)) := fun e => by have := hlt.out _ e; omega
  have hnd := H.out.nodup
  rw [← hW4]
  obtain ⟨ib, hib⟩ : ∃ ib, ib = w3.heap.size := ⟨_, rfl⟩
  rw [← hib]
  rw [← hib] at d0 d1 hds hdn
  have hsz4 : w.heap.size < W4.heap.size := by omega
  have hibs : w.heap.size < ib := by omega
  have HEf := Lib.hid hEk.out
  clear hW4 hib H3 HM3 H2 HM2 HW2 hb4 h4 hM4 i0 i1 q4 cfn cpc fpc hfb3 hbm3 hyb3 hbb3 hsz3 HI0 HI1 HQ4 hbox HWAb hWs hEk
  obtain rfl : xop = 13 := HOP.out
  have c6 := H4.out.cFuel
  dsimp only at c6
  rw [hf0] at c6
  have HF0 := Lib.hid hf0
  clear hf0
  go_wp2_with fail
  refine (fail_any fa (some ⟨b, o, none⟩) fn fc funcs.length gc g bm 20 _).mono ?_
  rintro e w5 ⟨rfl, hb5⟩
  refine ⟨rfl, ?_⟩
  rw [HP.out]
  exact ⟨rfl, _, ((H4.out.keep hb5).reframe _).own rfl, HM4.out.trans (Mods.of_below hb5)⟩
set_option maxRecDepth 100000 in
set_option maxHeartbeats 2000000 in
theorem step_13b {w : World} {bm fb cap : Nat} {cur : Array Value} {cs : List Value} {fs : List Fra} {f : Fra} {lv sv : Value} {m : Mch} {Fi Fl Fs : List Nat} (fa ga : Option Addr) (fn fc gc : Nat) (g : Int) (h : TopOwn w bm fb cap cur cs fs f lv sv m Fi Fl Fs) (hn : fs.length < 200)
    (B : Nat) (hB : ∀ b ∈ bm :: fb :: (Fi ++ (Fl ++ Fs)), B ≤ b) (funcs : List Fun) (hfl : funcs.length ≤ 1000000) (hfs : SliceOf B w 5 (FunE B) (.slice ga funcs.length gc) funcs) (k : Nat) (hk : f.fn = k) (y : Fun) (hy : funcs[k]? = some y) (p : Nat) (hp : f.pc = p) (x : Ins) (hx : y.code[p]? = some x) (hcl : y.code.length ≤ 1000000)
    (hid : 0 ≤ m.idle ∧ m.idle < 100000) (hop : x.op = 13) (hf0 : ¬ m.fuel = 0) (hf1 : 0 ≤ m.fuel ∧ m.fuel ≤ 9223372036854775807) :
    Calls Tryd.prog 54 #[runV (.slice fa fn fc) (.slice ga funcs.length gc) g bm] w (StepPost w bm (bm :: fb :: (Fi ++ (Fl ++ Fs))) (.go { m with fuel := m.fuel - 1, idle := 0, frames := fs ++ [{ f with pc := f.pc + 1 }] })) := by
  have HFS := Lib.hid hfs
  have HOP := Lib.hid hop
  have HK := Lib.hid hk
  have HP := Lib.hid hp
  clear hop hk hp
  obtain ⟨a0, cap0, he0, hl1, hl2, hl3, hE⟩ := hfs
  obtain ⟨rfl, rfl⟩ : ga = a0 ∧ gc = cap0 := by simpa using he0
  have hkl : k < funcs.length := (List.getElem?_eq_some_iff.1 hy).1
  rcases hE with h0 | ⟨b, o, rfl, hbB, hE⟩
  · rw [h0] at hy; simp at hy
  have hEk := Lib.hid (hE k y hy)
  obtain ⟨yv, q4, hyc⟩ := hEk.out.2.2.2.2.1
  obtain ⟨ya, ycap, rfl, hyl1, hyl2, hyl3, hEc⟩ := hyc
  have hpl : p < y.code.length := (List.getElem?_eq_some_iff.1 hx).1
  rcases hEc with h0 | ⟨yb, yo, rfl, hybB, hEc⟩
  · rw [h0] at hx; simp at hx
  obtain ⟨i0, i1, hi64, hi64a⟩ := hEc p x hx
  obtain ⟨xop, xa⟩ := x
  dsimp only at i0 i1 hi64 hi64a
  obtain ⟨WA, hWA⟩ : ∃ W, W = w.alloc (.cells #[.slice fa fn fc, .int .i64 g, .slice (some ⟨b, o, none⟩) funcs.length gc, .pointer (some ⟨bm, 0, none⟩)] 104) := ⟨_, rfl⟩
  have hbox : Hid (Cells WA w.heap.size [.slice fa fn fc, .int .i64 g, .slice (some ⟨b, o, none⟩) funcs.length gc, .pointer (some ⟨bm, 0, none⟩)]) := by rw [hWA]; exact cells_new
  have hWAb : Below w.heap.size w WA := by rw [hWA]; exact below_alloc w _
  have hWs : WA.heap.size = w.heap.size + 1 := by rw [hWA]; simp
  have H := Lib.hid h
  have hlt := Lib.hid h.lt
  have HB := Lib.hid hB
  have hnot : w.heap.size ∉ bm :: fb :: (Fi ++ (Fl ++ Fs)) := fun e => by have := hlt.out _ e; omega
  obtain ⟨h2, hM2⟩ := m_put (m' := { m with idle := m.idle + 1 }) h hWAb 8 (.int .i64 (m.idle + 1)) rfl
  obtain ⟨W2, hW2⟩ : ∃ W, W = WA.setCell ⟨bm, 8, none⟩ (.int .i64 (m.idle + 1)) := ⟨_, rfl⟩
  rw [← hW2] at h2 hM2
  have H2 := Lib.hid h2
  have HM2 := Lib.hid hM2
  have hA := h.keep hWAb
  have c8 := hA.cIdle
  have f8 := hA.frm 8
  have k0 := hbox.out 0 _ rfl
  have k1 := hbox.out 1 _ rfl
  have k2 := hbox.out 2 _ rfl
  have k3 := hbox.out 3 _ rfl
  have hbw : ¬ w.heap.size = bm := fun e => hnot (by simp [e])
  have hbm : bm < w.heap.size := h.lt bm (by simp)
  have hfb : fb < w.heap.size := h.lt fb (by simp)
  have HWAb := Lib.hid hWAb
  have HI0 := Lib.hid i0
  have HI1 := Lib.hid i1
  have HQ4 := Lib.hid q4
  clear h hB he0 hE hEc h2 hM2 hA i0 i1 q4 hWAb
  unfold runV
  go_enter Tryd.func54, Tryd.ntmps54
  go_upto_region 1 with fail
  rw [← hWA]
  clear hWA
  go_upto_region 4 with fail
  rw [← hW2]
  have hM2w : Hid (Below w.heap.size WA W2 → True) := fun _ => trivial
  have k0 : W2.cell? ⟨w.heap.size, 0, none⟩ = some (.slice fa fn fc) := by rw [hW2]; go_simp
  have k1 : W2.cell? ⟨w.heap.size, 1, none⟩ = some (.int .i64 g) := by rw [hW2]; go_simp
  have k2 : W2.cell? ⟨w.heap.size, 2, none⟩ = some (.slice (some ⟨b, o, none⟩) funcs.length gc) := by rw [hW2]; go_simp
  have k3 : W2.cell? ⟨w.heap.size, 3, none⟩ = some (.pointer (some ⟨bm, 0, none⟩)) := by rw [hW2]; go_simp
  have HW2 := Lib.hid hW2
  clear hW2 c8 f8 hM2w
  go_wp2_with fail
  refine (top_any fa (some ⟨b, o, none⟩) fn fc funcs.length gc g H2.out (by omega)).mono ?_
  rintro e w3 ⟨rfl, hb3⟩
  have H3 := Lib.hid (H2.out.keep hb3)
  have HM3 := Lib.hid (HM2.out.trans (Mods.of_below hb3))
  have hBw : B ≤ w.heap.size := Nat.le_of_lt (Nat.lt_of_le_of_lt (HB.out bm (by simp)) hbm)
  have hnB : ∀ bb, bb < B → bb ∉ bm :: fb :: (Fi ++ (Fl ++ Fs)) := fun bb hb e => by have := HB.out bb e; omega
  have k0 := keepC hb3 k0
  have k1 := keepC hb3 k1
  have k2 := keepC hb3 k2
  have k3 := keepC hb3 k3
  have i0 := HM3.out.cell HI0.out (hnB _ hybB)
  have i1 := HM3.out.cell HI1.out (hnB _ hybB)
  have q4 := HM3.out.cell HQ4.out (hnB _ hbB)
  have cfn := H3.out.cFn
  have cpc := H3.out.cPc
  rw [HK.out] at cfn
  rw [HP.out] at cpc
  have fpc := H3.out.frf (fs.length * 4 + 1)
  have hsz3 : w.heap.size < w3.heap.size := World.block_lt_of_cell? w3 _ k0
  have hfb3 : fb < w3.heap.size := by omega
  have hbm3 : bm < w3.heap.size := by omega
  have hi0 : (0 : Int) ≤ (k : Int) := Int.natCast_nonneg _
  have hi1 : (k : Int) < (funcs.length : Int) := by omega
  have hj0 : (0 : Int) ≤ (p : Int) := Int.natCast_nonneg _
  have hj1 : (p : Int) < (y.code.length : Int) := by omega
  have hyb3 := World.block_lt_of_cell? w3 _ i0
  have hbb3 := World.block_lt_of_cell? w3 _ q4
  clear hb3
  go_wp2_with fail
  go_region
  go_upto_region 7 with fail
  obtain ⟨h4, hM4⟩ := pc_put H3.out ((p : Int) + 1) ⟨by omega, by omega⟩
  obtain ⟨W4, hW4⟩ : ∃ W, W = ((w3.setCell ⟨fb, fs.length * 4 + 1, none⟩ (.int .i64 ((p : Int) + 1))).alloc (.cells #[.int .i64 xop, .int .i64 xa] 26)).drew := ⟨_, rfl⟩
  have hb4 : Below (w3.setCell ⟨fb, fs.length * 4 + 1, none⟩ (.int .i64 ((p : Int) + 1))).heap.size (w3.setCell ⟨fb, fs.length * 4 + 1, none⟩ (.int .i64 ((p : Int) + 1))) W4 := by rw [hW4]; exact bdrew (below_alloc _ _) 1
  have H4 := Lib.hid (h4.keep hb4)
  have HM4 := Lib.hid ((HM3.out.trans hM4).trans (Mods.of_below hb4))
  have d0 : W4.cell? ⟨w3.heap.size, 0, none⟩ = some (.int .i64 xop) := by rw [hW4]; go_simp
  have d1 : W4.cell? ⟨w3.heap.size, 1, none⟩ = some (.int .i64 xa) := by rw [hW4]; go_simp
  have hnfb : ¬ w.heap.size = fb := fun e => hnot (by simp [e])
  have k0 : W4.cell? ⟨w.heap.size, 0, none⟩ = some (.slice fa fn fc) := by rw [hW4]; go_simp
  have k1 : W4.cell? ⟨w.heap.size, 1, none⟩ = some (.int .i64 g) := by rw [hW4]; go_simp
  have k2 : W4.cell? ⟨w.heap.size, 2, none⟩ = some (.slice (some ⟨b, o, none⟩) funcs.length gc) := by rw [hW4]; go_simp
  have k3 : W4.cell? ⟨w.heap.size, 3, none⟩ = some (.pointer (some ⟨bm, 0, none⟩)) := by rw [hW4]; go_simp
  have hds : w3.heap.size < W4.heap.size := World.block_lt_of_cell? W4 _ d0
  have hdn : w3.heap.size ∉ bm :: fb :: (Fi ++ (Fl ++ Fs)) := fun e => by have := hlt.out _ e; omega
  have hnd := H.out.nodup
  rw [← hW4]
  obtain ⟨ib, hib⟩ : ∃ ib, ib = w3.heap.size := ⟨_, rfl⟩
  rw [← hib]
  rw [← hib] at d0 d1 hds hdn
  have hsz4 : w.heap.size < W4.heap.size := by omega
  have hibs : w.heap.size < ib := by omega
  have HEf := Lib.hid hEk.out
  clear hW4 hib H3 HM3 H2 HM2 HW2 hb4 h4 hM4 i0 i1 q4 cfn cpc fpc hfb3 hbm3 hyb3 hbb3 hsz3 HI0 HI1 HQ4 hbox HWAb hWs hEk
  obtain rfl : xop = 13 := HOP.out
  have c6 := H4.out.cFuel
  have f6 := H4.out.frm 6
  have f8 := H4.out.frm 8
  have c8 := H4.out.cIdle
  dsimp only at c6 c8
  obtain ⟨h5, hM5⟩ := m_put (m' := { m with idle := m.idle + 1, fuel := m.fuel - 1 }) H4.out (Below.refl _ _) 6 (.int .i64 (m.fuel - 1)) rfl
  obtain ⟨h6, hM6⟩ := m_put (m' := { m with idle := 0, fuel := m.fuel - 1 }) h5 (Below.refl _ _) 8 (.int .i64 0) rfl
  have H6 := Lib.hid h6
  have HM6 := Lib.hid ((HM4.out.trans hM5).trans hM6)
  clear h5 hM5 h6 hM6
  go_wp2_with fail
  go_end0
  rw [HP.out]
  exact ⟨rfl, _, (H6.out.reframe _).own rfl, HM6.out⟩
end Go.Proofs.YtbmeoklmachjpaaDoor
