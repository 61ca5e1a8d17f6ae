/- The steps, one instruction each. -/
import Derived.Test.YtbmeoklmachjpaaDoorStep0
import Derived.Deep.RegionHeld3
import Derived.Deep.RegionWith
set_option linter.unusedVariables false
set_option linter.unusedSimpArgs false
namespace Go.Proofs.YtbmeoklmachjpaaDoor
open Go.RowKit

set_option maxRecDepth 100000 in
set_option maxHeartbeats 2000000 in
theorem step_11 {w : World} {bm fb cap : Nat} {cur : Array Value} {cs : List Value} {fs : List Fra} {f : Fra} {lv sv : Value} {m : Mch} {Fi Fl Fs : List Nat} (fa ga : Option Addr) (fn fc gc : Nat) (g : Int) (h : TopOwn w bm fb cap cur cs fs f lv sv m Fi Fl Fs) (hn : fs.length < 200)
    (B : Nat) (hB : ∀ b ∈ bm :: fb :: (Fi ++ (Fl ++ Fs)), B ≤ b) (funcs : List Fun) (hfl : funcs.length ≤ 1000000) (hfs : SliceOf B w 5 (FunE B) (.slice ga funcs.length gc) funcs) (k : Nat) (hk : f.fn = k) (y : Fun) (hy : funcs[k]? = some y) (p : Nat) (hp : f.pc = p) (x : Ins) (hx : y.code[p]? = some x) (hcl : y.code.length ≤ 1000000)
    (hid : 0 ≤ m.idle ∧ m.idle < 100000) (hop : x.op = 11) :
    Calls Tryd.prog 54 #[runV (.slice fa fn fc) (.slice ga funcs.length gc) g bm] w (StepPost w bm (bm :: fb :: (Fi ++ (Fl ++ Fs))) (.go { m with idle := m.idle + 1, frames := fs ++ [{ f with pc := x.a }] })) := by
  have HFS := Lib.hid hfs
  have HOP := Lib.hid hop
  have HK := Lib.hid hk
  have HP := Lib.hid hp
  clear hop hk hp
  obtain ⟨a0, cap0, he0, hl1, hl2, hl3, hE⟩ := hfs
  obtain ⟨rfl, rfl⟩ : ga = a0 ∧ gc = cap0 := by simpa using he0
  have hkl : k < funcs.length := (List.getElem?_eq_some_iff.1 hy).1
  rcases hE with h0 | ⟨b, o, rfl, hbB, hE⟩
  · rw [h0] at hy; simp at hy
  have hEk := Lib.hid (hE k y hy)
  obtain ⟨yv, q4, hyc⟩ := hEk.out.2.2.2.2.1
  obtain ⟨ya, ycap, rfl, hyl1, hyl2, hyl3, hEc⟩ := hyc
  have hpl : p < y.code.length := (List.getElem?_eq_some_iff.1 hx).1
  rcases hEc with h0 | ⟨yb, yo, rfl, hybB, hEc⟩
  · rw [h0] at hx; simp at hx
  obtain ⟨i0, i1, hi64, hi64a⟩ := hEc p x hx
  obtain ⟨xop, xa⟩ := x
  dsimp only at i0 i1 hi64 hi64a
  obtain ⟨WA, hWA⟩ : ∃ W, W = w.alloc (.cells #[.slice fa fn fc, .int .i64 g, .slice (some ⟨b, o, none⟩) funcs.length gc, .pointer (some ⟨bm, 0, none⟩)] 104) := ⟨_, rfl⟩
  have hbox : Hid (Cells WA w.heap.size [.slice fa fn fc, .int .i64 g, .slice (some ⟨b, o, none⟩) funcs.length gc, .pointer (some ⟨bm, 0, none⟩)]) := by rw [hWA]; exact cells_new
  have hWAb : Below w.heap.size w WA := by rw [hWA]; exact below_alloc w _
  have hWs : WA.heap.size = w.heap.size + 1 := by rw [hWA]; simp
  have H := Lib.hid h
  have hlt := Lib.hid h.lt
  have HB := Lib.hid hB
  have hnot : w.heap.size ∉ bm :: fb :: (Fi ++ (Fl ++ Fs)) := fun e => by have := hlt.out _ e; omega
  obtain ⟨h2, hM2⟩ := m_put (m' := { m with idle := m.idle + 1 }) h hWAb 8 (.int .i64 (m.idle + 1)) rfl
  obtain ⟨W2, hW2⟩ : ∃ W, W = WA.setCell ⟨bm, 8, none⟩ (.int .i64 (m.idle + 1)) := ⟨_, rfl⟩
  rw [← hW2] at h2 hM2
  have H2 := Lib.hid h2
  have HM2 := Lib.hid hM2
  have hA := h.keep hWAb
  have c8 := hA.cIdle
  have f8 := hA.frm 8
  have k0 := hbox.out 0 _ rfl
  have k1 := hbox.out 1 _ rfl
  have k2 := hbox.out 2 _ rfl
  have k3 := hbox.out 3 _ rfl
  have hbw : ¬ w.heap.size = bm := fun e => hnot (by simp [e])
  have hbm : bm < w.heap.size := h.lt bm (by simp)
  have hfb : fb < w.heap.size := h.lt fb (by simp)
  have HWAb := Lib.hid hWAb
  have HI0 := Lib.hid i0
  have HI1 := Lib.hid i1
  have HQ4 := Lib.hid q4
  clear h hB he0 hE hEc h2 hM2 hA i0 i1 q4 hWAb
  unfold runV
  go_enter Tryd.func54, Tryd.ntmps54
  go_upto_region 1 with fail
  rw [← hWA]
  clear hWA
  go_upto_region 4 with fail
  rw [← hW2]
  have hM2w : Hid (Below w.heap.size WA W2 → True) := fun _ => trivial
  have k0 : W2.cell? ⟨w.heap.size, 0, none⟩ = some (.slice fa fn fc) := by rw [hW2]; go_simp
  have k1 : W2.cell? ⟨w.heap.size, 1, none⟩ = some (.int .i64 g) := by rw [hW2]; go_simp
  have k2 : W2.cell? ⟨w.heap.size, 2, none⟩ = some (.slice (some ⟨b, o, none⟩) funcs.length gc) := by rw [hW2]; go_simp
  have k3 : W2.cell? ⟨w.heap.size, 3, none⟩ = some (.pointer (some ⟨bm, 0, none⟩)) := by rw [hW2]; go_simp
  have HW2 := Lib.hid hW2
  clear hW2 c8 f8 hM2w
  go_wp2_with fail
  refine (top_any fa (some ⟨b, o, none⟩) fn fc funcs.length gc g H2.out (by omega)).mono ?_
  rintro e w3 ⟨rfl, hb3⟩
  have H3 := Lib.hid (H2.out.keep hb3)
  have HM3 := Lib.hid (HM2.out.trans (Mods.of_below hb3))
  have hBw : B ≤ w.heap.size := Nat.le_of_lt (Nat.lt_of_le_of_lt (HB.out bm (by simp)) hbm)
  have hnB : ∀ bb, bb < B → bb ∉ bm :: fb :: (Fi ++ (Fl ++ Fs)) := fun bb hb e => by have := HB.out bb e; omega
  have k0 := keepC hb3 k0
  have k1 := keepC hb3 k1
  have k2 := keepC hb3 k2
  have k3 := keepC hb3 k3
  have i0 := HM3.out.cell HI0.out (hnB _ hybB)
  have i1 := HM3.out.cell HI1.out (hnB _ hybB)
  have q4 := HM3.out.cell HQ4.out (hnB _ hbB)
  have cfn := H3.out.cFn
  have cpc := H3.out.cPc
  rw [HK.out] at cfn
  rw [HP.out] at cpc
  have fpc := H3.out.frf (fs.length * 4 + 1)
  have hsz3 : w.heap.size < w3.heap.size := World.block_lt_of_cell? w3 _ k0
  have hfb3 : fb < w3.heap.size := by omega
  have hbm3 : bm < w3.heap.size := by omega
  have hi0 : (0 : Int) ≤ (k : Int) := Int.natCast_nonneg _
  have hi1 : (k : Int) < (funcs.length : Int) := by omega
  have hj0 : (0 : Int) ≤ (p : Int) := Int.natCast_nonneg _
  have hj1 : (p : Int) < (y.code.length : Int) := by omega
  have hyb3 := World.block_lt_of_cell? w3 _ i0
  have hbb3 := World.block_lt_of_cell? w3 _ q4
  clear hb3
  go_wp2_with fail
  go_region
  go_upto_region 7 with fail
  obtain ⟨h4, hM4⟩ := pc_put H3.out ((p : Int) + 1) ⟨by omega, by omega⟩
  obtain ⟨W4, hW4⟩ : ∃ W, W = ((w3.setCell ⟨fb, fs.length * 4 + 1, none⟩ (.int .i64 ((p : Int) + 1))).alloc (.cells #[.int .i64 xop, .int .i64 xa] 26)).drew := ⟨_, rfl⟩
  have hb4 : Below (w3.setCell ⟨fb, fs.length * 4 + 1, none⟩ (.int .i64 ((p : Int) + 1))).heap.size (w3.setCell ⟨fb, fs.length * 4 + 1, none⟩ (.int .i64 ((p : Int) + 1))) W4 := by rw [hW4]; exact bdrew (below_alloc _ _) 1
  have H4 := Lib.hid (h4.keep hb4)
  have HM4 := Lib.hid ((HM3.out.trans hM4).trans (Mods.of_below hb4))
  have d0 : W4.cell? ⟨w3.heap.size, 0, none⟩ = some (.int .i64 xop) := by rw [hW4]; go_simp
  have d1 : W4.cell? ⟨w3.heap.size, 1, none⟩ = some (.int .i64 xa) := by rw [hW4]; go_simp
  have hnfb : ¬ w.heap.size = fb := fun e => hnot (by simp [e])
  have k0 : W4.cell? ⟨w.heap.size, 0, none⟩ = some (.slice fa fn fc) := by rw [hW4]; go_simp
  have k1 : W4.cell? ⟨w.heap.size, 1, none⟩ = some (.int .i64 g) := by rw [hW4]; go_simp
  have k2 : W4.cell? ⟨w.heap.size, 2, none⟩ = some (.slice (some ⟨b, o, none⟩) funcs.length gc) := by rw [hW4]; go_simp
  have k3 : W4.cell? ⟨w.heap.size, 3, none⟩ = some (.pointer (some ⟨bm, 0, none⟩)) := by rw [hW4]; go_simp
  have hds : w3.heap.size < W4.heap.size := World.block_lt_of_cell? W4 _ d0
  have hdn : w3.heap.size ∉ bm :: fb :: (Fi ++ (Fl ++ Fs)) := fun e => by have := hlt.out _ e; omega
  have hnd := H.out.nodup
  rw [← hW4]
  obtain ⟨ib, hib⟩ : ∃ ib, ib = w3.heap.size := ⟨_, rfl⟩
  rw [← hib]
  rw [← hib] at d0 d1 hds hdn
  have hsz4 : w.heap.size < W4.heap.size := by omega
  have hibs : w.heap.size < ib := by omega
  have HEf := Lib.hid hEk.out
  clear hW4 hib H3 HM3 H2 HM2 HW2 hb4 h4 hM4 i0 i1 q4 cfn cpc fpc hfb3 hbm3 hyb3 hbb3 hsz3 HI0 HI1 HQ4 hbox HWAb hWs hEk
  obtain rfl : xop = 11 := HOP.out
  have cpc := H4.out.cPc
  have fpc := H4.out.frf (fs.length * 4 + 1)
  obtain ⟨h5, hM5⟩ := pc_put H4.out xa hi64a
  have H5 := Lib.hid h5
  have HM5 := Lib.hid (HM4.out.trans hM5)
  clear h5 hM5
  go_wp2_with fail
  go_end0
  exact ⟨rfl, _, (H5.out.reframe _).own rfl, HM5.out⟩
set_option maxRecDepth 100000 in
set_option maxHeartbeats 2000000 in
theorem step_1 {w : World} {bm fb cap : Nat} {cur : Array Value} {cs : List Value} {fs : List Fra} {f : Fra} {lv sv : Value} {m : Mch} {Fi Fl Fs : List Nat} (fa ga : Option Addr) (fn fc gc : Nat) (g : Int) (h : TopOwn w bm fb cap cur cs fs f lv sv m Fi Fl Fs) (hn : fs.length < 200)
    (B : Nat) (hB : ∀ b ∈ bm :: fb :: (Fi ++ (Fl ++ Fs)), B ≤ b) (funcs : List Fun) (hfl : funcs.length ≤ 1000000) (hfs : SliceOf B w 5 (FunE B) (.slice ga funcs.length gc) funcs) (k : Nat) (hk : f.fn = k) (y : Fun) (hy : funcs[k]? = some y) (p : Nat) (hp : f.pc = p) (x : Ins) (hx : y.code[p]? = some x) (hcl : y.code.length ≤ 1000000)
    (hid : 0 ≤ m.idle ∧ m.idle < 100000) (hop : x.op = 1) (hsl : f.stack.length < 1000000) :
    Calls Tryd.prog 54 #[runV (.slice fa fn fc) (.slice ga funcs.length gc) g bm] w (StepPost w bm (bm :: fb :: (Fi ++ (Fl ++ Fs))) (.go { m with idle := m.idle + 1, frames := fs ++ [{ f with pc := f.pc + 1, stack := f.stack ++ [x.a] }] })) := by
  have HFS := Lib.hid hfs
  have HOP := Lib.hid hop
  have HK := Lib.hid hk
  have HP := Lib.hid hp
  clear hop hk hp
  obtain ⟨a0, cap0, he0, hl1, hl2, hl3, hE⟩ := hfs
  obtain ⟨rfl, rfl⟩ : ga = a0 ∧ gc = cap0 := by simpa using he0
  have hkl : k < funcs.length := (List.getElem?_eq_some_iff.1 hy).1
  rcases hE with h0 | ⟨b, o, rfl, hbB, hE⟩
  · rw [h0] at hy; simp at hy
  have hEk := Lib.hid (hE k y hy)
  obtain ⟨yv, q4, hyc⟩ := hEk.out.2.2.2.2.1
  obtain ⟨ya, ycap, rfl, hyl1, hyl2, hyl3, hEc⟩ := hyc
  have hpl : p < y.code.length := (List.getElem?_eq_some_iff.1 hx).1
  rcases hEc with h0 | ⟨yb, yo, rfl, hybB, hEc⟩
  · rw [h0] at hx; simp at hx
  obtain ⟨i0, i1, hi64, hi64a⟩ := hEc p x hx
  obtain ⟨xop, xa⟩ := x
  dsimp only at i0 i1 hi64 hi64a
  obtain ⟨WA, hWA⟩ : ∃ W, W = w.alloc (.cells #[.slice fa fn fc, .int .i64 g, .slice (some ⟨b, o, none⟩) funcs.length gc, .pointer (some ⟨bm, 0, none⟩)] 104) := ⟨_, rfl⟩
  have hbox : Hid (Cells WA w.heap.size [.slice fa fn fc, .int .i64 g, .slice (some ⟨b, o, none⟩) funcs.length gc, .pointer (some ⟨bm, 0, none⟩)]) := by rw [hWA]; exact cells_new
  have hWAb : Below w.heap.size w WA := by rw [hWA]; exact below_alloc w _
  have hWs : WA.heap.size = w.heap.size + 1 := by rw [hWA]; simp
  have H := Lib.hid h
  have hlt := Lib.hid h.lt
  have HB := Lib.hid hB
  have hnot : w.heap.size ∉ bm :: fb :: (Fi ++ (Fl ++ Fs)) := fun e => by have := hlt.out _ e; omega
  obtain ⟨h2, hM2⟩ := m_put (m' := { m with idle := m.idle + 1 }) h hWAb 8 (.int .i64 (m.idle + 1)) rfl
  obtain ⟨W2, hW2⟩ : ∃ W, W = WA.setCell ⟨bm, 8, none⟩ (.int .i64 (m.idle + 1)) := ⟨_, rfl⟩
  rw [← hW2] at h2 hM2
  have H2 := Lib.hid h2
  have HM2 := Lib.hid hM2
  have hA := h.keep hWAb
  have c8 := hA.cIdle
  have f8 := hA.frm 8
  have k0 := hbox.out 0 _ rfl
  have k1 := hbox.out 1 _ rfl
  have k2 := hbox.out 2 _ rfl
  have k3 := hbox.out 3 _ rfl
  have hbw : ¬ w.heap.size = bm := fun e => hnot (by simp [e])
  have hbm : bm < w.heap.size := h.lt bm (by simp)
  have hfb : fb < w.heap.size := h.lt fb (by simp)
  have HWAb := Lib.hid hWAb
  have HI0 := Lib.hid i0
  have HI1 := Lib.hid i1
  have HQ4 := Lib.hid q4
  clear h hB he0 hE hEc h2 hM2 hA i0 i1 q4 hWAb
  unfold runV
  go_enter Tryd.func54, Tryd.ntmps54
  go_upto_region 1 with fail
  rw [← hWA]
  clear hWA
  go_upto_region 4 with fail
  rw [← hW2]
  have hM2w : Hid (Below w.heap.size WA W2 → True) := fun _ => trivial
  have k0 : W2.cell? ⟨w.heap.size, 0, none⟩ = some (.slice fa fn fc) := by rw [hW2]; go_simp
  have k1 : W2.cell? ⟨w.heap.size, 1, none⟩ = some (.int .i64 g) := by rw [hW2]; go_simp
  have k2 : W2.cell? ⟨w.heap.size, 2, none⟩ = some (.slice (some ⟨b, o, none⟩) funcs.length gc) := by rw [hW2]; go_simp
  have k3 : W2.cell? ⟨w.heap.size, 3, none⟩ = some (.pointer (some ⟨bm, 0, none⟩)) := by rw [hW2]; go_simp
  have HW2 := Lib.hid hW2
  clear hW2 c8 f8 hM2w
  go_wp2_with fail
  refine (top_any fa (some ⟨b, o, none⟩) fn fc funcs.length gc g H2.out (by omega)).mono ?_
  rintro e w3 ⟨rfl, hb3⟩
  have H3 := Lib.hid (H2.out.keep hb3)
  have HM3 := Lib.hid (HM2.out.trans (Mods.of_below hb3))
  have hBw : B ≤ w.heap.size := Nat.le_of_lt (Nat.lt_of_le_of_lt (HB.out bm (by simp)) hbm)
  have hnB : ∀ bb, bb < B → bb ∉ bm :: fb :: (Fi ++ (Fl ++ Fs)) := fun bb hb e => by have := HB.out bb e; omega
  have k0 := keepC hb3 k0
  have k1 := keepC hb3 k1
  have k2 := keepC hb3 k2
  have k3 := keepC hb3 k3
  have i0 := HM3.out.cell HI0.out (hnB _ hybB)
  have i1 := HM3.out.cell HI1.out (hnB _ hybB)
  have q4 := HM3.out.cell HQ4.out (hnB _ hbB)
  have cfn := H3.out.cFn
  have cpc := H3.out.cPc
  rw [HK.out] at cfn
  rw [HP.out] at cpc
  have fpc := H3.out.frf (fs.length * 4 + 1)
  have hsz3 : w.heap.size < w3.heap.size := World.block_lt_of_cell? w3 _ k0
  have hfb3 : fb < w3.heap.size := by omega
  have hbm3 : bm < w3.heap.size := by omega
  have hi0 : (0 : Int) ≤ (k : Int) := Int.natCast_nonneg _
  have hi1 : (k : Int) < (funcs.length : Int) := by omega
  have hj0 : (0 : Int) ≤ (p : Int) := Int.natCast_nonneg _
  have hj1 : (p : Int) < (y.code.length : Int) := by omega
  have hyb3 := World.block_lt_of_cell? w3 _ i0
  have hbb3 := World.block_lt_of_cell? w3 _ q4
  clear hb3
  go_wp2_with fail
  go_region
  go_upto_region 7 with fail
  obtain ⟨h4, hM4⟩ := pc_put H3.out ((p : Int) + 1) ⟨by omega, by omega⟩
  obtain ⟨W4, hW4⟩ : ∃ W, W = ((w3.setCell ⟨fb, fs.length * 4 + 1, none⟩ (.int .i64 ((p : Int) + 1))).alloc (.cells #[.int .i64 xop, .int .i64 xa] 26)).drew := ⟨_, rfl⟩
  have hb4 : Below (w3.setCell ⟨fb, fs.length * 4 + 1, none⟩ (.int .i64 ((p : Int) + 1))).heap.size (w3.setCell ⟨fb, fs.length * 4 + 1, none⟩ (.int .i64 ((p : Int) + 1))) W4 := by rw [hW4]; exact bdrew (below_alloc _ _) 1
  have H4 := Lib.hid (h4.keep hb4)
  have HM4 := Lib.hid ((HM3.out.trans hM4).trans (Mods.of_below hb4))
  have d0 : W4.cell? ⟨w3.heap.size, 0, none⟩ = some (.int .i64 xop) := by rw [hW4]; go_simp
  have d1 : W4.cell? ⟨w3.heap.size, 1, none⟩ = some (.int .i64 xa) := by rw [hW4]; go_simp
  have hnfb : ¬ w.heap.size = fb := fun e => hnot (by simp [e])
  have k0 : W4.cell? ⟨w.heap.size, 0, none⟩ = some (.slice fa fn fc) := by rw [hW4]; go_simp
  have k1 : W4.cell? ⟨w.heap.size, 1, none⟩ = some (.int .i64 g) := by rw [hW4]; go_simp
  have k2 : W4.cell? ⟨w.heap.size, 2, none⟩ = some (.slice (some ⟨b, o, none⟩) funcs.length gc) := by rw [hW4]; go_simp
  have k3 : W4.cell? ⟨w.heap.size, 3, none⟩ = some (.pointer (some ⟨bm, 0, none⟩)) := by rw [hW4]; go_simp
  have hds : w3.heap.size < W4.heap.size := World.block_lt_of_cell? W4 _ d0
  have hdn : w3.heap.size ∉ bm :: fb :: (Fi ++ (Fl ++ Fs)) := fun e => by have := hlt.out _ e; omega
  have hnd := H.out.nodup
  rw [← hW4]
  obtain ⟨ib, hib⟩ : ∃ ib, ib = w3.heap.size := ⟨_, rfl⟩
  rw [← hib]
  rw [← hib] at d0 d1 hds hdn
  have hsz4 : w.heap.size < W4.heap.size := by omega
  have hibs : w.heap.size < ib := by omega
  have HEf := Lib.hid hEk.out
  clear hW4 hib H3 HM3 H2 HM2 HW2 hb4 h4 hM4 i0 i1 q4 cfn cpc fpc hfb3 hbm3 hyb3 hbb3 hsz3 HI0 HI1 HQ4 hbox HWAb hWs hEk
  obtain rfl : xop = 1 := HOP.out
  go_wp2_with fail
  refine (push_any fa (some ⟨b, o, none⟩) fn fc funcs.length gc g H4.out (by omega) xa hi64a hsl).mono ?_
  rintro e w5 ⟨rfl, cur5, sv5, Fs5, hT5, hM5⟩
  go_wp2_with fail
  go_end0
  rw [HP.out]
  exact ⟨rfl, _, (hT5.reframe _).own rfl, HM4.out.trans hM5⟩
set_option maxRecDepth 100000 in
set_option maxHeartbeats 2000000 in
theorem step_4 {w : World} {bm fb cap : Nat} {cur : Array Value} {cs : List Value} {fs : List Fra} {f : Fra} {lv sv : Value} {m : Mch} {Fi Fl Fs : List Nat} (fa ga : Option Addr) (fn fc gc : Nat) (g : Int) (h : TopOwn w bm fb cap cur cs fs f lv sv m Fi Fl Fs) (hn : fs.length < 200)
    (B : Nat) (hB : ∀ b ∈ bm :: fb :: (Fi ++ (Fl ++ Fs)), B ≤ b) (funcs : List Fun) (hfl : funcs.length ≤ 1000000) (hfs : SliceOf B w 5 (FunE B) (.slice ga funcs.length gc) funcs) (k : Nat) (hk : f.fn = k) (y : Fun) (hy : funcs[k]? = some y) (p : Nat) (hp : f.pc = p) (x : Ins) (hx : y.code[p]? = some x) (hcl : y.code.length ≤ 1000000)
    (hid : 0 ≤ m.idle ∧ m.idle < 100000) (hop : x.op = 4) :
    Calls Tryd.prog 54 #[runV (.slice fa fn fc) (.slice ga funcs.length gc) g bm] w (StepPost w bm (bm :: fb :: (Fi ++ (Fl ++ Fs))) (.stop ⟨1, 0, x.a, 0, 0⟩ { m with idle := m.idle + 1, frames := fs ++ [{ f with pc := f.pc + 1 }] })) := by
  have HFS := Lib.hid hfs
  have HOP := Lib.hid hop
  have HK := Lib.hid hk
  have HP := Lib.hid hp
  clear hop hk hp
  obtain ⟨a0, cap0, he0, hl1, hl2, hl3, hE⟩ := hfs
  obtain ⟨rfl, rfl⟩ : ga = a0 ∧ gc = cap0 := by simpa using he0
  have hkl : k < funcs.length := (List.getElem?_eq_some_iff.1 hy).1
  rcases hE with h0 | ⟨b, o, rfl, hbB, hE⟩
  · rw [h0] at hy; simp at hy
  have hEk := Lib.hid (hE k y hy)
  obtain ⟨yv, q4, hyc⟩ := hEk.out.2.2.2.2.1
  obtain ⟨ya, ycap, rfl, hyl1, hyl2, hyl3, hEc⟩ := hyc
  have hpl : p < y.code.length := (List.getElem?_eq_some_iff.1 hx).1
  rcases hEc with h0 | ⟨yb, yo, rfl, hybB, hEc⟩
  · rw [h0] at hx; simp at hx
  obtain ⟨i0, i1, hi64, hi64a⟩ := hEc p x hx
  obtain ⟨xop, xa⟩ := x
  dsimp only at i0 i1 hi64 hi64a
  obtain ⟨WA, hWA⟩ : ∃ W, W = w.alloc (.cells #[.slice fa fn fc, .int .i64 g, .slice (some ⟨b, o, none⟩) funcs.length gc, .pointer (some ⟨bm, 0, none⟩)] 104) := ⟨_, rfl⟩
  have hbox : Hid (Cells WA w.heap.size [.slice fa fn fc, .int .i64 g, .slice (some ⟨b, o, none⟩) funcs.length gc, .pointer (some ⟨bm, 0, none⟩)]) := by rw [hWA]; exact cells_new
  have hWAb : Below w.heap.size w WA := by rw [hWA]; exact below_alloc w _
  have hWs : WA.heap.size = w.heap.size + 1 := by rw [hWA]; simp
  have H := Lib.hid h
  have hlt := Lib.hid h.lt
  have HB := Lib.hid hB
  have hnot : w.heap.size ∉ bm :: fb :: (Fi ++ (Fl ++ Fs)) := fun e => by have := hlt.out _ e; omega
  obtain ⟨h2, hM2⟩ := m_put (m' := { m with idle := m.idle + 1 }) h hWAb 8 (.int .i64 (m.idle + 1)) rfl
  obtain ⟨W2, hW2⟩ : ∃ W, W = WA.setCell ⟨bm, 8, none⟩ (.int .i64 (m.idle + 1)) := ⟨_, rfl⟩
  rw [← hW2] at h2 hM2
  have H2 := Lib.hid h2
  have HM2 := Lib.hid hM2
  have hA := h.keep hWAb
  have c8 := hA.cIdle
  have f8 := hA.frm 8
  have k0 := hbox.out 0 _ rfl
  have k1 := hbox.out 1 _ rfl
  have k2 := hbox.out 2 _ rfl
  have k3 := hbox.out 3 _ rfl
  have hbw : ¬ w.heap.size = bm := fun e => hnot (by simp [e])
  have hbm : bm < w.heap.size := h.lt bm (by simp)
  have hfb : fb < w.heap.size := h.lt fb (by simp)
  have HWAb := Lib.hid hWAb
  have HI0 := Lib.hid i0
  have HI1 := Lib.hid i1
  have HQ4 := Lib.hid q4
  clear h hB he0 hE hEc h2 hM2 hA i0 i1 q4 hWAb
  unfold runV
  go_enter Tryd.func54, Tryd.ntmps54
  go_upto_region 1 with fail
  rw [← hWA]
  clear hWA
  go_upto_region 4 with fail
  rw [← hW2]
  have hM2w : Hid (Below w.heap.size WA W2 → True) := fun _ => trivial
  have k0 : W2.cell? ⟨w.heap.size, 0, none⟩ = some (.slice fa fn fc) := by rw [hW2]; go_simp
  have k1 : W2.cell? ⟨w.heap.size, 1, none⟩ = some (.int .i64 g) := by rw [hW2]; go_simp
  have k2 : W2.cell? ⟨w.heap.size, 2, none⟩ = some (.slice (some ⟨b, o, none⟩) funcs.length gc) := by rw [hW2]; go_simp
  have k3 : W2.cell? ⟨w.heap.size, 3, none⟩ = some (.pointer (some ⟨bm, 0, none⟩)) := by rw [hW2]; go_simp
  have HW2 := Lib.hid hW2
  clear hW2 c8 f8 hM2w
  go_wp2_with fail
  refine (top_any fa (some ⟨b, o, none⟩) fn fc funcs.length gc g H2.out (by omega)).mono ?_
  rintro e w3 ⟨rfl, hb3⟩
  have H3 := Lib.hid (H2.out.keep hb3)
  have HM3 := Lib.hid (HM2.out.trans (Mods.of_below hb3))
  have hBw : B ≤ w.heap.size := Nat.le_of_lt (Nat.lt_of_le_of_lt (HB.out bm (by simp)) hbm)
  have hnB : ∀ bb, bb < B → bb ∉ bm :: fb :: (Fi ++ (Fl ++ Fs)) := fun bb hb e => by have := HB.out bb e; omega
  have k0 := keepC hb3 k0
  have k1 := keepC hb3 k1
  have k2 := keepC hb3 k2
  have k3 := keepC hb3 k3
  have i0 := HM3.out.cell HI0.out (hnB _ hybB)
  have i1 := HM3.out.cell HI1.out (hnB _ hybB)
  have q4 := HM3.out.cell HQ4.out (hnB _ hbB)
  have cfn := H3.out.cFn
  have cpc := H3.out.cPc
  rw [HK.out] at cfn
  rw [HP.out] at cpc
  have fpc := H3.out.frf (fs.length * 4 + 1)
  have hsz3 : w.heap.size < w3.heap.size := World.block_lt_of_cell? w3 _ k0
  have hfb3 : fb < w3.heap.size := by omega
  have hbm3 : bm < w3.heap.size := by omega
  have hi0 : (0 : Int) ≤ (k : Int) := Int.natCast_nonneg _
  have hi1 : (k : Int) < (funcs.length : Int) := by omega
  have hj0 : (0 : Int) ≤ (p : Int) := Int.natCast_nonneg _
  have hj1 : (p : Int) < (y.code.length : Int) := by omega
  have hyb3 := World.block_lt_of_cell? w3 _ i0
  have hbb3 := World.block_lt_of_cell? w3 _ q4
  clear hb3
  go_wp2_with fail
  go_region
  go_upto_region 7 with fail
  obtain ⟨h4, hM4⟩ := pc_put H3.out ((p : Int) + 1) ⟨by omega, by omega⟩
  obtain ⟨W4, hW4⟩ : ∃ W, W = ((w3.setCell ⟨fb, fs.length * 4 + 1, none⟩ (.int .i64 ((p : Int) + 1))).alloc (.cells #[.int .i64 xop, .int .i64 xa] 26)).drew := ⟨_, rfl⟩
  have hb4 : Below (w3.setCell ⟨fb, fs.length * 4 + 1, none⟩ (.int .i64 ((p : Int) + 1))).heap.size (w3.setCell ⟨fb, fs.length * 4 + 1, none⟩ (.int .i64 ((p : Int) + 1))) W4 := by rw [hW4]; exact bdrew (below_alloc _ _) 1
  have H4 := Lib.hid (h4.keep hb4)
  have HM4 := Lib.hid ((HM3.out.trans hM4).trans (Mods.of_below hb4))
  have d0 : W4.cell? ⟨w3.heap.size, 0, none⟩ = some (.int .i64 xop) := by rw [hW4]; go_simp
  have d1 : W4.cell? ⟨w3.heap.size, 1, none⟩ = some (.int .i64 xa) := by rw [hW4]; go_simp
  have hnfb : ¬ w.heap.size = fb := fun e => hnot (by simp [e])
  have k0 : W4.cell? ⟨w.heap.size, 0, none⟩ = some (.slice fa fn fc) := by rw [hW4]; go_simp
  have k1 : W4.cell? ⟨w.heap.size, 1, none⟩ = some (.int .i64 g) := by rw [hW4]; go_simp
  have k2 : W4.cell? ⟨w.heap.size, 2, none⟩ = some (.slice (some ⟨b, o, none⟩) funcs.length gc) := by rw [hW4]; go_simp
  have k3 : W4.cell? ⟨w.heap.size, 3, none⟩ = some (.pointer (some ⟨bm, 0, none⟩)) := by rw [hW4]; go_simp
  have hds : w3.heap.size < W4.heap.size := World.block_lt_of_cell? W4 _ d0
  have hdn : w3.heap.size ∉ bm :: fb :: (Fi ++ (Fl ++ Fs)) := fun e => by have := hlt.out _ e; omega
  have hnd := H.out.nodup
  rw [← hW4]
  obtain ⟨ib, hib⟩ : ∃ ib, ib = w3.heap.size := ⟨_, rfl⟩
  rw [← hib]
  rw [← hib] at d0 d1 hds hdn
  have hsz4 : w.heap.size < W4.heap.size := by omega
  have hibs : w.heap.size < ib := by omega
  have HEf := Lib.hid hEk.out
  clear hW4 hib H3 HM3 H2 HM2 HW2 hb4 h4 hM4 i0 i1 q4 cfn cpc fpc hfb3 hbm3 hyb3 hbb3 hsz3 HI0 HI1 HQ4 hbox HWAb hWs hEk
  obtain rfl : xop = 4 := HOP.out
  go_wp2_with fail
  refine (ask_any fa (some ⟨b, o, none⟩) fn fc funcs.length gc g bm 1 0 xa 0 0 _).mono ?_
  rintro e w5 ⟨rfl, hb5⟩
  refine ⟨rfl, ?_⟩
  rw [HP.out]
  exact ⟨rfl, _, ((H4.out.keep hb5).reframe _).own rfl, HM4.out.trans (Mods.of_below hb5)⟩
set_option maxRecDepth 100000 in
set_option maxHeartbeats 2000000 in
theorem step_8 {w : World} {bm fb cap : Nat} {cur : Array Value} {cs : List Value} {fs : List Fra} {f : Fra} {lv sv : Value} {m : Mch} {Fi Fl Fs : List Nat} (fa ga : Option Addr) (fn fc gc : Nat) (g : Int) (h : TopOwn w bm fb cap cur cs fs f lv sv m Fi Fl Fs) (hn : fs.length < 200)
    (B : Nat) (hB : ∀ b ∈ bm :: fb :: (Fi ++ (Fl ++ Fs)), B ≤ b) (funcs : List Fun) (hfl : funcs.length ≤ 1000000) (hfs : SliceOf B w 5 (FunE B) (.slice ga funcs.length gc) funcs) (k : Nat) (hk : f.fn = k) (y : Fun) (hy : funcs[k]? = some y) (p : Nat) (hp : f.pc = p) (x : Ins) (hx : y.code[p]? = some x) (hcl : y.code.length ≤ 1000000)
    (hid : 0 ≤ m.idle ∧ m.idle < 100000) (hop : x.op = 8) :
    Calls Tryd.prog 54 #[runV (.slice fa fn fc) (.slice ga funcs.length gc) g bm] w (StepPost w bm (bm :: fb :: (Fi ++ (Fl ++ Fs))) (.stop ⟨3, 0, x.a, 0, 0⟩ { m with idle := m.idle + 1, frames := fs ++ [{ f with pc := f.pc + 1 }] })) := by
  have HFS := Lib.hid hfs
  have HOP := Lib.hid hop
  have HK := Lib.hid hk
  have HP := Lib.hid hp
  clear hop hk hp
  obtain ⟨a0, cap0, he0, hl1, hl2, hl3, hE⟩ := hfs
  obtain ⟨rfl, rfl⟩ : ga = a0 ∧ gc = cap0 := by simpa using he0
  have hkl : k < funcs.length := (List.getElem?_eq_some_iff.1 hy).1
  rcases hE with h0 | ⟨b, o, rfl, hbB, hE⟩
  · rw [h0] at hy; simp at hy
  have hEk := Lib.hid (hE k y hy)
  obtain ⟨yv, q4, hyc⟩ := hEk.out.2.2.2.2.1
  obtain ⟨ya, ycap, rfl, hyl1, hyl2, hyl3, hEc⟩ := hyc
  have hpl : p < y.code.length := (List.getElem?_eq_some_iff.1 hx).1
  rcases hEc with h0 | ⟨yb, yo, rfl, hybB, hEc⟩
  · rw [h0] at hx; simp at hx
  obtain ⟨i0, i1, hi64, hi64a⟩ := hEc p x hx
  obtain ⟨xop, xa⟩ := x
  dsimp only at i0 i1 hi64 hi64a
  obtain ⟨WA, hWA⟩ : ∃ W, W = w.alloc (.cells #[.slice fa fn fc, .int .i64 g, .slice (some ⟨b, o, none⟩) funcs.length gc, .pointer (some ⟨bm, 0, none⟩)] 104) := ⟨_, rfl⟩
  have hbox : Hid (Cells WA w.heap.size [.slice fa fn fc, .int .i64 g, .slice (some ⟨b, o, none⟩) funcs.length gc, .pointer (some ⟨bm, 0, none⟩)]) := by rw [hWA]; exact cells_new
  have hWAb : Below w.heap.size w WA := by rw [hWA]; exact below_alloc w _
  have hWs : WA.heap.size = w.heap.size + 1 := by rw [hWA]; simp
  have H := Lib.hid h
  have hlt := Lib.hid h.lt
  have HB := Lib.hid hB
  have hnot : w.heap.size ∉ bm :: fb :: (Fi ++ (Fl ++ Fs)) := fun e => by have := hlt.out _ e; omega
  obtain ⟨h2, hM2⟩ := m_put (m' := { m with idle := m.idle + 1 }) h hWAb 8 (.int .i64 (m.idle + 1)) rfl
  obtain ⟨W2, hW2⟩ : ∃ W, W = WA.setCell ⟨bm, 8, none⟩ (.int .i64 (m.idle + 1)) := ⟨_, rfl⟩
  rw [← hW2] at h2 hM2
  have H2 := Lib.hid h2
  have HM2 := Lib.hid hM2
  have hA := h.keep hWAb
  have c8 := hA.cIdle
  have f8 := hA.frm 8
  have k0 := hbox.out 0 _ rfl
  have k1 := hbox.out 1 _ rfl
  have k2 := hbox.out 2 _ rfl
  have k3 := hbox.out 3 _ rfl
  have hbw : ¬ w.heap.size = bm := fun e => hnot (by simp [e])
  have hbm : bm < w.heap.size := h.lt bm (by simp)
  have hfb : fb < w.heap.size := h.lt fb (by simp)
  have HWAb := Lib.hid hWAb
  have HI0 := Lib.hid i0
  have HI1 := Lib.hid i1
  have HQ4 := Lib.hid q4
  clear h hB he0 hE hEc h2 hM2 hA i0 i1 q4 hWAb
  unfold runV
  go_enter Tryd.func54, Tryd.ntmps54
  go_upto_region 1 with fail
  rw [← hWA]
  clear hWA
  go_upto_region 4 with fail
  rw [← hW2]
  have hM2w : Hid (Below w.heap.size WA W2 → True) := fun _ => trivial
  have k0 : W2.cell? ⟨w.heap.size, 0, none⟩ = some (.slice fa fn fc) := by rw [hW2]; go_simp
  have k1 : W2.cell? ⟨w.heap.size, 1, none⟩ = some (.int .i64 g) := by rw [hW2]; go_simp
  have k2 : W2.cell? ⟨w.heap.size, 2, none⟩ = some (.slice (some ⟨b, o, none⟩) funcs.length gc) := by rw [hW2]; go_simp
  have k3 : W2.cell? ⟨w.heap.size, 3, none⟩ = some (.pointer (some ⟨bm, 0, none⟩)) := by rw [hW2]; go_simp
  have HW2 := Lib.hid hW2
  clear hW2 c8 f8 hM2w
  go_wp2_with fail
  refine (top_any fa (some ⟨b, o, none⟩) fn fc funcs.length gc g H2.out (by omega)).mono ?_
  rintro e w3 ⟨rfl, hb3⟩
  have H3 := Lib.hid (H2.out.keep hb3)
  have HM3 := Lib.hid (HM2.out.trans (Mods.of_below hb3))
  have hBw : B ≤ w.heap.size := Nat.le_of_lt (Nat.lt_of_le_of_lt (HB.out bm (by simp)) hbm)
  have hnB : ∀ bb, bb < B → bb ∉ bm :: fb :: (Fi ++ (Fl ++ Fs)) := fun bb hb e => by have := HB.out bb e; omega
  have k0 := keepC hb3 k0
  have k1 := keepC hb3 k1
  have k2 := keepC hb3 k2
  have k3 := keepC hb3 k3
  have i0 := HM3.out.cell HI0.out (hnB _ hybB)
  have i1 := HM3.out.cell HI1.out (hnB _ hybB)
  have q4 := HM3.out.cell HQ4.out (hnB _ hbB)
  have cfn := H3.out.cFn
  have cpc := H3.out.cPc
  rw [HK.out] at cfn
  rw [HP.out] at cpc
  have fpc := H3.out.frf (fs.length * 4 + 1)
  have hsz3 : w.heap.size < w3.heap.size := World.block_lt_of_cell? w3 _ k0
  have hfb3 : fb < w3.heap.size := by omega
  have hbm3 : bm < w3.heap.size := by omega
  have hi0 : (0 : Int) ≤ (k : Int) := Int.natCast_nonneg _
  have hi1 : (k : Int) < (funcs.length : Int) := by omega
  have hj0 : (0 : Int) ≤ (p : Int) := Int.natCast_nonneg _
  have hj1 : (p : Int) < (y.code.length : Int) := by omega
  have hyb3 := World.block_lt_of_cell? w3 _ i0
  have hbb3 := World.block_lt_of_cell? w3 _ q4
  clear hb3
  go_wp2_with fail
  go_region
  go_upto_region 7 with fail
  obtain ⟨h4, hM4⟩ := pc_put H3.out ((p : Int) + 1) ⟨by omega, by omega⟩
  obtain ⟨W4, hW4⟩ : ∃ W, W = ((w3.setCell ⟨fb, fs.length * 4 + 1, none⟩ (.int .i64 ((p : Int) + 1))).alloc (.cells #[.int .i64 xop, .int .i64 xa] 26)).drew := ⟨_, rfl⟩
  have hb4 : Below (w3.setCell ⟨fb, fs.length * 4 + 1, none⟩ (.int .i64 ((p : Int) + 1))).heap.size (w3.setCell ⟨fb, fs.length * 4 + 1, none⟩ (.int .i64 ((p : Int) + 1))) W4 := by rw [hW4]; exact bdrew (below_alloc _ _) 1
  have H4 := Lib.hid (h4.keep hb4)
  have HM4 := Lib.hid ((HM3.out.trans hM4).trans (Mods.of_below hb4))
  have d0 : W4.cell? ⟨w3.heap.size, 0, none⟩ = some (.int .i64 xop) := by rw [hW4]; go_simp
  have d1 : W4.cell? ⟨w3.heap.size, 1, none⟩ = some (.int .i64 xa) := by rw [hW4]; go_simp
  have hnfb : ¬ w.heap.size = fb := fun e => hnot (by simp [e])
  have k0 : W4.cell? ⟨w.heap.size, 0, none⟩ = some (.slice fa fn fc) := by rw [hW4]; go_simp
  have k1 : W4.cell? ⟨w.heap.size, 1, none⟩ = some (.int .i64 g) := by rw [hW4]; go_simp
  have k2 : W4.cell? ⟨w.heap.size, 2, none⟩ = some (.slice (some ⟨b, o, none⟩) funcs.length gc) := by rw [hW4]; go_simp
  have k3 : W4.cell? ⟨w.heap.size, 3, none⟩ = some (.pointer (some ⟨bm, 0, none⟩)) := by rw [hW4]; go_simp
  have hds : w3.heap.size < W4.heap.size := World.block_lt_of_cell? W4 _ d0
  have hdn : w3.heap.size ∉ bm :: fb :: (Fi ++ (Fl ++ Fs)) := fun e => by have := hlt.out _ e; omega
  have hnd := H.out.nodup
  rw [← hW4]
  obtain ⟨ib, hib⟩ : ∃ ib, ib = w3.heap.size := ⟨_, rfl⟩
  rw [← hib]
  rw [← hib] at d0 d1 hds hdn
  have hsz4 : w.heap.size < W4.heap.size := by omega
  have hibs : w.heap.size < ib := by omega
  have HEf := Lib.hid hEk.out
  clear hW4 hib H3 HM3 H2 HM2 HW2 hb4 h4 hM4 i0 i1 q4 cfn cpc fpc hfb3 hbm3 hyb3 hbb3 hsz3 HI0 HI1 HQ4 hbox HWAb hWs hEk
  obtain rfl : xop = 8 := HOP.out
  go_wp2_with fail
  refine (ask_any fa (some ⟨b, o, none⟩) fn fc funcs.length gc g bm 3 0 xa 0 0 _).mono ?_
  rintro e w5 ⟨rfl, hb5⟩
  refine ⟨rfl, ?_⟩
  rw [HP.out]
  exact ⟨rfl, _, ((H4.out.keep hb5).reframe _).own rfl, HM4.out.trans (Mods.of_below hb5)⟩
end Go.Proofs.YtbmeoklmachjpaaDoor
