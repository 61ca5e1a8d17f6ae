/- Codes that a law makes; the contract of example. -/
import Derived.Test.YtbmeoklmachjpaaDoorFul
import Derived.Test.YtbmeoklmachjpaaDoorSam
import Derived.Test.YtbmeoklmachjpaaDoorRdb
set_option linter.unusedVariables false
set_option linter.unusedSimpArgs false
namespace Go.Proofs.YtbmeoklmachjpaaDoor
open Go.RowKit

def insCells (l : List Ins) : List Value := l.flatMap (fun x => [.int .i64 x.op, .int .i64 x.a])
theorem insCells_len (l : List Ins) : (insCells l).length = l.length * 2 := by
  induction l with
  | nil => rfl
  | cons a l ih =>
    unfold insCells at *
    simp only [List.flatMap_cons, List.length_append, ih, List.length_cons, List.length_nil]
    omega
theorem insCells_at : ∀ {l : List Ins} {i : Nat} {x : Ins}, l[i]? = some x → (insCells l)[i * 2]? = some (.int .i64 x.op) ∧ (insCells l)[i * 2 + 1]? = some (.int .i64 x.a)
  | [], _, _, h => by simp at h
  | y :: l, 0, x, h => by
    simp at h
    subst h
    simp [insCells]
  | y :: l, i + 1, x, h => by
    obtain ⟨h1, h2⟩ := insCells_at (l := l) (i := i) (x := x) (by simpa using h)
    have e : insCells (y :: l) = [.int .i64 y.op, .int .i64 y.a] ++ insCells l := rfl
    rw [e]
    refine ⟨?_, ?_⟩
    · rw [show (i + 1) * 2 = i * 2 + 1 + 1 by omega]; simpa using h1
    · rw [show (i + 1) * 2 + 1 = (i * 2 + 1) + 1 + 1 by omega]; simpa using h2
theorem inss_of {B : Nat} {w : World} {b cap : Nat} (l : List Ins) (h : Cells w b (insCells l)) (h64 : ∀ x ∈ l, in64 x.op ∧ in64 x.a) (hb : b < B) (hl : l.length ≤ 1048576) (hc : l.length ≤ cap) (hc2 : cap ≤ 9223372036854775807) : SliceOf B w 2 InsE (.slice (some ⟨b, 0, none⟩) l.length cap) l := by
  refine ⟨_, cap, rfl, by omega, hc, hc2, .inr ⟨b, 0, rfl, hb, fun i x hx => ?_⟩⟩
  obtain ⟨h1, h2⟩ := insCells_at hx
  have := h64 x (List.mem_of_getElem? hx)
  rw [Nat.zero_add]
  exact ⟨h _ _ h1, h _ _ h2, this.1, this.2⟩
/-- a code in new memory -/
def CodPost (c : Cod) (w : World) (e : Ending) (w' : World) : Prop := ∃ (fa ga : Option Addr) (fc gc : Nat), e = .returned (.agg #[.slice fa c.fields.length fc, .int .i64 c.globals, .slice ga c.funcs.length gc]) ∧ CodV w'.heap.size w' (.agg #[.slice fa c.fields.length fc, .int .i64 c.globals, .slice ga c.funcs.length gc]) c ∧ Below w.heap.size w w'
set_option maxRecDepth 1000000 in
set_option maxHeartbeats 2000000 in
theorem example_any (w : World) : Calls Tryd.prog 15 #[] w (CodPost exC w) := by
  obtain ⟨W, hW⟩ : ∃ W, W = (((w.alloc (.cells #[.slice none 0 0, .int .i64 1, .slice (some ⟨w.heap.size + 1 + 1 + 1, 0, none⟩) 2 2] 32)).alloc (.cells #[.int .i64 13, .int .i64 0, .int .i64 2, .int .i64 0, .int .i64 1, .int .i64 1, .int .i64 15, .int .i64 0, .int .i64 10, .int .i64 0] 26)).alloc (.cells #[.int .i64 4, .int .i64 0, .int .i64 10, .int .i64 0] 26)).alloc (.cells #[.string ⟨#[112]⟩, .int .i64 1, .int .i64 1, .bool true, .slice (some ⟨w.heap.size + 1, 0, none⟩) 5 5, .string ⟨#[113]⟩, .int .i64 0, .int .i64 0, .bool true, .slice (some ⟨w.heap.size + 1 + 1, 0, none⟩) 2 2] 28) := ⟨_, rfl⟩
  have hWb : Hid (Below w.heap.size w W) := by rw [hW]; exact Lib.hid ((((below_alloc _ _).then (below_alloc _ _)).then (below_alloc _ _)).then (below_alloc _ _))
  have hsz : Hid (W.heap.size = w.heap.size + 4) := by rw [hW]; exact Lib.hid (by simp)
  have h0 : Hid (Cells W w.heap.size [.slice none 0 0, .int .i64 1, .slice (some ⟨w.heap.size + 1 + 1 + 1, 0, none⟩) 2 2]) := by rw [hW]; exact Lib.hid (((cells_new.alloc _).alloc _).alloc _)
  have h1 : Hid (Cells W (w.heap.size + 1) (insCells exP.code)) := by
    rw [hW]
    have := @cells_new (w.alloc (.cells #[.slice none 0 0, .int .i64 1, .slice (some ⟨w.heap.size + 1 + 1 + 1, 0, none⟩) 2 2] 32)) #[.int .i64 13, .int .i64 0, .int .i64 2, .int .i64 0, .int .i64 1, .int .i64 1, .int .i64 15, .int .i64 0, .int .i64 10, .int .i64 0] 26
    exact Lib.hid ((Cells.alloc (by simpa [insCells, exP] using this) _).alloc _)
  have h2 : Hid (Cells W (w.heap.size + 1 + 1) (insCells exQ.code)) := by
    rw [hW]
    have := @cells_new ((w.alloc (.cells #[.slice none 0 0, .int .i64 1, .slice (some ⟨w.heap.size + 1 + 1 + 1, 0, none⟩) 2 2] 32)).alloc (.cells #[.int .i64 13, .int .i64 0, .int .i64 2, .int .i64 0, .int .i64 1, .int .i64 1, .int .i64 15, .int .i64 0, .int .i64 10, .int .i64 0] 26)) #[.int .i64 4, .int .i64 0, .int .i64 10, .int .i64 0] 26
    exact Lib.hid (Cells.alloc (by simpa [insCells, exQ] using this) _)
  have h3 : Hid (Cells W (w.heap.size + 1 + 1 + 1) [.string ⟨#[112]⟩, .int .i64 1, .int .i64 1, .bool true, .slice (some ⟨w.heap.size + 1, 0, none⟩) 5 5, .string ⟨#[113]⟩, .int .i64 0, .int .i64 0, .bool true, .slice (some ⟨w.heap.size + 1 + 1, 0, none⟩) 2 2]) := by
    obtain ⟨V, hV⟩ : ∃ V, V = ((w.alloc (.cells #[.slice none 0 0, .int .i64 1, .slice (some ⟨w.heap.size + 1 + 1 + 1, 0, none⟩) 2 2] 32)).alloc (.cells #[.int .i64 13, .int .i64 0, .int .i64 2, .int .i64 0, .int .i64 1, .int .i64 1, .int .i64 15, .int .i64 0, .int .i64 10, .int .i64 0] 26)).alloc (.cells #[.int .i64 4, .int .i64 0, .int .i64 10, .int .i64 0] 26) := ⟨_, rfl⟩
    have hVs : V.heap.size = w.heap.size + 1 + 1 + 1 := by rw [hV]; simp
    rw [hW, ← hV, ← hVs]
    exact Lib.hid cells_new
  have hC : Hid (CodV W.heap.size W (.agg #[.slice none 0 0, .int .i64 1, .slice (some ⟨w.heap.size + 1 + 1 + 1, 0, none⟩) 2 2]) exC) := Lib.hid (by
    refine ⟨_, _, rfl, ⟨none, 0, rfl, by simp [exC], by simp [exC], by omega, .inl rfl⟩, ⟨_, 2, rfl, by simp [exC], by simp [exC], by omega, .inr ⟨_, 0, rfl, by have := hsz.out; omega, fun i x hx => ?_⟩⟩, by simp [exC, in64]⟩
    match i, hx with
    | 0, hx =>
      obtain rfl : x = exP := by simpa [exC] using hx.symm
      exact ⟨h3.out 0 _ rfl, h3.out 1 _ rfl, h3.out 2 _ rfl, h3.out 3 _ rfl, ⟨_, h3.out 4 _ rfl, inss_of exP.code h1.out (by simp [exP, in64]) (by have := hsz.out; omega) (by simp [exP]) (by simp [exP]) (by omega)⟩, by decide, by simp [exP, in64], by simp [exP, in64]⟩
    | 1, hx =>
      obtain rfl : x = exQ := by simpa [exC] using hx.symm
      exact ⟨h3.out 5 _ rfl, h3.out 6 _ rfl, h3.out 7 _ rfl, h3.out 8 _ rfl, ⟨_, h3.out 9 _ rfl, inss_of exQ.code h2.out (by simp [exQ, in64]) (by have := hsz.out; omega) (by simp [exQ]) (by simp [exQ]) (by omega)⟩, by decide, by simp [exQ, in64], by simp [exQ, in64]⟩
    | i + 2, hx => simp [exC] at hx)
  have c0 := h0.out 0 _ rfl
  have c1 := h0.out 1 _ rfl
  have c2 := h0.out 2 _ rfl
  go_enter Tryd.func15, Tryd.ntmps15
  go_wp2_with fail
  rw [← hW]
  exact bodyPost_ret (v := .agg #[.slice none 0 0, .int .i64 1, .slice (some ⟨w.heap.size + 1 + 1 + 1, 0, none⟩) 2 2]) (by simp [results, Tryd.results15, go_sem, c0, c1, c2]) rfl ⟨none, _, 0, 2, rfl, hC.out, hWb.out⟩
end Go.Proofs.YtbmeoklmachjpaaDoor
