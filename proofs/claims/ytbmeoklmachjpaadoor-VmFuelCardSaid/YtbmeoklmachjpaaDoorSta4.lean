/- The contracts of function, start and Start. The cases of start. MADE BY wip/gen_sta.py start, where all is right; Start. MADE BY wip/gen_sta.py The contract of Start. MADE BY wip/gen_sta.py -/
import Derived.Test.YtbmeoklmachjpaaDoorRun8
import Derived.Laws.CopyOwn
import Derived.Laws.ResultCell
import Derived.Outline
set_option linter.unusedVariables false
set_option linter.unusedSimpArgs false
namespace Go.Proofs.YtbmeoklmachjpaaDoor
open Go.RowKit

theorem enters_function1 : Enters 51 := fun _ _ => by kernel_rfl
theorem enters_start1 : Enters 33 := fun _ _ => by kernel_rfl
set_option maxHeartbeats 400000 in
theorem function1_any (nm nm2 : ByteArray) (p l r c : Value) (b : Nat) (w : World) (hb : b < w.heap.size) (h : w.cell? ⟨b, 0, none⟩ = some (.string nm2)) :
    Calls Tryd.prog 51 #[.agg #[.string nm, p, l, r, c], .pointer (some ⟨b, 0, none⟩)] w fun e w' => e = .returned (.bool (strEq nm nm2)) ∧ Below w.heap.size w w' := by
  have h' : (w.alloc (.cells #[.string nm, p, l, r, c] 28)).cell? ⟨b, 0, none⟩ = some (.string nm2) := by rw [World.cell?_alloc_past _ _ _ hb]; exact h
  go_enter Tryd.func51, Tryd.ntmps51
  go_wp2
  go_ret
  exact ⟨rfl, (Below.refl _ _).alloc (Nat.le_refl _) _⟩
theorem function1_fn (nm : ByteArray) (b : Nat) (B : Nat) (w : World) (hb : b < w.heap.size) (h : w.cell? ⟨b, 0, none⟩ = some (.string nm)) : ∀ (x : Fun) (w1 : World) (av : Value), Below w.heap.size w w1 → FunV B w1 av x → Calls Tryd.prog 51 (#[av] ++ #[.pointer (some ⟨b, 0, none⟩)]) w1 (fun e w2 => e = .returned (.bool (strEq x.name nm)) ∧ Below w1.heap.size w1 w2) := by
  rintro x w1 av hb1 ⟨cv, rfl, _⟩
  exact function1_any x.name nm _ _ _ _ b w1 (by have := hb1.size; omega) (by rw [hb1.cell (p := ⟨b, 0, none⟩) hb]; exact h)
set_option maxHeartbeats 400000 in
theorem start1_any (n : Int) (w : World) :
    Calls Tryd.prog 33 #[.int .i64 n] w fun e w' => e = .returned (.bool (!isVal n)) ∧ w = w' := by
  go_enter Tryd.func33, Tryd.ntmps33
  go_wp2_with (go_at_call 34; refine (vmValue_any n _).mono ?_; rintro e w' ⟨rfl, rfl⟩)
  go_ret
  exact ⟨rfl, rfl⟩
theorem start1_fn (w : World) : ∀ (x : Int) (w1 : World) (av : Value), Below w.heap.size w w1 → IntV 0 w1 av x → Calls Tryd.prog 33 (#[av] ++ #[]) w1 (fun e w2 => e = .returned (.bool (!isVal x)) ∧ Below w1.heap.size w1 w2) := by
  rintro x w1 av _ ⟨rfl, _⟩
  exact (start1_any x w1).mono fun e w2 ⟨he, hw⟩ => ⟨he, hw ▸ Below.refl _ _⟩

/-- the index of a function -/
def fnIdx (c : Cod) (nm : ByteArray) : Int := idxOf (fun f => strEq f.name nm) c.funcs
set_option maxRecDepth 100000 in
set_option maxHeartbeats 1000000 in
theorem function_any (c : Cod) (cv : Value) (nm : ByteArray) (B : Nat) (w : World) (hB : B ≤ w.heap.size) (hc : CodV B w cv c) :
    Calls Tryd.prog 31 #[cv, .string nm] w fun e w' => e = .returned (.int .i64 (fnIdx c nm)) ∧ Below w.heap.size w w' := by
  have hmf : ∀ (fn : Fn) (first cap : Array Value) (w : World), (Instr.makeFunc fn first cap).run Tryd.prog w = .ok (.func fn first cap) w := fun _ _ _ _ => rfl
  obtain ⟨fv, gv, rfl, hf, hg, hgl⟩ := hc
  have HG := Lib.hid hg
  obtain ⟨fa, fcap, rfl, hfl, _, _, _⟩ := hf
  obtain ⟨ga, gcap, rfl, hgl2, hgl3, hgl4, hgE⟩ := hg
  obtain ⟨W, hW⟩ : ∃ W, W = (w.alloc (.cells #[.slice fa c.fields.length fcap, .int .i64 c.globals, .slice ga c.funcs.length gcap] 32)).alloc (.cells #[.string nm] 9) := ⟨_, rfl⟩
  have hb0 : Hid (Below w.heap.size w W) := by rw [hW]; exact (below_alloc _ _).then (below_alloc _ _)
  have hcell : Hid (W.cell? ⟨w.heap.size + 1, 0, none⟩ = some (.string nm)) := by rw [hW]; refine Lib.hid ?_; go_simp
  have HG1 := Lib.hid (HG.out.funs (hb0.out.mono hB))
  have hsz : Hid (W.heap.size = w.heap.size + 2) := by rw [hW]; exact Lib.hid (by simp)
  clear hgE
  go_enter Tryd.func31, Tryd.ntmps31
  go_wp2_with fail
  rw [← hW]
  have HW := Lib.hid hW
  clear hW
  refine (indexFunc_Func 51 #[.pointer (some ⟨w.heap.size + 1, 0, none⟩)] (fun f => strEq f.name nm) c.funcs _ B _ enters_function1 (by have := hsz.out; omega) HG1.out (function1_fn nm _ B _ (by have := hsz.out; omega) hcell.out)).mono ?_
  rintro e w' ⟨rfl, hb⟩
  go_wp2_with fail
  go_ret
  exact ⟨rfl, hb0.out.then hb⟩

/-- the error number of a call, and its fuel; 0 if there is none -/
def givenE (c : Cod) (x : Cal) (fuel : Int) : Int :=
  if fuel < 0 ∨ 1048576 < fuel then 2 else match c.funcs[(fnIdx c x.proc).toNat]? with
  | none => 9
  | some y => if fnIdx c x.proc < 0 then 9 else if (x.args.length : Int) ≠ y.params then 3 else if x.args.any (fun n => !isVal n) then 11 else 0
/-- the machine of a call -/
def startM (c : Cod) (x : Cal) (fuel : Int) : Mch :=
  ⟨[⟨fnIdx c x.proc, 0, x.args ++ List.replicate (((c.funcs[(fnIdx c x.proc).toNat]?).map (fun y => (y.locals - y.params).toNat)).getD 0) 0, []⟩], ⟨0, 0, 0, 0, 0⟩, fuel, 0, 0⟩
def machV (fv : Value) (m : Mch) : Value := .agg (machCells fv m)
def zeroM : Mch := ⟨[], ⟨0, 0, 0, 0, 0⟩, 0, 0, 0⟩
/-- a machine m in new memory -/
def NewMach (w : World) (fv : Value) (m : Mch) (w' : World) : Prop := ∃ F, VOwn w' fv m.frames F ∧ (∀ b ∈ F, w.heap.size ≤ b) ∧ Below w.heap.size w w'
/-- a machine is written into a variable -/
def machPut (W : World) (R : Nat) (fv : Value) (m : Mch) : World := ((((((((W.setCell ⟨R, 0, none⟩ fv).setCell ⟨R, 1, none⟩ (.int .i64 m.req.kind)).setCell ⟨R, 2, none⟩ (.int .i64 m.req.node)).setCell ⟨R, 3, none⟩ (.int .i64 m.req.field)).setCell ⟨R, 4, none⟩ (.int .i64 m.req.value)).setCell ⟨R, 5, none⟩ (.int .i64 m.req.fault)).setCell ⟨R, 6, none⟩ (.int .i64 m.fuel)).setCell ⟨R, 7, none⟩ (.int .i64 m.compares)).setCell ⟨R, 8, none⟩ (.int .i64 m.idle)
theorem machCells_put (fv0 fv : Value) (m0 m : Mch) : (((((((((machCells fv0 m0).setIfInBounds 0 fv).setIfInBounds 1 (.int .i64 m.req.kind)).setIfInBounds 2 (.int .i64 m.req.node)).setIfInBounds 3 (.int .i64 m.req.field)).setIfInBounds 4 (.int .i64 m.req.value)).setIfInBounds 5 (.int .i64 m.req.fault)).setIfInBounds 6 (.int .i64 m.fuel)).setIfInBounds 7 (.int .i64 m.compares)).setIfInBounds 8 (.int .i64 m.idle) = machCells fv m := by kernel_rfl
theorem machPut_facts {W : World} {R : Nat} {fv0 : Value} {m0 : Mch} (h : W.heap[R]? = some (.cells (machCells fv0 m0) 38 (0, 0))) (fv : Value) (m : Mch) :
    (machPut W R fv m).heap[R]? = some (.cells (machCells fv m) 38 (0, 0)) ∧ Mods [R] [R] W (machPut W R fv m) := by
  unfold machPut
  have h0 := heap_setCell_same _ R 0 _ _ fv h
  have h1 := heap_setCell_same _ R 1 _ _ (.int .i64 m.req.kind) h0
  have h2 := heap_setCell_same _ R 2 _ _ (.int .i64 m.req.node) h1
  have h3 := heap_setCell_same _ R 3 _ _ (.int .i64 m.req.field) h2
  have h4 := heap_setCell_same _ R 4 _ _ (.int .i64 m.req.value) h3
  have h5 := heap_setCell_same _ R 5 _ _ (.int .i64 m.req.fault) h4
  have h6 := heap_setCell_same _ R 6 _ _ (.int .i64 m.fuel) h5
  have h7 := heap_setCell_same _ R 7 _ _ (.int .i64 m.compares) h6
  have h8 := heap_setCell_same _ R 8 _ _ (.int .i64 m.idle) h7
  rw [machCells_put] at h8
  exact ⟨h8, (((((((mods_set.trans mods_set).trans mods_set).trans mods_set).trans mods_set).trans mods_set).trans mods_set).trans mods_set).trans mods_set⟩
theorem mach_cells {W : World} {R : Nat} {fv : Value} {m : Mch} (h : W.heap[R]? = some (.cells (machCells fv m) 38 (0, 0))) (j : Nat) (v : Value) (hv : (machCells fv m)[j]? = some v) : W.cell? ⟨R, j, none⟩ = some v := by
  rw [cell_of_row _ _ _ _ _ _ h]; exact hv
set_option maxRecDepth 100000 in
theorem load_mach {W : World} {R : Nat} {fv : Value} {m : Mch} (h : W.heap[R]? = some (.cells (machCells fv m) 38 (0, 0))) : (loadVar 38 ⟨R, 0, none⟩).run Tryd.prog W = .ok (machV fv m) W := by
  have c0 := mach_cells h 0 fv rfl
  have c1 := mach_cells h 1 (.int .i64 m.req.kind) rfl
  have c2 := mach_cells h 2 (.int .i64 m.req.node) rfl
  have c3 := mach_cells h 3 (.int .i64 m.req.field) rfl
  have c4 := mach_cells h 4 (.int .i64 m.req.value) rfl
  have c5 := mach_cells h 5 (.int .i64 m.req.fault) rfl
  have c6 := mach_cells h 6 (.int .i64 m.fuel) rfl
  have c7 := mach_cells h 7 (.int .i64 m.compares) rfl
  have c8 := mach_cells h 8 (.int .i64 m.idle) rfl
  simp [go_sem, machV, machCells, c0, c1, c2, c3, c4, c5, c6, c7, c8]
/-- the results of a function that returns a machine and a number -/
theorem results_mach {fn : Func} {p u : Tmp} (hf : fn.results = #[.cell p 38, .tmp u]) {W : World} {R : Nat} {fv : Value} {m : Mch} (h : W.heap[R]? = some (.cells (machCells fv m) 38 (0, 0))) (tmps : Array Value) (e : Value) (h1 : tmps.getD p undef = .pointer (some ⟨R, 0, none⟩)) (h2 : tmps.getD u undef = e) :
    (results fn tmps).run Tryd.prog W = .ok (.tuple #[machV fv m, e]) W := by
  rw [results_cell_tmp hf, h1, h2]
  simp [asAddr, load_mach h, Result.andThen]
def StartPost (c : Cod) (x : Cal) (fuel : Int) (w : World) (e : Ending) (w' : World) : Prop :=
  (givenE c x fuel ≠ 0 ∧ e = .returned (.tuple #[machV (.slice none 0 0) zeroM, .int .i64 (givenE c x fuel)]) ∧ Below w.heap.size w w') ∨
  (givenE c x fuel = 0 ∧ ∃ m' fv, Runs c (startM c x fuel) m' ∧ e = .returned (.tuple #[machV fv m', .int .i64 0]) ∧ NewMach w fv m' w')
theorem idxOf_cases {α : Type} (p : α → Bool) (l : List α) : idxOf p l = -1 ∨ ∃ i : Nat, i < l.length ∧ idxOf p l = i := by
  unfold idxOf
  cases h : l.findIdx? p with
  | none => exact .inl rfl
  | some i => exact .inr ⟨i, (List.findIdx?_eq_some_iff_getElem.1 h).1, rfl⟩
set_option maxRecDepth 100000 in
set_option maxHeartbeats 2000000 in
theorem start_range (c : Cod) (x : Cal) (fuel : Int) (fa ga xa : Option Addr) (fn fc gn gc xn xc : Nat) (g : Int) (w : World) (hf : fuel < 0 ∨ 1048576 < fuel) :
    Calls Tryd.prog 18 #[.agg #[.slice fa fn fc, .int .i64 g, .slice ga gn gc], .agg #[.string x.proc, .slice xa xn xc], .int .i64 fuel] w (StartPost c x fuel w) := by
  have hE : Hid (givenE c x fuel = 2) := Lib.hid (by unfold givenE; rw [if_pos hf])
  have hfin : ∀ w', Below w.heap.size w w' → StartPost c x fuel w (.returned (.tuple #[machV (.slice none 0 0) zeroM, .int .i64 2])) w' := fun w' hb => .inl ⟨by rw [hE.out]; decide, by rw [hE.out], hb⟩
  have HFIN := Lib.hid hfin
  clear hfin
  by_cases h0 : fuel < 0
  · go_enter Tryd.func18, Tryd.ntmps18
    go_wp2_with fail
    exact bodyPost_ret (v := .tuple #[machV (.slice none 0 0) zeroM, .int .i64 2]) (by simp [results, Tryd.results18, go_sem, machV, machCells, zeroM]) rfl (HFIN.out _ (((below_alloc _ _).then (below_alloc _ _)).then (below_alloc _ _)))
  · have h1 : 1048576 < fuel := by omega
    have h00 : decide (fuel < 0) = false := by simp; omega
    go_enter Tryd.func18, Tryd.ntmps18
    go_wp2_with fail
    exact bodyPost_ret (v := .tuple #[machV (.slice none 0 0) zeroM, .int .i64 2]) (by simp [results, Tryd.results18, go_sem, machV, machCells, zeroM]) rfl (HFIN.out _ (((below_alloc _ _).then (below_alloc _ _)).then (below_alloc _ _)))
end Go.Proofs.YtbmeoklmachjpaaDoor
namespace Go.Proofs.YtbmeoklmachjpaaDoor
open Go.RowKit

set_option maxRecDepth 100000 in
set_option maxHeartbeats 2000000 in
theorem start_none (c : Cod) (x : Cal) (fuel : Int) (fa ga xa : Option Addr) (fn fc gc xc : Nat) (g : Int) (B : Nat) (w : World) (hB : B ≤ w.heap.size) (hc : CodV B w (.agg #[.slice fa fn fc, .int .i64 g, .slice ga c.funcs.length gc]) c) (hx : SliceOf B w 1 IntE (.slice xa x.args.length xc) x.args) (hf : 0 ≤ fuel ∧ fuel ≤ 1048576) (hi : fnIdx c x.proc = -1) :
    Calls Tryd.prog 18 #[.agg #[.slice fa fn fc, .int .i64 g, .slice ga c.funcs.length gc], .agg #[.string x.proc, .slice xa x.args.length xc], .int .i64 fuel] w (StartPost c x fuel w) := by
  have HI := Lib.hid hi
  have HE : Hid (givenE c x fuel = 9) := Lib.hid (by
    unfold givenE
    rw [if_neg (by omega)]
    cases c.funcs[(fnIdx c x.proc).toNat]? with
    | none => rfl
    | some y => simp only []; rw [if_pos (by omega)])
  clear hi
  obtain ⟨W, hW⟩ : ∃ W, W = ((w.alloc (.cells #[.slice fa fn fc, .int .i64 g, .slice ga c.funcs.length gc] 32)).alloc (.cells #[.string x.proc, .slice xa x.args.length xc] 42)).alloc (.cells #[.slice none 0 0, .int .i64 0, .int .i64 0, .int .i64 0, .int .i64 0, .int .i64 0, .int .i64 0, .int .i64 0, .int .i64 0] 38) := ⟨_, rfl⟩
  have hWb : Hid (Below w.heap.size w W) := by rw [hW]; exact ((below_alloc _ _).then (below_alloc _ _)).then (below_alloc _ _)
  have hsz : Hid (W.heap.size = w.heap.size + 3) := by rw [hW]; exact Lib.hid (by simp)
  have b0 : Hid (Cells W w.heap.size [.slice fa fn fc, .int .i64 g, .slice ga c.funcs.length gc]) := by rw [hW]; exact Lib.hid (cells_new.alloc _ |>.alloc _)
  have b1 : Hid (Cells W (w.heap.size + 1) [.string x.proc, .slice xa x.args.length xc]) := by
    rw [hW]
    have := (@cells_new (w.alloc (.cells #[.slice fa fn fc, .int .i64 g, .slice ga c.funcs.length gc] 32)) #[.string x.proc, .slice xa x.args.length xc] 42).alloc (.cells #[.slice none 0 0, .int .i64 0, .int .i64 0, .int .i64 0, .int .i64 0, .int .i64 0, .int .i64 0, .int .i64 0, .int .i64 0] 38)
    exact Lib.hid (by simpa using this)
  have b2 : Hid (W.heap[w.heap.size + 2]? = some (.cells #[.slice none 0 0, .int .i64 0, .int .i64 0, .int .i64 0, .int .i64 0, .int .i64 0, .int .i64 0, .int .i64 0, .int .i64 0] 38 (0, 0))) := by
    rw [hW]
    have := heap_alloc_new ((w.alloc (.cells #[.slice fa fn fc, .int .i64 g, .slice ga c.funcs.length gc] 32)).alloc (.cells #[.string x.proc, .slice xa x.args.length xc] 42)) (.cells #[.slice none 0 0, .int .i64 0, .int .i64 0, .int .i64 0, .int .i64 0, .int .i64 0, .int .i64 0, .int .i64 0, .int .i64 0] 38)
    exact Lib.hid (by simpa using this)
  have HC := Lib.hid hc
  have HX := Lib.hid hx
  have hcW := Lib.hid (hc.below (hWb.out.mono hB))
  clear hc hx
  have hf1 := hf.1
  have hf2 := hf.2
  have hd0 : decide (fuel < 0) = false := by simp; omega
  have hd1 : decide (1048576 < fuel) = false := by simp; omega
  have hWB : B ≤ W.heap.size := by have := hsz.out; omega
  go_enter Tryd.func18, Tryd.ntmps18
  go_upto_region 3 with fail
  rw [← hW]
  have HW := Lib.hid hW
  clear hW
  have i0 := b0.out 0 _ rfl
  have i1 := b0.out 1 _ rfl
  have i2 := b0.out 2 _ rfl
  have i3 := b1.out 0 _ rfl
  have i4 := b1.out 1 _ rfl
  have z0 : w.heap.size < W.heap.size := by have := hsz.out; omega
  have z1 : w.heap.size + 1 < W.heap.size := by have := hsz.out; omega
  go_wp2_with fail
  refine (function_any c _ x.proc B W hWB hcW.out).mono ?_
  rintro e w1 ⟨rfl, hb1⟩
  rw [HI.out]
  have i0 := keepC hb1 i0
  have i1 := keepC hb1 i1
  have i2 := keepC hb1 i2
  have i3 := keepC hb1 i3
  have i4 := keepC hb1 i4
  have z0 := World.block_lt_of_cell? w1 _ i0
  have z1 := World.block_lt_of_cell? w1 _ i3
  have r1 : Hid (w1.heap[w.heap.size + 2]? = some (.cells #[.slice none 0 0, .int .i64 0, .int .i64 0, .int .i64 0, .int .i64 0, .int .i64 0, .int .i64 0, .int .i64 0, .int .i64 0] 38 (0, 0))) := Lib.hid (by rw [hb1.block _ (by have := hsz.out; omega)]; exact b2.out)
  have HB1 := Lib.hid (hWb.out.then hb1)
  clear hb1
  have rc : ∀ (j : Nat) (v : Value), (#[.slice none 0 0, .int .i64 0, .int .i64 0, .int .i64 0, .int .i64 0, .int .i64 0, .int .i64 0, .int .i64 0, .int .i64 0] : Array Value)[j]? = some v → w1.cell? ⟨w.heap.size + 2, j, none⟩ = some v := fun j v hv => by rw [cell_of_row _ _ _ _ _ _ r1.out]; exact hv
  have rc0 := rc 0 (.slice none 0 0) rfl
  have rf0 : w1.frozen? ⟨w.heap.size + 2, 0, none⟩ = false := frozen_of_row _ _ _ _ _ r1.out
  have rc1 := rc 1 (.int .i64 0) rfl
  have rf1 : w1.frozen? ⟨w.heap.size + 2, 1, none⟩ = false := frozen_of_row _ _ _ _ _ r1.out
  have rc2 := rc 2 (.int .i64 0) rfl
  have rf2 : w1.frozen? ⟨w.heap.size + 2, 2, none⟩ = false := frozen_of_row _ _ _ _ _ r1.out
  have rc3 := rc 3 (.int .i64 0) rfl
  have rf3 : w1.frozen? ⟨w.heap.size + 2, 3, none⟩ = false := frozen_of_row _ _ _ _ _ r1.out
  have rc4 := rc 4 (.int .i64 0) rfl
  have rf4 : w1.frozen? ⟨w.heap.size + 2, 4, none⟩ = false := frozen_of_row _ _ _ _ _ r1.out
  have rc5 := rc 5 (.int .i64 0) rfl
  have rf5 : w1.frozen? ⟨w.heap.size + 2, 5, none⟩ = false := frozen_of_row _ _ _ _ _ r1.out
  have rc6 := rc 6 (.int .i64 0) rfl
  have rf6 : w1.frozen? ⟨w.heap.size + 2, 6, none⟩ = false := frozen_of_row _ _ _ _ _ r1.out
  have rc7 := rc 7 (.int .i64 0) rfl
  have rf7 : w1.frozen? ⟨w.heap.size + 2, 7, none⟩ = false := frozen_of_row _ _ _ _ _ r1.out
  have rc8 := rc 8 (.int .i64 0) rfl
  have rf8 : w1.frozen? ⟨w.heap.size + 2, 8, none⟩ = false := frozen_of_row _ _ _ _ _ r1.out
  have rz := (Array.getElem?_eq_some_iff.1 r1.out).1
  clear rc
  have hfin := Lib.hid (machPut_facts (R := w.heap.size + 1 + 1) (fv0 := .slice none 0 0) (m0 := zeroM) r1.out (.slice none 0 0) zeroM)
  have HFB : Hid (Below w.heap.size w (machPut w1 (w.heap.size + 1 + 1) (.slice none 0 0) zeroM)) := Lib.hid (HB1.out.trans (hfin.out.2.below (fun b hb => by simp at hb; omega) HB1.out.size))
  go_wp2_with fail
  exact bodyPost_ret (results_mach rfl hfin.out.1 _ _ rfl rfl) rfl (.inl ⟨by rw [HE.out]; decide, by rw [HE.out]; rfl, HFB.out⟩)
set_option maxRecDepth 100000 in
set_option maxHeartbeats 2000000 in
theorem start_size (c : Cod) (x : Cal) (fuel : Int) (fa ga xa : Option Addr) (fn fc gc xc : Nat) (g : Int) (B : Nat) (w : World) (hB : B ≤ w.heap.size) (hc : CodV B w (.agg #[.slice fa fn fc, .int .i64 g, .slice ga c.funcs.length gc]) c) (hx : SliceOf B w 1 IntE (.slice xa x.args.length xc) x.args) (hf : 0 ≤ fuel ∧ fuel ≤ 1048576) (k : Nat) (hi : fnIdx c x.proc = k) (y : Fun) (hy : c.funcs[k]? = some y) (hl : (x.args.length : Int) ≠ y.params) :
    Calls Tryd.prog 18 #[.agg #[.slice fa fn fc, .int .i64 g, .slice ga c.funcs.length gc], .agg #[.string x.proc, .slice xa x.args.length xc], .int .i64 fuel] w (StartPost c x fuel w) := by
  have HI := Lib.hid hi
  have HXS := Lib.hid hx
  have HE : Hid (givenE c x fuel = 3) := Lib.hid (by
    unfold givenE
    rw [if_neg (by omega), hi]
    simp only [Int.toNat_natCast, hy]
    rw [if_neg (by omega), if_pos hl])
  clear hi
  obtain ⟨W, hW⟩ : ∃ W, W = ((w.alloc (.cells #[.slice fa fn fc, .int .i64 g, .slice ga c.funcs.length gc] 32)).alloc (.cells #[.string x.proc, .slice xa x.args.length xc] 42)).alloc (.cells #[.slice none 0 0, .int .i64 0, .int .i64 0, .int .i64 0, .int .i64 0, .int .i64 0, .int .i64 0, .int .i64 0, .int .i64 0] 38) := ⟨_, rfl⟩
  have hWb : Hid (Below w.heap.size w W) := by rw [hW]; exact ((below_alloc _ _).then (below_alloc _ _)).then (below_alloc _ _)
  have hsz : Hid (W.heap.size = w.heap.size + 3) := by rw [hW]; exact Lib.hid (by simp)
  have b0 : Hid (Cells W w.heap.size [.slice fa fn fc, .int .i64 g, .slice ga c.funcs.length gc]) := by rw [hW]; exact Lib.hid (cells_new.alloc _ |>.alloc _)
  have b1 : Hid (Cells W (w.heap.size + 1) [.string x.proc, .slice xa x.args.length xc]) := by
    rw [hW]
    have := (@cells_new (w.alloc (.cells #[.slice fa fn fc, .int .i64 g, .slice ga c.funcs.length gc] 32)) #[.string x.proc, .slice xa x.args.length xc] 42).alloc (.cells #[.slice none 0 0, .int .i64 0, .int .i64 0, .int .i64 0, .int .i64 0, .int .i64 0, .int .i64 0, .int .i64 0, .int .i64 0] 38)
    exact Lib.hid (by simpa using this)
  have b2 : Hid (W.heap[w.heap.size + 2]? = some (.cells #[.slice none 0 0, .int .i64 0, .int .i64 0, .int .i64 0, .int .i64 0, .int .i64 0, .int .i64 0, .int .i64 0, .int .i64 0] 38 (0, 0))) := by
    rw [hW]
    have := heap_alloc_new ((w.alloc (.cells #[.slice fa fn fc, .int .i64 g, .slice ga c.funcs.length gc] 32)).alloc (.cells #[.string x.proc, .slice xa x.args.length xc] 42)) (.cells #[.slice none 0 0, .int .i64 0, .int .i64 0, .int .i64 0, .int .i64 0, .int .i64 0, .int .i64 0, .int .i64 0, .int .i64 0] 38)
    exact Lib.hid (by simpa using this)
  have HC := Lib.hid hc
  have HX := Lib.hid hx
  have hcW := Lib.hid (hc.below (hWb.out.mono hB))
  clear hc hx
  have hgs : SliceOf B w 5 (FunE B) (.slice ga c.funcs.length gc) c.funcs := by
    obtain ⟨fv0, gv0, heq, _, h2, _⟩ := HC.out
    simp only [Value.agg.injEq, Array.mk.injEq, List.cons.injEq, and_true] at heq
    obtain ⟨_, _, rfl⟩ := heq
    exact h2
  have HGS := Lib.hid hgs
  obtain ⟨a0, cap0, he0, hl1, hl2, hl3, hE⟩ := hgs
  obtain ⟨rfl, rfl⟩ : ga = a0 ∧ gc = cap0 := by simpa using he0
  have hkl : k < c.funcs.length := (List.getElem?_eq_some_iff.1 hy).1
  rcases hE with h0 | ⟨yb, yo, rfl, hybB, hE⟩
  · rw [h0] at hy; simp at hy
  have hEk := Lib.hid (hE k y hy)
  obtain ⟨a1, cap1, he1, hxl1, hxl2, hxl3, hxE⟩ := HXS.out
  obtain ⟨rfl, rfl⟩ : xa = a1 ∧ xc = cap1 := by simpa using he1
  clear he0 he1 hE hxE
  have HY := Lib.hid hy
  clear hy
  have hf1 := hf.1
  have hf2 := hf.2
  have hd0 : decide (fuel < 0) = false := by simp; omega
  have hd1 : decide (1048576 < fuel) = false := by simp; omega
  have hWB : B ≤ W.heap.size := by have := hsz.out; omega
  go_enter Tryd.func18, Tryd.ntmps18
  go_upto_region 3 with fail
  rw [← hW]
  have HW := Lib.hid hW
  clear hW
  have i0 := b0.out 0 _ rfl
  have i1 := b0.out 1 _ rfl
  have i2 := b0.out 2 _ rfl
  have i3 := b1.out 0 _ rfl
  have i4 := b1.out 1 _ rfl
  have z0 : w.heap.size < W.heap.size := by have := hsz.out; omega
  have z1 : w.heap.size + 1 < W.heap.size := by have := hsz.out; omega
  go_wp2_with fail
  refine (function_any c _ x.proc B W hWB hcW.out).mono ?_
  rintro e w1 ⟨rfl, hb1⟩
  rw [HI.out]
  have i0 := keepC hb1 i0
  have i1 := keepC hb1 i1
  have i2 := keepC hb1 i2
  have i3 := keepC hb1 i3
  have i4 := keepC hb1 i4
  have z0 := World.block_lt_of_cell? w1 _ i0
  have z1 := World.block_lt_of_cell? w1 _ i3
  have r1 : Hid (w1.heap[w.heap.size + 2]? = some (.cells #[.slice none 0 0, .int .i64 0, .int .i64 0, .int .i64 0, .int .i64 0, .int .i64 0, .int .i64 0, .int .i64 0, .int .i64 0] 38 (0, 0))) := Lib.hid (by rw [hb1.block _ (by have := hsz.out; omega)]; exact b2.out)
  have HB1 := Lib.hid (hWb.out.then hb1)
  clear hb1
  have rc : ∀ (j : Nat) (v : Value), (#[.slice none 0 0, .int .i64 0, .int .i64 0, .int .i64 0, .int .i64 0, .int .i64 0, .int .i64 0, .int .i64 0, .int .i64 0] : Array Value)[j]? = some v → w1.cell? ⟨w.heap.size + 2, j, none⟩ = some v := fun j v hv => by rw [cell_of_row _ _ _ _ _ _ r1.out]; exact hv
  have rc0 := rc 0 (.slice none 0 0) rfl
  have rf0 : w1.frozen? ⟨w.heap.size + 2, 0, none⟩ = false := frozen_of_row _ _ _ _ _ r1.out
  have rc1 := rc 1 (.int .i64 0) rfl
  have rf1 : w1.frozen? ⟨w.heap.size + 2, 1, none⟩ = false := frozen_of_row _ _ _ _ _ r1.out
  have rc2 := rc 2 (.int .i64 0) rfl
  have rf2 : w1.frozen? ⟨w.heap.size + 2, 2, none⟩ = false := frozen_of_row _ _ _ _ _ r1.out
  have rc3 := rc 3 (.int .i64 0) rfl
  have rf3 : w1.frozen? ⟨w.heap.size + 2, 3, none⟩ = false := frozen_of_row _ _ _ _ _ r1.out
  have rc4 := rc 4 (.int .i64 0) rfl
  have rf4 : w1.frozen? ⟨w.heap.size + 2, 4, none⟩ = false := frozen_of_row _ _ _ _ _ r1.out
  have rc5 := rc 5 (.int .i64 0) rfl
  have rf5 : w1.frozen? ⟨w.heap.size + 2, 5, none⟩ = false := frozen_of_row _ _ _ _ _ r1.out
  have rc6 := rc 6 (.int .i64 0) rfl
  have rf6 : w1.frozen? ⟨w.heap.size + 2, 6, none⟩ = false := frozen_of_row _ _ _ _ _ r1.out
  have rc7 := rc 7 (.int .i64 0) rfl
  have rf7 : w1.frozen? ⟨w.heap.size + 2, 7, none⟩ = false := frozen_of_row _ _ _ _ _ r1.out
  have rc8 := rc 8 (.int .i64 0) rfl
  have rf8 : w1.frozen? ⟨w.heap.size + 2, 8, none⟩ = false := frozen_of_row _ _ _ _ _ r1.out
  have rz := (Array.getElem?_eq_some_iff.1 r1.out).1
  clear rc
  have hE1 := hEk.out.below (HB1.out.mono hB) hybB
  have p1 := hE1.2.1
  have p2 := hE1.2.2.1
  have hyb := World.block_lt_of_cell? w1 _ p1
  have hk0 : (0 : Int) ≤ (k : Int) := Int.natCast_nonneg _
  have hk1 : (k : Int) < (c.funcs.length : Int) := by omega
  have hkn : decide ((k : Int) < 0) = false := by simp
  have HE1 := Lib.hid hE1
  clear hE1
  have hne : ((x.args.length : Int) == y.params) = false := by simp [hl]
  have hne2 : ((x.args.length : Int) != y.params) = true := by simp [hl]
  have hne3 : ¬ (x.args.length : Int) = y.params := hl
  clear hl
  go_wp2_with fail
  go_quiet (fail)
  have hfin := Lib.hid (machPut_facts (R := w.heap.size + 1 + 1) (fv0 := .slice none 0 0) (m0 := zeroM) (W := w1.drewN nq) r1.out (.slice none 0 0) zeroM)
  have HFB : Hid (Below w.heap.size w (machPut (w1.drewN nq) (w.heap.size + 1 + 1) (.slice none 0 0) zeroM)) := Lib.hid ((bdrew HB1.out nq).trans (hfin.out.2.below (fun b hb => by simp at hb; omega) (bdrew HB1.out nq).size))
  go_wp2_with fail
  exact bodyPost_ret (results_mach rfl hfin.out.1 _ _ rfl rfl) rfl (.inl ⟨by rw [HE.out]; decide, by rw [HE.out]; rfl, HFB.out⟩)
set_option maxRecDepth 100000 in
set_option maxHeartbeats 2000000 in
theorem start_type (c : Cod) (x : Cal) (fuel : Int) (fa ga xa : Option Addr) (fn fc gc xc : Nat) (g : Int) (B : Nat) (w : World) (hB : B ≤ w.heap.size) (hc : CodV B w (.agg #[.slice fa fn fc, .int .i64 g, .slice ga c.funcs.length gc]) c) (hx : SliceOf B w 1 IntE (.slice xa x.args.length xc) x.args) (hf : 0 ≤ fuel ∧ fuel ≤ 1048576) (k : Nat) (hi : fnIdx c x.proc = k) (y : Fun) (hy : c.funcs[k]? = some y) (hl : (x.args.length : Int) = y.params) (hv : x.args.any (fun n => !isVal n) = true) :
    Calls Tryd.prog 18 #[.agg #[.slice fa fn fc, .int .i64 g, .slice ga c.funcs.length gc], .agg #[.string x.proc, .slice xa x.args.length xc], .int .i64 fuel] w (StartPost c x fuel w) := by
  have HI := Lib.hid hi
  have HXS := Lib.hid hx
  have HV := Lib.hid hv
  have HE : Hid (givenE c x fuel = 11) := Lib.hid (by
    unfold givenE
    rw [if_neg (by omega), hi]
    simp only [Int.toNat_natCast, hy]
    rw [if_neg (by omega), if_neg (by simp [hl]), if_pos hv])
  clear hi hv
  obtain ⟨W, hW⟩ : ∃ W, W = ((w.alloc (.cells #[.slice fa fn fc, .int .i64 g, .slice ga c.funcs.length gc] 32)).alloc (.cells #[.string x.proc, .slice xa x.args.length xc] 42)).alloc (.cells #[.slice none 0 0, .int .i64 0, .int .i64 0, .int .i64 0, .int .i64 0, .int .i64 0, .int .i64 0, .int .i64 0, .int .i64 0] 38) := ⟨_, rfl⟩
  have hWb : Hid (Below w.heap.size w W) := by rw [hW]; exact ((below_alloc _ _).then (below_alloc _ _)).then (below_alloc _ _)
  have hsz : Hid (W.heap.size = w.heap.size + 3) := by rw [hW]; exact Lib.hid (by simp)
  have b0 : Hid (Cells W w.heap.size [.slice fa fn fc, .int .i64 g, .slice ga c.funcs.length gc]) := by rw [hW]; exact Lib.hid (cells_new.alloc _ |>.alloc _)
  have b1 : Hid (Cells W (w.heap.size + 1) [.string x.proc, .slice xa x.args.length xc]) := by
    rw [hW]
    have := (@cells_new (w.alloc (.cells #[.slice fa fn fc, .int .i64 g, .slice ga c.funcs.length gc] 32)) #[.string x.proc, .slice xa x.args.length xc] 42).alloc (.cells #[.slice none 0 0, .int .i64 0, .int .i64 0, .int .i64 0, .int .i64 0, .int .i64 0, .int .i64 0, .int .i64 0, .int .i64 0] 38)
    exact Lib.hid (by simpa using this)
  have b2 : Hid (W.heap[w.heap.size + 2]? = some (.cells #[.slice none 0 0, .int .i64 0, .int .i64 0, .int .i64 0, .int .i64 0, .int .i64 0, .int .i64 0, .int .i64 0, .int .i64 0] 38 (0, 0))) := by
    rw [hW]
    have := heap_alloc_new ((w.alloc (.cells #[.slice fa fn fc, .int .i64 g, .slice ga c.funcs.length gc] 32)).alloc (.cells #[.string x.proc, .slice xa x.args.length xc] 42)) (.cells #[.slice none 0 0, .int .i64 0, .int .i64 0, .int .i64 0, .int .i64 0, .int .i64 0, .int .i64 0, .int .i64 0, .int .i64 0] 38)
    exact Lib.hid (by simpa using this)
  have HC := Lib.hid hc
  have HX := Lib.hid hx
  have hcW := Lib.hid (hc.below (hWb.out.mono hB))
  clear hc hx
  have hgs : SliceOf B w 5 (FunE B) (.slice ga c.funcs.length gc) c.funcs := by
    obtain ⟨fv0, gv0, heq, _, h2, _⟩ := HC.out
    simp only [Value.agg.injEq, Array.mk.injEq, List.cons.injEq, and_true] at heq
    obtain ⟨_, _, rfl⟩ := heq
    exact h2
  have HGS := Lib.hid hgs
  obtain ⟨a0, cap0, he0, hl1, hl2, hl3, hE⟩ := hgs
  obtain ⟨rfl, rfl⟩ : ga = a0 ∧ gc = cap0 := by simpa using he0
  have hkl : k < c.funcs.length := (List.getElem?_eq_some_iff.1 hy).1
  rcases hE with h0 | ⟨yb, yo, rfl, hybB, hE⟩
  · rw [h0] at hy; simp at hy
  have hEk := Lib.hid (hE k y hy)
  obtain ⟨a1, cap1, he1, hxl1, hxl2, hxl3, hxE⟩ := HXS.out
  obtain ⟨rfl, rfl⟩ : xa = a1 ∧ xc = cap1 := by simpa using he1
  clear he0 he1 hE hxE
  have HY := Lib.hid hy
  clear hy
  have hf1 := hf.1
  have hf2 := hf.2
  have hd0 : decide (fuel < 0) = false := by simp; omega
  have hd1 : decide (1048576 < fuel) = false := by simp; omega
  have hWB : B ≤ W.heap.size := by have := hsz.out; omega
  go_enter Tryd.func18, Tryd.ntmps18
  go_upto_region 3 with fail
  rw [← hW]
  have HW := Lib.hid hW
  clear hW
  have i0 := b0.out 0 _ rfl
  have i1 := b0.out 1 _ rfl
  have i2 := b0.out 2 _ rfl
  have i3 := b1.out 0 _ rfl
  have i4 := b1.out 1 _ rfl
  have z0 : w.heap.size < W.heap.size := by have := hsz.out; omega
  have z1 : w.heap.size + 1 < W.heap.size := by have := hsz.out; omega
  go_wp2_with fail
  refine (function_any c _ x.proc B W hWB hcW.out).mono ?_
  rintro e w1 ⟨rfl, hb1⟩
  rw [HI.out]
  have i0 := keepC hb1 i0
  have i1 := keepC hb1 i1
  have i2 := keepC hb1 i2
  have i3 := keepC hb1 i3
  have i4 := keepC hb1 i4
  have z0 := World.block_lt_of_cell? w1 _ i0
  have z1 := World.block_lt_of_cell? w1 _ i3
  have r1 : Hid (w1.heap[w.heap.size + 2]? = some (.cells #[.slice none 0 0, .int .i64 0, .int .i64 0, .int .i64 0, .int .i64 0, .int .i64 0, .int .i64 0, .int .i64 0, .int .i64 0] 38 (0, 0))) := Lib.hid (by rw [hb1.block _ (by have := hsz.out; omega)]; exact b2.out)
  have HB1 := Lib.hid (hWb.out.then hb1)
  clear hb1
  have hE1 := hEk.out.below (HB1.out.mono hB) hybB
  have p1 := hE1.2.1
  have p2 := hE1.2.2.1
  have hyb := World.block_lt_of_cell? w1 _ p1
  have hk0 : (0 : Int) ≤ (k : Int) := Int.natCast_nonneg _
  have hk1 : (k : Int) < (c.funcs.length : Int) := by omega
  have hkn : decide ((k : Int) < 0) = false := by simp
  have HE1 := Lib.hid hE1
  clear hE1
  have hne : ((x.args.length : Int) == y.params) = true := by simp [hl]
  have hne2 : ((x.args.length : Int) != y.params) = false := by simp [hl]
  rw [← hl] at p1
  have HLN := Lib.hid hl
  clear hl
  go_wp2_with fail
  go_quiet (fail)
  have HB1q := Lib.hid (bdrew HB1.out nq)
  have hxq := Lib.hid (HXS.out.ints (HB1q.out.mono hB))
  go_wp2_with fail
  refine (containsFunc_int 33 #[] (fun n => !isVal n) x.args _ B _ enters_start1 (Nat.le_trans hB HB1q.out.size) hxq.out (start1_fn _)).mono ?_
  rintro e w2 ⟨rfl, hb2⟩
  rw [HV.out]
  have r1q : (w1.drewN nq).heap[w.heap.size + 2]? = some (.cells #[.slice none 0 0, .int .i64 0, .int .i64 0, .int .i64 0, .int .i64 0, .int .i64 0, .int .i64 0, .int .i64 0, .int .i64 0] 38 (0, 0)) := r1.out
  have r2 : Hid (w2.heap[w.heap.size + 2]? = some (.cells #[.slice none 0 0, .int .i64 0, .int .i64 0, .int .i64 0, .int .i64 0, .int .i64 0, .int .i64 0, .int .i64 0, .int .i64 0] 38 (0, 0))) := Lib.hid (by rw [hb2.block _ (Array.getElem?_eq_some_iff.1 r1q).1]; exact r1q)
  have HB2 := Lib.hid (HB1q.out.then hb2)
  have HX2 := Lib.hid (HXS.out.ints (HB2.out.mono hB))
  clear hb2
  have rc : ∀ (j : Nat) (v : Value), (#[.slice none 0 0, .int .i64 0, .int .i64 0, .int .i64 0, .int .i64 0, .int .i64 0, .int .i64 0, .int .i64 0, .int .i64 0] : Array Value)[j]? = some v → w2.cell? ⟨w.heap.size + 2, j, none⟩ = some v := fun j v hv => by rw [cell_of_row _ _ _ _ _ _ r2.out]; exact hv
  have rc0 := rc 0 (.slice none 0 0) rfl
  have rf0 : w2.frozen? ⟨w.heap.size + 2, 0, none⟩ = false := frozen_of_row _ _ _ _ _ r2.out
  have rc1 := rc 1 (.int .i64 0) rfl
  have rf1 : w2.frozen? ⟨w.heap.size + 2, 1, none⟩ = false := frozen_of_row _ _ _ _ _ r2.out
  have rc2 := rc 2 (.int .i64 0) rfl
  have rf2 : w2.frozen? ⟨w.heap.size + 2, 2, none⟩ = false := frozen_of_row _ _ _ _ _ r2.out
  have rc3 := rc 3 (.int .i64 0) rfl
  have rf3 : w2.frozen? ⟨w.heap.size + 2, 3, none⟩ = false := frozen_of_row _ _ _ _ _ r2.out
  have rc4 := rc 4 (.int .i64 0) rfl
  have rf4 : w2.frozen? ⟨w.heap.size + 2, 4, none⟩ = false := frozen_of_row _ _ _ _ _ r2.out
  have rc5 := rc 5 (.int .i64 0) rfl
  have rf5 : w2.frozen? ⟨w.heap.size + 2, 5, none⟩ = false := frozen_of_row _ _ _ _ _ r2.out
  have rc6 := rc 6 (.int .i64 0) rfl
  have rf6 : w2.frozen? ⟨w.heap.size + 2, 6, none⟩ = false := frozen_of_row _ _ _ _ _ r2.out
  have rc7 := rc 7 (.int .i64 0) rfl
  have rf7 : w2.frozen? ⟨w.heap.size + 2, 7, none⟩ = false := frozen_of_row _ _ _ _ _ r2.out
  have rc8 := rc 8 (.int .i64 0) rfl
  have rf8 : w2.frozen? ⟨w.heap.size + 2, 8, none⟩ = false := frozen_of_row _ _ _ _ _ r2.out
  have rz := (Array.getElem?_eq_some_iff.1 r2.out).1
  clear rc
  have hfin := Lib.hid (machPut_facts (R := w.heap.size + 1 + 1) (fv0 := .slice none 0 0) (m0 := zeroM) r2.out (.slice none 0 0) zeroM)
  have HFB : Hid (Below w.heap.size w (machPut w2 (w.heap.size + 1 + 1) (.slice none 0 0) zeroM)) := Lib.hid (HB2.out.trans (hfin.out.2.below (fun b hb => by simp at hb; omega) HB2.out.size))
  go_wp2_with fail
  exact bodyPost_ret (results_mach rfl hfin.out.1 _ _ rfl rfl) rfl (.inl ⟨by rw [HE.out]; decide, by rw [HE.out]; rfl, HFB.out⟩)
end Go.Proofs.YtbmeoklmachjpaaDoor
namespace Go.Proofs.YtbmeoklmachjpaaDoor
open Go.RowKit

theorem ownI_row {w : World} {bl : Nat} {l : List Int} (h : w.heap[bl]? = some (.cells (intVals l) 3 (0, 0))) (hl : l.length ≤ 1000000) (h64 : ∀ n ∈ l, in64 n) : OwnI w (.slice (some ⟨bl, 0, none⟩) l.length l.length) l [bl] :=
  ⟨⟨by simp, .inr ⟨bl, l.length, intVals l, rfl, Nat.zero_le _, h, Nat.le_refl _, by unfold maxLen; omega, by simp [intVals], by simp only [intVals, Nat.mul_one]; exact List.take_of_length_le (by simp)⟩⟩, rfl, h64⟩
theorem add_off (b o j : Nat) : (⟨b, o, none⟩ : Addr).add j = ⟨b, o + j, none⟩ := by unfold Addr.add; split <;> simp_all
/-- a machine with one frame, in three blocks -/
theorem one_frame {w : World} {bm fb bl : Nat} {m : Mch} {f : Fra} (hm : w.heap[bm]? = some (.cells (machCells (.slice (some ⟨fb, 0, none⟩) 1 1) m) 38 (0, 0))) (hf : w.heap[fb]? = some (.cells #[.int .i64 f.fn, .int .i64 f.pc, .slice (some ⟨bl, 0, none⟩) f.locals.length f.locals.length, .slice none 0 0] 70 (0, 0)))
    (hl : w.heap[bl]? = some (.cells (intVals f.locals) 3 (0, 0))) (hll : f.locals.length ≤ 1000000) (h64 : ∀ n ∈ f.locals, in64 n) (hst : f.stack = []) (h1 : in64 f.fn) (h2 : in64 f.pc) (hfr : m.frames = [f]) (n1 : bm ≠ fb) (n2 : bm ≠ bl) (n3 : fb ≠ bl) : MachOwn w bm m [bm, fb, bl] := by
  refine machOwn_iff.2 ⟨_, [fb, bl], hm, ⟨[.int .i64 f.fn, .int .i64 f.pc, .slice (some ⟨bl, 0, none⟩) f.locals.length f.locals.length, .slice none 0 0], [bl], ?_, ?_, rfl, by simp [n3]⟩, rfl, by simp [n1, n2]⟩
  · rw [hfr]
    exact ⟨rfl, .inr ⟨fb, 1, _, rfl, Nat.zero_le _, hf, Nat.le_refl _, by unfold maxLen; omega, rfl, rfl⟩⟩
  · rw [hfr]
    exact ⟨_, _, [], [bl], [], [], rfl, ownI_row hl hll h64, by rw [hst]; exact ⟨World.ownsRow_nil _ _ _ _, rfl, by simp⟩, h1, h2, ⟨rfl, rfl⟩, by simp⟩
set_option maxRecDepth 100000 in
set_option maxHeartbeats 2000000 in
theorem start_yes (c : Cod) (x : Cal) (fuel : Int) (fa ga xa : Option Addr) (fn fc gc xc : Nat) (g : Int) (B : Nat) (w : World) (hB : B ≤ w.heap.size) (hc : CodV B w (.agg #[.slice fa fn fc, .int .i64 g, .slice ga c.funcs.length gc]) c) (hx : SliceOf B w 1 IntE (.slice xa x.args.length xc) x.args) (hf : 0 ≤ fuel ∧ fuel ≤ 1048576) (k : Nat) (hi : fnIdx c x.proc = k) (y : Fun) (hy : c.funcs[k]? = some y) (hl : (x.args.length : Int) = y.params) (hv : x.args.any (fun n => !isVal n) = false) (hs : SoundP c) (hsm : Small c) :
    Calls Tryd.prog 18 #[.agg #[.slice fa fn fc, .int .i64 g, .slice ga c.funcs.length gc], .agg #[.string x.proc, .slice xa x.args.length xc], .int .i64 fuel] w (StartPost c x fuel w) := by
  have HI := Lib.hid hi
  have HXS := Lib.hid hx
  have HV := Lib.hid hv
  have HE : Hid (givenE c x fuel = 0) := Lib.hid (by
    unfold givenE
    rw [if_neg (by omega), hi]
    simp only [Int.toNat_natCast, hy]
    rw [if_neg (by omega), if_neg (by simp [hl]), if_neg (by simp [hv])])
  have hfo := hs.fok hy
  unfold FunOkP at hfo
  obtain ⟨q, hq⟩ : ∃ q : Nat, y.locals = x.args.length + q := ⟨(y.locals - y.params).toNat, by omega⟩
  have hsM : Hid (startM c x fuel = ⟨[⟨(k : Int), 0, x.args ++ List.replicate q 0, []⟩], ⟨0, 0, 0, 0, 0⟩, fuel, 0, 0⟩) := Lib.hid (by
    unfold startM
    rw [hi]
    simp only [Int.toNat_natCast, hy, Option.map_some, Option.getD_some]
    rw [show (y.locals - y.params).toNat = q by omega])
  have hargs : ∀ n ∈ x.args, isV n := fun n hn => by
    rw [List.any_eq_false] at hv
    have := hv n hn
    simp at this
    exact isV_isVal.1 this
  have hlocs : Hid (∀ n ∈ x.args ++ List.replicate q 0, isV n) := Lib.hid (fun n hn => by
    rw [List.mem_append, List.mem_replicate] at hn
    rcases hn with h | h
    · exact hargs n h
    · rw [h.2]; unfold isV; omega)
  have hgood : Hid (Good c ⟨[⟨(k : Int), 0, x.args ++ List.replicate q 0, []⟩], ⟨0, 0, 0, 0, 0⟩, fuel, 0, 0⟩ [] ⟨(k : Int), 0, x.args ++ List.replicate q 0, []⟩) := Lib.hid
    ⟨rfl, ⟨y, ⟨by show (0 : Int) ≤ (k : Int); omega, by show c.funcs[(k : Int).toNat]? = some y; rw [Int.toNat_natCast]; exact hy, by show (0 : Int) ≤ 0; omega, by show ((x.args ++ List.replicate q 0).length : Int) = y.locals; rw [List.length_append, List.length_replicate]; omega, hlocs.out, by simp⟩, Reach.zero c y⟩, trivial, by simp, ⟨hf.1, by show (0 : Int) ≤ 0; omega, by show (0 : Int) ≤ 100000; omega, by show (0 : Int) ≤ 0; omega, by show (0 : Int) + (fuel * 100001 + (100000 - 0)) ≤ _; omega⟩⟩
  obtain ⟨n, hn⟩ : ∃ n : Nat, n = x.args.length + q := ⟨_, rfl⟩
  have HN := Lib.hid hn
  have hyl : Hid (y.locals = (n : Int)) := Lib.hid (by omega)
  have hq2 : n ≤ 100 := by omega
  clear hn
  clear hi hv hq hargs
  obtain ⟨W, hW⟩ : ∃ W, W = ((w.alloc (.cells #[.slice fa fn fc, .int .i64 g, .slice ga c.funcs.length gc] 32)).alloc (.cells #[.string x.proc, .slice xa x.args.length xc] 42)).alloc (.cells #[.slice none 0 0, .int .i64 0, .int .i64 0, .int .i64 0, .int .i64 0, .int .i64 0, .int .i64 0, .int .i64 0, .int .i64 0] 38) := ⟨_, rfl⟩
  have hWb : Hid (Below w.heap.size w W) := by rw [hW]; exact ((below_alloc _ _).then (below_alloc _ _)).then (below_alloc _ _)
  have hsz : Hid (W.heap.size = w.heap.size + 3) := by rw [hW]; exact Lib.hid (by simp)
  have b0 : Hid (Cells W w.heap.size [.slice fa fn fc, .int .i64 g, .slice ga c.funcs.length gc]) := by rw [hW]; exact Lib.hid (cells_new.alloc _ |>.alloc _)
  have b1 : Hid (Cells W (w.heap.size + 1) [.string x.proc, .slice xa x.args.length xc]) := by
    rw [hW]
    have := (@cells_new (w.alloc (.cells #[.slice fa fn fc, .int .i64 g, .slice ga c.funcs.length gc] 32)) #[.string x.proc, .slice xa x.args.length xc] 42).alloc (.cells #[.slice none 0 0, .int .i64 0, .int .i64 0, .int .i64 0, .int .i64 0, .int .i64 0, .int .i64 0, .int .i64 0, .int .i64 0] 38)
    exact Lib.hid (by simpa using this)
  have b2 : Hid (W.heap[w.heap.size + 2]? = some (.cells #[.slice none 0 0, .int .i64 0, .int .i64 0, .int .i64 0, .int .i64 0, .int .i64 0, .int .i64 0, .int .i64 0, .int .i64 0] 38 (0, 0))) := by
    rw [hW]
    have := heap_alloc_new ((w.alloc (.cells #[.slice fa fn fc, .int .i64 g, .slice ga c.funcs.length gc] 32)).alloc (.cells #[.string x.proc, .slice xa x.args.length xc] 42)) (.cells #[.slice none 0 0, .int .i64 0, .int .i64 0, .int .i64 0, .int .i64 0, .int .i64 0, .int .i64 0, .int .i64 0, .int .i64 0] 38)
    exact Lib.hid (by simpa using this)
  have HC := Lib.hid hc
  have HX := Lib.hid hx
  have hcW := Lib.hid (hc.below (hWb.out.mono hB))
  clear hc hx
  have hgs : SliceOf B w 5 (FunE B) (.slice ga c.funcs.length gc) c.funcs := by
    obtain ⟨fv0, gv0, heq, _, h2, _⟩ := HC.out
    simp only [Value.agg.injEq, Array.mk.injEq, List.cons.injEq, and_true] at heq
    obtain ⟨_, _, rfl⟩ := heq
    exact h2
  have HGS := Lib.hid hgs
  obtain ⟨a0, cap0, he0, hl1, hl2, hl3, hE⟩ := hgs
  obtain ⟨rfl, rfl⟩ : ga = a0 ∧ gc = cap0 := by simpa using he0
  have hkl : k < c.funcs.length := (List.getElem?_eq_some_iff.1 hy).1
  rcases hE with h0 | ⟨yb, yo, rfl, hybB, hE⟩
  · rw [h0] at hy; simp at hy
  have hEk := Lib.hid (hE k y hy)
  obtain ⟨a1, cap1, he1, hxl1, hxl2, hxl3, hxE⟩ := HXS.out
  obtain ⟨rfl, rfl⟩ : xa = a1 ∧ xc = cap1 := by simpa using he1
  clear he0 he1 hE hxE
  have HY := Lib.hid hy
  clear hy
  have hf1 := hf.1
  have hf2 := hf.2
  have hd0 : decide (fuel < 0) = false := by simp; omega
  have hd1 : decide (1048576 < fuel) = false := by simp; omega
  have hWB : B ≤ W.heap.size := by have := hsz.out; omega
  go_enter Tryd.func18, Tryd.ntmps18
  go_upto_region 3 with fail
  rw [← hW]
  have HW := Lib.hid hW
  clear hW
  have i0 := b0.out 0 _ rfl
  have i1 := b0.out 1 _ rfl
  have i2 := b0.out 2 _ rfl
  have i3 := b1.out 0 _ rfl
  have i4 := b1.out 1 _ rfl
  have z0 : w.heap.size < W.heap.size := by have := hsz.out; omega
  have z1 : w.heap.size + 1 < W.heap.size := by have := hsz.out; omega
  go_wp2_with fail
  refine (function_any c _ x.proc B W hWB hcW.out).mono ?_
  rintro e w1 ⟨rfl, hb1⟩
  rw [HI.out]
  have i0 := keepC hb1 i0
  have i1 := keepC hb1 i1
  have i2 := keepC hb1 i2
  have i3 := keepC hb1 i3
  have i4 := keepC hb1 i4
  have z0 := World.block_lt_of_cell? w1 _ i0
  have z1 := World.block_lt_of_cell? w1 _ i3
  have r1 : Hid (w1.heap[w.heap.size + 2]? = some (.cells #[.slice none 0 0, .int .i64 0, .int .i64 0, .int .i64 0, .int .i64 0, .int .i64 0, .int .i64 0, .int .i64 0, .int .i64 0] 38 (0, 0))) := Lib.hid (by rw [hb1.block _ (by have := hsz.out; omega)]; exact b2.out)
  have HB1 := Lib.hid (hWb.out.then hb1)
  clear hb1
  have hE1 := hEk.out.below (HB1.out.mono hB) hybB
  have p1 := hE1.2.1
  have p2 := hE1.2.2.1
  have hyb := World.block_lt_of_cell? w1 _ p1
  have hk0 : (0 : Int) ≤ (k : Int) := Int.natCast_nonneg _
  have hk1 : (k : Int) < (c.funcs.length : Int) := by omega
  have hkn : decide ((k : Int) < 0) = false := by simp
  have HE1 := Lib.hid hE1
  clear hE1
  have hne : ((x.args.length : Int) == y.params) = true := by simp [hl]
  have hne2 : ((x.args.length : Int) != y.params) = false := by simp [hl]
  rw [← hl] at p1
  have HLN := Lib.hid hl
  clear hl
  go_wp2_with fail
  go_quiet (fail)
  have HB1q := Lib.hid (bdrew HB1.out nq)
  have hxq := Lib.hid (HXS.out.ints (HB1q.out.mono hB))
  go_wp2_with fail
  refine (containsFunc_int 33 #[] (fun n => !isVal n) x.args _ B _ enters_start1 (Nat.le_trans hB HB1q.out.size) hxq.out (start1_fn _)).mono ?_
  rintro e w2 ⟨rfl, hb2⟩
  rw [HV.out]
  have r1q : (w1.drewN nq).heap[w.heap.size + 2]? = some (.cells #[.slice none 0 0, .int .i64 0, .int .i64 0, .int .i64 0, .int .i64 0, .int .i64 0, .int .i64 0, .int .i64 0, .int .i64 0] 38 (0, 0)) := r1.out
  have r2 : Hid (w2.heap[w.heap.size + 2]? = some (.cells #[.slice none 0 0, .int .i64 0, .int .i64 0, .int .i64 0, .int .i64 0, .int .i64 0, .int .i64 0, .int .i64 0, .int .i64 0] 38 (0, 0))) := Lib.hid (by rw [hb2.block _ (Array.getElem?_eq_some_iff.1 r1q).1]; exact r1q)
  have HB2 := Lib.hid (HB1q.out.then hb2)
  have HX2 := Lib.hid (HXS.out.ints (HB2.out.mono hB))
  have i2q : (w1.drewN nq).cell? _ = _ := i2
  have i4q : (w1.drewN nq).cell? _ = _ := i4
  have p2q : (w1.drewN nq).cell? _ = _ := p2
  have i0q : (w1.drewN nq).cell? _ = _ := i0
  have i1q : (w1.drewN nq).cell? _ = _ := i1
  have j0 := keepC hb2 i0q
  have j1 := keepC hb2 i1q
  have j2 := keepC hb2 i2q
  have j4 := keepC hb2 i4q
  have s2 := keepC hb2 p2q
  rw [hyl.out] at s2
  have jz0 := World.block_lt_of_cell? w2 _ j2
  have jz1 := World.block_lt_of_cell? w2 _ j4
  have jz2 := World.block_lt_of_cell? w2 _ s2
  clear i0 i1 i2 i3 i4 p1 p2 i2q i4q p2q i0q i1q hyb z0 z1 hb2
  have hmk := fun W => make_ints' W n (by omega)
  go_upto_region 11 with fail
  obtain ⟨W3, hW3⟩ : ∃ W, W = w2.alloc (.cells (intVals (List.replicate n 0)) 3) := ⟨_, rfl⟩
  obtain ⟨bl, hbl⟩ : ∃ b, b = w2.heap.size := ⟨_, rfl⟩
  have hb3 : Hid (Below w2.heap.size w2 W3) := by rw [hW3]; exact below_alloc _ _
  have g3 : Hid (W3.heap[bl]? = some (.cells ((List.replicate n 0).map (Value.int .i64)).toArray 3 (0, 0))) := by rw [hW3, hbl]; exact Lib.hid (heap_alloc_new _ _)
  have hx3 := HX2.out.ints ((hb3.out.mono (Nat.le_trans hB HB2.out.size)))
  have hsrc : Hid (0 < (x.args.map (Value.int .i64)).length → some (⟨bl, 0, none⟩ : Addr) = some ⟨bl, 0, none⟩ ∧ ∃ ad, xa = some ad ∧ ∀ j v, (x.args.map (Value.int .i64))[j]? = some v → W3.cell? (ad.add j) = some v) := Lib.hid (fun hpos => by
    obtain ⟨a1, cap1, he1, _, _, _, hxE⟩ := hx3
    obtain ⟨rfl, rfl⟩ : xa = a1 ∧ xc = cap1 := by simpa using he1
    rcases hxE with h0 | ⟨xb, xo, rfl, _, hxE⟩
    · rw [h0] at hpos; simp at hpos
    · refine ⟨rfl, _, rfl, fun j v hj => ?_⟩
      rw [List.getElem?_map] at hj
      cases hg : x.args[j]? with
      | none => rw [hg] at hj; simp at hj
      | some u =>
        rw [hg] at hj
        simp at hj
        subst hj
        have := (hxE j u hg).1
        rw [Nat.mul_one] at this
        rw [add_off]
        exact this)
  rw [← hW3, ← hbl]
  have j0 := keepC hb3.out j0
  have j1 := keepC hb3.out j1
  have j2 := keepC hb3.out j2
  have j4 := keepC hb3.out j4
  have jz0 := World.block_lt_of_cell? W3 _ j2
  have jz1 := World.block_lt_of_cell? W3 _ j4
  have hjb0 : w.heap.size < bl := by rw [hbl]; assumption
  have hjb1 : w.heap.size + 1 < bl := by rw [hbl]; assumption
  have hlen : (x.args.map (Value.int .i64)).length = Nat.min x.args.length n := by have := HN.out; rw [List.length_map]; exact (Nat.min_eq_left (by omega)).symm
  have hfit : 0 + (x.args.map (Value.int .i64)).length ≤ ((List.replicate n 0).map (Value.int .i64)).length := by have := HN.out; simp; omega
  have hone : ∀ v ∈ x.args.map (Value.int .i64), v.oneCell' = true := fun v hv => by
    rw [List.mem_map] at hv
    obtain ⟨_, _, rfl⟩ := hv
    rfl
  have HLEN := Lib.hid hlen
  have HFIT := Lib.hid hfit
  have HONE := Lib.hid hone
  have HW3 := Lib.hid hW3
  have HBL := Lib.hid hbl
  clear hW3 hbl hx3 hlen hfit hone
  go_wp2_with (with_reducible refine wpList_copy_splice rfl (.tmp 50) (.tmp 52) 30 30 rfl 3 Tryd.underlying30 info_int1 (some ⟨bl, 0, none⟩) xa n n x.args.length xc rfl rfl bl 0 ((List.replicate n 0).map (Value.int .i64)) 3 g3.out (x.args.map (Value.int .i64)) HLEN.out hsrc.out HFIT.out HONE.out bl W3 (Below.refl _ _) (Nat.le_refl _) ?_; intro w4 hbl4 hb4; have m0 := (hb4.cell (p := ⟨w.heap.size, 0, none⟩) hjb0).trans j0; have m1 := (hb4.cell (p := ⟨w.heap.size, 1, none⟩) hjb0).trans j1; have m2 := (hb4.cell (p := ⟨w.heap.size, 2, none⟩) hjb0).trans j2; have HB4 := Lib.hid hb4; have mz := World.block_lt_of_cell? w4 _ m0; clear hb4)
  have hlocs4 : Hid (w4.heap[bl]? = some (.cells (intVals (x.args ++ List.replicate q 0)) 3 (0, 0))) := by
    have h1 := hbl4.out
    have h2 : splice ((List.replicate n 0).map (Value.int .i64)) 0 (x.args.map (Value.int .i64)) = (x.args ++ List.replicate q 0).map (Value.int .i64) := by
      unfold splice
      rw [HN.out]
      simp
    rw [h2] at h1
    exact Lib.hid h1
  have hBw4 : Hid (Below w.heap.size w w4) := Lib.hid ((HB2.out.then hb3.out).trans (HB4.out.mono (by rw [HBL.out]; exact HB2.out.size)))
  obtain ⟨W5, hW5⟩ : ∃ W, W = (w4.alloc (.cells #[.int .i64 (k : Int), .int .i64 0, .slice (some ⟨bl, 0, none⟩) n n, .slice none 0 0] 70)).alloc (.cells #[.slice (some ⟨w4.heap.size, 0, none⟩) 1 1, .int .i64 0, .int .i64 0, .int .i64 0, .int .i64 0, .int .i64 0, .int .i64 fuel, .int .i64 0, .int .i64 0] 38) := ⟨_, rfl⟩
  have hb45 : Hid (Below w4.heap.size w4 W5) := by rw [hW5]; exact (below_alloc _ _).then (below_alloc _ _)
  have hln : (x.args ++ List.replicate q 0).length = n := by rw [List.length_append, List.length_replicate]; exact HN.out.symm
  have hbl4s := (Array.getElem?_eq_some_iff.1 hlocs4.out).1
  have hO5 : Hid (MachOwn W5 (w4.heap.size + 1) ⟨[⟨(k : Int), 0, x.args ++ List.replicate q 0, []⟩], ⟨0, 0, 0, 0, 0⟩, fuel, 0, 0⟩ [w4.heap.size + 1, w4.heap.size, bl]) := Lib.hid (one_frame (f := ⟨(k : Int), 0, x.args ++ List.replicate q 0, []⟩) (by
      rw [hW5]
      have := heap_alloc_new (w4.alloc (.cells #[.int .i64 (k : Int), .int .i64 0, .slice (some ⟨bl, 0, none⟩) n n, .slice none 0 0] 70)) (.cells #[.slice (some ⟨w4.heap.size, 0, none⟩) 1 1, .int .i64 0, .int .i64 0, .int .i64 0, .int .i64 0, .int .i64 0, .int .i64 fuel, .int .i64 0, .int .i64 0] 38)
      rw [show (w4.alloc (.cells #[.int .i64 (k : Int), .int .i64 0, .slice (some ⟨bl, 0, none⟩) n n, .slice none 0 0] 70)).heap.size = w4.heap.size + 1 by simp] at this
      exact this) (by
      show W5.heap[w4.heap.size]? = some (.cells #[.int .i64 (k : Int), .int .i64 0, .slice (some ⟨bl, 0, none⟩) (x.args ++ List.replicate q 0).length (x.args ++ List.replicate q 0).length, .slice none 0 0] 70 (0, 0))
      rw [hW5, hln, Below.heap_alloc _ _ _ (by simp)]
      exact heap_alloc_new _ _) (by rw [hb45.out.block bl hbl4s]; exact hlocs4.out) (by show (x.args ++ List.replicate q 0).length ≤ _; omega) (fun n hn => (hlocs.out n hn).in64) rfl ⟨by show (_ : Int) ≤ (k : Int); omega, by show (k : Int) ≤ _; omega⟩ ⟨by show (_ : Int) ≤ 0; omega, by show (0 : Int) ≤ _; omega⟩ rfl (by omega) (by omega) (by omega))
  have hws : w.heap.size ≤ bl := by omega
  have hws4 := hBw4.out.size
  have hge : ∀ b ∈ [w4.heap.size + 1, w4.heap.size, bl], w.heap.size ≤ b := fun b hb => by simp at hb; omega
  have hgeB : Hid (∀ b ∈ [w4.heap.size + 1, w4.heap.size, bl], B ≤ b) := Lib.hid (fun b hb => Nat.le_trans hB (hge b hb))
  have hBw5 := Lib.hid (hBw4.out.then hb45.out)
  have hfs5 := Lib.hid (HGS.out.funs (hBw5.out.mono hB))
  have r5 : Hid (W5.heap[w.heap.size + 1 + 1]? = some (.cells #[.slice none 0 0, .int .i64 0, .int .i64 0, .int .i64 0, .int .i64 0, .int .i64 0, .int .i64 0, .int .i64 0, .int .i64 0] 38 (0, 0))) := Lib.hid (by
    have hr := (Array.getElem?_eq_some_iff.1 r2.out).1
    have h3 : W3.heap[w.heap.size + 1 + 1]? = _ := (hb3.out.block _ hr).trans r2.out
    have h4 : w4.heap[w.heap.size + 1 + 1]? = _ := (HB4.out.block _ (by rw [HBL.out]; exact hr)).trans h3
    exact (hb45.out.block _ (Array.getElem?_eq_some_iff.1 h4).1).trans h4)
  have hRbl : w.heap.size + 1 + 1 < bl := by have hr := (Array.getElem?_eq_some_iff.1 r2.out).1; rw [HBL.out]; exact hr
  have hRF : w.heap.size + 1 + 1 ∉ [w4.heap.size + 1, w4.heap.size, bl] := fun e => by simp at e; omega
  rw [← hW5]
  have HGE := Lib.hid hge
  have HW5 := Lib.hid hW5
  clear hW5 hge hln
  refine (run_any hs hsm fa (some ⟨yb, yo, none⟩) fn fc gc g hgood.out hO5.out B hgeB.out hfs5.out).mono ?_
  rintro e w6 ⟨rfl, m1, F6, hR6, hO6, hM6⟩
  obtain ⟨fv, F0, hm6, hv6, hF6, hn6⟩ := machOwn_iff.1 hO6
  obtain ⟨fva, fvc, rfl⟩ := hv6.form
  obtain ⟨fvn, hfvn⟩ : ∃ n, n = m1.frames.length := ⟨_, rfl⟩
  rw [← hfvn] at hm6 hv6
  have HFVN := Lib.hid hfvn
  clear hfvn
  have r6 : Hid (w6.heap[w.heap.size + 1 + 1]? = some (.cells #[.slice none 0 0, .int .i64 0, .int .i64 0, .int .i64 0, .int .i64 0, .int .i64 0, .int .i64 0, .int .i64 0, .int .i64 0] 38 (0, 0))) := Lib.hid (by rw [hM6.block _ (Array.getElem?_eq_some_iff.1 r5.out).1 hRF]; exact r5.out)
  have rc : ∀ (j : Nat) (v : Value), (#[.slice none 0 0, .int .i64 0, .int .i64 0, .int .i64 0, .int .i64 0, .int .i64 0, .int .i64 0, .int .i64 0, .int .i64 0] : Array Value)[j]? = some v → w6.cell? ⟨w.heap.size + 1 + 1, j, none⟩ = some v := fun j v hv => by rw [cell_of_row _ _ _ _ _ _ r6.out]; exact hv
  have rc0 := rc 0 (.slice none 0 0) rfl
  have rf0 : w6.frozen? ⟨w.heap.size + 1 + 1, 0, none⟩ = false := frozen_of_row _ _ _ _ _ r6.out
  have rc1 := rc 1 (.int .i64 0) rfl
  have rf1 : w6.frozen? ⟨w.heap.size + 1 + 1, 1, none⟩ = false := frozen_of_row _ _ _ _ _ r6.out
  have rc2 := rc 2 (.int .i64 0) rfl
  have rf2 : w6.frozen? ⟨w.heap.size + 1 + 1, 2, none⟩ = false := frozen_of_row _ _ _ _ _ r6.out
  have rc3 := rc 3 (.int .i64 0) rfl
  have rf3 : w6.frozen? ⟨w.heap.size + 1 + 1, 3, none⟩ = false := frozen_of_row _ _ _ _ _ r6.out
  have rc4 := rc 4 (.int .i64 0) rfl
  have rf4 : w6.frozen? ⟨w.heap.size + 1 + 1, 4, none⟩ = false := frozen_of_row _ _ _ _ _ r6.out
  have rc5 := rc 5 (.int .i64 0) rfl
  have rf5 : w6.frozen? ⟨w.heap.size + 1 + 1, 5, none⟩ = false := frozen_of_row _ _ _ _ _ r6.out
  have rc6 := rc 6 (.int .i64 0) rfl
  have rf6 : w6.frozen? ⟨w.heap.size + 1 + 1, 6, none⟩ = false := frozen_of_row _ _ _ _ _ r6.out
  have rc7 := rc 7 (.int .i64 0) rfl
  have rf7 : w6.frozen? ⟨w.heap.size + 1 + 1, 7, none⟩ = false := frozen_of_row _ _ _ _ _ r6.out
  have rc8 := rc 8 (.int .i64 0) rfl
  have rf8 : w6.frozen? ⟨w.heap.size + 1 + 1, 8, none⟩ = false := frozen_of_row _ _ _ _ _ r6.out
  have rz := (Array.getElem?_eq_some_iff.1 r6.out).1
  have mc0 := mach_cells hm6 0 (.slice fva fvn fvc) rfl
  have mc1 := mach_cells hm6 1 (.int .i64 m1.req.kind) rfl
  have mc2 := mach_cells hm6 2 (.int .i64 m1.req.node) rfl
  have mc3 := mach_cells hm6 3 (.int .i64 m1.req.field) rfl
  have mc4 := mach_cells hm6 4 (.int .i64 m1.req.value) rfl
  have mc5 := mach_cells hm6 5 (.int .i64 m1.req.fault) rfl
  have mc6 := mach_cells hm6 6 (.int .i64 m1.fuel) rfl
  have mc7 := mach_cells hm6 7 (.int .i64 m1.compares) rfl
  have mc8 := mach_cells hm6 8 (.int .i64 m1.idle) rfl
  have hmz := (Array.getElem?_eq_some_iff.1 hm6).1
  have hfin := Lib.hid (machPut_facts (R := w.heap.size + 1 + 1) (fv0 := .slice none 0 0) (m0 := zeroM) r6.out (.slice fva fvn fvc) m1)
  have hRF6 : w.heap.size + 1 + 1 ∉ F6 := hM6.notin (Array.getElem?_eq_some_iff.1 r5.out).1 hRF
  have hge6 : ∀ b ∈ F6, w.heap.size ≤ b := hM6.ge HGE.out hBw5.out.size
  have hB6 := hBw5.out.trans (hM6.below HGE.out hBw5.out.size)
  have HNEW : Hid (NewMach w (.slice fva fvn fvc) m1 (machPut w6 (w.heap.size + 1 + 1) (.slice fva fvn fvc) m1)) := Lib.hid ⟨F0, hv6.keep (fun b hb => hfin.out.2.block b (hv6.lt b hb) (fun e => hRF6 (by rw [List.mem_singleton] at e; rw [hF6]; exact List.mem_cons_of_mem _ (e ▸ hb)))), fun b hb => hge6 b (by rw [hF6]; exact List.mem_cons_of_mem _ hb), hB6.trans (hfin.out.2.below (fun b hb => by simp at hb; omega) hB6.size)⟩
  have HR6 : Hid (Runs c (startM c x fuel) m1) := Lib.hid (by rw [hsM.out]; exact hR6)
  have hmn : ¬ w4.heap.size + 1 = w.heap.size + 1 + 1 := by omega
  clear rc hm6 hv6 hO6 hM6 hR6 hge6 hB6 hRF6 hRF hF6 hn6
  go_wp2_with fail
  have hpost : StartPost c x fuel w (.returned (.tuple #[machV (.slice fva fvn fvc) m1, .int .i64 0])) (machPut w6 (w.heap.size + 1 + 1) (.slice fva fvn fvc) m1) := .inr ⟨HE.out, m1, (.slice fva fvn fvc), HR6.out, rfl, HNEW.out⟩
  exact bodyPost_ret (v := .tuple #[machV (.slice fva fvn fvc) m1, .int .i64 0]) (results_mach (p := 6) (u := 7) rfl hfin.out.1 _ _ rfl rfl) rfl hpost
theorem SliceOf.form {α : Type} {B : Nat} {w : World} {sz : Nat} {E : World → Nat → Nat → α → Prop} {v : Value} {l : List α} (h : SliceOf B w sz E v l) : ∃ a cap, v = .slice a l.length cap := by
  obtain ⟨a, cap, rfl, _⟩ := h; exact ⟨a, cap, rfl⟩
theorem start_any (c : Cod) (x : Cal) (fuel : Int) (cv xv : Value) (B : Nat) (w : World) (hB : B ≤ w.heap.size) (hc : CodV B w cv c) (hx : CalV B w xv x) (hs : SoundP c) (hsm : Small c) :
    Calls Tryd.prog 18 #[cv, xv, .int .i64 fuel] w (StartPost c x fuel w) := by
  obtain ⟨fv, gv, rfl, hf, hg, hg64⟩ := id hc
  obtain ⟨fa, fc, rfl⟩ := hf.form
  obtain ⟨ga, gc, rfl⟩ := hg.form
  obtain ⟨av, rfl, hxs, hxp⟩ := hx
  obtain ⟨xa, xc, rfl⟩ := hxs.form
  by_cases hr : fuel < 0 ∨ 1048576 < fuel
  · exact start_range c x fuel fa ga xa _ fc _ gc _ xc _ w hr
  have hf2 : 0 ≤ fuel ∧ fuel ≤ 1048576 := by omega
  rcases idxOf_cases (fun f => strEq f.name x.proc) c.funcs with hi | ⟨k, hk, hi⟩
  · exact start_none c x fuel fa ga xa _ fc gc xc _ B w hB hc hxs hf2 hi
  obtain ⟨y, hy⟩ : ∃ y, c.funcs[k]? = some y := ⟨_, List.getElem?_eq_getElem hk⟩
  by_cases hl : (x.args.length : Int) = y.params
  · cases hv : x.args.any (fun n => !isVal n) with
    | true => exact start_type c x fuel fa ga xa _ fc gc xc _ B w hB hc hxs hf2 k hi y hy hl hv
    | false => exact start_yes c x fuel fa ga xa _ fc gc xc _ B w hB hc hxs hf2 k hi y hy hl hv hs hsm
  · exact start_size c x fuel fa ga xa _ fc gc xc _ B w hB hc hxs hf2 k hi y hy hl

/-- what Start comes to -/
def StartPost2 (c : Cod) (x : Cal) (fuel : Int) (w : World) (e : Ending) (w' : World) : Prop :=
  (¬ SoundP c ∧ e = .returned (.tuple #[machV (.slice none 0 0) zeroM, .int .i64 1]) ∧ Below w.heap.size w w') ∨ (SoundP c ∧ StartPost c x fuel w e w')
end Go.Proofs.YtbmeoklmachjpaaDoor
namespace Go.Proofs.YtbmeoklmachjpaaDoor
open Go.RowKit

theorem NewMach.later {w w1 w' : World} {fv : Value} {m : Mch} (h : NewMach w1 fv m w') (hb : Below w.heap.size w w1) : NewMach w fv m w' := by
  obtain ⟨F, h1, h2, h3⟩ := h
  exact ⟨F, h1, fun b hb' => Nat.le_trans hb.size (h2 b hb'), hb.then h3⟩
set_option maxRecDepth 100000 in
set_option maxHeartbeats 2000000 in
theorem Start_any (c : Cod) (x : Cal) (fuel : Int) (cv xv : Value) (B : Nat) (w : World) (hL : Laid w) (hB : B ≤ w.heap.size) (hc : CodV B w cv c) (hx : CalV B w xv x) (hsm : Small c) :
    Calls Tryd.prog 6 #[cv, xv, .int .i64 fuel] w (StartPost2 c x fuel w) := by
  have HC := Lib.hid hc
  have HX := Lib.hid hx
  obtain ⟨fv, gv, rfl, hf, hg, hg64⟩ := hc
  obtain ⟨fa, fc, rfl⟩ := hf.form
  obtain ⟨ga, gc, rfl⟩ := hg.form
  obtain ⟨av, rfl, hxs, hxp⟩ := hx
  obtain ⟨xa, xc, rfl⟩ := hxs.form
  obtain ⟨fn, hfn⟩ : ∃ n, n = c.fields.length := ⟨_, rfl⟩
  obtain ⟨g, hgg⟩ : ∃ n, n = c.globals := ⟨_, rfl⟩
  rw [← hfn, ← hgg] at HC ⊢
  clear hf hg hxs hfn hgg hg64
  obtain ⟨W, hW⟩ : ∃ W, W = ((w.alloc (.cells #[.slice fa fn fc, .int .i64 g, .slice ga c.funcs.length gc] 32)).alloc (.cells #[.string x.proc, .slice xa x.args.length xc] 42)).alloc (.cells #[.slice none 0 0, .int .i64 0, .int .i64 0, .int .i64 0, .int .i64 0, .int .i64 0, .int .i64 0, .int .i64 0, .int .i64 0] 38) := ⟨_, rfl⟩
  have hWb : Hid (Below w.heap.size w W) := by rw [hW]; exact ((below_alloc _ _).then (below_alloc _ _)).then (below_alloc _ _)
  have hsz : Hid (W.heap.size = w.heap.size + 3) := by rw [hW]; exact Lib.hid (by simp)
  have b0 : Hid (Cells W w.heap.size [.slice fa fn fc, .int .i64 g, .slice ga c.funcs.length gc]) := by rw [hW]; exact Lib.hid (cells_new.alloc _ |>.alloc _)
  have b1 : Hid (Cells W (w.heap.size + 1) [.string x.proc, .slice xa x.args.length xc]) := by
    rw [hW]
    have := (@cells_new (w.alloc (.cells #[.slice fa fn fc, .int .i64 g, .slice ga c.funcs.length gc] 32)) #[.string x.proc, .slice xa x.args.length xc] 42).alloc (.cells #[.slice none 0 0, .int .i64 0, .int .i64 0, .int .i64 0, .int .i64 0, .int .i64 0, .int .i64 0, .int .i64 0, .int .i64 0] 38)
    exact Lib.hid (by simpa using this)
  have b2 : Hid (W.heap[w.heap.size + 2]? = some (.cells #[.slice none 0 0, .int .i64 0, .int .i64 0, .int .i64 0, .int .i64 0, .int .i64 0, .int .i64 0, .int .i64 0, .int .i64 0] 38 (0, 0))) := by
    rw [hW]
    have := heap_alloc_new ((w.alloc (.cells #[.slice fa fn fc, .int .i64 g, .slice ga c.funcs.length gc] 32)).alloc (.cells #[.string x.proc, .slice xa x.args.length xc] 42)) (.cells #[.slice none 0 0, .int .i64 0, .int .i64 0, .int .i64 0, .int .i64 0, .int .i64 0, .int .i64 0, .int .i64 0, .int .i64 0] 38)
    exact Lib.hid (by simpa using this)
  have hcW := Lib.hid (HC.out.below (hWb.out.mono hB))
  have hxW := Lib.hid (HX.out.below (hWb.out.mono hB))
  have HL := Lib.hid (hL.below hWb.out)
  have hWB : B ≤ W.heap.size := by have := hsz.out; omega
  clear hL
  go_enter Tryd.func6, Tryd.ntmps6
  go_upto_region 1 with fail
  rw [← hW]
  have HW := Lib.hid hW
  clear hW
  have i0 := b0.out 0 _ rfl
  have i1 := b0.out 1 _ rfl
  have i2 := b0.out 2 _ rfl
  have i3 := b1.out 0 _ rfl
  have i4 := b1.out 1 _ rfl
  have z0 : w.heap.size < W.heap.size := by have := hsz.out; omega
  have z1 : w.heap.size + 1 < W.heap.size := by have := hsz.out; omega
  go_wp2_with fail
  refine (sound_any c _ B W HL.out hWB hcW.out).mono ?_
  rintro e w1 ⟨rfl, hb1⟩
  have i0 := keepC hb1 i0
  have i1 := keepC hb1 i1
  have i2 := keepC hb1 i2
  have i3 := keepC hb1 i3
  have i4 := keepC hb1 i4
  have z0 := World.block_lt_of_cell? w1 _ i0
  have z1 := World.block_lt_of_cell? w1 _ i3
  have r1 : Hid (w1.heap[w.heap.size + 1 + 1]? = some (.cells #[.slice none 0 0, .int .i64 0, .int .i64 0, .int .i64 0, .int .i64 0, .int .i64 0, .int .i64 0, .int .i64 0, .int .i64 0] 38 (0, 0))) := Lib.hid (by rw [hb1.block _ (by have := hsz.out; omega)]; exact b2.out)
  have HB1 := Lib.hid (hWb.out.then hb1)
  clear hb1
  by_cases hs : SoundP c
  · have hcw1 := Lib.hid (HC.out.below (HB1.out.mono hB))
    have hxw1 := Lib.hid (HX.out.below (HB1.out.mono hB))
    rw [soundB_yes hs]
    go_wp2_with fail
    refine (start_any c x fuel _ _ B w1 (Nat.le_trans hB HB1.out.size) hcw1.out hxw1.out hs hsm).mono ?_
    rintro e w2 hP
    have hr1 := (Array.getElem?_eq_some_iff.1 r1.out).1
    obtain ⟨fva, fvn, fvc, m1, er, rfl, hb2, hF2⟩ : ∃ fva fvn fvc m1 er, e = .returned (.tuple #[machV (.slice fva fvn fvc) m1, .int .i64 er]) ∧ Below w1.heap.size w1 w2 ∧ Hid (∀ w3, Mods [w.heap.size + 1 + 1] [w.heap.size + 1 + 1] w2 w3 → StartPost c x fuel w (.returned (.tuple #[machV (.slice fva fvn fvc) m1, .int .i64 er])) w3) := by
      rcases hP with ⟨h0, rfl, hb⟩ | ⟨h0, m1, fv, hR, rfl, F, hv, hge, hb⟩
      · refine ⟨none, 0, 0, zeroM, _, rfl, hb, Lib.hid fun w3 hM => .inl ⟨h0, rfl, (HB1.out.then hb).trans (hM.below (fun b hb' => by simp at hb'; omega) (HB1.out.then hb).size)⟩⟩
      · obtain ⟨fva, fvc, rfl⟩ := hv.form
        refine ⟨fva, _, fvc, m1, 0, rfl, hb, Lib.hid fun w3 hM => .inr ⟨h0, m1, _, hR, rfl, F, hv.keep (fun b hb' => hM.block b (hv.lt b hb') (fun e => ?_)), fun b hb' => Nat.le_trans HB1.out.size (hge b hb'), (HB1.out.then hb).trans (hM.below (fun b hb' => by simp at hb'; omega) (HB1.out.then hb).size)⟩⟩
        have := hge b hb'
        rw [List.mem_singleton] at e
        omega
    have r2 : Hid (w2.heap[w.heap.size + 1 + 1]? = some (.cells #[.slice none 0 0, .int .i64 0, .int .i64 0, .int .i64 0, .int .i64 0, .int .i64 0, .int .i64 0, .int .i64 0, .int .i64 0] 38 (0, 0))) := Lib.hid (by rw [hb2.block _ hr1]; exact r1.out)
    have rc : ∀ (j : Nat) (v : Value), (#[.slice none 0 0, .int .i64 0, .int .i64 0, .int .i64 0, .int .i64 0, .int .i64 0, .int .i64 0, .int .i64 0, .int .i64 0] : Array Value)[j]? = some v → w2.cell? ⟨w.heap.size + 1 + 1, j, none⟩ = some v := fun j v hv => by rw [cell_of_row _ _ _ _ _ _ r2.out]; exact hv
    have rc0 := rc 0 (.slice none 0 0) rfl
    have rf0 : w2.frozen? ⟨w.heap.size + 1 + 1, 0, none⟩ = false := frozen_of_row _ _ _ _ _ r2.out
    have rc1 := rc 1 (.int .i64 0) rfl
    have rf1 : w2.frozen? ⟨w.heap.size + 1 + 1, 1, none⟩ = false := frozen_of_row _ _ _ _ _ r2.out
    have rc2 := rc 2 (.int .i64 0) rfl
    have rf2 : w2.frozen? ⟨w.heap.size + 1 + 1, 2, none⟩ = false := frozen_of_row _ _ _ _ _ r2.out
    have rc3 := rc 3 (.int .i64 0) rfl
    have rf3 : w2.frozen? ⟨w.heap.size + 1 + 1, 3, none⟩ = false := frozen_of_row _ _ _ _ _ r2.out
    have rc4 := rc 4 (.int .i64 0) rfl
    have rf4 : w2.frozen? ⟨w.heap.size + 1 + 1, 4, none⟩ = false := frozen_of_row _ _ _ _ _ r2.out
    have rc5 := rc 5 (.int .i64 0) rfl
    have rf5 : w2.frozen? ⟨w.heap.size + 1 + 1, 5, none⟩ = false := frozen_of_row _ _ _ _ _ r2.out
    have rc6 := rc 6 (.int .i64 0) rfl
    have rf6 : w2.frozen? ⟨w.heap.size + 1 + 1, 6, none⟩ = false := frozen_of_row _ _ _ _ _ r2.out
    have rc7 := rc 7 (.int .i64 0) rfl
    have rf7 : w2.frozen? ⟨w.heap.size + 1 + 1, 7, none⟩ = false := frozen_of_row _ _ _ _ _ r2.out
    have rc8 := rc 8 (.int .i64 0) rfl
    have rf8 : w2.frozen? ⟨w.heap.size + 1 + 1, 8, none⟩ = false := frozen_of_row _ _ _ _ _ r2.out
    have rz := (Array.getElem?_eq_some_iff.1 r2.out).1
    clear rc
    have hfin := Lib.hid (machPut_facts (R := w.heap.size + 1 + 1) (fv0 := .slice none 0 0) (m0 := zeroM) r2.out (.slice fva fvn fvc) m1)
    clear hb2 hP
    unfold machV machCells
    go_wp2_with fail
    have hpost : StartPost2 c x fuel w (.returned (.tuple #[machV (.slice fva fvn fvc) m1, .int .i64 er])) (machPut w2 (w.heap.size + 1 + 1) (.slice fva fvn fvc) m1) := .inr ⟨hs, hF2.out _ hfin.out.2⟩
    exact bodyPost_ret (v := .tuple #[machV (.slice fva fvn fvc) m1, .int .i64 er]) (results_mach (p := 6) (u := 7) rfl hfin.out.1 _ _ rfl rfl) rfl hpost
  · rw [soundB_no hs]
    have rc : ∀ (j : Nat) (v : Value), (#[.slice none 0 0, .int .i64 0, .int .i64 0, .int .i64 0, .int .i64 0, .int .i64 0, .int .i64 0, .int .i64 0, .int .i64 0] : Array Value)[j]? = some v → w1.cell? ⟨w.heap.size + 1 + 1, j, none⟩ = some v := fun j v hv => by rw [cell_of_row _ _ _ _ _ _ r1.out]; exact hv
    have rc0 := rc 0 (.slice none 0 0) rfl
    have rf0 : w1.frozen? ⟨w.heap.size + 1 + 1, 0, none⟩ = false := frozen_of_row _ _ _ _ _ r1.out
    have rc1 := rc 1 (.int .i64 0) rfl
    have rf1 : w1.frozen? ⟨w.heap.size + 1 + 1, 1, none⟩ = false := frozen_of_row _ _ _ _ _ r1.out
    have rc2 := rc 2 (.int .i64 0) rfl
    have rf2 : w1.frozen? ⟨w.heap.size + 1 + 1, 2, none⟩ = false := frozen_of_row _ _ _ _ _ r1.out
    have rc3 := rc 3 (.int .i64 0) rfl
    have rf3 : w1.frozen? ⟨w.heap.size + 1 + 1, 3, none⟩ = false := frozen_of_row _ _ _ _ _ r1.out
    have rc4 := rc 4 (.int .i64 0) rfl
    have rf4 : w1.frozen? ⟨w.heap.size + 1 + 1, 4, none⟩ = false := frozen_of_row _ _ _ _ _ r1.out
    have rc5 := rc 5 (.int .i64 0) rfl
    have rf5 : w1.frozen? ⟨w.heap.size + 1 + 1, 5, none⟩ = false := frozen_of_row _ _ _ _ _ r1.out
    have rc6 := rc 6 (.int .i64 0) rfl
    have rf6 : w1.frozen? ⟨w.heap.size + 1 + 1, 6, none⟩ = false := frozen_of_row _ _ _ _ _ r1.out
    have rc7 := rc 7 (.int .i64 0) rfl
    have rf7 : w1.frozen? ⟨w.heap.size + 1 + 1, 7, none⟩ = false := frozen_of_row _ _ _ _ _ r1.out
    have rc8 := rc 8 (.int .i64 0) rfl
    have rf8 : w1.frozen? ⟨w.heap.size + 1 + 1, 8, none⟩ = false := frozen_of_row _ _ _ _ _ r1.out
    have rz := (Array.getElem?_eq_some_iff.1 r1.out).1
    clear rc
    have hfin := Lib.hid (machPut_facts (R := w.heap.size + 1 + 1) (fv0 := .slice none 0 0) (m0 := zeroM) r1.out (.slice none 0 0) zeroM)
    have HFB : Hid (Below w.heap.size w (machPut w1 (w.heap.size + 1 + 1) (.slice none 0 0) zeroM)) := Lib.hid (HB1.out.trans (hfin.out.2.below (fun b hb => by simp at hb; omega) HB1.out.size))
    go_wp2_with fail
    exact bodyPost_ret (results_mach rfl hfin.out.1 _ _ rfl rfl) rfl (.inl ⟨hs, rfl, HFB.out⟩)
end Go.Proofs.YtbmeoklmachjpaaDoor
