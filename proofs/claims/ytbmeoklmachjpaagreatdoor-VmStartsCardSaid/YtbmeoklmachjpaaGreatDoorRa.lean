/- Contracts of the reference's functions on numbers: ref15.value, one, two, compares, asks, product, Compute; ref14.below, one; ref13.Log2. Contracts of the reference's push and pop: the last frame's stack of a machine that is passed by value. A machine that a function of the reference returns. Contracts of the reference's ended and failed. Contracts of the reference's Compute and Log2. MADE BY wip/gen_rk.py -/
import Derived.Test.YtbmeoklmachjpaaGreatDoorPst3
import Derived.Deep.AppendLies
import Derived.Deep.RegionLaw
import Derived.Outline
set_option maxHeartbeats 1000000
set_option maxRecDepth 100000
set_option linter.unusedVariables false
set_option linter.unusedSimpArgs false
namespace Go.Proofs.YtbmeoklmachjpaaGreatDoor
open Go.RowKit
theorem rvalue_any (n:Int) (w:World):Calls Tryz.prog 42 #[.int .i64 n] w fun e w'=>e=.returned (.bool (isVal n))∧w=w':=by
 go_enter Tryz.func42,Tryz.ntmps42
 go_wp2
 all_goals (go_ret;exact ⟨by unfold isVal;congr 2;simp;omega,rfl⟩)
theorem rone_any (b:Bool) (w:World):Calls Tryz.prog 104 #[.bool b] w fun e w'=>e=.returned (.int .i64 (b2i b))∧w=w':=by
 cases b
 all_goals
  go_enter Tryz.func104,Tryz.ntmps104
  go_wp2
  go_ret
  exact ⟨rfl,rfl⟩
theorem rone14_any (b:Bool) (w:World):Calls Tryz.prog 106 #[.bool b] w fun e w'=>e=.returned (.int .i64 (b2i b))∧w=w':=by
 cases b
 all_goals
  go_enter Tryz.func106,Tryz.ntmps106
  go_wp2
  go_ret
  exact ⟨rfl,rfl⟩
theorem rtwo_any (op:Int) (w:World):Calls Tryz.prog 100 #[.int .i64 op] w fun e w'=>e=.returned (.bool (decide (isTwo op)))∧w=w':=by
 go_enter Tryz.func100,Tryz.ntmps100
 go_wp2
 all_goals (go_ret;exact ⟨ret_bool (by rw [Bool.eq_iff_iff];simp only [Bool.or_eq_true,Bool.and_eq_true,decide_eq_true_eq,beq_iff_eq,eq_self,true_iff];unfold isTwo;omega),rfl⟩)
theorem rcompares_any (op:Int) (w:World):Calls Tryz.prog 105 #[.int .i64 op] w fun e w'=>e=.returned (.bool (decide (20≤op∧op≤23)))∧w=w':=by
 go_enter Tryz.func105,Tryz.ntmps105
 go_wp2
 all_goals (go_ret;exact ⟨ret_bool (by simp;try omega),rfl⟩)
def asksB (op:Int):Bool:=decide (4≤op∧op≤8)
theorem rasks_any (op:Int) (w:World):Calls Tryz.prog 74 #[.int .i64 op] w fun e w'=>e=.returned (.bool (asksB op))∧w=w':=by
 go_enter Tryz.func74,Tryz.ntmps74
 go_wp2
 all_goals (go_ret;exact ⟨ret_bool (by rw [Bool.eq_iff_iff];unfold asksB;simp only [Bool.or_eq_true,Bool.and_eq_true,decide_eq_true_eq,beq_iff_eq,eq_self,true_iff];omega),rfl⟩)
/-- a product of values, or a number that is none -/
def prodV (a b:Int):Int:=if a.natAbs*b.natAbs≤1099511627776 then a*b else 1099511627777
theorem div_lt_prod {a b:Int} (hb:1≤b.natAbs):((1099511627776 / b.natAbs<a.natAbs)↔¬a.natAbs*b.natAbs≤1099511627776):=by
 rw [Nat.div_lt_iff_lt_mul (by omega)];omega
theorem div_abs (b:Int):(1099511627776:Int) / max b (-b)=((1099511627776 / b.natAbs:Nat):Int):=by
 rw [max_abs,Int.natCast_ediv];rfl
theorem prod_gt {a b:Int} (hb:1≤b.natAbs) (h:1099511627776 / max b (-b)<max a (-a)):prodV a b=1099511627777:=by
 rw [div_abs,max_abs] at h
 unfold prodV
 rw [if_neg ((div_lt_prod hb).1 (by omega))]
theorem prod_le {a b:Int} (hb:1≤b.natAbs) (h:max a (-a)≤1099511627776 / max b (-b)):prodV a b=a*b∧-9223372036854775808≤a*b∧a*b≤9223372036854775807:=by
 rw [div_abs,max_abs] at h
 have h2:a.natAbs*b.natAbs≤1099511627776:=by
  apply Decidable.byContradiction
  intro hn
  have:=(div_lt_prod hb).2 hn
  omega
 have h3:(a*b).natAbs=a.natAbs*b.natAbs:=Int.natAbs_mul a b
 exact ⟨by unfold prodV;rw [if_pos h2],by omega,by omega⟩
theorem rproduct_any (a b:Int) (ha:-1099511627776≤a∧a≤1099511627776) (hb:-1099511627776≤b∧b≤1099511627776) (w:World):Calls Tryz.prog 135 #[.int .i64 a,.int .i64 b] w fun e w'=>e=.returned (.int .i64 (prodV a b))∧w=w':=by
 by_cases ha0:a=0
 ·have hf:Hid (prodV a b=0):=Lh (by unfold prodV;rw [ha0];simp)
  have e1:(a == 0)=true:=by simpa using ha0
  clear ha0
  go_enter Tryz.func135,Tryz.ntmps135
  go_wp2_with fail
  go_ret
  exact ⟨by rw [hf.out];rfl,rfl⟩
 have e1:(a == 0)=false:=by simpa using ha0
 by_cases hb0:b=0
 ·have hf:Hid (prodV a b=0):=Lh (by unfold prodV;rw [hb0];simp)
  have e2:(b == 0)=true:=by simpa using hb0
  clear hb0 ha0
  go_enter Tryz.func135,Tryz.ntmps135
  go_wp2_with fail
  go_ret
  exact ⟨by rw [hf.out];rfl,rfl⟩
 have e2:(b == 0)=false:=by simpa using hb0
 have hm1:1≤max b (0 - b):=by omega
 have hm2:max b (0 - b)≤1099511627776:=by omega
 clear ha0 hb0
 go_enter Tryz.func135,Tryz.ntmps135
 go_wp2_with fail
 ·have hf:=prod_gt (a:=a) (b:=b) (by have:=hm1;omega) (by assumption)
  go_ret
  exact ⟨by rw [hf];rfl,rfl⟩
 ·obtain ⟨hf,h1,h2⟩:=prod_le (a:=a) (b:=b) (by have:=hm1;omega) (by assumption)
  go_ret
  exact ⟨by rw [hf];exact ret_int (IntWalk.wrap64_in _ ⟨h1,h2⟩),rfl⟩
theorem push_end {w WA w5:World} {bm fb cap:Nat} {cur:Array Value} {cs:List Value} {fs:List Fra} {f:Fra} {lv sv:Value} {m:Mch} {Fi Fl Fs:List Nat} (H:TopOwn w bm fb cap cur cs fs f lv sv m Fi Fl Fs) (hb:Below w.heap.size w WA) {o:Obj} {n:Int} {g2 cap2:Nat} (h64:in64 n)
  (hO:w5.ownsRow 0 3 1 (.slice (some ⟨g2,0,none⟩) (f.stack.length+1) cap2) (f.stack.length+1) (f.stack.map (Value.int .i64)++[.int .i64 n])) (hg:((WA.alloc o).drew).grownBy w5 sv.ownBlock) (hl:sv.ownBlock=some g2∨g2=((WA.alloc o).drew).heap.size) :
  TopPost w bm fb cap cs fs { f with stack:=f.stack++[n] } lv m Fi Fl (bm::fb::(Fi++(Fl++Fs))) (w5.setCell ⟨fb,fs.length*4+3,none⟩ (.slice (some ⟨g2,0,none⟩) (f.stack.length+1) cap2)):=by
 have hFs:Fs=sv.ownBlock.toList:=H.stk.2.1
 have hbB:Below w.heap.size w ((WA.alloc o).drew):=hb.trans (((Below.refl _ _).alloc hb.size _).trans (bdrew (Below.refl _ _) 1))
 have hlt:=H.lt
 have hM5:Mods Fs [g2] ((WA.alloc o).drew) w5:=by
  rw [hFs]
  have:=mods_grown (v:=sv) (v':=.slice (some ⟨g2,0,none⟩) (f.stack.length+1) cap2) (g:=g2) hg rfl (by rcases hl with h|h;exact .inl h;right;omega)
  simpa [Value.ownBlock] using this
 have hblk:∀ b∈bm::fb::(Fi++Fl),w5.heap[b]?=w.heap[b]?:=fun b hb'=>by
  have hb2:b∈bm::fb::(Fi++(Fl++Fs)):=by simp at hb' ⊢;rcases hb' with hb|hb|hb|hb<;>simp [hb]
  have hbn:b∉Fs:=fun e=>by
   have e1:bm::fb::(Fi++(Fl++Fs))=(bm::fb::(Fi++Fl))++Fs:=by simp
   have:=H.nodup
   rw [e1,List.nodup_append] at this
   exact this.2.2 b hb' b e rfl
  rw [hM5.block b (Nat.lt_of_lt_of_le (hlt b hb2) hbB.size) hbn,hbB.block b (hlt b hb2)]
 have hIn:OwnI w5 (.slice (some ⟨g2,0,none⟩) (f.stack.length+1) cap2) (f.stack++[n]) [g2]:=⟨by simpa using hO,rfl,fun x hx=>by
  simp at hx
  rcases hx with hx|rfl
  ·exact H.stk.2.2 x hx
  ·exact h64⟩
 refine sv_put H (hblk bm (by simp)) (hblk fb (by simp)) (fun b hb=>hblk b (by simp at hb ⊢;rcases hb with hb|hb<;>simp [hb])) hIn (nodup_swap H.nodup hlt ⟨g2,rfl,?_⟩) ((Mods.of_below hbB).trans (hM5.wide (fun b hb=>by simp [hb]) (fun b hb=>?_)))
 ·rcases hl with h|h
  ·left;rw [hFs,h];rfl
  ·right;have:=hbB.size;omega
 ·simp only [List.mem_cons,List.mem_append,List.not_mem_nil,or_false] at hb ⊢
  rcases hb with hb|hb|hb|hb|hb<;>simp [hb]
theorem rpush_any {w:World} {bm fb cap:Nat} {cur:Array Value} {cs:List Value} {fs:List Fra} {f:Fra} {lv sv:Value} {m:Mch} {Fi Fl Fs:List Nat} (m':Mch) (h:TopOwn w bm fb cap cur cs fs f lv sv m Fi Fl Fs) (hn:fs.length≤200) (n:Int) (h64:in64 n) (hst:f.stack.length<1000000) :
  Calls Tryz.prog 84 #[machV (.slice (some ⟨fb,0,none⟩) (fs.length+1) cap) m',.int .i64 n] w fun e w'=>e=.returned (.tuple #[])∧TopPost w bm fb cap cs fs { f with stack:=f.stack++[n] } lv m Fi Fl (bm::fb::(Fi++(Fl++Fs))) w':=by
 have H:=Lh h
 have hFs:Fs=sv.ownBlock.toList:=h.stk.2.1
 have hne:=h.ne
 have hlt:=h.lt
 have hfb:=h.lt fb (by simp)
 have hfbn:¬some fb=sv.ownBlock:=fun e=>(hne.2 fb (by rw [hFs,← e];simp)).2 rfl
 have hbxn:¬some w.heap.size=sv.ownBlock:=fun e=>by
  have:=hlt w.heap.size (by rw [hFs,← e];simp)
  omega
 obtain ⟨ti,hti,hz0,hz1,hz2⟩:=info_parts info_int
 obtain ⟨WA,hWA⟩:∃ W,W=w.alloc (.cells (machCells (.slice (some ⟨fb,0,none⟩) (fs.length+1) cap) m') 36):=⟨_,rfl⟩
 have hb:Below w.heap.size w WA:=by rw [hWA];exact below_alloc _ _
 have hsz:w.heap.size<WA.heap.size:=by rw [hWA];simp
 have k0:WA.cell? ⟨w.heap.size,0,none⟩=some (.slice (some ⟨fb,0,none⟩) (fs.length+1) cap):=by rw [hWA];exact cells_new 0 _ rfl
 have hA:=h.keep hb
 have c3:=hA.cSv
 have f3:=hA.frf (fs.length*4+3)
 have hfbA:fb<WA.heap.size:=by omega
 have hrow:=Lh hA.stk.1
 have HA:=Lh hA
 have HB:=Lh hb
 have H64:=Lh h64
 have hcapl:=h.capl
 have hnl:(fs.length:Int)≤200:=by omega
 have hix:(fs.length:Int)<(fs.length:Int)+1:=by omega
 clear h hA hb h64 hne hlt hFs
 unfold machV
 unfold machCells at hWA ⊢
 go_enter Tryz.func84,Tryz.ntmps84
 go_upto_region 1 with fail
 rw [←hWA]
 have HWA:=Lh hWA
 clear hWA
 go_upto_region 2 with fail
 go_region_law (refine step_append_lies _ rfl (.tmp 17) (.tmp 19) 22 rfl 0 3 ti (.int .i64 0) 1 8 Tryz.underlying22 hti hz0 hz1 hz2 rfl (by decide) sv f.stack.length (f.stack.map (Value.int .i64)) rfl ((hrow.out.alloc _).drew) ⟨WA.heap.size,0,none⟩ 1 1 [.int .i64 n] rfl rfl (news_at WA _ _) (by simp [Value.oneCell']) (by omega) (by unfold maxLen;omega) (by omega) (Nat.zero_le _) _ rfl ?_;intro g2 cap2 w5 hown5 hg5 hlies hg2lt;have Hown5:=Lh hown5;have Hg5:=Lh hg5;have k05:=(World.grownBy.cell hg5 (show ((WA.alloc (.cells #[.int .i64 n] 3)).drew).cell? ⟨w.heap.size,0,none⟩=_ from keepC (below_alloc _ _) k0) hbxn);have c35:=(World.grownBy.cell hg5 (show ((WA.alloc (.cells #[.int .i64 n] 3)).drew).cell? ⟨fb,fs.length*4+3,none⟩=_ from keepC (below_alloc _ _) c3) hfbn);have f35:w5.frozen? ⟨fb,fs.length*4+3,none⟩=false:=(by rw [World.frozen?_of_block (w:=WA) (a:=⟨fb,fs.length*4+3,none⟩) (by rw [hg5.block fb (by simp;omega) hfbn];exact Below.heap_alloc _ _ _ hfbA)];exact f3);clear hown5 hg5)
 all_goals go_end0
 all_goals exact ⟨rfl,push_end H.out HB.out H64.out Hown5.out Hg5.out hlies⟩
theorem rpop_any {w:World} {bm fb cap:Nat} {cur:Array Value} {cs:List Value} {fs:List Fra} {f:Fra} {lv sv:Value} {m:Mch} {Fi Fl Fs:List Nat} (m':Mch) (h:TopOwn w bm fb cap cur cs fs f lv sv m Fi Fl Fs) (hn:fs.length≤200) (l:List Int) (n:Int) (hst:f.stack=l++[n]) :
  Calls Tryz.prog 102 #[machV (.slice (some ⟨fb,0,none⟩) (fs.length+1) cap) m'] w fun e w'=>e=.returned (.int .i64 n)∧TopPost w bm fb cap cs fs { f with stack:=l } lv m Fi Fl (bm::fb::(Fi++(Fl++Fs))) w':=by
 have hown:=h.stk
 rw [hst] at hown
 obtain ⟨sb,scap,scur,rfl,rfl,hsb,hl1,hl2,hcell,hown',hn64⟩:=hown.last
 have H:=Lh h
 have HO:=Lh hown'
 have hne:=h.ne
 have hsn:=(hne.2 sb (by simp)).2
 obtain ⟨WA,hWA⟩:∃ W,W=w.alloc (.cells (machCells (.slice (some ⟨fb,0,none⟩) (fs.length+1) cap) m') 36):=⟨_,rfl⟩
 have hb:Below w.heap.size w WA:=by rw [hWA];exact below_alloc _ _
 have hfb:=h.lt fb (by simp)
 have hsz:w.heap.size<WA.heap.size:=by rw [hWA];simp
 have k0:WA.cell? ⟨w.heap.size,0,none⟩=some (.slice (some ⟨fb,0,none⟩) (fs.length+1) cap):=by rw [hWA];exact cells_new 0 _ rfl
 have hA:=h.keep hb
 have c3:=hA.cSv
 have f3:=hA.frf (fs.length*4+3)
 have hfbA:fb<WA.heap.size:=by omega
 have cc:=keepC hb hcell
 have HA:=Lh hA
 have HB:=Lh hb
 have hcapl:=h.capl
 have hnl:(fs.length:Int)≤200:=by omega
 have hix:(fs.length:Int)<(fs.length:Int)+1:=by omega
 clear h hA hb hne hst hown hown' hcell hsb
 unfold machV
 unfold machCells at hWA ⊢
 go_enter Tryz.func102,Tryz.ntmps102
 go_upto_region 1 with fail
 rw [←hWA]
 have HWA:=Lh hWA
 clear hWA
 go_upto_region 3 with fail
 go_region
 go_wp2_with fail
 go_ret
 have hbD:Below w.heap.size w (WA.drew):=bdrew HB.out _
 refine ⟨rfl,sv_put H.out (hbD.block bm (H.out.lt bm (by simp))) (hbD.block fb (H.out.lt fb (by simp))) (fun b hb=>hbD.block b (H.out.lt b (by simp at hb ⊢;rcases hb with hb|hb<;>simp [hb]))) (HO.out.keep (fun b hb=>hbD.block b (HO.out.lt b hb))) H.out.nodup (Mods.of_below hbD)⟩
/-- a machine m' is returned whose frames lie in blocks of F or new ones -/
def MPost (w:World) (F:List Nat) (m':Mch) (e:Ending) (w':World):Prop:=∃ fv F',e=.returned (machV fv m')∧VOwn w' fv m'.frames F'∧Mods F F' w w'
theorem mach9 {W:World} {R:Nat} {fv:Value} {m:Mch} (h:W.heap[R]?=some (.cells (machCells fv m) 36 (0,0))) :
  W.cell? ⟨R,0,none⟩=some fv∧W.cell? ⟨R,1,none⟩=some (.int .i64 m.req.kind)∧W.cell? ⟨R,2,none⟩=some (.int .i64 m.req.node)∧W.cell? ⟨R,3,none⟩=some (.int .i64 m.req.field)∧W.cell? ⟨R,4,none⟩=some (.int .i64 m.req.value)∧W.cell? ⟨R,5,none⟩=some (.int .i64 m.req.fault)∧W.cell? ⟨R,6,none⟩=some (.int .i64 m.fuel)∧W.cell? ⟨R,7,none⟩=some (.int .i64 m.compares)∧W.cell? ⟨R,8,none⟩=some (.int .i64 m.idle):=
 ⟨mach_cells h 0 _ rfl,mach_cells h 1 _ rfl,mach_cells h 2 _ rfl,mach_cells h 3 _ rfl,mach_cells h 4 _ rfl,mach_cells h 5 _ rfl,mach_cells h 6 _ rfl,mach_cells h 7 _ rfl,mach_cells h 8 _ rfl⟩
theorem froz9 {W:World} {R:Nat} {c:Array Value} {T:TypeId} (h:W.heap[R]?=some (.cells c T (0,0))) :
  W.frozen? ⟨R,0,none⟩=false∧W.frozen? ⟨R,1,none⟩=false∧W.frozen? ⟨R,2,none⟩=false∧W.frozen? ⟨R,3,none⟩=false∧W.frozen? ⟨R,4,none⟩=false∧W.frozen? ⟨R,5,none⟩=false∧W.frozen? ⟨R,6,none⟩=false∧W.frozen? ⟨R,7,none⟩=false∧W.frozen? ⟨R,8,none⟩=false:=
 ⟨Fz h,Fz h,Fz h,Fz h,Fz h,Fz h,Fz h,Fz h,Fz h⟩
/-- frames of their own, the last one apart -/
theorem VOwn.top {w:World} {fv:Value} {m:Mch} {F:List Nat} {fs:List Fra} {f:Fra} (h:VOwn w fv m.frames F) (hm:m.frames=fs++[f]) :
  ∃ fb cap cur cs lv sv Fi Fl Fs,fv=.slice (some ⟨fb,0,none⟩) (fs.length+1) cap∧F=fb::(Fi++(Fl++Fs))∧∀ (W:World) (bm:Nat) (m1:Mch),Below w.heap.size w W→W.heap[bm]?=some (.cells (machCells (.slice (some ⟨fb,0,none⟩) (fs.length+1) cap) m1) 36 (0,0))→w.heap.size≤bm→TopOwn W bm fb cap cur cs fs f lv sv m1 Fi Fl Fs:=by
 have h0:MachOwn (w.alloc (.cells (machCells fv m) 36)) w.heap.size m (w.heap.size::F):=machOwn_iff.2 ⟨fv,F,heap_alloc_new _ _,h.keep (fun b hb=>Below.heap_alloc _ _ _ (h.lt b hb)),rfl,fun e=>by have:=h.lt _ e;omega⟩
 obtain ⟨fb,cap,cur,cs,lv,sv,Fi,Fl,Fs,hT,hF⟩:=h0.top hm
 have hfv:fv=.slice (some ⟨fb,0,none⟩) (fs.length+1) cap:=by
  have h1:=hT.mach
  rw [heap_alloc_new] at h1
  simp only [Option.some.injEq,Obj.cells.injEq,machCells] at h1
  have:=congrArg (fun a=>a[0]?) h1.1
  simpa using this
 have hF2:F=fb::(Fi++(Fl++Fs)):=by simpa using hF
 refine ⟨fb,cap,cur,cs,lv,sv,Fi,Fl,Fs,hfv,hF2,fun W bm m1 hb hbm hle=>?_⟩
 have hk:∀ b∈F,W.heap[b]?=(w.alloc (.cells (machCells fv m) 36)).heap[b]?:=fun b hb'=>by
  rw [hb.block b (h.lt b hb'),Below.heap_alloc _ _ _ (h.lt b hb')]
 rw [hF2] at hk
 refine ⟨hbm,by rw [hk fb (by simp)];exact hT.row,hT.capl,hT.capm,hT.csize,hT.take,hT.init.keep (fun b hb=>hk b (by simp [hb])),hT.loc.keep (fun b hb=>hk b (by simp [hb])),hT.stk.keep (fun b hb=>hk b (by simp [hb])),hT.fn,hT.pc,?_⟩
 have h1:=hT.nodup
 rw [List.nodup_cons] at h1 ⊢
 refine ⟨fun e=>?_,h1.2⟩
 have:=h.lt bm (by rw [hF2];exact e)
 omega
theorem mods_notin {F F':List Nat} {w w':World} (h:Mods F F' w w') {b:Nat} (hb:b<w.heap.size) (hF:b∉F):b∉F':=fun e=>by
 rcases h.new b e with h1|h1
 ·exact hF h1
 ·omega
/-- the end of a function that returns the machine of its variable in block w.heap.size through the result variable R -/
theorem rtail {w W w1:World} {fb cap:Nat} {cur:Array Value} {cs:List Value} {fs:List Fra} {f':Fra} {lv sv:Value} {m1:Mch} {Fi Fl Fs F:List Nat} {R:Nat} (hWb:Below w.heap.size w W)
  (hT:TopOwn w1 w.heap.size fb cap cur cs fs f' lv sv m1 Fi Fl Fs) (hM:Mods (w.heap.size::F) (w.heap.size::fb::(Fi++(Fl++Fs))) W w1) (hF:∀ b∈F,b<w.heap.size) (hR:w.heap.size<R) (hRl:R<W.heap.size)
  (b2:W.heap[R]?=some (.cells (machCells (.slice none 0 0) zeroM) 36 (0,0))) :
  w1.heap[R]?=some (.cells (machCells (.slice none 0 0) zeroM) 36 (0,0))∧(machPut w1 R (.slice (some ⟨fb,0,none⟩) (fs.length+1) cap) m1).heap[R]?=some (.cells (machCells (.slice (some ⟨fb,0,none⟩) (fs.length+1) cap) m1) 36 (0,0))∧
  MPost w F { m1 with frames:=fs++[f'] } (.returned (machV (.slice (some ⟨fb,0,none⟩) (fs.length+1) cap) m1)) (machPut w1 R (.slice (some ⟨fb,0,none⟩) (fs.length+1) cap) m1):=by
 have hRF:R∉w.heap.size::F:=fun e=>by
  rw [List.mem_cons] at e
  rcases e with e|e
  ·omega
  ·have:=hF _ e;omega
 have hRF2:=mods_notin hM hRl hRF
 have h1:w1.heap[R]?=some (.cells (machCells (.slice none 0 0) zeroM) 36 (0,0)):=by rw [hM.block R hRl hRF];exact b2
 obtain ⟨p1,p2⟩:=machPut_facts h1 (.slice (some ⟨fb,0,none⟩) (fs.length+1) cap) m1
 obtain ⟨fv,F0,q1,q2,q3,q4⟩:=machOwn_iff.1 ((hT.reframe (fs++[f'])).own rfl)
 have hfv:fv=.slice (some ⟨fb,0,none⟩) (fs.length+1) cap:=by
  have h1:=hT.mach
  rw [q1] at h1
  simp only [Option.some.injEq,Obj.cells.injEq,machCells] at h1
  have:=congrArg (fun a=>a[0]?) h1.1
  simpa using this
 subst hfv
 have hF0:F0=fb::(Fi++(Fl++Fs)):=by simpa using q3.symm
 refine ⟨h1,p1,_,F0,rfl,q2.keep (fun b hb=>p2.block b (q2.lt b hb) (fun e=>?_)),?_⟩
 ·rw [List.mem_singleton] at e
  exact hRF2 (by rw [←e,← hF0];exact List.mem_cons_of_mem _ hb)
 ·refine ⟨p2.os.trans (hM.os.trans hWb.os),p2.tape.trans (hM.tape.trans hWb.tape),p2.output.trans (hM.output.trans hWb.output),Nat.le_trans hWb.size (Nat.le_trans hM.size p2.size),fun k hk hkF=>?_,fun b hb=>?_⟩
  ·rw [p2.block k (Nat.lt_of_lt_of_le hk (Nat.le_trans hWb.size hM.size)) (by simp;omega),hM.block k (Nat.lt_of_lt_of_le hk hWb.size) (fun e=>by rw [List.mem_cons] at e;rcases e with e|e;omega;exact hkF e),hWb.block k hk]
  ·rcases hM.new b (List.mem_cons_of_mem _ (by rw [←hF0];exact hb)) with h|h
   ·rw [List.mem_cons] at h
    rcases h with h|h
    ·right;omega
    ·exact .inl h
   ·right;exact Nat.le_trans hWb.size h
theorem rended_any (a:Option Addr) (n c:Nat) (m:Mch) (r:Rq) (w:World) :
  Calls Tryz.prog 96 #[machV (.slice a n c) m,rqV r] w fun e w'=>e=.returned (machV (.slice none 0 0) { m with req:=r,frames:=[] })∧Below w.heap.size w w':=by
 obtain ⟨W,hW⟩:∃ W,W=((w.alloc (.cells (machCells (.slice a n c) m) 36)).alloc (.cells #[.int .i64 r.kind,.int .i64 r.node,.int .i64 r.field,.int .i64 r.value,.int .i64 r.fault] 34)).alloc (.cells (machCells (.slice none 0 0) zeroM) 36):=⟨_,rfl⟩
 have hWb:Hid (Below w.heap.size w W):=by rw [hW];exact ((below_alloc _ _).then (below_alloc _ _)).then (below_alloc _ _)
 have hsz:Hid (W.heap.size=w.heap.size+3):=by rw [hW];exact Lh (by simp)
 have b0:W.heap[w.heap.size]?=some (.cells (machCells (.slice a n c) m) 36 (0,0)):=by
  rw [hW,Below.heap_alloc _ _ _ (by simp;omega),Below.heap_alloc _ _ _ (by simp)]
  exact heap_alloc_new _ _
 have b1:Hid (Cells W (w.heap.size+1) [.int .i64 r.kind,.int .i64 r.node,.int .i64 r.field,.int .i64 r.value,.int .i64 r.fault]):=by
  rw [hW]
  have:=(@cells_new (w.alloc (.cells (machCells (.slice a n c) m) 36)) #[.int .i64 r.kind,.int .i64 r.node,.int .i64 r.field,.int .i64 r.value,.int .i64 r.fault] 34).alloc (.cells (machCells (.slice none 0 0) zeroM) 36)
  exact Lh (by simpa using this)
 have b2:W.heap[w.heap.size+1+1]?=some (.cells (machCells (.slice none 0 0) zeroM) 36 (0,0)):=by
  rw [hW]
  have:=heap_alloc_new ((w.alloc (.cells (machCells (.slice a n c) m) 36)).alloc (.cells #[.int .i64 r.kind,.int .i64 r.node,.int .i64 r.field,.int .i64 r.value,.int .i64 r.fault] 34)) (.cells (machCells (.slice none 0 0) zeroM) 36)
  simpa using this
 obtain ⟨w1,hw1⟩:∃ u,u=W.setCell ⟨w.heap.size,0,none⟩ (.slice none 0 0):=⟨_,rfl⟩
 have e0:=heap_setCell_same _ w.heap.size 0 _ _ (.slice none 0 0) b0
 rw [machCells_nil,← hw1] at e0
 obtain ⟨w2,hw2⟩:∃ u,u=reqPut w1 w.heap.size r:=⟨_,rfl⟩
 obtain ⟨e1,hM1⟩:=reqPut_facts e0 r
 rw [←hw2] at e1 hM1
 have hM0:Mods [w.heap.size] [w.heap.size] W w1:=by rw [hw1];exact mods_set
 have hM2:=hM0.trans hM1
 have b22:w2.heap[w.heap.size+1+1]?=some (.cells (machCells (.slice none 0 0) zeroM) 36 (0,0)):=by rw [hM2.block _ (by have:=hsz.out;omega) (by simp;omega)];exact b2
 obtain ⟨p1,p2⟩:=machPut_facts b22 (.slice none 0 0) { m with req:=r,frames:=[] }
 have HFIN:Hid (Below w.heap.size w (machPut w2 (w.heap.size+1+1) (.slice none 0 0) { m with req:=r,frames:=[] })):=Lh ((hWb.out.trans (hM2.below (fun b hb=>by simp at hb;omega) hWb.out.size)).trans (p2.below (fun b hb=>by simp at hb;omega) (by have h1:=hWb.out.size;have h2:=hM2.size;omega)))
 have P1:=Lh p1
 obtain ⟨c0,-⟩:=mach9 b0
 obtain ⟨f0,-⟩:=froz9 b0
 obtain ⟨-,d1,d2,d3,d4,d5,-⟩:=mach9 e0
 obtain ⟨-,g1,g2,g3,g4,g5,-⟩:=froz9 e0
 obtain ⟨k0,k1,k2,k3,k4,k5,k6,k7,k8⟩:=mach9 e1
 obtain ⟨r0,r1,r2,r3,r4,r5,r6,r7,r8⟩:=mach9 b22
 obtain ⟨q0,q1,q2,q3,q4,q5,q6,q7,q8⟩:=froz9 b22
 have i0:=hM0.cell (b1.out 0 _ rfl) (by simp)
 have i1:=hM0.cell (b1.out 1 _ rfl) (by simp)
 have i2:=hM0.cell (b1.out 2 _ rfl) (by simp)
 have i3:=hM0.cell (b1.out 3 _ rfl) (by simp)
 have i4:=hM0.cell (b1.out 4 _ rfl) (by simp)
 have z0:=(La b0)
 have z1:=(La e0)
 have z2:=(La b22)
 have HW1:=Lh hw1
 have HW2:=Lh hw2
 clear b0 b2 e0 e1 b22 hM0 hM1 hM2 p1 p2 hw1 hw2
 unfold machV rqV
 unfold machCells zeroM at hW
 unfold machCells
 dsimp only at hW ⊢
 go_enter Tryz.func96,Tryz.ntmps96
 go_upto_region 1 with fail
 rw [←hW]
 have HW:=Lh hW
 clear hW
 go_upto_region 2 with fail
 rw [←HW1.out]
 go_upto_region 3 with fail
 have e2:reqPut w1 w.heap.size r=w2:=HW2.out.symm
 unfold reqPut at e2
 rw [e2]
 have E2:=Lh e2
 clear e2
 go_wp2_with fail
 exact bodyPost_ret (v:=machV (.slice none 0 0) { m with req:=r,frames:=[] }) (results_mach1 (p:=4) rfl P1.out _ rfl) rfl ⟨rfl,HFIN.out⟩
theorem rfailed_any (a:Option Addr) (n c:Nat) (m:Mch) (er:Int) (w:World) :
  Calls Tryz.prog 70 #[machV (.slice a n c) m,.int .i64 er] w fun e w'=>e=.returned (machV (.slice none 0 0) { m with req:=failR er,frames:=[] })∧Below w.heap.size w w':=by
 obtain ⟨W,hW⟩:∃ W,W=(w.alloc (.cells (machCells (.slice a n c) m) 36)).alloc (.cells (machCells (.slice none 0 0) zeroM) 36):=⟨_,rfl⟩
 have hWb:Hid (Below w.heap.size w W):=by rw [hW];exact (below_alloc _ _).then (below_alloc _ _)
 have hsz:Hid (W.heap.size=w.heap.size+2):=by rw [hW];exact Lh (by simp)
 have b0:W.heap[w.heap.size]?=some (.cells (machCells (.slice a n c) m) 36 (0,0)):=by
  rw [hW,Below.heap_alloc _ _ _ (by simp)]
  exact heap_alloc_new _ _
 have b2:W.heap[w.heap.size+1]?=some (.cells (machCells (.slice none 0 0) zeroM) 36 (0,0)):=by
  rw [hW]
  have:=heap_alloc_new (w.alloc (.cells (machCells (.slice a n c) m) 36)) (.cells (machCells (.slice none 0 0) zeroM) 36)
  simpa using this
 obtain ⟨k0,k1,k2,k3,k4,k5,k6,k7,k8⟩:=mach9 b0
 have HB2:=Lh b2
 have HM:Hid (machV (.slice a n c) m=machV (.slice a n c) m):=Lh rfl
 clear b0 b2
 unfold machV
 unfold machCells zeroM at hW
 unfold machCells
 dsimp only at hW ⊢
 go_enter Tryz.func70,Tryz.ntmps70
 go_upto_region 1 with fail
 rw [←hW]
 have HW:=Lh hW
 clear hW
 go_wp2_with fail
 refine (rended_any a n c m (failR er) _).mono ?_
 rintro e w1 ⟨rfl,hb1⟩
 have b22:w1.heap[w.heap.size+1]?=some (.cells (machCells (.slice none 0 0) zeroM) 36 (0,0)):=by rw [hb1.block _ (by have:=hsz.out;omega)];exact HB2.out
 obtain ⟨p1,p2⟩:=machPut_facts b22 (.slice none 0 0) { m with req:=failR er,frames:=[] }
 have HFIN:Hid (Below w.heap.size w (machPut w1 (w.heap.size+1) (.slice none 0 0) { m with req:=failR er,frames:=[] })):=Lh ((hWb.out.then hb1).trans (p2.below (fun b hb=>by simp at hb;omega) (hWb.out.then hb1).size))
 have P1:=Lh p1
 obtain ⟨r0,r1,r2,r3,r4,r5,r6,r7,r8⟩:=mach9 b22
 obtain ⟨q0,q1,q2,q3,q4,q5,q6,q7,q8⟩:=froz9 b22
 have z2:=(La b22)
 clear b22 p1 p2 hb1 k0 k1 k2 k3 k4 k5 k6 k7 k8
 unfold machV machCells
 go_wp2_with fail
 exact bodyPost_ret (v:=machV (.slice none 0 0) { m with req:=failR er,frames:=[] }) (results_mach1 (p:=4) rfl P1.out _ rfl) rfl ⟨rfl,HFIN.out⟩
def compV (op a b:Int):Int:=if binE op a b=0 then binV op a b else 0
def CompIs (op a b:Int) (w:World) (e:Ending) (w':World):Prop:=e=.returned (.tuple #[.int .i64 (compV op a b),.int .i64 (binE op a b)])∧w=w'
theorem isVal_b2i (b:Bool):isVal (b2i b)=true:=by cases b<;>rfl
theorem rcomp_15 (a b:Int) (ha:isV a) (hb:isV b) (w:World):Calls Tryz.prog 103 #[.int .i64 15,.int .i64 a,.int .i64 b] w (CompIs 15 a b w):=by
 unfold isV at ha hb
 go_enter Tryz.func103,Tryz.ntmps103
 go_wp2_with fail
 refine (rvalue_any (a+b) _).mono ?_
 rintro e w1 ⟨rfl,rfl⟩
 cases hv:isVal (a+b)
 ·have hf:Hid (compV 15 a b=0∧binE 15 a b=5):=Lh (by simp [compV,binE,hv])
  clear hv
  go_wp2_with fail
  go_ret2
  exact ⟨by rw [hf.out.1,hf.out.2];rfl,rfl⟩
 ·have hf:Hid (compV 15 a b=a+b∧binE 15 a b=0):=Lh (by simp [compV,binE,binV,hv])
  clear hv
  go_wp2_with fail
  go_ret2
  exact ⟨by rw [hf.out.1,hf.out.2];rfl,rfl⟩
theorem rcomp_16 (a b:Int) (ha:isV a) (hb:isV b) (w:World):Calls Tryz.prog 103 #[.int .i64 16,.int .i64 a,.int .i64 b] w (CompIs 16 a b w):=by
 unfold isV at ha hb
 go_enter Tryz.func103,Tryz.ntmps103
 go_wp2_with fail
 refine (rvalue_any (a - b) _).mono ?_
 rintro e w1 ⟨rfl,rfl⟩
 cases hv:isVal (a - b)
 ·have hf:Hid (compV 16 a b=0∧binE 16 a b=5):=Lh (by simp [compV,binE,hv])
  clear hv
  go_wp2_with fail
  go_ret2
  exact ⟨by rw [hf.out.1,hf.out.2];rfl,rfl⟩
 ·have hf:Hid (compV 16 a b=a - b∧binE 16 a b=0):=Lh (by simp [compV,binE,binV,hv])
  clear hv
  go_wp2_with fail
  go_ret2
  exact ⟨by rw [hf.out.1,hf.out.2];rfl,rfl⟩
theorem rcomp_17 (a b:Int) (ha:isV a) (hb:isV b) (w:World):Calls Tryz.prog 103 #[.int .i64 17,.int .i64 a,.int .i64 b] w (CompIs 17 a b w):=by
 unfold isV at ha hb
 go_enter Tryz.func103,Tryz.ntmps103
 go_wp2_with fail
 refine (rproduct_any a b ha hb _).mono ?_
 rintro e w1 ⟨rfl,rfl⟩
 go_wp2_with fail
 refine (rvalue_any (prodV a b) _).mono ?_
 rintro e w1 ⟨rfl,rfl⟩
 by_cases hp:a.natAbs*b.natAbs≤1099511627776
 ·have h2:(a*b).natAbs=a.natAbs*b.natAbs:=Int.natAbs_mul a b
  have hv:isVal (a*b)=true:=isV_isVal.2 (by unfold isV;omega)
  have hq:prodV a b=a*b:=by unfold prodV;rw [if_pos hp]
  have hf:Hid (compV 17 a b=a*b∧binE 17 a b=0):=Lh (by simp [compV,binE,binV,hp])
  rw [hq,hv]
  clear hv hq h2 hp
  go_wp2_with fail
  go_ret2
  exact ⟨by rw [hf.out.1,hf.out.2];rfl,rfl⟩
 ·have hv:isVal (1099511627777)=false:=rfl
  have hq:prodV a b=1099511627777:=by unfold prodV;rw [if_neg hp]
  have hf:Hid (compV 17 a b=0∧binE 17 a b=5):=Lh (by simp [compV,binE,hp])
  rw [hq,hv]
  clear hv hq hp
  go_wp2_with fail
  go_ret2
  exact ⟨by rw [hf.out.1,hf.out.2];rfl,rfl⟩
theorem rcomp_18 (a b:Int) (ha:isV a) (hb:isV b) (w:World):Calls Tryz.prog 103 #[.int .i64 18,.int .i64 a,.int .i64 b] w (CompIs 18 a b w):=by
 unfold isV at ha hb
 by_cases hz:b=0
 ·have hz':(b == 0)=true:=by rw [hz];rfl
  have hf:Hid (compV 18 a b=0∧binE 18 a b=18):=Lh (by simp [compV,binE,hz])
  clear hz
  go_enter Tryz.func103,Tryz.ntmps103
  go_wp2_with fail
  go_ret2
  exact ⟨by rw [hf.out.1,hf.out.2];rfl,rfl⟩
 ·have hz':(b == 0)=false:=beq_eq_false_iff_ne.2 hz
  have hf:Hid (compV 18 a b=a.tdiv b∧binE 18 a b=0):=Lh (by simp [compV,binE,binV,hz])
  have hd:=tdm a b ha hb hz
  have h1:(a.tdiv b).natAbs≤a.natAbs:=by rw [Int.natAbs_tdiv];exact Nat.div_le_self _ _
  have h2:(a.tmod b).natAbs≤a.natAbs:=by rw [Int.natAbs_tmod];exact Nat.mod_le _ _
  have hv:Hid (isVal (a.tdiv b)=true):=Lh (isV_isVal.2 (by unfold isV;omega))
  clear h1 h2
  go_enter Tryz.func103,Tryz.ntmps103
  go_wp2_with fail
  try rw [hd.1]
  try rw [hd.2]
  refine (rvalue_any (a.tdiv b) _).mono ?_
  rintro e w1 ⟨rfl,rfl⟩
  rw [hv.out]
  go_wp2_with fail
  go_ret2
  exact ⟨by rw [hf.out.1,hf.out.2];rfl,rfl⟩
theorem rcomp_19 (a b:Int) (ha:isV a) (hb:isV b) (w:World):Calls Tryz.prog 103 #[.int .i64 19,.int .i64 a,.int .i64 b] w (CompIs 19 a b w):=by
 unfold isV at ha hb
 by_cases hz:b=0
 ·have hz':(b == 0)=true:=by rw [hz];rfl
  have hf:Hid (compV 19 a b=0∧binE 19 a b=18):=Lh (by simp [compV,binE,hz])
  clear hz
  go_enter Tryz.func103,Tryz.ntmps103
  go_wp2_with fail
  go_ret2
  exact ⟨by rw [hf.out.1,hf.out.2];rfl,rfl⟩
 ·have hz':(b == 0)=false:=beq_eq_false_iff_ne.2 hz
  have hf:Hid (compV 19 a b=a.tmod b∧binE 19 a b=0):=Lh (by simp [compV,binE,binV,hz])
  have hd:=tdm a b ha hb hz
  have h1:(a.tdiv b).natAbs≤a.natAbs:=by rw [Int.natAbs_tdiv];exact Nat.div_le_self _ _
  have h2:(a.tmod b).natAbs≤a.natAbs:=by rw [Int.natAbs_tmod];exact Nat.mod_le _ _
  have hv:Hid (isVal (a.tmod b)=true):=Lh (isV_isVal.2 (by unfold isV;omega))
  clear h1 h2
  go_enter Tryz.func103,Tryz.ntmps103
  go_wp2_with fail
  try rw [hd.1]
  try rw [hd.2]
  refine (rvalue_any (a.tmod b) _).mono ?_
  rintro e w1 ⟨rfl,rfl⟩
  rw [hv.out]
  go_wp2_with fail
  go_ret2
  exact ⟨by rw [hf.out.1,hf.out.2];rfl,rfl⟩
theorem rcomp_20 (a b:Int) (ha:isV a) (hb:isV b) (w:World):Calls Tryz.prog 103 #[.int .i64 20,.int .i64 a,.int .i64 b] w (CompIs 20 a b w):=by
 unfold isV at ha hb
 have hf:Hid (compV 20 a b=b2i (a == b)∧binE 20 a b=0):=Lh (by simp [compV,binE,binV])
 have hv:Hid (isVal (b2i (a == b))=true):=Lh (by first|exact isVal_b2i _|exact isV_isVal.2 (by unfold isV;omega))
 go_enter Tryz.func103,Tryz.ntmps103
 go_wp2_with fail
 refine (rone_any (a == b) _).mono ?_
 rintro e w1 ⟨rfl,rfl⟩
 go_wp2_with fail
 refine (rvalue_any (b2i (a == b)) _).mono ?_
 rintro e w1 ⟨rfl,rfl⟩
 rw [hv.out]
 go_wp2_with fail
 go_ret2
 exact ⟨by rw [hf.out.1,hf.out.2];rfl,rfl⟩
theorem rcomp_24 (a b:Int) (ha:isV a) (hb:isV b) (w:World):Calls Tryz.prog 103 #[.int .i64 24,.int .i64 a,.int .i64 b] w (CompIs 24 a b w):=by
 unfold isV at ha hb
 have hf:Hid (compV 24 a b=b2i (a == b)∧binE 24 a b=0):=Lh (by simp [compV,binE,binV])
 have hv:Hid (isVal (b2i (a == b))=true):=Lh (by first|exact isVal_b2i _|exact isV_isVal.2 (by unfold isV;omega))
 go_enter Tryz.func103,Tryz.ntmps103
 go_wp2_with fail
 refine (rone_any (a == b) _).mono ?_
 rintro e w1 ⟨rfl,rfl⟩
 go_wp2_with fail
 refine (rvalue_any (b2i (a == b)) _).mono ?_
 rintro e w1 ⟨rfl,rfl⟩
 rw [hv.out]
 go_wp2_with fail
 go_ret2
 exact ⟨by rw [hf.out.1,hf.out.2];rfl,rfl⟩
theorem rcomp_21 (a b:Int) (ha:isV a) (hb:isV b) (w:World):Calls Tryz.prog 103 #[.int .i64 21,.int .i64 a,.int .i64 b] w (CompIs 21 a b w):=by
 unfold isV at ha hb
 have hf:Hid (compV 21 a b=b2i (a != b)∧binE 21 a b=0):=Lh (by simp [compV,binE,binV])
 have hv:Hid (isVal (b2i (a != b))=true):=Lh (by first|exact isVal_b2i _|exact isV_isVal.2 (by unfold isV;omega))
 go_enter Tryz.func103,Tryz.ntmps103
 go_wp2_with fail
 refine (rone_any (a != b) _).mono ?_
 rintro e w1 ⟨rfl,rfl⟩
 go_wp2_with fail
 refine (rvalue_any (b2i (a != b)) _).mono ?_
 rintro e w1 ⟨rfl,rfl⟩
 rw [hv.out]
 go_wp2_with fail
 go_ret2
 exact ⟨by rw [hf.out.1,hf.out.2];rfl,rfl⟩
theorem rcomp_25 (a b:Int) (ha:isV a) (hb:isV b) (w:World):Calls Tryz.prog 103 #[.int .i64 25,.int .i64 a,.int .i64 b] w (CompIs 25 a b w):=by
 unfold isV at ha hb
 have hf:Hid (compV 25 a b=b2i (a != b)∧binE 25 a b=0):=Lh (by simp [compV,binE,binV])
 have hv:Hid (isVal (b2i (a != b))=true):=Lh (by first|exact isVal_b2i _|exact isV_isVal.2 (by unfold isV;omega))
 go_enter Tryz.func103,Tryz.ntmps103
 go_wp2_with fail
 refine (rone_any (a != b) _).mono ?_
 rintro e w1 ⟨rfl,rfl⟩
 go_wp2_with fail
 refine (rvalue_any (b2i (a != b)) _).mono ?_
 rintro e w1 ⟨rfl,rfl⟩
 rw [hv.out]
 go_wp2_with fail
 go_ret2
 exact ⟨by rw [hf.out.1,hf.out.2];rfl,rfl⟩
theorem rcomp_22 (a b:Int) (ha:isV a) (hb:isV b) (w:World):Calls Tryz.prog 103 #[.int .i64 22,.int .i64 a,.int .i64 b] w (CompIs 22 a b w):=by
 unfold isV at ha hb
 have hf:Hid (compV 22 a b=b2i (decide (a<b))∧binE 22 a b=0):=Lh (by simp [compV,binE,binV])
 have hv:Hid (isVal (b2i (decide (a<b)))=true):=Lh (by first|exact isVal_b2i _|exact isV_isVal.2 (by unfold isV;omega))
 go_enter Tryz.func103,Tryz.ntmps103
 go_wp2_with fail
 refine (rone_any (decide (a<b)) _).mono ?_
 rintro e w1 ⟨rfl,rfl⟩
 go_wp2_with fail
 refine (rvalue_any (b2i (decide (a<b))) _).mono ?_
 rintro e w1 ⟨rfl,rfl⟩
 rw [hv.out]
 go_wp2_with fail
 go_ret2
 exact ⟨by rw [hf.out.1,hf.out.2];rfl,rfl⟩
theorem rcomp_23 (a b:Int) (ha:isV a) (hb:isV b) (w:World):Calls Tryz.prog 103 #[.int .i64 23,.int .i64 a,.int .i64 b] w (CompIs 23 a b w):=by
 unfold isV at ha hb
 have hf:Hid (compV 23 a b=b2i (decide (a≤b))∧binE 23 a b=0):=Lh (by simp [compV,binE,binV])
 have hv:Hid (isVal (b2i (decide (a≤b)))=true):=Lh (by first|exact isVal_b2i _|exact isV_isVal.2 (by unfold isV;omega))
 go_enter Tryz.func103,Tryz.ntmps103
 go_wp2_with fail
 refine (rone_any (decide (a≤b)) _).mono ?_
 rintro e w1 ⟨rfl,rfl⟩
 go_wp2_with fail
 refine (rvalue_any (b2i (decide (a≤b))) _).mono ?_
 rintro e w1 ⟨rfl,rfl⟩
 rw [hv.out]
 go_wp2_with fail
 go_ret2
 exact ⟨by rw [hf.out.1,hf.out.2];rfl,rfl⟩
theorem rcomp_27 (a b:Int) (ha:isV a) (hb:isV b) (w:World):Calls Tryz.prog 103 #[.int .i64 27,.int .i64 a,.int .i64 b] w (CompIs 27 a b w):=by
 unfold isV at ha hb
 have hf:Hid (compV 27 a b=max a b∧binE 27 a b=0):=Lh (by simp [compV,binE,binV])
 have hv:Hid (isVal (max a b)=true):=Lh (by first|exact isVal_b2i _|exact isV_isVal.2 (by unfold isV;omega))
 go_enter Tryz.func103,Tryz.ntmps103
 go_wp2_with fail
 refine (rvalue_any (max a b) _).mono ?_
 rintro e w1 ⟨rfl,rfl⟩
 rw [hv.out]
 go_wp2_with fail
 go_ret2
 exact ⟨by rw [hf.out.1,hf.out.2];rfl,rfl⟩
theorem rcomp_28 (a b:Int) (ha:isV a) (hb:isV b) (w:World):Calls Tryz.prog 103 #[.int .i64 28,.int .i64 a,.int .i64 b] w (CompIs 28 a b w):=by
 unfold isV at ha hb
 have hf:Hid (compV 28 a b=min a b∧binE 28 a b=0):=Lh (by simp [compV,binE,binV])
 have hv:Hid (isVal (min a b)=true):=Lh (by first|exact isVal_b2i _|exact isV_isVal.2 (by unfold isV;omega))
 go_enter Tryz.func103,Tryz.ntmps103
 go_wp2_with fail
 refine (rvalue_any (min a b) _).mono ?_
 rintro e w1 ⟨rfl,rfl⟩
 rw [hv.out]
 go_wp2_with fail
 go_ret2
 exact ⟨by rw [hf.out.1,hf.out.2];rfl,rfl⟩
theorem rcomp_any (op a b:Int) (h:isTwo op) (ha:isV a) (hb:isV b) (w:World):Calls Tryz.prog 103 #[.int .i64 op,.int .i64 a,.int .i64 b] w (CompIs op a b w):=by
 have hc:op=15∨op=16∨op=17∨op=18∨op=19∨op=20∨op=21∨op=22∨op=23∨op=24∨op=25∨op=27∨op=28:=by unfold isTwo at h;omega
 rcases hc with rfl|rfl|rfl|rfl|rfl|rfl|rfl|rfl|rfl|rfl|rfl|rfl|rfl
 ·exact rcomp_15 a b ha hb w
 ·exact rcomp_16 a b ha hb w
 ·exact rcomp_17 a b ha hb w
 ·exact rcomp_18 a b ha hb w
 ·exact rcomp_19 a b ha hb w
 ·exact rcomp_20 a b ha hb w
 ·exact rcomp_21 a b ha hb w
 ·exact rcomp_22 a b ha hb w
 ·exact rcomp_23 a b ha hb w
 ·exact rcomp_24 a b ha hb w
 ·exact rcomp_25 a b ha hb w
 ·exact rcomp_27 a b ha hb w
 ·exact rcomp_28 a b ha hb w
theorem bitAux_succ:∀ (f x:Nat),x<2 ^ f→Lib.bitLenAux (f+1) x=Lib.bitLenAux f x
 | 0,x,h=>by
  have:x=0:=by simpa using h
  subst this;rfl
 | f+1,x,h=>by
  have ih:=bitAux_succ f (x / 2) (by rw [Nat.pow_succ] at h;omega)
  show (if x=0 then 0 else 1+Lib.bitLenAux (f+1) (x / 2))=(if x=0 then 0 else 1+Lib.bitLenAux f (x / 2))
  rw [ih]
theorem bitLen_half {x:Nat} (h2:2≤x) (h:x<2 ^ 64):Lib.bitLen x=Lib.bitLen (x / 2)+1:=by
 have h1:Lib.bitLenAux 64 (x / 2)=Lib.bitLenAux 63 (x / 2):=bitAux_succ 63 (x / 2) (by omega)
 have h3:Lib.bitLenAux 64 x=1+Lib.bitLenAux 63 (x / 2):=by
  show (if x=0 then 0 else 1+Lib.bitLenAux 63 (x / 2))=_
  rw [if_neg (by omega)]
 show Lib.bitLenAux 64 x=Lib.bitLenAux 64 (x / 2)+1
 rw [h1,h3,Nat.add_comm]
theorem rlog2_any (v:Int) (hv:isV v) (w:World):Calls Tryz.prog 134 #[.int .i64 v] w fun e w'=>e=.returned (.int .i64 (log2V v))∧w=w':=by
 have hvv:=hv
 unfold isV at hv
 go_enter Tryz.func134,Tryz.ntmps134
 go_wp2_with fail
 go_loop [0,3] (fun x k=>∃ y j:Int,x=.int .i64 y∧k=.int .i64 j∧0≤j∧j≤64∧-1099511627776≤y∧y≤1099511627776∧Hid (log2V y+j=log2V v)) (fun x k=>(intOf x).toNat)
 case atStart=>exact ⟨v,0,rfl,rfl,by omega,by omega,by omega,by omega,Lh (by omega)⟩
 case round=>
  obtain ⟨y,j,rfl,rfl,hj0,hj1,hy0,hy1,hl⟩:=hrel
  by_cases hgt:1<y
  ·have hd:y.tdiv 2=y / 2:=by rw [Int.tdiv_eq_ediv_of_nonneg (by omega)]
   have hh:log2V y=log2V (y / 2)+1:=by
    unfold log2V
    have e1:(max 1 y).toNat=y.toNat:=by omega
    have e2:(max 1 (y / 2)).toNat=y.toNat / 2:=by omega
    rw [e1,e2,bitLen_half (x:=y.toNat) (by omega) (by omega)]
    omega
   have hl2:Hid (log2V (y / 2)+(j+1)=log2V v):=Lh (by have:=hl.out;omega)
   have hj2:j+1≤64:=by
    have h1:=hl2.out
    have h2:log2V v≤63:=by unfold log2V Lib.bitLen;have:=bitLenAux_le 64 (max 1 v).toNat;omega
    have h3:0≤log2V (y / 2):=by
     unfold log2V
     have:1≤Lib.bitLen (max 1 (y / 2)).toNat:=by
      unfold Lib.bitLen Lib.bitLenAux
      rw [if_neg (by omega)];omega
     omega
    omega
   clear hh
   go_wp2_with (rw [hd])
   go_round
   ·exact ⟨y / 2,j+1,by go_num,by go_num,by omega,by omega,by omega,by omega,hl2⟩
   ·show (y / 2).toNat<y.toNat
    omega
  ·have hy:log2V y=0:=by
    unfold log2V
    have e1:(max 1 y).toNat=1:=by omega
    rw [e1];rfl
   have hfin:=hl.out
   rw [hy] at hfin
   have HF:=Lh hfin
   clear hfin hy
   go_wp2_with fail
   go_ret
   exact ⟨by rw [←HF.out];simp,rfl⟩
end Go.Proofs.YtbmeoklmachjpaaGreatDoor
