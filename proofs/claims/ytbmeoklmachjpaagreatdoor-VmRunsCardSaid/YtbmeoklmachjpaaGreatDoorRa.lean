/- Contracts of the reference's functions on numbers: ref15.value, one, two, compares, asks, product, Compute; ref14.below, one; ref13.Log2. Contracts of the reference's push and pop: the last frame's stack of a machine that is passed by value. A machine that a function of the reference returns. Contracts of the reference's ended and failed. Contracts of the reference's Compute and Log2. MADE BY wip/gen_rk.py -/
import Derived.Test.YtbmeoklmachjpaaGreatDoorPst3
import Derived.Deep.AppendLies
import Derived.Deep.RegionLaw
import Derived.Outline
set_option maxHeartbeats 1000000
set_option maxRecDepth 100000
set_option linter.unusedVariables false
set_option linter.unusedSimpArgs false
namespace Go.Proofs.YtbmeoklmachjpaaGreatDoor
open Go.RowKit
theorem Ys (n:Int) (w:World):Calls Tryz.prog 42 #[.int .i64 n] w fun e w'=>e=.returned (.bool (X1 n))∧w=w':=by
 go_enter Tryz.func42,Tryz.ntmps42
 go_wp2
 all_goals (go_ret;exact ⟨by unfold X1;congr 2;simp;omega,rfl⟩)
theorem Kp (b:Bool) (w:World):Calls Tryz.prog 104 #[.bool b] w fun e w'=>e=.returned (.int .i64 (b2i b))∧w=w':=by
 cases b
 all_goals
  go_enter Tryz.func104,Tryz.ntmps104
  go_wp2
  go_ret
  exact ⟨rfl,rfl⟩
theorem Xq7 (b:Bool) (w:World):Calls Tryz.prog 106 #[.bool b] w fun e w'=>e=.returned (.int .i64 (b2i b))∧w=w':=by
 cases b
 all_goals
  go_enter Tryz.func106,Tryz.ntmps106
  go_wp2
  go_ret
  exact ⟨rfl,rfl⟩
theorem Xdy (op:Int) (w:World):Calls Tryz.prog 100 #[.int .i64 op] w fun e w'=>e=.returned (.bool (decide (Ya op)))∧w=w':=by
 go_enter Tryz.func100,Tryz.ntmps100
 go_wp2
 all_goals (go_ret;exact ⟨Za (by rw [Bool.eq_iff_iff];simp only [Bool.or_eq_true,Bool.and_eq_true,decide_eq_true_eq,beq_iff_eq,eq_self,true_iff];unfold Ya;omega),rfl⟩)
theorem Xen (op:Int) (w:World):Calls Tryz.prog 105 #[.int .i64 op] w fun e w'=>e=.returned (.bool (decide (20≤op∧op≤23)))∧w=w':=by
 go_enter Tryz.func105,Tryz.ntmps105
 go_wp2
 all_goals (go_ret;exact ⟨Za (by simp;try omega),rfl⟩)
def Kx (op:Int):Bool:=decide (4≤op∧op≤8)
theorem J7 (op:Int) (w:World):Calls Tryz.prog 74 #[.int .i64 op] w fun e w'=>e=.returned (.bool (Kx op))∧w=w':=by
 go_enter Tryz.func74,Tryz.ntmps74
 go_wp2
 all_goals (go_ret;exact ⟨Za (by rw [Bool.eq_iff_iff];unfold Kx;simp only [Bool.or_eq_true,Bool.and_eq_true,decide_eq_true_eq,beq_iff_eq,eq_self,true_iff];omega),rfl⟩)
/-- a product of values, or a number that is none -/
def Uh (a b:Int):Int:=if a.natAbs*b.natAbs≤1099511627776 then a*b else 1099511627777
theorem Xcb {a b:Int} (hb:1≤b.natAbs):((1099511627776 / b.natAbs<a.natAbs)↔¬a.natAbs*b.natAbs≤1099511627776):=by
 rw [Nat.div_lt_iff_lt_mul (by omega)];omega
theorem Xkj (b:Int):(1099511627776:Int) / max b (-b)=((1099511627776 / b.natAbs:Nat):Int):=by
 rw [Vk,Int.natCast_ediv];rfl
theorem Xp1 {a b:Int} (hb:1≤b.natAbs) (h:1099511627776 / max b (-b)<max a (-a)):Uh a b=1099511627777:=by
 rw [Xkj,Vk] at h
 unfold Uh
 rw [if_neg ((Xcb hb).1 (by omega))]
theorem Xor {a b:Int} (hb:1≤b.natAbs) (h:max a (-a)≤1099511627776 / max b (-b)):Uh a b=a*b∧-9223372036854775808≤a*b∧a*b≤9223372036854775807:=by
 rw [Xkj,Vk] at h
 have h2:a.natAbs*b.natAbs≤1099511627776:=by
  apply Decidable.byContradiction
  intro hn
  have:=(Xcb hb).2 hn
  omega
 have h3:(a*b).natAbs=a.natAbs*b.natAbs:=Int.natAbs_mul a b
 exact ⟨by unfold Uh;rw [if_pos h2],by omega,by omega⟩
theorem Xfx (a b:Int) (ha:-1099511627776≤a∧a≤1099511627776) (hb:-1099511627776≤b∧b≤1099511627776) (w:World):Calls Tryz.prog 135 #[.int .i64 a,.int .i64 b] w fun e w'=>e=.returned (.int .i64 (Uh a b))∧w=w':=by
 by_cases ha0:a=0
 ·have hf:Hid (Uh a b=0):=Lh (by unfold Uh;rw [ha0];simp)
  have e1:(a == 0)=true:=by simpa using ha0
  clear ha0
  go_enter Tryz.func135,Tryz.ntmps135
  go_wp2_with fail
  go_ret
  exact ⟨by rw [hf.out];rfl,rfl⟩
 have e1:(a == 0)=false:=by simpa using ha0
 by_cases hb0:b=0
 ·have hf:Hid (Uh a b=0):=Lh (by unfold Uh;rw [hb0];simp)
  have e2:(b == 0)=true:=by simpa using hb0
  clear hb0 ha0
  go_enter Tryz.func135,Tryz.ntmps135
  go_wp2_with fail
  go_ret
  exact ⟨by rw [hf.out];rfl,rfl⟩
 have e2:(b == 0)=false:=by simpa using hb0
 have hm1:1≤max b (0 - b):=by omega
 have hm2:max b (0 - b)≤1099511627776:=by omega
 clear ha0 hb0
 go_enter Tryz.func135,Tryz.ntmps135
 go_wp2_with fail
 ·have hf:=Xp1 (a:=a) (b:=b) (by have:=hm1;omega) (by assumption)
  go_ret
  exact ⟨by rw [hf];rfl,rfl⟩
 ·obtain ⟨hf,h1,h2⟩:=Xor (a:=a) (b:=b) (by have:=hm1;omega) (by assumption)
  go_ret
  exact ⟨by rw [hf];exact Qd (IntWalk.wrap64_in _ ⟨h1,h2⟩),rfl⟩
theorem Xna {w WA w5:World} {bm fb cap:Nat} {cur:Array Value} {cs:List Value} {fs:List Fra} {f:Fra} {lv sv:Value} {m:Mch} {Fi Fl Fs:List Nat} (H:Xk w bm fb cap cur cs fs f lv sv m Fi Fl Fs) (hb:Below w.heap.size w WA) {o:Obj} {n:Int} {g2 cap2:Nat} (h64:in64 n)
  (hO:w5.ownsRow 0 3 1 (.slice (some ⟨g2,0,none⟩) (f.stack.length+1) cap2) (f.stack.length+1) (f.stack.map (Value.int .i64)++[.int .i64 n])) (hg:((WA.alloc o).drew).grownBy w5 sv.ownBlock) (hl:sv.ownBlock=some g2∨g2=((WA.alloc o).drew).heap.size) :
  Yz w bm fb cap cs fs { f with stack:=f.stack++[n] } lv m Fi Fl (bm::fb::(Fi++(Fl++Fs))) (w5.setCell ⟨fb,fs.length*4+3,none⟩ (.slice (some ⟨g2,0,none⟩) (f.stack.length+1) cap2)):=by
 have hFs:Fs=sv.ownBlock.toList:=H.stk.2.1
 have hbB:Below w.heap.size w ((WA.alloc o).drew):=hb.trans (((Below.refl _ _).alloc hb.size _).trans (Xh (Below.refl _ _) 1))
 have hlt:=H.lt
 have hM5:Xp Fs [g2] ((WA.alloc o).drew) w5:=by
  rw [hFs]
  have:=U3 (v:=sv) (v':=.slice (some ⟨g2,0,none⟩) (f.stack.length+1) cap2) (g:=g2) hg rfl (by rcases hl with h|h;exact .inl h;right;omega)
  simpa [Value.ownBlock] using this
 have hblk:∀ b∈bm::fb::(Fi++Fl),w5.heap[b]?=w.heap[b]?:=fun b hb'=>by
  have hb2:b∈bm::fb::(Fi++(Fl++Fs)):=by simp at hb' ⊢;rcases hb' with hb|hb|hb|hb<;>simp [hb]
  have hbn:b∉Fs:=fun e=>by
   have e1:bm::fb::(Fi++(Fl++Fs))=(bm::fb::(Fi++Fl))++Fs:=by simp
   have:=H.nodup
   rw [e1,List.nodup_append] at this
   exact this.2.2 b hb' b e rfl
  rw [hM5.block b (Nat.lt_of_lt_of_le (hlt b hb2) hbB.size) hbn,hbB.block b (hlt b hb2)]
 have hIn:Yv w5 (.slice (some ⟨g2,0,none⟩) (f.stack.length+1) cap2) (f.stack++[n]) [g2]:=⟨by simpa using hO,rfl,fun x hx=>by
  simp at hx
  rcases hx with hx|rfl
  ·exact H.stk.2.2 x hx
  ·exact h64⟩
 refine Xfu H (hblk bm (by simp)) (hblk fb (by simp)) (fun b hb=>hblk b (by simp at hb ⊢;rcases hb with hb|hb<;>simp [hb])) hIn (Xdw H.nodup hlt ⟨g2,rfl,?_⟩) ((Xp.of_below hbB).trans (hM5.wide (fun b hb=>by simp [hb]) (fun b hb=>?_)))
 ·rcases hl with h|h
  ·left;rw [hFs,h];rfl
  ·right;have:=hbB.size;omega
 ·simp only [List.mem_cons,List.mem_append,List.not_mem_nil,or_false] at hb ⊢
  rcases hb with hb|hb|hb|hb|hb<;>simp [hb]
theorem Qm {w:World} {bm fb cap:Nat} {cur:Array Value} {cs:List Value} {fs:List Fra} {f:Fra} {lv sv:Value} {m:Mch} {Fi Fl Fs:List Nat} (m':Mch) (h:Xk w bm fb cap cur cs fs f lv sv m Fi Fl Fs) (hn:fs.length≤200) (n:Int) (h64:in64 n) (hst:f.stack.length<1000000) :
  Calls Tryz.prog 84 #[Xi (.slice (some ⟨fb,0,none⟩) (fs.length+1) cap) m',.int .i64 n] w fun e w'=>e=.returned (.tuple #[])∧Yz w bm fb cap cs fs { f with stack:=f.stack++[n] } lv m Fi Fl (bm::fb::(Fi++(Fl++Fs))) w':=by
 have H:=Lh h
 have hFs:Fs=sv.ownBlock.toList:=h.stk.2.1
 have hne:=h.ne
 have hlt:=h.lt
 have hfb:=h.lt fb (by simp)
 have hfbn:¬some fb=sv.ownBlock:=fun e=>(hne.2 fb (by rw [hFs,← e];simp)).2 rfl
 have hbxn:¬some w.heap.size=sv.ownBlock:=fun e=>by
  have:=hlt w.heap.size (by rw [hFs,← e];simp)
  omega
 obtain ⟨ti,hti,hz0,hz1,hz2⟩:=info_parts Uc
 obtain ⟨WA,hWA⟩:∃ W,W=w.alloc (.cells (Xb (.slice (some ⟨fb,0,none⟩) (fs.length+1) cap) m') 36):=⟨_,rfl⟩
 have hb:Below w.heap.size w WA:=by rw [hWA];exact Xa _ _
 have hsz:w.heap.size<WA.heap.size:=by rw [hWA];simp
 have k0:WA.cell? ⟨w.heap.size,0,none⟩=some (.slice (some ⟨fb,0,none⟩) (fs.length+1) cap):=by rw [hWA];exact Xd 0 _ rfl
 have hA:=h.keep hb
 have c3:=hA.cSv
 have f3:=hA.frf (fs.length*4+3)
 have hfbA:fb<WA.heap.size:=by omega
 have hrow:=Lh hA.stk.1
 have HA:=Lh hA
 have HB:=Lh hb
 have H64:=Lh h64
 have hcapl:=h.capl
 have hnl:(fs.length:Int)≤200:=by omega
 have hix:(fs.length:Int)<(fs.length:Int)+1:=by omega
 clear h hA hb h64 hne hlt hFs
 unfold Xi
 unfold Xb at hWA ⊢
 go_enter Tryz.func84,Tryz.ntmps84
 go_upto_region 1 with fail
 rw [←hWA]
 have HWA:=Lh hWA
 clear hWA
 go_upto_region 2 with fail
 go_region_law (refine step_append_lies _ rfl (.tmp 17) (.tmp 19) 22 rfl 0 3 ti (.int .i64 0) 1 8 Tryz.underlying22 hti hz0 hz1 hz2 rfl (by decide) sv f.stack.length (f.stack.map (Value.int .i64)) rfl ((hrow.out.alloc _).drew) ⟨WA.heap.size,0,none⟩ 1 1 [.int .i64 n] rfl rfl (Xft WA _ _) (by simp [Value.oneCell']) (by omega) (by unfold maxLen;omega) (by omega) (Nat.zero_le _) _ rfl ?_;intro g2 cap2 w5 hown5 hg5 hlies hg2lt;have Hown5:=Lh hown5;have Hg5:=Lh hg5;have k05:=(World.grownBy.cell hg5 (show ((WA.alloc (.cells #[.int .i64 n] 3)).drew).cell? ⟨w.heap.size,0,none⟩=_ from Xc (Xa _ _) k0) hbxn);have c35:=(World.grownBy.cell hg5 (show ((WA.alloc (.cells #[.int .i64 n] 3)).drew).cell? ⟨fb,fs.length*4+3,none⟩=_ from Xc (Xa _ _) c3) hfbn);have f35:w5.frozen? ⟨fb,fs.length*4+3,none⟩=false:=(by rw [World.frozen?_of_block (w:=WA) (a:=⟨fb,fs.length*4+3,none⟩) (by rw [hg5.block fb (by simp;omega) hfbn];exact Below.heap_alloc _ _ _ hfbA)];exact f3);clear hown5 hg5)
 all_goals go_end0
 all_goals exact ⟨rfl,Xna H.out HB.out H64.out Hown5.out Hg5.out hlies⟩
theorem Yu {w:World} {bm fb cap:Nat} {cur:Array Value} {cs:List Value} {fs:List Fra} {f:Fra} {lv sv:Value} {m:Mch} {Fi Fl Fs:List Nat} (m':Mch) (h:Xk w bm fb cap cur cs fs f lv sv m Fi Fl Fs) (hn:fs.length≤200) (l:List Int) (n:Int) (hst:f.stack=l++[n]) :
  Calls Tryz.prog 102 #[Xi (.slice (some ⟨fb,0,none⟩) (fs.length+1) cap) m'] w fun e w'=>e=.returned (.int .i64 n)∧Yz w bm fb cap cs fs { f with stack:=l } lv m Fi Fl (bm::fb::(Fi++(Fl++Fs))) w':=by
 have hown:=h.stk
 rw [hst] at hown
 obtain ⟨sb,scap,scur,rfl,rfl,hsb,hl1,hl2,hcell,hown',hn64⟩:=hown.last
 have H:=Lh h
 have HO:=Lh hown'
 have hne:=h.ne
 have hsn:=(hne.2 sb (by simp)).2
 obtain ⟨WA,hWA⟩:∃ W,W=w.alloc (.cells (Xb (.slice (some ⟨fb,0,none⟩) (fs.length+1) cap) m') 36):=⟨_,rfl⟩
 have hb:Below w.heap.size w WA:=by rw [hWA];exact Xa _ _
 have hfb:=h.lt fb (by simp)
 have hsz:w.heap.size<WA.heap.size:=by rw [hWA];simp
 have k0:WA.cell? ⟨w.heap.size,0,none⟩=some (.slice (some ⟨fb,0,none⟩) (fs.length+1) cap):=by rw [hWA];exact Xd 0 _ rfl
 have hA:=h.keep hb
 have c3:=hA.cSv
 have f3:=hA.frf (fs.length*4+3)
 have hfbA:fb<WA.heap.size:=by omega
 have cc:=Xc hb hcell
 have HA:=Lh hA
 have HB:=Lh hb
 have hcapl:=h.capl
 have hnl:(fs.length:Int)≤200:=by omega
 have hix:(fs.length:Int)<(fs.length:Int)+1:=by omega
 clear h hA hb hne hst hown hown' hcell hsb
 unfold Xi
 unfold Xb at hWA ⊢
 go_enter Tryz.func102,Tryz.ntmps102
 go_upto_region 1 with fail
 rw [←hWA]
 have HWA:=Lh hWA
 clear hWA
 go_upto_region 3 with fail
 go_region
 go_wp2_with fail
 go_ret
 have hbD:Below w.heap.size w (WA.drew):=Xh HB.out _
 refine ⟨rfl,Xfu H.out (hbD.block bm (H.out.lt bm (by simp))) (hbD.block fb (H.out.lt fb (by simp))) (fun b hb=>hbD.block b (H.out.lt b (by simp at hb ⊢;rcases hb with hb|hb<;>simp [hb]))) (HO.out.keep (fun b hb=>hbD.block b (HO.out.lt b hb))) H.out.nodup (Xp.of_below hbD)⟩
/-- a machine m' is returned whose frames lie in blocks of F or new ones -/
def Qh (w:World) (F:List Nat) (m':Mch) (e:Ending) (w':World):Prop:=∃ fv F',e=.returned (Xi fv m')∧Z9 w' fv m'.frames F'∧Xp F F' w w'
theorem Xq {W:World} {R:Nat} {fv:Value} {m:Mch} (h:W.heap[R]?=some (.cells (Xb fv m) 36 (0,0))) :
  W.cell? ⟨R,0,none⟩=some fv∧W.cell? ⟨R,1,none⟩=some (.int .i64 m.req.kind)∧W.cell? ⟨R,2,none⟩=some (.int .i64 m.req.node)∧W.cell? ⟨R,3,none⟩=some (.int .i64 m.req.field)∧W.cell? ⟨R,4,none⟩=some (.int .i64 m.req.value)∧W.cell? ⟨R,5,none⟩=some (.int .i64 m.req.fault)∧W.cell? ⟨R,6,none⟩=some (.int .i64 m.fuel)∧W.cell? ⟨R,7,none⟩=some (.int .i64 m.compares)∧W.cell? ⟨R,8,none⟩=some (.int .i64 m.idle):=
 ⟨Xe h 0 _ rfl,Xe h 1 _ rfl,Xe h 2 _ rfl,Xe h 3 _ rfl,Xe h 4 _ rfl,Xe h 5 _ rfl,Xe h 6 _ rfl,Xe h 7 _ rfl,Xe h 8 _ rfl⟩
theorem Xu {W:World} {R:Nat} {c:Array Value} {T:TypeId} (h:W.heap[R]?=some (.cells c T (0,0))) :
  W.frozen? ⟨R,0,none⟩=false∧W.frozen? ⟨R,1,none⟩=false∧W.frozen? ⟨R,2,none⟩=false∧W.frozen? ⟨R,3,none⟩=false∧W.frozen? ⟨R,4,none⟩=false∧W.frozen? ⟨R,5,none⟩=false∧W.frozen? ⟨R,6,none⟩=false∧W.frozen? ⟨R,7,none⟩=false∧W.frozen? ⟨R,8,none⟩=false:=
 ⟨Fz h,Fz h,Fz h,Fz h,Fz h,Fz h,Fz h,Fz h,Fz h⟩
/-- frames of their own, the last one apart -/
theorem Z9.top {w:World} {fv:Value} {m:Mch} {F:List Nat} {fs:List Fra} {f:Fra} (h:Z9 w fv m.frames F) (hm:m.frames=fs++[f]) :
  ∃ fb cap cur cs lv sv Fi Fl Fs,fv=.slice (some ⟨fb,0,none⟩) (fs.length+1) cap∧F=fb::(Fi++(Fl++Fs))∧∀ (W:World) (bm:Nat) (m1:Mch),Below w.heap.size w W→W.heap[bm]?=some (.cells (Xb (.slice (some ⟨fb,0,none⟩) (fs.length+1) cap) m1) 36 (0,0))→w.heap.size≤bm→Xk W bm fb cap cur cs fs f lv sv m1 Fi Fl Fs:=by
 have h0:X3 (w.alloc (.cells (Xb fv m) 36)) w.heap.size m (w.heap.size::F):=Xt.2 ⟨fv,F,heap_alloc_new _ _,h.keep (fun b hb=>Below.heap_alloc _ _ _ (h.lt b hb)),rfl,fun e=>by have:=h.lt _ e;omega⟩
 obtain ⟨fb,cap,cur,cs,lv,sv,Fi,Fl,Fs,hT,hF⟩:=h0.top hm
 have hfv:fv=.slice (some ⟨fb,0,none⟩) (fs.length+1) cap:=by
  have h1:=hT.mach
  rw [heap_alloc_new] at h1
  simp only [Option.some.injEq,Obj.cells.injEq,Xb] at h1
  have:=congrArg (fun a=>a[0]?) h1.1
  simpa using this
 have hF2:F=fb::(Fi++(Fl++Fs)):=by simpa using hF
 refine ⟨fb,cap,cur,cs,lv,sv,Fi,Fl,Fs,hfv,hF2,fun W bm m1 hb hbm hle=>?_⟩
 have hk:∀ b∈F,W.heap[b]?=(w.alloc (.cells (Xb fv m) 36)).heap[b]?:=fun b hb'=>by
  rw [hb.block b (h.lt b hb'),Below.heap_alloc _ _ _ (h.lt b hb')]
 rw [hF2] at hk
 refine ⟨hbm,by rw [hk fb (by simp)];exact hT.row,hT.capl,hT.capm,hT.csize,hT.take,hT.init.keep (fun b hb=>hk b (by simp [hb])),hT.loc.keep (fun b hb=>hk b (by simp [hb])),hT.stk.keep (fun b hb=>hk b (by simp [hb])),hT.fn,hT.pc,?_⟩
 have h1:=hT.nodup
 rw [List.nodup_cons] at h1 ⊢
 refine ⟨fun e=>?_,h1.2⟩
 have:=h.lt bm (by rw [hF2];exact e)
 omega
theorem Z5 {F F':List Nat} {w w':World} (h:Xp F F' w w') {b:Nat} (hb:b<w.heap.size) (hF:b∉F):b∉F':=fun e=>by
 rcases h.new b e with h1|h1
 ·exact hF h1
 ·omega
/-- the end of a function that returns the machine of its variable in block w.heap.size through the result variable R -/
theorem Kn {w W w1:World} {fb cap:Nat} {cur:Array Value} {cs:List Value} {fs:List Fra} {f':Fra} {lv sv:Value} {m1:Mch} {Fi Fl Fs F:List Nat} {R:Nat} (hWb:Below w.heap.size w W)
  (hT:Xk w1 w.heap.size fb cap cur cs fs f' lv sv m1 Fi Fl Fs) (hM:Xp (w.heap.size::F) (w.heap.size::fb::(Fi++(Fl++Fs))) W w1) (hF:∀ b∈F,b<w.heap.size) (hR:w.heap.size<R) (hRl:R<W.heap.size)
  (b2:W.heap[R]?=some (.cells (Xb (.slice none 0 0) Xl) 36 (0,0))) :
  w1.heap[R]?=some (.cells (Xb (.slice none 0 0) Xl) 36 (0,0))∧(Yp w1 R (.slice (some ⟨fb,0,none⟩) (fs.length+1) cap) m1).heap[R]?=some (.cells (Xb (.slice (some ⟨fb,0,none⟩) (fs.length+1) cap) m1) 36 (0,0))∧
  Qh w F { m1 with frames:=fs++[f'] } (.returned (Xi (.slice (some ⟨fb,0,none⟩) (fs.length+1) cap) m1)) (Yp w1 R (.slice (some ⟨fb,0,none⟩) (fs.length+1) cap) m1):=by
 have hRF:R∉w.heap.size::F:=fun e=>by
  rw [List.mem_cons] at e
  rcases e with e|e
  ·omega
  ·have:=hF _ e;omega
 have hRF2:=Z5 hM hRl hRF
 have h1:w1.heap[R]?=some (.cells (Xb (.slice none 0 0) Xl) 36 (0,0)):=by rw [hM.block R hRl hRF];exact b2
 obtain ⟨p1,p2⟩:=Xz h1 (.slice (some ⟨fb,0,none⟩) (fs.length+1) cap) m1
 obtain ⟨fv,F0,q1,q2,q3,q4⟩:=Xt.1 ((hT.reframe (fs++[f'])).own rfl)
 have hfv:fv=.slice (some ⟨fb,0,none⟩) (fs.length+1) cap:=by
  have h1:=hT.mach
  rw [q1] at h1
  simp only [Option.some.injEq,Obj.cells.injEq,Xb] at h1
  have:=congrArg (fun a=>a[0]?) h1.1
  simpa using this
 subst hfv
 have hF0:F0=fb::(Fi++(Fl++Fs)):=by simpa using q3.symm
 refine ⟨h1,p1,_,F0,rfl,q2.keep (fun b hb=>p2.block b (q2.lt b hb) (fun e=>?_)),?_⟩
 ·rw [List.mem_singleton] at e
  exact hRF2 (by rw [←e,← hF0];exact List.mem_cons_of_mem _ hb)
 ·refine ⟨p2.os.trans (hM.os.trans hWb.os),p2.tape.trans (hM.tape.trans hWb.tape),p2.output.trans (hM.output.trans hWb.output),Nat.le_trans hWb.size (Nat.le_trans hM.size p2.size),fun k hk hkF=>?_,fun b hb=>?_⟩
  ·rw [p2.block k (Nat.lt_of_lt_of_le hk (Nat.le_trans hWb.size hM.size)) (by simp;omega),hM.block k (Nat.lt_of_lt_of_le hk hWb.size) (fun e=>by rw [List.mem_cons] at e;rcases e with e|e;omega;exact hkF e),hWb.block k hk]
  ·rcases hM.new b (List.mem_cons_of_mem _ (by rw [←hF0];exact hb)) with h|h
   ·rw [List.mem_cons] at h
    rcases h with h|h
    ·right;omega
    ·exact .inl h
   ·right;exact Nat.le_trans hWb.size h
theorem Xa0 (a:Option Addr) (n c:Nat) (m:Mch) (r:Rq) (w:World) :
  Calls Tryz.prog 96 #[Xi (.slice a n c) m,rqV r] w fun e w'=>e=.returned (Xi (.slice none 0 0) { m with req:=r,frames:=[] })∧Below w.heap.size w w':=by
 obtain ⟨W,hW⟩:∃ W,W=((w.alloc (.cells (Xb (.slice a n c) m) 36)).alloc (.cells #[.int .i64 r.kind,.int .i64 r.node,.int .i64 r.field,.int .i64 r.value,.int .i64 r.fault] 34)).alloc (.cells (Xb (.slice none 0 0) Xl) 36):=⟨_,rfl⟩
 have hWb:Hid (Below w.heap.size w W):=by rw [hW];exact ((Xa _ _).then (Xa _ _)).then (Xa _ _)
 have hsz:Hid (W.heap.size=w.heap.size+3):=by rw [hW];exact Lh (by simp)
 have b0:W.heap[w.heap.size]?=some (.cells (Xb (.slice a n c) m) 36 (0,0)):=by
  rw [hW,Below.heap_alloc _ _ _ (by simp;omega),Below.heap_alloc _ _ _ (by simp)]
  exact heap_alloc_new _ _
 have b1:Hid (Xo W (w.heap.size+1) [.int .i64 r.kind,.int .i64 r.node,.int .i64 r.field,.int .i64 r.value,.int .i64 r.fault]):=by
  rw [hW]
  have:=(@Xd (w.alloc (.cells (Xb (.slice a n c) m) 36)) #[.int .i64 r.kind,.int .i64 r.node,.int .i64 r.field,.int .i64 r.value,.int .i64 r.fault] 34).alloc (.cells (Xb (.slice none 0 0) Xl) 36)
  exact Lh (by simpa using this)
 have b2:W.heap[w.heap.size+1+1]?=some (.cells (Xb (.slice none 0 0) Xl) 36 (0,0)):=by
  rw [hW]
  have:=heap_alloc_new ((w.alloc (.cells (Xb (.slice a n c) m) 36)).alloc (.cells #[.int .i64 r.kind,.int .i64 r.node,.int .i64 r.field,.int .i64 r.value,.int .i64 r.fault] 34)) (.cells (Xb (.slice none 0 0) Xl) 36)
  simpa using this
 obtain ⟨w1,hw1⟩:∃ u,u=W.setCell ⟨w.heap.size,0,none⟩ (.slice none 0 0):=⟨_,rfl⟩
 have e0:=heap_setCell_same _ w.heap.size 0 _ _ (.slice none 0 0) b0
 rw [Qo,← hw1] at e0
 obtain ⟨w2,hw2⟩:∃ u,u=Yq w1 w.heap.size r:=⟨_,rfl⟩
 obtain ⟨e1,hM1⟩:=Ju e0 r
 rw [←hw2] at e1 hM1
 have hM0:Xp [w.heap.size] [w.heap.size] W w1:=by rw [hw1];exact Xw
 have hM2:=hM0.trans hM1
 have b22:w2.heap[w.heap.size+1+1]?=some (.cells (Xb (.slice none 0 0) Xl) 36 (0,0)):=by rw [hM2.block _ (by have:=hsz.out;omega) (by simp;omega)];exact b2
 obtain ⟨p1,p2⟩:=Xz b22 (.slice none 0 0) { m with req:=r,frames:=[] }
 have HFIN:Hid (Below w.heap.size w (Yp w2 (w.heap.size+1+1) (.slice none 0 0) { m with req:=r,frames:=[] })):=Lh ((hWb.out.trans (hM2.below (fun b hb=>by simp at hb;omega) hWb.out.size)).trans (p2.below (fun b hb=>by simp at hb;omega) (by have h1:=hWb.out.size;have h2:=hM2.size;omega)))
 have P1:=Lh p1
 obtain ⟨c0,-⟩:=Xq b0
 obtain ⟨f0,-⟩:=Xu b0
 obtain ⟨-,d1,d2,d3,d4,d5,-⟩:=Xq e0
 obtain ⟨-,g1,g2,g3,g4,g5,-⟩:=Xu e0
 obtain ⟨k0,k1,k2,k3,k4,k5,k6,k7,k8⟩:=Xq e1
 obtain ⟨r0,r1,r2,r3,r4,r5,r6,r7,r8⟩:=Xq b22
 obtain ⟨q0,q1,q2,q3,q4,q5,q6,q7,q8⟩:=Xu b22
 have i0:=hM0.cell (b1.out 0 _ rfl) (by simp)
 have i1:=hM0.cell (b1.out 1 _ rfl) (by simp)
 have i2:=hM0.cell (b1.out 2 _ rfl) (by simp)
 have i3:=hM0.cell (b1.out 3 _ rfl) (by simp)
 have i4:=hM0.cell (b1.out 4 _ rfl) (by simp)
 have z0:=(La b0)
 have z1:=(La e0)
 have z2:=(La b22)
 have HW1:=Lh hw1
 have HW2:=Lh hw2
 clear b0 b2 e0 e1 b22 hM0 hM1 hM2 p1 p2 hw1 hw2
 unfold Xi rqV
 unfold Xb Xl at hW
 unfold Xb
 dsimp only at hW ⊢
 go_enter Tryz.func96,Tryz.ntmps96
 go_upto_region 1 with fail
 rw [←hW]
 have HW:=Lh hW
 clear hW
 go_upto_region 2 with fail
 rw [←HW1.out]
 go_upto_region 3 with fail
 have e2:Yq w1 w.heap.size r=w2:=HW2.out.symm
 unfold Yq at e2
 rw [e2]
 have E2:=Lh e2
 clear e2
 go_wp2_with fail
 exact bodyPost_ret (v:=Xi (.slice none 0 0) { m with req:=r,frames:=[] }) (Xn (p:=4) rfl P1.out _ rfl) rfl ⟨rfl,HFIN.out⟩
theorem Q0 (a:Option Addr) (n c:Nat) (m:Mch) (er:Int) (w:World) :
  Calls Tryz.prog 70 #[Xi (.slice a n c) m,.int .i64 er] w fun e w'=>e=.returned (Xi (.slice none 0 0) { m with req:=X0 er,frames:=[] })∧Below w.heap.size w w':=by
 obtain ⟨W,hW⟩:∃ W,W=(w.alloc (.cells (Xb (.slice a n c) m) 36)).alloc (.cells (Xb (.slice none 0 0) Xl) 36):=⟨_,rfl⟩
 have hWb:Hid (Below w.heap.size w W):=by rw [hW];exact (Xa _ _).then (Xa _ _)
 have hsz:Hid (W.heap.size=w.heap.size+2):=by rw [hW];exact Lh (by simp)
 have b0:W.heap[w.heap.size]?=some (.cells (Xb (.slice a n c) m) 36 (0,0)):=by
  rw [hW,Below.heap_alloc _ _ _ (by simp)]
  exact heap_alloc_new _ _
 have b2:W.heap[w.heap.size+1]?=some (.cells (Xb (.slice none 0 0) Xl) 36 (0,0)):=by
  rw [hW]
  have:=heap_alloc_new (w.alloc (.cells (Xb (.slice a n c) m) 36)) (.cells (Xb (.slice none 0 0) Xl) 36)
  simpa using this
 obtain ⟨k0,k1,k2,k3,k4,k5,k6,k7,k8⟩:=Xq b0
 have HB2:=Lh b2
 have HM:Hid (Xi (.slice a n c) m=Xi (.slice a n c) m):=Lh rfl
 clear b0 b2
 unfold Xi
 unfold Xb Xl at hW
 unfold Xb
 dsimp only at hW ⊢
 go_enter Tryz.func70,Tryz.ntmps70
 go_upto_region 1 with fail
 rw [←hW]
 have HW:=Lh hW
 clear hW
 go_wp2_with fail
 refine (Xa0 a n c m (X0 er) _).mono ?_
 rintro e w1 ⟨rfl,hb1⟩
 have b22:w1.heap[w.heap.size+1]?=some (.cells (Xb (.slice none 0 0) Xl) 36 (0,0)):=by rw [hb1.block _ (by have:=hsz.out;omega)];exact HB2.out
 obtain ⟨p1,p2⟩:=Xz b22 (.slice none 0 0) { m with req:=X0 er,frames:=[] }
 have HFIN:Hid (Below w.heap.size w (Yp w1 (w.heap.size+1) (.slice none 0 0) { m with req:=X0 er,frames:=[] })):=Lh ((hWb.out.then hb1).trans (p2.below (fun b hb=>by simp at hb;omega) (hWb.out.then hb1).size))
 have P1:=Lh p1
 obtain ⟨r0,r1,r2,r3,r4,r5,r6,r7,r8⟩:=Xq b22
 obtain ⟨q0,q1,q2,q3,q4,q5,q6,q7,q8⟩:=Xu b22
 have z2:=(La b22)
 clear b22 p1 p2 hb1 k0 k1 k2 k3 k4 k5 k6 k7 k8
 unfold Xi Xb
 go_wp2_with fail
 exact bodyPost_ret (v:=Xi (.slice none 0 0) { m with req:=X0 er,frames:=[] }) (Xn (p:=4) rfl P1.out _ rfl) rfl ⟨rfl,HFIN.out⟩
def Y8 (op a b:Int):Int:=if Yb op a b=0 then Qk op a b else 0
def Jt (op a b:Int) (w:World) (e:Ending) (w':World):Prop:=e=.returned (.tuple #[.int .i64 (Y8 op a b),.int .i64 (Yb op a b)])∧w=w'
theorem Jr (b:Bool):X1 (b2i b)=true:=by cases b<;>rfl
theorem Xnp (a b:Int) (ha:isV a) (hb:isV b) (w:World):Calls Tryz.prog 103 #[.int .i64 15,.int .i64 a,.int .i64 b] w (Jt 15 a b w):=by
 unfold isV at ha hb
 go_enter Tryz.func103,Tryz.ntmps103
 go_wp2_with fail
 refine (Ys (a+b) _).mono ?_
 rintro e w1 ⟨rfl,rfl⟩
 cases hv:X1 (a+b)
 ·have hf:Hid (Y8 15 a b=0∧Yb 15 a b=5):=Lh (by simp [Y8,Yb,hv])
  clear hv
  go_wp2_with fail
  go_ret2
  exact ⟨by rw [hf.out.1,hf.out.2];rfl,rfl⟩
 ·have hf:Hid (Y8 15 a b=a+b∧Yb 15 a b=0):=Lh (by simp [Y8,Yb,Qk,hv])
  clear hv
  go_wp2_with fail
  go_ret2
  exact ⟨by rw [hf.out.1,hf.out.2];rfl,rfl⟩
theorem Xmp (a b:Int) (ha:isV a) (hb:isV b) (w:World):Calls Tryz.prog 103 #[.int .i64 16,.int .i64 a,.int .i64 b] w (Jt 16 a b w):=by
 unfold isV at ha hb
 go_enter Tryz.func103,Tryz.ntmps103
 go_wp2_with fail
 refine (Ys (a - b) _).mono ?_
 rintro e w1 ⟨rfl,rfl⟩
 cases hv:X1 (a - b)
 ·have hf:Hid (Y8 16 a b=0∧Yb 16 a b=5):=Lh (by simp [Y8,Yb,hv])
  clear hv
  go_wp2_with fail
  go_ret2
  exact ⟨by rw [hf.out.1,hf.out.2];rfl,rfl⟩
 ·have hf:Hid (Y8 16 a b=a - b∧Yb 16 a b=0):=Lh (by simp [Y8,Yb,Qk,hv])
  clear hv
  go_wp2_with fail
  go_ret2
  exact ⟨by rw [hf.out.1,hf.out.2];rfl,rfl⟩
theorem Xm0 (a b:Int) (ha:isV a) (hb:isV b) (w:World):Calls Tryz.prog 103 #[.int .i64 17,.int .i64 a,.int .i64 b] w (Jt 17 a b w):=by
 unfold isV at ha hb
 go_enter Tryz.func103,Tryz.ntmps103
 go_wp2_with fail
 refine (Xfx a b ha hb _).mono ?_
 rintro e w1 ⟨rfl,rfl⟩
 go_wp2_with fail
 refine (Ys (Uh a b) _).mono ?_
 rintro e w1 ⟨rfl,rfl⟩
 by_cases hp:a.natAbs*b.natAbs≤1099511627776
 ·have h2:(a*b).natAbs=a.natAbs*b.natAbs:=Int.natAbs_mul a b
  have hv:X1 (a*b)=true:=Ye.2 (by unfold isV;omega)
  have hq:Uh a b=a*b:=by unfold Uh;rw [if_pos hp]
  have hf:Hid (Y8 17 a b=a*b∧Yb 17 a b=0):=Lh (by simp [Y8,Yb,Qk,hp])
  rw [hq,hv]
  clear hv hq h2 hp
  go_wp2_with fail
  go_ret2
  exact ⟨by rw [hf.out.1,hf.out.2];rfl,rfl⟩
 ·have hv:X1 (1099511627777)=false:=rfl
  have hq:Uh a b=1099511627777:=by unfold Uh;rw [if_neg hp]
  have hf:Hid (Y8 17 a b=0∧Yb 17 a b=5):=Lh (by simp [Y8,Yb,hp])
  rw [hq,hv]
  clear hv hq hp
  go_wp2_with fail
  go_ret2
  exact ⟨by rw [hf.out.1,hf.out.2];rfl,rfl⟩
theorem Xm3 (a b:Int) (ha:isV a) (hb:isV b) (w:World):Calls Tryz.prog 103 #[.int .i64 18,.int .i64 a,.int .i64 b] w (Jt 18 a b w):=by
 unfold isV at ha hb
 by_cases hz:b=0
 ·have hz':(b == 0)=true:=by rw [hz];rfl
  have hf:Hid (Y8 18 a b=0∧Yb 18 a b=18):=Lh (by simp [Y8,Yb,hz])
  clear hz
  go_enter Tryz.func103,Tryz.ntmps103
  go_wp2_with fail
  go_ret2
  exact ⟨by rw [hf.out.1,hf.out.2];rfl,rfl⟩
 ·have hz':(b == 0)=false:=beq_eq_false_iff_ne.2 hz
  have hf:Hid (Y8 18 a b=a.tdiv b∧Yb 18 a b=0):=Lh (by simp [Y8,Yb,Qk,hz])
  have hd:=tdm a b ha hb hz
  have h1:(a.tdiv b).natAbs≤a.natAbs:=by rw [Int.natAbs_tdiv];exact Nat.div_le_self _ _
  have h2:(a.tmod b).natAbs≤a.natAbs:=by rw [Int.natAbs_tmod];exact Nat.mod_le _ _
  have hv:Hid (X1 (a.tdiv b)=true):=Lh (Ye.2 (by unfold isV;omega))
  clear h1 h2
  go_enter Tryz.func103,Tryz.ntmps103
  go_wp2_with fail
  try rw [hd.1]
  try rw [hd.2]
  refine (Ys (a.tdiv b) _).mono ?_
  rintro e w1 ⟨rfl,rfl⟩
  rw [hv.out]
  go_wp2_with fail
  go_ret2
  exact ⟨by rw [hf.out.1,hf.out.2];rfl,rfl⟩
theorem Xom (a b:Int) (ha:isV a) (hb:isV b) (w:World):Calls Tryz.prog 103 #[.int .i64 19,.int .i64 a,.int .i64 b] w (Jt 19 a b w):=by
 unfold isV at ha hb
 by_cases hz:b=0
 ·have hz':(b == 0)=true:=by rw [hz];rfl
  have hf:Hid (Y8 19 a b=0∧Yb 19 a b=18):=Lh (by simp [Y8,Yb,hz])
  clear hz
  go_enter Tryz.func103,Tryz.ntmps103
  go_wp2_with fail
  go_ret2
  exact ⟨by rw [hf.out.1,hf.out.2];rfl,rfl⟩
 ·have hz':(b == 0)=false:=beq_eq_false_iff_ne.2 hz
  have hf:Hid (Y8 19 a b=a.tmod b∧Yb 19 a b=0):=Lh (by simp [Y8,Yb,Qk,hz])
  have hd:=tdm a b ha hb hz
  have h1:(a.tdiv b).natAbs≤a.natAbs:=by rw [Int.natAbs_tdiv];exact Nat.div_le_self _ _
  have h2:(a.tmod b).natAbs≤a.natAbs:=by rw [Int.natAbs_tmod];exact Nat.mod_le _ _
  have hv:Hid (X1 (a.tmod b)=true):=Lh (Ye.2 (by unfold isV;omega))
  clear h1 h2
  go_enter Tryz.func103,Tryz.ntmps103
  go_wp2_with fail
  try rw [hd.1]
  try rw [hd.2]
  refine (Ys (a.tmod b) _).mono ?_
  rintro e w1 ⟨rfl,rfl⟩
  rw [hv.out]
  go_wp2_with fail
  go_ret2
  exact ⟨by rw [hf.out.1,hf.out.2];rfl,rfl⟩
theorem Xmt (a b:Int) (ha:isV a) (hb:isV b) (w:World):Calls Tryz.prog 103 #[.int .i64 20,.int .i64 a,.int .i64 b] w (Jt 20 a b w):=by
 unfold isV at ha hb
 have hf:Hid (Y8 20 a b=b2i (a == b)∧Yb 20 a b=0):=Lh (by simp [Y8,Yb,Qk])
 have hv:Hid (X1 (b2i (a == b))=true):=Lh (by first|exact Jr _|exact Ye.2 (by unfold isV;omega))
 go_enter Tryz.func103,Tryz.ntmps103
 go_wp2_with fail
 refine (Kp (a == b) _).mono ?_
 rintro e w1 ⟨rfl,rfl⟩
 go_wp2_with fail
 refine (Ys (b2i (a == b)) _).mono ?_
 rintro e w1 ⟨rfl,rfl⟩
 rw [hv.out]
 go_wp2_with fail
 go_ret2
 exact ⟨by rw [hf.out.1,hf.out.2];rfl,rfl⟩
theorem Xm1 (a b:Int) (ha:isV a) (hb:isV b) (w:World):Calls Tryz.prog 103 #[.int .i64 24,.int .i64 a,.int .i64 b] w (Jt 24 a b w):=by
 unfold isV at ha hb
 have hf:Hid (Y8 24 a b=b2i (a == b)∧Yb 24 a b=0):=Lh (by simp [Y8,Yb,Qk])
 have hv:Hid (X1 (b2i (a == b))=true):=Lh (by first|exact Jr _|exact Ye.2 (by unfold isV;omega))
 go_enter Tryz.func103,Tryz.ntmps103
 go_wp2_with fail
 refine (Kp (a == b) _).mono ?_
 rintro e w1 ⟨rfl,rfl⟩
 go_wp2_with fail
 refine (Ys (b2i (a == b)) _).mono ?_
 rintro e w1 ⟨rfl,rfl⟩
 rw [hv.out]
 go_wp2_with fail
 go_ret2
 exact ⟨by rw [hf.out.1,hf.out.2];rfl,rfl⟩
theorem Xm2 (a b:Int) (ha:isV a) (hb:isV b) (w:World):Calls Tryz.prog 103 #[.int .i64 21,.int .i64 a,.int .i64 b] w (Jt 21 a b w):=by
 unfold isV at ha hb
 have hf:Hid (Y8 21 a b=b2i (a != b)∧Yb 21 a b=0):=Lh (by simp [Y8,Yb,Qk])
 have hv:Hid (X1 (b2i (a != b))=true):=Lh (by first|exact Jr _|exact Ye.2 (by unfold isV;omega))
 go_enter Tryz.func103,Tryz.ntmps103
 go_wp2_with fail
 refine (Kp (a != b) _).mono ?_
 rintro e w1 ⟨rfl,rfl⟩
 go_wp2_with fail
 refine (Ys (b2i (a != b)) _).mono ?_
 rintro e w1 ⟨rfl,rfl⟩
 rw [hv.out]
 go_wp2_with fail
 go_ret2
 exact ⟨by rw [hf.out.1,hf.out.2];rfl,rfl⟩
theorem Xnm (a b:Int) (ha:isV a) (hb:isV b) (w:World):Calls Tryz.prog 103 #[.int .i64 25,.int .i64 a,.int .i64 b] w (Jt 25 a b w):=by
 unfold isV at ha hb
 have hf:Hid (Y8 25 a b=b2i (a != b)∧Yb 25 a b=0):=Lh (by simp [Y8,Yb,Qk])
 have hv:Hid (X1 (b2i (a != b))=true):=Lh (by first|exact Jr _|exact Ye.2 (by unfold isV;omega))
 go_enter Tryz.func103,Tryz.ntmps103
 go_wp2_with fail
 refine (Kp (a != b) _).mono ?_
 rintro e w1 ⟨rfl,rfl⟩
 go_wp2_with fail
 refine (Ys (b2i (a != b)) _).mono ?_
 rintro e w1 ⟨rfl,rfl⟩
 rw [hv.out]
 go_wp2_with fail
 go_ret2
 exact ⟨by rw [hf.out.1,hf.out.2];rfl,rfl⟩
theorem Xok (a b:Int) (ha:isV a) (hb:isV b) (w:World):Calls Tryz.prog 103 #[.int .i64 22,.int .i64 a,.int .i64 b] w (Jt 22 a b w):=by
 unfold isV at ha hb
 have hf:Hid (Y8 22 a b=b2i (decide (a<b))∧Yb 22 a b=0):=Lh (by simp [Y8,Yb,Qk])
 have hv:Hid (X1 (b2i (decide (a<b)))=true):=Lh (by first|exact Jr _|exact Ye.2 (by unfold isV;omega))
 go_enter Tryz.func103,Tryz.ntmps103
 go_wp2_with fail
 refine (Kp (decide (a<b)) _).mono ?_
 rintro e w1 ⟨rfl,rfl⟩
 go_wp2_with fail
 refine (Ys (b2i (decide (a<b))) _).mono ?_
 rintro e w1 ⟨rfl,rfl⟩
 rw [hv.out]
 go_wp2_with fail
 go_ret2
 exact ⟨by rw [hf.out.1,hf.out.2];rfl,rfl⟩
theorem Xn0 (a b:Int) (ha:isV a) (hb:isV b) (w:World):Calls Tryz.prog 103 #[.int .i64 23,.int .i64 a,.int .i64 b] w (Jt 23 a b w):=by
 unfold isV at ha hb
 have hf:Hid (Y8 23 a b=b2i (decide (a≤b))∧Yb 23 a b=0):=Lh (by simp [Y8,Yb,Qk])
 have hv:Hid (X1 (b2i (decide (a≤b)))=true):=Lh (by first|exact Jr _|exact Ye.2 (by unfold isV;omega))
 go_enter Tryz.func103,Tryz.ntmps103
 go_wp2_with fail
 refine (Kp (decide (a≤b)) _).mono ?_
 rintro e w1 ⟨rfl,rfl⟩
 go_wp2_with fail
 refine (Ys (b2i (decide (a≤b))) _).mono ?_
 rintro e w1 ⟨rfl,rfl⟩
 rw [hv.out]
 go_wp2_with fail
 go_ret2
 exact ⟨by rw [hf.out.1,hf.out.2];rfl,rfl⟩
theorem Xnh (a b:Int) (ha:isV a) (hb:isV b) (w:World):Calls Tryz.prog 103 #[.int .i64 27,.int .i64 a,.int .i64 b] w (Jt 27 a b w):=by
 unfold isV at ha hb
 have hf:Hid (Y8 27 a b=max a b∧Yb 27 a b=0):=Lh (by simp [Y8,Yb,Qk])
 have hv:Hid (X1 (max a b)=true):=Lh (by first|exact Jr _|exact Ye.2 (by unfold isV;omega))
 go_enter Tryz.func103,Tryz.ntmps103
 go_wp2_with fail
 refine (Ys (max a b) _).mono ?_
 rintro e w1 ⟨rfl,rfl⟩
 rw [hv.out]
 go_wp2_with fail
 go_ret2
 exact ⟨by rw [hf.out.1,hf.out.2];rfl,rfl⟩
theorem Xmr (a b:Int) (ha:isV a) (hb:isV b) (w:World):Calls Tryz.prog 103 #[.int .i64 28,.int .i64 a,.int .i64 b] w (Jt 28 a b w):=by
 unfold isV at ha hb
 have hf:Hid (Y8 28 a b=min a b∧Yb 28 a b=0):=Lh (by simp [Y8,Yb,Qk])
 have hv:Hid (X1 (min a b)=true):=Lh (by first|exact Jr _|exact Ye.2 (by unfold isV;omega))
 go_enter Tryz.func103,Tryz.ntmps103
 go_wp2_with fail
 refine (Ys (min a b) _).mono ?_
 rintro e w1 ⟨rfl,rfl⟩
 rw [hv.out]
 go_wp2_with fail
 go_ret2
 exact ⟨by rw [hf.out.1,hf.out.2];rfl,rfl⟩
theorem Xex (op a b:Int) (h:Ya op) (ha:isV a) (hb:isV b) (w:World):Calls Tryz.prog 103 #[.int .i64 op,.int .i64 a,.int .i64 b] w (Jt op a b w):=by
 have hc:op=15∨op=16∨op=17∨op=18∨op=19∨op=20∨op=21∨op=22∨op=23∨op=24∨op=25∨op=27∨op=28:=by unfold Ya at h;omega
 rcases hc with rfl|rfl|rfl|rfl|rfl|rfl|rfl|rfl|rfl|rfl|rfl|rfl|rfl
 ·exact Xnp a b ha hb w
 ·exact Xmp a b ha hb w
 ·exact Xm0 a b ha hb w
 ·exact Xm3 a b ha hb w
 ·exact Xom a b ha hb w
 ·exact Xmt a b ha hb w
 ·exact Xm2 a b ha hb w
 ·exact Xok a b ha hb w
 ·exact Xn0 a b ha hb w
 ·exact Xm1 a b ha hb w
 ·exact Xnm a b ha hb w
 ·exact Xnh a b ha hb w
 ·exact Xmr a b ha hb w
theorem Xcj:∀ (f x:Nat),x<2 ^ f→Lib.bitLenAux (f+1) x=Lib.bitLenAux f x
 | 0,x,h=>by
  have:x=0:=by simpa using h
  subst this;rfl
 | f+1,x,h=>by
  have ih:=Xcj f (x / 2) (by rw [Nat.pow_succ] at h;omega)
  show (if x=0 then 0 else 1+Lib.bitLenAux (f+1) (x / 2))=(if x=0 then 0 else 1+Lib.bitLenAux f (x / 2))
  rw [ih]
theorem Xg8 {x:Nat} (h2:2≤x) (h:x<2 ^ 64):Lib.bitLen x=Lib.bitLen (x / 2)+1:=by
 have h1:Lib.bitLenAux 64 (x / 2)=Lib.bitLenAux 63 (x / 2):=Xcj 63 (x / 2) (by omega)
 have h3:Lib.bitLenAux 64 x=1+Lib.bitLenAux 63 (x / 2):=by
  show (if x=0 then 0 else 1+Lib.bitLenAux 63 (x / 2))=_
  rw [if_neg (by omega)]
 show Lib.bitLenAux 64 x=Lib.bitLenAux 64 (x / 2)+1
 rw [h1,h3,Nat.add_comm]
theorem Xl9 (v:Int) (hv:isV v) (w:World):Calls Tryz.prog 134 #[.int .i64 v] w fun e w'=>e=.returned (.int .i64 (Jn v))∧w=w':=by
 have hvv:=hv
 unfold isV at hv
 go_enter Tryz.func134,Tryz.ntmps134
 go_wp2_with fail
 go_loop [0,3] (fun x k=>∃ y j:Int,x=.int .i64 y∧k=.int .i64 j∧0≤j∧j≤64∧-1099511627776≤y∧y≤1099511627776∧Hid (Jn y+j=Jn v)) (fun x k=>(intOf x).toNat)
 case atStart=>exact ⟨v,0,rfl,rfl,by omega,by omega,by omega,by omega,Lh (by omega)⟩
 case round=>
  obtain ⟨y,j,rfl,rfl,hj0,hj1,hy0,hy1,hl⟩:=hrel
  by_cases hgt:1<y
  ·have hd:y.tdiv 2=y / 2:=by rw [Int.tdiv_eq_ediv_of_nonneg (by omega)]
   have hh:Jn y=Jn (y / 2)+1:=by
    unfold Jn
    have e1:(max 1 y).toNat=y.toNat:=by omega
    have e2:(max 1 (y / 2)).toNat=y.toNat / 2:=by omega
    rw [e1,e2,Xg8 (x:=y.toNat) (by omega) (by omega)]
    omega
   have hl2:Hid (Jn (y / 2)+(j+1)=Jn v):=Lh (by have:=hl.out;omega)
   have hj2:j+1≤64:=by
    have h1:=hl2.out
    have h2:Jn v≤63:=by unfold Jn Lib.bitLen;have:=K2 64 (max 1 v).toNat;omega
    have h3:0≤Jn (y / 2):=by
     unfold Jn
     have:1≤Lib.bitLen (max 1 (y / 2)).toNat:=by
      unfold Lib.bitLen Lib.bitLenAux
      rw [if_neg (by omega)];omega
     omega
    omega
   clear hh
   go_wp2_with (rw [hd])
   go_round
   ·exact ⟨y / 2,j+1,by go_num,by go_num,by omega,by omega,by omega,by omega,hl2⟩
   ·show (y / 2).toNat<y.toNat
    omega
  ·have hy:Jn y=0:=by
    unfold Jn
    have e1:(max 1 y).toNat=1:=by omega
    rw [e1];rfl
   have hfin:=hl.out
   rw [hy] at hfin
   have HF:=Lh hfin
   clear hfin hy
   go_wp2_with fail
   go_ret
   exact ⟨by rw [←HF.out];simp,rfl⟩
end Go.Proofs.YtbmeoklmachjpaaGreatDoor
