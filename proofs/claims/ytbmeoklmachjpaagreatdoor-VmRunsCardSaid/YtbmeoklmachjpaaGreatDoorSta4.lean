/- The contracts of function, start and Start. The cases of start. MADE BY wip/gen_sta.py start, where all is right; Start. MADE BY wip/gen_sta.py The contract of Start. MADE BY wip/gen_sta.py -/
import Derived.Test.YtbmeoklmachjpaaGreatDoorRun8
import Derived.Laws.CopyOwn
import Derived.Laws.ResultCell
import Derived.Outline
set_option maxHeartbeats 2000000
set_option maxRecDepth 100000
set_option linter.unusedVariables false
set_option linter.unusedSimpArgs false
namespace Go.Proofs.YtbmeoklmachjpaaGreatDoor
open Go.RowKit
theorem Xb2:Zn 90:=fun _ _=>by kernel_rfl
theorem Xaq:Zn 65:=fun _ _=>by kernel_rfl
theorem Xeg (nm nm2:ByteArray) (p l r c:Value) (b:Nat) (w:World) (hb:b<w.heap.size) (h:w.cell? ⟨b,0,none⟩=some (.string nm2)) :
  Calls Tryz.prog 90 #[.agg #[.string nm,p,l,r,c],.pointer (some ⟨b,0,none⟩)] w fun e w'=>e=.returned (.bool (Zt nm nm2))∧Below w.heap.size w w':=by
 have h':(w.alloc (.cells #[.string nm,p,l,r,c] 75)).cell? ⟨b,0,none⟩=some (.string nm2):=by rw [World.cell?_alloc_past _ _ _ hb];exact h
 go_enter Tryz.func90,Tryz.ntmps90
 go_wp2
 go_ret
 exact ⟨rfl,(Below.refl _ _).alloc (Nat.le_refl _) _⟩
theorem Xgj (nm:ByteArray) (b:Nat) (B:Nat) (w:World) (hb:b<w.heap.size) (h:w.cell? ⟨b,0,none⟩=some (.string nm)):∀ (x:Fun) (w1:World) (av:Value),Below w.heap.size w w1→J4 B w1 av x→Calls Tryz.prog 90 (#[av]++#[.pointer (some ⟨b,0,none⟩)]) w1 (fun e w2=>e=.returned (.bool (Zt x.name nm))∧Below w1.heap.size w1 w2):=by
 rintro x w1 av hb1 ⟨cv,rfl,_⟩
 exact Xeg x.name nm _ _ _ _ b w1 (by have:=hb1.size;omega) (by rw [hb1.cell (p:=⟨b,0,none⟩) hb];exact h)
theorem Xj7 (n:Int) (w:World) :
  Calls Tryz.prog 65 #[.int .i64 n] w fun e w'=>e=.returned (.bool (!X1 n))∧w=w':=by
 go_enter Tryz.func65,Tryz.ntmps65
 go_wp2_with (go_at_call 45;refine (Yy n _).mono ?_;rintro e w' ⟨rfl,rfl⟩)
 go_ret
 exact ⟨rfl,rfl⟩
theorem Xe6 (w:World):∀ (x:Int) (w1:World) (av:Value),Below w.heap.size w w1→Xlj 0 w1 av x→Calls Tryz.prog 65 (#[av]++#[]) w1 (fun e w2=>e=.returned (.bool (!X1 x))∧Below w1.heap.size w1 w2):=by
 rintro x w1 av _ ⟨rfl,_⟩
 exact (Xj7 x w1).mono fun e w2 ⟨he,hw⟩=>⟨he,hw▸Below.refl _ _⟩
theorem Ky (c:Cod) (cv:Value) (nm:ByteArray) (B:Nat) (w:World) (hB:B≤w.heap.size) (hc:Yj B w cv c) :
  Calls Tryz.prog 64 #[cv,.string nm] w fun e w'=>e=.returned (.int .i64 (Q8 c nm))∧Below w.heap.size w w':=by
 have hmf:∀ (fn:Fn) (first cap:Array Value) (w:World),(Instr.makeFunc fn first cap).run Tryz.prog w=.ok (.func fn first cap) w:=fun _ _ _ _=>rfl
 obtain ⟨fv,gv,rfl,hf,hg,hgl⟩:=hc
 have HG:=Lh hg
 obtain ⟨fa,fcap,rfl,hfl,_,_,_⟩:=hf
 obtain ⟨ga,gcap,rfl,hgl2,hgl3,hgl4,hgE⟩:=hg
 obtain ⟨W,hW⟩:∃ W,W=(w.alloc (.cells #[.slice fa c.fields.length fcap,.int .i64 c.globals,.slice ga c.funcs.length gcap] 25)).alloc (.cells #[.string nm] 9):=⟨_,rfl⟩
 have hb0:Hid (Below w.heap.size w W):=by rw [hW];exact (Xa _ _).then (Xa _ _)
 have hcell:Hid (W.cell? ⟨w.heap.size+1,0,none⟩=some (.string nm)):=by rw [hW];refine Lh ?_;go_simp
 have HG1:=Lh (HG.out.funs (hb0.out.mono hB))
 have hsz:Hid (W.heap.size=w.heap.size+2):=by rw [hW];exact Lh (by simp)
 clear hgE
 go_enter Tryz.func64,Tryz.ntmps64
 go_wp2_with fail
 rw [←hW]
 have HW:=Lh hW
 clear hW
 refine (Xae 90 #[.pointer (some ⟨w.heap.size+1,0,none⟩)] (fun f=>Zt f.name nm) c.funcs _ B _ Xb2 (by have:=hsz.out;omega) HG1.out (Xgj nm _ B _ (by have:=hsz.out;omega) hcell.out)).mono ?_
 rintro e w' ⟨rfl,hb⟩
 go_wp2_with fail
 go_ret
 exact ⟨rfl,hb0.out.then hb⟩
def Qn (c:Cod) (x:Cal) (fuel:Int) (w:World) (e:Ending) (w':World):Prop:=
 (Yd c x fuel≠0∧e=.returned (.tuple #[Xi (.slice none 0 0) Xl,.int .i64 (Yd c x fuel)])∧Below w.heap.size w w')∨
 (Yd c x fuel=0∧∃ m' fv,Zm c (Zo c x fuel) m'∧e=.returned (.tuple #[Xi fv m',.int .i64 0])∧Qq w fv m' w')
theorem Xg4 (c:Cod) (x:Cal) (fuel:Int) (fa ga xa:Option Addr) (fn fc gn gc xn xc:Nat) (g:Int) (w:World) (hf:fuel<0∨1048576<fuel) :
  Calls Tryz.prog 33 #[.agg #[.slice fa fn fc,.int .i64 g,.slice ga gn gc],.agg #[.string x.proc,.slice xa xn xc],.int .i64 fuel] w (Qn c x fuel w):=by
 have hE:Hid (Yd c x fuel=2):=Lh (by unfold Yd;rw [if_pos hf])
 have hfin:∀ w',Below w.heap.size w w'→Qn c x fuel w (.returned (.tuple #[Xi (.slice none 0 0) Xl,.int .i64 2])) w':=fun w' hb=>.inl ⟨by rw [hE.out];decide,by rw [hE.out],hb⟩
 have HFIN:=Lh hfin
 clear hfin
 by_cases h0:fuel<0
 ·go_enter Tryz.func33,Tryz.ntmps33
  go_wp2_with fail
  exact bodyPost_ret (v:=.tuple #[Xi (.slice none 0 0) Xl,.int .i64 2]) (by simp [results,Tryz.results33,go_sem,Xi,Xb,Xl]) rfl (HFIN.out _ (((Xa _ _).then (Xa _ _)).then (Xa _ _)))
 ·have h1:1048576<fuel:=by omega
  have h00:decide (fuel<0)=false:=by simp;omega
  go_enter Tryz.func33,Tryz.ntmps33
  go_wp2_with fail
  exact bodyPost_ret (v:=.tuple #[Xi (.slice none 0 0) Xl,.int .i64 2]) (by simp [results,Tryz.results33,go_sem,Xi,Xb,Xl]) rfl (HFIN.out _ (((Xa _ _).then (Xa _ _)).then (Xa _ _)))
theorem Xis (c:Cod) (x:Cal) (fuel:Int) (fa ga xa:Option Addr) (fn fc gc xc:Nat) (g:Int) (B:Nat) (w:World) (hB:B≤w.heap.size) (hc:Yj B w (.agg #[.slice fa fn fc,.int .i64 g,.slice ga c.funcs.length gc]) c) (hx:Xf B w 1 Zd (.slice xa x.args.length xc) x.args) (hf:0≤fuel∧fuel≤1048576) (hi:Q8 c x.proc = -1) :
  Calls Tryz.prog 33 #[.agg #[.slice fa fn fc,.int .i64 g,.slice ga c.funcs.length gc],.agg #[.string x.proc,.slice xa x.args.length xc],.int .i64 fuel] w (Qn c x fuel w):=by
 have HI:=Lh hi
 have HE:Hid (Yd c x fuel=9):=Lh (by
  unfold Yd
  rw [if_neg (by omega)]
  cases c.funcs[(Q8 c x.proc).toNat]? with
  | none=>rfl
  | some y=>simp only [];rw [if_pos (by omega)])
 clear hi
 obtain ⟨W,hW⟩:∃ W,W=((w.alloc (.cells #[.slice fa fn fc,.int .i64 g,.slice ga c.funcs.length gc] 25)).alloc (.cells #[.string x.proc,.slice xa x.args.length xc] 27)).alloc (.cells #[.slice none 0 0,.int .i64 0,.int .i64 0,.int .i64 0,.int .i64 0,.int .i64 0,.int .i64 0,.int .i64 0,.int .i64 0] 36):=⟨_,rfl⟩
 have hWb:Hid (Below w.heap.size w W):=by rw [hW];exact ((Xa _ _).then (Xa _ _)).then (Xa _ _)
 have hsz:Hid (W.heap.size=w.heap.size+3):=by rw [hW];exact Lh (by simp)
 have b0:Hid (Xo W w.heap.size [.slice fa fn fc,.int .i64 g,.slice ga c.funcs.length gc]):=by rw [hW];exact Lh (Xd.alloc _ |>.alloc _)
 have b1:Hid (Xo W (w.heap.size+1) [.string x.proc,.slice xa x.args.length xc]):=by
  rw [hW]
  have:=(@Xd (w.alloc (.cells #[.slice fa fn fc,.int .i64 g,.slice ga c.funcs.length gc] 25)) #[.string x.proc,.slice xa x.args.length xc] 27).alloc (.cells #[.slice none 0 0,.int .i64 0,.int .i64 0,.int .i64 0,.int .i64 0,.int .i64 0,.int .i64 0,.int .i64 0,.int .i64 0] 36)
  exact Lh (by simpa using this)
 have b2:Hid (W.heap[w.heap.size+2]?=some (.cells #[.slice none 0 0,.int .i64 0,.int .i64 0,.int .i64 0,.int .i64 0,.int .i64 0,.int .i64 0,.int .i64 0,.int .i64 0] 36 (0,0))):=by
  rw [hW]
  have:=heap_alloc_new ((w.alloc (.cells #[.slice fa fn fc,.int .i64 g,.slice ga c.funcs.length gc] 25)).alloc (.cells #[.string x.proc,.slice xa x.args.length xc] 27)) (.cells #[.slice none 0 0,.int .i64 0,.int .i64 0,.int .i64 0,.int .i64 0,.int .i64 0,.int .i64 0,.int .i64 0,.int .i64 0] 36)
  exact Lh (by simpa using this)
 have HC:=Lh hc
 have HX:=Lh hx
 have hcW:=Lh (hc.below (hWb.out.mono hB))
 clear hc hx
 have hf1:=hf.1
 have hf2:=hf.2
 have hd0:decide (fuel<0)=false:=by simp;omega
 have hd1:decide (1048576<fuel)=false:=by simp;omega
 have hWB:B≤W.heap.size:=by have:=hsz.out;omega
 go_enter Tryz.func33,Tryz.ntmps33
 go_upto_region 3 with fail
 rw [←hW]
 have HW:=Lh hW
 clear hW
 have i0:=b0.out 0 _ rfl
 have i1:=b0.out 1 _ rfl
 have i2:=b0.out 2 _ rfl
 have i3:=b1.out 0 _ rfl
 have i4:=b1.out 1 _ rfl
 have z0:w.heap.size<W.heap.size:=by have:=hsz.out;omega
 have z1:w.heap.size+1<W.heap.size:=by have:=hsz.out;omega
 go_wp2_with fail
 refine (Ky c _ x.proc B W hWB hcW.out).mono ?_
 rintro e w1 ⟨rfl,hb1⟩
 rw [HI.out]
 have i0:=Xc hb1 i0
 have i1:=Xc hb1 i1
 have i2:=Xc hb1 i2
 have i3:=Xc hb1 i3
 have i4:=Xc hb1 i4
 have z0:=Bl i0
 have z1:=Bl i3
 have r1:Hid (w1.heap[w.heap.size+2]?=some (.cells #[.slice none 0 0,.int .i64 0,.int .i64 0,.int .i64 0,.int .i64 0,.int .i64 0,.int .i64 0,.int .i64 0,.int .i64 0] 36 (0,0))):=Lh (by rw [hb1.block _ (by have:=hsz.out;omega)];exact b2.out)
 have HB1:=Lh (hWb.out.then hb1)
 clear hb1
 have rc:∀ (j:Nat) (v:Value),(#[.slice none 0 0,.int .i64 0,.int .i64 0,.int .i64 0,.int .i64 0,.int .i64 0,.int .i64 0,.int .i64 0,.int .i64 0]:Array Value)[j]?=some v→w1.cell? ⟨w.heap.size+2,j,none⟩=some v:=fun j v hv=>by rw [cell_of_row _ _ _ _ _ _ r1.out];exact hv
 have rc0:=rc 0 (.slice none 0 0) rfl
 have rf0:w1.frozen? ⟨w.heap.size+2,0,none⟩=false:=Fz r1.out
 have rc1:=rc 1 (.int .i64 0) rfl
 have rf1:w1.frozen? ⟨w.heap.size+2,1,none⟩=false:=Fz r1.out
 have rc2:=rc 2 (.int .i64 0) rfl
 have rf2:w1.frozen? ⟨w.heap.size+2,2,none⟩=false:=Fz r1.out
 have rc3:=rc 3 (.int .i64 0) rfl
 have rf3:w1.frozen? ⟨w.heap.size+2,3,none⟩=false:=Fz r1.out
 have rc4:=rc 4 (.int .i64 0) rfl
 have rf4:w1.frozen? ⟨w.heap.size+2,4,none⟩=false:=Fz r1.out
 have rc5:=rc 5 (.int .i64 0) rfl
 have rf5:w1.frozen? ⟨w.heap.size+2,5,none⟩=false:=Fz r1.out
 have rc6:=rc 6 (.int .i64 0) rfl
 have rf6:w1.frozen? ⟨w.heap.size+2,6,none⟩=false:=Fz r1.out
 have rc7:=rc 7 (.int .i64 0) rfl
 have rf7:w1.frozen? ⟨w.heap.size+2,7,none⟩=false:=Fz r1.out
 have rc8:=rc 8 (.int .i64 0) rfl
 have rf8:w1.frozen? ⟨w.heap.size+2,8,none⟩=false:=Fz r1.out
 have rz:=(La r1.out)
 clear rc
 have hfin:=Lh (Xz (R:=w.heap.size+1+1) (fv0:=.slice none 0 0) (m0:=Xl) r1.out (.slice none 0 0) Xl)
 have HFB:Hid (Below w.heap.size w (Yp w1 (w.heap.size+1+1) (.slice none 0 0) Xl)):=Lh (HB1.out.trans (hfin.out.2.below (fun b hb=>by simp at hb;omega) HB1.out.size))
 go_wp2_with fail
 exact bodyPost_ret (Y6 rfl hfin.out.1 _ _ rfl rfl) rfl (.inl ⟨by rw [HE.out];decide,by rw [HE.out];rfl,HFB.out⟩)
theorem Xjh (c:Cod) (x:Cal) (fuel:Int) (fa ga xa:Option Addr) (fn fc gc xc:Nat) (g:Int) (B:Nat) (w:World) (hB:B≤w.heap.size) (hc:Yj B w (.agg #[.slice fa fn fc,.int .i64 g,.slice ga c.funcs.length gc]) c) (hx:Xf B w 1 Zd (.slice xa x.args.length xc) x.args) (hf:0≤fuel∧fuel≤1048576) (k:Nat) (hi:Q8 c x.proc=k) (y:Fun) (hy:c.funcs[k]?=some y) (hl:(x.args.length:Int)≠y.params) :
  Calls Tryz.prog 33 #[.agg #[.slice fa fn fc,.int .i64 g,.slice ga c.funcs.length gc],.agg #[.string x.proc,.slice xa x.args.length xc],.int .i64 fuel] w (Qn c x fuel w):=by
 have HI:=Lh hi
 have HXS:=Lh hx
 have HE:Hid (Yd c x fuel=3):=Lh (by
  unfold Yd
  rw [if_neg (by omega),hi]
  simp only [Int.toNat_natCast,hy]
  rw [if_neg (by omega),if_pos hl])
 clear hi
 obtain ⟨W,hW⟩:∃ W,W=((w.alloc (.cells #[.slice fa fn fc,.int .i64 g,.slice ga c.funcs.length gc] 25)).alloc (.cells #[.string x.proc,.slice xa x.args.length xc] 27)).alloc (.cells #[.slice none 0 0,.int .i64 0,.int .i64 0,.int .i64 0,.int .i64 0,.int .i64 0,.int .i64 0,.int .i64 0,.int .i64 0] 36):=⟨_,rfl⟩
 have hWb:Hid (Below w.heap.size w W):=by rw [hW];exact ((Xa _ _).then (Xa _ _)).then (Xa _ _)
 have hsz:Hid (W.heap.size=w.heap.size+3):=by rw [hW];exact Lh (by simp)
 have b0:Hid (Xo W w.heap.size [.slice fa fn fc,.int .i64 g,.slice ga c.funcs.length gc]):=by rw [hW];exact Lh (Xd.alloc _ |>.alloc _)
 have b1:Hid (Xo W (w.heap.size+1) [.string x.proc,.slice xa x.args.length xc]):=by
  rw [hW]
  have:=(@Xd (w.alloc (.cells #[.slice fa fn fc,.int .i64 g,.slice ga c.funcs.length gc] 25)) #[.string x.proc,.slice xa x.args.length xc] 27).alloc (.cells #[.slice none 0 0,.int .i64 0,.int .i64 0,.int .i64 0,.int .i64 0,.int .i64 0,.int .i64 0,.int .i64 0,.int .i64 0] 36)
  exact Lh (by simpa using this)
 have b2:Hid (W.heap[w.heap.size+2]?=some (.cells #[.slice none 0 0,.int .i64 0,.int .i64 0,.int .i64 0,.int .i64 0,.int .i64 0,.int .i64 0,.int .i64 0,.int .i64 0] 36 (0,0))):=by
  rw [hW]
  have:=heap_alloc_new ((w.alloc (.cells #[.slice fa fn fc,.int .i64 g,.slice ga c.funcs.length gc] 25)).alloc (.cells #[.string x.proc,.slice xa x.args.length xc] 27)) (.cells #[.slice none 0 0,.int .i64 0,.int .i64 0,.int .i64 0,.int .i64 0,.int .i64 0,.int .i64 0,.int .i64 0,.int .i64 0] 36)
  exact Lh (by simpa using this)
 have HC:=Lh hc
 have HX:=Lh hx
 have hcW:=Lh (hc.below (hWb.out.mono hB))
 clear hc hx
 have hgs:Xf B w 5 (Zl B) (.slice ga c.funcs.length gc) c.funcs:=by
  obtain ⟨fv0,gv0,heq,_,h2,_⟩:=HC.out
  simp only [Value.agg.injEq,Array.mk.injEq,List.cons.injEq,and_true] at heq
  obtain ⟨_,_,rfl⟩:=heq
  exact h2
 have HGS:=Lh hgs
 obtain ⟨a0,cap0,he0,hl1,hl2,hl3,hE⟩:=hgs
 obtain ⟨rfl,rfl⟩:ga=a0∧gc=cap0:=by simpa using he0
 have hkl:k<c.funcs.length:=(Ll hy)
 rcases hE with h0|⟨yb,yo,rfl,hybB,hE⟩
 ·rw [h0] at hy;simp at hy
 have hEk:=Lh (hE k y hy)
 obtain ⟨a1,cap1,he1,hxl1,hxl2,hxl3,hxE⟩:=HXS.out
 obtain ⟨rfl,rfl⟩:xa=a1∧xc=cap1:=by simpa using he1
 clear he0 he1 hE hxE
 have HY:=Lh hy
 clear hy
 have hf1:=hf.1
 have hf2:=hf.2
 have hd0:decide (fuel<0)=false:=by simp;omega
 have hd1:decide (1048576<fuel)=false:=by simp;omega
 have hWB:B≤W.heap.size:=by have:=hsz.out;omega
 go_enter Tryz.func33,Tryz.ntmps33
 go_upto_region 3 with fail
 rw [←hW]
 have HW:=Lh hW
 clear hW
 have i0:=b0.out 0 _ rfl
 have i1:=b0.out 1 _ rfl
 have i2:=b0.out 2 _ rfl
 have i3:=b1.out 0 _ rfl
 have i4:=b1.out 1 _ rfl
 have z0:w.heap.size<W.heap.size:=by have:=hsz.out;omega
 have z1:w.heap.size+1<W.heap.size:=by have:=hsz.out;omega
 go_wp2_with fail
 refine (Ky c _ x.proc B W hWB hcW.out).mono ?_
 rintro e w1 ⟨rfl,hb1⟩
 rw [HI.out]
 have i0:=Xc hb1 i0
 have i1:=Xc hb1 i1
 have i2:=Xc hb1 i2
 have i3:=Xc hb1 i3
 have i4:=Xc hb1 i4
 have z0:=Bl i0
 have z1:=Bl i3
 have r1:Hid (w1.heap[w.heap.size+2]?=some (.cells #[.slice none 0 0,.int .i64 0,.int .i64 0,.int .i64 0,.int .i64 0,.int .i64 0,.int .i64 0,.int .i64 0,.int .i64 0] 36 (0,0))):=Lh (by rw [hb1.block _ (by have:=hsz.out;omega)];exact b2.out)
 have HB1:=Lh (hWb.out.then hb1)
 clear hb1
 have rc:∀ (j:Nat) (v:Value),(#[.slice none 0 0,.int .i64 0,.int .i64 0,.int .i64 0,.int .i64 0,.int .i64 0,.int .i64 0,.int .i64 0,.int .i64 0]:Array Value)[j]?=some v→w1.cell? ⟨w.heap.size+2,j,none⟩=some v:=fun j v hv=>by rw [cell_of_row _ _ _ _ _ _ r1.out];exact hv
 have rc0:=rc 0 (.slice none 0 0) rfl
 have rf0:w1.frozen? ⟨w.heap.size+2,0,none⟩=false:=Fz r1.out
 have rc1:=rc 1 (.int .i64 0) rfl
 have rf1:w1.frozen? ⟨w.heap.size+2,1,none⟩=false:=Fz r1.out
 have rc2:=rc 2 (.int .i64 0) rfl
 have rf2:w1.frozen? ⟨w.heap.size+2,2,none⟩=false:=Fz r1.out
 have rc3:=rc 3 (.int .i64 0) rfl
 have rf3:w1.frozen? ⟨w.heap.size+2,3,none⟩=false:=Fz r1.out
 have rc4:=rc 4 (.int .i64 0) rfl
 have rf4:w1.frozen? ⟨w.heap.size+2,4,none⟩=false:=Fz r1.out
 have rc5:=rc 5 (.int .i64 0) rfl
 have rf5:w1.frozen? ⟨w.heap.size+2,5,none⟩=false:=Fz r1.out
 have rc6:=rc 6 (.int .i64 0) rfl
 have rf6:w1.frozen? ⟨w.heap.size+2,6,none⟩=false:=Fz r1.out
 have rc7:=rc 7 (.int .i64 0) rfl
 have rf7:w1.frozen? ⟨w.heap.size+2,7,none⟩=false:=Fz r1.out
 have rc8:=rc 8 (.int .i64 0) rfl
 have rf8:w1.frozen? ⟨w.heap.size+2,8,none⟩=false:=Fz r1.out
 have rz:=(La r1.out)
 clear rc
 have hE1:=hEk.out.below (HB1.out.mono hB) hybB
 have p1:=hE1.2.1
 have p2:=hE1.2.2.1
 have hyb:=Bl p1
 have hk0:(0:Int)≤(k:Int):=Int.natCast_nonneg _
 have hk1:(k:Int)<(c.funcs.length:Int):=by omega
 have hkn:decide ((k:Int)<0)=false:=by simp
 have HE1:=Lh hE1
 clear hE1
 have hne:((x.args.length:Int) == y.params)=false:=by simp [hl]
 have hne2:((x.args.length:Int) != y.params)=true:=by simp [hl]
 have hne3:¬(x.args.length:Int)=y.params:=hl
 clear hl
 go_wp2_with fail
 go_quiet (fail)
 have hfin:=Lh (Xz (R:=w.heap.size+1+1) (fv0:=.slice none 0 0) (m0:=Xl) (W:=w1.drewN nq) r1.out (.slice none 0 0) Xl)
 have HFB:Hid (Below w.heap.size w (Yp (w1.drewN nq) (w.heap.size+1+1) (.slice none 0 0) Xl)):=Lh ((Xh HB1.out nq).trans (hfin.out.2.below (fun b hb=>by simp at hb;omega) (Xh HB1.out nq).size))
 go_wp2_with fail
 exact bodyPost_ret (Y6 rfl hfin.out.1 _ _ rfl rfl) rfl (.inl ⟨by rw [HE.out];decide,by rw [HE.out];rfl,HFB.out⟩)
theorem Xjo (c:Cod) (x:Cal) (fuel:Int) (fa ga xa:Option Addr) (fn fc gc xc:Nat) (g:Int) (B:Nat) (w:World) (hB:B≤w.heap.size) (hc:Yj B w (.agg #[.slice fa fn fc,.int .i64 g,.slice ga c.funcs.length gc]) c) (hx:Xf B w 1 Zd (.slice xa x.args.length xc) x.args) (hf:0≤fuel∧fuel≤1048576) (k:Nat) (hi:Q8 c x.proc=k) (y:Fun) (hy:c.funcs[k]?=some y) (hl:(x.args.length:Int)=y.params) (hv:x.args.any (fun n=>!X1 n)=true) :
  Calls Tryz.prog 33 #[.agg #[.slice fa fn fc,.int .i64 g,.slice ga c.funcs.length gc],.agg #[.string x.proc,.slice xa x.args.length xc],.int .i64 fuel] w (Qn c x fuel w):=by
 have HI:=Lh hi
 have HXS:=Lh hx
 have HV:=Lh hv
 have HE:Hid (Yd c x fuel=11):=Lh (by
  unfold Yd
  rw [if_neg (by omega),hi]
  simp only [Int.toNat_natCast,hy]
  rw [if_neg (by omega),if_neg (by simp [hl]),if_pos hv])
 clear hi hv
 obtain ⟨W,hW⟩:∃ W,W=((w.alloc (.cells #[.slice fa fn fc,.int .i64 g,.slice ga c.funcs.length gc] 25)).alloc (.cells #[.string x.proc,.slice xa x.args.length xc] 27)).alloc (.cells #[.slice none 0 0,.int .i64 0,.int .i64 0,.int .i64 0,.int .i64 0,.int .i64 0,.int .i64 0,.int .i64 0,.int .i64 0] 36):=⟨_,rfl⟩
 have hWb:Hid (Below w.heap.size w W):=by rw [hW];exact ((Xa _ _).then (Xa _ _)).then (Xa _ _)
 have hsz:Hid (W.heap.size=w.heap.size+3):=by rw [hW];exact Lh (by simp)
 have b0:Hid (Xo W w.heap.size [.slice fa fn fc,.int .i64 g,.slice ga c.funcs.length gc]):=by rw [hW];exact Lh (Xd.alloc _ |>.alloc _)
 have b1:Hid (Xo W (w.heap.size+1) [.string x.proc,.slice xa x.args.length xc]):=by
  rw [hW]
  have:=(@Xd (w.alloc (.cells #[.slice fa fn fc,.int .i64 g,.slice ga c.funcs.length gc] 25)) #[.string x.proc,.slice xa x.args.length xc] 27).alloc (.cells #[.slice none 0 0,.int .i64 0,.int .i64 0,.int .i64 0,.int .i64 0,.int .i64 0,.int .i64 0,.int .i64 0,.int .i64 0] 36)
  exact Lh (by simpa using this)
 have b2:Hid (W.heap[w.heap.size+2]?=some (.cells #[.slice none 0 0,.int .i64 0,.int .i64 0,.int .i64 0,.int .i64 0,.int .i64 0,.int .i64 0,.int .i64 0,.int .i64 0] 36 (0,0))):=by
  rw [hW]
  have:=heap_alloc_new ((w.alloc (.cells #[.slice fa fn fc,.int .i64 g,.slice ga c.funcs.length gc] 25)).alloc (.cells #[.string x.proc,.slice xa x.args.length xc] 27)) (.cells #[.slice none 0 0,.int .i64 0,.int .i64 0,.int .i64 0,.int .i64 0,.int .i64 0,.int .i64 0,.int .i64 0,.int .i64 0] 36)
  exact Lh (by simpa using this)
 have HC:=Lh hc
 have HX:=Lh hx
 have hcW:=Lh (hc.below (hWb.out.mono hB))
 clear hc hx
 have hgs:Xf B w 5 (Zl B) (.slice ga c.funcs.length gc) c.funcs:=by
  obtain ⟨fv0,gv0,heq,_,h2,_⟩:=HC.out
  simp only [Value.agg.injEq,Array.mk.injEq,List.cons.injEq,and_true] at heq
  obtain ⟨_,_,rfl⟩:=heq
  exact h2
 have HGS:=Lh hgs
 obtain ⟨a0,cap0,he0,hl1,hl2,hl3,hE⟩:=hgs
 obtain ⟨rfl,rfl⟩:ga=a0∧gc=cap0:=by simpa using he0
 have hkl:k<c.funcs.length:=(Ll hy)
 rcases hE with h0|⟨yb,yo,rfl,hybB,hE⟩
 ·rw [h0] at hy;simp at hy
 have hEk:=Lh (hE k y hy)
 obtain ⟨a1,cap1,he1,hxl1,hxl2,hxl3,hxE⟩:=HXS.out
 obtain ⟨rfl,rfl⟩:xa=a1∧xc=cap1:=by simpa using he1
 clear he0 he1 hE hxE
 have HY:=Lh hy
 clear hy
 have hf1:=hf.1
 have hf2:=hf.2
 have hd0:decide (fuel<0)=false:=by simp;omega
 have hd1:decide (1048576<fuel)=false:=by simp;omega
 have hWB:B≤W.heap.size:=by have:=hsz.out;omega
 go_enter Tryz.func33,Tryz.ntmps33
 go_upto_region 3 with fail
 rw [←hW]
 have HW:=Lh hW
 clear hW
 have i0:=b0.out 0 _ rfl
 have i1:=b0.out 1 _ rfl
 have i2:=b0.out 2 _ rfl
 have i3:=b1.out 0 _ rfl
 have i4:=b1.out 1 _ rfl
 have z0:w.heap.size<W.heap.size:=by have:=hsz.out;omega
 have z1:w.heap.size+1<W.heap.size:=by have:=hsz.out;omega
 go_wp2_with fail
 refine (Ky c _ x.proc B W hWB hcW.out).mono ?_
 rintro e w1 ⟨rfl,hb1⟩
 rw [HI.out]
 have i0:=Xc hb1 i0
 have i1:=Xc hb1 i1
 have i2:=Xc hb1 i2
 have i3:=Xc hb1 i3
 have i4:=Xc hb1 i4
 have z0:=Bl i0
 have z1:=Bl i3
 have r1:Hid (w1.heap[w.heap.size+2]?=some (.cells #[.slice none 0 0,.int .i64 0,.int .i64 0,.int .i64 0,.int .i64 0,.int .i64 0,.int .i64 0,.int .i64 0,.int .i64 0] 36 (0,0))):=Lh (by rw [hb1.block _ (by have:=hsz.out;omega)];exact b2.out)
 have HB1:=Lh (hWb.out.then hb1)
 clear hb1
 have hE1:=hEk.out.below (HB1.out.mono hB) hybB
 have p1:=hE1.2.1
 have p2:=hE1.2.2.1
 have hyb:=Bl p1
 have hk0:(0:Int)≤(k:Int):=Int.natCast_nonneg _
 have hk1:(k:Int)<(c.funcs.length:Int):=by omega
 have hkn:decide ((k:Int)<0)=false:=by simp
 have HE1:=Lh hE1
 clear hE1
 have hne:((x.args.length:Int) == y.params)=true:=by simp [hl]
 have hne2:((x.args.length:Int) != y.params)=false:=by simp [hl]
 rw [←hl] at p1
 have HLN:=Lh hl
 clear hl
 go_wp2_with fail
 go_quiet (fail)
 have HB1q:=Lh (Xh HB1.out nq)
 have hxq:=Lh (HXS.out.ints (HB1q.out.mono hB))
 go_wp2_with fail
 refine (Y3 65 #[] (fun n=>!X1 n) x.args _ B _ Xaq (Nat.le_trans hB HB1q.out.size) hxq.out (Xe6 _)).mono ?_
 rintro e w2 ⟨rfl,hb2⟩
 rw [HV.out]
 have r1q:(w1.drewN nq).heap[w.heap.size+2]?=some (.cells #[.slice none 0 0,.int .i64 0,.int .i64 0,.int .i64 0,.int .i64 0,.int .i64 0,.int .i64 0,.int .i64 0,.int .i64 0] 36 (0,0)):=r1.out
 have r2:Hid (w2.heap[w.heap.size+2]?=some (.cells #[.slice none 0 0,.int .i64 0,.int .i64 0,.int .i64 0,.int .i64 0,.int .i64 0,.int .i64 0,.int .i64 0,.int .i64 0] 36 (0,0))):=Lh (by rw [hb2.block _ (La r1q)];exact r1q)
 have HB2:=Lh (HB1q.out.then hb2)
 have HX2:=Lh (HXS.out.ints (HB2.out.mono hB))
 clear hb2
 have rc:∀ (j:Nat) (v:Value),(#[.slice none 0 0,.int .i64 0,.int .i64 0,.int .i64 0,.int .i64 0,.int .i64 0,.int .i64 0,.int .i64 0,.int .i64 0]:Array Value)[j]?=some v→w2.cell? ⟨w.heap.size+2,j,none⟩=some v:=fun j v hv=>by rw [cell_of_row _ _ _ _ _ _ r2.out];exact hv
 have rc0:=rc 0 (.slice none 0 0) rfl
 have rf0:w2.frozen? ⟨w.heap.size+2,0,none⟩=false:=Fz r2.out
 have rc1:=rc 1 (.int .i64 0) rfl
 have rf1:w2.frozen? ⟨w.heap.size+2,1,none⟩=false:=Fz r2.out
 have rc2:=rc 2 (.int .i64 0) rfl
 have rf2:w2.frozen? ⟨w.heap.size+2,2,none⟩=false:=Fz r2.out
 have rc3:=rc 3 (.int .i64 0) rfl
 have rf3:w2.frozen? ⟨w.heap.size+2,3,none⟩=false:=Fz r2.out
 have rc4:=rc 4 (.int .i64 0) rfl
 have rf4:w2.frozen? ⟨w.heap.size+2,4,none⟩=false:=Fz r2.out
 have rc5:=rc 5 (.int .i64 0) rfl
 have rf5:w2.frozen? ⟨w.heap.size+2,5,none⟩=false:=Fz r2.out
 have rc6:=rc 6 (.int .i64 0) rfl
 have rf6:w2.frozen? ⟨w.heap.size+2,6,none⟩=false:=Fz r2.out
 have rc7:=rc 7 (.int .i64 0) rfl
 have rf7:w2.frozen? ⟨w.heap.size+2,7,none⟩=false:=Fz r2.out
 have rc8:=rc 8 (.int .i64 0) rfl
 have rf8:w2.frozen? ⟨w.heap.size+2,8,none⟩=false:=Fz r2.out
 have rz:=(La r2.out)
 clear rc
 have hfin:=Lh (Xz (R:=w.heap.size+1+1) (fv0:=.slice none 0 0) (m0:=Xl) r2.out (.slice none 0 0) Xl)
 have HFB:Hid (Below w.heap.size w (Yp w2 (w.heap.size+1+1) (.slice none 0 0) Xl)):=Lh (HB2.out.trans (hfin.out.2.below (fun b hb=>by simp at hb;omega) HB2.out.size))
 go_wp2_with fail
 exact bodyPost_ret (Y6 rfl hfin.out.1 _ _ rfl rfl) rfl (.inl ⟨by rw [HE.out];decide,by rw [HE.out];rfl,HFB.out⟩)
theorem Xny {w:World} {bl:Nat} {l:List Int} (h:w.heap[bl]?=some (.cells (Xx l) 3 (0,0))) (hl:l.length≤1000000) (h64:∀ n∈l,in64 n):Yv w (.slice (some ⟨bl,0,none⟩) l.length l.length) l [bl]:=
 ⟨⟨by simp,.inr ⟨bl,l.length,Xx l,rfl,Nat.zero_le _,h,Nat.le_refl _,by unfold maxLen;omega,by simp [Xx],by simp only [Xx,Nat.mul_one];exact List.take_of_length_le (by simp)⟩⟩,rfl,h64⟩
theorem Xbt (b o j:Nat):(⟨b,o,none⟩:Addr).add j=⟨b,o+j,none⟩:=by unfold Addr.add;split<;>simp_all
/-- a machine with one frame, in three blocks -/
theorem Xlt {w:World} {bm fb bl:Nat} {m:Mch} {f:Fra} (hm:w.heap[bm]?=some (.cells (Xb (.slice (some ⟨fb,0,none⟩) 1 1) m) 36 (0,0))) (hf:w.heap[fb]?=some (.cells #[.int .i64 f.fn,.int .i64 f.pc,.slice (some ⟨bl,0,none⟩) f.locals.length f.locals.length,.slice none 0 0] 83 (0,0)))
  (hl:w.heap[bl]?=some (.cells (Xx f.locals) 3 (0,0))) (hll:f.locals.length≤1000000) (h64:∀ n∈f.locals,in64 n) (hst:f.stack=[]) (h1:in64 f.fn) (h2:in64 f.pc) (hfr:m.frames=[f]) (n1:bm≠fb) (n2:bm≠bl) (n3:fb≠bl):X3 w bm m [bm,fb,bl]:=by
 refine Xt.2 ⟨_,[fb,bl],hm,⟨[.int .i64 f.fn,.int .i64 f.pc,.slice (some ⟨bl,0,none⟩) f.locals.length f.locals.length,.slice none 0 0],[bl],?_,?_,rfl,by simp [n3]⟩,rfl,by simp [n1,n2]⟩
 ·rw [hfr]
  exact ⟨rfl,.inr ⟨fb,1,_,rfl,Nat.zero_le _,hf,Nat.le_refl _,by unfold maxLen;omega,rfl,rfl⟩⟩
 ·rw [hfr]
  exact ⟨_,_,[],[bl],[],[],rfl,Xny hl hll h64,by rw [hst];exact ⟨World.ownsRow_nil _ _ _ _,rfl,by simp⟩,h1,h2,⟨rfl,rfl⟩,by simp⟩
theorem Xk5 (c:Cod) (x:Cal) (fuel:Int) (fa ga xa:Option Addr) (fn fc gc xc:Nat) (g:Int) (B:Nat) (w:World) (hB:B≤w.heap.size) (hc:Yj B w (.agg #[.slice fa fn fc,.int .i64 g,.slice ga c.funcs.length gc]) c) (hx:Xf B w 1 Zd (.slice xa x.args.length xc) x.args) (hf:0≤fuel∧fuel≤1048576) (k:Nat) (hi:Q8 c x.proc=k) (y:Fun) (hy:c.funcs[k]?=some y) (hl:(x.args.length:Int)=y.params) (hv:x.args.any (fun n=>!X1 n)=false) (hs:Xv c) (hsm:Zb c) :
  Calls Tryz.prog 33 #[.agg #[.slice fa fn fc,.int .i64 g,.slice ga c.funcs.length gc],.agg #[.string x.proc,.slice xa x.args.length xc],.int .i64 fuel] w (Qn c x fuel w):=by
 have HI:=Lh hi
 have HXS:=Lh hx
 have HV:=Lh hv
 have HE:Hid (Yd c x fuel=0):=Lh (by
  unfold Yd
  rw [if_neg (by omega),hi]
  simp only [Int.toNat_natCast,hy]
  rw [if_neg (by omega),if_neg (by simp [hl]),if_neg (by simp [hv])])
 have hfo:=hs.fok hy
 unfold Zr at hfo
 obtain ⟨q,hq⟩:∃ q:Nat,y.locals=x.args.length+q:=⟨(y.locals - y.params).toNat,by omega⟩
 have hsM:Hid (Zo c x fuel=⟨[⟨(k:Int),0,x.args++List.replicate q 0,[]⟩],⟨0,0,0,0,0⟩,fuel,0,0⟩):=Lh (by
  unfold Zo
  rw [hi]
  simp only [Int.toNat_natCast,hy,Option.map_some,Option.getD_some]
  rw [show (y.locals - y.params).toNat=q by omega])
 have hargs:∀ n∈x.args,isV n:=fun n hn=>by
  rw [List.any_eq_false] at hv
  have:=hv n hn
  simp at this
  exact Ye.1 this
 have hlocs:Hid (∀ n∈x.args++List.replicate q 0,isV n):=Lh (fun n hn=>by
  rw [List.mem_append,List.mem_replicate] at hn
  rcases hn with h|h
  ·exact hargs n h
  ·rw [h.2];unfold isV;omega)
 have hgood:Hid (Ja c ⟨[⟨(k:Int),0,x.args++List.replicate q 0,[]⟩],⟨0,0,0,0,0⟩,fuel,0,0⟩ [] ⟨(k:Int),0,x.args++List.replicate q 0,[]⟩):=Lh
  ⟨rfl,⟨y,⟨by show (0:Int)≤(k:Int);omega,by show c.funcs[(k:Int).toNat]?=some y;rw [Int.toNat_natCast];exact hy,by show (0:Int)≤0;omega,by show ((x.args++List.replicate q 0).length:Int)=y.locals;rw [List.length_append,List.length_replicate];omega,hlocs.out,by simp⟩,Reach.zero c y⟩,trivial,by simp,⟨hf.1,by show (0:Int)≤0;omega,by show (0:Int)≤100000;omega,by show (0:Int)≤0;omega,by show (0:Int)+(fuel*100001+(100000 - 0))≤_;omega⟩⟩
 obtain ⟨n,hn⟩:∃ n:Nat,n=x.args.length+q:=⟨_,rfl⟩
 have HN:=Lh hn
 have hyl:Hid (y.locals=(n:Int)):=Lh (by omega)
 have hq2:n≤100:=by omega
 clear hn
 clear hi hv hq hargs
 obtain ⟨W,hW⟩:∃ W,W=((w.alloc (.cells #[.slice fa fn fc,.int .i64 g,.slice ga c.funcs.length gc] 25)).alloc (.cells #[.string x.proc,.slice xa x.args.length xc] 27)).alloc (.cells #[.slice none 0 0,.int .i64 0,.int .i64 0,.int .i64 0,.int .i64 0,.int .i64 0,.int .i64 0,.int .i64 0,.int .i64 0] 36):=⟨_,rfl⟩
 have hWb:Hid (Below w.heap.size w W):=by rw [hW];exact ((Xa _ _).then (Xa _ _)).then (Xa _ _)
 have hsz:Hid (W.heap.size=w.heap.size+3):=by rw [hW];exact Lh (by simp)
 have b0:Hid (Xo W w.heap.size [.slice fa fn fc,.int .i64 g,.slice ga c.funcs.length gc]):=by rw [hW];exact Lh (Xd.alloc _ |>.alloc _)
 have b1:Hid (Xo W (w.heap.size+1) [.string x.proc,.slice xa x.args.length xc]):=by
  rw [hW]
  have:=(@Xd (w.alloc (.cells #[.slice fa fn fc,.int .i64 g,.slice ga c.funcs.length gc] 25)) #[.string x.proc,.slice xa x.args.length xc] 27).alloc (.cells #[.slice none 0 0,.int .i64 0,.int .i64 0,.int .i64 0,.int .i64 0,.int .i64 0,.int .i64 0,.int .i64 0,.int .i64 0] 36)
  exact Lh (by simpa using this)
 have b2:Hid (W.heap[w.heap.size+2]?=some (.cells #[.slice none 0 0,.int .i64 0,.int .i64 0,.int .i64 0,.int .i64 0,.int .i64 0,.int .i64 0,.int .i64 0,.int .i64 0] 36 (0,0))):=by
  rw [hW]
  have:=heap_alloc_new ((w.alloc (.cells #[.slice fa fn fc,.int .i64 g,.slice ga c.funcs.length gc] 25)).alloc (.cells #[.string x.proc,.slice xa x.args.length xc] 27)) (.cells #[.slice none 0 0,.int .i64 0,.int .i64 0,.int .i64 0,.int .i64 0,.int .i64 0,.int .i64 0,.int .i64 0,.int .i64 0] 36)
  exact Lh (by simpa using this)
 have HC:=Lh hc
 have HX:=Lh hx
 have hcW:=Lh (hc.below (hWb.out.mono hB))
 clear hc hx
 have hgs:Xf B w 5 (Zl B) (.slice ga c.funcs.length gc) c.funcs:=by
  obtain ⟨fv0,gv0,heq,_,h2,_⟩:=HC.out
  simp only [Value.agg.injEq,Array.mk.injEq,List.cons.injEq,and_true] at heq
  obtain ⟨_,_,rfl⟩:=heq
  exact h2
 have HGS:=Lh hgs
 obtain ⟨a0,cap0,he0,hl1,hl2,hl3,hE⟩:=hgs
 obtain ⟨rfl,rfl⟩:ga=a0∧gc=cap0:=by simpa using he0
 have hkl:k<c.funcs.length:=(Ll hy)
 rcases hE with h0|⟨yb,yo,rfl,hybB,hE⟩
 ·rw [h0] at hy;simp at hy
 have hEk:=Lh (hE k y hy)
 obtain ⟨a1,cap1,he1,hxl1,hxl2,hxl3,hxE⟩:=HXS.out
 obtain ⟨rfl,rfl⟩:xa=a1∧xc=cap1:=by simpa using he1
 clear he0 he1 hE hxE
 have HY:=Lh hy
 clear hy
 have hf1:=hf.1
 have hf2:=hf.2
 have hd0:decide (fuel<0)=false:=by simp;omega
 have hd1:decide (1048576<fuel)=false:=by simp;omega
 have hWB:B≤W.heap.size:=by have:=hsz.out;omega
 go_enter Tryz.func33,Tryz.ntmps33
 go_upto_region 3 with fail
 rw [←hW]
 have HW:=Lh hW
 clear hW
 have i0:=b0.out 0 _ rfl
 have i1:=b0.out 1 _ rfl
 have i2:=b0.out 2 _ rfl
 have i3:=b1.out 0 _ rfl
 have i4:=b1.out 1 _ rfl
 have z0:w.heap.size<W.heap.size:=by have:=hsz.out;omega
 have z1:w.heap.size+1<W.heap.size:=by have:=hsz.out;omega
 go_wp2_with fail
 refine (Ky c _ x.proc B W hWB hcW.out).mono ?_
 rintro e w1 ⟨rfl,hb1⟩
 rw [HI.out]
 have i0:=Xc hb1 i0
 have i1:=Xc hb1 i1
 have i2:=Xc hb1 i2
 have i3:=Xc hb1 i3
 have i4:=Xc hb1 i4
 have z0:=Bl i0
 have z1:=Bl i3
 have r1:Hid (w1.heap[w.heap.size+2]?=some (.cells #[.slice none 0 0,.int .i64 0,.int .i64 0,.int .i64 0,.int .i64 0,.int .i64 0,.int .i64 0,.int .i64 0,.int .i64 0] 36 (0,0))):=Lh (by rw [hb1.block _ (by have:=hsz.out;omega)];exact b2.out)
 have HB1:=Lh (hWb.out.then hb1)
 clear hb1
 have hE1:=hEk.out.below (HB1.out.mono hB) hybB
 have p1:=hE1.2.1
 have p2:=hE1.2.2.1
 have hyb:=Bl p1
 have hk0:(0:Int)≤(k:Int):=Int.natCast_nonneg _
 have hk1:(k:Int)<(c.funcs.length:Int):=by omega
 have hkn:decide ((k:Int)<0)=false:=by simp
 have HE1:=Lh hE1
 clear hE1
 have hne:((x.args.length:Int) == y.params)=true:=by simp [hl]
 have hne2:((x.args.length:Int) != y.params)=false:=by simp [hl]
 rw [←hl] at p1
 have HLN:=Lh hl
 clear hl
 go_wp2_with fail
 go_quiet (fail)
 have HB1q:=Lh (Xh HB1.out nq)
 have hxq:=Lh (HXS.out.ints (HB1q.out.mono hB))
 go_wp2_with fail
 refine (Y3 65 #[] (fun n=>!X1 n) x.args _ B _ Xaq (Nat.le_trans hB HB1q.out.size) hxq.out (Xe6 _)).mono ?_
 rintro e w2 ⟨rfl,hb2⟩
 rw [HV.out]
 have r1q:(w1.drewN nq).heap[w.heap.size+2]?=some (.cells #[.slice none 0 0,.int .i64 0,.int .i64 0,.int .i64 0,.int .i64 0,.int .i64 0,.int .i64 0,.int .i64 0,.int .i64 0] 36 (0,0)):=r1.out
 have r2:Hid (w2.heap[w.heap.size+2]?=some (.cells #[.slice none 0 0,.int .i64 0,.int .i64 0,.int .i64 0,.int .i64 0,.int .i64 0,.int .i64 0,.int .i64 0,.int .i64 0] 36 (0,0))):=Lh (by rw [hb2.block _ (La r1q)];exact r1q)
 have HB2:=Lh (HB1q.out.then hb2)
 have HX2:=Lh (HXS.out.ints (HB2.out.mono hB))
 have i2q:(w1.drewN nq).cell? _=_:=i2
 have i4q:(w1.drewN nq).cell? _=_:=i4
 have p2q:(w1.drewN nq).cell? _=_:=p2
 have i0q:(w1.drewN nq).cell? _=_:=i0
 have i1q:(w1.drewN nq).cell? _=_:=i1
 have j0:=Xc hb2 i0q
 have j1:=Xc hb2 i1q
 have j2:=Xc hb2 i2q
 have j4:=Xc hb2 i4q
 have s2:=Xc hb2 p2q
 rw [hyl.out] at s2
 have jz0:=Bl j2
 have jz1:=Bl j4
 have jz2:=Bl s2
 clear i0 i1 i2 i3 i4 p1 p2 i2q i4q p2q i0q i1q hyb z0 z1 hb2
 have hmk:=fun W=>K7 W n (by omega)
 go_upto_region 11 with fail
 obtain ⟨W3,hW3⟩:∃ W,W=w2.alloc (.cells (Xx (List.replicate n 0)) 3):=⟨_,rfl⟩
 obtain ⟨bl,hbl⟩:∃ b,b=w2.heap.size:=⟨_,rfl⟩
 have hb3:Hid (Below w2.heap.size w2 W3):=by rw [hW3];exact Xa _ _
 have g3:Hid (W3.heap[bl]?=some (.cells ((List.replicate n 0).map (Value.int .i64)).toArray 3 (0,0))):=by rw [hW3,hbl];exact Lh (heap_alloc_new _ _)
 have hx3:=HX2.out.ints ((hb3.out.mono (Nat.le_trans hB HB2.out.size)))
 have hsrc:Hid (0<(x.args.map (Value.int .i64)).length→some (⟨bl,0,none⟩:Addr)=some ⟨bl,0,none⟩∧∃ ad,xa=some ad∧∀ j v,(x.args.map (Value.int .i64))[j]?=some v→W3.cell? (ad.add j)=some v):=Lh (fun hpos=>by
  obtain ⟨a1,cap1,he1,_,_,_,hxE⟩:=hx3
  obtain ⟨rfl,rfl⟩:xa=a1∧xc=cap1:=by simpa using he1
  rcases hxE with h0|⟨xb,xo,rfl,_,hxE⟩
  ·rw [h0] at hpos;simp at hpos
  ·refine ⟨rfl,_,rfl,fun j v hj=>?_⟩
   rw [List.getElem?_map] at hj
   cases hg:x.args[j]? with
   | none=>rw [hg] at hj;simp at hj
   | some u=>
    rw [hg] at hj
    simp at hj
    subst hj
    have:=(hxE j u hg).1
    rw [Nat.mul_one] at this
    rw [Xbt]
    exact this)
 rw [←hW3,← hbl]
 have j0:=Xc hb3.out j0
 have j1:=Xc hb3.out j1
 have j2:=Xc hb3.out j2
 have j4:=Xc hb3.out j4
 have jz0:=Bl j2
 have jz1:=Bl j4
 have hjb0:w.heap.size<bl:=by rw [hbl];assumption
 have hjb1:w.heap.size+1<bl:=by rw [hbl];assumption
 have hlen:(x.args.map (Value.int .i64)).length=Nat.min x.args.length n:=by have:=HN.out;rw [List.length_map];exact (Nat.min_eq_left (by omega)).symm
 have hfit:0+(x.args.map (Value.int .i64)).length≤((List.replicate n 0).map (Value.int .i64)).length:=by have:=HN.out;simp;omega
 have hone:∀ v∈x.args.map (Value.int .i64),v.oneCell'=true:=fun v hv=>by
  rw [List.mem_map] at hv
  obtain ⟨_,_,rfl⟩:=hv
  rfl
 have HLEN:=Lh hlen
 have HFIT:=Lh hfit
 have HONE:=Lh hone
 have HW3:=Lh hW3
 have HBL:=Lh hbl
 clear hW3 hbl hx3 hlen hfit hone
 go_wp2_with (with_reducible refine wpList_copy_splice rfl (.tmp 50) (.tmp 52) 22 22 rfl 3 Tryz.underlying22 Xb7 (some ⟨bl,0,none⟩) xa n n x.args.length xc rfl rfl bl 0 ((List.replicate n 0).map (Value.int .i64)) 3 g3.out (x.args.map (Value.int .i64)) HLEN.out hsrc.out HFIT.out HONE.out bl W3 (Below.refl _ _) (Nat.le_refl _) ?_;intro w4 hbl4 hb4;have m0:=(hb4.cell (p:=⟨w.heap.size,0,none⟩) hjb0).trans j0;have m1:=(hb4.cell (p:=⟨w.heap.size,1,none⟩) hjb0).trans j1;have m2:=(hb4.cell (p:=⟨w.heap.size,2,none⟩) hjb0).trans j2;have HB4:=Lh hb4;have mz:=Bl m0;clear hb4)
 have hlocs4:Hid (w4.heap[bl]?=some (.cells (Xx (x.args++List.replicate q 0)) 3 (0,0))):=by
  have h1:=hbl4.out
  have h2:splice ((List.replicate n 0).map (Value.int .i64)) 0 (x.args.map (Value.int .i64))=(x.args++List.replicate q 0).map (Value.int .i64):=by
   unfold splice
   rw [HN.out]
   simp
  rw [h2] at h1
  exact Lh h1
 have hBw4:Hid (Below w.heap.size w w4):=Lh ((HB2.out.then hb3.out).trans (HB4.out.mono (by rw [HBL.out];exact HB2.out.size)))
 obtain ⟨W5,hW5⟩:∃ W,W=(w4.alloc (.cells #[.int .i64 (k:Int),.int .i64 0,.slice (some ⟨bl,0,none⟩) n n,.slice none 0 0] 83)).alloc (.cells #[.slice (some ⟨w4.heap.size,0,none⟩) 1 1,.int .i64 0,.int .i64 0,.int .i64 0,.int .i64 0,.int .i64 0,.int .i64 fuel,.int .i64 0,.int .i64 0] 36):=⟨_,rfl⟩
 have hb45:Hid (Below w4.heap.size w4 W5):=by rw [hW5];exact (Xa _ _).then (Xa _ _)
 have hln:(x.args++List.replicate q 0).length=n:=by rw [List.length_append,List.length_replicate];exact HN.out.symm
 have hbl4s:=(La hlocs4.out)
 have hO5:Hid (X3 W5 (w4.heap.size+1) ⟨[⟨(k:Int),0,x.args++List.replicate q 0,[]⟩],⟨0,0,0,0,0⟩,fuel,0,0⟩ [w4.heap.size+1,w4.heap.size,bl]):=Lh (Xlt (f:=⟨(k:Int),0,x.args++List.replicate q 0,[]⟩) (by
   rw [hW5]
   have:=heap_alloc_new (w4.alloc (.cells #[.int .i64 (k:Int),.int .i64 0,.slice (some ⟨bl,0,none⟩) n n,.slice none 0 0] 83)) (.cells #[.slice (some ⟨w4.heap.size,0,none⟩) 1 1,.int .i64 0,.int .i64 0,.int .i64 0,.int .i64 0,.int .i64 0,.int .i64 fuel,.int .i64 0,.int .i64 0] 36)
   rw [show (w4.alloc (.cells #[.int .i64 (k:Int),.int .i64 0,.slice (some ⟨bl,0,none⟩) n n,.slice none 0 0] 83)).heap.size=w4.heap.size+1 by simp] at this
   exact this) (by
   show W5.heap[w4.heap.size]?=some (.cells #[.int .i64 (k:Int),.int .i64 0,.slice (some ⟨bl,0,none⟩) (x.args++List.replicate q 0).length (x.args++List.replicate q 0).length,.slice none 0 0] 83 (0,0))
   rw [hW5,hln,Below.heap_alloc _ _ _ (by simp)]
   exact heap_alloc_new _ _) (by rw [hb45.out.block bl hbl4s];exact hlocs4.out) (by show (x.args++List.replicate q 0).length≤_;omega) (fun n hn=>(hlocs.out n hn).in64) rfl ⟨by show (_:Int)≤(k:Int);omega,by show (k:Int)≤_;omega⟩ ⟨by show (_:Int)≤0;omega,by show (0:Int)≤_;omega⟩ rfl (by omega) (by omega) (by omega))
 have hws:w.heap.size≤bl:=by omega
 have hws4:=hBw4.out.size
 have hge:∀ b∈[w4.heap.size+1,w4.heap.size,bl],w.heap.size≤b:=fun b hb=>by simp at hb;omega
 have hgeB:Hid (∀ b∈[w4.heap.size+1,w4.heap.size,bl],B≤b):=Lh (fun b hb=>Nat.le_trans hB (hge b hb))
 have hBw5:=Lh (hBw4.out.then hb45.out)
 have hfs5:=Lh (HGS.out.funs (hBw5.out.mono hB))
 have r5:Hid (W5.heap[w.heap.size+1+1]?=some (.cells #[.slice none 0 0,.int .i64 0,.int .i64 0,.int .i64 0,.int .i64 0,.int .i64 0,.int .i64 0,.int .i64 0,.int .i64 0] 36 (0,0))):=Lh (by
  have hr:=(La r2.out)
  have h3:W3.heap[w.heap.size+1+1]?=_:=(hb3.out.block _ hr).trans r2.out
  have h4:w4.heap[w.heap.size+1+1]?=_:=(HB4.out.block _ (by rw [HBL.out];exact hr)).trans h3
  exact (hb45.out.block _ (La h4)).trans h4)
 have hRbl:w.heap.size+1+1<bl:=by have hr:=(La r2.out);rw [HBL.out];exact hr
 have hRF:w.heap.size+1+1∉[w4.heap.size+1,w4.heap.size,bl]:=fun e=>by simp at e;omega
 rw [←hW5]
 have HGE:=Lh hge
 have HW5:=Lh hW5
 clear hW5 hge hln
 refine (Xc2 hs hsm fa (some ⟨yb,yo,none⟩) fn fc gc g hgood.out hO5.out B hgeB.out hfs5.out).mono ?_
 rintro e w6 ⟨rfl,m1,F6,hR6,hO6,hM6⟩
 obtain ⟨fv,F0,hm6,hv6,hF6,hn6⟩:=Xt.1 hO6
 obtain ⟨fva,fvc,rfl⟩:=hv6.form
 obtain ⟨fvn,hfvn⟩:∃ n,n=m1.frames.length:=⟨_,rfl⟩
 rw [←hfvn] at hm6 hv6
 have HFVN:=Lh hfvn
 clear hfvn
 have r6:Hid (w6.heap[w.heap.size+1+1]?=some (.cells #[.slice none 0 0,.int .i64 0,.int .i64 0,.int .i64 0,.int .i64 0,.int .i64 0,.int .i64 0,.int .i64 0,.int .i64 0] 36 (0,0))):=Lh (by rw [hM6.block _ (La r5.out) hRF];exact r5.out)
 have rc:∀ (j:Nat) (v:Value),(#[.slice none 0 0,.int .i64 0,.int .i64 0,.int .i64 0,.int .i64 0,.int .i64 0,.int .i64 0,.int .i64 0,.int .i64 0]:Array Value)[j]?=some v→w6.cell? ⟨w.heap.size+1+1,j,none⟩=some v:=fun j v hv=>by rw [cell_of_row _ _ _ _ _ _ r6.out];exact hv
 have rc0:=rc 0 (.slice none 0 0) rfl
 have rf0:w6.frozen? ⟨w.heap.size+1+1,0,none⟩=false:=Fz r6.out
 have rc1:=rc 1 (.int .i64 0) rfl
 have rf1:w6.frozen? ⟨w.heap.size+1+1,1,none⟩=false:=Fz r6.out
 have rc2:=rc 2 (.int .i64 0) rfl
 have rf2:w6.frozen? ⟨w.heap.size+1+1,2,none⟩=false:=Fz r6.out
 have rc3:=rc 3 (.int .i64 0) rfl
 have rf3:w6.frozen? ⟨w.heap.size+1+1,3,none⟩=false:=Fz r6.out
 have rc4:=rc 4 (.int .i64 0) rfl
 have rf4:w6.frozen? ⟨w.heap.size+1+1,4,none⟩=false:=Fz r6.out
 have rc5:=rc 5 (.int .i64 0) rfl
 have rf5:w6.frozen? ⟨w.heap.size+1+1,5,none⟩=false:=Fz r6.out
 have rc6:=rc 6 (.int .i64 0) rfl
 have rf6:w6.frozen? ⟨w.heap.size+1+1,6,none⟩=false:=Fz r6.out
 have rc7:=rc 7 (.int .i64 0) rfl
 have rf7:w6.frozen? ⟨w.heap.size+1+1,7,none⟩=false:=Fz r6.out
 have rc8:=rc 8 (.int .i64 0) rfl
 have rf8:w6.frozen? ⟨w.heap.size+1+1,8,none⟩=false:=Fz r6.out
 have rz:=(La r6.out)
 have mc0:=Xe hm6 0 (.slice fva fvn fvc) rfl
 have mc1:=Xe hm6 1 (.int .i64 m1.req.kind) rfl
 have mc2:=Xe hm6 2 (.int .i64 m1.req.node) rfl
 have mc3:=Xe hm6 3 (.int .i64 m1.req.field) rfl
 have mc4:=Xe hm6 4 (.int .i64 m1.req.value) rfl
 have mc5:=Xe hm6 5 (.int .i64 m1.req.fault) rfl
 have mc6:=Xe hm6 6 (.int .i64 m1.fuel) rfl
 have mc7:=Xe hm6 7 (.int .i64 m1.compares) rfl
 have mc8:=Xe hm6 8 (.int .i64 m1.idle) rfl
 have hmz:=(La hm6)
 have hfin:=Lh (Xz (R:=w.heap.size+1+1) (fv0:=.slice none 0 0) (m0:=Xl) r6.out (.slice fva fvn fvc) m1)
 have hRF6:w.heap.size+1+1∉F6:=hM6.notin (La r5.out) hRF
 have hge6:∀ b∈F6,w.heap.size≤b:=hM6.ge HGE.out hBw5.out.size
 have hB6:=hBw5.out.trans (hM6.below HGE.out hBw5.out.size)
 have HNEW:Hid (Qq w (.slice fva fvn fvc) m1 (Yp w6 (w.heap.size+1+1) (.slice fva fvn fvc) m1)):=Lh ⟨F0,hv6.keep (fun b hb=>hfin.out.2.block b (hv6.lt b hb) (fun e=>hRF6 (by rw [List.mem_singleton] at e;rw [hF6];exact List.mem_cons_of_mem _ (e▸hb)))),fun b hb=>hge6 b (by rw [hF6];exact List.mem_cons_of_mem _ hb),hB6.trans (hfin.out.2.below (fun b hb=>by simp at hb;omega) hB6.size)⟩
 have HR6:Hid (Zm c (Zo c x fuel) m1):=Lh (by rw [hsM.out];exact hR6)
 have hmn:¬w4.heap.size+1=w.heap.size+1+1:=by omega
 clear rc hm6 hv6 hO6 hM6 hR6 hge6 hB6 hRF6 hRF hF6 hn6
 go_wp2_with fail
 have hpost:Qn c x fuel w (.returned (.tuple #[Xi (.slice fva fvn fvc) m1,.int .i64 0])) (Yp w6 (w.heap.size+1+1) (.slice fva fvn fvc) m1):=.inr ⟨HE.out,m1,(.slice fva fvn fvc),HR6.out,rfl,HNEW.out⟩
 exact bodyPost_ret (v:=.tuple #[Xi (.slice fva fvn fvc) m1,.int .i64 0]) (Y6 (p:=6) (u:=7) rfl hfin.out.1 _ _ rfl rfl) rfl hpost
theorem Xb5 (c:Cod) (x:Cal) (fuel:Int) (cv xv:Value) (B:Nat) (w:World) (hB:B≤w.heap.size) (hc:Yj B w cv c) (hx:J8 B w xv x) (hs:Xv c) (hsm:Zb c) :
  Calls Tryz.prog 33 #[cv,xv,.int .i64 fuel] w (Qn c x fuel w):=by
 obtain ⟨fv,gv,rfl,hf,hg,hg64⟩:=id hc
 obtain ⟨fa,fc,rfl⟩:=hf.form
 obtain ⟨ga,gc,rfl⟩:=hg.form
 obtain ⟨av,rfl,hxs,hxp⟩:=hx
 obtain ⟨xa,xc,rfl⟩:=hxs.form
 by_cases hr:fuel<0∨1048576<fuel
 ·exact Xg4 c x fuel fa ga xa _ fc _ gc _ xc _ w hr
 have hf2:0≤fuel∧fuel≤1048576:=by omega
 rcases Xca (fun f=>Zt f.name x.proc) c.funcs with hi|⟨k,hk,hi⟩
 ·exact Xis c x fuel fa ga xa _ fc gc xc _ B w hB hc hxs hf2 hi
 obtain ⟨y,hy⟩:∃ y,c.funcs[k]?=some y:=⟨_,List.getElem?_eq_getElem hk⟩
 by_cases hl:(x.args.length:Int)=y.params
 ·cases hv:x.args.any (fun n=>!X1 n) with
  | true=>exact Xjo c x fuel fa ga xa _ fc gc xc _ B w hB hc hxs hf2 k hi y hy hl hv
  | false=>exact Xk5 c x fuel fa ga xa _ fc gc xc _ B w hB hc hxs hf2 k hi y hy hl hv hs hsm
 ·exact Xjh c x fuel fa ga xa _ fc gc xc _ B w hB hc hxs hf2 k hi y hy hl
/-- what Start comes to -/
def Xdc (c:Cod) (x:Cal) (fuel:Int) (w:World) (e:Ending) (w':World):Prop:=
 (¬Xv c∧e=.returned (.tuple #[Xi (.slice none 0 0) Xl,.int .i64 1])∧Below w.heap.size w w')∨(Xv c∧Qn c x fuel w e w')
theorem Xff (c:Cod) (x:Cal) (fuel:Int) (cv xv:Value) (B:Nat) (w:World) (hL:Qa w) (hB:B≤w.heap.size) (hc:Yj B w cv c) (hx:J8 B w xv x) (hsm:Zb c) :
  Calls Tryz.prog 9 #[cv,xv,.int .i64 fuel] w (Xdc c x fuel w):=by
 have HC:=Lh hc
 have HX:=Lh hx
 obtain ⟨fv,gv,rfl,hf,hg,hg64⟩:=hc
 obtain ⟨fa,fc,rfl⟩:=hf.form
 obtain ⟨ga,gc,rfl⟩:=hg.form
 obtain ⟨av,rfl,hxs,hxp⟩:=hx
 obtain ⟨xa,xc,rfl⟩:=hxs.form
 obtain ⟨fn,hfn⟩:∃ n,n=c.fields.length:=⟨_,rfl⟩
 obtain ⟨g,hgg⟩:∃ n,n=c.globals:=⟨_,rfl⟩
 rw [←hfn,← hgg] at HC ⊢
 clear hf hg hxs hfn hgg hg64
 obtain ⟨W,hW⟩:∃ W,W=((w.alloc (.cells #[.slice fa fn fc,.int .i64 g,.slice ga c.funcs.length gc] 25)).alloc (.cells #[.string x.proc,.slice xa x.args.length xc] 27)).alloc (.cells #[.slice none 0 0,.int .i64 0,.int .i64 0,.int .i64 0,.int .i64 0,.int .i64 0,.int .i64 0,.int .i64 0,.int .i64 0] 36):=⟨_,rfl⟩
 have hWb:Hid (Below w.heap.size w W):=by rw [hW];exact ((Xa _ _).then (Xa _ _)).then (Xa _ _)
 have hsz:Hid (W.heap.size=w.heap.size+3):=by rw [hW];exact Lh (by simp)
 have b0:Hid (Xo W w.heap.size [.slice fa fn fc,.int .i64 g,.slice ga c.funcs.length gc]):=by rw [hW];exact Lh (Xd.alloc _ |>.alloc _)
 have b1:Hid (Xo W (w.heap.size+1) [.string x.proc,.slice xa x.args.length xc]):=by
  rw [hW]
  have:=(@Xd (w.alloc (.cells #[.slice fa fn fc,.int .i64 g,.slice ga c.funcs.length gc] 25)) #[.string x.proc,.slice xa x.args.length xc] 27).alloc (.cells #[.slice none 0 0,.int .i64 0,.int .i64 0,.int .i64 0,.int .i64 0,.int .i64 0,.int .i64 0,.int .i64 0,.int .i64 0] 36)
  exact Lh (by simpa using this)
 have b2:Hid (W.heap[w.heap.size+2]?=some (.cells #[.slice none 0 0,.int .i64 0,.int .i64 0,.int .i64 0,.int .i64 0,.int .i64 0,.int .i64 0,.int .i64 0,.int .i64 0] 36 (0,0))):=by
  rw [hW]
  have:=heap_alloc_new ((w.alloc (.cells #[.slice fa fn fc,.int .i64 g,.slice ga c.funcs.length gc] 25)).alloc (.cells #[.string x.proc,.slice xa x.args.length xc] 27)) (.cells #[.slice none 0 0,.int .i64 0,.int .i64 0,.int .i64 0,.int .i64 0,.int .i64 0,.int .i64 0,.int .i64 0,.int .i64 0] 36)
  exact Lh (by simpa using this)
 have hcW:=Lh (HC.out.below (hWb.out.mono hB))
 have hxW:=Lh (HX.out.below (hWb.out.mono hB))
 have HL:=Lh (hL.below hWb.out)
 have hWB:B≤W.heap.size:=by have:=hsz.out;omega
 clear hL
 go_enter Tryz.func9,Tryz.ntmps9
 go_upto_region 1 with fail
 rw [←hW]
 have HW:=Lh hW
 clear hW
 have i0:=b0.out 0 _ rfl
 have i1:=b0.out 1 _ rfl
 have i2:=b0.out 2 _ rfl
 have i3:=b1.out 0 _ rfl
 have i4:=b1.out 1 _ rfl
 have z0:w.heap.size<W.heap.size:=by have:=hsz.out;omega
 have z1:w.heap.size+1<W.heap.size:=by have:=hsz.out;omega
 go_wp2_with fail
 refine (Jm c _ B W HL.out hWB hcW.out).mono ?_
 rintro e w1 ⟨rfl,hb1⟩
 have i0:=Xc hb1 i0
 have i1:=Xc hb1 i1
 have i2:=Xc hb1 i2
 have i3:=Xc hb1 i3
 have i4:=Xc hb1 i4
 have z0:=Bl i0
 have z1:=Bl i3
 have r1:Hid (w1.heap[w.heap.size+1+1]?=some (.cells #[.slice none 0 0,.int .i64 0,.int .i64 0,.int .i64 0,.int .i64 0,.int .i64 0,.int .i64 0,.int .i64 0,.int .i64 0] 36 (0,0))):=Lh (by rw [hb1.block _ (by have:=hsz.out;omega)];exact b2.out)
 have HB1:=Lh (hWb.out.then hb1)
 clear hb1
 by_cases hs:Xv c
 ·have hcw1:=Lh (HC.out.below (HB1.out.mono hB))
  have hxw1:=Lh (HX.out.below (HB1.out.mono hB))
  rw [Zg hs]
  go_wp2_with fail
  refine (Xb5 c x fuel _ _ B w1 (Nat.le_trans hB HB1.out.size) hcw1.out hxw1.out hs hsm).mono ?_
  rintro e w2 hP
  have hr1:=(La r1.out)
  obtain ⟨fva,fvn,fvc,m1,er,rfl,hb2,hF2⟩:∃ fva fvn fvc m1 er,e=.returned (.tuple #[Xi (.slice fva fvn fvc) m1,.int .i64 er])∧Below w1.heap.size w1 w2∧Hid (∀ w3,Xp [w.heap.size+1+1] [w.heap.size+1+1] w2 w3→Qn c x fuel w (.returned (.tuple #[Xi (.slice fva fvn fvc) m1,.int .i64 er])) w3):=by
   rcases hP with ⟨h0,rfl,hb⟩|⟨h0,m1,fv,hR,rfl,F,hv,hge,hb⟩
   ·refine ⟨none,0,0,Xl,_,rfl,hb,Lh fun w3 hM=>.inl ⟨h0,rfl,(HB1.out.then hb).trans (hM.below (fun b hb'=>by simp at hb';omega) (HB1.out.then hb).size)⟩⟩
   ·obtain ⟨fva,fvc,rfl⟩:=hv.form
    refine ⟨fva,_,fvc,m1,0,rfl,hb,Lh fun w3 hM=>.inr ⟨h0,m1,_,hR,rfl,F,hv.keep (fun b hb'=>hM.block b (hv.lt b hb') (fun e=>?_)),fun b hb'=>Nat.le_trans HB1.out.size (hge b hb'),(HB1.out.then hb).trans (hM.below (fun b hb'=>by simp at hb';omega) (HB1.out.then hb).size)⟩⟩
    have:=hge b hb'
    rw [List.mem_singleton] at e
    omega
  have r2:Hid (w2.heap[w.heap.size+1+1]?=some (.cells #[.slice none 0 0,.int .i64 0,.int .i64 0,.int .i64 0,.int .i64 0,.int .i64 0,.int .i64 0,.int .i64 0,.int .i64 0] 36 (0,0))):=Lh (by rw [hb2.block _ hr1];exact r1.out)
  have rc:∀ (j:Nat) (v:Value),(#[.slice none 0 0,.int .i64 0,.int .i64 0,.int .i64 0,.int .i64 0,.int .i64 0,.int .i64 0,.int .i64 0,.int .i64 0]:Array Value)[j]?=some v→w2.cell? ⟨w.heap.size+1+1,j,none⟩=some v:=fun j v hv=>by rw [cell_of_row _ _ _ _ _ _ r2.out];exact hv
  have rc0:=rc 0 (.slice none 0 0) rfl
  have rf0:w2.frozen? ⟨w.heap.size+1+1,0,none⟩=false:=Fz r2.out
  have rc1:=rc 1 (.int .i64 0) rfl
  have rf1:w2.frozen? ⟨w.heap.size+1+1,1,none⟩=false:=Fz r2.out
  have rc2:=rc 2 (.int .i64 0) rfl
  have rf2:w2.frozen? ⟨w.heap.size+1+1,2,none⟩=false:=Fz r2.out
  have rc3:=rc 3 (.int .i64 0) rfl
  have rf3:w2.frozen? ⟨w.heap.size+1+1,3,none⟩=false:=Fz r2.out
  have rc4:=rc 4 (.int .i64 0) rfl
  have rf4:w2.frozen? ⟨w.heap.size+1+1,4,none⟩=false:=Fz r2.out
  have rc5:=rc 5 (.int .i64 0) rfl
  have rf5:w2.frozen? ⟨w.heap.size+1+1,5,none⟩=false:=Fz r2.out
  have rc6:=rc 6 (.int .i64 0) rfl
  have rf6:w2.frozen? ⟨w.heap.size+1+1,6,none⟩=false:=Fz r2.out
  have rc7:=rc 7 (.int .i64 0) rfl
  have rf7:w2.frozen? ⟨w.heap.size+1+1,7,none⟩=false:=Fz r2.out
  have rc8:=rc 8 (.int .i64 0) rfl
  have rf8:w2.frozen? ⟨w.heap.size+1+1,8,none⟩=false:=Fz r2.out
  have rz:=(La r2.out)
  clear rc
  have hfin:=Lh (Xz (R:=w.heap.size+1+1) (fv0:=.slice none 0 0) (m0:=Xl) r2.out (.slice fva fvn fvc) m1)
  clear hb2 hP
  unfold Xi Xb
  go_wp2_with fail
  have hpost:Xdc c x fuel w (.returned (.tuple #[Xi (.slice fva fvn fvc) m1,.int .i64 er])) (Yp w2 (w.heap.size+1+1) (.slice fva fvn fvc) m1):=.inr ⟨hs,hF2.out _ hfin.out.2⟩
  exact bodyPost_ret (v:=.tuple #[Xi (.slice fva fvn fvc) m1,.int .i64 er]) (Y6 (p:=6) (u:=7) rfl hfin.out.1 _ _ rfl rfl) rfl hpost
 ·rw [Jp hs]
  have rc:∀ (j:Nat) (v:Value),(#[.slice none 0 0,.int .i64 0,.int .i64 0,.int .i64 0,.int .i64 0,.int .i64 0,.int .i64 0,.int .i64 0,.int .i64 0]:Array Value)[j]?=some v→w1.cell? ⟨w.heap.size+1+1,j,none⟩=some v:=fun j v hv=>by rw [cell_of_row _ _ _ _ _ _ r1.out];exact hv
  have rc0:=rc 0 (.slice none 0 0) rfl
  have rf0:w1.frozen? ⟨w.heap.size+1+1,0,none⟩=false:=Fz r1.out
  have rc1:=rc 1 (.int .i64 0) rfl
  have rf1:w1.frozen? ⟨w.heap.size+1+1,1,none⟩=false:=Fz r1.out
  have rc2:=rc 2 (.int .i64 0) rfl
  have rf2:w1.frozen? ⟨w.heap.size+1+1,2,none⟩=false:=Fz r1.out
  have rc3:=rc 3 (.int .i64 0) rfl
  have rf3:w1.frozen? ⟨w.heap.size+1+1,3,none⟩=false:=Fz r1.out
  have rc4:=rc 4 (.int .i64 0) rfl
  have rf4:w1.frozen? ⟨w.heap.size+1+1,4,none⟩=false:=Fz r1.out
  have rc5:=rc 5 (.int .i64 0) rfl
  have rf5:w1.frozen? ⟨w.heap.size+1+1,5,none⟩=false:=Fz r1.out
  have rc6:=rc 6 (.int .i64 0) rfl
  have rf6:w1.frozen? ⟨w.heap.size+1+1,6,none⟩=false:=Fz r1.out
  have rc7:=rc 7 (.int .i64 0) rfl
  have rf7:w1.frozen? ⟨w.heap.size+1+1,7,none⟩=false:=Fz r1.out
  have rc8:=rc 8 (.int .i64 0) rfl
  have rf8:w1.frozen? ⟨w.heap.size+1+1,8,none⟩=false:=Fz r1.out
  have rz:=(La r1.out)
  clear rc
  have hfin:=Lh (Xz (R:=w.heap.size+1+1) (fv0:=.slice none 0 0) (m0:=Xl) r1.out (.slice none 0 0) Xl)
  have HFB:Hid (Below w.heap.size w (Yp w1 (w.heap.size+1+1) (.slice none 0 0) Xl)):=Lh (HB1.out.trans (hfin.out.2.below (fun b hb=>by simp at hb;omega) HB1.out.size))
  go_wp2_with fail
  exact bodyPost_ret (Y6 rfl hfin.out.1 _ _ rfl rfl) rfl (.inl ⟨hs,rfl,HFB.out⟩)
end Go.Proofs.YtbmeoklmachjpaaGreatDoor
