/- The contract of the reference's frame: the frame of a call. The contract of the reference's call. -/
import Derived.Test.YtbmeoklmachjpaaGreatDoorRa
import Derived.Laws.CopyOwn
import Derived.Test.YtbmeoklmachjpaaGreatDoorRun5
set_option maxHeartbeats 2000000
set_option maxRecDepth 100000
set_option linter.unusedVariables false
set_option linter.unusedSimpArgs false
namespace Go.Proofs.YtbmeoklmachjpaaGreatDoor
open Go.RowKit
theorem Xey (b o j:Nat):(⟨b,o,none⟩:Addr).add j=⟨b,o+j,none⟩:=by unfold Addr.add;split<;>simp_all
def Yn (fn pc:Int) (lv sv:Value):Array Value:=#[.int .i64 fn,.int .i64 pc,lv,sv]
theorem Xns {W:World} {R:Nat} {fn pc:Int} {lv sv:Value} (h:W.heap[R]?=some (.cells (Yn fn pc lv sv) 83 (0,0))):(loadVar 83 ⟨R,0,none⟩).run Tryz.prog W=.ok (.agg (Yn fn pc lv sv)) W:=by
 have cc:∀ (j:Nat) (v:Value),(Yn fn pc lv sv)[j]?=some v→W.cell? ⟨R,j,none⟩=some v:=fun j v hv=>by rw [cell_of_row _ _ _ _ _ _ h];exact hv
 have c0:=cc 0 (.int .i64 fn) rfl
 have c1:=cc 1 (.int .i64 pc) rfl
 have c2:=cc 2 lv rfl
 have c3:=cc 3 sv rfl
 clear cc
 simp [go_sem,Yn,c0,c1,c2,c3]
theorem Xhb {fn:Func} {p:Tmp} (hf:fn.results=#[.cell p 83]) {W:World} {R:Nat} {k pc:Int} {lv sv:Value} (h:W.heap[R]?=some (.cells (Yn k pc lv sv) 83 (0,0))) (tmps:Array Value) (h1:tmps.getD p undef=.pointer (some ⟨R,0,none⟩)) :
  (results fn tmps).run Tryz.prog W=.ok (.agg (Yn k pc lv sv)) W:=by
 simp only [results,hf]
 rw [Array.getD_eq_getD_getElem?] at h1
 simp [h1,asAddr,Xns h,Result.andThen,Sem.run_bind]
/-- the frame of a call of function k, its local variables l in new memory -/
def Xfh (k n:Nat) (l:List Int) (w:World) (e:Ending) (w':World):Prop:=
 ∃ bl,e=.returned (.agg #[.int .i64 (k:Int),.int .i64 0,.slice (some ⟨bl,0,none⟩) n n,.slice none 0 0])∧w'.heap[bl]?=some (.cells (Xx l) 3 (0,0))∧w.heap.size≤bl∧Below w.heap.size w w'
theorem Xj3 {W:World} {R:Nat} {fn pc fn' pc':Int} {lv sv lv' sv':Value} (h:W.heap[R]?=some (.cells (Yn fn pc lv sv) 83 (0,0))) :
  ((((W.setCell ⟨R,0,none⟩ (.int .i64 fn')).setCell ⟨R,1,none⟩ (.int .i64 pc')).setCell ⟨R,2,none⟩ lv').setCell ⟨R,3,none⟩ sv').heap[R]?=some (.cells (Yn fn' pc' lv' sv') 83 (0,0))∧Xp [R] [R] W ((((W.setCell ⟨R,0,none⟩ (.int .i64 fn')).setCell ⟨R,1,none⟩ (.int .i64 pc')).setCell ⟨R,2,none⟩ lv').setCell ⟨R,3,none⟩ sv'):=by
 have h0:=heap_setCell_same _ R 0 _ _ (.int .i64 fn') h
 have h1:=heap_setCell_same _ R 1 _ _ (.int .i64 pc') h0
 have h2:=heap_setCell_same _ R 2 _ _ lv' h1
 have h3:=heap_setCell_same _ R 3 _ _ sv' h2
 exact ⟨h3,((Xw.trans Xw).trans Xw).trans Xw⟩
theorem Xeb (fa ga xa:Option Addr) (fn fc gc xc:Nat) (g:Int) (B B2:Nat) (w:World) (hB:B≤w.heap.size) (funcs:List Fun) (hfs:Xf B w 5 (Zl B) (.slice ga funcs.length gc) funcs) (k:Nat) (y:Fun) (hy:funcs[k]?=some y) (args:List Int) (hB2:B2≤w.heap.size) (hx:Xf B2 w 1 Zd (.slice xa args.length xc) args) (z:Nat) (hq:y.locals=args.length+z) (hq2:args.length+z≤1000) (hfl:funcs.length≤1000000) :
  Calls Tryz.prog 39 #[.agg #[.slice fa fn fc,.int .i64 g,.slice ga funcs.length gc],.int .i64 (k:Int),.slice xa args.length xc] w (Xfh k (args.length+z) (args++List.replicate z 0) w):=by
 obtain ⟨n,hn⟩:∃ n,n=args.length+z:=⟨_,rfl⟩
 have HX0:=Lh hx
 obtain ⟨a0,cap0,he0,hl1,hl2,hl3,hE⟩:=hfs
 obtain ⟨rfl,rfl⟩:ga=a0∧gc=cap0:=by simpa using he0
 have hkl:k<funcs.length:=(Ll hy)
 rcases hE with h0|⟨b,o,rfl,hbB,hE⟩
 ·rw [h0] at hy;simp at hy
 have q2:=(hE k y hy).2.2.1
 rw [hq,← Int.natCast_add,← hn] at q2
 obtain ⟨xa0,xcap0,hxe,hxl1,hxl2,hxl3,hxE⟩:=hx
 obtain ⟨rfl,rfl⟩:xa=xa0∧xc=xcap0:=by simpa using hxe
 obtain ⟨W,hW⟩:∃ W,W=(w.alloc (.cells #[.slice fa fn fc,.int .i64 g,.slice (some ⟨b,o,none⟩) funcs.length gc] 25)).alloc (.cells (Yn 0 0 (.slice none 0 0) (.slice none 0 0)) 83):=⟨_,rfl⟩
 have hWb:Below w.heap.size w W:=by rw [hW];exact (Xa _ _).then (Xa _ _)
 have hsz:Hid (W.heap.size=w.heap.size+2):=by rw [hW];exact Lh (by simp)
 have b0:Xo W w.heap.size [.slice fa fn fc,.int .i64 g,.slice (some ⟨b,o,none⟩) funcs.length gc]:=by rw [hW];exact Xd.alloc _
 have r0:W.heap[w.heap.size+1]?=some (.cells (Yn 0 0 (.slice none 0 0) (.slice none 0 0)) 83 (0,0)):=by
  rw [hW]
  have:=heap_alloc_new (w.alloc (.cells #[.slice fa fn fc,.int .i64 g,.slice (some ⟨b,o,none⟩) funcs.length gc] 25)) (.cells (Yn 0 0 (.slice none 0 0) (.slice none 0 0)) 83)
  simpa using this
 have HR0:=Lh r0
 have i2:=b0 2 _ rfl
 have q2:=Xc hWb q2
 have z0:w.heap.size<W.heap.size:=by have:=hsz.out;omega
 have zb:=Bl q2
 have hk0:(0:Int)≤(k:Int):=Int.natCast_nonneg _
 have hk1:(k:Int)<(funcs.length:Int):=by omega
 have HWb:=Lh hWb
 have HN:=Lh hn
 have HX1:=Lh (HX0.out.ints (hWb.mono hB2))
 have hmk:=fun W=>K7 W n (by omega)
 clear hE hxE hxe he0 hy hq hWb b0 r0 hn
 unfold Yn at hW
 go_enter Tryz.func39,Tryz.ntmps39
 go_upto_region 1 with fail
 rw [←hW]
 have HW:=Lh hW
 clear hW
 go_upto_region 2 with fail
 obtain ⟨W3,hW3⟩:∃ V,V=W.alloc (.cells (Xx (List.replicate n 0)) 3):=⟨_,rfl⟩
 obtain ⟨bl,hbl⟩:∃ b,b=W.heap.size:=⟨_,rfl⟩
 have hb3:Hid (Below W.heap.size W W3):=by rw [hW3];exact Xa _ _
 have g3:Hid (W3.heap[bl]?=some (.cells ((List.replicate n 0).map (Value.int .i64)).toArray 3 (0,0))):=by rw [hW3,hbl];exact Lh (heap_alloc_new _ _)
 have hx3:=HX1.out.ints (hb3.out.mono (Nat.le_trans hB2 HWb.out.size))
 have hsrc:Hid (0<(args.map (Value.int .i64)).length→some (⟨bl,0,none⟩:Addr)=some ⟨bl,0,none⟩∧∃ ad,xa=some ad∧∀ j v,(args.map (Value.int .i64))[j]?=some v→W3.cell? (ad.add j)=some v):=Lh (fun hpos=>by
  obtain ⟨a1,cap1,he1,_,_,_,hxE⟩:=hx3
  obtain ⟨rfl,rfl⟩:xa=a1∧xc=cap1:=by simpa using he1
  rcases hxE with h0|⟨xb,xo,rfl,_,hxE⟩
  ·rw [h0] at hpos;simp at hpos
  ·refine ⟨rfl,_,rfl,fun j v hj=>?_⟩
   rw [List.getElem?_map] at hj
   cases hg:args[j]? with
   | none=>rw [hg] at hj;simp at hj
   | some u=>
    rw [hg] at hj
    simp at hj
    subst hj
    have:=(hxE j u hg).1
    rw [Nat.mul_one] at this
    rw [Xey]
    exact this)
 rw [←hW3,← hbl]
 have hlen:(args.map (Value.int .i64)).length=Nat.min args.length n:=by have:=HN.out;rw [List.length_map];exact (Nat.min_eq_left (by omega)).symm
 have hfit:0+(args.map (Value.int .i64)).length≤((List.replicate n 0).map (Value.int .i64)).length:=by have:=HN.out;simp;omega
 have hone:∀ v∈args.map (Value.int .i64),v.oneCell'=true:=fun v hv=>by
  rw [List.mem_map] at hv
  obtain ⟨_,_,rfl⟩:=hv
  rfl
 have HLEN:=Lh hlen
 have HFIT:=Lh hfit
 have HONE:=Lh hone
 have HW3:=Lh hW3
 have HBL:=Lh hbl
 have hblw:w.heap.size+1<bl:=by have:=hsz.out;omega
 have z1:w.heap.size+1<W.heap.size:=by have:=hsz.out;omega
 have R3:Hid (W3.heap[w.heap.size+1]?=some (.cells (Yn 0 0 (.slice none 0 0) (.slice none 0 0)) 83 (0,0))):=Lh (by rw [hb3.out.block _ z1];exact HR0.out)
 clear hW3 hbl hx3 hlen hfit hone hmk i2 q2
 go_upto_region 3 with (with_reducible refine wpList_copy_splice rfl (.tmp 15) (.tmp 16) 22 22 rfl 3 Tryz.underlying22 Xb7 (some ⟨bl,0,none⟩) xa n n args.length xc rfl rfl bl 0 ((List.replicate n 0).map (Value.int .i64)) 3 g3.out (args.map (Value.int .i64)) HLEN.out hsrc.out HFIT.out HONE.out bl W3 (Below.refl _ _) (Nat.le_refl _) ?_;intro w4 hbl4 hb4;have HBL4:=Lh hbl4;have HB4:=Lh hb4;clear hbl4 hb4)
 have hlocs4:Hid (w4.heap[bl]?=some (.cells (Xx (args++List.replicate z 0)) 3 (0,0))):=by
  have h1:=HBL4.out.out
  have h2:splice ((List.replicate n 0).map (Value.int .i64)) 0 (args.map (Value.int .i64))=(args++List.replicate z 0).map (Value.int .i64):=by
   unfold splice
   rw [HN.out]
   simp
  rw [h2] at h1
  exact Lh h1
 have r4:w4.heap[w.heap.size+1]?=some (.cells (Yn 0 0 (.slice none 0 0) (.slice none 0 0)) 83 (0,0)):=by rw [HB4.out.block _ hblw];exact R3.out
 obtain ⟨s1,s2⟩:=Xj3 (fn':=k) (pc':=0) (lv':=.slice (some ⟨bl,0,none⟩) n n) (sv':=.slice none 0 0) r4
 have S1:=Lh s1
 have hBw4:Below w.heap.size w w4:=(HWb.out.then hb3.out).trans (HB4.out.mono (by omega))
 have HFB:=Lh (hBw4.trans (s2.below (fun b hb=>by simp at hb;omega) hBw4.size))
 have HLC:Hid (_):=Lh ((s2.block bl (La hlocs4.out) (by simp;omega)).trans hlocs4.out)
 obtain ⟨-,f0,f1,f2,f3⟩:True∧w4.frozen? ⟨w.heap.size+1,0,none⟩=false∧w4.frozen? ⟨w.heap.size+1,1,none⟩=false∧w4.frozen? ⟨w.heap.size+1,2,none⟩=false∧w4.frozen? ⟨w.heap.size+1,3,none⟩=false:=⟨trivial,Fz r4,Fz r4,Fz r4,Fz r4⟩
 have cc:∀ (j:Nat) (v:Value),(Yn 0 0 (.slice none 0 0) (.slice none 0 0))[j]?=some v→w4.cell? ⟨w.heap.size+1,j,none⟩=some v:=fun j v hv=>by rw [cell_of_row _ _ _ _ _ _ r4];exact hv
 have c0:=cc 0 (.int .i64 0) rfl
 have c1:=cc 1 (.int .i64 0) rfl
 have c2:=cc 2 (.slice none 0 0) rfl
 have c3:=cc 3 (.slice none 0 0) rfl
 have z4:=(La r4)
 have hfin:Hid (Xfh k (args.length+z) (args++List.replicate z 0) w (.returned (.agg (Yn k 0 (.slice (some ⟨bl,0,none⟩) n n) (.slice none 0 0)))) _):=Lh ⟨bl,by rw [←HN.out];rfl,HLC.out,by omega,HFB.out⟩
 clear cc s1 s2 r4 hBw4
 go_wp2_with fail
 exact bodyPost_ret (v:=.agg (Yn k 0 (.slice (some ⟨bl,0,none⟩) n n) (.slice none 0 0))) (Xhb (p:=6) rfl S1.out _ rfl) rfl hfin.out
/-- the end of a function of the reference that returns a machine through the result variable R; its own variable lies in block bm -/
theorem J2 {w W w1:World} {fv:Value} {m1:Mch} {F F0 F2:List Nat} {bm R:Nat} (hWb:Below w.heap.size w W) (hv:Z9 w1 fv m1.frames F0) (hM:Xp (bm::F) F2 W w1) (hF0:∀ b∈F0,b∈F2) (hF:∀ b∈F,b<w.heap.size) (hbm:w.heap.size≤bm) (hR:w.heap.size≤R) (hRbm:R≠bm) (hRl:R<W.heap.size)
  (b2:W.heap[R]?=some (.cells (Xb (.slice none 0 0) Xl) 36 (0,0))) :
  w1.heap[R]?=some (.cells (Xb (.slice none 0 0) Xl) 36 (0,0))∧(Yp w1 R fv m1).heap[R]?=some (.cells (Xb fv m1) 36 (0,0))∧Qh w F m1 (.returned (Xi fv m1)) (Yp w1 R fv m1):=by
 have hRF:R∉bm::F:=fun e=>by
  rw [List.mem_cons] at e
  rcases e with e|e
  ·exact hRbm e
  ·have:=hF _ e;omega
 have hRF2:=Z5 hM hRl hRF
 have h1:w1.heap[R]?=some (.cells (Xb (.slice none 0 0) Xl) 36 (0,0)):=by rw [hM.block R hRl hRF];exact b2
 obtain ⟨p1,p2⟩:=Xz h1 fv m1
 refine ⟨h1,p1,_,F0,rfl,hv.keep (fun b hb=>p2.block b (hv.lt b hb) (fun e=>?_)),p2.os.trans (hM.os.trans hWb.os),p2.tape.trans (hM.tape.trans hWb.tape),p2.output.trans (hM.output.trans hWb.output),Nat.le_trans hWb.size (Nat.le_trans hM.size p2.size),fun k hk hkF=>?_,fun b hb=>?_⟩
 ·rw [List.mem_singleton] at e
  exact hRF2 (e▸hF0 b hb)
 ·rw [p2.block k (Nat.lt_of_lt_of_le hk (Nat.le_trans hWb.size hM.size)) (by simp;omega),hM.block k (Nat.lt_of_lt_of_le hk hWb.size) (fun e=>by rw [List.mem_cons] at e;rcases e with e|e;omega;exact hkF e),hWb.block k hk]
 ·rcases hM.new b (hF0 b hb) with h|h
  ·rw [List.mem_cons] at h
   rcases h with h|h
   ·right;omega
   ·exact .inl h
  ·right;exact Nat.le_trans hWb.size h
theorem Vz {w:World} {bm:Nat} {m:Mch} {F:List Nat} {fv:Value} (h:X3 w bm m F) (hc:w.cell? ⟨bm,0,none⟩=some fv):∃ F0,w.heap[bm]?=some (.cells (Xb fv m) 36 (0,0))∧Z9 w fv m.frames F0∧F=bm::F0∧bm∉F0:=by
 obtain ⟨fv',F0,h1,h2,h3,h4⟩:=Xt.1 h
 have:=Xe h1 0 fv' rfl
 rw [hc] at this
 obtain rfl:fv=fv':=by simpa using this
 exact ⟨F0,h1,h2,h3,h4⟩
theorem Xit {w:World} {b n:Nat} {l:List Int} (h:w.heap[b]?=some (.cells (Xx l) 3 (0,0))) (hn:n=l.length) (hl:l.length≤1000000) (h64:∀ x∈l,in64 x):Xf w.heap.size w 1 Zd (.slice (some ⟨b,0,none⟩) n n) l:=
 ⟨_,n,by rw [hn],by omega,by omega,by omega,.inr ⟨b,0,rfl,(La h),fun i x hx=>⟨by rw [Nat.zero_add,Nat.mul_one,cell_of_row _ _ _ _ _ _ h];exact Qe hx,h64 x (List.mem_of_getElem? hx)⟩⟩⟩
theorem Xjj {w:World} {fv:Value} {m:Mch} {F:List Nat} {fs:List Fra} {f:Fra} (fa ga:Option Addr) (fn fc gn gc:Nat) (g k:Int) (hv:Z9 w fv m.frames F) (hm:m.frames=fs++[f]) (hn:fs.length+1=200) :
  Calls Tryz.prog 98 #[.agg #[.slice fa fn fc,.int .i64 g,.slice ga gn gc],Xi fv m,.int .i64 k] w (Qh w F { m with req:=X0 19,frames:=[] }):=by
 obtain ⟨fb,cap,cur,cs,lv,sv,Fi,Fl,Fs,rfl,rfl,hT⟩:=hv.top hm
 have hF:=Lh hv.lt
 obtain ⟨W,hW⟩:∃ W,W=((w.alloc (.cells #[.slice fa fn fc,.int .i64 g,.slice ga gn gc] 25)).alloc (.cells (Xb (.slice (some ⟨fb,0,none⟩) (fs.length+1) cap) m) 36)).alloc (.cells (Xb (.slice none 0 0) Xl) 36):=⟨_,rfl⟩
 have hWb:Hid (Below w.heap.size w W):=by rw [hW];exact Lh (((Xa _ _).then (Xa _ _)).then (Xa _ _))
 have hsz:Hid (W.heap.size=w.heap.size+3):=by rw [hW];exact Lh (by simp)
 have b1:W.heap[w.heap.size+1]?=some (.cells (Xb (.slice (some ⟨fb,0,none⟩) (fs.length+1) cap) m) 36 (0,0)):=by
  rw [hW,Below.heap_alloc _ _ _ (by simp)]
  have:=heap_alloc_new (w.alloc (.cells #[.slice fa fn fc,.int .i64 g,.slice ga gn gc] 25)) (.cells (Xb (.slice (some ⟨fb,0,none⟩) (fs.length+1) cap) m) 36)
  simpa using this
 have b2:W.heap[w.heap.size+1+1]?=some (.cells (Xb (.slice none 0 0) Xl) 36 (0,0)):=by
  rw [hW]
  have:=heap_alloc_new ((w.alloc (.cells #[.slice fa fn fc,.int .i64 g,.slice ga gn gc] 25)).alloc (.cells (Xb (.slice (some ⟨fb,0,none⟩) (fs.length+1) cap) m) 36)) (.cells (Xb (.slice none 0 0) Xl) 36)
  simpa using this
 obtain ⟨k0,k1,k2,k3,k4,k5,k6,k7,k8⟩:=Xq b1
 have z1:=(La b1)
 have B2:=Lh b2
 have hlen:((fs.length:Int)+1 == 200)=true:=by simp;omega
 have HNL:=Lh hn
 have HM0:Hid (Xp ((w.heap.size+1)::(fb::(Fi++(Fl++Fs)))) ((w.heap.size+1)::(fb::(Fi++(Fl++Fs)))) W W):=Lh Xp.self
 clear b1 b2 hT hv hm hn
 unfold Xi
 unfold Xb Xl at hW
 unfold Xb
 dsimp only at hW ⊢
 go_enter Tryz.func98,Tryz.ntmps98
 go_upto_region 1 with fail
 rw [←hW]
 have HW:=Lh hW
 clear hW
 go_wp2_with fail
 refine (Q0 _ _ _ m 19 _).mono ?_
 rintro e w9 ⟨rfl,hb9⟩
 obtain ⟨t1,t2,t3⟩:=J2 (R:=w.heap.size+1+1) (bm:=w.heap.size+1) (F0:=[]) (F2:=[]) (m1:={ m with req:=X0 19,frames:=[] }) (fv:=.slice none 0 0) hWb.out (Jd w9) ((Xp.of_below hb9).wide (Fs:=[]) (Fs':=[]) (by simp) (by simp)) (by simp) hF.out (by omega) (by omega) (by omega) (by have:=hsz.out;omega) B2.out
 have Q2:=Lh t2
 have Q3:=Lh t3
 obtain ⟨r0,r1,r2,r3,r4,r5,r6,r7,r8⟩:=Xq t1
 obtain ⟨q0,q1,q2,q3,q4,q5,q6,q7,q8⟩:=Xu t1
 have y2:=(La t1)
 clear t1 t2 t3 hb9 k0 k1 k2 k3 k4 k5 k6 k7 k8 z1
 unfold Xi Xb
 go_wp2_with fail
 exact bodyPost_ret (v:=Xi (.slice none 0 0) { m with req:=X0 19,frames:=[] }) (Xn (p:=6) rfl Q2.out _ rfl) rfl Q3.out
/-- what stands before the new frame is appended: the arguments lie in block ab -/
theorem Xmz {W w8:World} {bm fb cap:Nat} {cur:Array Value} {cs:List Value} {fs:List Fra} {f:Fra} {lv sv:Value} {m:Mch} {Fi Fl Fs:List Nat} (h:Xk W bm fb cap cur cs fs f lv sv m Fi Fl Fs) (hb:Below W.drew.heap.size W.drew w8) (o:Obj) :
  (w8.alloc o).ownsRow 0 83 4 (.slice (some ⟨fb,0,none⟩) (fs.length+1) cap) (fs.length+1) (cs++[.int .i64 f.fn,.int .i64 f.pc,lv,sv]):=
 ((h.keep (Xh (Below.refl _ _) 1)).keep hb).rowOwn.alloc o
theorem Xi4 {w w':World} {row:Option Nat} (h:w.grownBy w' row):w.drew.grownBy w' row:=⟨h.os,h.tape,h.output,h.size,h.block⟩
theorem Xmx {w:World} {fv:Value} {m:Mch} {F:List Nat} {fs:List Fra} {f:Fra} (fa ga:Option Addr) (fn fc gc:Nat) (g:Int) (B:Nat) (hB:B≤w.heap.size) (hFB:∀ b∈F,B≤b) (funcs:List Fun) (hfl:funcs.length≤1000000) (hfs:Xf B w 5 (Zl B) (.slice ga funcs.length gc) funcs) (k:Nat) (y:Fun) (hy:funcs[k]?=some y)
  (l args:List Int) (hst:f.stack=l++args) (hp:y.params=args.length) (z:Nat) (hq:y.locals=args.length+z) (hq2:args.length+z≤1000) (h64:∀ n∈f.stack,in64 n) (hv:Z9 w fv m.frames F) (hm:m.frames=fs++[f]) (hn:fs.length+1<200) :
  Calls Tryz.prog 98 #[.agg #[.slice fa fn fc,.int .i64 g,.slice ga funcs.length gc],Xi fv m,.int .i64 (k:Int)] w (Qh w F { m with frames:=fs++[{ f with stack:=l }]++[⟨k,0,args++List.replicate z 0,[]⟩] }):=by
 obtain ⟨mR,hmR⟩:∃ q:Mch,q={ m with frames:=fs++[{ f with stack:=l }]++[⟨k,0,args++List.replicate z 0,[]⟩] }:=⟨_,rfl⟩
 rw [←hmR]
 have HMR:=Lh hmR
 clear hmR
 obtain ⟨fb,cap,cur,cs,lv,sv,Fi,Fl,Fs,rfl,rfl,hT⟩:=hv.top hm
 have hF:=Lh hv.lt
 have HFB:=Lh hFB
 have HFS:=Lh hfs
 have HY:=Lh hy
 have HQ:=Lh hq
 have HS:=Lh hst
 have H64:=Lh h64
 obtain ⟨a0,cap0,he0,hl1,hl2,hl3,hE⟩:=hfs
 obtain ⟨rfl,rfl⟩:ga=a0∧gc=cap0:=by simpa using he0
 have hkl:k<funcs.length:=(Ll hy)
 rcases hE with h0|⟨b,o,rfl,hbB,hE⟩
 ·rw [h0] at hy;simp at hy
 have q1:=(hE k y hy).2.1
 rw [hp] at q1
 obtain ⟨n,hnn⟩:∃ n,n=args.length:=⟨_,rfl⟩
 rw [←hnn] at q1
 obtain ⟨W,hW⟩:∃ W,W=((w.alloc (.cells #[.slice fa fn fc,.int .i64 g,.slice (some ⟨b,o,none⟩) funcs.length gc] 25)).alloc (.cells (Xb (.slice (some ⟨fb,0,none⟩) (fs.length+1) cap) m) 36)).alloc (.cells (Xb (.slice none 0 0) Xl) 36):=⟨_,rfl⟩
 have hWb:Hid (Below w.heap.size w W):=by rw [hW];exact Lh (((Xa _ _).then (Xa _ _)).then (Xa _ _))
 have hsz:Hid (W.heap.size=w.heap.size+3):=by rw [hW];exact Lh (by simp)
 have b0:Hid (Xo W w.heap.size [.slice fa fn fc,.int .i64 g,.slice (some ⟨b,o,none⟩) funcs.length gc]):=by rw [hW];exact Lh ((Xd.alloc _).alloc _)
 have b1:W.heap[w.heap.size+1]?=some (.cells (Xb (.slice (some ⟨fb,0,none⟩) (fs.length+1) cap) m) 36 (0,0)):=by
  rw [hW,Below.heap_alloc _ _ _ (by simp)]
  have:=heap_alloc_new (w.alloc (.cells #[.slice fa fn fc,.int .i64 g,.slice (some ⟨b,o,none⟩) funcs.length gc] 25)) (.cells (Xb (.slice (some ⟨fb,0,none⟩) (fs.length+1) cap) m) 36)
  simpa using this
 have b2:W.heap[w.heap.size+1+1]?=some (.cells (Xb (.slice none 0 0) Xl) 36 (0,0)):=by
  rw [hW]
  have:=heap_alloc_new ((w.alloc (.cells #[.slice fa fn fc,.int .i64 g,.slice (some ⟨b,o,none⟩) funcs.length gc] 25)).alloc (.cells (Xb (.slice (some ⟨fb,0,none⟩) (fs.length+1) cap) m) 36)) (.cells (Xb (.slice none 0 0) Xl) 36)
  simpa using this
 have hT0:=hT W (w.heap.size+1) m hWb.out b1 (by omega)
 have H:=Lh hT0
 obtain ⟨k0,k1,k2,k3,k4,k5,k6,k7,k8⟩:=Xq b1
 have z1:=(La b1)
 have i0:=b0.out 0 _ rfl
 have i1:=b0.out 1 _ rfl
 have i2:=b0.out 2 _ rfl
 have zi:=Bl i0
 have q1:=Xc hWb.out q1
 have zq:=Bl q1
 have B2:=Lh b2
 have hlen:((fs.length:Int)+1 == 200)=false:=by simp;omega
 have hk0:(0:Int)≤(k:Int):=Int.natCast_nonneg _
 have hk1:(k:Int)<(funcs.length:Int):=by omega
 have hn1:n≤1000:=by omega
 have hmk:=fun W=>K7 W n (by omega)
 have HNN:=Lh hnn
 clear b1 b2 hT hT0 hv hm he0 hE hy hq hst hp hFB h64 hnn
 unfold Xi
 unfold Xb Xl at hW
 unfold Xb
 dsimp only at hW ⊢
 go_enter Tryz.func98,Tryz.ntmps98
 go_upto_region 1 with fail
 rw [←hW]
 have HW:=Lh hW
 clear hW
 go_wp2_with fail
 obtain ⟨W3,hW3⟩:∃ V,V=W.alloc (.cells (Xx (List.replicate n 0)) 3):=⟨_,rfl⟩
 obtain ⟨ab,hab⟩:∃ b,b=W.heap.size:=⟨_,rfl⟩
 have hW3b:Below W.heap.size W W3:=by rw [hW3];exact Xa _ _
 have hW3s:Hid (W3.heap.size=W.heap.size+1):=by rw [hW3];exact Lh (by simp)
 have hbl:Hid (W3.heap[ab]?=some (.cells (Xx (Qg args 0 args.length)) 3 (0,0))):=by
  refine Lh ?_
  rw [Xc9,Nat.add_zero,hW3,hab,← HNN.out]
  exact heap_alloc_new _ _
 have HW3b:=Lh hW3b
 have hbF:∀ x∈(w.heap.size+1)::fb::(Fi++(Fl++Fs)),x<ab:=fun x hx=>by
  have:=hsz.out
  rw [List.mem_cons] at hx
  rcases hx with hx|hx
  ·omega
  ·have:=hF.out x hx;omega
 have HBF:=Lh hbF
 have hnbl:ab∉(w.heap.size+1)::fb::(Fi++(Fl++Fs)):=fun e=>by have:=hbF _ e;omega
 have HNBL:=Lh hnbl
 have hnb0:w.heap.size∉ab::(w.heap.size+1)::fb::(Fi++(Fl++Fs)):=fun e=>by
  have:=hsz.out
  simp only [List.mem_cons] at e
  rcases e with e|e|e
  ·omega
  ·omega
  ·have:=hF.out w.heap.size (by simpa using e);omega
 have HNB0:=Lh hnb0
 have hst0:Hid (Xby W3 (w.heap.size+1) fb cap cs fs { f with stack:=l++args.take args.length } lv m Fi Fl ((w.heap.size+1)::fb::(Fi++(Fl++Fs))) ab W3):=by
  refine Lh ⟨cur,sv,Fs,?_,Xp.self,hnbl⟩
  have:({ f with stack:=l++args.take args.length }:Fra)=f:=by rw [List.take_length,← HS.out]
  rw [this];exact H.out.keep hW3b
 have hb03:Hid (Xo W3 w.heap.size [.slice fa fn fc,.int .i64 g,.slice (some ⟨b,o,none⟩) funcs.length gc]):=Lh (b0.out.keep hW3b)
 rw [←hW3,← hab]
 have HW3:=Lh hW3
 have HAB:=Lh hab
 clear hW3 hab hmk q1 zq k0 k1 k2 k3 k4 k5 k6 k7 k8 z1 i0 i1 i2 zi hW3b hbF hnbl hnb0
 rw [HNN.out]
 go_loopg [8] (args.length+1) (fun gk ix wr=>∃ r:Nat,r<gk∧r≤args.length∧ix=.int .i64 ((r:Int) - 1)∧Hid (Xby W3 (w.heap.size+1) fb cap cs fs { f with stack:=l++args.take r } lv m Fi Fl ((w.heap.size+1)::fb::(Fi++(Fl++Fs))) ab wr)∧Hid (wr.heap[ab]?=some (.cells (Xx (Qg args 0 r)) 3 (0,0))))
 case atStart=>exact ⟨args.length,by omega,Nat.le_refl _,rfl,hst0,hbl⟩
 case round=>
  obtain ⟨r,hr1,hr2,rfl,hst,hh⟩:=hrel
  obtain ⟨cur',sv',Fs',hT,hM,hnb⟩:=hst.out
  have hab1:ab<wr.heap.size:=(La hh.out)
  by_cases hr0:0<r
  ·obtain ⟨q,rfl⟩:∃ q,r=q+1:=⟨r - 1,by omega⟩
   obtain ⟨a,ha⟩:∃ a,args[q]?=some a:=⟨_,List.getElem?_eq_getElem (by omega)⟩
   obtain ⟨k0,k1,k2,k3,k4,k5,k6,k7,k8⟩:=Xq hT.mach
   have z1:=(La hT.mach)
   have HT:=Lh hT
   have HM:=Lh hM
   have HA:=Lh ha
   clear hT hM ha
   go_wp2_with fail
   refine (Yu m HT.out (by omega) (l++args.take q) a (by show l++args.take (q+1)=_;rw [Xe4 HA.out,List.append_assoc])).mono ?_
   rintro e w2 ⟨rfl,cur2,sv2,Fs2,hT2,hM2⟩
   have hh2:w2.heap[ab]?=some (.cells (Xx (Qg args 0 (q+1))) 3 (0,0)):=by rw [hM2.block _ hab1 hnb];exact hh.out
   have hnb2:=hM2.notin hab1 hnb
   obtain ⟨old,hold⟩:∃ old,(Qg args 0 (q+1))[q]?=some old:=⟨_,List.getElem?_eq_getElem (by rw [Xdq (by omega)];omega)⟩
   have cl:w2.cell? ⟨ab,q,none⟩=some (.int .i64 old):=by rw [cell_of_row _ _ _ _ _ _ hh2];exact Qe hold
   have fr:=frozen_of_row _ _ q _ _ hh2
   have zab2:=(La hh2)
   have hnew:Hid ((w2.setCell ⟨ab,q,none⟩ (.int .i64 a)).heap[ab]?=some (.cells (Xx (Qg args 0 q)) 3 (0,0))):=by
    refine Lh ?_;rw [heap_setCell_same _ _ _ _ _ _ hh2,Jq,Xd4 HA.out]
   have ho:∀ bb,bb≠ab→(w2.setCell ⟨ab,q,none⟩ (.int .i64 a)).heap[bb]?=w2.heap[bb]?:=fun bb hb=>heap_setCell_other _ _ _ _ hb
   have hst2:Hid (Xby W3 (w.heap.size+1) fb cap cs fs { f with stack:=l++args.take q } lv m Fi Fl ((w.heap.size+1)::fb::(Fi++(Fl++Fs))) ab (w2.setCell ⟨ab,q,none⟩ (.int .i64 a))):=by
    refine Lh ⟨cur2,sv2,Fs2,?_,(HM.out.trans (hM2.wide (F:=ab::(w.heap.size+1)::fb::(Fi++(Fl++Fs'))) (F':=ab::(w.heap.size+1)::fb::(Fi++(Fl++Fs2))) (fun b hb=>List.mem_cons_of_mem _ hb) (fun b hb=>?_))).trans ⟨rfl,rfl,rfl,by simp,fun k hk hF=>ho k (fun e=>hF (by simp [e])),fun _ h=>.inl h⟩,hnb2⟩
    ·exact hT2.sub (fun b hb=>ho b (fun e=>hnb2 (e▸hb)))
    ·rw [List.mem_cons] at hb;rcases hb with hb|hb;right;simp [hb];left;exact hb
   clear hT2 hM2 hold hh2 ho k0 k1 k2 k3 k4 k5 k6 k7 k8
   go_wp2_with fail
   go_roundg (gk - 1)
   case measure=>omega
   case rel=>exact ⟨q,by omega,by omega,by go_num,hst2,hnew⟩
  ·obtain rfl:r=0:=by omega
   have HT:Hid (Xk wr (w.heap.size+1) fb cap cur' cs fs { f with stack:=l } lv sv' m Fi Fl Fs'):=by
    have e:({ f with stack:=l++args.take 0 }:Fra)={ f with stack:=l }:=by simp
    rw [e] at hT;exact Lh hT
   have hMw:Hid (Xp ((w.heap.size+1)::fb::(Fi++(Fl++Fs))) ((w.heap.size+1)::fb::(Fi++(Fl++Fs'))) W wr):=Lh ((hM.drop HW3b.out (by have:=HAB.out;omega)).wide (F:=(w.heap.size+1)::fb::(Fi++(Fl++Fs))) (F':=(w.heap.size+1)::fb::(Fi++(Fl++Fs'))) (fun _ h=>h) (fun _ h=>.inl (List.mem_cons_of_mem _ h)))
   have hargs:Hid (Xf wr.heap.size wr 1 Zd (.slice (some ⟨ab,0,none⟩) args.length args.length) args):=Lh (by
    have h1:=hh.out
    rw [Xcc] at h1
    simp only [List.replicate_zero,List.append_nil] at h1
    exact Xit h1 rfl (by omega) (fun x hx=>H64.out x (by rw [HS.out];simp [hx])))
   have hBw:Below B W wr:=hMw.out.below (fun x hx=>by
    rw [List.mem_cons] at hx
    rcases hx with hx|hx
    ·omega
    ·exact HFB.out x hx) (by have:=hsz.out;omega)
   have hfs8:Hid (Xf B wr.drew 5 (Zl B) (.slice (some ⟨b,o,none⟩) funcs.length gc) funcs):=Lh (((HFS.out.funs (hWb.out.mono hB)).funs hBw).funs ((Xh (Below.refl _ _) 1)))
   have hargs8:Hid (Xf wr.heap.size wr.drew 1 Zd (.slice (some ⟨ab,0,none⟩) args.length args.length) args):=Lh (hargs.out.ints (Xh (Below.refl _ _) 1))
   have hBwr:B≤wr.heap.size:=by have h1:=hBw.size;have h2:=hsz.out;omega
   have i0:=hM.cell (hb03.out 0 _ rfl) HNB0.out
   have i1:=hM.cell (hb03.out 1 _ rfl) HNB0.out
   have i2:=hM.cell (hb03.out 2 _ rfl) HNB0.out
   have zi:=Bl i0
   have cF:=HT.out.cFrames
   have fF:=HT.out.frm 0
   have zm:w.heap.size+1<wr.heap.size:=HT.out.lt _ (by simp)
   have hmfb:¬w.heap.size+1=fb:=HT.out.ne.1
   obtain ⟨ti,hti,hz0,hz1,hz2⟩:=info_parts Vb
   have hcapl:=HT.out.capl
   clear hT hM hst hh
   go_upto_region 8 with fail
   go_region_law (first
    | (go_simp;go_at_call 39;refine (Xeb fa (some ⟨b,o,none⟩) (some ⟨ab,0,none⟩) fn fc gc args.length g B wr.heap.size wr.drew hBwr funcs hfs8.out k y HY.out args (Nat.le_refl _) hargs8.out z HQ.out hq2 hfl).mono ?_;rintro e w8 ⟨bl,rfl,hbl8,hble,hb8⟩;have cF8:=Xc hb8 (show wr.drew.cell? ⟨w.heap.size+1,0,none⟩=_ from cF);have fF8:Hid (((w8.alloc (.cells #[.int .i64 (k:Int),.int .i64 0,.slice (some ⟨bl,0,none⟩) (args.length+z) (args.length+z),.slice none 0 0] 83))).frozen? ⟨w.heap.size+1,0,none⟩=false):=Lh (by rw [World.frozen?_of_block (w:=wr) (a:=⟨w.heap.size+1,0,none⟩) (by rw [Below.heap_alloc _ _ _ (Nat.lt_of_lt_of_le zm hb8.size)];exact hb8.block _ zm)];exact fF);have zm8:w.heap.size+1<w8.heap.size:=Bl cF8;have HBL8:=Lh hbl8;have HB8:=Lh hb8;have hrow8:Hid ((w8.alloc (.cells #[.int .i64 (k:Int),.int .i64 0,.slice (some ⟨bl,0,none⟩) (args.length+z) (args.length+z),.slice none 0 0] 83)).ownsRow 0 83 4 (.slice (some ⟨fb,0,none⟩) (fs.length+1) cap) (fs.length+1) (cs++[.int .i64 f.fn,.int .i64 f.pc,lv,sv'])):=Lh (Xmz HT.out hb8 _);have hnews8:Hid (∀ j u,([.int .i64 (k:Int),.int .i64 0,.slice (some ⟨bl,0,none⟩) (args.length+z) (args.length+z),.slice none 0 0]:List Value)[j]?=some u→(w8.alloc (.cells #[.int .i64 (k:Int),.int .i64 0,.slice (some ⟨bl,0,none⟩) (args.length+z) (args.length+z),.slice none 0 0] 83)).cell? ((⟨w8.heap.size,0,none⟩:Addr).add j)=some u):=Lh (fun j u hu=>(by rw [add_zero,Y5];simpa using hu));clear hbl8 hb8)
    | (refine step_append_lies _ rfl (.tmp 35) (.tmp 40) 31 rfl 0 83 ti (.agg #[.int .i64 0,.int .i64 0,.slice none 0 0,.slice none 0 0]) 4 64 Tryz.underlying31 hti hz0 hz1 hz2 rfl (by decide) (.slice (some ⟨fb,0,none⟩) (fs.length+1) cap) (fs.length+1) (cs++[.int .i64 f.fn,.int .i64 f.pc,lv,sv']) rfl hrow8.out ⟨w8.heap.size,0,none⟩ 1 1 [.int .i64 (k:Int),.int .i64 0,.slice (some ⟨bl,0,none⟩) (args.length+z) (args.length+z),.slice none 0 0] rfl rfl hnews8.out (by simp [Value.oneCell']) (by omega) (by unfold maxLen;omega) (by omega) (Nat.zero_le _) (w8.heap.size+1) (by simp) ?_;intro g2 cap2 w9 ho hg hlies hglt;have HO9:=Lh ho;have HG9:=Lh hg;have HLI:=Lh hlies;have cF9:=(World.grownBy.cell_far hg ⟨w.heap.size+1,0,none⟩ (by simp;omega) (by simp [Value.ownBlock];exact hmfb)).trans (Xc (Xa _ _) cF8);have fF9:=(World.grownBy.frozen_far hg ⟨w.heap.size+1,0,none⟩ (by simp;omega) (by simp [Value.ownBlock];exact hmfb)).trans fF8.out;have zm9:=Bl cF9;clear ho hg hlies))
   all_goals
    have HTd:Xk w8 (w.heap.size+1) fb cap cur' cs fs { f with stack:=l } lv sv' m Fi Fl Fs':=(HT.out.keep (Xh (Below.refl _ _) 1)).keep HB8.out
    have hMd:=hMw.out.trans (Xp.of_below ((show Below wr.heap.size wr wr.drew from Xh (Below.refl _ _) 1).then HB8.out))
    have hWw:=hMw.out.size
    obtain ⟨F',hO',hM'⟩:=Xij (o:=.cells #[.int .i64 (k:Int),.int .i64 0,.slice (some ⟨bl,0,none⟩) (args.length+z) (args.length+z),.slice none 0 0] 83) (locs:=args++List.replicate z 0) HTd hMd (by simp) (by omega) (Xoh HS.out H64.out) (by omega) (by simp at hble;omega) (fun e=>by have h1:=HT.out.lt _ e;simp at hble;omega) HBL8.out HO9.out (Xi4 HG9.out) (by rcases HLI.out with h1|h1;exact .inl h1;exact .inr (by rw [h1];simp))
    obtain ⟨W9,hW9⟩:∃ V,V=w9.setCell ⟨w.heap.size+1,0,none⟩ (.slice (some ⟨g2,0,none⟩) (fs.length+1+1) cap2):=⟨_,rfl⟩
    rw [←hW9] at hO' hM' ⊢
    have hc9:W9.cell? ⟨w.heap.size+1,0,none⟩=some (.slice (some ⟨g2,0,none⟩) (fs.length+1+1) cap2):=by rw [hW9];exact World.cell?_setCell_same _ _ _ cF9
    obtain ⟨F0,h9,hv9,rfl,hn9⟩:=Vz hO' hc9
    obtain ⟨t1,t2,t3⟩:=J2 (R:=w.heap.size+1+1) (bm:=w.heap.size+1) (m1:={ m with frames:=fs++[{ f with stack:=l }]++[⟨k,0,args++List.replicate z 0,[]⟩] }) hWb.out hv9 hM' (fun x hx=>List.mem_cons_of_mem _ hx) hF.out (by omega) (by omega) (by omega) (by have:=hsz.out;omega) B2.out
    have Q2:=Lh t2
    have Q3:=Lh t3
    obtain ⟨k0,k1,k2,k3,k4,k5,k6,k7,k8⟩:=Xq h9
    have z9:=(La h9)
    obtain ⟨r0,r1,r2,r3,r4,r5,r6,r7,r8⟩:=Xq t1
    obtain ⟨q0,q1,q2,q3,q4,q5,q6,q7,q8⟩:=Xu t1
    have y2:=(La t1)
    have HW9:=Lh hW9
    clear t1 t2 t3 h9 hv9 hO' hM' hn9 hc9 hW9 HTd hMd cF cF8 cF9 i0 i1 i2
    go_wp2_with fail
    exact bodyPost_ret (v:=Xi (.slice (some ⟨g2,0,none⟩) (fs.length+1+1) cap2) { m with frames:=fs++[{ f with stack:=l }]++[⟨k,0,args++List.replicate z 0,[]⟩] }) (Xn (p:=6) rfl Q2.out _ rfl) rfl (by rw [HMR.out];exact Q3.out)
end Go.Proofs.YtbmeoklmachjpaaGreatDoor
