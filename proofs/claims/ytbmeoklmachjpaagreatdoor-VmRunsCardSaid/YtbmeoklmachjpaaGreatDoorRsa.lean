/- The contract of the reference's simple: rsimple_1, rsimple_2, rsimple_11, rsimple_12a, rsimple_12b, rsimple_13a, rsimple_13b, rsimple_30, rsimple_31. MADE BY wip/group_simple.py -/
import Derived.Test.YtbmeoklmachjpaaGreatDoorRa
import Derived.Deep.RegionHeld3
import Derived.Deep.RegionWith
set_option maxHeartbeats 8000000
set_option maxRecDepth 100000
set_option linter.unusedVariables false
set_option linter.unusedSimpArgs false
namespace Go.Proofs.YtbmeoklmachjpaaGreatDoor
open Go.RowKit
theorem Qf {w:World} {fv:Value} {m:Mch} {F:List Nat} {fs:List Fra} {f:Fra} (op xa:Int) (m':Mch) (hcs:(op=1∧(in64 xa)∧m'={ m with frames:=fs++[{ f with stack:=f.stack++[xa] }] })∨(op=2∧∃ (i:Nat),xa=(i:Int)∧∃ (n:Int),(f.locals[i]?=some n)∧(in64 n)∧m'={ m with frames:=fs++[{ f with stack:=f.stack++[n] }] })∨(op=11∧(in64 xa)∧m'={ m with frames:=fs++[{ f with pc:=xa }] })∨(op=12∧(in64 xa)∧∃ (l:List Int),∃ (v:Int),(f.stack=l++[v])∧(v=0)∧m'={ m with frames:=fs++[{ f with pc:=xa,stack:=l }] })∨(op=12∧∃ (l:List Int),∃ (v:Int),(f.stack=l++[v])∧(v≠0)∧m'={ m with frames:=fs++[{ f with stack:=l }] })∨(op=13∧(m.fuel=0)∧m'={ m with req:=X0 20,frames:=[] })∨(op=13∧(m.fuel≠0)∧(0≤m.fuel∧m.fuel≤4611686018427387904)∧m'={ m with fuel:=m.fuel - 1,idle:=0,frames:=fs++[f] })∨(op=30∧∃ (l:List Int),∃ (v:Int),(f.stack=l++[v])∧m'={ m with frames:=fs++[{ f with stack:=l }] })∨(op=31∧∃ (l:List Int),∃ (v:Int),(f.stack=l++[v])∧(in64 v)∧m'={ m with frames:=fs++[{ f with stack:=l++[v]++[v] }] })) (hv:Z9 w fv m.frames F) (hm:m.frames=fs++[f]) (hn:fs.length≤200) (hsl:f.stack.length<1000000 - 2) :
  Calls Tryz.prog 101 #[Xi fv m,.agg #[.int .i64 op,.int .i64 xa]] w (Qh w F m'):=by
 obtain ⟨fb,cap,cur,cs,lv,sv,Fi,Fl,Fs,rfl,rfl,hT⟩:=hv.top hm
 have hF:=Lh hv.lt
 obtain ⟨W,hW⟩:∃ W,W=((w.alloc (.cells (Xb (.slice (some ⟨fb,0,none⟩) (fs.length+1) cap) m) 36)).alloc (.cells #[.int .i64 op,.int .i64 xa] 100)).alloc (.cells (Xb (.slice none 0 0) Xl) 36):=⟨_,rfl⟩
 have hWb:Hid (Below w.heap.size w W):=by rw [hW];exact Lh (((Xa _ _).then (Xa _ _)).then (Xa _ _))
 have hsz:Hid (W.heap.size=w.heap.size+3):=by rw [hW];exact Lh (by simp)
 have b0:W.heap[w.heap.size]?=some (.cells (Xb (.slice (some ⟨fb,0,none⟩) (fs.length+1) cap) m) 36 (0,0)):=by
  rw [hW,Below.heap_alloc _ _ _ (by simp;omega),Below.heap_alloc _ _ _ (by simp)]
  exact heap_alloc_new _ _
 have b1:Xo W (w.heap.size+1) [.int .i64 op,.int .i64 xa]:=by
  rw [hW]
  have:=(@Xd (w.alloc (.cells (Xb (.slice (some ⟨fb,0,none⟩) (fs.length+1) cap) m) 36)) #[.int .i64 op,.int .i64 xa] 100).alloc (.cells (Xb (.slice none 0 0) Xl) 36)
  simpa using this
 have b2:W.heap[w.heap.size+1+1]?=some (.cells (Xb (.slice none 0 0) Xl) 36 (0,0)):=by
  rw [hW]
  have:=heap_alloc_new ((w.alloc (.cells (Xb (.slice (some ⟨fb,0,none⟩) (fs.length+1) cap) m) 36)).alloc (.cells #[.int .i64 op,.int .i64 xa] 100)) (.cells (Xb (.slice none 0 0) Xl) 36)
  simpa using this
 have hT0:=hT W w.heap.size m hWb.out b0 (Nat.le_refl _)
 have H:=Lh hT0
 have HTd:Hid (Xk W.drew w.heap.size fb cap cur cs fs f lv sv m Fi Fl Fs):=Lh (hT0.keep (Xh (Below.refl _ _) 1))
 obtain ⟨k0,k1,k2,k3,k4,k5,k6,k7,k8⟩:=Xq b0
 have i0:=b1 0 _ rfl
 have i1:=b1 1 _ rfl
 have B2:=Lh b2
 have z0:w.heap.size<W.heap.size:=by have:=hsz.out;omega
 have z1:w.heap.size+1<W.heap.size:=by have:=hsz.out;omega
 have hnl:(fs.length:Int)≤200:=by omega
 have hix:(fs.length:Int)<(fs.length:Int)+1:=by omega
 have hx0:(0:Int)≤(fs.length:Int):=Int.natCast_nonneg _
 have hcapl:=hT0.capl
 have hnotI:w.heap.size+1∉w.heap.size::fb::(Fi++(Fl++Fs)):=fun e=>by
  rw [List.mem_cons] at e
  rcases e with e|e
  ·omega
  ·have:=hF.out _ e;omega
 have HB1:=Lh b1
 have HCS:=Lh hcs
 clear b0 b1 b2 hT hT0 hv hm hcs
 unfold Xi
 unfold Xb Xl at hW
 unfold Xb
 dsimp only at hW ⊢
 go_enter Tryz.func101,Tryz.ntmps101
 go_upto_region 1 with fail
 rw [←hW]
 have HW:=Lh hW
 clear hW
 rcases HCS.out with ⟨rfl,h64,rfl⟩|⟨rfl,i,rfl,n,hi,hn64,rfl⟩|⟨rfl,h64,rfl⟩|⟨rfl,h64,l,v,hst,hv0,rfl⟩|⟨rfl,l,v,hst,hv0,rfl⟩|⟨rfl,hf0,rfl⟩|⟨rfl,hf0,hf2,rfl⟩|⟨rfl,l,v,hst,rfl⟩|⟨rfl,l,v,hst,h64,rfl⟩
 ·have hT0:=H.out
  clear hT0 HCS
  go_wp2_with fail
  refine (Qm m H.out hn xa h64 (by omega)).mono ?_
  rintro e w1 ⟨rfl,cur1,sv1,Fs1,hT1,hM1⟩
  have HT1:=Lh hT1
  have HM1:=Lh hM1
  clear hT1 hM1 i0 i1 k0 k1 k2 k3 k4 k5 k6 k7 k8
  obtain ⟨t1,t2,t3⟩:=Kn hWb.out HT1.out HM1.out hF.out (R:=w.heap.size+1+1) (by omega) (by have:=hsz.out;omega) B2.out
  have T2:=Lh t2
  have T3:=Lh t3
  obtain ⟨n0,n1,n2,n3,n4,n5,n6,n7,n8⟩:=Xq HT1.out.mach
  obtain ⟨r0,r1,r2,r3,r4,r5,r6,r7,r8⟩:=Xq t1
  obtain ⟨q0,q1,q2,q3,q4,q5,q6,q7,q8⟩:=Xu t1
  have y0:=(La HT1.out.mach)
  have y2:=(La t1)
  clear t1 t2 t3
  go_wp2_with fail
  exact bodyPost_ret (v:=Xi (.slice (some ⟨fb,0,none⟩) (fs.length+1) cap) m) (Xn (p:=4) rfl T2.out _ rfl) rfl T3.out
 ·have hT0:=H.out
  have hil:i<f.locals.length:=(Ll hi)
  obtain ⟨lb,lcap,hlv,hFl,hlc,hlc2⟩:=hT0.loc.form (by omega)
  subst hlv
  have cLv:=hT0.cLv
  have cL:=hT0.loc.cellAt hi
  have hi0:(0:Int)≤(i:Int):=Int.natCast_nonneg _
  have hi1:(i:Int)<(f.locals.length:Int):=by omega
  have HI:=Lh hi
  clear hT0 HCS hi
  go_upto_region 6 with fail
  go_region_held3 (fun V=>V.cell? ⟨w.heap.size,0,none⟩=some (.slice (some ⟨fb,0,none⟩) (fs.length+1) cap)∧V.cell? ⟨w.heap.size,1,none⟩=some (.int .i64 m.req.kind)∧V.cell? ⟨w.heap.size,2,none⟩=some (.int .i64 m.req.node)∧V.cell? ⟨w.heap.size,3,none⟩=some (.int .i64 m.req.field)∧V.cell? ⟨w.heap.size,4,none⟩=some (.int .i64 m.req.value)∧V.cell? ⟨w.heap.size,5,none⟩=some (.int .i64 m.req.fault)∧V.cell? ⟨w.heap.size,6,none⟩=some (.int .i64 m.fuel)∧V.cell? ⟨w.heap.size,7,none⟩=some (.int .i64 m.compares)∧V.cell? ⟨w.heap.size,8,none⟩=some (.int .i64 m.idle)∧V.cell? ⟨w.heap.size+1,1,none⟩=some (.int .i64 (i:Int))∧V.cell? ⟨fb,fs.length*4+2,none⟩=some (.slice (some ⟨lb,0,none⟩) f.locals.length lcap)∧V.cell? ⟨lb,i,none⟩=some (.int .i64 n))
   (first|exact ⟨k0,k1,k2,k3,k4,k5,k6,k7,k8,i1,cLv,cL⟩|exact ⟨j0,j1,j2,j3,j4,j5,j6,j7,j8,ji,jLv,jL⟩)
   (first|(go_at_call 84;refine (Qm m HTd.out hn n hn64 (by omega)).mono ?_;rintro e w1 ⟨rfl,cur1,sv1,Fs1,hT1,hM1⟩;obtain ⟨j0,j1,j2,j3,j4,j5,j6,j7,j8⟩:=Xq hT1.mach;have ji:=hM1.cell (show W.drew.cell? _=_ from i1) hnotI;have jLv:=hT1.cLv;have jL:=hT1.loc.cellAt HI.out;have HT1:=Lh hT1;have HM1:Hid (Xp (w.heap.size::fb::(Fi++(Fl++Fs))) (w.heap.size::fb::(Fi++(Fl++Fs1))) W w1):=Lh ((Xp.of_below (Xh (Below.refl _ _) 1)).trans hM1);clear hT1 hM1))
  clear i0 i1 cLv cL ji jLv jL k0 k1 k2 k3 k4 k5 k6 k7 k8 j0 j1 j2 j3 j4 j5 j6 j7 j8
  obtain ⟨t1,t2,t3⟩:=Kn hWb.out HT1.out HM1.out hF.out (R:=w.heap.size+1+1) (by omega) (by have:=hsz.out;omega) B2.out
  have T2:=Lh t2
  have T3:=Lh t3
  obtain ⟨n0,n1,n2,n3,n4,n5,n6,n7,n8⟩:=Xq HT1.out.mach
  obtain ⟨r0,r1,r2,r3,r4,r5,r6,r7,r8⟩:=Xq t1
  obtain ⟨q0,q1,q2,q3,q4,q5,q6,q7,q8⟩:=Xu t1
  have y0:=(La HT1.out.mach)
  have y2:=(La t1)
  clear t1 t2 t3
  go_wp2_with fail
  exact bodyPost_ret (v:=Xi (.slice (some ⟨fb,0,none⟩) (fs.length+1) cap) m) (Xn (p:=4) rfl T2.out _ rfl) rfl T3.out
 ·have hT0:=H.out
  have cPc:=hT0.cPc
  have fPc:=hT0.frf (fs.length*4+1)
  have zfb:=hT0.lt fb (by simp)
  obtain ⟨h6,hM6⟩:=K9 H.out xa h64
  obtain ⟨w6,hw6⟩:∃ u,u=W.setCell ⟨fb,fs.length*4+1,none⟩ (.int .i64 xa):=⟨_,rfl⟩
  rw [←hw6] at h6 hM6
  have HT6:=Lh h6
  have HM6:=Lh hM6
  have HW6:=Lh hw6
  clear h6 hM6 hw6
  clear hT0 HCS
  go_upto_region 31 with fail
  rw [←HW6.out]
  clear i0 i1 cPc fPc k0 k1 k2 k3 k4 k5 k6 k7 k8
  obtain ⟨t1,t2,t3⟩:=Kn hWb.out HT6.out HM6.out hF.out (R:=w.heap.size+1+1) (by omega) (by have:=hsz.out;omega) B2.out
  have T2:=Lh t2
  have T3:=Lh t3
  obtain ⟨n0,n1,n2,n3,n4,n5,n6,n7,n8⟩:=Xq HT6.out.mach
  obtain ⟨r0,r1,r2,r3,r4,r5,r6,r7,r8⟩:=Xq t1
  obtain ⟨q0,q1,q2,q3,q4,q5,q6,q7,q8⟩:=Xu t1
  have y0:=(La HT6.out.mach)
  have y2:=(La t1)
  clear t1 t2 t3
  go_wp2_with fail
  exact bodyPost_ret (v:=Xi (.slice (some ⟨fb,0,none⟩) (fs.length+1) cap) m) (Xn (p:=4) rfl T2.out _ rfl) rfl T3.out
 ·have hT0:=H.out
  have HST:=Lh hst
  have hv1:(v == 0)=true:=by rw [hv0];rfl
  clear hT0 HCS hst hv0
  go_wp2_with fail
  refine (Yu m H.out hn l v HST.out).mono ?_
  rintro e w1 ⟨rfl,cur1,sv1,Fs1,hT1,hM1⟩
  obtain ⟨p0,-⟩:=Xq hT1.mach
  have pi:=hM1.cell i1 hnotI
  have cPc:=hT1.cPc
  have fPc:=hT1.frf (fs.length*4+1)
  have zfb:=hT1.lt fb (by simp)
  obtain ⟨h6,hM6⟩:=K9 hT1 xa h64
  obtain ⟨w6,hw6⟩:∃ u,u=w1.setCell ⟨fb,fs.length*4+1,none⟩ (.int .i64 xa):=⟨_,rfl⟩
  rw [←hw6] at h6 hM6
  have HT6:=Lh h6
  have HM6:=Lh (hM1.trans hM6)
  have HW6:=Lh hw6
  clear h6 hM6 hw6 hT1 hM1 i0 i1 k0 k1 k2 k3 k4 k5 k6 k7 k8
  go_upto_region 31 with fail
  rw [←HW6.out]
  clear pi cPc fPc p0
  obtain ⟨t1,t2,t3⟩:=Kn hWb.out HT6.out HM6.out hF.out (R:=w.heap.size+1+1) (by omega) (by have:=hsz.out;omega) B2.out
  have T2:=Lh t2
  have T3:=Lh t3
  obtain ⟨n0,n1,n2,n3,n4,n5,n6,n7,n8⟩:=Xq HT6.out.mach
  obtain ⟨r0,r1,r2,r3,r4,r5,r6,r7,r8⟩:=Xq t1
  obtain ⟨q0,q1,q2,q3,q4,q5,q6,q7,q8⟩:=Xu t1
  have y0:=(La HT6.out.mach)
  have y2:=(La t1)
  clear t1 t2 t3
  go_wp2_with fail
  exact bodyPost_ret (v:=Xi (.slice (some ⟨fb,0,none⟩) (fs.length+1) cap) m) (Xn (p:=4) rfl T2.out _ rfl) rfl T3.out
 ·have hT0:=H.out
  have HST:=Lh hst
  have hv1:(v == 0)=false:=beq_eq_false_iff_ne.2 hv0
  clear hT0 HCS hst hv0
  go_wp2_with fail
  refine (Yu m H.out hn l v HST.out).mono ?_
  rintro e w1 ⟨rfl,cur1,sv1,Fs1,hT1,hM1⟩
  have HT1:=Lh hT1
  have HM1:=Lh hM1
  clear hT1 hM1 i0 i1 k0 k1 k2 k3 k4 k5 k6 k7 k8
  go_upto_region 31 with fail
  obtain ⟨t1,t2,t3⟩:=Kn hWb.out HT1.out HM1.out hF.out (R:=w.heap.size+1+1) (by omega) (by have:=hsz.out;omega) B2.out
  have T2:=Lh t2
  have T3:=Lh t3
  obtain ⟨n0,n1,n2,n3,n4,n5,n6,n7,n8⟩:=Xq HT1.out.mach
  obtain ⟨r0,r1,r2,r3,r4,r5,r6,r7,r8⟩:=Xq t1
  obtain ⟨q0,q1,q2,q3,q4,q5,q6,q7,q8⟩:=Xu t1
  have y0:=(La HT1.out.mach)
  have y2:=(La t1)
  clear t1 t2 t3
  go_wp2_with fail
  exact bodyPost_ret (v:=Xi (.slice (some ⟨fb,0,none⟩) (fs.length+1) cap) m) (Xn (p:=4) rfl T2.out _ rfl) rfl T3.out
 ·have hT0:=H.out
  have hf1:(m.fuel == 0)=true:=by rw [hf0];rfl
  clear hT0 HCS hf0
  go_wp2_with fail
  refine (Q0 _ _ _ m 20 _).mono ?_
  rintro e w1 ⟨rfl,hb1⟩
  have b22:w1.heap[w.heap.size+1+1]?=some (.cells (Xb (.slice none 0 0) Xl) 36 (0,0)):=by rw [hb1.block _ (by have:=hsz.out;omega)];exact B2.out
  obtain ⟨p1,p2⟩:=Xz b22 (.slice none 0 0) { m with req:=X0 20,frames:=[] }
  have HFIN:Hid (Below w.heap.size w (Yp w1 (w.heap.size+1+1) (.slice none 0 0) { m with req:=X0 20,frames:=[] })):=Lh ((hWb.out.then hb1).trans (p2.below (fun b hb=>by simp at hb;omega) (hWb.out.then hb1).size))
  have P1:=Lh p1
  obtain ⟨r0,r1,r2,r3,r4,r5,r6,r7,r8⟩:=Xq b22
  obtain ⟨q0,q1,q2,q3,q4,q5,q6,q7,q8⟩:=Xu b22
  have y2:=(La b22)
  clear b22 p1 p2 hb1 i0 i1 k0 k1 k2 k3 k4 k5 k6 k7 k8
  unfold Xi Xb
  go_wp2_with fail
  exact bodyPost_ret (v:=Xi (.slice none 0 0) { m with req:=X0 20,frames:=[] }) (Xn (p:=4) rfl P1.out _ rfl) rfl ⟨_,[],rfl,Jd _,(Xp.of_below HFIN.out).wide (F:=fb::(Fi++(Fl++Fs))) (Fs:=[]) (Fs':=[]) (by simp) (by simp)⟩
 ·have hT0:=H.out
  have hf1:(m.fuel == 0)=false:=beq_eq_false_iff_ne.2 hf0
  obtain ⟨h5,hM5⟩:=Kw hT0 (Below.refl _ _) (m':={ m with fuel:=m.fuel - 1 }) 6 (.int .i64 (m.fuel - 1)) (by unfold Xb;rfl)
  obtain ⟨w5,hw5⟩:∃ u,u=W.setCell ⟨w.heap.size,6,none⟩ (.int .i64 (m.fuel - 1)):=⟨_,rfl⟩
  rw [←hw5] at h5 hM5
  obtain ⟨h6,hM6⟩:=Kw h5 (Below.refl _ _) (m':={ m with fuel:=m.fuel - 1,idle:=0 }) 8 (.int .i64 0) (by unfold Xb;rfl)
  obtain ⟨w6,hw6⟩:∃ u,u=w5.setCell ⟨w.heap.size,8,none⟩ (.int .i64 0):=⟨_,rfl⟩
  rw [←hw6] at h6 hM6
  obtain ⟨-,-,-,-,-,-,f6,-⟩:=Xu hT0.mach
  obtain ⟨-,-,-,-,-,-,-,-,g8⟩:=Xu h5.mach
  obtain ⟨-,-,-,-,-,-,-,-,e8⟩:=Xq h5.mach
  have z5:=(La h5.mach)
  have HT6:=Lh h6
  have HM6:=Lh (hM5.trans hM6)
  have HW5:=Lh hw5
  have HW6:=Lh hw6
  clear h5 h6 hM5 hM6 hw5 hw6
  clear hT0 HCS hf0
  go_upto_region 18 with fail
  rw [←HW5.out]
  go_upto_region 31 with fail
  rw [←HW6.out]
  clear i0 i1 f6 g8 e8 k0 k1 k2 k3 k4 k5 k6 k7 k8
  obtain ⟨t1,t2,t3⟩:=Kn hWb.out HT6.out HM6.out hF.out (R:=w.heap.size+1+1) (by omega) (by have:=hsz.out;omega) B2.out
  have T2:=Lh t2
  have T3:=Lh t3
  obtain ⟨n0,n1,n2,n3,n4,n5,n6,n7,n8⟩:=Xq HT6.out.mach
  obtain ⟨r0,r1,r2,r3,r4,r5,r6,r7,r8⟩:=Xq t1
  obtain ⟨q0,q1,q2,q3,q4,q5,q6,q7,q8⟩:=Xu t1
  have y0:=(La HT6.out.mach)
  have y2:=(La t1)
  clear t1 t2 t3
  go_wp2_with fail
  exact bodyPost_ret (v:=Xi (.slice (some ⟨fb,0,none⟩) (fs.length+1) cap) { m with fuel:=m.fuel - 1,idle:=0 }) (Xn (p:=4) rfl T2.out _ rfl) rfl T3.out
 ·have hT0:=H.out
  have HST:=Lh hst
  clear hT0 HCS hst
  go_wp2_with fail
  refine (Yu m H.out hn l v HST.out).mono ?_
  rintro e w1 ⟨rfl,cur1,sv1,Fs1,hT1,hM1⟩
  have HT1:=Lh hT1
  have HM1:=Lh hM1
  clear hT1 hM1 i0 i1 k0 k1 k2 k3 k4 k5 k6 k7 k8
  go_upto_region 31 with fail
  obtain ⟨t1,t2,t3⟩:=Kn hWb.out HT1.out HM1.out hF.out (R:=w.heap.size+1+1) (by omega) (by have:=hsz.out;omega) B2.out
  have T2:=Lh t2
  have T3:=Lh t3
  obtain ⟨n0,n1,n2,n3,n4,n5,n6,n7,n8⟩:=Xq HT1.out.mach
  obtain ⟨r0,r1,r2,r3,r4,r5,r6,r7,r8⟩:=Xq t1
  obtain ⟨q0,q1,q2,q3,q4,q5,q6,q7,q8⟩:=Xu t1
  have y0:=(La HT1.out.mach)
  have y2:=(La t1)
  clear t1 t2 t3
  go_wp2_with fail
  exact bodyPost_ret (v:=Xi (.slice (some ⟨fb,0,none⟩) (fs.length+1) cap) m) (Xn (p:=4) rfl T2.out _ rfl) rfl T3.out
 ·have hT0:=H.out
  have HST:=Lh hst
  have hll:l.length+1<1000000:=by have:=congrArg List.length hst;simp at this;omega
  clear hT0 HCS hst
  go_wp2_with fail
  refine (Yu m H.out hn l v HST.out).mono ?_
  rintro e w1 ⟨rfl,cur1,sv1,Fs1,hT1,hM1⟩
  obtain ⟨j0,j1,j2,j3,j4,j5,j6,j7,j8⟩:=Xq hT1.mach
  have HT1:=Lh hT1
  have HM1:=Lh hM1
  clear hT1 hM1 i0 i1 k0 k1 k2 k3 k4 k5 k6 k7 k8
  go_wp2_with fail
  refine (Qm m HT1.out hn v h64 (by show l.length<1000000;omega)).mono ?_
  rintro e w2 ⟨rfl,cur2,sv2,Fs2,hT2,hM2⟩
  obtain ⟨p0,p1,p2,p3,p4,p5,p6,p7,p8⟩:=Xq hT2.mach
  have HT2:=Lh hT2
  have HM2:=Lh (HM1.out.trans hM2)
  clear hT2 hM2 j0 j1 j2 j3 j4 j5 j6 j7 j8
  go_wp2_with fail
  refine (Qm m HT2.out hn v h64 (by show (l++[v]).length<1000000;simp;omega)).mono ?_
  rintro e w3 ⟨rfl,cur3,sv3,Fs3,hT3,hM3⟩
  have HT3:=Lh hT3
  have HM3:=Lh (HM2.out.trans hM3)
  clear hT3 hM3 p0 p1 p2 p3 p4 p5 p6 p7 p8
  go_upto_region 31 with fail
  obtain ⟨t1,t2,t3⟩:=Kn hWb.out HT3.out HM3.out hF.out (R:=w.heap.size+1+1) (by omega) (by have:=hsz.out;omega) B2.out
  have T2:=Lh t2
  have T3:=Lh t3
  obtain ⟨n0,n1,n2,n3,n4,n5,n6,n7,n8⟩:=Xq HT3.out.mach
  obtain ⟨r0,r1,r2,r3,r4,r5,r6,r7,r8⟩:=Xq t1
  obtain ⟨q0,q1,q2,q3,q4,q5,q6,q7,q8⟩:=Xu t1
  have y0:=(La HT3.out.mach)
  have y2:=(La t1)
  clear t1 t2 t3
  go_wp2_with fail
  exact bodyPost_ret (v:=Xi (.slice (some ⟨fb,0,none⟩) (fs.length+1) cap) m) (Xn (p:=4) rfl T2.out _ rfl) rfl T3.out
end Go.Proofs.YtbmeoklmachjpaaGreatDoor
