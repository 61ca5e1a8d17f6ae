/- The contract of the reference's ask: rask_7a, rask_7b. MADE BY wip/group_simple.py -/
import Derived.Test.YtbmeoklmachjpaaGreatDoorRqa
import Derived.Deep.RegionHeld3
import Derived.Deep.RegionWith
set_option maxHeartbeats 8000000
set_option maxRecDepth 100000
set_option linter.unusedVariables false
set_option linter.unusedSimpArgs false
namespace Go.Proofs.YtbmeoklmachjpaaGreatDoor
open Go.RowKit
theorem Xkz {w:World} {fv:Value} {m:Mch} {F:List Nat} {fs:List Fra} {f:Fra} (op xa:Int) (m':Mch) (hcs:(op=7∧∃ (l:List Int),∃ (u v:Int),(f.stack=l++[u]++[v])∧(1≤u)∧m'={ m with req:=⟨2,u,xa,v,0⟩,frames:=fs++[{ f with stack:=l }] })∨(op=7∧∃ (l:List Int),∃ (u v:Int),(f.stack=l++[u]++[v])∧(u<1)∧m'={ m with req:=X0 17,frames:=[] })) (hv:Z9 w fv m.frames F) (hm:m.frames=fs++[f]) (hn:fs.length≤200) (hsl:f.stack.length<1000000 - 2) :
  Calls Tryz.prog 97 #[Xi fv m,.agg #[.int .i64 op,.int .i64 xa]] w (Qh w F m'):=by
 obtain ⟨fb,cap,cur,cs,lv,sv,Fi,Fl,Fs,rfl,rfl,hT⟩:=hv.top hm
 have hF:=Lh hv.lt
 obtain ⟨W,hW⟩:∃ W,W=((w.alloc (.cells (Xb (.slice (some ⟨fb,0,none⟩) (fs.length+1) cap) m) 36)).alloc (.cells #[.int .i64 op,.int .i64 xa] 100)).alloc (.cells (Xb (.slice none 0 0) Xl) 36):=⟨_,rfl⟩
 have hWb:Hid (Below w.heap.size w W):=by rw [hW];exact Lh (((Xa _ _).then (Xa _ _)).then (Xa _ _))
 have hsz:Hid (W.heap.size=w.heap.size+3):=by rw [hW];exact Lh (by simp)
 have b0:W.heap[w.heap.size]?=some (.cells (Xb (.slice (some ⟨fb,0,none⟩) (fs.length+1) cap) m) 36 (0,0)):=by
  rw [hW,Below.heap_alloc _ _ _ (by simp;omega),Below.heap_alloc _ _ _ (by simp)]
  exact heap_alloc_new _ _
 have b1:Xo W (w.heap.size+1) [.int .i64 op,.int .i64 xa]:=by
  rw [hW]
  have:=(@Xd (w.alloc (.cells (Xb (.slice (some ⟨fb,0,none⟩) (fs.length+1) cap) m) 36)) #[.int .i64 op,.int .i64 xa] 100).alloc (.cells (Xb (.slice none 0 0) Xl) 36)
  simpa using this
 have b2:W.heap[w.heap.size+1+1]?=some (.cells (Xb (.slice none 0 0) Xl) 36 (0,0)):=by
  rw [hW]
  have:=heap_alloc_new ((w.alloc (.cells (Xb (.slice (some ⟨fb,0,none⟩) (fs.length+1) cap) m) 36)).alloc (.cells #[.int .i64 op,.int .i64 xa] 100)) (.cells (Xb (.slice none 0 0) Xl) 36)
  simpa using this
 have hT0:=hT W w.heap.size m hWb.out b0 (Nat.le_refl _)
 have H:=Lh hT0
 have HTd:Hid (Xk W.drew w.heap.size fb cap cur cs fs f lv sv m Fi Fl Fs):=Lh (hT0.keep (Xh (Below.refl _ _) 1))
 obtain ⟨k0,k1,k2,k3,k4,k5,k6,k7,k8⟩:=Xq b0
 have i0:=b1 0 _ rfl
 have i1:=b1 1 _ rfl
 have B2:=Lh b2
 have z0:w.heap.size<W.heap.size:=by have:=hsz.out;omega
 have z1:w.heap.size+1<W.heap.size:=by have:=hsz.out;omega
 have hnl:(fs.length:Int)≤200:=by omega
 have hix:(fs.length:Int)<(fs.length:Int)+1:=by omega
 have hx0:(0:Int)≤(fs.length:Int):=Int.natCast_nonneg _
 have hcapl:=hT0.capl
 have hnotI:w.heap.size+1∉w.heap.size::fb::(Fi++(Fl++Fs)):=fun e=>by
  rw [List.mem_cons] at e
  rcases e with e|e
  ·omega
  ·have:=hF.out _ e;omega
 have HB1:=Lh b1
 have HCS:=Lh hcs
 have CI:=Lh b1
 clear b0 b1 b2 hT hT0 hv hm hcs
 unfold Xi
 unfold Xb Xl at hW
 unfold Xb
 dsimp only at hW ⊢
 go_enter Tryz.func97,Tryz.ntmps97
 go_upto_region 1 with fail
 rw [←hW]
 have HW:=Lh hW
 clear hW
 go_upto_region 2 with fail
 obtain ⟨V,hV⟩:∃ uu,uu=W.alloc (.cells #[.int .i64 1,.int .i64 0,.int .i64 xa,.int .i64 0,.int .i64 0] 34):=⟨_,rfl⟩
 have hVb:Below W.heap.size W V:=by rw [hV];exact Xa _ _
 obtain ⟨rb,hrb⟩:∃ uu,uu=W.heap.size:=⟨_,rfl⟩
 have R0:Hid (V.heap[rb]?=some (.cells #[.int .i64 1,.int .i64 0,.int .i64 xa,.int .i64 0,.int .i64 0] 34 (0,0))):=Lh (by rw [hrb,hV];exact heap_alloc_new _ _)
 have hrbFFs:Hid (rb∉w.heap.size::fb::(Fi++(Fl++Fs))):=Lh (fun e=>by
  rw [List.mem_cons] at e
  rcases e with e|e
  ·omega
  ·have:=hF.out _ e;omega)
 have hrbW:Hid (W.heap.size≤rb):=Lh (by omega)
 have hrbi:Hid (w.heap.size+1≠rb):=Lh (by omega)
 have T0:=Lh (H.out.keep hVb)
 have M0:Hid (Xp (w.heap.size::fb::(Fi++(Fl++Fs))) (w.heap.size::fb::(Fi++(Fl++Fs))) W V):=Lh (Xp.of_below hVb)
 have I0:Hid (Xo V (w.heap.size+1) [.int .i64 op,.int .i64 xa]):=Lh (CI.out.keep hVb)
 rw [←hV,← hrb]
 have HV:=Lh hV
 have HRB:=Lh hrb
 clear hV hrb hVb i0 i1 k0 k1 k2 k3 k4 k5 k6 k7 k8
 rcases HCS.out with ⟨rfl,l,u,v,hst,hu1,rfl⟩|⟨rfl,l,u,v,hst,hu1,rfl⟩
 ·have hT0:=H.out
  have HST:=Lh hst
  have hu2:¬u<1:=by omega
  clear hT0 HCS hst
  obtain ⟨k0,k1,k2,k3,k4,k5,k6,k7,k8⟩:=Xq T0.out.mach
  obtain ⟨f0,f1,f2,f3,f4,f5,f6,f7,f8⟩:=Xu T0.out.mach
  obtain ⟨d0,d1,d2,d3,d4⟩:=Yg (r:=⟨1,0,xa,0,0⟩) R0.out
  obtain ⟨g0,g1,g2,g3,g4,-⟩:=Xu R0.out
  have i0:=I0.out 0 _ rfl
  have i1:=I0.out 1 _ rfl
  have x0:=(La T0.out.mach)
  have x1:=Bl i0
  have x2:=(La R0.out)
  obtain ⟨t1,m1⟩:=J3 (j:=0) (v:=.int .i64 2) T0.out M0.out hrbFFs.out hrbW.out
  have e1:=Xab (r:=⟨1,0,xa,0,0⟩) R0.out 0 (.int .i64 2) ⟨2,0,xa,0,0⟩ rfl
  have c1:=Qc (j:=0) (v:=.int .i64 2) I0.out hrbi.out
  obtain ⟨V1,hV1⟩:∃ uu,uu=V.setCell ⟨rb,0,none⟩ (.int .i64 2):=⟨_,rfl⟩
  rw [←hV1] at t1 m1 e1 c1
  have T1:=Lh t1
  have M1:=Lh m1
  have R1:=Lh e1
  have I1:=Lh c1
  have HV1:=Lh hV1
  clear t1 m1 e1 c1 hV1
  go_upto_region 12 with fail
  rw [←HV1.out]
  clear k0 k1 k2 k3 k4 k5 k6 k7 k8 f0 f1 f2 f3 f4 f5 f6 f7 f8 d0 d1 d2 d3 d4 g0 g1 g2 g3 g4 i0 i1 x0 x1 x2
  obtain ⟨k0,k1,k2,k3,k4,k5,k6,k7,k8⟩:=Xq T1.out.mach
  obtain ⟨f0,f1,f2,f3,f4,f5,f6,f7,f8⟩:=Xu T1.out.mach
  obtain ⟨d0,d1,d2,d3,d4⟩:=Yg (r:=⟨2,0,xa,0,0⟩) R1.out
  obtain ⟨g0,g1,g2,g3,g4,-⟩:=Xu R1.out
  have i0:=I1.out 0 _ rfl
  have i1:=I1.out 1 _ rfl
  have x0:=(La T1.out.mach)
  have x1:=Bl i0
  have x2:=(La R1.out)
  go_wp2_with fail
  clear k0 k1 k2 k3 k4 k5 k6 k7 k8 f0 f1 f2 f3 f4 f5 f6 f7 f8 d0 d1 d2 d3 d4 g0 g1 g2 g3 g4 i0 i1 x0 x1 x2
  refine (Yu m T1.out hn (l++[u]) v HST.out).mono ?_
  rintro e V2 ⟨rfl,cur2,sv2,FsB,hT2,hM2⟩
  have T2:=Lh hT2
  have M2:=Lh (M1.out.trans hM2)
  have R2:Hid _:=Lh ((hM2.block rb (La R1.out) hrbFFs.out).trans R1.out)
  have hiF2:w.heap.size+1∉w.heap.size::fb::(Fi++(Fl++Fs)):=Z5 M1.out (by have:=hsz.out;omega) hnotI
  have I2:Hid (Xo V2 (w.heap.size+1) [.int .i64 7,.int .i64 xa]):=Lh (fun j u hu=>hM2.cell (I1.out j u hu) hiF2)
  have hrbFFsB:=Lh (hM2.notin (La R1.out) hrbFFs.out)
  clear hT2 hM2
  obtain ⟨k0,k1,k2,k3,k4,k5,k6,k7,k8⟩:=Xq T2.out.mach
  obtain ⟨f0,f1,f2,f3,f4,f5,f6,f7,f8⟩:=Xu T2.out.mach
  obtain ⟨d0,d1,d2,d3,d4⟩:=Yg (r:=⟨2,0,xa,0,0⟩) R2.out
  obtain ⟨g0,g1,g2,g3,g4,-⟩:=Xu R2.out
  have i0:=I2.out 0 _ rfl
  have i1:=I2.out 1 _ rfl
  have x0:=(La T2.out.mach)
  have x1:=Bl i0
  have x2:=(La R2.out)
  obtain ⟨t3,m3⟩:=J3 (j:=3) (v:=.int .i64 v) T2.out M2.out hrbFFsB.out hrbW.out
  have e3:=Xab (r:=⟨2,0,xa,0,0⟩) R2.out 3 (.int .i64 v) ⟨2,0,xa,v,0⟩ rfl
  have c3:=Qc (j:=3) (v:=.int .i64 v) I2.out hrbi.out
  obtain ⟨V3,hV3⟩:∃ uu,uu=V2.setCell ⟨rb,3,none⟩ (.int .i64 v):=⟨_,rfl⟩
  rw [←hV3] at t3 m3 e3 c3
  have T3:=Lh t3
  have M3:=Lh m3
  have R3:=Lh e3
  have I3:=Lh c3
  have HV3:=Lh hV3
  clear t3 m3 e3 c3 hV3
  go_upto_region 13 with fail
  rw [←HV3.out]
  clear k0 k1 k2 k3 k4 k5 k6 k7 k8 f0 f1 f2 f3 f4 f5 f6 f7 f8 d0 d1 d2 d3 d4 g0 g1 g2 g3 g4 i0 i1 x0 x1 x2
  obtain ⟨k0,k1,k2,k3,k4,k5,k6,k7,k8⟩:=Xq T3.out.mach
  obtain ⟨f0,f1,f2,f3,f4,f5,f6,f7,f8⟩:=Xu T3.out.mach
  obtain ⟨d0,d1,d2,d3,d4⟩:=Yg (r:=⟨2,0,xa,v,0⟩) R3.out
  obtain ⟨g0,g1,g2,g3,g4,-⟩:=Xu R3.out
  have i0:=I3.out 0 _ rfl
  have i1:=I3.out 1 _ rfl
  have x0:=(La T3.out.mach)
  have x1:=Bl i0
  have x2:=(La R3.out)
  go_wp2_with fail
  clear k0 k1 k2 k3 k4 k5 k6 k7 k8 f0 f1 f2 f3 f4 f5 f6 f7 f8 d0 d1 d2 d3 d4 g0 g1 g2 g3 g4 i0 i1 x0 x1 x2
  refine (Yu m T3.out hn (l) u rfl).mono ?_
  rintro e V4 ⟨rfl,cur4,sv4,FsC,hT4,hM4⟩
  have T4:=Lh hT4
  have M4:=Lh (M3.out.trans hM4)
  have R4:Hid _:=Lh ((hM4.block rb (La R3.out) hrbFFsB.out).trans R3.out)
  have hiF4:w.heap.size+1∉w.heap.size::fb::(Fi++(Fl++FsB)):=Z5 M3.out (by have:=hsz.out;omega) hnotI
  have I4:Hid (Xo V4 (w.heap.size+1) [.int .i64 7,.int .i64 xa]):=Lh (fun j u hu=>hM4.cell (I3.out j u hu) hiF4)
  have hrbFFsC:=Lh (hM4.notin (La R3.out) hrbFFsB.out)
  clear hT4 hM4
  obtain ⟨k0,k1,k2,k3,k4,k5,k6,k7,k8⟩:=Xq T4.out.mach
  obtain ⟨f0,f1,f2,f3,f4,f5,f6,f7,f8⟩:=Xu T4.out.mach
  obtain ⟨d0,d1,d2,d3,d4⟩:=Yg (r:=⟨2,0,xa,v,0⟩) R4.out
  obtain ⟨g0,g1,g2,g3,g4,-⟩:=Xu R4.out
  have i0:=I4.out 0 _ rfl
  have i1:=I4.out 1 _ rfl
  have x0:=(La T4.out.mach)
  have x1:=Bl i0
  have x2:=(La R4.out)
  obtain ⟨t5,m5⟩:=J3 (j:=1) (v:=.int .i64 u) T4.out M4.out hrbFFsC.out hrbW.out
  have e5:=Xab (r:=⟨2,0,xa,v,0⟩) R4.out 1 (.int .i64 u) ⟨2,u,xa,v,0⟩ rfl
  have c5:=Qc (j:=1) (v:=.int .i64 u) I4.out hrbi.out
  obtain ⟨V5,hV5⟩:∃ uu,uu=V4.setCell ⟨rb,1,none⟩ (.int .i64 u):=⟨_,rfl⟩
  rw [←hV5] at t5 m5 e5 c5
  have T5:=Lh t5
  have M5:=Lh m5
  have R5:=Lh e5
  have I5:=Lh c5
  have HV5:=Lh hV5
  clear t5 m5 e5 c5 hV5
  go_upto_region 14 with fail
  rw [←HV5.out]
  clear k0 k1 k2 k3 k4 k5 k6 k7 k8 f0 f1 f2 f3 f4 f5 f6 f7 f8 d0 d1 d2 d3 d4 g0 g1 g2 g3 g4 i0 i1 x0 x1 x2
  obtain ⟨k0,k1,k2,k3,k4,k5,k6,k7,k8⟩:=Xq T5.out.mach
  obtain ⟨f0,f1,f2,f3,f4,f5,f6,f7,f8⟩:=Xu T5.out.mach
  obtain ⟨d0,d1,d2,d3,d4⟩:=Yg (r:=⟨2,u,xa,v,0⟩) R5.out
  obtain ⟨g0,g1,g2,g3,g4,-⟩:=Xu R5.out
  have i0:=I5.out 0 _ rfl
  have i1:=I5.out 1 _ rfl
  have x0:=(La T5.out.mach)
  have x1:=Bl i0
  have x2:=(La R5.out)
  go_upto_region 16 with fail
  clear k0 k1 k2 k3 k4 k5 k6 k7 k8 f0 f1 f2 f3 f4 f5 f6 f7 f8 d0 d1 d2 d3 d4 g0 g1 g2 g3 g4 i0 i1 x0 x1 x2
  obtain ⟨k0,k1,k2,k3,k4,k5,k6,k7,k8⟩:=Xq T5.out.mach
  obtain ⟨f0,f1,f2,f3,f4,f5,f6,f7,f8⟩:=Xu T5.out.mach
  obtain ⟨d0,d1,d2,d3,d4⟩:=Yg (r:=⟨2,u,xa,v,0⟩) R5.out
  obtain ⟨g0,g1,g2,g3,g4,-⟩:=Xu R5.out
  have i0:=I5.out 0 _ rfl
  have i1:=I5.out 1 _ rfl
  have x0:=(La T5.out.mach)
  have x1:=Bl i0
  have x2:=(La R5.out)
  obtain ⟨t9,m9⟩:=Xbo T5.out ⟨2,u,xa,v,0⟩
  obtain ⟨U,hU⟩:∃ uu,uu=Yq V5 w.heap.size ⟨2,u,xa,v,0⟩:=⟨_,rfl⟩
  rw [←hU] at t9 m9
  have T9:=Lh t9
  have M9:=Lh (M5.out.trans m9)
  clear t9 m9
  go_upto_region 17 with fail
  unfold Yq at hU
  dsimp only at hU
  rw [←hU]
  have HU:=Lh hU
  clear hU
  clear k0 k1 k2 k3 k4 k5 k6 k7 k8 f0 f1 f2 f3 f4 f5 f6 f7 f8 d0 d1 d2 d3 d4 g0 g1 g2 g3 g4 i0 i1 x0 x1 x2
  obtain ⟨t1,t2,t3⟩:=Kn hWb.out T9.out M9.out hF.out (R:=w.heap.size+1+1) (by omega) (by have:=hsz.out;omega) B2.out
  have T2:=Lh t2
  have T3:=Lh t3
  obtain ⟨n0,n1,n2,n3,n4,n5,n6,n7,n8⟩:=Xq T9.out.mach
  obtain ⟨r0,r1,r2,r3,r4,r5,r6,r7,r8⟩:=Xq t1
  obtain ⟨q0,q1,q2,q3,q4,q5,q6,q7,q8⟩:=Xu t1
  have y0:=(La T9.out.mach)
  have y2:=(La t1)
  clear t1 t2 t3
  go_wp2_with fail
  exact bodyPost_ret (v:=Xi (.slice (some ⟨fb,0,none⟩) (fs.length+1) cap) { m with req:=⟨2,u,xa,v,0⟩ }) (Xn (p:=4) rfl T2.out _ rfl) rfl T3.out
 ·have hT0:=H.out
  have HST:=Lh hst
  clear hT0 HCS hst
  obtain ⟨k0,k1,k2,k3,k4,k5,k6,k7,k8⟩:=Xq T0.out.mach
  obtain ⟨f0,f1,f2,f3,f4,f5,f6,f7,f8⟩:=Xu T0.out.mach
  obtain ⟨d0,d1,d2,d3,d4⟩:=Yg (r:=⟨1,0,xa,0,0⟩) R0.out
  obtain ⟨g0,g1,g2,g3,g4,-⟩:=Xu R0.out
  have i0:=I0.out 0 _ rfl
  have i1:=I0.out 1 _ rfl
  have x0:=(La T0.out.mach)
  have x1:=Bl i0
  have x2:=(La R0.out)
  obtain ⟨t1,m1⟩:=J3 (j:=0) (v:=.int .i64 2) T0.out M0.out hrbFFs.out hrbW.out
  have e1:=Xab (r:=⟨1,0,xa,0,0⟩) R0.out 0 (.int .i64 2) ⟨2,0,xa,0,0⟩ rfl
  have c1:=Qc (j:=0) (v:=.int .i64 2) I0.out hrbi.out
  obtain ⟨V1,hV1⟩:∃ uu,uu=V.setCell ⟨rb,0,none⟩ (.int .i64 2):=⟨_,rfl⟩
  rw [←hV1] at t1 m1 e1 c1
  have T1:=Lh t1
  have M1:=Lh m1
  have R1:=Lh e1
  have I1:=Lh c1
  have HV1:=Lh hV1
  clear t1 m1 e1 c1 hV1
  go_upto_region 12 with fail
  rw [←HV1.out]
  clear k0 k1 k2 k3 k4 k5 k6 k7 k8 f0 f1 f2 f3 f4 f5 f6 f7 f8 d0 d1 d2 d3 d4 g0 g1 g2 g3 g4 i0 i1 x0 x1 x2
  obtain ⟨k0,k1,k2,k3,k4,k5,k6,k7,k8⟩:=Xq T1.out.mach
  obtain ⟨f0,f1,f2,f3,f4,f5,f6,f7,f8⟩:=Xu T1.out.mach
  obtain ⟨d0,d1,d2,d3,d4⟩:=Yg (r:=⟨2,0,xa,0,0⟩) R1.out
  obtain ⟨g0,g1,g2,g3,g4,-⟩:=Xu R1.out
  have i0:=I1.out 0 _ rfl
  have i1:=I1.out 1 _ rfl
  have x0:=(La T1.out.mach)
  have x1:=Bl i0
  have x2:=(La R1.out)
  go_wp2_with fail
  clear k0 k1 k2 k3 k4 k5 k6 k7 k8 f0 f1 f2 f3 f4 f5 f6 f7 f8 d0 d1 d2 d3 d4 g0 g1 g2 g3 g4 i0 i1 x0 x1 x2
  refine (Yu m T1.out hn (l++[u]) v HST.out).mono ?_
  rintro e V2 ⟨rfl,cur2,sv2,FsB,hT2,hM2⟩
  have T2:=Lh hT2
  have M2:=Lh (M1.out.trans hM2)
  have R2:Hid _:=Lh ((hM2.block rb (La R1.out) hrbFFs.out).trans R1.out)
  have hiF2:w.heap.size+1∉w.heap.size::fb::(Fi++(Fl++Fs)):=Z5 M1.out (by have:=hsz.out;omega) hnotI
  have I2:Hid (Xo V2 (w.heap.size+1) [.int .i64 7,.int .i64 xa]):=Lh (fun j u hu=>hM2.cell (I1.out j u hu) hiF2)
  have hrbFFsB:=Lh (hM2.notin (La R1.out) hrbFFs.out)
  clear hT2 hM2
  obtain ⟨k0,k1,k2,k3,k4,k5,k6,k7,k8⟩:=Xq T2.out.mach
  obtain ⟨f0,f1,f2,f3,f4,f5,f6,f7,f8⟩:=Xu T2.out.mach
  obtain ⟨d0,d1,d2,d3,d4⟩:=Yg (r:=⟨2,0,xa,0,0⟩) R2.out
  obtain ⟨g0,g1,g2,g3,g4,-⟩:=Xu R2.out
  have i0:=I2.out 0 _ rfl
  have i1:=I2.out 1 _ rfl
  have x0:=(La T2.out.mach)
  have x1:=Bl i0
  have x2:=(La R2.out)
  obtain ⟨t3,m3⟩:=J3 (j:=3) (v:=.int .i64 v) T2.out M2.out hrbFFsB.out hrbW.out
  have e3:=Xab (r:=⟨2,0,xa,0,0⟩) R2.out 3 (.int .i64 v) ⟨2,0,xa,v,0⟩ rfl
  have c3:=Qc (j:=3) (v:=.int .i64 v) I2.out hrbi.out
  obtain ⟨V3,hV3⟩:∃ uu,uu=V2.setCell ⟨rb,3,none⟩ (.int .i64 v):=⟨_,rfl⟩
  rw [←hV3] at t3 m3 e3 c3
  have T3:=Lh t3
  have M3:=Lh m3
  have R3:=Lh e3
  have I3:=Lh c3
  have HV3:=Lh hV3
  clear t3 m3 e3 c3 hV3
  go_upto_region 13 with fail
  rw [←HV3.out]
  clear k0 k1 k2 k3 k4 k5 k6 k7 k8 f0 f1 f2 f3 f4 f5 f6 f7 f8 d0 d1 d2 d3 d4 g0 g1 g2 g3 g4 i0 i1 x0 x1 x2
  obtain ⟨k0,k1,k2,k3,k4,k5,k6,k7,k8⟩:=Xq T3.out.mach
  obtain ⟨f0,f1,f2,f3,f4,f5,f6,f7,f8⟩:=Xu T3.out.mach
  obtain ⟨d0,d1,d2,d3,d4⟩:=Yg (r:=⟨2,0,xa,v,0⟩) R3.out
  obtain ⟨g0,g1,g2,g3,g4,-⟩:=Xu R3.out
  have i0:=I3.out 0 _ rfl
  have i1:=I3.out 1 _ rfl
  have x0:=(La T3.out.mach)
  have x1:=Bl i0
  have x2:=(La R3.out)
  go_wp2_with fail
  clear k0 k1 k2 k3 k4 k5 k6 k7 k8 f0 f1 f2 f3 f4 f5 f6 f7 f8 d0 d1 d2 d3 d4 g0 g1 g2 g3 g4 i0 i1 x0 x1 x2
  refine (Yu m T3.out hn (l) u rfl).mono ?_
  rintro e V4 ⟨rfl,cur4,sv4,FsC,hT4,hM4⟩
  have T4:=Lh hT4
  have M4:=Lh (M3.out.trans hM4)
  have R4:Hid _:=Lh ((hM4.block rb (La R3.out) hrbFFsB.out).trans R3.out)
  have hiF4:w.heap.size+1∉w.heap.size::fb::(Fi++(Fl++FsB)):=Z5 M3.out (by have:=hsz.out;omega) hnotI
  have I4:Hid (Xo V4 (w.heap.size+1) [.int .i64 7,.int .i64 xa]):=Lh (fun j u hu=>hM4.cell (I3.out j u hu) hiF4)
  have hrbFFsC:=Lh (hM4.notin (La R3.out) hrbFFsB.out)
  clear hT4 hM4
  obtain ⟨k0,k1,k2,k3,k4,k5,k6,k7,k8⟩:=Xq T4.out.mach
  obtain ⟨f0,f1,f2,f3,f4,f5,f6,f7,f8⟩:=Xu T4.out.mach
  obtain ⟨d0,d1,d2,d3,d4⟩:=Yg (r:=⟨2,0,xa,v,0⟩) R4.out
  obtain ⟨g0,g1,g2,g3,g4,-⟩:=Xu R4.out
  have i0:=I4.out 0 _ rfl
  have i1:=I4.out 1 _ rfl
  have x0:=(La T4.out.mach)
  have x1:=Bl i0
  have x2:=(La R4.out)
  obtain ⟨t5,m5⟩:=J3 (j:=1) (v:=.int .i64 u) T4.out M4.out hrbFFsC.out hrbW.out
  have e5:=Xab (r:=⟨2,0,xa,v,0⟩) R4.out 1 (.int .i64 u) ⟨2,u,xa,v,0⟩ rfl
  have c5:=Qc (j:=1) (v:=.int .i64 u) I4.out hrbi.out
  obtain ⟨V5,hV5⟩:∃ uu,uu=V4.setCell ⟨rb,1,none⟩ (.int .i64 u):=⟨_,rfl⟩
  rw [←hV5] at t5 m5 e5 c5
  have T5:=Lh t5
  have M5:=Lh m5
  have R5:=Lh e5
  have I5:=Lh c5
  have HV5:=Lh hV5
  clear t5 m5 e5 c5 hV5
  go_upto_region 14 with fail
  rw [←HV5.out]
  clear k0 k1 k2 k3 k4 k5 k6 k7 k8 f0 f1 f2 f3 f4 f5 f6 f7 f8 d0 d1 d2 d3 d4 g0 g1 g2 g3 g4 i0 i1 x0 x1 x2
  obtain ⟨k0,k1,k2,k3,k4,k5,k6,k7,k8⟩:=Xq T5.out.mach
  obtain ⟨f0,f1,f2,f3,f4,f5,f6,f7,f8⟩:=Xu T5.out.mach
  obtain ⟨d0,d1,d2,d3,d4⟩:=Yg (r:=⟨2,u,xa,v,0⟩) R5.out
  obtain ⟨g0,g1,g2,g3,g4,-⟩:=Xu R5.out
  have i0:=I5.out 0 _ rfl
  have i1:=I5.out 1 _ rfl
  have x0:=(La T5.out.mach)
  have x1:=Bl i0
  have x2:=(La R5.out)
  go_wp2_with fail
  refine (Q0 _ _ _ m 17 _).mono ?_
  rintro e w9 ⟨rfl,hb9⟩
  obtain ⟨t1,t2,t3⟩:=Xdm hWb.out M5.out hb9 hF.out (R:=w.heap.size+1+1) (by omega) (by have:=hsz.out;omega) B2.out { m with req:=X0 17,frames:=[] } rfl
  have Q2:=Lh t2
  have Q3:=Lh t3
  obtain ⟨r0,r1,r2,r3,r4,r5,r6,r7,r8⟩:=Xq t1
  obtain ⟨q0,q1,q2,q3,q4,q5,q6,q7,q8⟩:=Xu t1
  have y2:=(La t1)
  clear t1 t2 t3 hb9
  clear k0 k1 k2 k3 k4 k5 k6 k7 k8 f0 f1 f2 f3 f4 f5 f6 f7 f8 d0 d1 d2 d3 d4 g0 g1 g2 g3 g4 i0 i1 x0 x1 x2
  unfold Xi Xb
  go_wp2_with fail
  exact bodyPost_ret (v:=Xi (.slice none 0 0) { m with req:=X0 17,frames:=[] }) (Xn (p:=4) rfl Q2.out _ rfl) rfl Q3.out
end Go.Proofs.YtbmeoklmachjpaaGreatDoor
