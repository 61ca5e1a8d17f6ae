/- The contract of the reference's ask: rask_4, rask_8, rask_5, rask_6a, rask_6b. MADE BY wip/group_simple.py -/
import Derived.Test.YtbmeoklmachjpaaGreatDoorRa
import Derived.Deep.RegionHeld3
import Derived.Deep.RegionWith
set_option maxHeartbeats 8000000
set_option maxRecDepth 100000
set_option linter.unusedVariables false
set_option linter.unusedSimpArgs false
namespace Go.Proofs.YtbmeoklmachjpaaGreatDoor
open Go.RowKit
theorem Yg {W:World} {b:Nat} {r:Rq} (h:W.heap[b]?=some (.cells #[.int .i64 r.kind,.int .i64 r.node,.int .i64 r.field,.int .i64 r.value,.int .i64 r.fault] 34 (0,0))) :
  W.cell? ⟨b,0,none⟩=some (.int .i64 r.kind)∧W.cell? ⟨b,1,none⟩=some (.int .i64 r.node)∧W.cell? ⟨b,2,none⟩=some (.int .i64 r.field)∧W.cell? ⟨b,3,none⟩=some (.int .i64 r.value)∧W.cell? ⟨b,4,none⟩=some (.int .i64 r.fault):=by
 refine ⟨?_,?_,?_,?_,?_⟩<;>(rw [cell_of_row _ _ _ _ _ _ h];rfl)
theorem Xbo {w:World} {bm fb cap:Nat} {cur:Array Value} {cs:List Value} {fs:List Fra} {f:Fra} {lv sv:Value} {m:Mch} {Fi Fl Fs:List Nat} (h:Xk w bm fb cap cur cs fs f lv sv m Fi Fl Fs) (r:Rq) :
  Xk (Yq w bm r) bm fb cap cur cs fs f lv sv { m with req:=r } Fi Fl Fs∧Xp (bm::fb::(Fi++(Fl++Fs))) (bm::fb::(Fi++(Fl++Fs))) w (Yq w bm r):=by
 have hne:=h.ne
 obtain ⟨p1,p2⟩:=Ju h.mach r
 refine ⟨h.putM p1 (fun b hb=>p2.block b (h.lt b (List.mem_cons_of_mem _ hb)) (fun e=>?_)),p2.wide (fun b hb=>by simp at hb;simp [hb]) (fun b hb=>.inr hb)⟩
 rw [List.mem_singleton] at e
 rw [List.mem_cons] at hb
 rcases hb with hb|hb
 ·exact hne.1 (e.symm.trans hb)
 ·exact (hne.2 b hb).1 e
/-- the request variable's block holds r and the machine's blocks are as TopOwn says -/
theorem Xab {W:World} {b:Nat} {r:Rq} (h:W.heap[b]?=some (.cells #[.int .i64 r.kind,.int .i64 r.node,.int .i64 r.field,.int .i64 r.value,.int .i64 r.fault] 34 (0,0))) (j:Nat) (v:Value) (r':Rq)
  (hj:(#[.int .i64 r.kind,.int .i64 r.node,.int .i64 r.field,.int .i64 r.value,.int .i64 r.fault]:Array Value).setIfInBounds j v=#[.int .i64 r'.kind,.int .i64 r'.node,.int .i64 r'.field,.int .i64 r'.value,.int .i64 r'.fault]) :
  (W.setCell ⟨b,j,none⟩ v).heap[b]?=some (.cells #[.int .i64 r'.kind,.int .i64 r'.node,.int .i64 r'.field,.int .i64 r'.value,.int .i64 r'.fault] 34 (0,0)):=by
 rw [←hj];exact heap_setCell_same _ _ _ _ _ _ h
theorem Xqw {F:List Nat} {w:World} {b j:Nat} {v:Value}:Xp (b::F) (b::F) w (w.setCell ⟨b,j,none⟩ v):=⟨rfl,rfl,rfl,by simp,fun k hk hF=>heap_setCell_other _ _ _ _ (fun e=>hF (by simp [e])),fun _ h=>.inl h⟩
theorem Qc {V:World} {b rb j:Nat} {vs:List Value} {v:Value} (h:Xo V b vs) (hne:b≠rb):Xo (V.setCell ⟨rb,j,none⟩ v) b vs:=fun i u hu=>by
 rw [World.cell?_setCell_other _ _ _ _ (by intro e;exact hne (congrArg Addr.block e).symm)];exact h i u hu
/-- the request variable is written -/
theorem J3 {W V:World} {bm fb cap rb j:Nat} {v:Value} {cur:Array Value} {cs:List Value} {fs:List Fra} {f:Fra} {lv sv:Value} {m:Mch} {Fi Fl Fs F:List Nat} (h:Xk V bm fb cap cur cs fs f lv sv m Fi Fl Fs) (hM:Xp F (bm::fb::(Fi++(Fl++Fs))) W V)
  (hr:rb∉bm::fb::(Fi++(Fl++Fs))) (hW:W.heap.size≤rb) :
  Xk (V.setCell ⟨rb,j,none⟩ v) bm fb cap cur cs fs f lv sv m Fi Fl Fs∧Xp F (bm::fb::(Fi++(Fl++Fs))) W (V.setCell ⟨rb,j,none⟩ v):=by
 have ho:∀ b,b≠rb→(V.setCell ⟨rb,j,none⟩ v).heap[b]?=V.heap[b]?:=fun b hb=>heap_setCell_other _ _ _ _ hb
 refine ⟨h.sub (fun b hb=>ho b (fun e=>hr (e▸hb))),hM.os,hM.tape,hM.output,by simpa using hM.size,fun k hk hF=>?_,hM.new⟩
 rw [ho k (by omega)];exact hM.block k hk hF
/-- the end of a function of the reference that fails -/
theorem Xdm {w W V w1:World} {F F2:List Nat} {R:Nat} (hWb:Below w.heap.size w W) (hM:Xp (w.heap.size::F) F2 W V) (hb1:Below V.heap.size V w1) (hF:∀ b∈F,b<w.heap.size) (hR:w.heap.size<R) (hRl:R<W.heap.size)
  (b2:W.heap[R]?=some (.cells (Xb (.slice none 0 0) Xl) 36 (0,0))) (m':Mch) (hm':m'.frames=[]) :
  w1.heap[R]?=some (.cells (Xb (.slice none 0 0) Xl) 36 (0,0))∧(Yp w1 R (.slice none 0 0) m').heap[R]?=some (.cells (Xb (.slice none 0 0) m') 36 (0,0))∧Qh w F m' (.returned (Xi (.slice none 0 0) m')) (Yp w1 R (.slice none 0 0) m'):=by
 have hRF:R∉w.heap.size::F:=fun e=>by
  rw [List.mem_cons] at e
  rcases e with e|e
  ·omega
  ·have:=hF _ e;omega
 have h1:w1.heap[R]?=some (.cells (Xb (.slice none 0 0) Xl) 36 (0,0)):=by rw [hb1.block R (Nat.lt_of_lt_of_le hRl hM.size),hM.block R hRl hRF];exact b2
 obtain ⟨p1,p2⟩:=Xz h1 (.slice none 0 0) m'
 refine ⟨h1,p1,_,[],rfl,by rw [hm'];exact Jd _,p2.os.trans (hb1.os.trans (hM.os.trans hWb.os)),p2.tape.trans (hb1.tape.trans (hM.tape.trans hWb.tape)),p2.output.trans (hb1.output.trans (hM.output.trans hWb.output)),Nat.le_trans hWb.size (Nat.le_trans hM.size (Nat.le_trans hb1.size p2.size)),fun k hk hkF=>?_,by simp⟩
 have g1:=hWb.size
 have g2:=hM.size
 have g3:=hb1.size
 rw [p2.block k (by omega) (by simp;omega),hb1.block k (by omega),hM.block k (by omega) (fun e=>by rw [List.mem_cons] at e;rcases e with e|e;omega;exact hkF e),hWb.block k hk]
theorem Xbk {w:World} {fv:Value} {m:Mch} {F:List Nat} {fs:List Fra} {f:Fra} (op xa:Int) (m':Mch) (hcs:(op=4∧m'={ m with req:=⟨1,0,xa,0,0⟩,frames:=fs++[f] })∨(op=8∧m'={ m with req:=⟨3,0,xa,0,0⟩,frames:=fs++[f] })∨(op=5∧∃ (l:List Int),∃ (v:Int),(f.stack=l++[v])∧m'={ m with req:=⟨2,0,xa,v,0⟩,frames:=fs++[{ f with stack:=l }] })∨(op=6∧∃ (l:List Int),∃ (v:Int),(f.stack=l++[v])∧(1≤v)∧m'={ m with req:=⟨1,v,xa,0,0⟩,frames:=fs++[{ f with stack:=l }] })∨(op=6∧∃ (l:List Int),∃ (v:Int),(f.stack=l++[v])∧(v<1)∧m'={ m with req:=X0 17,frames:=[] })) (hv:Z9 w fv m.frames F) (hm:m.frames=fs++[f]) (hn:fs.length≤200) (hsl:f.stack.length<1000000 - 2) :
  Calls Tryz.prog 97 #[Xi fv m,.agg #[.int .i64 op,.int .i64 xa]] w (Qh w F m'):=by
 obtain ⟨fb,cap,cur,cs,lv,sv,Fi,Fl,Fs,rfl,rfl,hT⟩:=hv.top hm
 have hF:=Lh hv.lt
 obtain ⟨W,hW⟩:∃ W,W=((w.alloc (.cells (Xb (.slice (some ⟨fb,0,none⟩) (fs.length+1) cap) m) 36)).alloc (.cells #[.int .i64 op,.int .i64 xa] 100)).alloc (.cells (Xb (.slice none 0 0) Xl) 36):=⟨_,rfl⟩
 have hWb:Hid (Below w.heap.size w W):=by rw [hW];exact Lh (((Xa _ _).then (Xa _ _)).then (Xa _ _))
 have hsz:Hid (W.heap.size=w.heap.size+3):=by rw [hW];exact Lh (by simp)
 have b0:W.heap[w.heap.size]?=some (.cells (Xb (.slice (some ⟨fb,0,none⟩) (fs.length+1) cap) m) 36 (0,0)):=by
  rw [hW,Below.heap_alloc _ _ _ (by simp;omega),Below.heap_alloc _ _ _ (by simp)]
  exact heap_alloc_new _ _
 have b1:Xo W (w.heap.size+1) [.int .i64 op,.int .i64 xa]:=by
  rw [hW]
  have:=(@Xd (w.alloc (.cells (Xb (.slice (some ⟨fb,0,none⟩) (fs.length+1) cap) m) 36)) #[.int .i64 op,.int .i64 xa] 100).alloc (.cells (Xb (.slice none 0 0) Xl) 36)
  simpa using this
 have b2:W.heap[w.heap.size+1+1]?=some (.cells (Xb (.slice none 0 0) Xl) 36 (0,0)):=by
  rw [hW]
  have:=heap_alloc_new ((w.alloc (.cells (Xb (.slice (some ⟨fb,0,none⟩) (fs.length+1) cap) m) 36)).alloc (.cells #[.int .i64 op,.int .i64 xa] 100)) (.cells (Xb (.slice none 0 0) Xl) 36)
  simpa using this
 have hT0:=hT W w.heap.size m hWb.out b0 (Nat.le_refl _)
 have H:=Lh hT0
 have HTd:Hid (Xk W.drew w.heap.size fb cap cur cs fs f lv sv m Fi Fl Fs):=Lh (hT0.keep (Xh (Below.refl _ _) 1))
 obtain ⟨k0,k1,k2,k3,k4,k5,k6,k7,k8⟩:=Xq b0
 have i0:=b1 0 _ rfl
 have i1:=b1 1 _ rfl
 have B2:=Lh b2
 have z0:w.heap.size<W.heap.size:=by have:=hsz.out;omega
 have z1:w.heap.size+1<W.heap.size:=by have:=hsz.out;omega
 have hnl:(fs.length:Int)≤200:=by omega
 have hix:(fs.length:Int)<(fs.length:Int)+1:=by omega
 have hx0:(0:Int)≤(fs.length:Int):=Int.natCast_nonneg _
 have hcapl:=hT0.capl
 have hnotI:w.heap.size+1∉w.heap.size::fb::(Fi++(Fl++Fs)):=fun e=>by
  rw [List.mem_cons] at e
  rcases e with e|e
  ·omega
  ·have:=hF.out _ e;omega
 have HB1:=Lh b1
 have HCS:=Lh hcs
 have CI:=Lh b1
 clear b0 b1 b2 hT hT0 hv hm hcs
 unfold Xi
 unfold Xb Xl at hW
 unfold Xb
 dsimp only at hW ⊢
 go_enter Tryz.func97,Tryz.ntmps97
 go_upto_region 1 with fail
 rw [←hW]
 have HW:=Lh hW
 clear hW
 go_upto_region 2 with fail
 obtain ⟨V,hV⟩:∃ uu,uu=W.alloc (.cells #[.int .i64 1,.int .i64 0,.int .i64 xa,.int .i64 0,.int .i64 0] 34):=⟨_,rfl⟩
 have hVb:Below W.heap.size W V:=by rw [hV];exact Xa _ _
 obtain ⟨rb,hrb⟩:∃ uu,uu=W.heap.size:=⟨_,rfl⟩
 have R0:Hid (V.heap[rb]?=some (.cells #[.int .i64 1,.int .i64 0,.int .i64 xa,.int .i64 0,.int .i64 0] 34 (0,0))):=Lh (by rw [hrb,hV];exact heap_alloc_new _ _)
 have hrbFFs:Hid (rb∉w.heap.size::fb::(Fi++(Fl++Fs))):=Lh (fun e=>by
  rw [List.mem_cons] at e
  rcases e with e|e
  ·omega
  ·have:=hF.out _ e;omega)
 have hrbW:Hid (W.heap.size≤rb):=Lh (by omega)
 have hrbi:Hid (w.heap.size+1≠rb):=Lh (by omega)
 have T0:=Lh (H.out.keep hVb)
 have M0:Hid (Xp (w.heap.size::fb::(Fi++(Fl++Fs))) (w.heap.size::fb::(Fi++(Fl++Fs))) W V):=Lh (Xp.of_below hVb)
 have I0:Hid (Xo V (w.heap.size+1) [.int .i64 op,.int .i64 xa]):=Lh (CI.out.keep hVb)
 rw [←hV,← hrb]
 have HV:=Lh hV
 have HRB:=Lh hrb
 clear hV hrb hVb i0 i1 k0 k1 k2 k3 k4 k5 k6 k7 k8
 rcases HCS.out with ⟨rfl,rfl⟩|⟨rfl,rfl⟩|⟨rfl,l,v,hst,rfl⟩|⟨rfl,l,v,hst,hv1,rfl⟩|⟨rfl,l,v,hst,hv1,rfl⟩
 ·have hT0:=H.out
  clear hT0 HCS
  obtain ⟨k0,k1,k2,k3,k4,k5,k6,k7,k8⟩:=Xq T0.out.mach
  obtain ⟨f0,f1,f2,f3,f4,f5,f6,f7,f8⟩:=Xu T0.out.mach
  obtain ⟨d0,d1,d2,d3,d4⟩:=Yg (r:=⟨1,0,xa,0,0⟩) R0.out
  obtain ⟨g0,g1,g2,g3,g4,-⟩:=Xu R0.out
  have i0:=I0.out 0 _ rfl
  have i1:=I0.out 1 _ rfl
  have x0:=(La T0.out.mach)
  have x1:=Bl i0
  have x2:=(La R0.out)
  go_upto_region 16 with fail
  clear k0 k1 k2 k3 k4 k5 k6 k7 k8 f0 f1 f2 f3 f4 f5 f6 f7 f8 d0 d1 d2 d3 d4 g0 g1 g2 g3 g4 i0 i1 x0 x1 x2
  obtain ⟨k0,k1,k2,k3,k4,k5,k6,k7,k8⟩:=Xq T0.out.mach
  obtain ⟨f0,f1,f2,f3,f4,f5,f6,f7,f8⟩:=Xu T0.out.mach
  obtain ⟨d0,d1,d2,d3,d4⟩:=Yg (r:=⟨1,0,xa,0,0⟩) R0.out
  obtain ⟨g0,g1,g2,g3,g4,-⟩:=Xu R0.out
  have i0:=I0.out 0 _ rfl
  have i1:=I0.out 1 _ rfl
  have x0:=(La T0.out.mach)
  have x1:=Bl i0
  have x2:=(La R0.out)
  obtain ⟨t9,m9⟩:=Xbo T0.out ⟨1,0,xa,0,0⟩
  obtain ⟨U,hU⟩:∃ uu,uu=Yq V w.heap.size ⟨1,0,xa,0,0⟩:=⟨_,rfl⟩
  rw [←hU] at t9 m9
  have T9:=Lh t9
  have M9:=Lh (M0.out.trans m9)
  clear t9 m9
  go_upto_region 17 with fail
  unfold Yq at hU
  dsimp only at hU
  rw [←hU]
  have HU:=Lh hU
  clear hU
  clear k0 k1 k2 k3 k4 k5 k6 k7 k8 f0 f1 f2 f3 f4 f5 f6 f7 f8 d0 d1 d2 d3 d4 g0 g1 g2 g3 g4 i0 i1 x0 x1 x2
  obtain ⟨t1,t2,t3⟩:=Kn hWb.out T9.out M9.out hF.out (R:=w.heap.size+1+1) (by omega) (by have:=hsz.out;omega) B2.out
  have T2:=Lh t2
  have T3:=Lh t3
  obtain ⟨n0,n1,n2,n3,n4,n5,n6,n7,n8⟩:=Xq T9.out.mach
  obtain ⟨r0,r1,r2,r3,r4,r5,r6,r7,r8⟩:=Xq t1
  obtain ⟨q0,q1,q2,q3,q4,q5,q6,q7,q8⟩:=Xu t1
  have y0:=(La T9.out.mach)
  have y2:=(La t1)
  clear t1 t2 t3
  go_wp2_with fail
  exact bodyPost_ret (v:=Xi (.slice (some ⟨fb,0,none⟩) (fs.length+1) cap) { m with req:=⟨1,0,xa,0,0⟩ }) (Xn (p:=4) rfl T2.out _ rfl) rfl T3.out
 ·have hT0:=H.out
  clear hT0 HCS
  obtain ⟨k0,k1,k2,k3,k4,k5,k6,k7,k8⟩:=Xq T0.out.mach
  obtain ⟨f0,f1,f2,f3,f4,f5,f6,f7,f8⟩:=Xu T0.out.mach
  obtain ⟨d0,d1,d2,d3,d4⟩:=Yg (r:=⟨1,0,xa,0,0⟩) R0.out
  obtain ⟨g0,g1,g2,g3,g4,-⟩:=Xu R0.out
  have i0:=I0.out 0 _ rfl
  have i1:=I0.out 1 _ rfl
  have x0:=(La T0.out.mach)
  have x1:=Bl i0
  have x2:=(La R0.out)
  obtain ⟨t1,m1⟩:=J3 (j:=0) (v:=.int .i64 3) T0.out M0.out hrbFFs.out hrbW.out
  have e1:=Xab (r:=⟨1,0,xa,0,0⟩) R0.out 0 (.int .i64 3) ⟨3,0,xa,0,0⟩ rfl
  have c1:=Qc (j:=0) (v:=.int .i64 3) I0.out hrbi.out
  obtain ⟨V1,hV1⟩:∃ uu,uu=V.setCell ⟨rb,0,none⟩ (.int .i64 3):=⟨_,rfl⟩
  rw [←hV1] at t1 m1 e1 c1
  have T1:=Lh t1
  have M1:=Lh m1
  have R1:=Lh e1
  have I1:=Lh c1
  have HV1:=Lh hV1
  clear t1 m1 e1 c1 hV1
  go_upto_region 14 with fail
  rw [←HV1.out]
  clear k0 k1 k2 k3 k4 k5 k6 k7 k8 f0 f1 f2 f3 f4 f5 f6 f7 f8 d0 d1 d2 d3 d4 g0 g1 g2 g3 g4 i0 i1 x0 x1 x2
  obtain ⟨k0,k1,k2,k3,k4,k5,k6,k7,k8⟩:=Xq T1.out.mach
  obtain ⟨f0,f1,f2,f3,f4,f5,f6,f7,f8⟩:=Xu T1.out.mach
  obtain ⟨d0,d1,d2,d3,d4⟩:=Yg (r:=⟨3,0,xa,0,0⟩) R1.out
  obtain ⟨g0,g1,g2,g3,g4,-⟩:=Xu R1.out
  have i0:=I1.out 0 _ rfl
  have i1:=I1.out 1 _ rfl
  have x0:=(La T1.out.mach)
  have x1:=Bl i0
  have x2:=(La R1.out)
  go_upto_region 16 with fail
  clear k0 k1 k2 k3 k4 k5 k6 k7 k8 f0 f1 f2 f3 f4 f5 f6 f7 f8 d0 d1 d2 d3 d4 g0 g1 g2 g3 g4 i0 i1 x0 x1 x2
  obtain ⟨k0,k1,k2,k3,k4,k5,k6,k7,k8⟩:=Xq T1.out.mach
  obtain ⟨f0,f1,f2,f3,f4,f5,f6,f7,f8⟩:=Xu T1.out.mach
  obtain ⟨d0,d1,d2,d3,d4⟩:=Yg (r:=⟨3,0,xa,0,0⟩) R1.out
  obtain ⟨g0,g1,g2,g3,g4,-⟩:=Xu R1.out
  have i0:=I1.out 0 _ rfl
  have i1:=I1.out 1 _ rfl
  have x0:=(La T1.out.mach)
  have x1:=Bl i0
  have x2:=(La R1.out)
  obtain ⟨t9,m9⟩:=Xbo T1.out ⟨3,0,xa,0,0⟩
  obtain ⟨U,hU⟩:∃ uu,uu=Yq V1 w.heap.size ⟨3,0,xa,0,0⟩:=⟨_,rfl⟩
  rw [←hU] at t9 m9
  have T9:=Lh t9
  have M9:=Lh (M1.out.trans m9)
  clear t9 m9
  go_upto_region 17 with fail
  unfold Yq at hU
  dsimp only at hU
  rw [←hU]
  have HU:=Lh hU
  clear hU
  clear k0 k1 k2 k3 k4 k5 k6 k7 k8 f0 f1 f2 f3 f4 f5 f6 f7 f8 d0 d1 d2 d3 d4 g0 g1 g2 g3 g4 i0 i1 x0 x1 x2
  obtain ⟨t1,t2,t3⟩:=Kn hWb.out T9.out M9.out hF.out (R:=w.heap.size+1+1) (by omega) (by have:=hsz.out;omega) B2.out
  have T2:=Lh t2
  have T3:=Lh t3
  obtain ⟨n0,n1,n2,n3,n4,n5,n6,n7,n8⟩:=Xq T9.out.mach
  obtain ⟨r0,r1,r2,r3,r4,r5,r6,r7,r8⟩:=Xq t1
  obtain ⟨q0,q1,q2,q3,q4,q5,q6,q7,q8⟩:=Xu t1
  have y0:=(La T9.out.mach)
  have y2:=(La t1)
  clear t1 t2 t3
  go_wp2_with fail
  exact bodyPost_ret (v:=Xi (.slice (some ⟨fb,0,none⟩) (fs.length+1) cap) { m with req:=⟨3,0,xa,0,0⟩ }) (Xn (p:=4) rfl T2.out _ rfl) rfl T3.out
 ·have hT0:=H.out
  have HST:=Lh hst
  clear hT0 HCS hst
  obtain ⟨k0,k1,k2,k3,k4,k5,k6,k7,k8⟩:=Xq T0.out.mach
  obtain ⟨f0,f1,f2,f3,f4,f5,f6,f7,f8⟩:=Xu T0.out.mach
  obtain ⟨d0,d1,d2,d3,d4⟩:=Yg (r:=⟨1,0,xa,0,0⟩) R0.out
  obtain ⟨g0,g1,g2,g3,g4,-⟩:=Xu R0.out
  have i0:=I0.out 0 _ rfl
  have i1:=I0.out 1 _ rfl
  have x0:=(La T0.out.mach)
  have x1:=Bl i0
  have x2:=(La R0.out)
  obtain ⟨t1,m1⟩:=J3 (j:=0) (v:=.int .i64 2) T0.out M0.out hrbFFs.out hrbW.out
  have e1:=Xab (r:=⟨1,0,xa,0,0⟩) R0.out 0 (.int .i64 2) ⟨2,0,xa,0,0⟩ rfl
  have c1:=Qc (j:=0) (v:=.int .i64 2) I0.out hrbi.out
  obtain ⟨V1,hV1⟩:∃ uu,uu=V.setCell ⟨rb,0,none⟩ (.int .i64 2):=⟨_,rfl⟩
  rw [←hV1] at t1 m1 e1 c1
  have T1:=Lh t1
  have M1:=Lh m1
  have R1:=Lh e1
  have I1:=Lh c1
  have HV1:=Lh hV1
  clear t1 m1 e1 c1 hV1
  go_upto_region 9 with fail
  rw [←HV1.out]
  clear k0 k1 k2 k3 k4 k5 k6 k7 k8 f0 f1 f2 f3 f4 f5 f6 f7 f8 d0 d1 d2 d3 d4 g0 g1 g2 g3 g4 i0 i1 x0 x1 x2
  obtain ⟨k0,k1,k2,k3,k4,k5,k6,k7,k8⟩:=Xq T1.out.mach
  obtain ⟨f0,f1,f2,f3,f4,f5,f6,f7,f8⟩:=Xu T1.out.mach
  obtain ⟨d0,d1,d2,d3,d4⟩:=Yg (r:=⟨2,0,xa,0,0⟩) R1.out
  obtain ⟨g0,g1,g2,g3,g4,-⟩:=Xu R1.out
  have i0:=I1.out 0 _ rfl
  have i1:=I1.out 1 _ rfl
  have x0:=(La T1.out.mach)
  have x1:=Bl i0
  have x2:=(La R1.out)
  go_wp2_with fail
  clear k0 k1 k2 k3 k4 k5 k6 k7 k8 f0 f1 f2 f3 f4 f5 f6 f7 f8 d0 d1 d2 d3 d4 g0 g1 g2 g3 g4 i0 i1 x0 x1 x2
  refine (Yu m T1.out hn (l) v HST.out).mono ?_
  rintro e V2 ⟨rfl,cur2,sv2,FsB,hT2,hM2⟩
  have T2:=Lh hT2
  have M2:=Lh (M1.out.trans hM2)
  have R2:Hid _:=Lh ((hM2.block rb (La R1.out) hrbFFs.out).trans R1.out)
  have hiF2:w.heap.size+1∉w.heap.size::fb::(Fi++(Fl++Fs)):=Z5 M1.out (by have:=hsz.out;omega) hnotI
  have I2:Hid (Xo V2 (w.heap.size+1) [.int .i64 5,.int .i64 xa]):=Lh (fun j u hu=>hM2.cell (I1.out j u hu) hiF2)
  have hrbFFsB:=Lh (hM2.notin (La R1.out) hrbFFs.out)
  clear hT2 hM2
  obtain ⟨k0,k1,k2,k3,k4,k5,k6,k7,k8⟩:=Xq T2.out.mach
  obtain ⟨f0,f1,f2,f3,f4,f5,f6,f7,f8⟩:=Xu T2.out.mach
  obtain ⟨d0,d1,d2,d3,d4⟩:=Yg (r:=⟨2,0,xa,0,0⟩) R2.out
  obtain ⟨g0,g1,g2,g3,g4,-⟩:=Xu R2.out
  have i0:=I2.out 0 _ rfl
  have i1:=I2.out 1 _ rfl
  have x0:=(La T2.out.mach)
  have x1:=Bl i0
  have x2:=(La R2.out)
  obtain ⟨t3,m3⟩:=J3 (j:=3) (v:=.int .i64 v) T2.out M2.out hrbFFsB.out hrbW.out
  have e3:=Xab (r:=⟨2,0,xa,0,0⟩) R2.out 3 (.int .i64 v) ⟨2,0,xa,v,0⟩ rfl
  have c3:=Qc (j:=3) (v:=.int .i64 v) I2.out hrbi.out
  obtain ⟨V3,hV3⟩:∃ uu,uu=V2.setCell ⟨rb,3,none⟩ (.int .i64 v):=⟨_,rfl⟩
  rw [←hV3] at t3 m3 e3 c3
  have T3:=Lh t3
  have M3:=Lh m3
  have R3:=Lh e3
  have I3:=Lh c3
  have HV3:=Lh hV3
  clear t3 m3 e3 c3 hV3
  go_upto_region 14 with fail
  rw [←HV3.out]
  clear k0 k1 k2 k3 k4 k5 k6 k7 k8 f0 f1 f2 f3 f4 f5 f6 f7 f8 d0 d1 d2 d3 d4 g0 g1 g2 g3 g4 i0 i1 x0 x1 x2
  obtain ⟨k0,k1,k2,k3,k4,k5,k6,k7,k8⟩:=Xq T3.out.mach
  obtain ⟨f0,f1,f2,f3,f4,f5,f6,f7,f8⟩:=Xu T3.out.mach
  obtain ⟨d0,d1,d2,d3,d4⟩:=Yg (r:=⟨2,0,xa,v,0⟩) R3.out
  obtain ⟨g0,g1,g2,g3,g4,-⟩:=Xu R3.out
  have i0:=I3.out 0 _ rfl
  have i1:=I3.out 1 _ rfl
  have x0:=(La T3.out.mach)
  have x1:=Bl i0
  have x2:=(La R3.out)
  go_upto_region 16 with fail
  clear k0 k1 k2 k3 k4 k5 k6 k7 k8 f0 f1 f2 f3 f4 f5 f6 f7 f8 d0 d1 d2 d3 d4 g0 g1 g2 g3 g4 i0 i1 x0 x1 x2
  obtain ⟨k0,k1,k2,k3,k4,k5,k6,k7,k8⟩:=Xq T3.out.mach
  obtain ⟨f0,f1,f2,f3,f4,f5,f6,f7,f8⟩:=Xu T3.out.mach
  obtain ⟨d0,d1,d2,d3,d4⟩:=Yg (r:=⟨2,0,xa,v,0⟩) R3.out
  obtain ⟨g0,g1,g2,g3,g4,-⟩:=Xu R3.out
  have i0:=I3.out 0 _ rfl
  have i1:=I3.out 1 _ rfl
  have x0:=(La T3.out.mach)
  have x1:=Bl i0
  have x2:=(La R3.out)
  obtain ⟨t9,m9⟩:=Xbo T3.out ⟨2,0,xa,v,0⟩
  obtain ⟨U,hU⟩:∃ uu,uu=Yq V3 w.heap.size ⟨2,0,xa,v,0⟩:=⟨_,rfl⟩
  rw [←hU] at t9 m9
  have T9:=Lh t9
  have M9:=Lh (M3.out.trans m9)
  clear t9 m9
  go_upto_region 17 with fail
  unfold Yq at hU
  dsimp only at hU
  rw [←hU]
  have HU:=Lh hU
  clear hU
  clear k0 k1 k2 k3 k4 k5 k6 k7 k8 f0 f1 f2 f3 f4 f5 f6 f7 f8 d0 d1 d2 d3 d4 g0 g1 g2 g3 g4 i0 i1 x0 x1 x2
  obtain ⟨t1,t2,t3⟩:=Kn hWb.out T9.out M9.out hF.out (R:=w.heap.size+1+1) (by omega) (by have:=hsz.out;omega) B2.out
  have T2:=Lh t2
  have T3:=Lh t3
  obtain ⟨n0,n1,n2,n3,n4,n5,n6,n7,n8⟩:=Xq T9.out.mach
  obtain ⟨r0,r1,r2,r3,r4,r5,r6,r7,r8⟩:=Xq t1
  obtain ⟨q0,q1,q2,q3,q4,q5,q6,q7,q8⟩:=Xu t1
  have y0:=(La T9.out.mach)
  have y2:=(La t1)
  clear t1 t2 t3
  go_wp2_with fail
  exact bodyPost_ret (v:=Xi (.slice (some ⟨fb,0,none⟩) (fs.length+1) cap) { m with req:=⟨2,0,xa,v,0⟩ }) (Xn (p:=4) rfl T2.out _ rfl) rfl T3.out
 ·have hT0:=H.out
  have HST:=Lh hst
  have hv2:¬v<1:=by omega
  clear hT0 HCS hst
  obtain ⟨k0,k1,k2,k3,k4,k5,k6,k7,k8⟩:=Xq T0.out.mach
  obtain ⟨f0,f1,f2,f3,f4,f5,f6,f7,f8⟩:=Xu T0.out.mach
  obtain ⟨d0,d1,d2,d3,d4⟩:=Yg (r:=⟨1,0,xa,0,0⟩) R0.out
  obtain ⟨g0,g1,g2,g3,g4,-⟩:=Xu R0.out
  have i0:=I0.out 0 _ rfl
  have i1:=I0.out 1 _ rfl
  have x0:=(La T0.out.mach)
  have x1:=Bl i0
  have x2:=(La R0.out)
  go_wp2_with fail
  clear k0 k1 k2 k3 k4 k5 k6 k7 k8 f0 f1 f2 f3 f4 f5 f6 f7 f8 d0 d1 d2 d3 d4 g0 g1 g2 g3 g4 i0 i1 x0 x1 x2
  refine (Yu m T0.out hn (l) v HST.out).mono ?_
  rintro e V2 ⟨rfl,cur2,sv2,FsB,hT2,hM2⟩
  have T2:=Lh hT2
  have M2:=Lh (M0.out.trans hM2)
  have R2:Hid _:=Lh ((hM2.block rb (La R0.out) hrbFFs.out).trans R0.out)
  have hiF2:w.heap.size+1∉w.heap.size::fb::(Fi++(Fl++Fs)):=Z5 M0.out (by have:=hsz.out;omega) hnotI
  have I2:Hid (Xo V2 (w.heap.size+1) [.int .i64 6,.int .i64 xa]):=Lh (fun j u hu=>hM2.cell (I0.out j u hu) hiF2)
  have hrbFFsB:=Lh (hM2.notin (La R0.out) hrbFFs.out)
  clear hT2 hM2
  obtain ⟨k0,k1,k2,k3,k4,k5,k6,k7,k8⟩:=Xq T2.out.mach
  obtain ⟨f0,f1,f2,f3,f4,f5,f6,f7,f8⟩:=Xu T2.out.mach
  obtain ⟨d0,d1,d2,d3,d4⟩:=Yg (r:=⟨1,0,xa,0,0⟩) R2.out
  obtain ⟨g0,g1,g2,g3,g4,-⟩:=Xu R2.out
  have i0:=I2.out 0 _ rfl
  have i1:=I2.out 1 _ rfl
  have x0:=(La T2.out.mach)
  have x1:=Bl i0
  have x2:=(La R2.out)
  obtain ⟨t3,m3⟩:=J3 (j:=1) (v:=.int .i64 v) T2.out M2.out hrbFFsB.out hrbW.out
  have e3:=Xab (r:=⟨1,0,xa,0,0⟩) R2.out 1 (.int .i64 v) ⟨1,v,xa,0,0⟩ rfl
  have c3:=Qc (j:=1) (v:=.int .i64 v) I2.out hrbi.out
  obtain ⟨V3,hV3⟩:∃ uu,uu=V2.setCell ⟨rb,1,none⟩ (.int .i64 v):=⟨_,rfl⟩
  rw [←hV3] at t3 m3 e3 c3
  have T3:=Lh t3
  have M3:=Lh m3
  have R3:=Lh e3
  have I3:=Lh c3
  have HV3:=Lh hV3
  clear t3 m3 e3 c3 hV3
  go_upto_region 14 with fail
  rw [←HV3.out]
  clear k0 k1 k2 k3 k4 k5 k6 k7 k8 f0 f1 f2 f3 f4 f5 f6 f7 f8 d0 d1 d2 d3 d4 g0 g1 g2 g3 g4 i0 i1 x0 x1 x2
  obtain ⟨k0,k1,k2,k3,k4,k5,k6,k7,k8⟩:=Xq T3.out.mach
  obtain ⟨f0,f1,f2,f3,f4,f5,f6,f7,f8⟩:=Xu T3.out.mach
  obtain ⟨d0,d1,d2,d3,d4⟩:=Yg (r:=⟨1,v,xa,0,0⟩) R3.out
  obtain ⟨g0,g1,g2,g3,g4,-⟩:=Xu R3.out
  have i0:=I3.out 0 _ rfl
  have i1:=I3.out 1 _ rfl
  have x0:=(La T3.out.mach)
  have x1:=Bl i0
  have x2:=(La R3.out)
  go_upto_region 16 with fail
  clear k0 k1 k2 k3 k4 k5 k6 k7 k8 f0 f1 f2 f3 f4 f5 f6 f7 f8 d0 d1 d2 d3 d4 g0 g1 g2 g3 g4 i0 i1 x0 x1 x2
  obtain ⟨k0,k1,k2,k3,k4,k5,k6,k7,k8⟩:=Xq T3.out.mach
  obtain ⟨f0,f1,f2,f3,f4,f5,f6,f7,f8⟩:=Xu T3.out.mach
  obtain ⟨d0,d1,d2,d3,d4⟩:=Yg (r:=⟨1,v,xa,0,0⟩) R3.out
  obtain ⟨g0,g1,g2,g3,g4,-⟩:=Xu R3.out
  have i0:=I3.out 0 _ rfl
  have i1:=I3.out 1 _ rfl
  have x0:=(La T3.out.mach)
  have x1:=Bl i0
  have x2:=(La R3.out)
  obtain ⟨t9,m9⟩:=Xbo T3.out ⟨1,v,xa,0,0⟩
  obtain ⟨U,hU⟩:∃ uu,uu=Yq V3 w.heap.size ⟨1,v,xa,0,0⟩:=⟨_,rfl⟩
  rw [←hU] at t9 m9
  have T9:=Lh t9
  have M9:=Lh (M3.out.trans m9)
  clear t9 m9
  go_upto_region 17 with fail
  unfold Yq at hU
  dsimp only at hU
  rw [←hU]
  have HU:=Lh hU
  clear hU
  clear k0 k1 k2 k3 k4 k5 k6 k7 k8 f0 f1 f2 f3 f4 f5 f6 f7 f8 d0 d1 d2 d3 d4 g0 g1 g2 g3 g4 i0 i1 x0 x1 x2
  obtain ⟨t1,t2,t3⟩:=Kn hWb.out T9.out M9.out hF.out (R:=w.heap.size+1+1) (by omega) (by have:=hsz.out;omega) B2.out
  have T2:=Lh t2
  have T3:=Lh t3
  obtain ⟨n0,n1,n2,n3,n4,n5,n6,n7,n8⟩:=Xq T9.out.mach
  obtain ⟨r0,r1,r2,r3,r4,r5,r6,r7,r8⟩:=Xq t1
  obtain ⟨q0,q1,q2,q3,q4,q5,q6,q7,q8⟩:=Xu t1
  have y0:=(La T9.out.mach)
  have y2:=(La t1)
  clear t1 t2 t3
  go_wp2_with fail
  exact bodyPost_ret (v:=Xi (.slice (some ⟨fb,0,none⟩) (fs.length+1) cap) { m with req:=⟨1,v,xa,0,0⟩ }) (Xn (p:=4) rfl T2.out _ rfl) rfl T3.out
 ·have hT0:=H.out
  have HST:=Lh hst
  clear hT0 HCS hst
  obtain ⟨k0,k1,k2,k3,k4,k5,k6,k7,k8⟩:=Xq T0.out.mach
  obtain ⟨f0,f1,f2,f3,f4,f5,f6,f7,f8⟩:=Xu T0.out.mach
  obtain ⟨d0,d1,d2,d3,d4⟩:=Yg (r:=⟨1,0,xa,0,0⟩) R0.out
  obtain ⟨g0,g1,g2,g3,g4,-⟩:=Xu R0.out
  have i0:=I0.out 0 _ rfl
  have i1:=I0.out 1 _ rfl
  have x0:=(La T0.out.mach)
  have x1:=Bl i0
  have x2:=(La R0.out)
  go_wp2_with fail
  clear k0 k1 k2 k3 k4 k5 k6 k7 k8 f0 f1 f2 f3 f4 f5 f6 f7 f8 d0 d1 d2 d3 d4 g0 g1 g2 g3 g4 i0 i1 x0 x1 x2
  refine (Yu m T0.out hn (l) v HST.out).mono ?_
  rintro e V2 ⟨rfl,cur2,sv2,FsB,hT2,hM2⟩
  have T2:=Lh hT2
  have M2:=Lh (M0.out.trans hM2)
  have R2:Hid _:=Lh ((hM2.block rb (La R0.out) hrbFFs.out).trans R0.out)
  have hiF2:w.heap.size+1∉w.heap.size::fb::(Fi++(Fl++Fs)):=Z5 M0.out (by have:=hsz.out;omega) hnotI
  have I2:Hid (Xo V2 (w.heap.size+1) [.int .i64 6,.int .i64 xa]):=Lh (fun j u hu=>hM2.cell (I0.out j u hu) hiF2)
  have hrbFFsB:=Lh (hM2.notin (La R0.out) hrbFFs.out)
  clear hT2 hM2
  obtain ⟨k0,k1,k2,k3,k4,k5,k6,k7,k8⟩:=Xq T2.out.mach
  obtain ⟨f0,f1,f2,f3,f4,f5,f6,f7,f8⟩:=Xu T2.out.mach
  obtain ⟨d0,d1,d2,d3,d4⟩:=Yg (r:=⟨1,0,xa,0,0⟩) R2.out
  obtain ⟨g0,g1,g2,g3,g4,-⟩:=Xu R2.out
  have i0:=I2.out 0 _ rfl
  have i1:=I2.out 1 _ rfl
  have x0:=(La T2.out.mach)
  have x1:=Bl i0
  have x2:=(La R2.out)
  obtain ⟨t3,m3⟩:=J3 (j:=1) (v:=.int .i64 v) T2.out M2.out hrbFFsB.out hrbW.out
  have e3:=Xab (r:=⟨1,0,xa,0,0⟩) R2.out 1 (.int .i64 v) ⟨1,v,xa,0,0⟩ rfl
  have c3:=Qc (j:=1) (v:=.int .i64 v) I2.out hrbi.out
  obtain ⟨V3,hV3⟩:∃ uu,uu=V2.setCell ⟨rb,1,none⟩ (.int .i64 v):=⟨_,rfl⟩
  rw [←hV3] at t3 m3 e3 c3
  have T3:=Lh t3
  have M3:=Lh m3
  have R3:=Lh e3
  have I3:=Lh c3
  have HV3:=Lh hV3
  clear t3 m3 e3 c3 hV3
  go_upto_region 14 with fail
  rw [←HV3.out]
  clear k0 k1 k2 k3 k4 k5 k6 k7 k8 f0 f1 f2 f3 f4 f5 f6 f7 f8 d0 d1 d2 d3 d4 g0 g1 g2 g3 g4 i0 i1 x0 x1 x2
  obtain ⟨k0,k1,k2,k3,k4,k5,k6,k7,k8⟩:=Xq T3.out.mach
  obtain ⟨f0,f1,f2,f3,f4,f5,f6,f7,f8⟩:=Xu T3.out.mach
  obtain ⟨d0,d1,d2,d3,d4⟩:=Yg (r:=⟨1,v,xa,0,0⟩) R3.out
  obtain ⟨g0,g1,g2,g3,g4,-⟩:=Xu R3.out
  have i0:=I3.out 0 _ rfl
  have i1:=I3.out 1 _ rfl
  have x0:=(La T3.out.mach)
  have x1:=Bl i0
  have x2:=(La R3.out)
  go_wp2_with fail
  refine (Q0 _ _ _ m 17 _).mono ?_
  rintro e w9 ⟨rfl,hb9⟩
  obtain ⟨t1,t2,t3⟩:=Xdm hWb.out M3.out hb9 hF.out (R:=w.heap.size+1+1) (by omega) (by have:=hsz.out;omega) B2.out { m with req:=X0 17,frames:=[] } rfl
  have Q2:=Lh t2
  have Q3:=Lh t3
  obtain ⟨r0,r1,r2,r3,r4,r5,r6,r7,r8⟩:=Xq t1
  obtain ⟨q0,q1,q2,q3,q4,q5,q6,q7,q8⟩:=Xu t1
  have y2:=(La t1)
  clear t1 t2 t3 hb9
  clear k0 k1 k2 k3 k4 k5 k6 k7 k8 f0 f1 f2 f3 f4 f5 f6 f7 f8 d0 d1 d2 d3 d4 g0 g1 g2 g3 g4 i0 i1 x0 x1 x2
  unfold Xi Xb
  go_wp2_with fail
  exact bodyPost_ret (v:=Xi (.slice none 0 0) { m with req:=X0 17,frames:=[] }) (Xn (p:=4) rfl Q2.out _ rfl) rfl Q3.out
end Go.Proofs.YtbmeoklmachjpaaGreatDoor
