/- The contract of the reference's simple: rsimple_3, rsimple_14, rsimple_26, rsimple_29. MADE BY wip/group_simple.py -/
import Derived.Test.YtbmeoklmachjpaaGreatDoorRa
import Derived.Deep.RegionHeld3
import Derived.Deep.RegionWith
set_option maxHeartbeats 8000000
set_option maxRecDepth 100000
set_option linter.unusedVariables false
set_option linter.unusedSimpArgs false
namespace Go.Proofs.YtbmeoklmachjpaaGreatDoor
open Go.RowKit
theorem U8 {w:World} {fv:Value} {m:Mch} {F:List Nat} {fs:List Fra} {f:Fra} (op xa:Int) (m':Mch) (hcs:(op=3∧∃ (i:Nat),xa=(i:Int)∧(i<f.locals.length)∧∃ (l:List Int),∃ (v:Int),(f.stack=l++[v])∧(in64 v)∧m'={ m with frames:=fs++[{ f with locals:=f.locals.set i v,stack:=l }] })∨(op=14∧∃ (l:List Int),∃ (v:Int),(f.stack=l++[v])∧(isV v)∧m'={ m with frames:=fs++[{ f with stack:=l++[-v] }] })∨(op=26∧∃ (l:List Int),∃ (v:Int),(f.stack=l++[v])∧(isV v)∧m'={ m with frames:=fs++[{ f with stack:=l++[b2i (v == 0)] }] })∨(op=29∧∃ (l:List Int),∃ (v:Int),(f.stack=l++[v])∧(isV v)∧m'={ m with frames:=fs++[{ f with stack:=l++[Jn v] }] })) (hv:Z9 w fv m.frames F) (hm:m.frames=fs++[f]) (hn:fs.length≤200) (hsl:f.stack.length<1000000 - 2) :
  Calls Tryz.prog 101 #[Xi fv m,.agg #[.int .i64 op,.int .i64 xa]] w (Qh w F m'):=by
 obtain ⟨fb,cap,cur,cs,lv,sv,Fi,Fl,Fs,rfl,rfl,hT⟩:=hv.top hm
 have hF:=Lh hv.lt
 obtain ⟨W,hW⟩:∃ W,W=((w.alloc (.cells (Xb (.slice (some ⟨fb,0,none⟩) (fs.length+1) cap) m) 36)).alloc (.cells #[.int .i64 op,.int .i64 xa] 100)).alloc (.cells (Xb (.slice none 0 0) Xl) 36):=⟨_,rfl⟩
 have hWb:Hid (Below w.heap.size w W):=by rw [hW];exact Lh (((Xa _ _).then (Xa _ _)).then (Xa _ _))
 have hsz:Hid (W.heap.size=w.heap.size+3):=by rw [hW];exact Lh (by simp)
 have b0:W.heap[w.heap.size]?=some (.cells (Xb (.slice (some ⟨fb,0,none⟩) (fs.length+1) cap) m) 36 (0,0)):=by
  rw [hW,Below.heap_alloc _ _ _ (by simp;omega),Below.heap_alloc _ _ _ (by simp)]
  exact heap_alloc_new _ _
 have b1:Xo W (w.heap.size+1) [.int .i64 op,.int .i64 xa]:=by
  rw [hW]
  have:=(@Xd (w.alloc (.cells (Xb (.slice (some ⟨fb,0,none⟩) (fs.length+1) cap) m) 36)) #[.int .i64 op,.int .i64 xa] 100).alloc (.cells (Xb (.slice none 0 0) Xl) 36)
  simpa using this
 have b2:W.heap[w.heap.size+1+1]?=some (.cells (Xb (.slice none 0 0) Xl) 36 (0,0)):=by
  rw [hW]
  have:=heap_alloc_new ((w.alloc (.cells (Xb (.slice (some ⟨fb,0,none⟩) (fs.length+1) cap) m) 36)).alloc (.cells #[.int .i64 op,.int .i64 xa] 100)) (.cells (Xb (.slice none 0 0) Xl) 36)
  simpa using this
 have hT0:=hT W w.heap.size m hWb.out b0 (Nat.le_refl _)
 have H:=Lh hT0
 have HTd:Hid (Xk W.drew w.heap.size fb cap cur cs fs f lv sv m Fi Fl Fs):=Lh (hT0.keep (Xh (Below.refl _ _) 1))
 obtain ⟨k0,k1,k2,k3,k4,k5,k6,k7,k8⟩:=Xq b0
 have i0:=b1 0 _ rfl
 have i1:=b1 1 _ rfl
 have B2:=Lh b2
 have z0:w.heap.size<W.heap.size:=by have:=hsz.out;omega
 have z1:w.heap.size+1<W.heap.size:=by have:=hsz.out;omega
 have hnl:(fs.length:Int)≤200:=by omega
 have hix:(fs.length:Int)<(fs.length:Int)+1:=by omega
 have hx0:(0:Int)≤(fs.length:Int):=Int.natCast_nonneg _
 have hcapl:=hT0.capl
 have hnotI:w.heap.size+1∉w.heap.size::fb::(Fi++(Fl++Fs)):=fun e=>by
  rw [List.mem_cons] at e
  rcases e with e|e
  ·omega
  ·have:=hF.out _ e;omega
 have HB1:=Lh b1
 have HCS:=Lh hcs
 clear b0 b1 b2 hT hT0 hv hm hcs
 unfold Xi
 unfold Xb Xl at hW
 unfold Xb
 dsimp only at hW ⊢
 go_enter Tryz.func101,Tryz.ntmps101
 go_upto_region 1 with fail
 rw [←hW]
 have HW:=Lh hW
 clear hW
 rcases HCS.out with ⟨rfl,i,rfl,hi,l,v,hst,hv64,rfl⟩|⟨rfl,l,v,hst,hvv,rfl⟩|⟨rfl,l,v,hst,hvv,rfl⟩|⟨rfl,l,v,hst,hvv,rfl⟩
 ·have hT0:=H.out
  obtain ⟨n,hn0⟩:∃ n,f.locals[i]?=some n:=⟨_,List.getElem?_eq_getElem hi⟩
  have HN0:=Lh hn0
  obtain ⟨lb,lcap,hlv,hFl,hlc,hlc2⟩:=hT0.loc.form (by omega)
  subst hlv
  have cLv:=hT0.cLv
  have cL:=hT0.loc.cellAt hn0
  have fL:=hT0.loc.1.frozenAt i
  have hi0:(0:Int)≤(i:Int):=Int.natCast_nonneg _
  have hi1:(i:Int)<(f.locals.length:Int):=by omega
  have HST:=Lh hst
  clear hT0 HCS hn0 hst
  clear hFl hlc hlc2
  go_upto_region 8 with fail
  go_region_with (first|(go_at_call 102;refine (Yu m HTd.out hn l v HST.out).mono ?_;rintro e w1 ⟨rfl,cur1,sv1,Fs1,hT1,hM1⟩;obtain ⟨j0,j1,j2,j3,j4,j5,j6,j7,j8⟩:=Xq hT1.mach;have ji:=hM1.cell (show W.drew.cell? _=_ from i1) hnotI;have jLv:=hT1.cLv;have jL:=hT1.loc.cellAt HN0.out;have fL1:=hT1.loc.1.frozenAt i;have HT1:=Lh hT1;have HM1:Hid (Xp (w.heap.size::fb::(Fi++(Fl++Fs))) (w.heap.size::fb::(Fi++(Fl++Fs1))) W w1):=Lh ((Xp.of_below (Xh (Below.refl _ _) 1)).trans hM1);clear hT1 hM1))
  all_goals
   obtain ⟨h6,hM6⟩:=Xko HT1.out i v hv64
   obtain ⟨w6,hw6⟩:∃ u,u=w1.setCell ⟨lb,i,none⟩ (.int .i64 v):=⟨_,rfl⟩
   rw [←hw6] at h6 hM6 ⊢
   have HT6:=Lh h6
   have HM6:=Lh (HM1.out.trans hM6)
   have HW6:=Lh hw6
   clear h6 hM6 hw6 i0 i1 cLv cL fL ji jLv jL fL1 k0 k1 k2 k3 k4 k5 k6 k7 k8 j0 j1 j2 j3 j4 j5 j6 j7 j8
   obtain ⟨t1,t2,t3⟩:=Kn hWb.out HT6.out HM6.out hF.out (R:=w.heap.size+1+1) (by omega) (by have:=hsz.out;omega) B2.out
   have T2:=Lh t2
   have T3:=Lh t3
   obtain ⟨n0,n1,n2,n3,n4,n5,n6,n7,n8⟩:=Xq HT6.out.mach
   obtain ⟨r0,r1,r2,r3,r4,r5,r6,r7,r8⟩:=Xq t1
   obtain ⟨q0,q1,q2,q3,q4,q5,q6,q7,q8⟩:=Xu t1
   have y0:=(La HT6.out.mach)
   have y2:=(La t1)
   clear t1 t2 t3
   go_wp2_with fail
   exact bodyPost_ret (v:=Xi (.slice (some ⟨fb,0,none⟩) (fs.length+1) cap) m) (Xn (p:=4) rfl T2.out _ rfl) rfl T3.out
 ·have hT0:=H.out
  have HST:=Lh hst
  have hll:l.length<1000000:=by have:=congrArg List.length hst;simp at this;omega
  have hvb:-1099511627776≤v∧v≤1099511627776:=hvv
  have hr64:in64 (-v):=⟨by omega,by omega⟩
  have hw:IntKind.i64.wrap (-v) = -v:=by rw [IntKind.wrap_i64];omega
  clear hT0 HCS hst
  go_upto_region 20 with fail
  go_region_held3 (fun V=>V.cell? ⟨w.heap.size,0,none⟩=some (.slice (some ⟨fb,0,none⟩) (fs.length+1) cap)∧V.cell? ⟨w.heap.size,1,none⟩=some (.int .i64 m.req.kind)∧V.cell? ⟨w.heap.size,2,none⟩=some (.int .i64 m.req.node)∧V.cell? ⟨w.heap.size,3,none⟩=some (.int .i64 m.req.field)∧V.cell? ⟨w.heap.size,4,none⟩=some (.int .i64 m.req.value)∧V.cell? ⟨w.heap.size,5,none⟩=some (.int .i64 m.req.fault)∧V.cell? ⟨w.heap.size,6,none⟩=some (.int .i64 m.fuel)∧V.cell? ⟨w.heap.size,7,none⟩=some (.int .i64 m.compares)∧V.cell? ⟨w.heap.size,8,none⟩=some (.int .i64 m.idle))
   (first|exact ⟨k0,k1,k2,k3,k4,k5,k6,k7,k8⟩|exact ⟨p0,p1,p2,p3,p4,p5,p6,p7,p8⟩|exact ⟨j0,j1,j2,j3,j4,j5,j6,j7,j8⟩)
   (first|(go_at_call 102;refine (Yu m HTd.out hn l v HST.out).mono ?_;rintro e w1 ⟨rfl,cur1,sv1,Fs1,hT1,hM1⟩;obtain ⟨j0,j1,j2,j3,j4,j5,j6,j7,j8⟩:=Xq hT1.mach;have HT1:=Lh hT1;have HM1:Hid (Xp (w.heap.size::fb::(Fi++(Fl++Fs))) (w.heap.size::fb::(Fi++(Fl++Fs1))) W w1):=Lh ((Xp.of_below (Xh (Below.refl _ _) 1)).trans hM1);clear hT1 hM1)|(go_at_call 84;refine (Qm m HT1.out hn (-v) ?_ ?_).mono ?_;(exact hr64);(exact hll);rintro e w2 ⟨rfl,cur2,sv2,Fs2,hT2,hM2⟩;obtain ⟨p0,p1,p2,p3,p4,p5,p6,p7,p8⟩:=Xq hT2.mach;have HT2:=Lh hT2;have HM2:=Lh (HM1.out.trans hM2);clear hT2 hM2))
  clear i0 i1 k0 k1 k2 k3 k4 k5 k6 k7 k8 j0 j1 j2 j3 j4 j5 j6 j7 j8 p0 p1 p2 p3 p4 p5 p6 p7 p8
  obtain ⟨t1,t2,t3⟩:=Kn hWb.out HT2.out HM2.out hF.out (R:=w.heap.size+1+1) (by omega) (by have:=hsz.out;omega) B2.out
  have T2:=Lh t2
  have T3:=Lh t3
  obtain ⟨n0,n1,n2,n3,n4,n5,n6,n7,n8⟩:=Xq HT2.out.mach
  obtain ⟨r0,r1,r2,r3,r4,r5,r6,r7,r8⟩:=Xq t1
  obtain ⟨q0,q1,q2,q3,q4,q5,q6,q7,q8⟩:=Xu t1
  have y0:=(La HT2.out.mach)
  have y2:=(La t1)
  clear t1 t2 t3
  go_wp2_with fail
  exact bodyPost_ret (v:=Xi (.slice (some ⟨fb,0,none⟩) (fs.length+1) cap) m) (Xn (p:=4) rfl T2.out _ rfl) rfl T3.out
 ·have hT0:=H.out
  have HST:=Lh hst
  have hll:l.length<1000000:=by have:=congrArg List.length hst;simp at this;omega
  have hvb:-1099511627776≤v∧v≤1099511627776:=hvv
  have hr64:in64 (b2i (v == 0)):=by cases (v == 0)<;>exact ⟨by decide,by decide⟩
  clear hT0 HCS hst
  go_upto_region 22 with fail
  go_region_held3 (fun V=>V.cell? ⟨w.heap.size,0,none⟩=some (.slice (some ⟨fb,0,none⟩) (fs.length+1) cap)∧V.cell? ⟨w.heap.size,1,none⟩=some (.int .i64 m.req.kind)∧V.cell? ⟨w.heap.size,2,none⟩=some (.int .i64 m.req.node)∧V.cell? ⟨w.heap.size,3,none⟩=some (.int .i64 m.req.field)∧V.cell? ⟨w.heap.size,4,none⟩=some (.int .i64 m.req.value)∧V.cell? ⟨w.heap.size,5,none⟩=some (.int .i64 m.req.fault)∧V.cell? ⟨w.heap.size,6,none⟩=some (.int .i64 m.fuel)∧V.cell? ⟨w.heap.size,7,none⟩=some (.int .i64 m.compares)∧V.cell? ⟨w.heap.size,8,none⟩=some (.int .i64 m.idle))
   (first|exact ⟨k0,k1,k2,k3,k4,k5,k6,k7,k8⟩|exact ⟨p0,p1,p2,p3,p4,p5,p6,p7,p8⟩|exact ⟨j0,j1,j2,j3,j4,j5,j6,j7,j8⟩)
   (first|(go_at_call 102;refine (Yu m HTd.out hn l v HST.out).mono ?_;rintro e w1 ⟨rfl,cur1,sv1,Fs1,hT1,hM1⟩;obtain ⟨j0,j1,j2,j3,j4,j5,j6,j7,j8⟩:=Xq hT1.mach;have HT1:=Lh hT1;have HM1:Hid (Xp (w.heap.size::fb::(Fi++(Fl++Fs))) (w.heap.size::fb::(Fi++(Fl++Fs1))) W w1):=Lh ((Xp.of_below (Xh (Below.refl _ _) 1)).trans hM1);clear hT1 hM1)|(go_at_call 104;refine (Kp (v == 0) _).mono ?_;rintro e w3 ⟨rfl,rfl⟩)|(go_at_call 84;refine (Qm m HT1.out hn (b2i (v == 0)) ?_ ?_).mono ?_;(exact hr64);(exact hll);rintro e w2 ⟨rfl,cur2,sv2,Fs2,hT2,hM2⟩;obtain ⟨p0,p1,p2,p3,p4,p5,p6,p7,p8⟩:=Xq hT2.mach;have HT2:=Lh hT2;have HM2:=Lh (HM1.out.trans hM2);clear hT2 hM2))
  clear i0 i1 k0 k1 k2 k3 k4 k5 k6 k7 k8 j0 j1 j2 j3 j4 j5 j6 j7 j8 p0 p1 p2 p3 p4 p5 p6 p7 p8
  obtain ⟨t1,t2,t3⟩:=Kn hWb.out HT2.out HM2.out hF.out (R:=w.heap.size+1+1) (by omega) (by have:=hsz.out;omega) B2.out
  have T2:=Lh t2
  have T3:=Lh t3
  obtain ⟨n0,n1,n2,n3,n4,n5,n6,n7,n8⟩:=Xq HT2.out.mach
  obtain ⟨r0,r1,r2,r3,r4,r5,r6,r7,r8⟩:=Xq t1
  obtain ⟨q0,q1,q2,q3,q4,q5,q6,q7,q8⟩:=Xu t1
  have y0:=(La HT2.out.mach)
  have y2:=(La t1)
  clear t1 t2 t3
  go_wp2_with fail
  exact bodyPost_ret (v:=Xi (.slice (some ⟨fb,0,none⟩) (fs.length+1) cap) m) (Xn (p:=4) rfl T2.out _ rfl) rfl T3.out
 ·have hT0:=H.out
  have HST:=Lh hst
  have hll:l.length<1000000:=by have:=congrArg List.length hst;simp at this;omega
  have hvb:-1099511627776≤v∧v≤1099511627776:=hvv
  have hr64:in64 (Jn v):=(Xfg v).in64
  clear hT0 HCS hst
  go_upto_region 24 with fail
  go_region_held3 (fun V=>V.cell? ⟨w.heap.size,0,none⟩=some (.slice (some ⟨fb,0,none⟩) (fs.length+1) cap)∧V.cell? ⟨w.heap.size,1,none⟩=some (.int .i64 m.req.kind)∧V.cell? ⟨w.heap.size,2,none⟩=some (.int .i64 m.req.node)∧V.cell? ⟨w.heap.size,3,none⟩=some (.int .i64 m.req.field)∧V.cell? ⟨w.heap.size,4,none⟩=some (.int .i64 m.req.value)∧V.cell? ⟨w.heap.size,5,none⟩=some (.int .i64 m.req.fault)∧V.cell? ⟨w.heap.size,6,none⟩=some (.int .i64 m.fuel)∧V.cell? ⟨w.heap.size,7,none⟩=some (.int .i64 m.compares)∧V.cell? ⟨w.heap.size,8,none⟩=some (.int .i64 m.idle))
   (first|exact ⟨k0,k1,k2,k3,k4,k5,k6,k7,k8⟩|exact ⟨p0,p1,p2,p3,p4,p5,p6,p7,p8⟩|exact ⟨j0,j1,j2,j3,j4,j5,j6,j7,j8⟩)
   (first|(go_at_call 102;refine (Yu m HTd.out hn l v HST.out).mono ?_;rintro e w1 ⟨rfl,cur1,sv1,Fs1,hT1,hM1⟩;obtain ⟨j0,j1,j2,j3,j4,j5,j6,j7,j8⟩:=Xq hT1.mach;have HT1:=Lh hT1;have HM1:Hid (Xp (w.heap.size::fb::(Fi++(Fl++Fs))) (w.heap.size::fb::(Fi++(Fl++Fs1))) W w1):=Lh ((Xp.of_below (Xh (Below.refl _ _) 1)).trans hM1);clear hT1 hM1)|(go_at_call 134;refine (Xl9 v hvv _).mono ?_;rintro e w3 ⟨rfl,rfl⟩)|(go_at_call 84;refine (Qm m HT1.out hn (Jn v) ?_ ?_).mono ?_;(exact hr64);(exact hll);rintro e w2 ⟨rfl,cur2,sv2,Fs2,hT2,hM2⟩;obtain ⟨p0,p1,p2,p3,p4,p5,p6,p7,p8⟩:=Xq hT2.mach;have HT2:=Lh hT2;have HM2:=Lh (HM1.out.trans hM2);clear hT2 hM2))
  clear i0 i1 k0 k1 k2 k3 k4 k5 k6 k7 k8 j0 j1 j2 j3 j4 j5 j6 j7 j8 p0 p1 p2 p3 p4 p5 p6 p7 p8
  obtain ⟨t1,t2,t3⟩:=Kn hWb.out HT2.out HM2.out hF.out (R:=w.heap.size+1+1) (by omega) (by have:=hsz.out;omega) B2.out
  have T2:=Lh t2
  have T3:=Lh t3
  obtain ⟨n0,n1,n2,n3,n4,n5,n6,n7,n8⟩:=Xq HT2.out.mach
  obtain ⟨r0,r1,r2,r3,r4,r5,r6,r7,r8⟩:=Xq t1
  obtain ⟨q0,q1,q2,q3,q4,q5,q6,q7,q8⟩:=Xu t1
  have y0:=(La HT2.out.mach)
  have y2:=(La t1)
  clear t1 t2 t3
  go_wp2_with fail
  exact bodyPost_ret (v:=Xi (.slice (some ⟨fb,0,none⟩) (fs.length+1) cap) m) (Xn (p:=4) rfl T2.out _ rfl) rfl T3.out
end Go.Proofs.YtbmeoklmachjpaaGreatDoor
