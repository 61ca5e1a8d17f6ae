/- The contract of the reference's back. MADE BY wip/gen_rw.py -/
import Derived.Test.YtbmeoklmachjpaaGreatDoorRu
import Derived.BigQuiet
import Derived.Deep.QuietTactic
set_option maxHeartbeats 4000000
set_option maxRecDepth 100000
set_option linter.unusedVariables false
set_option linter.unusedSimpArgs false
namespace Go.Proofs.YtbmeoklmachjpaaGreatDoor
open Go.RowKit
theorem Xfl {w:World} {bm fb cap:Nat} {cur:Array Value} {cs:List Value} {fs:List Fra} {f:Fra} {lv sv:Value} {m:Mch} {Fi Fl Fs:List Nat} (h:Xk w bm fb cap cur cs fs f lv sv m Fi Fl Fs) :
  Z9 w (.slice (some ⟨fb,0,none⟩) (fs.length+1) cap) (fs++[f]) (fb::(Fi++(Fl++Fs))):=by
 obtain ⟨F0,h9,hv9,e,hn⟩:=Vz ((h.reframe (fs++[f])).own rfl) h.cFrames
 rw [(List.cons.inj e).2];exact hv9
/-- the last frame is gone, and there is one below it -/
theorem Xkg {w:World} {bm fb cap:Nat} {cur:Array Value} {cs:List Value} {fs fs':List Fra} {f f':Fra} {lv sv:Value} {m:Mch} {Fi Fl Fs:List Nat} (h:Xk w bm fb cap cur cs fs f lv sv m Fi Fl Fs) (hf:fs=fs'++[f']) :
  ∃ cs' lv' sv' Fi' Fl' Fs',Xk (w.setCell ⟨bm,0,none⟩ (.slice (some ⟨fb,0,none⟩) fs.length cap)) bm fb cap cur cs' fs' f' lv' sv' m Fi' Fl' Fs'∧Xp (bm::fb::(Fi++(Fl++Fs))) (bm::fb::(Fi'++(Fl'++Fs'))) w (w.setCell ⟨bm,0,none⟩ (.slice (some ⟨fb,0,none⟩) fs.length cap)):=by
 obtain ⟨hO,hM⟩:=Xkc h (Below.refl _ _)
 have hl:fs.length=fs'.length+1:=by rw [hf];simp
 have hbm:=h.mach
 have hrow:=h.row
 have hne:=h.ne.1
 obtain ⟨fb2,cap2,cur2,cs2,lv2,sv2,Fi2,Fl2,Fs2,hT2,hF2⟩:=hO.top hf
 have h1:=hT2.mach
 rw [heap_setCell_same _ _ _ _ _ _ hbm] at h1
 simp only [Option.some.injEq,Obj.cells.injEq,Xb] at h1
 have h2:=congrArg (fun a=>a[0]?) h1.1
 have h3:(.slice (some ⟨fb,0,none⟩) fs.length cap:Value)=.slice (some ⟨fb2,0,none⟩) (fs'.length+1) cap2:=by simpa using h2
 obtain ⟨rfl,-,rfl⟩:fb=fb2∧fs.length=fs'.length+1∧cap=cap2:=by simpa using h3
 have h4:=hT2.row
 rw [heap_setCell_other _ _ _ _ (fun e=>hne e.symm),hrow] at h4
 obtain rfl:cur=cur2:=by simpa using h4
 refine ⟨cs2,lv2,sv2,Fi2,Fl2,Fs2,hT2.reframe m.frames,?_⟩
 have h5:=(List.cons.inj (List.cons.inj hF2).2).2
 rw [←h5];exact hM
theorem Xak {w:World} {fv:Value} {m:Mch} {F:List Nat} {fs:List Fra} {f:Fra} (fa ga:Option Addr) (fn fc gc:Nat) (g:Int) (B:Nat) (hB:B≤w.heap.size) (funcs:List Fun) (hfs:Xf B w 5 (Zl B) (.slice ga funcs.length gc) funcs) (k:Nat) (hk:f.fn=k) (y:Fun) (hy:funcs[k]?=some y)
  (hv:Z9 w fv m.frames F) (hm:m.frames=fs++[f]) (hn:fs.length≤199) (m':Mch) (hcs:(y.result=true∧∃ (v:Int),in64 v∧f.stack=[v]∧fs=[]∧m'={ m with req:=Jc v,frames:=[] })∨(y.result=false∧f.stack=[]∧fs=[]∧m'={ m with req:=Jc 0,frames:=[] })∨(y.result=true∧∃ (v:Int),in64 v∧f.stack=[v]∧∃ (fs':List Fra) (f':Fra),fs=fs'++[f']∧f'.stack.length<1000000∧m'={ m with frames:=fs'++[{ f' with stack:=f'.stack++[v] }] })∨(y.result=false∧f.stack=[]∧∃ (fs':List Fra) (f':Fra),fs=fs'++[f']∧m'={ m with frames:=fs'++[f'] })) :
  Calls Tryz.prog 99 #[.agg #[.slice fa fn fc,.int .i64 g,.slice ga funcs.length gc],Xi fv m] w (Qh w F m'):=by
 obtain ⟨fb,cap,cur,cs,lv,sv,Fi,Fl,Fs,rfl,rfl,hT⟩:=hv.top hm
 have hF:=Lh hv.lt
 have HCS:=Lh hcs
 clear hcs
 obtain ⟨a0,cap0,he0,hl1,hl2,hl3,hE⟩:=hfs
 obtain ⟨rfl,rfl⟩:ga=a0∧gc=cap0:=by simpa using he0
 have hkl:k<funcs.length:=(Ll hy)
 rcases hE with h0|⟨b,o,rfl,hbB,hE⟩
 ·rw [h0] at hy;simp at hy
 have q3:=(hE k y hy).2.2.2.1
 obtain ⟨W,hW⟩:∃ W,W=((w.alloc (.cells #[.slice fa fn fc,.int .i64 g,.slice (some ⟨b,o,none⟩) funcs.length gc] 25)).alloc (.cells (Xb (.slice (some ⟨fb,0,none⟩) (fs.length+1) cap) m) 36)).alloc (.cells (Xb (.slice none 0 0) Xl) 36):=⟨_,rfl⟩
 have hWb:Hid (Below w.heap.size w W):=by rw [hW];exact Lh (((Xa _ _).then (Xa _ _)).then (Xa _ _))
 have hsz:Hid (W.heap.size=w.heap.size+3):=by rw [hW];exact Lh (by simp)
 have b0:Hid (Xo W w.heap.size [.slice fa fn fc,.int .i64 g,.slice (some ⟨b,o,none⟩) funcs.length gc]):=by rw [hW];exact Lh ((Xd.alloc _).alloc _)
 have b1:W.heap[w.heap.size+1]?=some (.cells (Xb (.slice (some ⟨fb,0,none⟩) (fs.length+1) cap) m) 36 (0,0)):=by
  rw [hW,Below.heap_alloc _ _ _ (by simp)]
  have:=heap_alloc_new (w.alloc (.cells #[.slice fa fn fc,.int .i64 g,.slice (some ⟨b,o,none⟩) funcs.length gc] 25)) (.cells (Xb (.slice (some ⟨fb,0,none⟩) (fs.length+1) cap) m) 36)
  simpa using this
 have b2:W.heap[w.heap.size+1+1]?=some (.cells (Xb (.slice none 0 0) Xl) 36 (0,0)):=by
  rw [hW]
  have:=heap_alloc_new ((w.alloc (.cells #[.slice fa fn fc,.int .i64 g,.slice (some ⟨b,o,none⟩) funcs.length gc] 25)).alloc (.cells (Xb (.slice (some ⟨fb,0,none⟩) (fs.length+1) cap) m) 36)) (.cells (Xb (.slice none 0 0) Xl) 36)
  simpa using this
 have hT0:=hT W (w.heap.size+1) m hWb.out b1 (by omega)
 have H:=Lh hT0
 obtain ⟨k0,k1,k2,k3,k4,k5,k6,k7,k8⟩:=Xq b1
 have z1:=(La b1)
 have i2:=b0.out 2 _ rfl
 have zi:=Bl i2
 have q3:=Xc hWb.out q3
 have zq:=Bl q3
 have cfn:=hT0.cFn
 rw [hk] at cfn
 have zf:=Bl cfn
 have B2:=Lh b2
 have hk0:(0:Int)≤(k:Int):=Int.natCast_nonneg _
 have hk1:(k:Int)<(funcs.length:Int):=by omega
 have hx0:(0:Int)≤(fs.length:Int):=Int.natCast_nonneg _
 have hx1:(fs.length:Int)<(fs.length:Int)+1:=by omega
 have hnl:(fs.length:Int)≤199:=by omega
 have hcapl:=hT0.capl
 clear b1 b2 hT hT0 hv hm he0 hE hy hk
 unfold Xi
 unfold Xb Xl at hW
 unfold Xb
 dsimp only at hW ⊢
 go_enter Tryz.func99,Tryz.ntmps99
 go_upto_region 1 with fail
 rw [←hW]
 have HW:=Lh hW
 clear hW
 go_upto_region 3 with fail
 go_quiet (fail)
 obtain ⟨V,hV⟩:∃ V,V=W.drewN nq:=⟨_,rfl⟩
 have hVb:Below W.heap.size W V:=by rw [hV];exact Xh (Below.refl _ _) nq
 rw [←hV]
 have HV:=Lh hV
 have HTV:=Lh (H.out.keep hVb)
 have HMV:Hid (Xp ((w.heap.size+1)::fb::(Fi++(Fl++Fs))) ((w.heap.size+1)::fb::(Fi++(Fl++Fs))) W V):=Lh (Xp.of_below hVb)
 clear hV hVb k0 k1 k2 k3 k4 k5 k6 k7 k8 z1 i2 zi q3 zq cfn zf
 rcases HCS.out with ⟨hres,v,h64,hst,hl,rfl⟩|⟨hres,hst,hl,rfl⟩|⟨hres,v,h64,hst,fs',f',hl,hsl,rfl⟩|⟨hres,hst,fs',f',hl,rfl⟩
 ·have HS:=Lh hst
  have HL:=Lh hl
  have e1:((fs.length:Int) == 0)=true:=by rw [hl];rfl
  rw [hres]
  clear hst hl hres HCS
  obtain ⟨k0,k1,k2,k3,k4,k5,k6,k7,k8⟩:=Xq HTV.out.mach
  obtain ⟨f0,-⟩:=Xu HTV.out.mach
  have z1:=(La HTV.out.mach)
  go_wp2_with fail
  refine (Yu m HTV.out (by omega) [] v HS.out).mono ?_
  rintro e w2 ⟨rfl,cur2,sv2,Fs2,hT2,hM2⟩
  have HT2:=Lh hT2
  have HM2:=Lh (HMV.out.trans hM2)
  clear hT2 hM2
  clear k0 k1 k2 k3 k4 k5 k6 k7 k8 f0 z1
  obtain ⟨k0,k1,k2,k3,k4,k5,k6,k7,k8⟩:=Xq HT2.out.mach
  obtain ⟨f0,-⟩:=Xu HT2.out.mach
  have z1:=(La HT2.out.mach)
  go_wp2_with fail
  refine (Xa0 _ _ _ m (Jc v) _).mono ?_
  rintro e w9 ⟨rfl,hb9⟩
  obtain ⟨t1,t2,t3⟩:=J2 (R:=w.heap.size+1+1) (bm:=w.heap.size+1) (F0:=[]) (F2:=[]) (m1:={ m with req:=Jc v,frames:=[] }) (fv:=.slice none 0 0) hWb.out (Jd w9) (HM2.out.trans ((Xp.of_below hb9).wide (Fs:=[]) (Fs':=[]) (by simp) (by simp))) (by simp) hF.out (by omega) (by omega) (by omega) (by have:=hsz.out;omega) B2.out
  have Q2:=Lh t2
  have Q3:=Lh t3
  obtain ⟨r0,r1,r2,r3,r4,r5,r6,r7,r8⟩:=Xq t1
  obtain ⟨q0,q1,q2,q3,q4,q5,q6,q7,q8⟩:=Xu t1
  have y2:=(La t1)
  clear t1 t2 t3 hb9
  clear k0 k1 k2 k3 k4 k5 k6 k7 k8 f0 z1
  unfold Xi Xb
  go_wp2_with fail
  exact bodyPost_ret (v:=Xi (.slice none 0 0) { m with req:=Jc v,frames:=[] }) (Xn (p:=4) rfl Q2.out _ rfl) rfl Q3.out
 ·have HS:=Lh hst
  have HL:=Lh hl
  have e1:((fs.length:Int) == 0)=true:=by rw [hl];rfl
  rw [hres]
  clear hst hl hres HCS
  obtain ⟨k0,k1,k2,k3,k4,k5,k6,k7,k8⟩:=Xq HTV.out.mach
  obtain ⟨f0,-⟩:=Xu HTV.out.mach
  have z1:=(La HTV.out.mach)
  have HT2:=HTV
  have HM2:=HMV
  go_wp2_with fail
  refine (Xa0 _ _ _ m (Jc 0) _).mono ?_
  rintro e w9 ⟨rfl,hb9⟩
  obtain ⟨t1,t2,t3⟩:=J2 (R:=w.heap.size+1+1) (bm:=w.heap.size+1) (F0:=[]) (F2:=[]) (m1:={ m with req:=Jc 0,frames:=[] }) (fv:=.slice none 0 0) hWb.out (Jd w9) (HM2.out.trans ((Xp.of_below hb9).wide (Fs:=[]) (Fs':=[]) (by simp) (by simp))) (by simp) hF.out (by omega) (by omega) (by omega) (by have:=hsz.out;omega) B2.out
  have Q2:=Lh t2
  have Q3:=Lh t3
  obtain ⟨r0,r1,r2,r3,r4,r5,r6,r7,r8⟩:=Xq t1
  obtain ⟨q0,q1,q2,q3,q4,q5,q6,q7,q8⟩:=Xu t1
  have y2:=(La t1)
  clear t1 t2 t3 hb9
  clear k0 k1 k2 k3 k4 k5 k6 k7 k8 f0 z1
  unfold Xi Xb
  go_wp2_with fail
  exact bodyPost_ret (v:=Xi (.slice none 0 0) { m with req:=Jc 0,frames:=[] }) (Xn (p:=4) rfl Q2.out _ rfl) rfl Q3.out
 ·have HS:=Lh hst
  have HL:=Lh hl
  have e1:((fs.length:Int) == 0)=false:=by rw [hl];simp;omega
  rw [hres]
  clear hst hl hres HCS
  obtain ⟨k0,k1,k2,k3,k4,k5,k6,k7,k8⟩:=Xq HTV.out.mach
  obtain ⟨f0,-⟩:=Xu HTV.out.mach
  have z1:=(La HTV.out.mach)
  go_wp2_with fail
  refine (Yu m HTV.out (by omega) [] v HS.out).mono ?_
  rintro e w2 ⟨rfl,cur2,sv2,Fs2,hT2,hM2⟩
  have HT2:=Lh hT2
  have HM2:=Lh (HMV.out.trans hM2)
  clear hT2 hM2
  clear k0 k1 k2 k3 k4 k5 k6 k7 k8 f0 z1
  obtain ⟨k0,k1,k2,k3,k4,k5,k6,k7,k8⟩:=Xq HT2.out.mach
  obtain ⟨f0,-⟩:=Xu HT2.out.mach
  have z1:=(La HT2.out.mach)
  go_upto_region 9 with fail
  obtain ⟨cs3,lv3,sv3,Fi3,Fl3,Fs3,hT3,hM3⟩:=Xkg HT2.out HL.out
  obtain ⟨w3,hw3⟩:∃ u,u=w2.setCell ⟨w.heap.size+1,0,none⟩ (.slice (some ⟨fb,0,none⟩) fs.length cap):=⟨_,rfl⟩
  rw [←hw3] at hT3 hM3 ⊢
  have HT3:=Lh hT3
  have HM3:=Lh (HM2.out.trans hM3)
  have HW3:=Lh hw3
  clear hT3 hM3 hw3
  clear k0 k1 k2 k3 k4 k5 k6 k7 k8 f0 z1
  obtain ⟨k0,k1,k2,k3,k4,k5,k6,k7,k8⟩:=Xq HT3.out.mach
  obtain ⟨f0,-⟩:=Xu HT3.out.mach
  have z1:=(La HT3.out.mach)
  go_wp2_with fail
  refine (Qm m HT3.out (by have:=congrArg List.length HL.out;simp at this;omega) v h64 hsl).mono ?_
  rintro e w4 ⟨rfl,cur4,sv4,Fs4,hT4,hM4⟩
  have HT4:=Lh hT4
  have HM4:=Lh (HM3.out.trans hM4)
  clear hT4 hM4
  clear k0 k1 k2 k3 k4 k5 k6 k7 k8 f0 z1
  obtain ⟨k0,k1,k2,k3,k4,k5,k6,k7,k8⟩:=Xq HT4.out.mach
  obtain ⟨f0,-⟩:=Xu HT4.out.mach
  have z1:=(La HT4.out.mach)
  obtain ⟨t1,t2,t3⟩:=J2 (R:=w.heap.size+1+1) (bm:=w.heap.size+1) (m1:={ m with frames:=fs'++[{ f' with stack:=f'.stack++[v] }] }) hWb.out (Xfl HT4.out) HM4.out (fun x hx=>List.mem_cons_of_mem _ hx) hF.out (by omega) (by omega) (by omega) (by have:=hsz.out;omega) B2.out
  have Q2:=Lh t2
  have Q3:=Lh t3
  obtain ⟨r0,r1,r2,r3,r4,r5,r6,r7,r8⟩:=Xq t1
  obtain ⟨q0,q1,q2,q3,q4,q5,q6,q7,q8⟩:=Xu t1
  have y2:=(La t1)
  clear t1 t2 t3
  go_wp2_with fail
  exact bodyPost_ret (v:=Xi (.slice (some ⟨fb,0,none⟩) (fs'.length+1) cap) { m with frames:=fs'++[{ f' with stack:=f'.stack++[v] }] }) (Xn (p:=4) rfl Q2.out _ rfl) rfl Q3.out
 ·have HS:=Lh hst
  have HL:=Lh hl
  have e1:((fs.length:Int) == 0)=false:=by rw [hl];simp;omega
  rw [hres]
  clear hst hl hres HCS
  obtain ⟨k0,k1,k2,k3,k4,k5,k6,k7,k8⟩:=Xq HTV.out.mach
  obtain ⟨f0,-⟩:=Xu HTV.out.mach
  have z1:=(La HTV.out.mach)
  have HT2:=HTV
  have HM2:=HMV
  go_upto_region 9 with fail
  obtain ⟨cs3,lv3,sv3,Fi3,Fl3,Fs3,hT3,hM3⟩:=Xkg HT2.out HL.out
  obtain ⟨w3,hw3⟩:∃ u,u=V.setCell ⟨w.heap.size+1,0,none⟩ (.slice (some ⟨fb,0,none⟩) fs.length cap):=⟨_,rfl⟩
  rw [←hw3] at hT3 hM3 ⊢
  have HT3:=Lh hT3
  have HM3:=Lh (HM2.out.trans hM3)
  have HW3:=Lh hw3
  clear hT3 hM3 hw3
  clear k0 k1 k2 k3 k4 k5 k6 k7 k8 f0 z1
  obtain ⟨k0,k1,k2,k3,k4,k5,k6,k7,k8⟩:=Xq HT3.out.mach
  obtain ⟨f0,-⟩:=Xu HT3.out.mach
  have z1:=(La HT3.out.mach)
  have HT4:=HT3
  have HM4:=HM3
  obtain ⟨t1,t2,t3⟩:=J2 (R:=w.heap.size+1+1) (bm:=w.heap.size+1) (m1:={ m with frames:=fs'++[f'] }) hWb.out (Xfl HT4.out) HM4.out (fun x hx=>List.mem_cons_of_mem _ hx) hF.out (by omega) (by omega) (by omega) (by have:=hsz.out;omega) B2.out
  have Q2:=Lh t2
  have Q3:=Lh t3
  obtain ⟨r0,r1,r2,r3,r4,r5,r6,r7,r8⟩:=Xq t1
  obtain ⟨q0,q1,q2,q3,q4,q5,q6,q7,q8⟩:=Xu t1
  have y2:=(La t1)
  clear t1 t2 t3
  go_wp2_with fail
  exact bodyPost_ret (v:=Xi (.slice (some ⟨fb,0,none⟩) (fs'.length+1) cap) { m with frames:=fs'++[f'] }) (Xn (p:=4) rfl Q2.out _ rfl) rfl Q3.out
end Go.Proofs.YtbmeoklmachjpaaGreatDoor
