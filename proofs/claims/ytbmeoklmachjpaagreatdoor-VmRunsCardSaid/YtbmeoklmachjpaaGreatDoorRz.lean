/- The contract of the reference's run. -/
import Derived.Test.YtbmeoklmachjpaaGreatDoorRy
import Derived.BigRegion
set_option maxHeartbeats 4000000
set_option maxRecDepth 100000
set_option linter.unusedVariables false
set_option linter.unusedSimpArgs false
namespace Go.Proofs.YtbmeoklmachjpaaGreatDoor
open Go.RowKit
theorem Xl5 {c:Cod} {m m1:Mch} (h:stepP c m=.go m1):m1.req=m.req:=by
 unfold stepP at h
 split at h
 ·cases h
 ·split at h
  ·cases h
  ·split at h
   ·cases h
   ·split at h
    ·cases h
    ·rename_i f _ y _ x _
     have key:Up m.req (.go m1):=by rw [←h];exact Xk2 c m _ _ _ _
     cases key with
     | go _ h1=>exact h1
theorem Xa6.kind0 {c:Cod} {r:Rq} {m:Mch} (h:Xa6 c r m):r.kind≠0:=by
 rcases h.2 with ⟨e,_,rfl⟩|⟨v,_,rfl,_⟩|⟨fs,f,hw⟩
 ·simp [X0]
 ·simp [Jc]
 ·obtain ⟨_,x,_,_,_,_,hax,_⟩:=hw.top
  have:=Ua hax
  omega
def Xm5 (c:Cod) (m0:Mch) (w:World) (F:List Nat) (e:Ending) (w':World):Prop:=∃ m',Zm c m0 m'∧Qh w F m' e w'
/-- while it runs: its machine lies in block bm -/
def Xiy (c:Cod) (m0:Mch) (bm:Nat) (F:List Nat) (W:World) (gk:Nat) (wr:World):Prop:=
 ∃ mr fvr Fr,wr.heap[bm]?=some (.cells (Xb fvr mr) 36 (0,0))∧Z9 wr fvr mr.frames Fr∧bm∉Fr∧Xp (bm::F) (bm::Fr) W wr∧
  ((∃ fs f,Ja c mr fs f∧mr.req=noR∧(pot mr).toNat+1<gk∧∀ m',Zm c mr m'→Zm c m0 m')∨(mr.req.kind≠0∧Zm c m0 mr∧0<gk))
theorem Xhr {c:Cod} {m0 m1 mb:Mch} {bm:Nat} {F F8 F9:List Nat} {W w8 w9:World} {fv9 fvb:Value} {gk:Nat} (hm:w8.heap[bm]?=some (.cells (Xb fvb mb) 36 (0,0))) (hn:bm∉F8) (hM:Xp (bm::F) (bm::F8) W w8) (hV9:Z9 w9 fv9 m1.frames F9) (hM9:Xp F8 F9 w8 w9)
  (h:(∃ fs f,Ja c m1 fs f∧m1.req=noR∧(pot m1).toNat+1<gk∧∀ m',Zm c m1 m'→Zm c m0 m')∨(m1.req.kind≠0∧Zm c m0 m1∧0<gk)) :
  w9.heap[bm]?=some (.cells (Xb fvb mb) 36 (0,0))∧Xiy c m0 bm F W gk (Yp w9 bm fv9 m1):=by
 have hl:=(La hm)
 have h9:w9.heap[bm]?=some (.cells (Xb fvb mb) 36 (0,0)):=by rw [hM9.block bm hl hn];exact hm
 have hn9:=hM9.notin hl hn
 obtain ⟨p1,p2⟩:=Xz h9 fv9 m1
 refine ⟨h9,m1,fv9,F9,p1,hV9.keep (fun b hb=>p2.block b (hV9.lt b hb) (fun e=>?_)),hn9,?_,h⟩
 ·rw [List.mem_singleton] at e;exact hn9 (e▸hb)
 ·have h1:Xp (bm::F8) (bm::F9) w8 w9:=hM9.wide (fun b hb=>List.mem_cons_of_mem _ hb) (fun b hb=>by
   rw [List.mem_cons] at hb
   rcases hb with hb|hb
   ·right;simp [hb]
   ·left;exact hb)
  exact (hM.trans h1).trans (p2.wide (fun b hb=>by simp at hb;simp [hb]) (fun b hb=>.inr hb))
theorem Xd8 {c:Cod} (hs:Xv c) (hsm:Zb c) {w:World} {fv:Value} {m:Mch} {F:List Nat} {fs:List Fra} {f:Fra} (fa ga:Option Addr) (fn fc gc:Nat) (g:Int) (hg:Ja c { m with req:=noR } fs f)
  (B:Nat) (hB:B≤w.heap.size) (hfs:Xf B w 5 (Zl B) (.slice ga c.funcs.length gc) c.funcs) (hv:Z9 w fv m.frames F) (hFB:∀ b∈F,B≤b) :
  Calls Tryz.prog 38 #[.agg #[.slice fa fn fc,.int .i64 g,.slice ga c.funcs.length gc],Xi fv m] w (Xm5 c { m with req:=noR } w F):=by
 obtain ⟨a,cp,rfl⟩:=hv.form
 obtain ⟨mn,hmn⟩:∃ q,q=m.frames.length:=⟨_,rfl⟩
 rw [←hmn] at hv ⊢
 have HF:=Lh hv.lt
 have HFB:=Lh hFB
 have HFS:=Lh hfs
 have HMN:=Lh hmn
 have hgl:=hg.top
 obtain ⟨y0,hy0,-⟩:=hgl
 obtain ⟨a0,cap0,he0,hl1,hl2,hl3,hE⟩:=hfs
 obtain ⟨rfl,rfl⟩:ga=a0∧gc=cap0:=by simpa using he0
 rcases hE with h0|⟨b,o,rfl,hbB,hE⟩
 ·have:=hy0.fn;rw [h0] at this;simp at this
 have HE:=Lh hE
 clear hE he0 hy0
 obtain ⟨cfl,hcfl⟩:∃ q,q=c.funcs.length:=⟨_,rfl⟩
 have HCFL:=Lh hcfl
 rw [←hcfl]
 obtain ⟨W,hW⟩:∃ W,W=((w.alloc (.cells #[.slice fa fn fc,.int .i64 g,.slice (some ⟨b,o,none⟩) cfl gc] 25)).alloc (.cells (Xb (.slice a mn cp) m) 36)).alloc (.cells (Xb (.slice none 0 0) Xl) 36):=⟨_,rfl⟩
 have hWb:Hid (Below w.heap.size w W):=by rw [hW];exact Lh (((Xa _ _).then (Xa _ _)).then (Xa _ _))
 have hsz:Hid (W.heap.size=w.heap.size+3):=by rw [hW];exact Lh (by simp)
 have b0:Hid (Xo W w.heap.size [.slice fa fn fc,.int .i64 g,.slice (some ⟨b,o,none⟩) cfl gc]):=by rw [hW];exact Lh ((Xd.alloc _).alloc _)
 have b1:W.heap[w.heap.size+1]?=some (.cells (Xb (.slice a mn cp) m) 36 (0,0)):=by
  rw [hW,Below.heap_alloc _ _ _ (by simp)]
  have:=heap_alloc_new (w.alloc (.cells #[.slice fa fn fc,.int .i64 g,.slice (some ⟨b,o,none⟩) cfl gc] 25)) (.cells (Xb (.slice a mn cp) m) 36)
  simpa using this
 have b2:W.heap[w.heap.size+1+1]?=some (.cells (Xb (.slice none 0 0) Xl) 36 (0,0)):=by
  rw [hW]
  have:=heap_alloc_new ((w.alloc (.cells #[.slice fa fn fc,.int .i64 g,.slice (some ⟨b,o,none⟩) cfl gc] 25)).alloc (.cells (Xb (.slice a mn cp) m) 36)) (.cells (Xb (.slice none 0 0) Xl) 36)
  simpa using this
 have B2:=Lh b2
 have hbmF:∀ x∈F,x<w.heap.size+1:=fun x hx=>by have:=HF.out x hx;omega
 obtain ⟨p1,p2⟩:=Ju b1 noR
 obtain ⟨V,hV⟩:∃ V,V=Yq W (w.heap.size+1) noR:=⟨_,rfl⟩
 rw [←hV] at p1 p2
 have hst0:Hid (Xiy c { m with req:=noR } (w.heap.size+1) F W ((pot { m with req:=noR }).toNat+2) V):=Lh ⟨_,_,F,p1,(hv.keep (fun b hb=>by rw [p2.block b (by have h1:=HF.out b hb;have h2:=hsz.out;omega) (by have h1:=HF.out b hb;simp;omega)];exact hWb.out.block b (HF.out b hb))),fun e=>by have:=hbmF _ e;omega,p2.wide (fun b hb=>by simp at hb;simp [hb]) (fun b hb=>.inr hb),.inl ⟨fs,f,hg,rfl,by omega,fun _ h=>h⟩⟩
 obtain ⟨k0,k1,k2,k3,k4,k5,k6,k7,k8⟩:=Xq b1
 obtain ⟨f0,f1,f2,f3,f4,f5,f6,f7,f8⟩:=Xu b1
 have z1:=(La b1)
 obtain ⟨gk0,hgk0⟩:∃ q,q=(pot { m with req:=noR }).toNat+2:=⟨_,rfl⟩
 rw [←hgk0] at hst0
 have HGK0:=Lh hgk0
 clear b1 b2 hv hmn hcfl hg p1 p2 hFB hgk0
 unfold Xi
 unfold Xb Xl at hW
 unfold Xb
 unfold Yq noR at hV
 dsimp only at hW hV ⊢
 go_enter Tryz.func38,Tryz.ntmps38
 go_upto_region 1 with fail
 rw [←hW]
 have HW:=Lh hW
 clear hW
 go_wp2_with fail
 rw [←hV]
 have HV:=Lh hV
 clear hV k0 k1 k2 k3 k4 k5 k6 k7 k8 f0 f1 f2 f3 f4 f5 f6 f7 f8 z1
 go_loopg [5] gk0 (fun gk _ wr=>Hid (Xiy c { m with req:=noR } (w.heap.size+1) F W gk wr))
 case atStart=>exact hst0
 case round=>
  obtain ⟨mr,fvr,Fr,hmm,hvr,hbn,hM,hcs⟩:=hrel.out
  obtain ⟨ra,rc,rfl⟩:=hvr.form
  have hWF:w.heap.size∉(w.heap.size+1)::F:=fun e=>by
   rw [List.mem_cons] at e
   rcases e with e|e
   ·omega
   ·have:=HF.out _ e;omega
  have c0:=hM.cell (b0.out 0 _ rfl) hWF
  have c1:=hM.cell (b0.out 1 _ rfl) hWF
  have c2:=hM.cell (b0.out 2 _ rfl) hWF
  have z0:=Bl c0
  have HWF:Hid (w.heap.size∉(w.heap.size+1)::Fr):=Lh (Z5 hM (by have:=hsz.out;omega) hWF)
  obtain ⟨k0,k1,k2,k3,k4,k5,k6,k7,k8⟩:=Xq hmm
  have z1:=(La hmm)
  rcases hcs with ⟨fs1,f1,hg1,hrq,hpt,hrn⟩|⟨hk0,hrun,hgk⟩
  ·have HG:=Lh hg1
   have HRN:=Lh hrn
   have HPT:=Lh hpt
   have HMM:=Lh hmm
   have HM:=Lh hM
   have HBN:=Lh hbn
   have hnum:=hg1.nums
   have hi0:=hnum.idle0
   have hi1:=hnum.idle1
   have e0:(mr.req.kind == 0)=true:=by rw [hrq];rfl
   have HRQ:=Lh hrq
   by_cases hid:mr.idle=100000
   ·have e1:(mr.idle == 100000)=true:=by simpa using hid
    have hend:Hid (Zm c { m with req:=noR } { mr with req:=X0 6,frames:=[] }):=Lh (by
     have hst:stepP c mr=.stop (X0 6) mr:=by unfold stepP;rw [if_pos (by omega)]
     have:=hrn _ (.stop hst)
     have h2:Jf (X0 6) mr={ mr with req:=X0 6,frames:=[] }:=K4
     rwa [h2] at this)
    clear hg1 hrn hpt hmm hM hbn hrel hid hrq hvr
    go_wp2_with fail
    refine (Q0 _ _ _ mr 6 _).mono ?_
    rintro e w9 ⟨rfl,hb9⟩
    obtain ⟨t1,t2,t3⟩:=J2 (R:=w.heap.size+1+1) (bm:=w.heap.size+1) (F0:=[]) (F2:=[]) (m1:={ mr with req:=X0 6,frames:=[] }) (fv:=.slice none 0 0) hWb.out (Jd w9) (HM.out.trans ((Xp.of_below hb9).wide (Fs:=[]) (Fs':=[]) (by simp) (by simp))) (by simp) HF.out (by omega) (by omega) (by omega) (by have:=hsz.out;omega) B2.out
    have Q2:=Lh t2
    have Q3:=Lh t3
    obtain ⟨r0,r1,r2,r3,r4,r5,r6,r7,r8⟩:=Xq t1
    obtain ⟨q0,q1,q2,q3,q4,q5,q6,q7,q8⟩:=Xu t1
    have y2:=(La t1)
    clear t1 t2 t3 hb9 k0 k1 k2 k3 k4 k5 k6 k7 k8 c0 c1 c2 e0 e1 z0 z1
    unfold Xi Xb
    go_wp2_with fail
    exact bodyPost_ret (v:=Xi (.slice none 0 0) { mr with req:=X0 6,frames:=[] }) (Xn (p:=4) rfl Q2.out _ rfl) rfl ⟨_,hend.out,Q3.out⟩
   ·have hid2:mr.idle<100000:=by omega
    have e1:(mr.idle == 100000)=false:=by simpa using hid
    obtain ⟨y,x,hb,hr,hx,hp,hret⟩:=hg1.at_ hs
    have hstp:=hg1.stepP hb.fn hx hid2
    have hkp:=K5 hs hg1
    rw [hstp] at hkp
    have HSTP:=Lh hstp
    have HKP:=Lh hkp
    have HBF:=Lh hb
    have HR:=Lh hr
    have HX:=Lh hx
    have HRET:=Lh hret
    have HP:=Lh hp
    obtain ⟨fb,cap,cur,cs,lv,sv,Fi,Fl,Fs,hT,hFr⟩:=(Xt.2 ⟨_,Fr,hmm,hvr,rfl,hbn⟩:X3 wr (w.heap.size+1) mr ((w.heap.size+1)::Fr)).top hg1.fr
    obtain rfl:Fr=fb::(Fi++(Fl++Fs)):=(List.cons.inj hFr).2
    clear k0 k1 k2 k3 k4 k5 k6 k7 k8
    obtain ⟨k0,k1,k2,k3,k4,k5,k6,k7,k8⟩:=Xq hT.mach
    have g8:=hT.frm 8
    obtain ⟨h2,hM2⟩:=Kw hT (Below.refl _ _) (m':={ mr with idle:=mr.idle+1 }) 8 (.int .i64 (mr.idle+1)) (by unfold Xb;rfl)
    obtain ⟨w2,hw2⟩:∃ u,u=wr.setCell ⟨w.heap.size+1,8,none⟩ (.int .i64 (mr.idle+1)):=⟨_,rfl⟩
    rw [←hw2] at h2 hM2
    have HT2:=Lh h2
    have HM2:=Lh (hM.trans hM2)
    have c0:=hM2.cell c0 HWF.out
    have c1:=hM2.cell c1 HWF.out
    have c2':=hM2.cell c2 HWF.out
    have HC2:=Lh c2'
    have HC0:=Lh c0
    have HC1:=Lh c1
    clear hM hM2 h2 hT hmm hvr hbn hrel hid hstp hkp hrn hpt hFr hg1 hret c0 c1 c2' hrq
    go_upto_region 6 with fail
    rw [←hw2]
    have HW2:=Lh hw2
    clear hw2 k0 k1 k2 k3 k4 k5 k6 k7 k8 g8 c2 z0 z1 e0 e1
    have hk:f1.fn=(f1.fn.toNat:Int):=(Int.toNat_of_nonneg hb.fn0).symm
    have hpc:f1.pc=(f1.pc.toNat:Int):=(Int.toNat_of_nonneg hb.pc0).symm
    obtain ⟨k,hkk⟩:∃ k,k=f1.fn.toNat:=⟨_,rfl⟩
    obtain ⟨p,hpp⟩:∃ p,p=f1.pc.toNat:=⟨_,rfl⟩
    rw [←hkk] at hk
    rw [←hpp] at hpc hx
    have hy:=hb.fn
    rw [←hkk] at hy
    have hkl:k<c.funcs.length:=(Ll hy)
    have hpl:p<y.code.length:=(Ll hx)
    have hBw:Below B w w2:=(hWb.out.mono hB).trans (HM2.out.below (fun x hx=>by
     rw [List.mem_cons] at hx
     rcases hx with hx|hx
     ·omega
     ·exact HFB.out x hx) (by have:=hsz.out;omega))
    have hE1:=(HE.out k y hy).below hBw hbB
    obtain ⟨yv,q4,hyc⟩:=hE1.2.2.2.2.1
    obtain ⟨ya,ycap,rfl,hyl1,hyl2,hyl3,hEc⟩:=hyc
    rcases hEc with h0|⟨yb,yo,rfl,hybB,hEc⟩
    ·rw [h0] at hx;simp at hx
    obtain ⟨i0,i1,hi64,hi64a⟩:=hEc p x hx
    have cfn:=HT2.out.cFn
    rw [hk] at cfn
    have cpc:=HT2.out.cPc
    rw [hpc] at cpc
    have fpc:=HT2.out.frf (fs1.length*4+1)
    have c2:=HC2.out
    have zc:=Bl c2
    have zf:=Bl cfn
    have zq:=Bl q4
    have zy:=Bl i0
    obtain ⟨k0,-⟩:=Xq HT2.out.mach
    have z1:=(La HT2.out.mach)
    have hn0:(0:Int)≤(fs1.length:Int):=Int.natCast_nonneg _
    have hn1:(fs1.length:Int)<(fs1.length:Int)+1:=by omega
    have hnl:(fs1.length:Int)≤200:=by have:=HG.out.len;omega
    have hkn0:(0:Int)≤(k:Int):=Int.natCast_nonneg _
    have hkn1:(k:Int)<(cfl:Int):=by have:=HCFL.out;omega
    have hpn0:(0:Int)≤(p:Int):=Int.natCast_nonneg _
    have hpn1:(p:Int)<(y.code.length:Int):=by omega
    have HI0:=Lh i0
    have HX2:=Lh hx
    have HKK:=Lh hkk
    have HPP:=Lh hpp
    have HK:=Lh hk
    have HPC:=Lh hpc
    have HY:=Lh hy
    clear hEc hE1 hx hb hkk hpp hk hpc hy
    go_upto_region 7 with fail
    go_region
    obtain ⟨w3,hw3⟩:∃ u,u=(w2.alloc (.cells #[.int .i64 x.op,.int .i64 x.a] 100)).drew:=⟨_,rfl⟩
    obtain ⟨ib,hib⟩:∃ u,u=w2.heap.size:=⟨_,rfl⟩
    have hb3:Below w2.heap.size w2 w3:=by rw [hw3];exact Xh (Xa _ _) 1
    have hI3:Hid (Xo w3 ib [.int .i64 x.op,.int .i64 x.a]):=Lh (by rw [hw3,hib];exact @Xd w2 #[.int .i64 x.op,.int .i64 x.a] 100)
    have hibw:w.heap.size+1<ib:=by rw [hib];exact z1
    have HIBF:Hid (ib∉(w.heap.size+1)::fb::(Fi++(Fl++Fs))):=Lh (fun e=>by have:=HT2.out.lt _ e;omega)
    rw [←hw3,← hib]
    have HT3:=Lh (HT2.out.keep hb3)
    have HM3:=Lh (HM2.out.trans (Xp.of_below hb3))
    have HW3:=Lh hw3
    have HIB:=Lh hib
    have HBw3:=Lh (hBw.trans (hb3.mono (by have:=hBw.size;omega)))
    have HC3:Hid (Xo w3 w.heap.size [.slice fa fn fc,.int .i64 g,.slice (some ⟨b,o,none⟩) cfl gc]):=Lh (fun j v hv=>by
     match j,hv with
     | 0,hv=>simp at hv;subst hv;exact Xc hb3 HC0.out
     | 1,hv=>simp at hv;subst hv;exact Xc hb3 HC1.out
     | 2,hv=>simp at hv;subst hv;exact Xc hb3 HC2.out)
    clear hw3 hib hb3 hBw c2 cfn cpc fpc q4 i0 i1 zc zf zq zy k0 z1 HI0
    have cpc:=HT3.out.cPc
    rw [HPC.out] at cpc
    have fpc:=HT3.out.frf (fs1.length*4+1)
    have zf:=Bl cpc
    obtain ⟨k0,-⟩:=Xq HT3.out.mach
    have z1:=(La HT3.out.mach)
    have hp100:(p:Int)≤100000:=by have:=hsm y (List.mem_of_getElem? HY.out);omega
    obtain ⟨h4',hM4'⟩:=K9 HT3.out ((p:Int)+1) ⟨by omega,by omega⟩
    have hwr:IntKind.i64.wrap ((p:Int)+1)=(p:Int)+1:=by rw [IntKind.wrap_i64];omega
    have H4':=Lh h4'
    have HM4':=Lh hM4'
    clear h4' hM4'
    go_upto_region 8 with fail
    go_region
    obtain ⟨w5,hw5⟩:∃ u,u=(w3.setCell ⟨fb,fs1.length*4+1,none⟩ (.int .i64 ((p:Int)+1))).drew:=⟨_,rfl⟩
    have hb5:Below (w3.setCell ⟨fb,fs1.length*4+1,none⟩ (.int .i64 ((p:Int)+1))).heap.size (w3.setCell ⟨fb,fs1.length*4+1,none⟩ (.int .i64 ((p:Int)+1))) w5:=by rw [hw5];exact Xh (Below.refl _ _) 1
    have H5:=Lh (H4'.out.keep hb5)
    have HM35:=HM4'.out.trans (Xp.of_below hb5)
    have HM5:=Lh (HM3.out.trans HM35)
    rw [←hw5]
    have HW5:=Lh hw5
    clear hw5 hb5 hwr cpc fpc zf k0 z1
    have c0:=HM35.cell (HC3.out 0 _ rfl) HWF.out
    have c1:=HM35.cell (HC3.out 1 _ rfl) HWF.out
    have c2:=HM35.cell (HC3.out 2 _ rfl) HWF.out
    have i0:=HM35.cell (hI3.out 0 _ rfl) HIBF.out
    have i1:=HM35.cell (hI3.out 1 _ rfl) HIBF.out
    have z0:=Bl c0
    have z2:=Bl i0
    obtain ⟨k0,k1,k2,k3,k4,k5,k6,k7,k8⟩:=Xq H5.out.mach
    have z1:=(La H5.out.mach)
    have hBwW:Below B W w5:=HM5.out.below (fun x hx=>by
     rw [List.mem_cons] at hx
     rcases hx with hx|hx
     ·omega
     ·exact HFB.out x hx) (by have:=hsz.out;omega)
    have hfs5:Hid (Xf B w5 5 (Zl B) (.slice (some ⟨b,o,none⟩) c.funcs.length gc) c.funcs):=Lh ((HFS.out.funs (hWb.out.mono hB)).funs hBwW)
    have hV5:Hid (Z9 w5 (.slice (some ⟨fb,0,none⟩) (fs1.length+1) cap) (fs1++[{ f1 with pc:=f1.pc+1 }]) (fb::(Fi++(Fl++Fs)))):=Lh (by
     have:=Xfl H5.out
     rwa [←HPC.out] at this)
    have hB5:B≤w5.heap.size:=by have h1:=hBwW.size;have h2:=hsz.out;omega
    have hFB5:Hid (∀ x∈fb::(Fi++(Fl++Fs)),B≤x):=Lh (fun x hx=>by
     rcases HM5.out.new x (List.mem_cons_of_mem _ hx) with h|h
     ·rw [List.mem_cons] at h
      rcases h with h|h
      ·omega
      ·exact HFB.out x h
     ·have:=hsz.out;omega)
    clear HM35 hBwW
    go_wp2_with fail
    have hcall:=Xld hs hsm HG.out hid2 HBF.out HR.out HX.out HP.out HRET.out fa (some ⟨b,o,none⟩) fn fc gc g B hB5 hfs5.out hV5.out hFB5.out
    rw [←HCFL.out] at hcall
    refine hcall.mono ?_
    clear hcall
    rintro e w9 ⟨fv9,F9,rfl,hV9,hM9⟩
    have hnx:∃ gk',gk'<gk∧((∃ fs f,Ja c (outM (Z0 c mr fs1 f1 y x)) fs f∧(outM (Z0 c mr fs1 f1 y x)).req=noR∧(pot (outM (Z0 c mr fs1 f1 y x))).toNat+1<gk'∧∀ m',Zm c (outM (Z0 c mr fs1 f1 y x)) m'→Zm c { m with req:=noR } m')∨((outM (Z0 c mr fs1 f1 y x)).req.kind≠0∧Zm c { m with req:=noR } (outM (Z0 c mr fs1 f1 y x))∧0<gk')):=by
     have hpt:=HPT.out
     have hkp:=HKP.out
     have hstp:=HSTP.out
     cases ho:Z0 c mr fs1 f1 y x with
     | go m1=>
      rw [ho] at hkp hstp
      obtain ⟨⟨fs2,f2,hg2⟩,hp2⟩:=hkp
      have hpos:0≤pot m1:=by
       have h1:=hg2.nums.fuel
       have h2:=hg2.nums.idle1
       unfold pot;omega
      refine ⟨(pot m1).toNat+2,by omega,.inl ⟨fs2,f2,hg2,(Xl5 hstp).trans HRQ.out,by show (pot m1).toNat+1<_;omega,fun m' h=>HRN.out m' (.go hstp h)⟩⟩
     | stop r m1=>
      rw [ho] at hkp hstp
      exact ⟨1,by omega,.inr ⟨Xa6.kind0 hkp,HRN.out _ (.stop hstp),by omega⟩⟩
    obtain ⟨m9,hm9⟩:∃ q,q=outM (Z0 c mr fs1 f1 y x):=⟨_,rfl⟩
    rw [←hm9] at hnx hV9 ⊢
    have HM9:=Lh hm9
    obtain ⟨gk',hlt,hnx⟩:=hnx
    obtain ⟨a9,c9,rfl⟩:=hV9.form
    have hbn5:w.heap.size+1∉fb::(Fi++(Fl++Fs)):=(List.nodup_cons.1 H5.out.nodup).1
    obtain ⟨h9,hst9⟩:=Xhr (W:=W) (F:=F) H5.out.mach hbn5 HM5.out hV9 hM9 hnx
    obtain ⟨n9,hn9⟩:∃ q,q=m9.frames.length:=⟨_,rfl⟩
    rw [←hn9] at hst9 ⊢
    have HN9:=Lh hn9
    have HST9:=Lh hst9
    clear hn9 hst9 hV9 hM9 hnx hm9 k0 k1 k2 k3 k4 k5 k6 k7 k8 c0 c1 c2 i0 i1 z0 z1 z2
    obtain ⟨k0,k1,k2,k3,k4,k5,k6,k7,k8⟩:=Xq h9
    obtain ⟨q0,q1,q2,q3,q4,q5,q6,q7,q8⟩:=Xu h9
    have z1:=(La h9)
    clear h9
    unfold Xi Xb
    go_wp2_with fail
    go_roundg gk'
    case measure=>exact hlt
    case rel=>exact HST9
  ·have HRUN:=Lh hrun
   have HMM:=Lh hmm
   have e0:(mr.req.kind == 0)=false:=by simpa using hk0
   obtain ⟨t1,t2,t3⟩:=J2 (R:=w.heap.size+1+1) (bm:=w.heap.size+1) hWb.out hvr hM (fun x hx=>List.mem_cons_of_mem _ hx) HF.out (by omega) (by omega) (by omega) (by have:=hsz.out;omega) B2.out
   obtain ⟨rn,hrnn⟩:∃ q,q=mr.frames.length:=⟨_,rfl⟩
   rw [←hrnn] at t2 t3 k0
   have HRNN:=Lh hrnn
   have Q2:=Lh t2
   have Q3:=Lh t3
   obtain ⟨r0,r1,r2,r3,r4,r5,r6,r7,r8⟩:=Xq t1
   obtain ⟨q0,q1,q2,q3,q4,q5,q6,q7,q8⟩:=Xu t1
   have y2:=(La t1)
   clear t1 t2 t3 hrun hmm hM hbn hrel hvr hk0 hrnn
   go_wp2_with fail
   exact bodyPost_ret (v:=Xi (.slice ra rn rc) mr) (Xn (p:=4) rfl Q2.out _ rfl) rfl ⟨_,HRUN.out,Q3.out⟩
end Go.Proofs.YtbmeoklmachjpaaGreatDoor
