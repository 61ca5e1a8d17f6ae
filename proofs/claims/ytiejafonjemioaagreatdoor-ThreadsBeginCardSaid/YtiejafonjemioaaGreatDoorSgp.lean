import Derived.Test.YtiejafonjemioaaGreatDoorStep0
set_option maxHeartbeats 8000000
set_option maxRecDepth 100000
set_option linter.unusedVariables false
set_option linter.unusedSimpArgs false
open Go.Value renaming slice→σ
open Go.Obj renaming cells→χ
namespace Go.Proofs.YtiejafonjemioaaGreatDoor
open Go.RowKit
noncomputable def sgp {w:World} {bm fb cap:Nat} {cur:Array Value} {cs:List Value} {fs:List Fra} {f:Fra} {lv sv:Value} {m:Mch} {Fi Fl Fs:List Nat} (fa:Option Addr) (b o:Nat) (fn fc gc:Nat) (g:Int) (H:Hid (Xk w bm fb cap cur cs fs f lv sv m Fi Fl Fs)) (hn:fs.length<200)
  (B:Nat) (HB:Hid (∀ b∈bm::fb::(Fi++(Fl++Fs)),B<=b)) (funcs:List Fun) (hfl:funcs.length<=1000000) (HFS:Hid (Xf B w 5 (Zl B) (σ (some (π b o)) funcs.length gc) funcs)) (k:Nat) (HK:Hid (f.fn=k)) (y:Fun) (hy:funcs[k]?=some y) (p:Nat) (HP:Hid (f.pc=p)) (xop xa:Int) (hx:y.code[p]?=some ⟨xop,xa⟩) (hcl:y.code.length<=1000000)
  (hid:0<=m.idle/\m.idle<100000) (oo:Out) :
  Σ' T:Prop,(Hid T->Calls Tryz.prog 170 #[Yw (σ fa fn fc) (σ (some (π b o)) funcs.length gc) g bm] w (Km w bm (bm::fb::(Fi++(Fl++Fs))) oo)):=by
 refine' ⟨?_,fun TAIL=>?_⟩
 rotate_left
 have h:=H.o
 have hB:=HB.o
 obtain ⟨a0,cap0,he0,hl1,hl2,hl3,hE⟩:=HFS.o
 obtain ⟨e0,rfl⟩:some (π b o)=a0/\gc=cap0:=by simpa using he0
 have hkl:k<funcs.length:=(Ll hy)
 rcases hE with h0|⟨b',o',e1,hbB,hE⟩
 ·rw [h0] at hy;simp at hy
 obtain ⟨rfl,rfl⟩:b=b'/\o=o':=by simpa using e0.trans e1
 clear e0 e1
 have hEk:=Lh (hE k y hy)
 obtain ⟨yv,q4,hyc⟩:=hEk.o.2.2.2.2.1
 obtain ⟨ya,ycap,rfl,hyl1,hyl2,hyl3,hEc⟩:=hyc
 have hpl:p<y.code.length:=(Ll hx)
 rcases hEc with h0|⟨yb,yo,rfl,hybB,hEc⟩
 ·rw [h0] at hx;simp at hx
 obtain ⟨i0,i1,hi64,hi64a⟩:=hEc p _ hx
 dsimp only at i0 i1 hi64 hi64a
 obtain ⟨WA,hWA⟩:∃ W,W=w.alloc (χ #[σ fa fn fc,ι g,σ (some (π b o)) funcs.length gc,.pointer (some (π bm 0))] 175):=⟨_,rfl⟩
 have hbox:Hid (Xo WA w.heap.size [σ fa fn fc,ι g,σ (some (π b o)) funcs.length gc,.pointer (some (π bm 0))]):=by rw [hWA];exact Xd
 have hWAb:Below w.heap.size w WA:=by rw [hWA];exact Xa w _
 have hWs:WA.heap.size=w.heap.size+1:=by rw [hWA];simp
 have hlt:=Lh h.lt
 have hnot:w.heap.size∉bm::fb::(Fi++(Fl++Fs)):=fun e=>by have:=hlt.o _ e;omega
 obtain ⟨h2,hM2⟩:=Kw (m':={ m with idle:=m.idle+1 }) h hWAb 8 (ι (m.idle+1)) rfl
 obtain ⟨W2,hW2⟩:∃ W,W=WA.setCell (π bm 8) (ι (m.idle+1)):=⟨_,rfl⟩
 rw [<-hW2] at h2 hM2
 have H2:=Lh h2
 have HM2:=Lh hM2
 have hA:=h.keep hWAb
 have c8:=hA.cIdle
 have f8:=hA.frm 8
 have k0:=hbox.o 0 _ rfl
 have k1:=hbox.o 1 _ rfl
 have k2:=hbox.o 2 _ rfl
 have k3:=hbox.o 3 _ rfl
 have hbw:¬w.heap.size=bm:=fun e=>hnot (by simp [e])
 have hbm:bm<w.heap.size:=h.lt bm ψ
 have hfb:fb<w.heap.size:=h.lt fb ψ
 have HWAb:=Lh hWAb
 have HI0:=Lh i0
 have HI1:=Lh i1
 have HQ4:=Lh q4
 clear h hB he0 hE hEc h2 hM2 hA i0 i1 q4 hWAb
 unfold Yw
 go_enter Tryz.func170,Tryz.ntmps170
 go_upto_region 1 with fail
 rw [<-hWA]
 clear hWA
 go_upto_region 4 with fail
 rw [<-hW2]
 have hM2w:Hid (Below w.heap.size WA W2->True):=fun _=>trivial
 have k0:W2.cell? (π w.heap.size 0)=some (σ fa fn fc):=by rw [hW2];go_simp
 have k1:W2.cell? (π w.heap.size 1)=some (ι g):=by rw [hW2];go_simp
 have k2:W2.cell? (π w.heap.size 2)=some (σ (some (π b o)) funcs.length gc):=by rw [hW2];go_simp
 have k3:W2.cell? (π w.heap.size 3)=some (.pointer (some (π bm 0))):=by rw [hW2];go_simp
 have HW2:=Lh hW2
 clear hW2 c8 f8 hM2w
 go_wp2_with fail
 refine (Kz fa (some (π b o)) fn fc funcs.length gc g H2.o ω).mono ?_
 rintro e w3 ⟨rfl,hb3⟩
 have H3:=Lh (H2.o.keep hb3)
 have HM3:=Lh (HM2.o.trans (Xp.of_below hb3))
 have hBw:B<=w.heap.size:=Nat.le_of_lt (Nat.lt_of_le_of_lt (HB.o bm ψ) hbm)
 have hnB:∀ bb,bb<B->bb∉bm::fb::(Fi++(Fl++Fs)):=fun bb hb e=>by have:=HB.o bb e;omega
 have k0:=Xc hb3 k0
 have k1:=Xc hb3 k1
 have k2:=Xc hb3 k2
 have k3:=Xc hb3 k3
 have i0:=HM3.o.cell HI0.o (hnB _ hybB)
 have i1:=HM3.o.cell HI1.o (hnB _ hybB)
 have q4:=HM3.o.cell HQ4.o (hnB _ hbB)
 have cfn:=H3.o.cFn
 have cpc:=H3.o.cPc
 rw [HK.o] at cfn
 rw [HP.o] at cpc
 have fpc:=H3.o.frf (fs.length*4+1)
 have hsz3:w.heap.size<w3.heap.size:=Bl k0
 have hfb3:fb<w3.heap.size:=ω
 have hbm3:bm<w3.heap.size:=ω
 have hi0:(0:Int)<=(k:Int):=In _
 have hi1:(k:Int)<(funcs.length:Int):=ω
 have hj0:(0:Int)<=(p:Int):=In _
 have hj1:(p:Int)<(y.code.length:Int):=ω
 have hyb3:=Bl i0
 have hbb3:=Bl q4
 clear hb3
 go_wp2_with fail
 go_region
 go_upto_region 7 with fail
 obtain ⟨h4,hM4⟩:=K9 H3.o ((p:Int)+1) ⟨ω,ω⟩
 obtain ⟨W4,hW4⟩:∃ W,W=((w3.setCell ⟨fb,fs.length*4+1,(none)⟩ (ι ((p:Int)+1))).alloc (χ #[ι xop,ι xa] 124)).drew:=⟨_,rfl⟩
 have hb4:Below (w3.setCell ⟨fb,fs.length*4+1,(none)⟩ (ι ((p:Int)+1))).heap.size (w3.setCell ⟨fb,fs.length*4+1,(none)⟩ (ι ((p:Int)+1))) W4:=by rw [hW4];exact Xh (Xa _ _) 1
 have H4:=Lh (h4.keep hb4)
 have HM4:=Lh ((HM3.o.trans hM4).trans (Xp.of_below hb4))
 have d0:W4.cell? (π w3.heap.size 0)=some (ι xop):=by rw [hW4];go_simp
 have d1:W4.cell? (π w3.heap.size 1)=some (ι xa):=by rw [hW4];go_simp
 have hnfb:¬w.heap.size=fb:=fun e=>hnot (by simp [e])
 have k0:W4.cell? ⟨w.heap.size,0,(none)⟩=some (σ fa fn fc):=by rw [hW4];go_simp
 have k1:W4.cell? ⟨w.heap.size,1,(none)⟩=some (ι g):=by rw [hW4];go_simp
 have k2:W4.cell? ⟨w.heap.size,2,(none)⟩=some (σ (some ⟨b,o,(none)⟩) funcs.length gc):=by rw [hW4];go_simp
 have k3:W4.cell? ⟨w.heap.size,3,(none)⟩=some (.pointer (some ⟨bm,0,(none)⟩)):=by rw [hW4];go_simp
 have hds:w3.heap.size<W4.heap.size:=Bl d0
 have hdn:w3.heap.size∉bm::fb::(Fi++(Fl++Fs)):=fun e=>by have:=hlt.o _ e;omega
 have hnd:=H.o.nodup
 rw [<-hW4]
 obtain ⟨ib,hib⟩:∃ ib,ib=w3.heap.size:=⟨_,rfl⟩
 rw [<-hib]
 rw [<-hib] at d0 d1 hds hdn
 have hsz4:w.heap.size<W4.heap.size:=ω
 have hibs:w.heap.size<ib:=ω
 have HEf:=Lh hEk.o
 clear hW4 hib H3 HM3 H2 HM2 HW2 hb4 h4 hM4 i0 i1 q4 cfn cpc fpc hfb3 hbm3 hyb3 hbb3 hsz3 HI0 HI1 HQ4 hbox HWAb hWs hEk
 rename_i K hK
 clear hyl2 hyl3 hybB
 revert ycap yb yo hkl hpl hi64 hi64a hlt hnot hbw hbm hfb hBw hnB hi0 hi1 hj0 hj1 K hK W4 H4 HM4 d0 d1 hnfb k0 k1 k2 k3 hds hdn ib hsz4 hibs HEf
 exact TAIL.o
