import Derived.Test.YtiejafonjemioaaGreatDoorStep0
set_option maxHeartbeats 8000000
set_option maxRecDepth 100000
set_option linter.unusedVariables false
set_option linter.unusedSimpArgs false
open Go.Value renaming slice→σ
open Go.Obj renaming cells→χ
namespace Go.Proofs.YtiejafonjemioaaGreatDoor
open Go.RowKit
variable {w:World} {bm fb cap:Nat} {cur:Array Value} {cs:List Value} {fs:List Fra} {f:Fra} {lv sv:Value} {m:Mch} {Fi Fl Fs:List Nat}
theorem Xj6 (fa ga:Option Addr) (fn fc gn gc:Nat) (g:Int) (h:Xk w bm fb cap cur cs fs f lv sv m Fi Fl Fs) (hm:m.frames=fs++[f])
  (hid:100000<=m.idle/\m.idle<=100000) :
  Calls Tryz.prog 170 #[Yw (σ fa fn fc) (σ ga gn gc) g bm] w (Km w bm (bm::fb::(Fi++(Fl++Fs))) (.stop (X0 6) m)):=by
 have aA:=Xa w (χ #[σ fa fn fc,ι g,σ ga gn gc,.pointer (some (π bm 0))] 175)
 have hA:=h.keep aA
 have c8:=hA.cIdle
 have HA:=Lh hA
 have HM:=Lh hm
 have aC:=Lh aA
 clear hA h hm aA
 unfold Yw
 go_enter Tryz.func170,Tryz.ntmps170
 go_wp2_with fail
 refine (Jx fa ga fn fc gn gc g bm 6 _).mono ?_
 rintro e w5 ⟨rfl,aB⟩
 refine ⟨rfl,?_⟩
 exact ⟨rfl,_,(HA.o.keep aB).own HM.o,Xp.of_below (aC.o.then aB)⟩
theorem Kq (fa ga:Option Addr) (fn fc gc:Nat) (g:Int) (h:Xk w bm fb cap cur cs fs f lv sv m Fi Fl Fs) (hn:fs.length<200)
  (B:Nat) (hB:∀ b∈bm::fb::(Fi++(Fl++Fs)),B<=b) (funcs:List Fun) (hfl:funcs.length<=1000000) (hfs:Xf B w 5 (Zl B) (σ ga funcs.length gc) funcs) (k:Nat) (hk:f.fn=k) (y:Fun) (hy:funcs[k]?=some y) (p:Nat) (hp:f.pc=p) (x:Ins) (hx:y.code[p]?=some x) (hcl:y.code.length<=1000000)
  (hid:0<=m.idle/\m.idle<100000) (o:Out)
  (hcs:((x.op=1)/\(f.stack.length<1000000)/\o=.go { m with idle:=m.idle+1,frames:=fs++[{ f with pc:=f.pc+1,stack:=f.stack++[x.a] }] })\/((x.op=4)/\o=.stop ⟨1,0,x.a,0,0⟩ { m with idle:=m.idle+1,frames:=fs++[{ f with pc:=f.pc+1 }] })\/((x.op=8)/\o=.stop ⟨3,0,x.a,0,0⟩ { m with idle:=m.idle+1,frames:=fs++[{ f with pc:=f.pc+1 }] })\/((x.op=11)/\o=.go { m with idle:=m.idle+1,frames:=fs++[{ f with pc:=x.a }] })\/((x.op=5)/\∃ (l:List Int),∃ (v:Int),(f.stack=l++[v])/\o=.stop ⟨2,0,x.a,v,0⟩ { m with idle:=m.idle+1,frames:=fs++[{ f with pc:=f.pc+1,stack:=l }] })\/((x.op=30)/\∃ (l:List Int),∃ (v:Int),(f.stack=l++[v])/\o=.go { m with idle:=m.idle+1,frames:=fs++[{ f with pc:=f.pc+1,stack:=l }] })\/((x.op=12)/\∃ (l:List Int),∃ (v:Int),(f.stack=l++[v])/\(v≠0)/\o=.go { m with idle:=m.idle+1,frames:=fs++[{ f with pc:=f.pc+1,stack:=l }] })\/((x.op=12)/\∃ (l:List Int),(f.stack=l++[0])/\o=.go { m with idle:=m.idle+1,frames:=fs++[{ f with pc:=x.a,stack:=l }] })) :
  Calls Tryz.prog 170 #[Yw (σ fa fn fc) (σ ga funcs.length gc) g bm] w (Km w bm (bm::fb::(Fi++(Fl++Fs))) o):=by
 have aJ:=Lh hcs
 clear hcs
 have cX:=Lh hfs
 have HK:=Lh hk
 have HP:=Lh hp
 clear hk hp
 obtain ⟨a0,bG,cF,dG,dH,dI,hE⟩:=hfs
 obtain ⟨rfl,rfl⟩:ga=a0/\gc=bG:=by simpa using cF
 have dF:k<funcs.length:=(Ll hy)
 rcases hE with h0|⟨b,o,rfl,cL,hE⟩
 ·rw [h0] at hy;simp at hy
 have bI:=Lh (hE k y hy)
 obtain ⟨yv,q4,cR⟩:=bI.o.2.2.2.2.1
 obtain ⟨ya,cV,rfl,cS,cT,cU,bC⟩:=cR
 have dK:p<y.code.length:=(Ll hx)
 rcases bC with h0|⟨yb,yo,rfl,aZ,bC⟩
 ·rw [h0] at hx;simp at hx
 obtain ⟨i0,i1,bS,aE⟩:=bC p x hx
 obtain ⟨aI,xa⟩:=x
 dsimp only at i0 i1 bS aE
 obtain ⟨WA,aV⟩:∃ W,W=w.alloc (χ #[σ fa fn fc,ι g,σ (some (π b o)) funcs.length gc,.pointer (some (π bm 0))] 175):=⟨_,rfl⟩
 have aH:Hid (Xo WA w.heap.size [σ fa fn fc,ι g,σ (some (π b o)) funcs.length gc,.pointer (some (π bm 0))]):=by rw [aV];exact Xd
 have aO:Below w.heap.size w WA:=by rw [aV];exact Xa w _
 have cK:WA.heap.size=w.heap.size+1:=by rw [aV];simp
 have H:=Lh h
 have cG:=Lh h.lt
 have HB:=Lh hB
 have aB:w.heap.size∉bm::fb::(Fi++(Fl++Fs)):=fun e=>by have:=cG.o _ e;omega
 obtain ⟨h2,bJ⟩:=Kw (m':={ m with idle:=m.idle+1 }) h aO 8 (ι (m.idle+1)) rfl
 obtain ⟨W2,aQ⟩:∃ W,W=WA.setCell (π bm 8) (ι (m.idle+1)):=⟨_,rfl⟩
 rw [<-aQ] at h2 bJ
 have H2:=Lh h2
 have cA:=Lh bJ
 have hA:=h.keep aO
 have c8:=hA.cIdle
 have f8:=hA.frm 8
 have k0:=aH.o 0 _ rfl
 have k1:=aH.o 1 _ rfl
 have k2:=aH.o 2 _ rfl
 have k3:=aH.o 3 _ rfl
 have cZ:¬w.heap.size=bm:=fun e=>aB (by simp [e])
 have cM:bm<w.heap.size:=h.lt bm ψ
 have dA:fb<w.heap.size:=h.lt fb ψ
 have bF:=Lh aO
 have bY:=Lh i0
 have bZ:=Lh i1
 have cB:=Lh q4
 clear h hB cF hE bC h2 bJ hA i0 i1 q4 aO
 unfold Yw
 go_enter Tryz.func170,Tryz.ntmps170
 go_upto_region 1 with fail
 rw [<-aV]
 clear aV
 go_upto_region 4 with fail
 rw [<-aQ]
 have bK:Hid (Below w.heap.size WA W2->True):=fun _=>trivial
 have k0:W2.cell? (π w.heap.size 0)=some (σ fa fn fc):=by rw [aQ];go_simp
 have k1:W2.cell? (π w.heap.size 1)=some (ι g):=by rw [aQ];go_simp
 have k2:W2.cell? (π w.heap.size 2)=some (σ (some (π b o)) funcs.length gc):=by rw [aQ];go_simp
 have k3:W2.cell? (π w.heap.size 3)=some (.pointer (some (π bm 0))):=by rw [aQ];go_simp
 have cJ:=Lh aQ
 clear aQ c8 f8 bK
 go_wp2_with fail
 refine (Kz fa (some (π b o)) fn fc funcs.length gc g H2.o ω).mono ?_
 rintro e w3 ⟨rfl,aS⟩
 have H3:=Lh (H2.o.keep aS)
 have aU:=Lh (cA.o.trans (Xp.of_below aS))
 have cY:B<=w.heap.size:=Nat.le_of_lt (Nat.lt_of_le_of_lt (HB.o bm ψ) cM)
 have bU:∀ bb,bb<B->bb∉bm::fb::(Fi++(Fl++Fs)):=fun bb hb e=>by have:=HB.o bb e;omega
 have k0:=Xc aS k0
 have k1:=Xc aS k1
 have k2:=Xc aS k2
 have k3:=Xc aS k3
 have i0:=aU.o.cell bY.o (bU _ aZ)
 have i1:=aU.o.cell bZ.o (bU _ aZ)
 have q4:=aU.o.cell cB.o (bU _ cL)
 have cC:=H3.o.cFn
 have bB:=H3.o.cPc
 rw [HK.o] at cC
 rw [HP.o] at bB
 have bH:=H3.o.frf (fs.length*4+1)
 have bV:w.heap.size<w3.heap.size:=Bl k0
 have bR:fb<w3.heap.size:=ω
 have bN:bm<w3.heap.size:=ω
 have dB:(0:Int)<=(k:Int):=In _
 have dC:(k:Int)<(funcs.length:Int):=ω
 have dD:(0:Int)<=(p:Int):=In _
 have dE:(p:Int)<(y.code.length:Int):=ω
 have bX:=Bl i0
 have bM:=Bl q4
 clear aS
 go_wp2_with fail
 go_region
 go_upto_region 7 with fail
 obtain ⟨h4,cD⟩:=K9 H3.o ((p:Int)+1) ⟨ω,ω⟩
 obtain ⟨W4,aN⟩:∃ W,W=((w3.setCell ⟨fb,fs.length*4+1,(none)⟩ (ι ((p:Int)+1))).alloc (χ #[ι aI,ι xa] 124)).drew:=⟨_,rfl⟩
 have bL:Below (w3.setCell ⟨fb,fs.length*4+1,(none)⟩ (ι ((p:Int)+1))).heap.size (w3.setCell ⟨fb,fs.length*4+1,(none)⟩ (ι ((p:Int)+1))) W4:=by rw [aN];exact Xh (Xa _ _) 1
 have H4:=Lh (h4.keep bL)
 have aP:=Lh ((aU.o.trans cD).trans (Xp.of_below bL))
 have d0:W4.cell? (π w3.heap.size 0)=some (ι aI):=by rw [aN];go_simp
 have d1:W4.cell? (π w3.heap.size 1)=some (ι xa):=by rw [aN];go_simp
 have cO:¬w.heap.size=fb:=fun e=>aB (by simp [e])
 have k0:W4.cell? ⟨w.heap.size,0,(none)⟩=some (σ fa fn fc):=by rw [aN];go_simp
 have k1:W4.cell? ⟨w.heap.size,1,(none)⟩=some (ι g):=by rw [aN];go_simp
 have k2:W4.cell? ⟨w.heap.size,2,(none)⟩=some (σ (some ⟨b,o,(none)⟩) funcs.length gc):=by rw [aN];go_simp
 have k3:W4.cell? ⟨w.heap.size,3,(none)⟩=some (.pointer (some ⟨bm,0,(none)⟩)):=by rw [aN];go_simp
 have bP:w3.heap.size<W4.heap.size:=Bl d0
 have aT:w3.heap.size∉bm::fb::(Fi++(Fl++Fs)):=fun e=>by have:=cG.o _ e;omega
 have dJ:=H.o.nodup
 rw [<-aN]
 obtain ⟨ib,bT⟩:∃ ib,ib=w3.heap.size:=⟨_,rfl⟩
 rw [<-bT]
 rw [<-bT] at d0 d1 bP aT
 have aY:w.heap.size<W4.heap.size:=ω
 have cN:w.heap.size<ib:=ω
 have cW:=Lh bI.o
 clear aN bT H3 aU H2 cA cJ bL h4 cD i0 i1 q4 cC bB bH bR bN bX bM bV bY bZ cB aH bF cK bI
 rcases aJ.o with ⟨aC,cP,rfl⟩|⟨aC,rfl⟩|⟨aC,rfl⟩|⟨aC,rfl⟩|⟨aC,l,v,aG,rfl⟩|⟨aC,l,v,aG,rfl⟩|⟨aC,l,v,aG,cQ,rfl⟩|⟨aC,l,aG,rfl⟩
 ·have aD:=Lh aC
  clear aC aJ
  obtain rfl:aI=1:=aD.o
  go_wp2_with fail
  refine (Qt fa (some (π b o)) fn fc funcs.length gc g H4.o ω xa aE cP).mono ?_
  rintro e w5 ⟨rfl,aM,bD,bA,aF,aA⟩
  go_wp2_with fail
  go_end0
  rw [HP.o]
  exact ⟨rfl,_,(aF.reframe _).own rfl,aP.o.trans aA⟩
 ·have aD:=Lh aC
  clear aC aJ
  obtain rfl:aI=4:=aD.o
  go_wp2_with fail
  refine (U5 fa (some (π b o)) fn fc funcs.length gc g bm 1 0 xa 0 0 _).mono ?_
  rintro e w5 ⟨rfl,aW⟩
  refine ⟨rfl,?_⟩
  rw [HP.o]
  exact ⟨rfl,_,((H4.o.keep aW).reframe _).own rfl,aP.o.trans (Xp.of_below aW)⟩
 ·have aD:=Lh aC
  clear aC aJ
  obtain rfl:aI=8:=aD.o
  go_wp2_with fail
  refine (U5 fa (some (π b o)) fn fc funcs.length gc g bm 3 0 xa 0 0 _).mono ?_
  rintro e w5 ⟨rfl,aW⟩
  refine ⟨rfl,?_⟩
  rw [HP.o]
  exact ⟨rfl,_,((H4.o.keep aW).reframe _).own rfl,aP.o.trans (Xp.of_below aW)⟩
 ·have aD:=Lh aC
  clear aC aJ
  obtain rfl:aI=11:=aD.o
  have bB:=H4.o.cPc
  have bH:=H4.o.frf (fs.length*4+1)
  obtain ⟨h5,aA⟩:=K9 H4.o xa aE
  have H5:=Lh h5
  have aK:=Lh (aP.o.trans aA)
  clear h5 aA
  go_wp2_with fail
  go_end0
  exact ⟨rfl,_,(H5.o.reframe _).own rfl,aK.o⟩
 ·have aD:=Lh aC
  clear aC aJ
  obtain rfl:aI=5:=aD.o
  have aR:=Lh aG
  clear aG
  have cH:Hid (Xk W4.drew bm fb cap (cur.setIfInBounds (fs.length*4+1) (ι ((p:Int)+1))) cs fs { f with pc:=(p:Int)+1 } lv sv { m with idle:=m.idle+1 } Fi Fl Fs):=H4.o.keep (Xh Br 1)
  have bE:Hid (Xp (bm::fb::(Fi++(Fl++Fs))) (bm::fb::(Fi++(Fl++Fs))) w W4.drew):=aP.o.trans (Xp.of_below (Xh Br 1))
  go_upto_region 18 with fail
  go_region_with (first|(go_at_call 188;refine (X9 fa (some (π b o)) fn fc funcs.length gc g cH.o ω l v aR.o).mono ?_;rintro e w5 ⟨rfl,aM,bD,bA,aF,aA⟩;have j0:=aA.cell (show W4.drew.cell? _=_ from k0) aB;have j1:=aA.cell (show W4.drew.cell? _=_ from k1) aB;have j2:=aA.cell (show W4.drew.cell? _=_ from k2) aB;have j3:=aA.cell (show W4.drew.cell? _=_ from k3) aB;have j4:=aA.cell (show W4.drew.cell? _=_ from d1) aT;have aL:=Lh aF;have aK:=Lh (bE.o.trans aA);clear aF aA)|(go_at_call 189;refine (U5 fa (some (π b o)) fn fc funcs.length gc g bm 2 0 xa v 0 _).mono ?_;rintro e w9 aG;obtain ⟨rfl,hF⟩|⟨rfl,hb9⟩:(e=.returned (.tuple #[])/\Hid False)\/Xec ⟨2,0,xa,v,0⟩ _ e w9:=.inr aG;rotate_left;(refine ⟨rfl,?_⟩;rw [HP.o];exact ⟨rfl,_,((aL.o.keep hb9).reframe _).own rfl,aK.o.trans (Xp.of_below hb9)⟩)))
  all_goals exact hF.o.elim
 ·have aD:=Lh aC
  clear aC aJ
  obtain rfl:aI=30:=aD.o
  have aR:=Lh aG
  clear aG
  go_wp2_with fail
  refine (X9 fa (some (π b o)) fn fc funcs.length gc g H4.o ω l v aR.o).mono ?_
  rintro e w5 ⟨rfl,aM,bD,bA,aF,aA⟩
  have aL:=Lh aF
  have aK:=Lh (aP.o.trans aA)
  clear aF aA
  go_wp2_with fail
  go_end0
  rw [HP.o]
  exact ⟨rfl,_,(aL.o.reframe _).own rfl,aK.o⟩
 ·have aD:=Lh aC
  clear aC aJ
  obtain rfl:aI=12:=aD.o
  have aR:=Lh aG
  clear aG
  go_wp2_with fail
  refine (X9 fa (some (π b o)) fn fc funcs.length gc g H4.o ω l v aR.o).mono ?_
  rintro e w5 ⟨rfl,aM,bD,bA,aF,aA⟩
  have k0:=aA.cell k0 aB
  have k1:=aA.cell k1 aB
  have k2:=aA.cell k2 aB
  have k3:=aA.cell k3 aB
  have d1:=aA.cell d1 aT
  have aX:=aA.notin aY aB
  have bO:=aA.notin bP aT
  have bW:w.heap.size<w5.heap.size:=Bl k0
  have bQ:ib<w5.heap.size:=Bl d1
  have aL:=Lh aF
  have aK:=Lh (aP.o.trans aA)
  clear aF aA
  have dL:¬v=0:=cQ
  go_wp2_with fail
  go_end0
  rw [HP.o]
  exact ⟨rfl,_,(aL.o.reframe _).own rfl,aK.o⟩
 ·have aD:=Lh aC
  clear aC aJ
  obtain rfl:aI=12:=aD.o
  have aR:=Lh aG
  clear aG
  go_wp2_with fail
  refine (X9 fa (some (π b o)) fn fc funcs.length gc g H4.o ω l 0 aR.o).mono ?_
  rintro e w5 ⟨rfl,aM,bD,bA,aF,aA⟩
  have k0:=aA.cell k0 aB
  have k1:=aA.cell k1 aB
  have k2:=aA.cell k2 aB
  have k3:=aA.cell k3 aB
  have d1:=aA.cell d1 aT
  have aX:=aA.notin aY aB
  have bO:=aA.notin bP aT
  have bW:w.heap.size<w5.heap.size:=Bl k0
  have bQ:ib<w5.heap.size:=Bl d1
  have aL:=Lh aF
  have aK:=Lh (aP.o.trans aA)
  clear aF aA
  have bB:=aL.o.cPc
  have bH:=aL.o.frf (fs.length*4+1)
  obtain ⟨h6,cE⟩:=K9 aL.o xa aE
  have H6:=Lh h6
  have cI:=Lh (aK.o.trans cE)
  clear h6 cE
  go_wp2_with fail
  go_end0
  exact ⟨rfl,_,(H6.o.reframe _).own rfl,cI.o⟩
