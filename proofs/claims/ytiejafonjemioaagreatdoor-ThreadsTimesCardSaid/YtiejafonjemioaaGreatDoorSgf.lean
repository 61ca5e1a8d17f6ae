import Derived.Test.YtiejafonjemioaaGreatDoorStep0
set_option maxHeartbeats 8000000
set_option maxRecDepth 100000
set_option linter.unusedVariables false
set_option linter.unusedSimpArgs false
open Go.Value renaming slice→σ
open Go.Obj renaming cells→χ
namespace Go.Proofs.YtiejafonjemioaaGreatDoor
open Go.RowKit
theorem Xia {w:World} {bm fb cap:Nat} {cur:Array Value} {cs:List Value} {fs:List Fra} {f:Fra} {lv sv:Value} {m:Mch} {Fi Fl Fs:List Nat} (fa ga:Option Addr) (fn fc gc:Nat) (g:Int) (h:Xk w bm fb cap cur cs fs f lv sv m Fi Fl Fs) (hn:fs.length<200)
  (B:Nat) (hB:∀ b∈bm::fb::(Fi++(Fl++Fs)),B<=b) (funcs:List Fun) (hfl:funcs.length<=1000000) (hfs:Xf B w 5 (Zl B) (σ ga funcs.length gc) funcs) (k:Nat) (hk:f.fn=k) (y:Fun) (hy:funcs[k]?=some y) (p:Nat) (hp:f.pc=p) (x:Ins) (hx:y.code[p]?=some x) (hcl:y.code.length<=1000000)
  (hid:0<=m.idle/\m.idle<100000) (o:Out)
  (hcs:((x.op=7)/\∃ (l:List Int),∃ (u v:Int),(f.stack=l++[u]++[v])/\(u<1)/\o=.stop (X0 17) { m with idle:=m.idle+1,frames:=fs++[{ f with pc:=f.pc+1,stack:=l }] })\/((x.op=7)/\∃ (l:List Int),∃ (u v:Int),(f.stack=l++[u]++[v])/\(1<=u)/\o=.stop ⟨2,u,x.a,v,0⟩ { m with idle:=m.idle+1,frames:=fs++[{ f with pc:=f.pc+1,stack:=l }] })) :
  Calls Tryz.prog 170 #[Yw (σ fa fn fc) (σ ga funcs.length gc) g bm] w (Km w bm (bm::fb::(Fi++(Fl++Fs))) o):=by
 have bA:=Lh hcs
 clear hcs
 have dB:=Lh hfs
 have HK:=Lh hk
 have HP:=Lh hp
 clear hk hp
 obtain ⟨a0,bG,cH,dK,dL,dM,hE⟩:=hfs
 obtain ⟨rfl,rfl⟩:ga=a0/\gc=bG:=by simpa using cH
 have dJ:k<funcs.length:=(Ll hy)
 rcases hE with h0|⟨b,o,rfl,cQ,hE⟩
 ·rw [h0] at hy;simp at hy
 have bI:=Lh (hE k y hy)
 obtain ⟨yv,q4,cU⟩:=bI.o.2.2.2.2.1
 obtain ⟨ya,cZ,rfl,cV,cW,cX,aW⟩:=cU
 have dO:p<y.code.length:=(Ll hx)
 rcases aW with h0|⟨yb,yo,rfl,aV,aW⟩
 ·rw [h0] at hx;simp at hx
 obtain ⟨i0,i1,bR,aS⟩:=aW p x hx
 obtain ⟨aY,xa⟩:=x
 dsimp only at i0 i1 bR aS
 obtain ⟨WA,aP⟩:∃ W,W=w.alloc (χ #[σ fa fn fc,ι g,σ (some (π b o)) funcs.length gc,.pointer (some (π bm 0))] 175):=⟨_,rfl⟩
 have aD:Hid (Xo WA w.heap.size [σ fa fn fc,ι g,σ (some (π b o)) funcs.length gc,.pointer (some (π bm 0))]):=by rw [aP];exact Xd
 have aG:Below w.heap.size w WA:=by rw [aP];exact Xa w _
 have cP:WA.heap.size=w.heap.size+1:=by rw [aP];simp
 have H:=Lh h
 have cI:=Lh h.lt
 have HB:=Lh hB
 have aA:w.heap.size∉bm::fb::(Fi++(Fl++Fs)):=fun e=>by have:=cI.o _ e;omega
 obtain ⟨h2,bJ⟩:=Kw (m':={ m with idle:=m.idle+1 }) h aG 8 (ι (m.idle+1)) rfl
 obtain ⟨W2,aH⟩:∃ W,W=WA.setCell (π bm 8) (ι (m.idle+1)):=⟨_,rfl⟩
 rw [<-aH] at h2 bJ
 have H2:=Lh h2
 have cB:=Lh bJ
 have hA:=h.keep aG
 have c8:=hA.cIdle
 have f8:=hA.frm 8
 have k0:=aD.o 0 _ rfl
 have k1:=aD.o 1 _ rfl
 have k2:=aD.o 2 _ rfl
 have k3:=aD.o 3 _ rfl
 have dD:¬w.heap.size=bm:=fun e=>aA (by simp [e])
 have cR:bm<w.heap.size:=h.lt bm ψ
 have dE:fb<w.heap.size:=h.lt fb ψ
 have bF:=Lh aG
 have bZ:=Lh i0
 have cA:=Lh i1
 have cD:=Lh q4
 clear h hB cH hE aW h2 bJ hA i0 i1 q4 aG
 unfold Yw
 go_enter Tryz.func170,Tryz.ntmps170
 go_upto_region 1 with fail
 rw [<-aP]
 clear aP
 go_upto_region 4 with fail
 rw [<-aH]
 have bK:Hid (Below w.heap.size WA W2->True):=fun _=>trivial
 have k0:W2.cell? (π w.heap.size 0)=some (σ fa fn fc):=by rw [aH];go_simp
 have k1:W2.cell? (π w.heap.size 1)=some (ι g):=by rw [aH];go_simp
 have k2:W2.cell? (π w.heap.size 2)=some (σ (some (π b o)) funcs.length gc):=by rw [aH];go_simp
 have k3:W2.cell? (π w.heap.size 3)=some (.pointer (some (π bm 0))):=by rw [aH];go_simp
 have cM:=Lh aH
 clear aH c8 f8 bK
 go_wp2_with fail
 refine (Kz fa (some (π b o)) fn fc funcs.length gc g H2.o ω).mono ?_
 rintro e w3 ⟨rfl,aK⟩
 have H3:=Lh (H2.o.keep aK)
 have aN:=Lh (cB.o.trans (Xp.of_below aK))
 have dC:B<=w.heap.size:=Nat.le_of_lt (Nat.lt_of_le_of_lt (HB.o bm ψ) cR)
 have bT:∀ bb,bb<B->bb∉bm::fb::(Fi++(Fl++Fs)):=fun bb hb e=>by have:=HB.o bb e;omega
 have k0:=Xc aK k0
 have k1:=Xc aK k1
 have k2:=Xc aK k2
 have k3:=Xc aK k3
 have i0:=aN.o.cell bZ.o (bT _ aV)
 have i1:=aN.o.cell cA.o (bT _ aV)
 have q4:=aN.o.cell cD.o (bT _ cQ)
 have cE:=H3.o.cFn
 have cF:=H3.o.cPc
 rw [HK.o] at cE
 rw [HP.o] at cF
 have cN:=H3.o.frf (fs.length*4+1)
 have bU:w.heap.size<w3.heap.size:=Bl k0
 have bQ:fb<w3.heap.size:=ω
 have bN:bm<w3.heap.size:=ω
 have dF:(0:Int)<=(k:Int):=In _
 have dG:(k:Int)<(funcs.length:Int):=ω
 have dH:(0:Int)<=(p:Int):=In _
 have dI:(p:Int)<(y.code.length:Int):=ω
 have bX:=Bl i0
 have bM:=Bl q4
 clear aK
 go_wp2_with fail
 go_region
 go_upto_region 7 with fail
 obtain ⟨h4,cG⟩:=K9 H3.o ((p:Int)+1) ⟨ω,ω⟩
 obtain ⟨W4,aF⟩:∃ W,W=((w3.setCell ⟨fb,fs.length*4+1,(none)⟩ (ι ((p:Int)+1))).alloc (χ #[ι aY,ι xa] 124)).drew:=⟨_,rfl⟩
 have bL:Below (w3.setCell ⟨fb,fs.length*4+1,(none)⟩ (ι ((p:Int)+1))).heap.size (w3.setCell ⟨fb,fs.length*4+1,(none)⟩ (ι ((p:Int)+1))) W4:=by rw [aF];exact Xh (Xa _ _) 1
 have H4:=Lh (h4.keep bL)
 have cC:=Lh ((aN.o.trans cG).trans (Xp.of_below bL))
 have d0:W4.cell? (π w3.heap.size 0)=some (ι aY):=by rw [aF];go_simp
 have d1:W4.cell? (π w3.heap.size 1)=some (ι xa):=by rw [aF];go_simp
 have cT:¬w.heap.size=fb:=fun e=>aA (by simp [e])
 have k0:W4.cell? ⟨w.heap.size,0,(none)⟩=some (σ fa fn fc):=by rw [aF];go_simp
 have k1:W4.cell? ⟨w.heap.size,1,(none)⟩=some (ι g):=by rw [aF];go_simp
 have k2:W4.cell? ⟨w.heap.size,2,(none)⟩=some (σ (some ⟨b,o,(none)⟩) funcs.length gc):=by rw [aF];go_simp
 have k3:W4.cell? ⟨w.heap.size,3,(none)⟩=some (.pointer (some ⟨bm,0,(none)⟩)):=by rw [aF];go_simp
 have bO:w3.heap.size<W4.heap.size:=Bl d0
 have aQ:w3.heap.size∉bm::fb::(Fi++(Fl++Fs)):=fun e=>by have:=cI.o _ e;omega
 have dN:=H.o.nodup
 rw [<-aF]
 obtain ⟨ib,bS⟩:∃ ib,ib=w3.heap.size:=⟨_,rfl⟩
 rw [<-bS]
 rw [<-bS] at d0 d1 bO aQ
 have aU:w.heap.size<W4.heap.size:=ω
 have cS:w.heap.size<ib:=ω
 have dA:=Lh bI.o
 clear aF bS H3 aN H2 cB cM bL h4 cG i0 i1 q4 cE cF cN bQ bN bX bM bU bZ cA cD aD bF cP bI
 rcases bA.o with ⟨aT,l,u,v,aL,bW,rfl⟩|⟨aT,l,u,v,aL,bW,rfl⟩
 ·have bC:=Lh aT
  clear aT bA
  obtain rfl:aY=7:=bC.o
  have bD:=Lh aL
  clear aL
  go_wp2_with fail
  refine (X9 fa (some (π b o)) fn fc funcs.length gc g H4.o ω (l++[u]) v bD.o).mono ?_
  rintro e w5 ⟨rfl,aJ,bY,aM,aO,aB⟩
  have k0:=aB.cell k0 aA
  have k1:=aB.cell k1 aA
  have k2:=aB.cell k2 aA
  have k3:=aB.cell k3 aA
  have d1:=aB.cell d1 aQ
  have aC:=aB.notin aU aA
  have aR:=aB.notin bO aQ
  have bV:w.heap.size<w5.heap.size:=Bl k0
  have bP:ib<w5.heap.size:=Bl d1
  have bE:=Lh aO
  have bB:=Lh (cC.o.trans aB)
  clear aO aB
  have aZ:Hid (Xk w5.drew bm fb cap aJ cs fs _ lv bY _ Fi Fl aM):=bE.o.keep (Xh Br 1)
  have aI:Hid (Xp (bm::fb::(Fi++(Fl++Fs))) (bm::fb::(Fi++(Fl++aM))) w w5.drew):=bB.o.trans (Xp.of_below (Xh Br 1))
  go_upto_region 23 with fail
  go_region_with (first|(go_at_call 190;refine (Xbw fa (some (π b o)) fn fc funcs.length gc g aZ.o ω l u rfl bW).mono ?_;rintro e w6 cO;obtain ⟨rfl,hF⟩|⟨rfl,bH,cY,cJ,aX,aE⟩:(e=.returned (ι 0)/\Hid False)\/Vg (X0 17) _ bm fb cap cs fs _ lv _ Fi Fl _ e w6:=.inr cO;rotate_left;(refine ⟨rfl,?_⟩;rw [HP.o];exact ⟨rfl,_,(aX.reframe _).own rfl,aI.o.trans aE⟩);have j0:w6.cell? (π w.heap.size 0)=some (σ fa fn fc):=hF.o.elim;have j1:w6.cell? (π w.heap.size 1)=some (ι g):=hF.o.elim;have j2:w6.cell? (π w.heap.size 2)=some (σ (some (π b o)) funcs.length gc):=hF.o.elim;have j3:w6.cell? (π w.heap.size 3)=some (.pointer (some (π bm 0))):=hF.o.elim;have j4:w6.cell? (π ib 1)=some (ι xa):=hF.o.elim)|(go_at_call 189;refine (show Calls Tryz.prog 189 _ _ (fun e _=>e=.returned (.tuple #[])) from hF.o.elim).mono ?_;rintro e w7 rfl))
  all_goals exact hF.o.elim
 ·have bC:=Lh aT
  clear aT bA
  obtain rfl:aY=7:=bC.o
  have bD:=Lh aL
  clear aL
  go_wp2_with fail
  refine (X9 fa (some (π b o)) fn fc funcs.length gc g H4.o ω (l++[u]) v bD.o).mono ?_
  rintro e w5 ⟨rfl,aJ,bY,aM,aO,aB⟩
  have k0:=aB.cell k0 aA
  have k1:=aB.cell k1 aA
  have k2:=aB.cell k2 aA
  have k3:=aB.cell k3 aA
  have d1:=aB.cell d1 aQ
  have aC:=aB.notin aU aA
  have aR:=aB.notin bO aQ
  have bV:w.heap.size<w5.heap.size:=Bl k0
  have bP:ib<w5.heap.size:=Bl d1
  have bE:=Lh aO
  have bB:=Lh (cC.o.trans aB)
  clear aO aB
  have aZ:Hid (Xk w5.drew bm fb cap aJ cs fs _ lv bY _ Fi Fl aM):=bE.o.keep (Xh Br 1)
  have aI:Hid (Xp (bm::fb::(Fi++(Fl++Fs))) (bm::fb::(Fi++(Fl++aM))) w w5.drew):=bB.o.trans (Xp.of_below (Xh Br 1))
  go_upto_region 23 with fail
  go_region_with (first|(go_at_call 190;refine (Xas fa (some (π b o)) fn fc funcs.length gc g aZ.o ω l u rfl bW).mono ?_;rintro e w6 ⟨rfl,bH,cY,cJ,aX,aE⟩;have j0:=aE.cell (show w5.drew.cell? _=_ from k0) aC;have j1:=aE.cell (show w5.drew.cell? _=_ from k1) aC;have j2:=aE.cell (show w5.drew.cell? _=_ from k2) aC;have j3:=aE.cell (show w5.drew.cell? _=_ from k3) aC;have j4:=aE.cell (show w5.drew.cell? _=_ from d1) aR;have cL:=Lh aX;have cK:=Lh (aI.o.trans aE);clear aX aE)|(go_at_call 189;refine (U5 fa (some (π b o)) fn fc funcs.length gc g bm 2 u xa v 0 _).mono ?_;rintro e w9 aL;obtain ⟨rfl,hF⟩|⟨rfl,hb9⟩:(e=.returned (.tuple #[])/\Hid False)\/Xec ⟨2,u,xa,v,0⟩ _ e w9:=.inr aL;rotate_left;(refine ⟨rfl,?_⟩;rw [HP.o];exact ⟨rfl,_,((cL.o.keep hb9).reframe _).own rfl,cK.o.trans (Xp.of_below hb9)⟩)))
  all_goals exact hF.o.elim
