import Derived.Test.YtiejafonjemioaaGreatDoorStep0
set_option maxHeartbeats 8000000
set_option maxRecDepth 100000
set_option linter.unusedVariables false
set_option linter.unusedSimpArgs false
open Go.Value renaming slice→σ
open Go.Obj renaming cells→χ
namespace Go.Proofs.YtiejafonjemioaaGreatDoor
open Go.RowKit
theorem Xhm {w:World} {bm fb cap:Nat} {cur:Array Value} {cs:List Value} {fs:List Fra} {f:Fra} {lv sv:Value} {m:Mch} {Fi Fl Fs:List Nat} (fa ga:Option Addr) (fn fc gc:Nat) (g:Int) (h:Xk w bm fb cap cur cs fs f lv sv m Fi Fl Fs) (hn:fs.length<200)
  (B:Nat) (hB:∀ b∈bm::fb::(Fi++(Fl++Fs)),B<=b) (funcs:List Fun) (hfl:funcs.length<=1000000) (hfs:Xf B w 5 (Zl B) (σ ga funcs.length gc) funcs) (k:Nat) (hk:f.fn=k) (y:Fun) (hy:funcs[k]?=some y) (p:Nat) (hp:f.pc=p) (x:Ins) (hx:y.code[p]?=some x) (hcl:y.code.length<=1000000)
  (hid:0<=m.idle/\m.idle<100000) (o:Out)
  (hcs:((x.op=6)/\∃ (l:List Int),∃ (u:Int),(f.stack=l++[u])/\(u<1)/\o=.stop (X0 17) { m with idle:=m.idle+1,frames:=fs++[{ f with pc:=f.pc+1,stack:=l }] })\/((x.op=6)/\∃ (l:List Int),∃ (u:Int),(f.stack=l++[u])/\(1<=u)/\o=.stop ⟨1,u,x.a,0,0⟩ { m with idle:=m.idle+1,frames:=fs++[{ f with pc:=f.pc+1,stack:=l }] })) :
  Calls Tryz.prog 170 #[Yw (σ fa fn fc) (σ ga funcs.length gc) g bm] w (Km w bm (bm::fb::(Fi++(Fl++Fs))) o):=by
 have aS:=Lh hcs
 clear hcs
 have cQ:=Lh hfs
 have HK:=Lh hk
 have HP:=Lh hp
 clear hk hp
 obtain ⟨a0,aW,bU,cZ,dA,dB,hE⟩:=hfs
 obtain ⟨rfl,rfl⟩:ga=a0/\gc=aW:=by simpa using bU
 have cY:k<funcs.length:=(Ll hy)
 rcases hE with h0|⟨b,o,rfl,cD,hE⟩
 ·rw [h0] at hy;simp at hy
 have aY:=Lh (hE k y hy)
 obtain ⟨yv,q4,cJ⟩:=aY.o.2.2.2.2.1
 obtain ⟨ya,cO,rfl,cK,cL,cM,aO⟩:=cJ
 have dD:p<y.code.length:=(Ll hx)
 rcases aO with h0|⟨yb,yo,rfl,aN,aO⟩
 ·rw [h0] at hx;simp at hx
 obtain ⟨i0,i1,bF,aL⟩:=aO p x hx
 obtain ⟨aQ,xa⟩:=x
 dsimp only at i0 i1 bF aL
 obtain ⟨WA,aK⟩:∃ W,W=w.alloc (χ #[σ fa fn fc,ι g,σ (some (π b o)) funcs.length gc,.pointer (some (π bm 0))] 175):=⟨_,rfl⟩
 have aB:Hid (Xo WA w.heap.size [σ fa fn fc,ι g,σ (some (π b o)) funcs.length gc,.pointer (some (π bm 0))]):=by rw [aK];exact Xd
 have aE:Below w.heap.size w WA:=by rw [aK];exact Xa w _
 have cC:WA.heap.size=w.heap.size+1:=by rw [aK];simp
 have H:=Lh h
 have bV:=Lh h.lt
 have HB:=Lh hB
 have aA:w.heap.size∉bm::fb::(Fi++(Fl++Fs)):=fun e=>by have:=bV.o _ e;omega
 obtain ⟨h2,aZ⟩:=Kw (m':={ m with idle:=m.idle+1 }) h aE 8 (ι (m.idle+1)) rfl
 obtain ⟨W2,aF⟩:∃ W,W=WA.setCell (π bm 8) (ι (m.idle+1)):=⟨_,rfl⟩
 rw [<-aF] at h2 aZ
 have H2:=Lh h2
 have bN:=Lh aZ
 have hA:=h.keep aE
 have c8:=hA.cIdle
 have f8:=hA.frm 8
 have k0:=aB.o 0 _ rfl
 have k1:=aB.o 1 _ rfl
 have k2:=aB.o 2 _ rfl
 have k3:=aB.o 3 _ rfl
 have cS:¬w.heap.size=bm:=fun e=>aA (by simp [e])
 have cE:bm<w.heap.size:=h.lt bm ψ
 have cT:fb<w.heap.size:=h.lt fb ψ
 have aV:=Lh aE
 have bL:=Lh i0
 have bM:=Lh i1
 have bP:=Lh q4
 clear h hB bU hE aO h2 aZ hA i0 i1 q4 aE
 unfold Yw
 go_enter Tryz.func170,Tryz.ntmps170
 go_upto_region 1 with fail
 rw [<-aK]
 clear aK
 go_upto_region 4 with fail
 rw [<-aF]
 have bA:Hid (Below w.heap.size WA W2->True):=fun _=>trivial
 have k0:W2.cell? (π w.heap.size 0)=some (σ fa fn fc):=by rw [aF];go_simp
 have k1:W2.cell? (π w.heap.size 1)=some (ι g):=by rw [aF];go_simp
 have k2:W2.cell? (π w.heap.size 2)=some (σ (some (π b o)) funcs.length gc):=by rw [aF];go_simp
 have k3:W2.cell? (π w.heap.size 3)=some (.pointer (some (π bm 0))):=by rw [aF];go_simp
 have bZ:=Lh aF
 clear aF c8 f8 bA
 go_wp2_with fail
 refine (Kz fa (some (π b o)) fn fc funcs.length gc g H2.o ω).mono ?_
 rintro e w3 ⟨rfl,aH⟩
 have H3:=Lh (H2.o.keep aH)
 have aJ:=Lh (bN.o.trans (Xp.of_below aH))
 have cR:B<=w.heap.size:=Nat.le_of_lt (Nat.lt_of_le_of_lt (HB.o bm ψ) cE)
 have bH:∀ bb,bb<B->bb∉bm::fb::(Fi++(Fl++Fs)):=fun bb hb e=>by have:=HB.o bb e;omega
 have k0:=Xc aH k0
 have k1:=Xc aH k1
 have k2:=Xc aH k2
 have k3:=Xc aH k3
 have i0:=aJ.o.cell bL.o (bH _ aN)
 have i1:=aJ.o.cell bM.o (bH _ aN)
 have q4:=aJ.o.cell bP.o (bH _ cD)
 have bQ:=H3.o.cFn
 have bR:=H3.o.cPc
 rw [HK.o] at bQ
 rw [HP.o] at bR
 have cA:=H3.o.frf (fs.length*4+1)
 have bI:w.heap.size<w3.heap.size:=Bl k0
 have bE:fb<w3.heap.size:=ω
 have bD:bm<w3.heap.size:=ω
 have cU:(0:Int)<=(k:Int):=In _
 have cV:(k:Int)<(funcs.length:Int):=ω
 have cW:(0:Int)<=(p:Int):=In _
 have cX:(p:Int)<(y.code.length:Int):=ω
 have bK:=Bl i0
 have bC:=Bl q4
 clear aH
 go_wp2_with fail
 go_region
 go_upto_region 7 with fail
 obtain ⟨h4,bS⟩:=K9 H3.o ((p:Int)+1) ⟨ω,ω⟩
 obtain ⟨W4,aD⟩:∃ W,W=((w3.setCell ⟨fb,fs.length*4+1,(none)⟩ (ι ((p:Int)+1))).alloc (χ #[ι aQ,ι xa] 124)).drew:=⟨_,rfl⟩
 have bB:Below (w3.setCell ⟨fb,fs.length*4+1,(none)⟩ (ι ((p:Int)+1))).heap.size (w3.setCell ⟨fb,fs.length*4+1,(none)⟩ (ι ((p:Int)+1))) W4:=by rw [aD];exact Xh (Xa _ _) 1
 have H4:=Lh (h4.keep bB)
 have bO:=Lh ((aJ.o.trans bS).trans (Xp.of_below bB))
 have d0:W4.cell? (π w3.heap.size 0)=some (ι aQ):=by rw [aD];go_simp
 have d1:W4.cell? (π w3.heap.size 1)=some (ι xa):=by rw [aD];go_simp
 have cH:¬w.heap.size=fb:=fun e=>aA (by simp [e])
 have k0:W4.cell? ⟨w.heap.size,0,(none)⟩=some (σ fa fn fc):=by rw [aD];go_simp
 have k1:W4.cell? ⟨w.heap.size,1,(none)⟩=some (ι g):=by rw [aD];go_simp
 have k2:W4.cell? ⟨w.heap.size,2,(none)⟩=some (σ (some ⟨b,o,(none)⟩) funcs.length gc):=by rw [aD];go_simp
 have k3:W4.cell? ⟨w.heap.size,3,(none)⟩=some (.pointer (some ⟨bm,0,(none)⟩)):=by rw [aD];go_simp
 have cF:w3.heap.size<W4.heap.size:=Bl d0
 have bT:w3.heap.size∉bm::fb::(Fi++(Fl++Fs)):=fun e=>by have:=bV.o _ e;omega
 have dC:=H.o.nodup
 rw [<-aD]
 obtain ⟨ib,bG⟩:∃ ib,ib=w3.heap.size:=⟨_,rfl⟩
 rw [<-bG]
 rw [<-bG] at d0 d1 cF bT
 have cI:w.heap.size<W4.heap.size:=ω
 have cG:w.heap.size<ib:=ω
 have cP:=Lh aY.o
 clear aD bG H3 aJ H2 bN bZ bB h4 bS i0 i1 q4 bQ bR cA bE bD bK bC bI bL bM bP aB aV cC aY
 rcases aS.o with ⟨aM,l,u,aI,bJ,rfl⟩|⟨aM,l,u,aI,bJ,rfl⟩
 ·have aT:=Lh aM
  clear aM aS
  obtain rfl:aQ=6:=aT.o
  have aU:=Lh aI
  clear aI
  have aR:Hid (Xk W4.drew bm fb cap (cur.setIfInBounds (fs.length*4+1) (ι ((p:Int)+1))) cs fs { f with pc:=(p:Int)+1 } lv sv { m with idle:=m.idle+1 } Fi Fl Fs):=H4.o.keep (Xh Br 1)
  have aG:Hid (Xp (bm::fb::(Fi++(Fl++Fs))) (bm::fb::(Fi++(Fl++Fs))) w W4.drew):=bO.o.trans (Xp.of_below (Xh Br 1))
  go_upto_region 20 with fail
  go_region_with (first|(go_at_call 190;refine (Xbw fa (some (π b o)) fn fc funcs.length gc g aR.o ω l u aU.o bJ).mono ?_;rintro e w6 cB;obtain ⟨rfl,hF⟩|⟨rfl,aX,cN,bW,aP,aC⟩:(e=.returned (ι 0)/\Hid False)\/Vg (X0 17) _ bm fb cap cs fs _ lv _ Fi Fl _ e w6:=.inr cB;rotate_left;(refine ⟨rfl,?_⟩;rw [HP.o];exact ⟨rfl,_,(aP.reframe _).own rfl,aG.o.trans aC⟩);have j0:w6.cell? (π w.heap.size 0)=some (σ fa fn fc):=hF.o.elim;have j1:w6.cell? (π w.heap.size 1)=some (ι g):=hF.o.elim;have j2:w6.cell? (π w.heap.size 2)=some (σ (some (π b o)) funcs.length gc):=hF.o.elim;have j3:w6.cell? (π w.heap.size 3)=some (.pointer (some (π bm 0))):=hF.o.elim;have j4:w6.cell? (π ib 1)=some (ι xa):=hF.o.elim)|(go_at_call 189;refine (show Calls Tryz.prog 189 _ _ (fun e _=>e=.returned (.tuple #[])) from hF.o.elim).mono ?_;rintro e w7 rfl))
  all_goals exact hF.o.elim
 ·have aT:=Lh aM
  clear aM aS
  obtain rfl:aQ=6:=aT.o
  have aU:=Lh aI
  clear aI
  have aR:Hid (Xk W4.drew bm fb cap (cur.setIfInBounds (fs.length*4+1) (ι ((p:Int)+1))) cs fs { f with pc:=(p:Int)+1 } lv sv { m with idle:=m.idle+1 } Fi Fl Fs):=H4.o.keep (Xh Br 1)
  have aG:Hid (Xp (bm::fb::(Fi++(Fl++Fs))) (bm::fb::(Fi++(Fl++Fs))) w W4.drew):=bO.o.trans (Xp.of_below (Xh Br 1))
  go_upto_region 20 with fail
  go_region_with (first|(go_at_call 190;refine (Xas fa (some (π b o)) fn fc funcs.length gc g aR.o ω l u aU.o bJ).mono ?_;rintro e w6 ⟨rfl,aX,cN,bW,aP,aC⟩;have j0:=aC.cell (show W4.drew.cell? _=_ from k0) aA;have j1:=aC.cell (show W4.drew.cell? _=_ from k1) aA;have j2:=aC.cell (show W4.drew.cell? _=_ from k2) aA;have j3:=aC.cell (show W4.drew.cell? _=_ from k3) aA;have j4:=aC.cell (show W4.drew.cell? _=_ from d1) bT;have bY:=Lh aP;have bX:=Lh (aG.o.trans aC);clear aP aC)|(go_at_call 189;refine (U5 fa (some (π b o)) fn fc funcs.length gc g bm 1 u xa 0 0 _).mono ?_;rintro e w9 aI;obtain ⟨rfl,hF⟩|⟨rfl,hb9⟩:(e=.returned (.tuple #[])/\Hid False)\/Xec ⟨1,u,xa,0,0⟩ _ e w9:=.inr aI;rotate_left;(refine ⟨rfl,?_⟩;rw [HP.o];exact ⟨rfl,_,((bY.o.keep hb9).reframe _).own rfl,bX.o.trans (Xp.of_below hb9)⟩)))
  all_goals exact hF.o.elim
