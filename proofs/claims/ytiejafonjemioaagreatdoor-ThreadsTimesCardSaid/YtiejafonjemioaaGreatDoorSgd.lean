import Derived.Test.YtiejafonjemioaaGreatDoorStep0
set_option maxHeartbeats 8000000
set_option maxRecDepth 100000
set_option linter.unusedVariables false
set_option linter.unusedSimpArgs false
open Go.Value renaming slice→σ
open Go.Obj renaming cells→χ
namespace Go.Proofs.YtiejafonjemioaaGreatDoor
open Go.RowKit
variable {op a b:Int} {w w':World} {bm fb cap:Nat} {cs:List Value} {fs:List Fra} {f':Fra} {lv:Value} {m:Mch} {Fi Fl F:List Nat} {e:Ending}
theorem Zv.ok (h:Zv op a b w bm fb cap cs fs f' lv m Fi Fl F e w') (h0:Yb op a b=0) :
  e=.returned (ι (Qk op a b))/\Yz w bm fb cap cs fs f' lv { m with compares:=m.compares+Zk op } Fi Fl F w':=by
 rcases h with ⟨_,h1,h2⟩|⟨h1,_⟩
 ·exact ⟨h1,h2⟩
 ·exact absurd h0 h1
theorem Zv.no (h:Zv op a b w bm fb cap cs fs f' lv m Fi Fl F e w') (h0:¬Yb op a b=0) :
  Vg (X0 (Yb op a b)) w bm fb cap cs fs f' lv { m with compares:=m.compares+Zk op } Fi Fl F e w':=by
 rcases h with ⟨h1,_⟩|⟨_,h1⟩
 ·exact absurd h1 h0
 ·exact h1
theorem Xgt {cur:Array Value} {f:Fra} {sv:Value} {Fs:List Nat} (fa ga:Option Addr) (fn fc gc:Nat) (g:Int) (h:Xk w bm fb cap cur cs fs f lv sv m Fi Fl Fs) (hn:fs.length<200)
  (B:Nat) (hB:∀ b∈bm::fb::(Fi++(Fl++Fs)),B<=b) (funcs:List Fun) (hfl:funcs.length<=1000000) (hfs:Xf B w 5 (Zl B) (σ ga funcs.length gc) funcs) (k:Nat) (hk:f.fn=k) (y:Fun) (hy:funcs[k]?=some y) (p:Nat) (hp:f.pc=p) (x:Ins) (hx:y.code[p]?=some x) (hcl:y.code.length<=1000000)
  (hid:0<=m.idle/\m.idle<100000) (o:Out)
  (hcs:((Ya x.op)/\(f.stack.length<1000000)/\∃ (l:List Int),∃ (u v:Int),(f.stack=l++[u]++[v])/\(-1099511627776<=u/\u<=1099511627776)/\(-1099511627776<=v/\v<=1099511627776)/\(-1<=m.compares/\m.compares<=4611686018427387904)/\(Yb x.op u v=0)/\(in64 (Qk x.op u v))/\o=.go { m with idle:=m.idle+1,compares:=m.compares+Zk x.op,frames:=fs++[{ f with pc:=f.pc+1,stack:=l++[Qk x.op u v] }] })\/((Ya x.op)/\(f.stack.length<1000000)/\∃ (l:List Int),∃ (u v:Int),(f.stack=l++[u]++[v])/\(-1099511627776<=u/\u<=1099511627776)/\(-1099511627776<=v/\v<=1099511627776)/\(-1<=m.compares/\m.compares<=4611686018427387904)/\(¬Yb x.op u v=0)/\o=.stop (X0 (Yb x.op u v)) { m with idle:=m.idle+1,compares:=m.compares+Zk x.op,frames:=fs++[{ f with pc:=f.pc+1,stack:=l }] })) :
  Calls Tryz.prog 170 #[Yw (σ fa fn fc) (σ ga funcs.length gc) g bm] w (Km w bm (bm::fb::(Fi++(Fl++Fs))) o):=by
 have aV:=Lh hcs
 clear hcs
 have dG:=Lh hfs
 have HK:=Lh hk
 have HP:=Lh hp
 clear hk hp
 obtain ⟨a0,aX,cF,dP,dQ,dR,hE⟩:=hfs
 obtain ⟨rfl,rfl⟩:ga=a0/\gc=aX:=by simpa using cF
 have dO:k<funcs.length:=(Ll hy)
 rcases hE with h0|⟨b,o,rfl,cP,hE⟩
 ·rw [h0] at hy;simp at hy
 have aZ:=Lh (hE k y hy)
 obtain ⟨yv,q4,cU⟩:=aZ.o.2.2.2.2.1
 obtain ⟨ya,dE,rfl,cV,cW,cX,aS⟩:=cU
 have dT:p<y.code.length:=(Ll hx)
 rcases aS with h0|⟨yb,yo,rfl,aR,aS⟩
 ·rw [h0] at hx;simp at hx
 obtain ⟨i0,i1,bG,aO⟩:=aS p x hx
 obtain ⟨aA,xa⟩:=x
 dsimp only at i0 i1 bG aO
 obtain ⟨WA,aM⟩:∃ W,W=w.alloc (χ #[σ fa fn fc,ι g,σ (some (π b o)) funcs.length gc,.pointer (some (π bm 0))] 175):=⟨_,rfl⟩
 have aD:Hid (Xo WA w.heap.size [σ fa fn fc,ι g,σ (some (π b o)) funcs.length gc,.pointer (some (π bm 0))]):=by rw [aM];exact Xd
 have aG:Below w.heap.size w WA:=by rw [aM];exact Xa w _
 have cO:WA.heap.size=w.heap.size+1:=by rw [aM];simp
 have H:=Lh h
 have cH:=Lh h.lt
 have HB:=Lh hB
 have aB:w.heap.size∉bm::fb::(Fi++(Fl++Fs)):=fun e=>by have:=cH.o _ e;omega
 obtain ⟨h2,bA⟩:=Kw (m':={ m with idle:=m.idle+1 }) h aG 8 (ι (m.idle+1)) rfl
 obtain ⟨W2,aH⟩:∃ W,W=WA.setCell (π bm 8) (ι (m.idle+1)):=⟨_,rfl⟩
 rw [<-aH] at h2 bA
 have H2:=Lh h2
 have bY:=Lh bA
 have hA:=h.keep aG
 have c8:=hA.cIdle
 have f8:=hA.frm 8
 have k0:=aD.o 0 _ rfl
 have k1:=aD.o 1 _ rfl
 have k2:=aD.o 2 _ rfl
 have k3:=aD.o 3 _ rfl
 have dI:¬w.heap.size=bm:=fun e=>aB (by simp [e])
 have cQ:bm<w.heap.size:=h.lt bm ψ
 have dJ:fb<w.heap.size:=h.lt fb ψ
 have aW:=Lh aG
 have bW:=Lh i0
 have bX:=Lh i1
 have cA:=Lh q4
 clear h hB cF hE aS h2 bA hA i0 i1 q4 aG
 unfold Yw
 go_enter Tryz.func170,Tryz.ntmps170
 go_upto_region 1 with fail
 rw [<-aM]
 clear aM
 go_upto_region 4 with fail
 rw [<-aH]
 have bB:Hid (Below w.heap.size WA W2->True):=fun _=>trivial
 have k0:W2.cell? (π w.heap.size 0)=some (σ fa fn fc):=by rw [aH];go_simp
 have k1:W2.cell? (π w.heap.size 1)=some (ι g):=by rw [aH];go_simp
 have k2:W2.cell? (π w.heap.size 2)=some (σ (some (π b o)) funcs.length gc):=by rw [aH];go_simp
 have k3:W2.cell? (π w.heap.size 3)=some (.pointer (some (π bm 0))):=by rw [aH];go_simp
 have cM:=Lh aH
 clear aH c8 f8 bB
 go_wp2_with fail
 refine (Kz fa (some (π b o)) fn fc funcs.length gc g H2.o ω).mono ?_
 rintro e w3 ⟨rfl,aJ⟩
 have H3:=Lh (H2.o.keep aJ)
 have aK:=Lh (bY.o.trans (Xp.of_below aJ))
 have dH:B<=w.heap.size:=Nat.le_of_lt (Nat.lt_of_le_of_lt (HB.o bm ψ) cQ)
 have bI:∀ bb,bb<B->bb∉bm::fb::(Fi++(Fl++Fs)):=fun bb hb e=>by have:=HB.o bb e;omega
 have k0:=Xc aJ k0
 have k1:=Xc aJ k1
 have k2:=Xc aJ k2
 have k3:=Xc aJ k3
 have i0:=aK.o.cell bW.o (bI _ aR)
 have i1:=aK.o.cell bX.o (bI _ aR)
 have q4:=aK.o.cell cA.o (bI _ cP)
 have cB:=H3.o.cFn
 have cC:=H3.o.cPc
 rw [HK.o] at cB
 rw [HP.o] at cC
 have cN:=H3.o.frf (fs.length*4+1)
 have bK:w.heap.size<w3.heap.size:=Bl k0
 have bF:fb<w3.heap.size:=ω
 have bE:bm<w3.heap.size:=ω
 have dK:(0:Int)<=(k:Int):=In _
 have dL:(k:Int)<(funcs.length:Int):=ω
 have dM:(0:Int)<=(p:Int):=In _
 have dN:(p:Int)<(y.code.length:Int):=ω
 have bM:=Bl i0
 have bD:=Bl q4
 clear aJ
 go_wp2_with fail
 go_region
 go_upto_region 7 with fail
 obtain ⟨h4,cD⟩:=K9 H3.o ((p:Int)+1) ⟨ω,ω⟩
 obtain ⟨W4,aF⟩:∃ W,W=((w3.setCell ⟨fb,fs.length*4+1,(none)⟩ (ι ((p:Int)+1))).alloc (χ #[ι aA,ι xa] 124)).drew:=⟨_,rfl⟩
 have bC:Below (w3.setCell ⟨fb,fs.length*4+1,(none)⟩ (ι ((p:Int)+1))).heap.size (w3.setCell ⟨fb,fs.length*4+1,(none)⟩ (ι ((p:Int)+1))) W4:=by rw [aF];exact Xh (Xa _ _) 1
 have H4:=Lh (h4.keep bC)
 have bZ:=Lh ((aK.o.trans cD).trans (Xp.of_below bC))
 have d0:W4.cell? (π w3.heap.size 0)=some (ι aA):=by rw [aF];go_simp
 have d1:W4.cell? (π w3.heap.size 1)=some (ι xa):=by rw [aF];go_simp
 have cS:¬w.heap.size=fb:=fun e=>aB (by simp [e])
 have k0:W4.cell? ⟨w.heap.size,0,(none)⟩=some (σ fa fn fc):=by rw [aF];go_simp
 have k1:W4.cell? ⟨w.heap.size,1,(none)⟩=some (ι g):=by rw [aF];go_simp
 have k2:W4.cell? ⟨w.heap.size,2,(none)⟩=some (σ (some ⟨b,o,(none)⟩) funcs.length gc):=by rw [aF];go_simp
 have k3:W4.cell? ⟨w.heap.size,3,(none)⟩=some (.pointer (some ⟨bm,0,(none)⟩)):=by rw [aF];go_simp
 have cE:w3.heap.size<W4.heap.size:=Bl d0
 have aT:w3.heap.size∉bm::fb::(Fi++(Fl++Fs)):=fun e=>by have:=cH.o _ e;omega
 have dS:=H.o.nodup
 rw [<-aF]
 obtain ⟨ib,bH⟩:∃ ib,ib=w3.heap.size:=⟨_,rfl⟩
 rw [<-bH]
 rw [<-bH] at d0 d1 cE aT
 have bL:w.heap.size<W4.heap.size:=ω
 have cR:w.heap.size<ib:=ω
 have dF:=Lh aZ.o
 clear aF bH H3 aK H2 bY cM bC h4 cD i0 i1 q4 cB cC cN bF bE bM bD bK bW bX cA aD aW cO aZ
 rcases aV.o with ⟨aP,cT,l,u,v,aQ,hu,hv,hc,hE,hr,rfl⟩|⟨aP,cT,l,u,v,aQ,hu,hv,hc,hE,rfl⟩
 ·have H_hst:=Lh aQ
  have H_hE:=Lh hE
  have H_hr:=Lh hr
  clear aQ hE hr
  have aL:=Lh aP
  clear aP aV
  have aE:=aL.o
  unfold Ya at aE
  have cY:¬aA=1:=ω
  have ne2:¬aA=2:=ω
  have ne3:¬aA=3:=ω
  have ne4:¬aA=4:=ω
  have cZ:¬aA=5:=ω
  have dA:¬aA=6:=ω
  have dB:¬aA=7:=ω
  have dC:¬aA=8:=ω
  have dD:¬aA=9:=ω
  have bN:¬aA=10:=ω
  have bO:¬aA=11:=ω
  have bP:¬aA=12:=ω
  have bQ:¬aA=13:=ω
  have bR:¬aA=14:=ω
  have bS:¬aA=26:=ω
  have bT:¬aA=29:=ω
  have bU:¬aA=30:=ω
  have bV:¬aA=31:=ω
  clear aE
  have cG:l.length<1000000:=by have:=congrArg List.length H_hst.o;simp at this;omega
  have aU:Hid (Xk W4.drew bm fb cap (cur.setIfInBounds (fs.length*4+1) (ι ((p:Int)+1))) cs fs { f with pc:=(p:Int)+1 } lv sv { m with idle:=m.idle+1 } Fi Fl Fs):=H4.o.keep (Xh Br 1)
  have aI:Hid (Xp (bm::fb::(Fi++(Fl++Fs))) (bm::fb::(Fi++(Fl++Fs))) w W4.drew):=bZ.o.trans (Xp.of_below (Xh Br 1))
  go_upto_region 8 with fail
  have bJ:=H_hr.o
  go_region_held3 (fun W=>W.cell? (π w.heap.size 0)=some (σ fa fn fc)/\W.cell? (π w.heap.size 1)=some (ι g)/\W.cell? (π w.heap.size 2)=some (σ (some (π b o)) funcs.length gc)/\W.cell? (π w.heap.size 3)=some (.pointer (some (π bm 0)))/\W.cell? (π ib 1)=some (ι xa)/\W.cell? (π ib 0)=some (ι aA))
   (first|exact ⟨k0,k1,k2,k3,d1,d0⟩|exact ⟨p0,p1,p2,p3,p4,p5⟩|exact ⟨j0,j1,j2,j3,j4,j5⟩)
   (first|(go_at_call 196;refine (Xdf aA aL.o fa (some (π b o)) fn fc funcs.length gc g aU.o ω l u v H_hst.o hu hv hc).mono ?_;rintro e w5 aY;obtain ⟨rfl,cur5,sv5,Fs5,hT5,hM5⟩:=aY.ok H_hE.o;have j0:=hM5.cell (show W4.drew.cell? _=_ from k0) aB;have j1:=hM5.cell (show W4.drew.cell? _=_ from k1) aB;have j2:=hM5.cell (show W4.drew.cell? _=_ from k2) aB;have j3:=hM5.cell (show W4.drew.cell? _=_ from k3) aB;have j4:=hM5.cell (show W4.drew.cell? _=_ from d1) aT;have j5:=hM5.cell (show W4.drew.cell? _=_ from d0) aT;have aC:=hM5.notin (by exact bL) aB;have aN:=hM5.notin (by exact cE) aT;have cK:=Lh hT5;have cI:=Lh (aI.o.trans hM5);clear hT5 hM5)|(go_at_call 144;refine (Qt fa (some (π b o)) fn fc funcs.length gc g cK.o ω (Qk aA u v) ?_ ?_).mono ?_;(exact bJ);(exact cG);rintro e w7 ⟨rfl,cur7,sv7,Fs7,hT7,hM7⟩;have p0:=hM7.cell j0 aC;have p1:=hM7.cell j1 aC;have p2:=hM7.cell j2 aC;have p3:=hM7.cell j3 aC;have p4:=hM7.cell j4 aN;have p5:=hM7.cell j5 aN;have cL:=Lh hT7;have cJ:=Lh (cI.o.trans hM7);clear hT7 hM7))
  go_wp2_with fail
  go_end0
  rw [HP.o]
  exact ⟨rfl,_,(cL.o.reframe _).own rfl,cJ.o⟩
 ·have H_hst:=Lh aQ
  have H_hE:=Lh hE
  clear aQ hE
  have aL:=Lh aP
  clear aP aV
  have aE:=aL.o
  unfold Ya at aE
  have cY:¬aA=1:=ω
  have ne2:¬aA=2:=ω
  have ne3:¬aA=3:=ω
  have ne4:¬aA=4:=ω
  have cZ:¬aA=5:=ω
  have dA:¬aA=6:=ω
  have dB:¬aA=7:=ω
  have dC:¬aA=8:=ω
  have dD:¬aA=9:=ω
  have bN:¬aA=10:=ω
  have bO:¬aA=11:=ω
  have bP:¬aA=12:=ω
  have bQ:¬aA=13:=ω
  have bR:¬aA=14:=ω
  have bS:¬aA=26:=ω
  have bT:¬aA=29:=ω
  have bU:¬aA=30:=ω
  have bV:¬aA=31:=ω
  clear aE
  have cG:l.length<1000000:=by have:=congrArg List.length H_hst.o;simp at this;omega
  have aU:Hid (Xk W4.drew bm fb cap (cur.setIfInBounds (fs.length*4+1) (ι ((p:Int)+1))) cs fs { f with pc:=(p:Int)+1 } lv sv { m with idle:=m.idle+1 } Fi Fl Fs):=H4.o.keep (Xh Br 1)
  have aI:Hid (Xp (bm::fb::(Fi++(Fl++Fs))) (bm::fb::(Fi++(Fl++Fs))) w W4.drew):=bZ.o.trans (Xp.of_below (Xh Br 1))
  go_upto_region 8 with fail
  go_region_with (first|(go_at_call 196;refine (Xdf aA aL.o fa (some (π b o)) fn fc funcs.length gc g aU.o ω l u v H_hst.o hu hv hc).mono ?_;rintro e w5 aY;obtain ⟨rfl,hF⟩|⟨rfl,cur5,sv5,Fs5,hT5,hM5⟩:(e=.returned (ι 0)/\Hid False)\/Vg (X0 (Yb aA u v)) _ bm fb cap cs fs _ lv _ Fi Fl _ e w5:=.inr (aY.no H_hE.o);rotate_left;(refine ⟨rfl,?_⟩;rw [HP.o];exact ⟨rfl,_,(hT5.reframe _).own rfl,aI.o.trans hM5⟩);have j0:w5.cell? (π w.heap.size 0)=some (σ fa fn fc):=hF.o.elim;have j1:w5.cell? (π w.heap.size 1)=some (ι g):=hF.o.elim;have j2:w5.cell? (π w.heap.size 2)=some (σ (some (π b o)) funcs.length gc):=hF.o.elim;have j3:w5.cell? (π w.heap.size 3)=some (.pointer (some (π bm 0))):=hF.o.elim)|(go_at_call 144;refine (show Calls Tryz.prog 144 _ _ (fun e _=>e=.returned (.tuple #[])) from hF.o.elim).mono ?_;rintro e w6 rfl))
  all_goals exact hF.o.elim
