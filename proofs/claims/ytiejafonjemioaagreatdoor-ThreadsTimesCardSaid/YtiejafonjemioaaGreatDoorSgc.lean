import Derived.Test.YtiejafonjemioaaGreatDoorStep0
set_option maxHeartbeats 8000000
set_option maxRecDepth 100000
set_option linter.unusedVariables false
set_option linter.unusedSimpArgs false
open Go.Value renaming slice→σ
open Go.Obj renaming cells→χ
namespace Go.Proofs.YtiejafonjemioaaGreatDoor
open Go.RowKit
theorem Xbs {w:World} {bm fb cap:Nat} {cur:Array Value} {cs:List Value} {fs:List Fra} {f:Fra} {lv sv:Value} {m:Mch} {Fi Fl Fs:List Nat} (fa ga:Option Addr) (fn fc gc:Nat) (g:Int) (h:Xk w bm fb cap cur cs fs f lv sv m Fi Fl Fs) (hn:fs.length<200)
  (B:Nat) (hB:∀ b∈bm::fb::(Fi++(Fl++Fs)),B<=b) (funcs:List Fun) (hfl:funcs.length<=1000000) (hfs:Xf B w 5 (Zl B) (σ ga funcs.length gc) funcs) (k:Nat) (hk:f.fn=k) (y:Fun) (hy:funcs[k]?=some y) (p:Nat) (hp:f.pc=p) (x:Ins) (hx:y.code[p]?=some x) (hcl:y.code.length<=1000000)
  (hid:0<=m.idle/\m.idle<100000) (o:Out)
  (hcs:((x.op=3)/\∃ (i:Nat),(x.a=i)/\(i<f.locals.length)/\∃ (l:List Int),∃ (v:Int),(f.stack=l++[v])/\(in64 v)/\(f.locals.length<=1000)/\o=.go { m with idle:=m.idle+1,frames:=fs++[{ f with pc:=f.pc+1,locals:=f.locals.set i v,stack:=l }] })\/((x.op=14)/\(f.stack.length<1000000)/\∃ (l:List Int),∃ (v:Int),(f.stack=l++[v])/\(-1099511627776<=v/\v<=1099511627776)/\o=.go { m with idle:=m.idle+1,frames:=fs++[{ f with pc:=f.pc+1,stack:=l++[-v] }] })\/((x.op=26)/\(f.stack.length<1000000)/\∃ (l:List Int),∃ (v:Int),(f.stack=l++[v])/\o=.go { m with idle:=m.idle+1,frames:=fs++[{ f with pc:=f.pc+1,stack:=l++[b2i (v == 0)] }] })\/((x.op=29)/\(f.stack.length<1000000)/\∃ (l:List Int),∃ (v:Int),(f.stack=l++[v])/\(-1099511627776<=v/\v<=1099511627776)/\o=.go { m with idle:=m.idle+1,frames:=fs++[{ f with pc:=f.pc+1,stack:=l++[(Lib.bitLen (max 1 v).toNat:Int) - 1] }] })) :
  Calls Tryz.prog 170 #[Yw (σ fa fn fc) (σ ga funcs.length gc) g bm] w (Km w bm (bm::fb::(Fi++(Fl++Fs))) o):=by
 have aX:=Lh hcs
 clear hcs
 have dO:=Lh hfs
 have HK:=Lh hk
 have HP:=Lh hp
 clear hk hp
 obtain ⟨a0,bL,cM,dX,dY,dZ,hE⟩:=hfs
 obtain ⟨rfl,rfl⟩:ga=a0/\gc=bL:=by simpa using cM
 have dW:k<funcs.length:=(Ll hy)
 rcases hE with h0|⟨b,o,rfl,cZ,hE⟩
 ·rw [h0] at hy;simp at hy
 have bM:=Lh (hE k y hy)
 obtain ⟨yv,q4,dI⟩:=bM.o.2.2.2.2.1
 obtain ⟨ya,dM,rfl,dJ,dK,dL,bG⟩:=dI
 have eB:p<y.code.length:=(Ll hx)
 rcases bG with h0|⟨yb,yo,rfl,bE,bG⟩
 ·rw [h0] at hx;simp at hx
 obtain ⟨i0,i1,bT,bC⟩:=bG p x hx
 obtain ⟨aW,xa⟩:=x
 dsimp only at i0 i1 bT bC
 obtain ⟨WA,bB⟩:∃ W,W=w.alloc (χ #[σ fa fn fc,ι g,σ (some (π b o)) funcs.length gc,.pointer (some (π bm 0))] 175):=⟨_,rfl⟩
 have aF:Hid (Xo WA w.heap.size [σ fa fn fc,ι g,σ (some (π b o)) funcs.length gc,.pointer (some (π bm 0))]):=by rw [bB];exact Xd
 have aL:Below w.heap.size w WA:=by rw [bB];exact Xa w _
 have cY:WA.heap.size=w.heap.size+1:=by rw [bB];simp
 have H:=Lh h
 have cN:=Lh h.lt
 have HB:=Lh hB
 have aB:w.heap.size∉bm::fb::(Fi++(Fl++Fs)):=fun e=>by have:=cN.o _ e;omega
 obtain ⟨h2,bN⟩:=Kw (m':={ m with idle:=m.idle+1 }) h aL 8 (ι (m.idle+1)) rfl
 obtain ⟨W2,aM⟩:∃ W,W=WA.setCell (π bm 8) (ι (m.idle+1)):=⟨_,rfl⟩
 rw [<-aM] at h2 bN
 have H2:=Lh h2
 have cF:=Lh bN
 have hA:=h.keep aL
 have c8:=hA.cIdle
 have f8:=hA.frm 8
 have k0:=aF.o 0 _ rfl
 have k1:=aF.o 1 _ rfl
 have k2:=aF.o 2 _ rfl
 have k3:=aF.o 3 _ rfl
 have dS:¬w.heap.size=bm:=fun e=>aB (by simp [e])
 have dA:bm<w.heap.size:=h.lt bm ψ
 have dT:fb<w.heap.size:=h.lt fb ψ
 have bK:=Lh aL
 have cD:=Lh i0
 have cE:=Lh i1
 have cH:=Lh q4
 clear h hB cM hE bG h2 bN hA i0 i1 q4 aL
 unfold Yw
 go_enter Tryz.func170,Tryz.ntmps170
 go_upto_region 1 with fail
 rw [<-bB]
 clear bB
 go_upto_region 4 with fail
 rw [<-aM]
 have bO:Hid (Below w.heap.size WA W2->True):=fun _=>trivial
 have k0:W2.cell? (π w.heap.size 0)=some (σ fa fn fc):=by rw [aM];go_simp
 have k1:W2.cell? (π w.heap.size 1)=some (ι g):=by rw [aM];go_simp
 have k2:W2.cell? (π w.heap.size 2)=some (σ (some (π b o)) funcs.length gc):=by rw [aM];go_simp
 have k3:W2.cell? (π w.heap.size 3)=some (.pointer (some (π bm 0))):=by rw [aM];go_simp
 have cU:=Lh aM
 clear aM c8 f8 bO
 go_wp2_with fail
 refine (Kz fa (some (π b o)) fn fc funcs.length gc g H2.o ω).mono ?_
 rintro e w3 ⟨rfl,aT⟩
 have H3:=Lh (H2.o.keep aT)
 have aY:=Lh (cF.o.trans (Xp.of_below aT))
 have dQ:B<=w.heap.size:=Nat.le_of_lt (Nat.lt_of_le_of_lt (HB.o bm ψ) dA)
 have bX:∀ bb,bb<B->bb∉bm::fb::(Fi++(Fl++Fs)):=fun bb hb e=>by have:=HB.o bb e;omega
 have k0:=Xc aT k0
 have k1:=Xc aT k1
 have k2:=Xc aT k2
 have k3:=Xc aT k3
 have i0:=aY.o.cell cD.o (bX _ bE)
 have i1:=aY.o.cell cE.o (bX _ bE)
 have q4:=aY.o.cell cH.o (bX _ cZ)
 have cI:=H3.o.cFn
 have cJ:=H3.o.cPc
 rw [HK.o] at cI
 rw [HP.o] at cJ
 have cV:=H3.o.frf (fs.length*4+1)
 have bY:w.heap.size<w3.heap.size:=Bl k0
 have bS:fb<w3.heap.size:=ω
 have bR:bm<w3.heap.size:=ω
 have dB:(0:Int)<=(k:Int):=In _
 have dC:(k:Int)<(funcs.length:Int):=ω
 have dU:(0:Int)<=(p:Int):=In _
 have dV:(p:Int)<(y.code.length:Int):=ω
 have cA:=Bl i0
 have bQ:=Bl q4
 clear aT
 go_wp2_with fail
 go_region
 go_upto_region 7 with fail
 obtain ⟨h4,cK⟩:=K9 H3.o ((p:Int)+1) ⟨ω,ω⟩
 obtain ⟨W4,aK⟩:∃ W,W=((w3.setCell ⟨fb,fs.length*4+1,(none)⟩ (ι ((p:Int)+1))).alloc (χ #[ι aW,ι xa] 124)).drew:=⟨_,rfl⟩
 have bP:Below (w3.setCell ⟨fb,fs.length*4+1,(none)⟩ (ι ((p:Int)+1))).heap.size (w3.setCell ⟨fb,fs.length*4+1,(none)⟩ (ι ((p:Int)+1))) W4:=by rw [aK];exact Xh (Xa _ _) 1
 have H4:=Lh (h4.keep bP)
 have bF:=Lh ((aY.o.trans cK).trans (Xp.of_below bP))
 have d0:W4.cell? (π w3.heap.size 0)=some (ι aW):=by rw [aK];go_simp
 have d1:W4.cell? (π w3.heap.size 1)=some (ι xa):=by rw [aK];go_simp
 have dH:¬w.heap.size=fb:=fun e=>aB (by simp [e])
 have k0:W4.cell? ⟨w.heap.size,0,(none)⟩=some (σ fa fn fc):=by rw [aK];go_simp
 have k1:W4.cell? ⟨w.heap.size,1,(none)⟩=some (ι g):=by rw [aK];go_simp
 have k2:W4.cell? ⟨w.heap.size,2,(none)⟩=some (σ (some ⟨b,o,(none)⟩) funcs.length gc):=by rw [aK];go_simp
 have k3:W4.cell? ⟨w.heap.size,3,(none)⟩=some (.pointer (some ⟨bm,0,(none)⟩)):=by rw [aK];go_simp
 have bH:w3.heap.size<W4.heap.size:=Bl d0
 have aN:w3.heap.size∉bm::fb::(Fi++(Fl++Fs)):=fun e=>by have:=cN.o _ e;omega
 have eA:=H.o.nodup
 rw [<-aK]
 obtain ⟨ib,bU⟩:∃ ib,ib=w3.heap.size:=⟨_,rfl⟩
 rw [<-bU]
 rw [<-bU] at d0 d1 bH aN
 have aU:w.heap.size<W4.heap.size:=ω
 have dD:w.heap.size<ib:=ω
 have dN:=Lh bM.o
 clear aK bU H3 aY H2 cF cU bP h4 cK i0 i1 q4 cI cJ cV bS bR cA bQ bY cD cE cH aF bK cY bM
 rcases aX.o with ⟨aH,i,ha,hi,l,v,aJ,bZ,aV,rfl⟩|⟨aH,cQ,l,v,aJ,hv,rfl⟩|⟨aH,cQ,l,v,aJ,rfl⟩|⟨aH,cQ,l,v,aJ,hv,rfl⟩
 ·have H_ha:=Lh ha
  have H_hi:=Lh hi
  have H_hst:=Lh aJ
  clear ha hi aJ
  have aQ:=Lh aH
  clear aH aX
  obtain rfl:xa=i:=H_ha.o
  obtain rfl:aW=3:=aQ.o
  have dE:=H_hi.o
  have cS:=Lh H_hst.o
  obtain ⟨n,cP⟩:∃ n,f.locals[i]?=some n:=⟨_,Lg dE⟩
  have cG:=Lh cP
  clear cP
  obtain ⟨lb,cB,cO,cW,dF,dG⟩:=H4.o.loc.form (by show 0<f.locals.length;omega)
  dsimp only at cO cW dF
  subst cO
  have aO:Hid (Xk W4.drew bm fb cap (cur.setIfInBounds (fs.length*4+1) (ι ((p:Int)+1))) cs fs { f with pc:=(p:Int)+1 } (σ (some (π lb 0)) f.locals.length cB) sv { m with idle:=m.idle+1 } Fi Fl Fs):=H4.o.keep (Xh Br 1)
  have aD:Hid (Xp (bm::fb::(Fi++(Fl++Fs))) (bm::fb::(Fi++(Fl++Fs))) w W4.drew):=bF.o.trans (Xp.of_below (Xh Br 1))
  have cLv:=H4.o.cLv
  have cL:=H4.o.loc.cellAt cG.o
  have fL:=H4.o.loc.1.frozenAt i
  have dB:(0:Int)<=(i:Int):=In _
  have dC:(i:Int)<(f.locals.length:Int):=ω
  go_upto_region 14 with fail
  go_region_with (first|(go_at_call 188;refine (X9 fa (some (π b o)) fn fc funcs.length gc g aO.o ω l v cS.o).mono ?_;rintro e w5 ⟨rfl,aS,cC,bI,aE,aC⟩;have j0:=aC.cell (show W4.drew.cell? _=_ from k0) aB;have j1:=aC.cell (show W4.drew.cell? _=_ from k1) aB;have j2:=aC.cell (show W4.drew.cell? _=_ from k2) aB;have j3:=aC.cell (show W4.drew.cell? _=_ from k3) aB;have j4:=aC.cell (show W4.drew.cell? _=_ from d1) aN;have eE:=aE.cLv;have jL:=aE.loc.cellAt cG.o;have dP:=aE.loc.1.frozenAt i;have aR:=Lh aE;have aP:=Lh (aD.o.trans aC);clear aE aC))
  all_goals (go_wp2_with fail)
  all_goals go_end0
  all_goals (rw [HP.o];obtain ⟨h6,cX⟩:=Xko aR.o i v bZ;exact ⟨rfl,_,(h6.reframe _).own rfl,aP.o.trans cX⟩)
 ·have H_hst:=Lh aJ
  clear aJ
  have aQ:=Lh aH
  clear aH aX
  obtain rfl:aW=14:=aQ.o
  have aV:l.length<1000000:=by have:=congrArg List.length H_hst.o;simp at this;omega
  have aI:in64 (-v):=⟨ω,ω⟩
  have bD:X1 (-v)=true:=by unfold X1;simp;omega
  have bJ:=Lh bD
  clear bD
  have hw:IntKind.i64.wrap (-v) = -v:=by rw [IntKind.wrap_i64];omega
  have aO:Hid (Xk W4.drew bm fb cap (cur.setIfInBounds (fs.length*4+1) (ι ((p:Int)+1))) cs fs { f with pc:=(p:Int)+1 } lv sv { m with idle:=m.idle+1 } Fi Fl Fs):=H4.o.keep (Xh Br 1)
  have aD:Hid (Xp (bm::fb::(Fi++(Fl++Fs))) (bm::fb::(Fi++(Fl++Fs))) w W4.drew):=bF.o.trans (Xp.of_below (Xh Br 1))
  go_upto_region 41 with fail
  go_region_held3 (fun W=>W.cell? (π w.heap.size 0)=some (σ fa fn fc)/\W.cell? (π w.heap.size 1)=some (ι g)/\W.cell? (π w.heap.size 2)=some (σ (some (π b o)) funcs.length gc)/\W.cell? (π w.heap.size 3)=some (.pointer (some (π bm 0)))/\W.cell? (π ib 1)=some (ι xa))
   (first|exact ⟨k0,k1,k2,k3,d1⟩|exact ⟨p0,p1,p2,p3,p4⟩|exact ⟨q0,q1,q2,q3,q4⟩|exact ⟨j0,j1,j2,j3,j4⟩)
   (first|(go_at_call 188;refine (X9 fa (some (π b o)) fn fc funcs.length gc g aO.o ω l v H_hst.o).mono ?_;rintro e w5 ⟨rfl,aS,cC,bI,aE,aC⟩;have j0:=aC.cell (show W4.drew.cell? _=_ from k0) aB;have j1:=aC.cell (show W4.drew.cell? _=_ from k1) aB;have j2:=aC.cell (show W4.drew.cell? _=_ from k2) aB;have j3:=aC.cell (show W4.drew.cell? _=_ from k3) aB;have j4:=aC.cell (show W4.drew.cell? _=_ from d1) aN;have aA:=aC.notin (by exact aU) aB;have aG:=aC.notin (by exact bH) aN;have aR:=Lh aE;have aP:=Lh (aD.o.trans aC);clear aE aC)|(go_at_call 193;refine (Vx fa (some (π b o)) fn fc funcs.length gc g bm (-v) _ bJ.o).mono ?_;rintro e w6 ⟨rfl,hb6⟩;have q0:=Xc hb6 j0;have q1:=Xc hb6 j1;have q2:=Xc hb6 j2;have q3:=Xc hb6 j3;have q4:=Xc hb6 j4;have cT:=Lh (aR.o.keep hb6);have cR:=Lh (aP.o.trans (Xp.of_below hb6));clear hb6)|(go_at_call 144;refine (Qt fa (some (π b o)) fn fc funcs.length gc g cT.o ω (-v) ?_ ?_).mono ?_;(exact aI);(exact aV);rintro e w7 ⟨rfl,cur7,sv7,Fs7,hT7,hM7⟩;have p0:=hM7.cell q0 aA;have p1:=hM7.cell q1 aA;have p2:=hM7.cell q2 aA;have p3:=hM7.cell q3 aA;have p4:=hM7.cell q4 aG;have bA:=Lh hT7;have aZ:=Lh (cR.o.trans hM7);clear hT7 hM7))
  go_wp2_with fail
  go_end0
  rw [HP.o]
  exact ⟨rfl,_,(bA.o.reframe _).own rfl,aZ.o⟩
 ·have H_hst:=Lh aJ
  clear aJ
  have aQ:=Lh aH
  clear aH aX
  obtain rfl:aW=26:=aQ.o
  have aV:l.length<1000000:=by have:=congrArg List.length H_hst.o;simp at this;omega
  have aI:in64 (b2i (v == 0)):=by unfold b2i;split<;>exact ⟨δ,δ⟩
  have aO:Hid (Xk W4.drew bm fb cap (cur.setIfInBounds (fs.length*4+1) (ι ((p:Int)+1))) cs fs { f with pc:=(p:Int)+1 } lv sv { m with idle:=m.idle+1 } Fi Fl Fs):=H4.o.keep (Xh Br 1)
  have aD:Hid (Xp (bm::fb::(Fi++(Fl++Fs))) (bm::fb::(Fi++(Fl++Fs))) w W4.drew):=bF.o.trans (Xp.of_below (Xh Br 1))
  go_upto_region 43 with fail
  go_region_held3 (fun W=>W.cell? (π w.heap.size 0)=some (σ fa fn fc)/\W.cell? (π w.heap.size 1)=some (ι g)/\W.cell? (π w.heap.size 2)=some (σ (some (π b o)) funcs.length gc)/\W.cell? (π w.heap.size 3)=some (.pointer (some (π bm 0)))/\W.cell? (π ib 1)=some (ι xa))
   (first|exact ⟨k0,k1,k2,k3,d1⟩|exact ⟨p0,p1,p2,p3,p4⟩|exact ⟨q0,q1,q2,q3,q4⟩|exact ⟨j0,j1,j2,j3,j4⟩)
   (first|(go_at_call 188;refine (X9 fa (some (π b o)) fn fc funcs.length gc g aO.o ω l v H_hst.o).mono ?_;rintro e w5 ⟨rfl,aS,cC,bI,aE,aC⟩;have j0:=aC.cell (show W4.drew.cell? _=_ from k0) aB;have j1:=aC.cell (show W4.drew.cell? _=_ from k1) aB;have j2:=aC.cell (show W4.drew.cell? _=_ from k2) aB;have j3:=aC.cell (show W4.drew.cell? _=_ from k3) aB;have j4:=aC.cell (show W4.drew.cell? _=_ from d1) aN;have aA:=aC.notin (by exact aU) aB;have aG:=aC.notin (by exact bH) aN;have aR:=Lh aE;have aP:=Lh (aD.o.trans aC);clear aE aC)|(go_at_call 194;refine (Ka (v == 0) _).mono ?_;rintro e w6 ⟨rfl,rfl⟩)|(go_at_call 144;refine (Qt fa (some (π b o)) fn fc funcs.length gc g aR.o ω (b2i (v == 0)) ?_ ?_).mono ?_;(exact aI);(exact aV);rintro e w7 ⟨rfl,cur7,sv7,Fs7,hT7,hM7⟩;have p0:=hM7.cell j0 aA;have p1:=hM7.cell j1 aA;have p2:=hM7.cell j2 aA;have p3:=hM7.cell j3 aA;have p4:=hM7.cell j4 aG;have bA:=Lh hT7;have aZ:=Lh (aP.o.trans hM7);clear hT7 hM7))
  go_wp2_with fail
  go_end0
  rw [HP.o]
  exact ⟨rfl,_,(bA.o.reframe _).own rfl,aZ.o⟩
 ·have H_hst:=Lh aJ
  clear aJ
  have aQ:=Lh aH
  clear aH aX
  obtain rfl:aW=29:=aQ.o
  have aV:l.length<1000000:=by have:=congrArg List.length H_hst.o;simp at this;omega
  have dR:Lib.bitLen (max 1 v).toNat<=64:=K2 64 _
  have aI:in64 ((Lib.bitLen (max 1 v).toNat:Int) - 1):=⟨ω,ω⟩
  have bV:0<=max 1 v:=ω
  have bW:max 1 v<=18446744073709551615:=ω
  have eD:IntKind.u64.wrap (max 1 v)=max 1 v:=by rw [IntKind.wrap_u64];omega
  have eC:IntKind.i64.wrap ((Lib.bitLen (max 1 v).toNat:Int) - 1)=(Lib.bitLen (max 1 v).toNat:Int) - 1:=by rw [IntKind.wrap_i64];omega
  have aO:Hid (Xk W4.drew bm fb cap (cur.setIfInBounds (fs.length*4+1) (ι ((p:Int)+1))) cs fs { f with pc:=(p:Int)+1 } lv sv { m with idle:=m.idle+1 } Fi Fl Fs):=H4.o.keep (Xh Br 1)
  have aD:Hid (Xp (bm::fb::(Fi++(Fl++Fs))) (bm::fb::(Fi++(Fl++Fs))) w W4.drew):=bF.o.trans (Xp.of_below (Xh Br 1))
  go_upto_region 45 with fail
  go_region_held3 (fun W=>W.cell? (π w.heap.size 0)=some (σ fa fn fc)/\W.cell? (π w.heap.size 1)=some (ι g)/\W.cell? (π w.heap.size 2)=some (σ (some (π b o)) funcs.length gc)/\W.cell? (π w.heap.size 3)=some (.pointer (some (π bm 0)))/\W.cell? (π ib 1)=some (ι xa))
   (first|exact ⟨k0,k1,k2,k3,d1⟩|exact ⟨p0,p1,p2,p3,p4⟩|exact ⟨q0,q1,q2,q3,q4⟩|exact ⟨j0,j1,j2,j3,j4⟩)
   (first|(go_at_call 188;refine (X9 fa (some (π b o)) fn fc funcs.length gc g aO.o ω l v H_hst.o).mono ?_;rintro e w5 ⟨rfl,aS,cC,bI,aE,aC⟩;have j0:=aC.cell (show W4.drew.cell? _=_ from k0) aB;have j1:=aC.cell (show W4.drew.cell? _=_ from k1) aB;have j2:=aC.cell (show W4.drew.cell? _=_ from k2) aB;have j3:=aC.cell (show W4.drew.cell? _=_ from k3) aB;have j4:=aC.cell (show W4.drew.cell? _=_ from d1) aN;have aA:=aC.notin (by exact aU) aB;have aG:=aC.notin (by exact bH) aN;have aR:=Lh aE;have aP:=Lh (aD.o.trans aC);clear aE aC)|(go_at_call 195;refine (Tryz.bits_Len (max 1 v) _ bV bW).mono ?_;rintro e w6 ⟨rfl,rfl⟩)|(go_at_call 144;refine (Qt fa (some (π b o)) fn fc funcs.length gc g aR.o ω ((Lib.bitLen (max 1 v).toNat:Int) - 1) ?_ ?_).mono ?_;(exact aI);(exact aV);rintro e w7 ⟨rfl,cur7,sv7,Fs7,hT7,hM7⟩;have p0:=hM7.cell j0 aA;have p1:=hM7.cell j1 aA;have p2:=hM7.cell j2 aA;have p3:=hM7.cell j3 aA;have p4:=hM7.cell j4 aG;have bA:=Lh hT7;have aZ:=Lh (aP.o.trans hM7);clear hT7 hM7))
  go_wp2_with fail
  go_end0
  rw [HP.o]
  exact ⟨rfl,_,(bA.o.reframe _).own rfl,aZ.o⟩
