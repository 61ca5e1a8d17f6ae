import Derived.Test.YtiejafonjemioaaGreatDoorStep0
set_option maxHeartbeats 8000000
set_option maxRecDepth 100000
set_option linter.unusedVariables false
set_option linter.unusedSimpArgs false
open Go.Value renaming slice→σ
open Go.Obj renaming cells→χ
namespace Go.Proofs.YtiejafonjemioaaGreatDoor
open Go.RowKit
theorem Kk {w:World} {bm fb cap:Nat} {cur:Array Value} {cs:List Value} {fs:List Fra} {f:Fra} {lv sv:Value} {m:Mch} {Fi Fl Fs:List Nat} (fa ga:Option Addr) (fn fc gc:Nat) (g:Int) (h:Xk w bm fb cap cur cs fs f lv sv m Fi Fl Fs) (hn:fs.length<200)
  (B:Nat) (hB:∀ b∈bm::fb::(Fi++(Fl++Fs)),B<=b) (funcs:List Fun) (hfl:funcs.length<=1000000) (hfs:Xf B w 5 (Zl B) (σ ga funcs.length gc) funcs) (k:Nat) (hk:f.fn=k) (y:Fun) (hy:funcs[k]?=some y) (p:Nat) (hp:f.pc=p) (x:Ins) (hx:y.code[p]?=some x) (hcl:y.code.length<=1000000)
  (hid:0<=m.idle/\m.idle<100000) (o:Out)
  (hcs:((x.op=31)/\(f.stack.length<999999)/\∃ (l:List Int),∃ (v:Int),(f.stack=l++[v])/\(in64 v)/\o=.go { m with idle:=m.idle+1,frames:=fs++[{ f with pc:=f.pc+1,stack:=l++[v]++[v] }] })\/((x.op=13)/\(m.fuel=0)/\o=.stop (X0 20) { m with idle:=m.idle+1,frames:=fs++[{ f with pc:=f.pc+1 }] })\/((x.op=13)/\(¬m.fuel=0)/\(0<=m.fuel/\m.fuel<=9223372036854775807)/\o=.go { m with fuel:=m.fuel - 1,idle:=0,frames:=fs++[{ f with pc:=f.pc+1 }] })\/((x.op=9)/\∃ (c:Nat),(x.a=c)/\∃ (z:Fun),(funcs[c]?=some z)/\∃ (l args:List Int),(f.stack=l++args)/\(z.params=args.length)/\∃ (q:Nat),(z.locals=args.length+q)/\(args.length+q<=100)/\(∀ n∈f.stack,in64 n)/\(fs.length+1<200)/\o=.go { m with idle:=m.idle+1,frames:=fs++[{ f with pc:=f.pc+1,stack:=l }]++[⟨c,0,args++List.replicate q 0,[]⟩] })\/((x.op=9)/\∃ (c:Nat),(x.a=c)/\∃ (z:Fun),(funcs[c]?=some z)/\∃ (l args:List Int),(f.stack=l++args)/\(z.params=args.length)/\∃ (q:Nat),(z.locals=args.length+q)/\(args.length+q<=100)/\(∀ n∈f.stack,in64 n)/\(¬fs.length+1<200)/\o=.stop (X0 19) { m with idle:=m.idle+1,frames:=fs++[{ f with pc:=f.pc+1,stack:=l }] })\/((x.op=10)/\∃ (v:Int),(f.stack=if y.result then [v] else [])/\(y.result=false->v=0)/\(in64 v)/\(∀ f∈fs,f.stack.length<1000000)/\(fs=[])/\o=.stop (Jc v) { m with idle:=m.idle+1,frames:=[] })\/((x.op=10)/\∃ (v:Int),(f.stack=if y.result then [v] else [])/\(y.result=false->v=0)/\(in64 v)/\(∀ f∈fs,f.stack.length<1000000)/\∃ (aX:List Fra),∃ (f':Fra),(fs=aX++[f'])/\o=.go { m with idle:=m.idle+1,frames:=aX++[Xll f' y.result v] })\/((x.op=2)/\∃ (i:Nat),(x.a=i)/\∃ (n:Int),(f.locals[i]?=some n)/\(in64 n)/\(f.stack.length<1000000)/\(f.locals.length<=1000)/\o=.go { m with idle:=m.idle+1,frames:=fs++[{ f with pc:=f.pc+1,stack:=f.stack++[n] }] })) :
  Calls Tryz.prog 170 #[Yw (σ fa fn fc) (σ ga funcs.length gc) g bm] w (Km w bm (bm::fb::(Fi++(Fl++Fs))) o):=by
 have aL:=Lh hcs
 clear hcs
 have bH:=Lh hfs
 have HK:=Lh hk
 have HP:=Lh hp
 clear hk hp
 obtain ⟨a0,bR,cZ,eU,eV,eW,hE⟩:=hfs
 obtain ⟨rfl,rfl⟩:ga=a0/\gc=bR:=by simpa using cZ
 have eT:k<funcs.length:=(Ll hy)
 rcases hE with h0|⟨b,o,rfl,dR,hE⟩
 ·rw [h0] at hy;simp at hy
 have bS:=Lh (hE k y hy)
 obtain ⟨yv,q4,eD⟩:=bS.o.2.2.2.2.1
 obtain ⟨ya,eI,rfl,eE,eF,eG,bJ⟩:=eD
 have eY:p<y.code.length:=(Ll hx)
 rcases bJ with h0|⟨yb,yo,rfl,bF,bJ⟩
 ·rw [h0] at hx;simp at hx
 obtain ⟨i0,i1,cA,bC⟩:=bJ p x hx
 obtain ⟨aK,xa⟩:=x
 dsimp only at i0 i1 cA bC
 obtain ⟨WA,bA⟩:∃ W,W=w.alloc (χ #[σ fa fn fc,ι g,σ (some (π b o)) funcs.length gc,.pointer (some (π bm 0))] 175):=⟨_,rfl⟩
 have aJ:Hid (Xo WA w.heap.size [σ fa fn fc,ι g,σ (some (π b o)) funcs.length gc,.pointer (some (π bm 0))]):=by rw [bA];exact Xd
 have aP:Below w.heap.size w WA:=by rw [bA];exact Xa w _
 have dQ:WA.heap.size=w.heap.size+1:=by rw [bA];simp
 have H:=Lh h
 have dC:=Lh h.lt
 have HB:=Lh hB
 have aB:w.heap.size∉bm::fb::(Fi++(Fl++Fs)):=fun e=>by have:=dC.o _ e;omega
 obtain ⟨h2,bT⟩:=Kw (m':={ m with idle:=m.idle+1 }) h aP 8 (ι (m.idle+1)) rfl
 obtain ⟨W2,aQ⟩:∃ W,W=WA.setCell (π bm 8) (ι (m.idle+1)):=⟨_,rfl⟩
 rw [<-aQ] at h2 bT
 have H2:=Lh h2
 have cO:=Lh bT
 have hA:=h.keep aP
 have c8:=hA.cIdle
 have f8:=hA.frm 8
 have k0:=aJ.o 0 _ rfl
 have k1:=aJ.o 1 _ rfl
 have k2:=aJ.o 2 _ rfl
 have k3:=aJ.o 3 _ rfl
 have eN:¬w.heap.size=bm:=fun e=>aB (by simp [e])
 have dS:bm<w.heap.size:=h.lt bm ψ
 have eP:fb<w.heap.size:=h.lt fb ψ
 have bQ:=Lh aP
 have cM:=Lh i0
 have cN:=Lh i1
 have cP:=Lh q4
 clear h hB cZ hE bJ h2 bT hA i0 i1 q4 aP
 unfold Yw
 go_enter Tryz.func170,Tryz.ntmps170
 go_upto_region 1 with fail
 rw [<-bA]
 clear bA
 go_upto_region 4 with fail
 rw [<-aQ]
 have bU:Hid (Below w.heap.size WA W2->True):=fun _=>trivial
 have k0:W2.cell? (π w.heap.size 0)=some (σ fa fn fc):=by rw [aQ];go_simp
 have k1:W2.cell? (π w.heap.size 1)=some (ι g):=by rw [aQ];go_simp
 have k2:W2.cell? (π w.heap.size 2)=some (σ (some (π b o)) funcs.length gc):=by rw [aQ];go_simp
 have k3:W2.cell? (π w.heap.size 3)=some (.pointer (some (π bm 0))):=by rw [aQ];go_simp
 have dL:=Lh aQ
 clear aQ c8 f8 bU
 go_wp2_with fail
 refine (Kz fa (some (π b o)) fn fc funcs.length gc g H2.o ω).mono ?_
 rintro e w3 ⟨rfl,aV⟩
 have H3:=Lh (H2.o.keep aV)
 have aY:=Lh (cO.o.trans (Xp.of_below aV))
 have bI:B<=w.heap.size:=Nat.le_of_lt (Nat.lt_of_le_of_lt (HB.o bm ψ) dS)
 have cD:∀ bb,bb<B->bb∉bm::fb::(Fi++(Fl++Fs)):=fun bb hb e=>by have:=HB.o bb e;omega
 have k0:=Xc aV k0
 have k1:=Xc aV k1
 have k2:=Xc aV k2
 have k3:=Xc aV k3
 have i0:=aY.o.cell cM.o (cD _ bF)
 have i1:=aY.o.cell cN.o (cD _ bF)
 have q4:=aY.o.cell cP.o (cD _ dR)
 have cQ:=H3.o.cFn
 have cR:=H3.o.cPc
 rw [HK.o] at cQ
 rw [HP.o] at cR
 have dO:=H3.o.frf (fs.length*4+1)
 have cF:w.heap.size<w3.heap.size:=Bl k0
 have bZ:fb<w3.heap.size:=ω
 have bX:bm<w3.heap.size:=ω
 have dV:(0:Int)<=(k:Int):=In _
 have dW:(k:Int)<(funcs.length:Int):=ω
 have eR:(0:Int)<=(p:Int):=In _
 have eS:(p:Int)<(y.code.length:Int):=ω
 have cI:=Bl i0
 have bW:=Bl q4
 clear aV
 go_wp2_with fail
 go_region
 go_upto_region 7 with fail
 obtain ⟨h4,cT⟩:=K9 H3.o ((p:Int)+1) ⟨ω,ω⟩
 obtain ⟨W4,aO⟩:∃ W,W=((w3.setCell ⟨fb,fs.length*4+1,(none)⟩ (ι ((p:Int)+1))).alloc (χ #[ι aK,ι xa] 124)).drew:=⟨_,rfl⟩
 have bV:Below (w3.setCell ⟨fb,fs.length*4+1,(none)⟩ (ι ((p:Int)+1))).heap.size (w3.setCell ⟨fb,fs.length*4+1,(none)⟩ (ι ((p:Int)+1))) W4:=by rw [aO];exact Xh (Xa _ _) 1
 have H4:=Lh (h4.keep bV)
 have aH:=Lh ((aY.o.trans cT).trans (Xp.of_below bV))
 have d0:W4.cell? (π w3.heap.size 0)=some (ι aK):=by rw [aO];go_simp
 have d1:W4.cell? (π w3.heap.size 1)=some (ι xa):=by rw [aO];go_simp
 have eB:¬w.heap.size=fb:=fun e=>aB (by simp [e])
 have k0:W4.cell? ⟨w.heap.size,0,(none)⟩=some (σ fa fn fc):=by rw [aO];go_simp
 have k1:W4.cell? ⟨w.heap.size,1,(none)⟩=some (ι g):=by rw [aO];go_simp
 have k2:W4.cell? ⟨w.heap.size,2,(none)⟩=some (σ (some ⟨b,o,(none)⟩) funcs.length gc):=by rw [aO];go_simp
 have k3:W4.cell? ⟨w.heap.size,3,(none)⟩=some (.pointer (some ⟨bm,0,(none)⟩)):=by rw [aO];go_simp
 have cY:w3.heap.size<W4.heap.size:=Bl d0
 have bK:w3.heap.size∉bm::fb::(Fi++(Fl++Fs)):=fun e=>by have:=dC.o _ e;omega
 have eX:=H.o.nodup
 rw [<-aO]
 obtain ⟨ib,cB⟩:∃ ib,ib=w3.heap.size:=⟨_,rfl⟩
 rw [<-cB]
 rw [<-cB] at d0 d1 cY bK
 have cG:w.heap.size<W4.heap.size:=ω
 have dX:w.heap.size<ib:=ω
 have eL:=Lh bS.o
 clear aO cB H3 aY H2 cO dL bV h4 cT i0 i1 q4 cQ cR dO bZ bX cI bW cF cM cN cP aJ bQ dQ bS
 rcases aL.o with ⟨aC,aR,l,v,aG,bE,rfl⟩|⟨aC,bL,rfl⟩|⟨aC,bL,eO,rfl⟩|⟨aC,c,ha,z,hz,l,args,aG,bD,q,hq,cE,aM,hd,rfl⟩|⟨aC,c,ha,z,hz,l,args,aG,bD,q,hq,cE,aM,hd,rfl⟩|⟨aC,v,aG,hv,aM,aR,hd,rfl⟩|⟨aC,v,aG,hv,aM,aR,aX,f',hd,rfl⟩|⟨aC,i,ha,n,hi,cC,aR,eA,rfl⟩
 ·have aF:=Lh aC
  clear aC aL
  obtain rfl:aK=31:=aF.o
  have eA:l.length<999999:=by have:=congrArg List.length aG;simp at this;omega
  have dI:=Lh aG
  clear aG
  go_wp2_with fail
  refine (X9 fa (some (π b o)) fn fc funcs.length gc g H4.o ω l v dI.o).mono ?_
  rintro e w5 ⟨rfl,aZ,dF,cK,aN,aA⟩
  have k0:=aA.cell k0 aB
  have k1:=aA.cell k1 aB
  have k2:=aA.cell k2 aB
  have k3:=aA.cell k3 aB
  have d1:=aA.cell d1 bK
  have aD:=aA.notin cG aB
  have bB:=aA.notin cY bK
  have cH:w.heap.size<w5.heap.size:=Bl k0
  have bY:ib<w5.heap.size:=Bl d1
  have bP:=Lh aN
  have aS:=Lh (aH.o.trans aA)
  clear aN aA
  go_wp2_with fail
  refine (Qt fa (some (π b o)) fn fc funcs.length gc g bP.o ω v bE (by show l.length<_;omega)).mono ?_
  rintro e w6 ⟨rfl,dM,eZ,eJ,cV,aI⟩
  have k0:=aI.cell k0 aD
  have k1:=aI.cell k1 aD
  have k2:=aI.cell k2 aD
  have k3:=aI.cell k3 aD
  have d1:=aI.cell d1 bB
  have dE:=aI.notin cH aD
  have dT:=aI.notin bY bB
  have eC:w.heap.size<w6.heap.size:=Bl k0
  have dU:ib<w6.heap.size:=Bl d1
  have dJ:=Lh cV
  have bN:=Lh (aS.o.trans aI)
  clear cV aI
  go_wp2_with fail
  refine (Qt fa (some (π b o)) fn fc funcs.length gc g dJ.o ω v bE (by show (l++[v]).length<_;simp;omega)).mono ?_
  rintro e w7 ⟨rfl,dN,fA,eK,cW,cU⟩
  have dK:=Lh cW
  have dH:=Lh (bN.o.trans cU)
  clear cW cU
  go_wp2_with fail
  go_end0
  rw [HP.o]
  exact ⟨rfl,_,(dK.o.reframe _).own rfl,dH.o⟩
 ·have aF:=Lh aC
  clear aC aL
  obtain rfl:aK=13:=aF.o
  have c6:=H4.o.cFuel
  dsimp only at c6
  rw [bL] at c6
  have eM:=Lh bL
  clear bL
  go_wp2_with fail
  refine (Jx fa (some (π b o)) fn fc funcs.length gc g bm 20 _).mono ?_
  rintro e w5 ⟨rfl,cX⟩
  refine ⟨rfl,?_⟩
  rw [HP.o]
  exact ⟨rfl,_,((H4.o.keep cX).reframe _).own rfl,aH.o.trans (Xp.of_below cX)⟩
 ·have aF:=Lh aC
  clear aC aL
  obtain rfl:aK=13:=aF.o
  have c6:=H4.o.cFuel
  have f6:=H4.o.frm 6
  have f8:=H4.o.frm 8
  have c8:=H4.o.cIdle
  dsimp only at c6 c8
  obtain ⟨h5,aA⟩:=Kw (m':={ m with idle:=m.idle+1,fuel:=m.fuel - 1 }) H4.o Br 6 (ι (m.fuel - 1)) rfl
  obtain ⟨h6,aI⟩:=Kw (m':={ m with idle:=0,fuel:=m.fuel - 1 }) h5 Br 8 (ι 0) rfl
  have H6:=Lh h6
  have bN:=Lh ((aH.o.trans aA).trans aI)
  clear h5 aA h6 aI
  go_wp2_with fail
  go_end0
  rw [HP.o]
  exact ⟨rfl,_,(H6.o.reframe _).own rfl,bN.o⟩
 ·have H_ha:=Lh ha
  have H_hst:=Lh aG
  have H_hpz:=Lh bD
  have H_hq:=Lh hq
  have H_h64:=Lh aM
  have H_hz:=Lh hz
  have H_hd:=Lh hd
  clear ha aG bD hq aM hz hd
  have aF:=Lh aC
  clear aC aL
  obtain rfl:xa=c:=H_ha.o
  obtain rfl:aK=9:=aF.o
  have aT:∀ bb∈bm::fb::(Fi++(Fl++Fs)),B<=bb:=HB.o
  have aE:=Lh (bH.o.funs (aH.o.below HB.o bI))
  clear aT
  go_wp2_with fail
  refine (Xh8 fa (some (π b o)) fn fc gc g (H4.o.reframe (fs++[{ f with pc:=(p:Int)+1 }])) hn B HB.o funcs hfl aE.o c z H_hz.o l args H_hst.o H_hpz.o q H_hq.o cE H_h64.o rfl).mono ?_
  rintro e w5 hC
  rcases hC with ⟨-,rfl,F5,aU,aA⟩|⟨aW,-⟩
  ·have bO:=Lh aU
   have aS:=Lh (aH.o.trans aA)
   clear aU aA
   go_wp2_with fail
   go_end0
   rw [HP.o]
   exact ⟨rfl,F5,bO.o,aS.o⟩
  ·exact absurd H_hd.o aW
 ·have H_ha:=Lh ha
  have H_hst:=Lh aG
  have H_hpz:=Lh bD
  have H_hq:=Lh hq
  have H_h64:=Lh aM
  have H_hz:=Lh hz
  have H_hd:=Lh hd
  clear ha aG bD hq aM hz hd
  have aF:=Lh aC
  clear aC aL
  obtain rfl:xa=c:=H_ha.o
  obtain rfl:aK=9:=aF.o
  have aT:∀ bb∈bm::fb::(Fi++(Fl++Fs)),B<=bb:=HB.o
  have aE:=Lh (bH.o.funs (aH.o.below HB.o bI))
  clear aT
  go_wp2_with fail
  refine (Xh8 fa (some (π b o)) fn fc gc g (H4.o.reframe (fs++[{ f with pc:=(p:Int)+1 }])) hn B HB.o funcs hfl aE.o c z H_hz.o l args H_hst.o H_hpz.o q H_hq.o cE H_h64.o rfl).mono ?_
  rintro e w5 hC
  rcases hC with ⟨cJ,-⟩|⟨-,rfl,aZ,dF,cK,aN,aA⟩
  ·exact absurd cJ H_hd.o
  ·refine ⟨rfl,?_⟩
   rw [HP.o]
   exact ⟨rfl,_,(aN.reframe _).own rfl,aH.o.trans aA⟩
 ·have H_hst:=Lh aG
  have H_hv:=Lh hv
  have H_hsl:=Lh aR
  have H_hd:=Lh hd
  clear aG hv aR hd
  have aF:=Lh aC
  clear aC aL
  obtain rfl:aK=10:=aF.o
  have aT:∀ bb∈bm::fb::(Fi++(Fl++Fs)),B<=bb:=HB.o
  have aE:=Lh (bH.o.funs (aH.o.below HB.o bI))
  have HY:=Lh hy
  clear hy aT
  go_wp2_with fail
  refine (Xhw fa (some (π b o)) fn fc gc g H4.o hn B HB.o funcs aE.o k HK.o y HY.o v H_hst.o H_hv.o aM H_hsl.o).mono ?_
  rintro e w5 hC
  rcases hC with ⟨-,rfl,F5,aU,aA⟩|⟨aX,f',aW,-⟩
  ·refine ⟨rfl,?_⟩
   exact ⟨rfl,F5,aU,aH.o.trans aA⟩
  ·rw [H_hd.o] at aW;simp at aW
 ·have H_hst:=Lh aG
  have H_hv:=Lh hv
  have H_hsl:=Lh aR
  have H_hd:=Lh hd
  clear aG hv aR hd
  have aF:=Lh aC
  clear aC aL
  obtain rfl:aK=10:=aF.o
  have aT:∀ bb∈bm::fb::(Fi++(Fl++Fs)),B<=bb:=HB.o
  have aE:=Lh (bH.o.funs (aH.o.below HB.o bI))
  have HY:=Lh hy
  clear hy aT
  go_wp2_with fail
  refine (Xhw fa (some (π b o)) fn fc gc g H4.o hn B HB.o funcs aE.o k HK.o y HY.o v H_hst.o H_hv.o aM H_hsl.o).mono ?_
  rintro e w5 hC
  rcases hC with ⟨aW,-⟩|⟨cS,f2,dA,rfl,F5,aU,aA⟩
  ·rw [H_hd.o] at aW;simp at aW
  ·have dB:aX++[f']=cS++[f2]:=by rw [<-H_hd.o,dA]
   obtain ⟨rfl,rfl⟩:aX=cS/\f'=f2:=by simpa using List.append_inj' dB rfl
   have bO:=Lh aU
   have aS:=Lh (aH.o.trans aA)
   clear aU aA dA dB
   go_wp2_with fail
   go_end0
   exact ⟨rfl,F5,bO.o,aS.o⟩
 ·have H_ha:=Lh ha
  have H_hi:=Lh hi
  clear ha hi
  have aF:=Lh aC
  clear aC aL
  obtain rfl:xa=i:=H_ha.o
  obtain rfl:aK=2:=aF.o
  have eQ:i<f.locals.length:=(Ll H_hi.o)
  obtain ⟨lb,bG,dD,dP,dY,dZ⟩:=H4.o.loc.form (by show 0<f.locals.length;omega)
  dsimp only at dD dP dY
  subst dD
  have dG:Hid (Xk W4.drew bm fb cap (cur.setIfInBounds (fs.length*4+1) (ι ((p:Int)+1))) cs fs { f with pc:=(p:Int)+1 } (σ (some (π lb 0)) f.locals.length bG) sv { m with idle:=m.idle+1 } Fi Fl Fs):=H4.o.keep (Xh Br 1)
  have bM:Hid (Xp (bm::fb::(Fi++(Fl++Fs))) (bm::fb::(Fi++(Fl++Fs))) w W4.drew):=aH.o.trans (Xp.of_below (Xh Br 1))
  have cLv:=H4.o.cLv
  have cL:=H4.o.loc.cellAt H_hi.o
  have dV:(0:Int)<=(i:Int):=In _
  have dW:(i:Int)<(f.locals.length:Int):=ω
  go_upto_region 12 with fail
  go_region_held3 (fun W=>W.cell? (π w.heap.size 0)=some (σ fa fn fc)/\W.cell? (π w.heap.size 1)=some (ι g)/\W.cell? (π w.heap.size 2)=some (σ (some (π b o)) funcs.length gc)/\W.cell? (π w.heap.size 3)=some (.pointer (some (π bm 0)))/\W.cell? (π ib 1)=some (ι (i:Int))/\W.cell? (π fb (fs.length*4+2))=some (σ (some (π lb 0)) f.locals.length bG)/\W.cell? (π lb i)=some (ι n))
   (first|exact ⟨k0,k1,k2,k3,d1,cLv,cL⟩|exact ⟨j0,j1,j2,j3,j4,eH,jL⟩)
   (first|(go_at_call 144;refine (Qt fa (some (π b o)) fn fc funcs.length gc g dG.o ω n cC aR).mono ?_;rintro e w5 ⟨rfl,aZ,dF,cK,aN,aA⟩;have j0:=aA.cell (show W4.drew.cell? _=_ from k0) aB;have j1:=aA.cell (show W4.drew.cell? _=_ from k1) aB;have j2:=aA.cell (show W4.drew.cell? _=_ from k2) aB;have j3:=aA.cell (show W4.drew.cell? _=_ from k3) aB;have j4:=aA.cell (show W4.drew.cell? _=_ from d1) bK;have eH:=aN.cLv;have jL:=aN.loc.cellAt H_hi.o;have bP:=Lh aN;have aS:=Lh (bM.o.trans aA);clear aN aA))
  go_wp2_with fail
  go_end0
  rw [HP.o]
  exact ⟨rfl,_,(bP.o.reframe _).own rfl,aS.o⟩
