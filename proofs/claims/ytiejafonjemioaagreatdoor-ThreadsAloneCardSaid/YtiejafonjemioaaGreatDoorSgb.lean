import Derived.Test.YtiejafonjemioaaGreatDoorStep0
import Derived.Deep.RegionHeld3
import Derived.Deep.RegionWith
set_option maxHeartbeats 8000000
set_option maxRecDepth 100000
set_option linter.unusedVariables false
set_option linter.unusedSimpArgs false
namespace Go.Proofs.YtiejafonjemioaaGreatDoor
open Go.RowKit
theorem Kk {w:World} {bm fb cap:Nat} {cur:Array Value} {cs:List Value} {fs:List Fra} {f:Fra} {lv sv:Value} {m:Mch} {Fi Fl Fs:List Nat} (fa ga:Option Addr) (fn fc gc:Nat) (g:Int) (h:Xk w bm fb cap cur cs fs f lv sv m Fi Fl Fs) (hn:fs.length<200)
  (B:Nat) (hB:∀ b∈bm::fb::(Fi++(Fl++Fs)),B≤b) (funcs:List Fun) (hfl:funcs.length≤1000000) (hfs:Xf B w 5 (Zl B) (.slice ga funcs.length gc) funcs) (k:Nat) (hk:f.fn=k) (y:Fun) (hy:funcs[k]?=some y) (p:Nat) (hp:f.pc=p) (x:Ins) (hx:y.code[p]?=some x) (hcl:y.code.length≤1000000)
  (hid:0≤m.idle∧m.idle<100000) (o:Out)
  (hcs:((x.op=31)∧(f.stack.length<999999)∧∃ (l:List Int),∃ (v:Int),(f.stack=l++[v])∧(in64 v)∧o=.go { m with idle:=m.idle+1,frames:=fs++[{ f with pc:=f.pc+1,stack:=l++[v]++[v] }] })∨((x.op=13)∧(m.fuel=0)∧o=.stop (X0 20) { m with idle:=m.idle+1,frames:=fs++[{ f with pc:=f.pc+1 }] })∨((x.op=13)∧(¬m.fuel=0)∧(0≤m.fuel∧m.fuel≤9223372036854775807)∧o=.go { m with fuel:=m.fuel - 1,idle:=0,frames:=fs++[{ f with pc:=f.pc+1 }] })∨((x.op=9)∧∃ (c:Nat),(x.a=c)∧∃ (z:Fun),(funcs[c]?=some z)∧∃ (l args:List Int),(f.stack=l++args)∧(z.params=args.length)∧∃ (q:Nat),(z.locals=args.length+q)∧(args.length+q≤100)∧(∀ n∈f.stack,in64 n)∧(fs.length+1<200)∧o=.go { m with idle:=m.idle+1,frames:=fs++[{ f with pc:=f.pc+1,stack:=l }]++[⟨c,0,args++List.replicate q 0,[]⟩] })∨((x.op=9)∧∃ (c:Nat),(x.a=c)∧∃ (z:Fun),(funcs[c]?=some z)∧∃ (l args:List Int),(f.stack=l++args)∧(z.params=args.length)∧∃ (q:Nat),(z.locals=args.length+q)∧(args.length+q≤100)∧(∀ n∈f.stack,in64 n)∧(¬fs.length+1<200)∧o=.stop (X0 19) { m with idle:=m.idle+1,frames:=fs++[{ f with pc:=f.pc+1,stack:=l }] })∨((x.op=10)∧∃ (v:Int),(f.stack=if y.result then [v] else [])∧(y.result=false→v=0)∧(in64 v)∧(∀ f∈fs,f.stack.length<1000000)∧(fs=[])∧o=.stop (Jc v) { m with idle:=m.idle+1,frames:=[] })∨((x.op=10)∧∃ (v:Int),(f.stack=if y.result then [v] else [])∧(y.result=false→v=0)∧(in64 v)∧(∀ f∈fs,f.stack.length<1000000)∧∃ (aX:List Fra),∃ (f':Fra),(fs=aX++[f'])∧o=.go { m with idle:=m.idle+1,frames:=aX++[Xll f' y.result v] })∨((x.op=2)∧∃ (i:Nat),(x.a=i)∧∃ (n:Int),(f.locals[i]?=some n)∧(in64 n)∧(f.stack.length<1000000)∧(f.locals.length≤1000)∧o=.go { m with idle:=m.idle+1,frames:=fs++[{ f with pc:=f.pc+1,stack:=f.stack++[n] }] })) :
  Calls Tryz.prog 170 #[Yw (.slice fa fn fc) (.slice ga funcs.length gc) g bm] w (Km w bm (bm::fb::(Fi++(Fl++Fs))) o):=by
 have aL:=Lh hcs
 clear hcs
 have bH:=Lh hfs
 have HK:=Lh hk
 have HP:=Lh hp
 clear hk hp
 obtain ⟨a0,bR,cZ,eU,eV,eW,hE⟩:=hfs
 obtain ⟨rfl,rfl⟩:ga=a0∧gc=bR:=by simpa using cZ
 have eT:k<funcs.length:=(Ll hy)
 rcases hE with h0|⟨b,o,rfl,dR,hE⟩
 ·rw [h0] at hy;simp at hy
 have bS:=Lh (hE k y hy)
 obtain ⟨yv,q4,eD⟩:=bS.out.2.2.2.2.1
 obtain ⟨ya,eI,rfl,eE,eF,eG,bJ⟩:=eD
 have eY:p<y.code.length:=(Ll hx)
 rcases bJ with h0|⟨yb,yo,rfl,bF,bJ⟩
 ·rw [h0] at hx;simp at hx
 obtain ⟨i0,i1,cA,bC⟩:=bJ p x hx
 obtain ⟨aK,xa⟩:=x
 dsimp only at i0 i1 cA bC
 obtain ⟨WA,bA⟩:∃ W,W=w.alloc (.cells #[.slice fa fn fc,.int .i64 g,.slice (some ⟨b,o,none⟩) funcs.length gc,.pointer (some ⟨bm,0,none⟩)] 175):=⟨_,rfl⟩
 have aJ:Hid (Xo WA w.heap.size [.slice fa fn fc,.int .i64 g,.slice (some ⟨b,o,none⟩) funcs.length gc,.pointer (some ⟨bm,0,none⟩)]):=by rw [bA];exact Xd
 have aP:Below w.heap.size w WA:=by rw [bA];exact Xa w _
 have dQ:WA.heap.size=w.heap.size+1:=by rw [bA];simp
 have H:=Lh h
 have dC:=Lh h.lt
 have HB:=Lh hB
 have aB:w.heap.size∉bm::fb::(Fi++(Fl++Fs)):=fun e=>by have:=dC.out _ e;omega
 obtain ⟨h2,bT⟩:=Kw (m':={ m with idle:=m.idle+1 }) h aP 8 (.int .i64 (m.idle+1)) rfl
 obtain ⟨W2,aQ⟩:∃ W,W=WA.setCell ⟨bm,8,none⟩ (.int .i64 (m.idle+1)):=⟨_,rfl⟩
 rw [←aQ] at h2 bT
 have H2:=Lh h2
 have cO:=Lh bT
 have hA:=h.keep aP
 have c8:=hA.cIdle
 have f8:=hA.frm 8
 have k0:=aJ.out 0 _ rfl
 have k1:=aJ.out 1 _ rfl
 have k2:=aJ.out 2 _ rfl
 have k3:=aJ.out 3 _ rfl
 have eN:¬w.heap.size=bm:=fun e=>aB (by simp [e])
 have dS:bm<w.heap.size:=h.lt bm (by simp)
 have eP:fb<w.heap.size:=h.lt fb (by simp)
 have bQ:=Lh aP
 have cM:=Lh i0
 have cN:=Lh i1
 have cP:=Lh q4
 clear h hB cZ hE bJ h2 bT hA i0 i1 q4 aP
 unfold Yw
 go_enter Tryz.func170,Tryz.ntmps170
 go_upto_region 1 with fail
 rw [←bA]
 clear bA
 go_upto_region 4 with fail
 rw [←aQ]
 have bU:Hid (Below w.heap.size WA W2→True):=fun _=>trivial
 have k0:W2.cell? ⟨w.heap.size,0,none⟩=some (.slice fa fn fc):=by rw [aQ];go_simp
 have k1:W2.cell? ⟨w.heap.size,1,none⟩=some (.int .i64 g):=by rw [aQ];go_simp
 have k2:W2.cell? ⟨w.heap.size,2,none⟩=some (.slice (some ⟨b,o,none⟩) funcs.length gc):=by rw [aQ];go_simp
 have k3:W2.cell? ⟨w.heap.size,3,none⟩=some (.pointer (some ⟨bm,0,none⟩)):=by rw [aQ];go_simp
 have dL:=Lh aQ
 clear aQ c8 f8 bU
 go_wp2_with fail
 refine (Kz fa (some ⟨b,o,none⟩) fn fc funcs.length gc g H2.out (by omega)).mono ?_
 rintro e w3 ⟨rfl,aV⟩
 have H3:=Lh (H2.out.keep aV)
 have aY:=Lh (cO.out.trans (Xp.of_below aV))
 have bI:B≤w.heap.size:=Nat.le_of_lt (Nat.lt_of_le_of_lt (HB.out bm (by simp)) dS)
 have cD:∀ bb,bb<B→bb∉bm::fb::(Fi++(Fl++Fs)):=fun bb hb e=>by have:=HB.out bb e;omega
 have k0:=Xc aV k0
 have k1:=Xc aV k1
 have k2:=Xc aV k2
 have k3:=Xc aV k3
 have i0:=aY.out.cell cM.out (cD _ bF)
 have i1:=aY.out.cell cN.out (cD _ bF)
 have q4:=aY.out.cell cP.out (cD _ dR)
 have cQ:=H3.out.cFn
 have cR:=H3.out.cPc
 rw [HK.out] at cQ
 rw [HP.out] at cR
 have dO:=H3.out.frf (fs.length*4+1)
 have cF:w.heap.size<w3.heap.size:=Bl k0
 have bZ:fb<w3.heap.size:=by omega
 have bX:bm<w3.heap.size:=by omega
 have dV:(0:Int)≤(k:Int):=In _
 have dW:(k:Int)<(funcs.length:Int):=by omega
 have eR:(0:Int)≤(p:Int):=In _
 have eS:(p:Int)<(y.code.length:Int):=by omega
 have cI:=Bl i0
 have bW:=Bl q4
 clear aV
 go_wp2_with fail
 go_region
 go_upto_region 7 with fail
 obtain ⟨h4,cT⟩:=K9 H3.out ((p:Int)+1) ⟨by omega,by omega⟩
 obtain ⟨W4,aO⟩:∃ W,W=((w3.setCell ⟨fb,fs.length*4+1,none⟩ (.int .i64 ((p:Int)+1))).alloc (.cells #[.int .i64 aK,.int .i64 xa] 124)).drew:=⟨_,rfl⟩
 have bV:Below (w3.setCell ⟨fb,fs.length*4+1,none⟩ (.int .i64 ((p:Int)+1))).heap.size (w3.setCell ⟨fb,fs.length*4+1,none⟩ (.int .i64 ((p:Int)+1))) W4:=by rw [aO];exact Xh (Xa _ _) 1
 have H4:=Lh (h4.keep bV)
 have aH:=Lh ((aY.out.trans cT).trans (Xp.of_below bV))
 have d0:W4.cell? ⟨w3.heap.size,0,none⟩=some (.int .i64 aK):=by rw [aO];go_simp
 have d1:W4.cell? ⟨w3.heap.size,1,none⟩=some (.int .i64 xa):=by rw [aO];go_simp
 have eB:¬w.heap.size=fb:=fun e=>aB (by simp [e])
 have k0:W4.cell? ⟨w.heap.size,0,none⟩=some (.slice fa fn fc):=by rw [aO];go_simp
 have k1:W4.cell? ⟨w.heap.size,1,none⟩=some (.int .i64 g):=by rw [aO];go_simp
 have k2:W4.cell? ⟨w.heap.size,2,none⟩=some (.slice (some ⟨b,o,none⟩) funcs.length gc):=by rw [aO];go_simp
 have k3:W4.cell? ⟨w.heap.size,3,none⟩=some (.pointer (some ⟨bm,0,none⟩)):=by rw [aO];go_simp
 have cY:w3.heap.size<W4.heap.size:=Bl d0
 have bK:w3.heap.size∉bm::fb::(Fi++(Fl++Fs)):=fun e=>by have:=dC.out _ e;omega
 have eX:=H.out.nodup
 rw [←aO]
 obtain ⟨ib,cB⟩:∃ ib,ib=w3.heap.size:=⟨_,rfl⟩
 rw [←cB]
 rw [←cB] at d0 d1 cY bK
 have cG:w.heap.size<W4.heap.size:=by omega
 have dX:w.heap.size<ib:=by omega
 have eL:=Lh bS.out
 clear aO cB H3 aY H2 cO dL bV h4 cT i0 i1 q4 cQ cR dO bZ bX cI bW cF cM cN cP aJ bQ dQ bS
 rcases aL.out with ⟨aC,aR,l,v,aG,bE,rfl⟩|⟨aC,bL,rfl⟩|⟨aC,bL,eO,rfl⟩|⟨aC,c,ha,z,hz,l,args,aG,bD,q,hq,cE,aM,hd,rfl⟩|⟨aC,c,ha,z,hz,l,args,aG,bD,q,hq,cE,aM,hd,rfl⟩|⟨aC,v,aG,hv,aM,aR,hd,rfl⟩|⟨aC,v,aG,hv,aM,aR,aX,f',hd,rfl⟩|⟨aC,i,ha,n,hi,cC,aR,eA,rfl⟩
 ·have aF:=Lh aC
  clear aC aL
  obtain rfl:aK=31:=aF.out
  have eA:l.length<999999:=by have:=congrArg List.length aG;simp at this;omega
  have dI:=Lh aG
  clear aG
  go_wp2_with fail
  refine (X9 fa (some ⟨b,o,none⟩) fn fc funcs.length gc g H4.out (by omega) l v dI.out).mono ?_
  rintro e w5 ⟨rfl,aZ,dF,cK,aN,aA⟩
  have k0:=aA.cell k0 aB
  have k1:=aA.cell k1 aB
  have k2:=aA.cell k2 aB
  have k3:=aA.cell k3 aB
  have d1:=aA.cell d1 bK
  have aD:=aA.notin cG aB
  have bB:=aA.notin cY bK
  have cH:w.heap.size<w5.heap.size:=Bl k0
  have bY:ib<w5.heap.size:=Bl d1
  have bP:=Lh aN
  have aS:=Lh (aH.out.trans aA)
  clear aN aA
  go_wp2_with fail
  refine (Qt fa (some ⟨b,o,none⟩) fn fc funcs.length gc g bP.out (by omega) v bE (by show l.length<_;omega)).mono ?_
  rintro e w6 ⟨rfl,dM,eZ,eJ,cV,aI⟩
  have k0:=aI.cell k0 aD
  have k1:=aI.cell k1 aD
  have k2:=aI.cell k2 aD
  have k3:=aI.cell k3 aD
  have d1:=aI.cell d1 bB
  have dE:=aI.notin cH aD
  have dT:=aI.notin bY bB
  have eC:w.heap.size<w6.heap.size:=Bl k0
  have dU:ib<w6.heap.size:=Bl d1
  have dJ:=Lh cV
  have bN:=Lh (aS.out.trans aI)
  clear cV aI
  go_wp2_with fail
  refine (Qt fa (some ⟨b,o,none⟩) fn fc funcs.length gc g dJ.out (by omega) v bE (by show (l++[v]).length<_;simp;omega)).mono ?_
  rintro e w7 ⟨rfl,dN,fA,eK,cW,cU⟩
  have dK:=Lh cW
  have dH:=Lh (bN.out.trans cU)
  clear cW cU
  go_wp2_with fail
  go_end0
  rw [HP.out]
  exact ⟨rfl,_,(dK.out.reframe _).own rfl,dH.out⟩
 ·have aF:=Lh aC
  clear aC aL
  obtain rfl:aK=13:=aF.out
  have c6:=H4.out.cFuel
  dsimp only at c6
  rw [bL] at c6
  have eM:=Lh bL
  clear bL
  go_wp2_with fail
  refine (Jx fa (some ⟨b,o,none⟩) fn fc funcs.length gc g bm 20 _).mono ?_
  rintro e w5 ⟨rfl,cX⟩
  refine ⟨rfl,?_⟩
  rw [HP.out]
  exact ⟨rfl,_,((H4.out.keep cX).reframe _).own rfl,aH.out.trans (Xp.of_below cX)⟩
 ·have aF:=Lh aC
  clear aC aL
  obtain rfl:aK=13:=aF.out
  have c6:=H4.out.cFuel
  have f6:=H4.out.frm 6
  have f8:=H4.out.frm 8
  have c8:=H4.out.cIdle
  dsimp only at c6 c8
  obtain ⟨h5,aA⟩:=Kw (m':={ m with idle:=m.idle+1,fuel:=m.fuel - 1 }) H4.out Br 6 (.int .i64 (m.fuel - 1)) rfl
  obtain ⟨h6,aI⟩:=Kw (m':={ m with idle:=0,fuel:=m.fuel - 1 }) h5 Br 8 (.int .i64 0) rfl
  have H6:=Lh h6
  have bN:=Lh ((aH.out.trans aA).trans aI)
  clear h5 aA h6 aI
  go_wp2_with fail
  go_end0
  rw [HP.out]
  exact ⟨rfl,_,(H6.out.reframe _).own rfl,bN.out⟩
 ·have H_ha:=Lh ha
  have H_hst:=Lh aG
  have H_hpz:=Lh bD
  have H_hq:=Lh hq
  have H_h64:=Lh aM
  have H_hz:=Lh hz
  have H_hd:=Lh hd
  clear ha aG bD hq aM hz hd
  have aF:=Lh aC
  clear aC aL
  obtain rfl:xa=c:=H_ha.out
  obtain rfl:aK=9:=aF.out
  have aT:∀ bb∈bm::fb::(Fi++(Fl++Fs)),B≤bb:=HB.out
  have aE:=Lh (bH.out.funs (aH.out.below HB.out bI))
  clear aT
  go_wp2_with fail
  refine (Xh8 fa (some ⟨b,o,none⟩) fn fc gc g (H4.out.reframe (fs++[{ f with pc:=(p:Int)+1 }])) hn B HB.out funcs hfl aE.out c z H_hz.out l args H_hst.out H_hpz.out q H_hq.out cE H_h64.out rfl).mono ?_
  rintro e w5 hC
  rcases hC with ⟨-,rfl,F5,aU,aA⟩|⟨aW,-⟩
  ·have bO:=Lh aU
   have aS:=Lh (aH.out.trans aA)
   clear aU aA
   go_wp2_with fail
   go_end0
   rw [HP.out]
   exact ⟨rfl,F5,bO.out,aS.out⟩
  ·exact absurd H_hd.out aW
 ·have H_ha:=Lh ha
  have H_hst:=Lh aG
  have H_hpz:=Lh bD
  have H_hq:=Lh hq
  have H_h64:=Lh aM
  have H_hz:=Lh hz
  have H_hd:=Lh hd
  clear ha aG bD hq aM hz hd
  have aF:=Lh aC
  clear aC aL
  obtain rfl:xa=c:=H_ha.out
  obtain rfl:aK=9:=aF.out
  have aT:∀ bb∈bm::fb::(Fi++(Fl++Fs)),B≤bb:=HB.out
  have aE:=Lh (bH.out.funs (aH.out.below HB.out bI))
  clear aT
  go_wp2_with fail
  refine (Xh8 fa (some ⟨b,o,none⟩) fn fc gc g (H4.out.reframe (fs++[{ f with pc:=(p:Int)+1 }])) hn B HB.out funcs hfl aE.out c z H_hz.out l args H_hst.out H_hpz.out q H_hq.out cE H_h64.out rfl).mono ?_
  rintro e w5 hC
  rcases hC with ⟨cJ,-⟩|⟨-,rfl,aZ,dF,cK,aN,aA⟩
  ·exact absurd cJ H_hd.out
  ·refine ⟨rfl,?_⟩
   rw [HP.out]
   exact ⟨rfl,_,(aN.reframe _).own rfl,aH.out.trans aA⟩
 ·have H_hst:=Lh aG
  have H_hv:=Lh hv
  have H_hsl:=Lh aR
  have H_hd:=Lh hd
  clear aG hv aR hd
  have aF:=Lh aC
  clear aC aL
  obtain rfl:aK=10:=aF.out
  have aT:∀ bb∈bm::fb::(Fi++(Fl++Fs)),B≤bb:=HB.out
  have aE:=Lh (bH.out.funs (aH.out.below HB.out bI))
  have HY:=Lh hy
  clear hy aT
  go_wp2_with fail
  refine (Xhw fa (some ⟨b,o,none⟩) fn fc gc g H4.out hn B HB.out funcs aE.out k HK.out y HY.out v H_hst.out H_hv.out aM H_hsl.out).mono ?_
  rintro e w5 hC
  rcases hC with ⟨-,rfl,F5,aU,aA⟩|⟨aX,f',aW,-⟩
  ·refine ⟨rfl,?_⟩
   exact ⟨rfl,F5,aU,aH.out.trans aA⟩
  ·rw [H_hd.out] at aW;simp at aW
 ·have H_hst:=Lh aG
  have H_hv:=Lh hv
  have H_hsl:=Lh aR
  have H_hd:=Lh hd
  clear aG hv aR hd
  have aF:=Lh aC
  clear aC aL
  obtain rfl:aK=10:=aF.out
  have aT:∀ bb∈bm::fb::(Fi++(Fl++Fs)),B≤bb:=HB.out
  have aE:=Lh (bH.out.funs (aH.out.below HB.out bI))
  have HY:=Lh hy
  clear hy aT
  go_wp2_with fail
  refine (Xhw fa (some ⟨b,o,none⟩) fn fc gc g H4.out hn B HB.out funcs aE.out k HK.out y HY.out v H_hst.out H_hv.out aM H_hsl.out).mono ?_
  rintro e w5 hC
  rcases hC with ⟨aW,-⟩|⟨cS,f2,dA,rfl,F5,aU,aA⟩
  ·rw [H_hd.out] at aW;simp at aW
  ·have dB:aX++[f']=cS++[f2]:=by rw [←H_hd.out,dA]
   obtain ⟨rfl,rfl⟩:aX=cS∧f'=f2:=by simpa using List.append_inj' dB rfl
   have bO:=Lh aU
   have aS:=Lh (aH.out.trans aA)
   clear aU aA dA dB
   go_wp2_with fail
   go_end0
   exact ⟨rfl,F5,bO.out,aS.out⟩
 ·have H_ha:=Lh ha
  have H_hi:=Lh hi
  clear ha hi
  have aF:=Lh aC
  clear aC aL
  obtain rfl:xa=i:=H_ha.out
  obtain rfl:aK=2:=aF.out
  have eQ:i<f.locals.length:=(Ll H_hi.out)
  obtain ⟨lb,bG,dD,dP,dY,dZ⟩:=H4.out.loc.form (by show 0<f.locals.length;omega)
  dsimp only at dD dP dY
  subst dD
  have dG:Hid (Xk W4.drew bm fb cap (cur.setIfInBounds (fs.length*4+1) (.int .i64 ((p:Int)+1))) cs fs { f with pc:=(p:Int)+1 } (.slice (some ⟨lb,0,none⟩) f.locals.length bG) sv { m with idle:=m.idle+1 } Fi Fl Fs):=H4.out.keep (Xh Br 1)
  have bM:Hid (Xp (bm::fb::(Fi++(Fl++Fs))) (bm::fb::(Fi++(Fl++Fs))) w W4.drew):=aH.out.trans (Xp.of_below (Xh Br 1))
  have cLv:=H4.out.cLv
  have cL:=H4.out.loc.cellAt H_hi.out
  have dV:(0:Int)≤(i:Int):=In _
  have dW:(i:Int)<(f.locals.length:Int):=by omega
  go_upto_region 12 with fail
  go_region_held3 (fun W=>W.cell? ⟨w.heap.size,0,none⟩=some (.slice fa fn fc)∧W.cell? ⟨w.heap.size,1,none⟩=some (.int .i64 g)∧W.cell? ⟨w.heap.size,2,none⟩=some (.slice (some ⟨b,o,none⟩) funcs.length gc)∧W.cell? ⟨w.heap.size,3,none⟩=some (.pointer (some ⟨bm,0,none⟩))∧W.cell? ⟨ib,1,none⟩=some (.int .i64 (i:Int))∧W.cell? ⟨fb,fs.length*4+2,none⟩=some (.slice (some ⟨lb,0,none⟩) f.locals.length bG)∧W.cell? ⟨lb,i,none⟩=some (.int .i64 n))
   (first|exact ⟨k0,k1,k2,k3,d1,cLv,cL⟩|exact ⟨j0,j1,j2,j3,j4,eH,jL⟩)
   (first|(go_at_call 144;refine (Qt fa (some ⟨b,o,none⟩) fn fc funcs.length gc g dG.out (by omega) n cC aR).mono ?_;rintro e w5 ⟨rfl,aZ,dF,cK,aN,aA⟩;have j0:=aA.cell (show W4.drew.cell? _=_ from k0) aB;have j1:=aA.cell (show W4.drew.cell? _=_ from k1) aB;have j2:=aA.cell (show W4.drew.cell? _=_ from k2) aB;have j3:=aA.cell (show W4.drew.cell? _=_ from k3) aB;have j4:=aA.cell (show W4.drew.cell? _=_ from d1) bK;have eH:=aN.cLv;have jL:=aN.loc.cellAt H_hi.out;have bP:=Lh aN;have aS:=Lh (bM.out.trans aA);clear aN aA))
  go_wp2_with fail
  go_end0
  rw [HP.out]
  exact ⟨rfl,_,(bP.out.reframe _).own rfl,aS.out⟩
