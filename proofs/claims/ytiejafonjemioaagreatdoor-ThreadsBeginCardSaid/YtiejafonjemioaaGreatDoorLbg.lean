import Derived.Test.YtiejafonjemioaaGreatDoorRnw
import Derived.Test.YtiejafonjemioaaGreatDoorRen
import Derived.Test.YtiejafonjemioaaGreatDoorRth
import Derived.Test.YtiejafonjemioaaGreatDoorLwk
import Derived.Test.YtiejafonjemioaaGreatDoorAwy
set_option maxHeartbeats 8000000
set_option maxRecDepth 1000000
set_option linter.unusedVariables false
set_option linter.unusedSimpArgs false
open Go.Value renaming slice→σ
open Go.Obj renaming cells→χ
namespace Go.Proofs.YtiejafonjemioaaGreatDoor
open Go.RowKit
def zeroT:Thr:=⟨⟨[],[]⟩,0,[],[],[],[],[],[],0⟩
noncomputable def newS (c:Cod) (m:Mm) (cs:List (List Cal)) (fuel:Int):Thr:=if Xs9 c m cs fuel=0 then Xtb m fuel cs else zeroT
theorem sl_nil {α:Type} {B:Nat} {w:World} {sz:Nat} {E:World->Nat->Nat->α->Prop}:Xf B w sz E ν ([]:List α):=⟨none,0,rfl,ψ,ψ,ω,.inl rfl⟩
theorem zero_thr (B:Nat) (w:World):Xsd B w (.agg Bz) zeroT:=⟨_,_,_,_,_,_,_,_,rfl,sl_nil,sl_nil,sl_nil,sl_nil,sl_nil,sl_nil,sl_nil,sl_nil,by show in64 0;unfold in64;omega,by show in64 0;unfold in64;omega⟩
theorem newS_lens (c:Cod) (m:Mm) (cs:List (List Cal)) (fuel:Int):(newS c m cs fuel).calls.length=(newS c m cs fuel).running.length/\(newS c m cs fuel).results.length=(newS c m cs fuel).running.length:=by
 unfold newS
 split
 ·simp [Xtb]
 ·simp [zeroT]
theorem new_one {c:Cod} {m:Mm} {cs:List (List Cal)} {fuel:Int} {w:World} {e:Ending} {w':World} (h:Xut c m cs fuel w e w'):Below w.heap.size w w'/\∃ v,e=.returned (.tuple #[v,ι (Xs9 c m cs fuel)])/\Xsd w'.heap.size w' v (newS c m cs fuel):=by
 obtain ⟨hb,⟨h,rfl⟩|⟨h,v,rfl,hv⟩⟩:=h
 ·exact ⟨hb,_,rfl,by unfold newS;rw [if_neg h];exact zero_thr _ _⟩
 ·exact ⟨hb,v,by rw [h],by unfold newS;rw [if_pos h];exact hv⟩
theorem enters_beg1:Zn 16:=fun _ _=>by kernel_rfl
theorem enters_beg2:Zn 18:=fun _ _=>by kernel_rfl
theorem beg1_fn (B:Nat) (w:World):∀ (x:Mch) (w1:World) (av:Value),Below w.heap.size w w1->Xq8 B w1 av x->Calls Tryz.prog 16 (#[av]++#[]) w1 (fun e w2=>e=.returned (.bool (decide (0<x.frames.length)))/\Below w1.heap.size w1 w2):=by
 rintro x w1 av _ ⟨fv,rfl,aA,-⟩
 obtain ⟨a,cap,rfl⟩:=aA.form
 clear aA
 show Calls Tryz.prog 16 #[.agg _] w1 _
 go_enter Tryz.func16,Tryz.ntmps16
 go_wp2
 go_ret
 exact ⟨ψ,Xa _ _⟩
theorem beg2_fn (B:Nat) (w:World):∀ (x:List Cal) (w1:World) (av:Value),Below w.heap.size w w1->Xxk B w1 av x->Calls Tryz.prog 18 (#[av]++#[]) w1 (fun e w2=>e=.returned (.bool (decide (0<x.length)))/\Below w1.heap.size w1 w2):=by
 rintro x w1 av _ hx
 obtain ⟨a,cap,rfl⟩:=Xf.form hx
 clear hx
 show Calls Tryz.prog 18 #[σ a x.length cap] w1 _
 go_enter Tryz.func18,Tryz.ntmps18
 go_wp2
 go_ret
 exact ⟨ψ,Below.refl _ _⟩
theorem threadsBegin_walk (c:Cod) (m:Mm) (cs:List (List Cal)) (fuel:Int) (f64:in64 fuel) (s:Thr) (cv mv lv sv:Value) (w:World) (hL:Qa w) (hc:Yj w.heap.size w cv c) (hm:MmV w.heap.size w mv m) (hl:Xf w.heap.size w 1 (Xsa 2 (Xsr w.heap.size) w.heap.size) lv cs) (hs:Xsd w.heap.size w sv s) :
  Calls Tryz.prog 3 #[cv,mv,lv,ι fuel,sv] w (BoI true w):=by
 have eB:∀ (fn:Fn) (first cap:Array Value) (w:World),(Instr.makeFunc fn first cap).run Tryz.prog w=.ok (.func fn first cap) w:=fun _ _ _ _=>rfl
 obtain ⟨cf,cg,rfl,cR,cS,bJ⟩:=id hc
 obtain ⟨fa,fc,rfl⟩:=cR.form
 obtain ⟨qa,qc,rfl⟩:=cS.form
 obtain ⟨mg,mn,rfl,cW,aR⟩:=id hm
 obtain ⟨va,vc,rfl⟩:=cW.form
 obtain ⟨na,nc,rfl⟩:=aR.form
 obtain ⟨la,lc,rfl⟩:=hl.form
 obtain ⟨ga,gc,ma,mc,ra,rc,ka,kc,ca,cc,oa,oc,ba,bc,ea,ec,rfl⟩:=hs.open_
 have HS:=Lh hs
 have bM:=Lh f64
 obtain ⟨W,hW⟩:∃ W,W=((w.alloc (χ (Bc fa fc qa qc c) 25)).alloc (χ (Bm va vc na nc m) 28)).alloc (χ (Bt ga gc ma mc ra rc ka kc ca cc oa oc ba bc ea ec s) 34):=⟨_,rfl⟩
 have HB:=Lh (nw_open hW hL hc hm hl)
 clear hL hc hm hl cR cS bJ cW aR hs f64
 go_enter Tryz.func3,Tryz.ntmps3
 go_upto_region 1 with fail
 rw [<-hW]
 clear hW
 go_wp2_with fail
 refine (Jl W (HB.o W Br).L).mono ?_
 rintro e w1 ⟨rfl,cJ⟩
 have aS:=Lh cJ
 clear cJ
 go_upto_region 3 with fail
 obtain ⟨⟨c0,c1,c2,zc⟩,⟨m0,m1,zm⟩,-⟩:=HB.o w1 aS.o
 go_wp2_with fail
 refine (X3u c _ w.heap.size w1 (HB.o w1 aS.o).b.size (HB.o w1 aS.o).cod).mono ?_
 rintro e w2 ⟨r1,rfl,cV,cK⟩
 have dW:=Lh cV
 have aN:=Lh (aS.o.then cK)
 clear c0 c1 c2 zc m0 m1 zm cV cK
 cases r1 with
 | false=>
  go_wp2
  go_ret
  exact ⟨rfl,(HB.o w2 aN.o).b⟩
 | true=>
 have bE:Hid (Zb c):=Lh (fun y hy=>by have:=(dW.o rfl).2.2 y hy;omega)
 obtain ⟨-,⟨m0,m1,zm⟩,-⟩:=HB.o w2 aN.o
 go_wp2_with fail
 refine (X03 m _ w.heap.size w2 (HB.o w2 aN.o).b.size (HB.o w2 aN.o).mm).mono ?_
 rintro e w3 ⟨rfl,cL⟩
 have aT:=Lh (aN.o.then cL)
 clear m0 m1 zm cL
 cases aR:Xv1 m with
 | true=>
  go_wp2
  go_ret
  exact ⟨rfl,(HB.o w3 aT.o).b⟩
 | false=>
 have bC:=Lh (X3z aR)
 clear aR
 go_wp2_with fail
 refine (X0v cs _ w.heap.size w3 (HB.o w3 aT.o).b.size (HB.o w3 aT.o).cs).mono ?_
 rintro e w4 ⟨rfl,cM⟩
 have aO:=Lh (aT.o.then cM)
 clear cM
 cases cU:X0f cs with
 | false=>
  go_wp2
  go_ret
  exact ⟨rfl,(HB.o w4 aO.o).b⟩
 | true=>
 have dT:=Lh (X34 cU)
 clear cU
 obtain ⟨⟨x0,x1,x2,x3,x4,x5,x6,x7,x8,x9⟩,-,xz⟩:=ten (HB.o w4 aO.o).t
 go_wp2_with fail
 refine (X3s s _ w.heap.size w4 (HB.o w4 aO.o).b.size (HS.o.below (HB.o w4 aO.o).b)).mono ?_
 rintro e w5 ⟨b5,rfl,cN⟩
 have aU:=Lh (aO.o.then cN)
 clear x0 x1 x2 x3 x4 x5 x6 x7 x8 x9 xz cN
 cases b5 with
 | false=>
  go_wp2
  go_ret
  exact ⟨rfl,(HB.o w5 aU.o).b⟩
 | true=>
 have OK:Hid (X38 m cs):=Lh ⟨by have:=bC.o.1;omega,by have:=bC.o.2.1;omega,fun x hx=>by have:=bC.o.2.2 x hx;omega,fun l hl x hx=>by have:=((dT.o.2 l hl).2 x hx).1;omega⟩
 obtain ⟨er,cT⟩:∃ q,q=Xs9 c m cs fuel:=⟨_,rfl⟩
 obtain ⟨s1,bK⟩:∃ q,q=newS c m cs fuel:=⟨_,rfl⟩
 have bO:Hid (s1.calls.length=s1.running.length/\s1.results.length=s1.running.length):=Lh (by rw [bK];exact newS_lens c m cs fuel)
 have bN:=Lh cT
 have bQ:=Lh bK
 clear cT bK
 obtain ⟨⟨c0,c1,c2,zc⟩,⟨m0,m1,zm⟩,-⟩:=HB.o w5 aU.o
 go_wp2_with fail
 have hq:=HB.o w5 aU.o
 refine (X1o c m cs fuel _ _ _ w5 hq.L (hq.cod.up hq.b.size) (hq.mm.up hq.b.size) (hq.cs.ups (Xvc Xuk) hq.b.size (fun _ _ h=>h)) bM.o OK.o).mono ?_
 rintro e w6 hN
 obtain ⟨cO,v1,rfl,aV⟩:=new_one hN
 rw [<-bN.o]
 rw [<-bQ.o] at aV
 have dP:=Lh (aU.o.then cO)
 clear hN hq cO c0 c1 c2 zc m0 m1 zm
 obtain ⟨cF,cH,dD,dF,dL,dN,cZ,dB,bX,bZ,dH,dJ,bT,bV,cB,cD,rfl⟩:=aV.open_
 have bR:=Lh aV
 clear aV
 obtain ⟨W6,aX⟩:∃ V,V=w6.alloc (χ (Bt cF cH dD dF dL dN cZ dB bX bZ dH dJ bT bV cB cD s1) 34):=⟨_,rfl⟩
 have bF:Hid (Below w6.heap.size w6 W6):=by rw [aX];exact Lh (Xa _ _)
 have bD:Hid (W6.heap[w6.heap.size]?=some (χ (Bt cF cH dD dF dL dN cZ dB bX bZ dH dJ bT bV cB cD s1) 34 (0,0))):=by rw [aX];exact Lh (Hn _ _)
 have bB:=Lh (dP.o.then bF.o)
 go_upto_region 6 with fail
 rw [<-aX]
 clear aX
 obtain ⟨⟨c0,c1,c2,zc⟩,⟨m0,m1,zm⟩,-⟩:=HB.o W6 bB.o
 go_wp2_with fail
 have hq:=HB.o W6 bB.o
 refine (rNew_any c m cs fuel _ _ _ W6 hq.L (hq.cod.up hq.b.size) (hq.mm.up hq.b.size) (hq.cs.ups (Xvc Xuk) hq.b.size (fun _ _ h=>h)) bM.o OK.o).mono ?_
 rintro e w7 hN
 obtain ⟨bH,v2,rfl,aW⟩:=new_one hN
 rw [<-bN.o]
 rw [<-bQ.o] at aW
 have dQ:=Lh (bB.o.then bH)
 have bG:=Lh bH
 clear hN hq bH c0 c1 c2 zc m0 m1 zm
 obtain ⟨cG,cI,dE,dG,dM,dO,dA,dC,bY,cA,dI,dK,bU,bW,cC,cE,rfl⟩:=aW.open_
 have bS:=Lh aW
 clear aW
 obtain ⟨W7,aY⟩:∃ V,V=w7.alloc (χ (Bt cG cI dE dG dM dO dA dC bY cA dI dK bU bW cC cE s1) 34):=⟨_,rfl⟩
 have aL:Hid (Below w7.heap.size w7 W7):=by rw [aY];exact Lh (Xa _ _)
 have bP:Hid (W7.heap[w7.heap.size]?=some (χ (Bt cG cI dE dG dM dO dA dC bY cA dI dK bU bW cC cE s1) 34 (0,0))):=by rw [aY];exact Lh (Hn _ _)
 have dR:=Lh (dQ.o.then aL.o)
 go_upto_region 7 with fail
 rw [<-aY]
 clear aY
 have cY:=((bG.o.then aL.o).block _ (La bD.o)).trans bD.o
 obtain ⟨⟨x0,x1,x2,x3,x4,x5,x6,x7,x8,x9⟩,-,xz⟩:=ten cY
 obtain ⟨⟨y0,y1,y2,y3,y4,y5,y6,y7,y8,y9⟩,-,yz⟩:=ten bP.o
 have dY:(er != er)=false:=by simp
 clear cY
 go_wp2_with fail
 refine (X4i s1 _ _ w6.heap.size w7.heap.size W7 (Nt bF.o.size (Nt bG.o.size aL.o.size)) aL.o.size bO.o.1 bO.o.2 (bR.o.below ((bF.o.then bG.o).then aL.o)) (bS.o.below aL.o)).mono ?_
 rintro e w8 ⟨rfl,cP⟩
 have aH:=Lh (dR.o.then cP)
 clear x0 x1 x2 x3 x4 x5 x6 x7 x8 x9 xz y0 y1 y2 y3 y4 y5 y6 y7 y8 y9 yz cP dY bD bP bR bS
 go_upto_region 9 with fail
 go_cut [15] (fun dZ wx=>dZ=.bool (Xyd s)/\Hid (Below W.heap.size W wx))
 case first=>
  obtain ⟨⟨x0,x1,x2,x3,x4,x5,x6,x7,x8,x9⟩,-,xz⟩:=ten (HB.o w8 aH.o).t
  have hq:=HB.o w8 aH.o
  have HP:=Lh (HS.o.below hq.b).parts
  clear hq
  go_wp2_with fail
  refine (Xtq 16 #[] _ s.running _ w.heap.size w8 enters_beg1 (HB.o w8 aH.o).b.size HP.o.2.2.1 (beg1_fn w.heap.size w8)).mono ?_
  rintro e w9 ⟨rfl,cQ⟩
  have aB:=Lh (aH.o.then cQ)
  clear x0 x1 x2 x3 x4 x5 x6 x7 x8 x9 xz cQ
  cases ha:s.running.any fun m=>decide (0<m.frames.length) with
  | true=>
   have HD:Hid (Xyd s=false):=Lh (by unfold Xyd;rw [ha];simp)
   clear ha
   go_wp2
   go_meet
   case rel=>exact ⟨by rw [HD.o],aB⟩
  | false=>
   have HA:=Lh ha
   clear ha
   obtain ⟨⟨x0,x1,x2,x3,x4,x5,x6,x7,x8,x9⟩,-,xz⟩:=ten (HB.o w9 aB.o).t
   have HP:=Lh (HS.o.below (HB.o w9 aB.o).b).parts
   go_wp2_with fail
   refine (Xs0 18 #[] _ s.calls _ w.heap.size w9 enters_beg2 (HB.o w9 aB.o).b.size HP.o.2.2.2.2.1 (beg2_fn w.heap.size w9)).mono ?_
   rintro e eC ⟨rfl,aP⟩
   have aC:=Lh (aB.o.then aP)
   have HD:Hid (Xyd s=!(s.calls.any fun l=>decide (0<l.length))):=Lh (by unfold Xyd;rw [HA.o];simp)
   clear x0 x1 x2 x3 x4 x5 x6 x7 x8 x9 xz aP
   go_wp2
   go_meet
   case rel=>exact ⟨by rw [HD.o],aC⟩
 case rest=>
  obtain ⟨rfl,aB⟩:=hcut
  obtain ⟨⟨c0,c1,c2,zc⟩,-⟩:=HB.o wc aB.o
  obtain ⟨⟨x0,x1,x2,x3,x4,x5,x6,x7,x8,x9⟩,-,xz⟩:=ten (HB.o wc aB.o).t
  go_wp2_with fail
  have hq:=HB.o wc aB.o
  refine (X2l c _ _ s wc hq.L bE.o (hq.cod.up hq.b.size) ((HS.o.below hq.b).ups hq.b.size (fun _ _ h=>h))).mono ?_
  rintro e aI ⟨aQ,hE⟩
  have aC:=Lh (aB.o.then aQ)
  have eA:(Xyd s != Xyd s)=false:=by simp
  clear c0 c1 c2 zc x0 x1 x2 x3 x4 x5 x6 x7 x8 x9 xz hq aQ
  rcases hE with ⟨cX,rfl⟩|⟨hv,v,rfl,aK⟩
  ·have dX:Hid (pB (Xse c s)=false):=Lh (K8 cX)
   clear cX
   obtain ⟨⟨x0,x1,x2,x3,x4,x5,x6,x7,x8,x9⟩,-,xz⟩:=ten (HB.o aI aC.o).t
   go_wp2_with fail
   refine (X3r s _ w.heap.size aI (HB.o aI aC.o).b.size (HS.o.below (HB.o aI aC.o).b)).mono ?_
   rintro e aG ⟨rfl,aD⟩
   have aA:=Lh (aC.o.then aD)
   have bI:=aD
   clear x0 x1 x2 x3 x4 x5 x6 x7 x8 x9 xz aD
   obtain ⟨⟨c0,c1,c2,zc⟩,-⟩:=HB.o aG aA.o
   obtain ⟨⟨x0,x1,x2,x3,x4,x5,x6,x7,x8,x9⟩,-,xz⟩:=ten (HB.o aG aA.o).t
   go_wp2_with fail
   refine (rValid_any c _ s _ w.heap.size aG (HB.o aG aA.o).b.size bE.o (HB.o aG aA.o).cod (HS.o.below (HB.o aG aA.o).b)).mono ?_
   rintro e aM ⟨rfl,aF⟩
   rw [dX.o]
   have aE:=Lh (aA.o.then aF)
   clear c0 c1 c2 zc x0 x1 x2 x3 x4 x5 x6 x7 x8 x9 xz aF
   go_wp2
   go_ret
   exact ⟨rfl,(HB.o aM aE.o).b⟩
  ·have HV:=Lh hv
   have HI:=Lh aK
   obtain ⟨ia,ic,rfl⟩:=aK.form
   clear hv aK
   obtain ⟨⟨x0,x1,x2,x3,x4,x5,x6,x7,x8,x9⟩,-,xz⟩:=ten (HB.o aI aC.o).t
   go_wp2_with fail
   refine (X3r s _ w.heap.size aI (HB.o aI aC.o).b.size (HS.o.below (HB.o aI aC.o).b)).mono ?_
   rintro e aG ⟨rfl,aD⟩
   have aA:=Lh (aC.o.then aD)
   have bI:=aD
   clear x0 x1 x2 x3 x4 x5 x6 x7 x8 x9 xz aD
   obtain ⟨⟨c0,c1,c2,zc⟩,-⟩:=HB.o aG aA.o
   obtain ⟨⟨x0,x1,x2,x3,x4,x5,x6,x7,x8,x9⟩,-,xz⟩:=ten (HB.o aG aA.o).t
   go_wp2_with fail
   refine (rValid_any c _ s _ w.heap.size aG (HB.o aG aA.o).b.size bE.o (HB.o aG aA.o).cod (HS.o.below (HB.o aG aA.o).b)).mono ?_
   rintro e aM ⟨rfl,aF⟩
   rw [Kh HV.o]
   have aE:=Lh (aA.o.then aF)
   have dS:=Lh (bI.then aF)
   clear c0 c1 c2 zc x0 x1 x2 x3 x4 x5 x6 x7 x8 x9 xz aF bI
   obtain ⟨⟨x0,x1,x2,x3,x4,x5,x6,x7,x8,x9⟩,-,xz⟩:=ten (HB.o aM aE.o).t
   go_wp2_with fail
   refine (rEnabled_any s HV.o _ w.heap.size aM (HB.o aM aE.o).b.size (HS.o.below (HB.o aM aE.o).b)).mono ?_
   rintro e bL ⟨aJ,v,rfl,hv⟩
   have aZ:=Lh (aE.o.then aJ)
   have dV:=Lh hv
   have dU:=Lh (HI.o.ints (dS.o.then aJ))
   obtain ⟨ja,jc,rfl⟩:=hv.form
   clear x0 x1 x2 x3 x4 x5 x6 x7 x8 x9 xz hv aJ
   go_wp2_with fail
   refine (X3e _ _ _ aI.heap.size bL.heap.size bL dU.o dV.o).mono ?_
   rintro e _ ⟨rfl,n,rfl⟩
   have bA:=Lh (Xh aZ.o n)
   go_wp2
   go_ret
   exact ⟨rfl,(HB.o (bL.drewN n) bA.o).b⟩
