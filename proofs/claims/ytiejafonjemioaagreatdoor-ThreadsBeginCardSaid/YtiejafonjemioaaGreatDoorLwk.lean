import Derived.Test.YtiejafonjemioaaGreatDoorLsc
set_option maxHeartbeats 8000000
set_option maxRecDepth 100000
set_option linter.unusedVariables false
set_option linter.unusedSimpArgs false
open Go.Value renaming slice→σ
open Go.Obj renaming cells→χ
namespace Go.Proofs.YtiejafonjemioaaGreatDoor
open Go.RowKit
theorem X04 (s:Thr) (va vb:Value) (A B:Nat) (w:World) (hA:A<=w.heap.size) (hB:B<=w.heap.size) (cA:s.calls.length=s.running.length) (cB:s.results.length=s.running.length) (ha:Xsd A w va s) (hb:Xsd B w vb s):Calls Tryz.prog 56 #[va,vb] w (BoI true w):=by
 obtain ⟨l1,l2,l3,l4,-,-,l7,l8⟩:=ha.lens
 obtain ⟨aZ,bA,bB,bC,bH,aR,bD,bE,aV,aK,bF,aQ,aT,aU,aX,aY,rfl⟩:=ha.open_
 obtain ⟨bO,bP,bT,bU,bY,bI,bV,bW,bL,aW,bX,bG,bJ,bK,bM,bN,rfl⟩:=hb.open_
 try delta Bt at ha hb ⊢
 rw [cA,cB] at ha hb ⊢
 obtain ⟨gn,cL⟩:∃ n,n=s.mem.globals.length:=⟨_,rfl⟩
 obtain ⟨mn,cN⟩:∃ n,n=s.mem.nodes.length:=⟨_,rfl⟩
 obtain ⟨rn,cD⟩:∃ n,n=s.running.length:=⟨_,rfl⟩
 obtain ⟨nn,cO⟩:∃ n,n=s.nodes.length:=⟨_,rfl⟩
 obtain ⟨bn,cG⟩:∃ n,n=s.begins.length:=⟨_,rfl⟩
 obtain ⟨en,cH⟩:∃ n,n=s.ends.length:=⟨_,rfl⟩
 obtain ⟨fu,dR⟩:∃ n,n=s.fuel:=⟨_,rfl⟩
 obtain ⟨st,dV⟩:∃ n,n=s.step:=⟨_,rfl⟩
 rw [<-cL] at l1
 rw [<-cN] at l2
 rw [<-cD] at l3 cA cB
 rw [<-cO] at l4
 rw [<-cG] at l7
 rw [<-cH] at l8
 rw [<-cL,<- cN,<- cD,<- cO,<- cG,<- cH,<- dR,<- dV] at ha hb ⊢
 have cF:=Lh (And.intro cD (And.intro cA cB))
 have eF:=Lh ha
 have eG:=Lh hb
 clear cL cN cD cO cG cH dR dV ha hb cA cB
 obtain ⟨W,hW⟩:∃ W,W=(w.alloc (χ #[σ aZ gn bA,σ bB mn bC,ι fu,σ bH rn aR,σ bD nn bE,σ aV rn aK,σ bF rn aQ,σ aT bn aU,σ aX en aY,ι st] 34)).alloc (χ #[σ bO gn bP,σ bT mn bU,ι fu,σ bY rn bI,σ bV nn bW,σ bL rn aW,σ bX rn bG,σ bJ bn bK,σ bM en bN,ι st] 34):=⟨_,rfl⟩
 have dN:Hid (Below w.heap.size w W):=by rw [hW];exact Lh ((Xa _ _).then (Xa _ _))
 have HK:Hid (∀ V,Below W.heap.size W V->(V.cell? (π w.heap.size 0)=some (σ aZ gn bA)/\V.cell? (π w.heap.size 1)=some (σ bB mn bC)/\V.cell? (π w.heap.size 2)=some (ι fu)/\V.cell? (π w.heap.size 3)=some (σ bH rn aR)/\V.cell? (π w.heap.size 4)=some (σ bD nn bE)/\V.cell? (π w.heap.size 5)=some (σ aV rn aK)/\V.cell? (π w.heap.size 6)=some (σ bF rn aQ)/\V.cell? (π w.heap.size 7)=some (σ aT bn aU)/\V.cell? (π w.heap.size 8)=some (σ aX en aY)/\V.cell? (π w.heap.size 9)=some (ι st))/\(V.cell? (π (w.heap.size+1) 0)=some (σ bO gn bP)/\V.cell? (π (w.heap.size+1) 1)=some (σ bT mn bU)/\V.cell? (π (w.heap.size+1) 2)=some (ι fu)/\V.cell? (π (w.heap.size+1) 3)=some (σ bY rn bI)/\V.cell? (π (w.heap.size+1) 4)=some (σ bV nn bW)/\V.cell? (π (w.heap.size+1) 5)=some (σ bL rn aW)/\V.cell? (π (w.heap.size+1) 6)=some (σ bX rn bG)/\V.cell? (π (w.heap.size+1) 7)=some (σ bJ bn bK)/\V.cell? (π (w.heap.size+1) 8)=some (σ bM en bN)/\V.cell? (π (w.heap.size+1) 9)=some (ι st))/\w.heap.size<V.heap.size/\w.heap.size+1<V.heap.size):=Lh (fun V hV=>by
  have fP:W.heap.size=w.heap.size+2:=by rw [hW];simp
  have eM:W.heap[w.heap.size]?=some (χ #[σ aZ gn bA,σ bB mn bC,ι fu,σ bH rn aR,σ bD nn bE,σ aV rn aK,σ bF rn aQ,σ aT bn aU,σ aX en aY,ι st] 34 (0,0)):=by rw [hW,Ha _ _ _ ψ];exact Hn _ _
  have eN:W.heap[w.heap.size+1]?=some (χ #[σ bO gn bP,σ bT mn bU,ι fu,σ bY rn bI,σ bV nn bW,σ bL rn aW,σ bX rn bG,σ bJ bn bK,σ bM en bN,ι st] 34 (0,0)):=by
   rw [hW]
   have:=Hn (w.alloc (χ #[σ aZ gn bA,σ bB mn bC,ι fu,σ bH rn aR,σ bD nn bE,σ aV rn aK,σ bF rn aQ,σ aT bn aU,σ aX en aY,ι st] 34)) (χ #[σ bO gn bP,σ bT mn bU,ι fu,σ bY rn bI,σ bV nn bW,σ bL rn aW,σ bX rn bG,σ bJ bn bK,σ bM en bN,ι st] 34)
   rw [show (w.alloc (χ #[σ aZ gn bA,σ bB mn bC,ι fu,σ bH rn aR,σ bD nn bE,σ aV rn aK,σ bF rn aQ,σ aT bn aU,σ aX en aY,ι st] 34)).heap.size=w.heap.size+1 by simp] at this
   exact this
  have h1:=(hV.block w.heap.size ω).trans eM
  have h2:=(hV.block (w.heap.size+1) ω).trans eN
  refine ⟨⟨?_,?_,?_,?_,?_,?_,?_,?_,?_,?_⟩,⟨?_,?_,?_,?_,?_,?_,?_,?_,?_,?_⟩,(La h1),(La h2)⟩<;>first|(rw [cell_of_row _ _ _ _ _ _ h1];rfl)|(rw [cell_of_row _ _ _ _ _ _ h2];rfl))
 have HT:Hid (∀ V,Below W.heap.size W V->A<=V.heap.size/\B<=V.heap.size/\Xsd A V (.agg #[σ aZ gn bA,σ bB mn bC,ι fu,σ bH rn aR,σ bD nn bE,σ aV rn aK,σ bF rn aQ,σ aT bn aU,σ aX en aY,ι st]) s/\Xsd B V (.agg #[σ bO gn bP,σ bT mn bU,ι fu,σ bY rn bI,σ bV nn bW,σ bL rn aW,σ bX rn bG,σ bJ bn bK,σ bM en bN,ι st]) s/\Below w.heap.size w V):=Lh (fun V hV=>by
  have hb:=dN.o.then hV
  exact ⟨Nt hA hb.size,Nt hB hb.size,eF.o.below (hb.mono hA),eG.o.below (hb.mono hB),hb⟩)
 have fT:((rn:Int) != (rn:Int))=false:=by simp
 have fQ:(fu != fu)=false:=by simp
 obtain ⟨⟨x0,x1,x2,x3,x4,x5,x6,x7,x8,x9⟩,⟨y0,y1,y2,y3,y4,y5,y6,y7,y8,y9⟩,zx,zy⟩:=HK.o W Br
 go_enter Tryz.func56,Tryz.ntmps56
 go_upto_region 1 with fail
 rw [<-hW]
 have HW:=Lh hW
 clear hW
 go_wp2_with fail
 refine (X1j s.mem _ _ A B W (HT.o W Br).1 (HT.o W Br).2.1 ⟨_,_,rfl,(HT.o W Br).2.2.1.parts.1,(HT.o W Br).2.2.1.parts.2.1⟩ ⟨_,_,rfl,(HT.o W Br).2.2.2.1.parts.1,(HT.o W Br).2.2.2.1.parts.2.1⟩).mono ?_
 rintro e w1 ⟨rfl,dQ⟩
 have bZ:=Lh dQ
 clear x0 x1 x2 x3 x4 x5 x6 x7 x8 x9 y0 y1 y2 y3 y4 y5 y6 y7 y8 y9 zx zy
 clear dQ
 obtain ⟨⟨x0,x1,x2,x3,x4,x5,x6,x7,x8,x9⟩,⟨y0,y1,y2,y3,y4,y5,y6,y7,y8,y9⟩,zx,zy⟩:=HK.o w1 bZ.o
 go_wp2_with fail
 refine (Xqd s.nodes _ _ A B w1 (HT.o w1 bZ.o).2.2.1.parts.2.2.2.1 (HT.o w1 bZ.o).2.2.2.1.parts.2.2.2.1).mono ?_
 rintro e w2 ⟨rfl,q2,dU⟩
 have cS:Hid (Below W.heap.size W w2):=Lh (bZ.o.then (by rw [dU];exact Xh Br q2))
 clear x0 x1 x2 x3 x4 x5 x6 x7 x8 x9 y0 y1 y2 y3 y4 y5 y6 y7 y8 y9 zx zy
 clear dU
 obtain ⟨⟨x0,x1,x2,x3,x4,x5,x6,x7,x8,x9⟩,⟨y0,y1,y2,y3,y4,y5,y6,y7,y8,y9⟩,zx,zy⟩:=HK.o w2 cS.o
 go_wp2_with fail
 clear x0 x1 x2 x3 x4 x5 x6 x7 x8 x9 y0 y1 y2 y3 y4 y5 y6 y7 y8 y9 zx zy
 go_loopw [6] (fun i wr=>∃ k:Nat,k<=rn/\i=ι k/\Hid (Below W.heap.size W wr)) (fun i _=>rn - (intOf i).toNat)
 case atStart=>exact ⟨0,Nat.zero_le _,rfl,cS⟩
 case round=>
  obtain ⟨k,hk,rfl,hs⟩:=hrel
  obtain ⟨wo,rfl⟩:∃ wo:World,wo=wr:=⟨_,rfl⟩
  by_cases fM:k<rn
  rotate_left
  ·have eB:=Lh (dN.o.then hs.o)
   go_wp2
   go_ret
   exact boI rfl eB.o
  obtain ⟨m,hm⟩:∃ x,s.running[k]?=some x:=⟨_,Lg (by have:=cF.o.1;omega)⟩
  obtain ⟨l,hl⟩:∃ x,s.calls[k]?=some x:=⟨_,Lg (by have:=cF.o.2.1;omega)⟩
  obtain ⟨r,hr⟩:∃ x,s.results[k]?=some x:=⟨_,Lg (by have:=cF.o.2.2;omega)⟩
  obtain ⟨h1,h2,h3,h4,eL⟩:=HT.o wo hs.o
  have bQ:=h3.parts
  have cC:=h4.parts
  obtain ⟨aG,aI,rfl,fA,dS⟩:=bQ.2.2.1.nth hm
  obtain ⟨aH,aJ,rfl,fB,dT⟩:=cC.2.2.1.nth hm
  obtain ⟨dD,dF,rfl,eW,fC,aE,aM⟩:=bQ.2.2.2.2.1.nth hl
  obtain ⟨dE,dG,rfl,eX,fD,aF,aN⟩:=cC.2.2.2.2.1.nth hl
  obtain ⟨dX,dZ,rfl,eY,fU,aC,aO⟩:=bQ.2.2.2.2.2.1.nth hr
  obtain ⟨dY,eA,rfl,eZ,fV,aD,aP⟩:=cC.2.2.2.2.2.1.nth hr
  rw [Nat.mul_one] at aE aF aC aD
  obtain ⟨fE,cI,a0,a1,a2,a3,a4,a5,a6,a7,a8,-⟩:=dS.nine
  obtain ⟨fF,cJ,b0,b1,b2,b3,b4,b5,b6,b7,b8,-⟩:=dT.nine
  obtain ⟨dH,dJ,rfl⟩:=cI.fm
  obtain ⟨dI,dK,rfl⟩:=cJ.fm
  obtain ⟨eP,eR,rfl,l9⟩:=aM.fr
  obtain ⟨eQ,eS,rfl,-⟩:=aN.fr
  obtain ⟨eT,pc1,rfl,eO⟩:=aO.fr
  obtain ⟨eU,eV,rfl,-⟩:=aP.fr
  have HM:=Lh (And.intro hm (And.intro hl hr))
  have cW:=Lh cI
  have cX:=Lh cJ
  have cT:=Lh aM
  have cU:=Lh aN
  have cY:=Lh aO
  have cZ:=Lh aP
  obtain ⟨fn,cK⟩:∃ n,n=m.frames.length:=⟨_,rfl⟩
  obtain ⟨ln,cM⟩:∃ n,n=l.length:=⟨_,rfl⟩
  obtain ⟨on,cP⟩:∃ n,n=r.length:=⟨_,rfl⟩
  rw [<-cK] at a0 b0 cW cX
  rw [<-cM] at aE aF cT cU l9
  rw [<-cP] at aC aD cY cZ eO
  have HN:=Lh (And.intro cK (And.intro cM cP))
  have fR:((ln:Int) != (ln:Int))=false:=by simp
  have fS:((on:Int) != (on:Int))=false:=by simp
  have fI:(0:Int)<=(k:Int):=In _
  have fJ:(k:Int)<(rn:Int):=ω
  clear hm hl hr h1 h2 h3 h4 eL bQ cC dS dT cI cJ aM aN aO aP cK cM cP fA fB eW eX eY eZ
  have z1:=Bl a0
  have z2:=Bl b0
  have z3:=Bl aE
  have z4:=Bl aF
  have z5:=Bl aC
  have z6:=Bl aD
  obtain ⟨⟨x0,x1,x2,x3,x4,x5,x6,x7,x8,x9⟩,⟨y0,y1,y2,y3,y4,y5,y6,y7,y8,y9⟩,zx,zy⟩:=HK.o wo hs.o
  have eD:=Lh (cW.o.fras (Xh (Below.refl A wo) 1))
  have eE:=Lh (cX.o.fras (Xh (Below.refl B wo) 1))
  have dL:A<=wo.drew.heap.size:=(HT.o wo hs.o).1
  have dM:B<=wo.drew.heap.size:=(HT.o wo hs.o).2.1
  have dC:=Lh (fun V eJ eK h1 h2=>Vj m (σ dH fn dJ) (σ dI fn dK) A B V eJ eK h1 h2)
  unfold Xb at dC
  go_upto_region 7 with fail
  go_region_held3 (fun V=>V.cell? (π w.heap.size 3)=some (σ (some (π aG aI)) rn aR)/\V.cell? (π w.heap.size 5)=some (σ (some (π dD dF)) rn aK)/\V.cell? (π w.heap.size 6)=some (σ (some (π dX dZ)) rn aQ)/\V.cell? (π (w.heap.size+1) 3)=some (σ (some (π aH aJ)) rn bI)/\V.cell? (π (w.heap.size+1) 5)=some (σ (some (π dE dG)) rn aW)/\V.cell? (π (w.heap.size+1) 6)=some (σ (some (π dY eA)) rn bG)/\V.cell? (π aG (aI+k*9))=some (σ dH fn dJ)/\V.cell? (π aG (aI+k*9+1))=some (ι m.req.kind)/\V.cell? (π aG (aI+k*9+2))=some (ι m.req.node)/\V.cell? (π aG (aI+k*9+3))=some (ι m.req.field)/\V.cell? (π aG (aI+k*9+4))=some (ι m.req.value)/\V.cell? (π aG (aI+k*9+5))=some (ι m.req.fault)/\V.cell? (π aG (aI+k*9+6))=some (ι m.fuel)/\V.cell? (π aG (aI+k*9+7))=some (ι m.compares)/\V.cell? (π aG (aI+k*9+8))=some (ι m.idle)/\V.cell? (π aH (aJ+k*9))=some (σ dI fn dK)/\V.cell? (π aH (aJ+k*9+1))=some (ι m.req.kind)/\V.cell? (π aH (aJ+k*9+2))=some (ι m.req.node)/\V.cell? (π aH (aJ+k*9+3))=some (ι m.req.field)/\V.cell? (π aH (aJ+k*9+4))=some (ι m.req.value)/\V.cell? (π aH (aJ+k*9+5))=some (ι m.req.fault)/\V.cell? (π aH (aJ+k*9+6))=some (ι m.fuel)/\V.cell? (π aH (aJ+k*9+7))=some (ι m.compares)/\V.cell? (π aH (aJ+k*9+8))=some (ι m.idle)/\V.cell? (π dD (dF+k))=some (σ eP ln eR)/\V.cell? (π dE (dG+k))=some (σ eQ ln eS)/\V.cell? (π dX (dZ+k))=some (σ eT on pc1)/\V.cell? (π dY (eA+k))=some (σ eU on eV))
   (first|exact ⟨x3,x5,x6,y3,y5,y6,a0,a1,a2,a3,a4,a5,a6,a7,a8,b0,b1,b2,b3,b4,b5,b6,b7,b8,aE,aF,aC,aD⟩|exact ⟨Xc aB x3,Xc aB x5,Xc aB x6,Xc aB y3,Xc aB y5,Xc aB y6,Xc aB a0,Xc aB a1,Xc aB a2,Xc aB a3,Xc aB a4,Xc aB a5,Xc aB a6,Xc aB a7,Xc aB a8,Xc aB b0,Xc aB b1,Xc aB b2,Xc aB b3,Xc aB b4,Xc aB b5,Xc aB b6,Xc aB b7,Xc aB b8,Xc aB aE,Xc aB aF,Xc aB aC,Xc aB aD⟩)
   (first|(go_at_call 96;refine (dC.o wo.drew dL dM eD.o eE.o).mono ?_;rintro e w4 ⟨rfl,aB⟩))
  have aA:Hid (Below wo.heap.size wo w4):=Lh ((Xh Br 1).then aB)
  have cE:=Lh (hs.o.then aA.o)
  have x3:=Xc aA.o x3
  have x5:=Xc aA.o x5
  have x6:=Xc aA.o x6
  have y3:=Xc aA.o y3
  have y5:=Xc aA.o y5
  have y6:=Xc aA.o y6
  have a0:=Xc aA.o a0
  have a1:=Xc aA.o a1
  have a2:=Xc aA.o a2
  have a3:=Xc aA.o a3
  have a4:=Xc aA.o a4
  have a5:=Xc aA.o a5
  have a6:=Xc aA.o a6
  have a7:=Xc aA.o a7
  have a8:=Xc aA.o a8
  have b0:=Xc aA.o b0
  have b1:=Xc aA.o b1
  have b2:=Xc aA.o b2
  have b3:=Xc aA.o b3
  have b4:=Xc aA.o b4
  have b5:=Xc aA.o b5
  have b6:=Xc aA.o b6
  have b7:=Xc aA.o b7
  have b8:=Xc aA.o b8
  have aE:=Xc aA.o aE
  have aF:=Xc aA.o aF
  have aC:=Xc aA.o aC
  have aD:=Xc aA.o aD
  have eH:=Lh (And.intro x5 (And.intro x6 (And.intro y5 (And.intro y6 (And.intro aE (And.intro aF (And.intro aC aD)))))))
  clear aB a0 b0 a1 b1 a2 b2 a3 b3 a4 b4 a5 b5 a6 b6 a7 b7 a8 b8 dL dM x0 x1 x2 x3 x4 x7 x8 x9 y0 y1 y2 y3 y4 y7 y8 y9 z1 z2
  have zx:=Bl x5
  have zy:=Bl y5
  have z3:=Bl aE
  have z4:=Bl aF
  have z5:=Bl aC
  have z6:=Bl aD
  go_wp2_with fail
  clear x5 x6 y5 y6 aE aF aC aD zx zy z3 z4 z5 z6
  go_loopw [7] (fun i wr=>∃ j:Nat,j<=ln/\i=ι j/\Hid (∃ n,wr=w4.drewN n)) (fun i _=>ln - (intOf i).toNat)
  case atStart=>exact ⟨0,Nat.zero_le _,rfl,Lh ⟨0,rfl⟩⟩
  case round=>
   obtain ⟨j,hj,rfl,hw⟩:=hrel
   have HD:Hid (Below w4.heap.size w4 wr):=Lh (by
    obtain ⟨n,hn⟩:=hw.o
    rw [hn];exact Xh Br n)
   obtain ⟨x5,x6,y5,y6,aE,aF,aC,aD⟩:=eH.o
   have x5:=Xc HD.o x5
   have x6:=Xc HD.o x6
   have y5:=Xc HD.o y5
   have y6:=Xc HD.o y6
   have aE:=Xc HD.o aE
   have aF:=Xc HD.o aF
   have aC:=Xc HD.o aC
   have aD:=Xc HD.o aD
   have zx:=Bl x5
   have zy:=Bl y5
   have z3:=Bl aE
   have z4:=Bl aF
   have z5:=Bl aC
   have z6:=Bl aD
   by_cases fK:j<ln
   ·obtain ⟨c,hc⟩:∃ x,l[j]?=some x:=⟨_,Lg (by have:=HN.o.2.1;omega)⟩
    have aL:Below wo.heap.size wo wr:=aA.o.then HD.o
    have bR:A<=wo.heap.size:=(HT.o wo hs.o).1
    have bS:B<=wo.heap.size:=(HT.o wo hs.o).2.1
    obtain ⟨b1,o1,rfl,cQ,e1,⟨v1,f1,s1⟩,-⟩:=(cT.o.cals (aL.mono bR)).nth hc
    obtain ⟨b2,o2,rfl,cR,e2,⟨v2,f2,s2⟩,-⟩:=(cU.o.cals (aL.mono bS)).nth hc
    obtain ⟨t1,u1,rfl⟩:=s1.fm
    obtain ⟨t2,u2,rfl⟩:=s2.fm
    obtain ⟨ag,dO⟩:∃ q,q=c.args:=⟨_,rfl⟩
    rw [<-dO] at s1 s2 f1 f2
    have dA:=Lh s1
    have dB:=Lh s2
    obtain ⟨an,dP⟩:∃ n,n=ag.length:=⟨_,rfl⟩
    rw [<-dP] at f1 f2 dA dB
    have fG:(0:Int)<=(j:Int):=In _
    have fH:(j:Int)<(ln:Int):=ω
    have z7:=Bl e1
    have z8:=Bl e2
    have fO:(!(Zt c.proc c.proc))=false:=by simp [Zt]
    clear hc s1 s2 dO dP aL bR bS cQ cR
    go_wp2_with fail
    go_quiet ((go_at_call 77;exact Calls.quiet_of (Xqd ag _ _ A B _ (dA.o.ints (Xh Br _)) (dB.o.ints (Xh Br _)))))
    go_wp2
    go_roundw
    case rel=>exact ⟨j+1,ω,by go_num,Lh (by
     obtain ⟨n,hn⟩:=hw.o
     exact ⟨_,by rw [hn,World.drewN_drewN]⟩)⟩
    case measure=>simp [intOf];omega
   obtain rfl:j=ln:=ω
   obtain ⟨w5,rfl⟩:∃ w5:World,w5=wr:=⟨_,rfl⟩
   have eI:=Lh (And.intro x5 (And.intro x6 (And.intro y5 (And.intro y6 (And.intro aC aD)))))
   have cV:=Lh HD.o
   go_wp2_with fail
   clear x5 x6 y5 y6 aE aF aC aD zx zy z3 z4 z5 z6
   go_loopw [8] (fun i wr=>∃ p:Nat,p<=on/\i=ι p/\Hid (∃ n,wr=w5.drewN n)) (fun i _=>on - (intOf i).toNat)
   case atStart=>exact ⟨0,Nat.zero_le _,rfl,Lh ⟨0,rfl⟩⟩
   case round=>
    obtain ⟨p,hp,rfl,dW⟩:=hrel
    have aS:Hid (Below w5.heap.size w5 wr):=Lh (by
     obtain ⟨n,hn⟩:=dW.o
     rw [hn];exact Xh Br n)
    obtain ⟨x5,x6,y5,y6,aC,aD⟩:=eI.o
    have x6:=Xc aS.o x6
    have y6:=Xc aS.o y6
    have aC:=Xc aS.o aC
    have aD:=Xc aS.o aD
    have zx:=Bl x6
    have zy:=Bl y6
    have z5:=Bl aC
    have z6:=Bl aD
    clear x5 y5
    by_cases fL:p<on
    ·obtain ⟨c,hc⟩:∃ x,r[p]?=some x:=⟨_,Lg (by have:=HN.o.2.2;omega)⟩
     have aL:Below wo.heap.size wo wr:=(aA.o.then cV.o).then aS.o
     have bR:A<=wo.heap.size:=(HT.o wo hs.o).1
     have bS:B<=wo.heap.size:=(HT.o wo hs.o).2.1
     obtain ⟨b1,o1,rfl,cQ,e0,e1,e2,e3,e4,-⟩:=(cY.o.outs (aL.mono bR)).nth hc
     obtain ⟨b2,o2,rfl,cR,f0,f1,f2,f3,f4,-⟩:=(cZ.o.outs (aL.mono bS)).nth hc
     obtain ⟨c0,c1,c2,c3,c4⟩:=c
     have fN:(0:Int)<=(p:Int):=In _
     have bQ:(p:Int)<(on:Int):=ω
     have z7:=Bl e0
     have z8:=Bl f0
     clear hc aL bR bS cQ cR
     go_wp2_with fail
     go_quiet (fail)
     go_wp2
     go_roundw
     case rel=>exact ⟨p+1,ω,by go_num,Lh (by
      obtain ⟨n,hn⟩:=dW.o
      exact ⟨_,by rw [hn,World.drewN_drewN]⟩)⟩
     case measure=>simp [intOf];omega
    ·have eC:=Lh ((cE.o.then cV.o).then aS.o)
     go_wp2
     go_roundw
     case rel=>exact ⟨k+1,ω,by go_num,Lh eC.o⟩
     case measure=>simp [intOf];omega
theorem X4i (s:Thr) (va vb:Value) (A B:Nat) (w:World) (hA:A<=w.heap.size) (hB:B<=w.heap.size) (bI:s.calls.length=s.running.length) (bJ:s.results.length=s.running.length) (ha:Xsd A w va s) (hb:Xsd B w vb s):Calls Tryz.prog 14 #[va,vb] w (BoI true w):=by
 obtain ⟨l1,l2,l3,l4,-,-,l7,l8⟩:=ha.lens
 obtain ⟨aG,aH,aI,aJ,aO,aP,aK,aL,aC,aD,aM,aN,aA,aB,aE,aF,rfl⟩:=ha.open_
 obtain ⟨aW,aX,aY,aZ,bE,bF,bA,bB,aS,aT,bC,bD,aQ,aR,aU,aV,rfl⟩:=hb.open_
 try delta Bt at ha hb ⊢
 rw [bI,bJ] at ha hb ⊢
 obtain ⟨gn,bN⟩:∃ n,n=s.mem.globals.length:=⟨_,rfl⟩
 obtain ⟨mn,bO⟩:∃ n,n=s.mem.nodes.length:=⟨_,rfl⟩
 obtain ⟨rn,bK⟩:∃ n,n=s.running.length:=⟨_,rfl⟩
 obtain ⟨nn,bP⟩:∃ n,n=s.nodes.length:=⟨_,rfl⟩
 obtain ⟨bn,bL⟩:∃ n,n=s.begins.length:=⟨_,rfl⟩
 obtain ⟨en,bM⟩:∃ n,n=s.ends.length:=⟨_,rfl⟩
 obtain ⟨fu,bT⟩:∃ n,n=s.fuel:=⟨_,rfl⟩
 obtain ⟨st,bW⟩:∃ n,n=s.step:=⟨_,rfl⟩
 rw [<-bN] at l1
 rw [<-bO] at l2
 rw [<-bK] at l3 bI bJ
 rw [<-bP] at l4
 rw [<-bL] at l7
 rw [<-bM] at l8
 rw [<-bN,<- bO,<- bK,<- bP,<- bL,<- bM,<- bT,<- bW] at ha hb ⊢
 have bQ:=Lh (And.intro bK (And.intro bI bJ))
 have bY:=Lh ha
 have bZ:=Lh hb
 clear bN bO bK bP bL bM bT bW ha hb bI bJ
 obtain ⟨W,hW⟩:∃ W,W=(w.alloc (χ #[σ aG gn aH,σ aI mn aJ,ι fu,σ aO rn aP,σ aK nn aL,σ aC rn aD,σ aM rn aN,σ aA bn aB,σ aE en aF,ι st] 34)).alloc (χ #[σ aW gn aX,σ aY mn aZ,ι fu,σ bE rn bF,σ bA nn bB,σ aS rn aT,σ bC rn bD,σ aQ bn aR,σ aU en aV,ι st] 34):=⟨_,rfl⟩
 have bR:Hid (Below w.heap.size w W):=by rw [hW];exact Lh ((Xa _ _).then (Xa _ _))
 have HK:Hid (∀ V,Below W.heap.size W V->(V.cell? (π w.heap.size 0)=some (σ aG gn aH)/\V.cell? (π w.heap.size 1)=some (σ aI mn aJ)/\V.cell? (π w.heap.size 2)=some (ι fu)/\V.cell? (π w.heap.size 3)=some (σ aO rn aP)/\V.cell? (π w.heap.size 4)=some (σ aK nn aL)/\V.cell? (π w.heap.size 5)=some (σ aC rn aD)/\V.cell? (π w.heap.size 6)=some (σ aM rn aN)/\V.cell? (π w.heap.size 7)=some (σ aA bn aB)/\V.cell? (π w.heap.size 8)=some (σ aE en aF)/\V.cell? (π w.heap.size 9)=some (ι st))/\(V.cell? (π (w.heap.size+1) 0)=some (σ aW gn aX)/\V.cell? (π (w.heap.size+1) 1)=some (σ aY mn aZ)/\V.cell? (π (w.heap.size+1) 2)=some (ι fu)/\V.cell? (π (w.heap.size+1) 3)=some (σ bE rn bF)/\V.cell? (π (w.heap.size+1) 4)=some (σ bA nn bB)/\V.cell? (π (w.heap.size+1) 5)=some (σ aS rn aT)/\V.cell? (π (w.heap.size+1) 6)=some (σ bC rn bD)/\V.cell? (π (w.heap.size+1) 7)=some (σ aQ bn aR)/\V.cell? (π (w.heap.size+1) 8)=some (σ aU en aV)/\V.cell? (π (w.heap.size+1) 9)=some (ι st))/\w.heap.size<V.heap.size/\w.heap.size+1<V.heap.size):=Lh (fun V hV=>by
  have cE:W.heap.size=w.heap.size+2:=by rw [hW];simp
  have cB:W.heap[w.heap.size]?=some (χ #[σ aG gn aH,σ aI mn aJ,ι fu,σ aO rn aP,σ aK nn aL,σ aC rn aD,σ aM rn aN,σ aA bn aB,σ aE en aF,ι st] 34 (0,0)):=by rw [hW,Ha _ _ _ ψ];exact Hn _ _
  have cC:W.heap[w.heap.size+1]?=some (χ #[σ aW gn aX,σ aY mn aZ,ι fu,σ bE rn bF,σ bA nn bB,σ aS rn aT,σ bC rn bD,σ aQ bn aR,σ aU en aV,ι st] 34 (0,0)):=by
   rw [hW]
   have:=Hn (w.alloc (χ #[σ aG gn aH,σ aI mn aJ,ι fu,σ aO rn aP,σ aK nn aL,σ aC rn aD,σ aM rn aN,σ aA bn aB,σ aE en aF,ι st] 34)) (χ #[σ aW gn aX,σ aY mn aZ,ι fu,σ bE rn bF,σ bA nn bB,σ aS rn aT,σ bC rn bD,σ aQ bn aR,σ aU en aV,ι st] 34)
   rw [show (w.alloc (χ #[σ aG gn aH,σ aI mn aJ,ι fu,σ aO rn aP,σ aK nn aL,σ aC rn aD,σ aM rn aN,σ aA bn aB,σ aE en aF,ι st] 34)).heap.size=w.heap.size+1 by simp] at this
   exact this
  have h1:=(hV.block w.heap.size ω).trans cB
  have h2:=(hV.block (w.heap.size+1) ω).trans cC
  refine ⟨⟨?_,?_,?_,?_,?_,?_,?_,?_,?_,?_⟩,⟨?_,?_,?_,?_,?_,?_,?_,?_,?_,?_⟩,(La h1),(La h2)⟩<;>first|(rw [cell_of_row _ _ _ _ _ _ h1];rfl)|(rw [cell_of_row _ _ _ _ _ _ h2];rfl))
 have HT:Hid (∀ V,Below W.heap.size W V->A<=V.heap.size/\B<=V.heap.size/\Xsd A V (.agg #[σ aG gn aH,σ aI mn aJ,ι fu,σ aO rn aP,σ aK nn aL,σ aC rn aD,σ aM rn aN,σ aA bn aB,σ aE en aF,ι st]) s/\Xsd B V (.agg #[σ aW gn aX,σ aY mn aZ,ι fu,σ bE rn bF,σ bA nn bB,σ aS rn aT,σ bC rn bD,σ aQ bn aR,σ aU en aV,ι st]) s/\Below w.heap.size w V):=Lh (fun V hV=>by
  have hb:=bR.o.then hV
  exact ⟨Nt hA hb.size,Nt hB hb.size,bY.o.below (hb.mono hA),bZ.o.below (hb.mono hB),hb⟩)
 have cD:(st == st)=true:=by simp
 obtain ⟨⟨x0,x1,x2,x3,x4,x5,x6,x7,x8,x9⟩,⟨y0,y1,y2,y3,y4,y5,y6,y7,y8,y9⟩,zx,zy⟩:=HK.o W Br
 go_enter Tryz.func14,Tryz.ntmps14
 go_upto_region 1 with fail
 rw [<-hW]
 have HW:=Lh hW
 clear hW
 go_wp2_with fail
 have cA:=Lh (fun V h1 h2 h3 h4=>X04 s (.agg #[σ aG gn aH,σ aI mn aJ,ι fu,σ aO rn aP,σ aK nn aL,σ aC rn aD,σ aM rn aN,σ aA bn aB,σ aE en aF,ι st]) (.agg #[σ aW gn aX,σ aY mn aZ,ι fu,σ bE rn bF,σ bA nn bB,σ aS rn aT,σ bC rn bD,σ aQ bn aR,σ aU en aV,ι st]) A B V h1 h2 (by have h:=bQ.o;omega) (by have h:=bQ.o;omega) h3 h4)
 refine (cA.o W (HT.o W Br).1 (HT.o W Br).2.1 (HT.o W Br).2.2.1 (HT.o W Br).2.2.2.1).mono ?_
 rintro e w1 ⟨rfl,bS⟩
 have bG:=Lh bS
 clear x0 x1 x2 x3 x4 x5 x6 x7 x8 x9 y0 y1 y2 y3 y4 y5 y6 y7 y8 y9 zx zy
 clear bS
 obtain ⟨⟨x0,x1,x2,x3,x4,x5,x6,x7,x8,x9⟩,⟨y0,y1,y2,y3,y4,y5,y6,y7,y8,y9⟩,zx,zy⟩:=HK.o w1 bG.o
 go_wp2_with fail
 refine (Xvl s.begins _ _ A B w1 (HT.o w1 bG.o).2.2.1.parts.2.2.2.2.2.2.1 (HT.o w1 bG.o).2.2.2.1.parts.2.2.2.2.2.2.1).mono ?_
 rintro e w2 ⟨rfl,q2,bU⟩
 have bH:Hid (Below W.heap.size W w2):=Lh (bG.o.then (by rw [bU];exact Xh Br q2))
 clear x0 x1 x2 x3 x4 x5 x6 x7 x8 x9 y0 y1 y2 y3 y4 y5 y6 y7 y8 y9 zx zy
 clear bU
 obtain ⟨⟨x0,x1,x2,x3,x4,x5,x6,x7,x8,x9⟩,⟨y0,y1,y2,y3,y4,y5,y6,y7,y8,y9⟩,zx,zy⟩:=HK.o w2 bH.o
 go_wp2_with fail
 refine (Xvl s.ends _ _ A B w2 (HT.o w2 bH.o).2.2.1.parts.2.2.2.2.2.2.2.1 (HT.o w2 bH.o).2.2.2.1.parts.2.2.2.2.2.2.2.1).mono ?_
 rintro e w3 ⟨rfl,q3,bV⟩
 have bX:Hid (Below W.heap.size W w3):=Lh (bH.o.then (by rw [bV];exact Xh Br q3))
 clear x0 x1 x2 x3 x4 x5 x6 x7 x8 x9 y0 y1 y2 y3 y4 y5 y6 y7 y8 y9 zx zy
 clear bV
 go_wp2
 go_ret
 exact boI rfl (bR.o.then bX.o)
