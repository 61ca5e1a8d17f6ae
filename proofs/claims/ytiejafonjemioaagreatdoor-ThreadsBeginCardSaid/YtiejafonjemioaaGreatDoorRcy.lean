import Derived.Test.YtiejafonjemioaaGreatDoorCpe
set_option maxHeartbeats 4000000
set_option maxRecDepth 100000
set_option linter.unusedVariables false
set_option linter.unusedSimpArgs false
open Go.Value renaming slice→σ
open Go.Obj renaming cells→χ
namespace Go.Proofs.YtiejafonjemioaaGreatDoor
open Go.RowKit
theorem rCopy12_any (m:Mm) (mv:Value) (B:Nat) (w:World) (hB:B<=w.heap.size) (hm:MmV B w mv m) (hg6:m.globals.length<=1000000) (hn4:m.nodes.length<=4096) (hf6:∀ x∈m.nodes,x.f.length<=1000000) :
  Calls Tryz.prog 29 #[mv] w (Xwp m w):=by
 obtain ⟨gv,nv,rfl,hg,hn⟩:=hm
 obtain ⟨va,vc,rfl⟩:=hg.form
 obtain ⟨na,nc,rfl⟩:=hn.form
 obtain ⟨gn,aR⟩:∃ n,n=m.globals.length:=⟨_,rfl⟩
 obtain ⟨nn,bI⟩:∃ n,n=m.nodes.length:=⟨_,rfl⟩
 rw [<-aR] at hg hg6 ⊢
 rw [<-bI] at hn hn4 ⊢
 have HG:=Lh hg
 have HN:=Lh hn
 have cB:=Lh aR
 have aX:=Lh bI
 have bY:=Lh hf6
 have HB:=Lh hB
 obtain ⟨W,hW⟩:∃ W,W=(w.alloc (χ #[σ va gn vc,σ na nn nc] 28)).alloc (χ #[ν,ν] 28):=⟨_,rfl⟩
 have bB:Hid (Below w.heap.size w W):=by rw [hW];exact Lh ((Xa _ _).then (Xa _ _))
 have bJ:Hid (W.heap.size=w.heap.size+2):=by rw [hW];exact Lh ψ
 have b0:W.heap[w.heap.size]?=some (χ #[σ va gn vc,σ na nn nc] 28 (0,0)):=by
  rw [hW,Ha _ _ _ ψ]
  exact Hn _ _
 have b1:W.heap[w.heap.size+1]?=some (χ #[ν,ν] 28 (0,0)):=by
  rw [hW]
  have:=Hn (w.alloc (χ #[σ va gn vc,σ na nn nc] 28)) (χ #[ν,ν] 28)
  simpa using this
 have B0:=Lh b0
 have B1:=Lh b1
 have i0:=Cw b0 0 rfl
 have zi:=Bl i0
 have bX:Hid ((W.alloc (χ #[] 3)).heap[W.heap.size]?=some (χ #[] 3 (0,0))):=Lh (Hn _ _)
 have cA:Hid (Xf B (W.alloc (χ #[] 3)) 1 Zd (σ va gn vc) m.globals):=Lh ((hg.ints (bB.o.mono hB)).ints ((Xa _ _).mono (Nt hB bB.o.size)))
 have cL:m.globals.length<=1000000:=by rw [<-aR];exact hg6
 have bV:Hid (Chg NO (Xti w.heap.size) (fun x=>if x=W.heap.size then 2 else if x=w.heap.size+1 then 5 else Xti w.heap.size x) w (W.alloc (χ #[] 3))):=Lh (by
  have hb:=bB.o.then (Xa W (χ #[] 3))
  exact ⟨hb.os,hb.tape,hb.output,hb.size,fun x hx _=>hb.block x hx,fun x hx=>by have:=bJ.o;show (if _ then _ else if _ then _ else _)=_;rw [if_neg ω,if_neg ω],no 0⟩)
 have aV:Hid (∀ x,(W.alloc (χ #[] 3)).heap.size<=x->(fun x=>if x=W.heap.size then 2 else if x=w.heap.size+1 then 5 else Xti w.heap.size x) x=0):=Lh (fun x hx=>by
  have:=bJ.o
  simp at hx
  show (if _ then _ else if _ then _ else _)=_
  rw [if_neg ω,if_neg ω];exact Xt4 x ω)
 clear b0 b1 hg hn aR bI hf6 hB
 go_enter Tryz.func29,Tryz.ntmps29
 go_upto_region 1 with fail
 rw [<-hW]
 have HW:=Lh hW
 clear hW
 go_upto_region 2 with (with_reducible refine X2q rfl 2 (.tmp 5) (.tmp 7) rfl (c:=fun x=>if x=W.heap.size then 2 else if x=w.heap.size+1 then 5 else Xti w.heap.size x) W.heap.size bX.o rfl va gn vc m.globals B rfl cA.o cL (if_pos rfl) δ aV.o ?_;intro gg aB w2 c2 hI hC aF;have HI:=Lh hI;have HC:=Lh hC;have HH:=Lh aF;clear hI hC aF)
 obtain ⟨W3,aL⟩:∃ V,V=w2.alloc (χ #[σ (some (π gg 0)) gn aB,ν] 28):=⟨_,rfl⟩
 have aI:Hid (Xzh m w w.heap.size (w.heap.size+1) w2.heap.size 0 #[σ va gn vc,σ na nn nc] (σ (some (π gg 0)) gn aB) ν (fun x=>if x=w2.heap.size then 4 else c2 x) [] W3):=Lh (by
  have hz:=bJ.o
  have hP:Chg NO c2 (fun x=>if x=w2.heap.size then 4 else c2 x) w2 W3:=Chg.paint _ _ (by rw [aL];exact Xa _ _) (Nr _)
  have h2:=HC.o.size
  have hE:(W.alloc (χ #[] 3)).heap.size=W.heap.size+1:=by simp
  have aQ:∀ b v,b<W.heap.size->(if b=w.heap.size+1 then 5 else Xti w.heap.size b)≠2->W.heap[b]?=v->W3.heap[b]?=v:=fun b v hb hc hv=>by
   rw [hP.keep b ω (no _),HC.o.keep b ω (by rw [if_neg ω];exact hc),Ha _ _ _ hb];exact hv
  have cl:∀ b,b<W.heap.size->(if b=w2.heap.size then 4 else c2 b)=(if b=w.heap.size+1 then 5 else Xti w.heap.size b):=fun b hb=>by
   rw [if_neg ω,HC.o.old b ω,if_neg ω]
  refine ⟨HI.o.keep hP (no _),V3.nil _ _ _ _ _,(bV.o.ntm.trans (HC.o.tm δ δ)).trans hP.ntm,fun b hb=>?_,by rw [aL];exact Hn _ _,if_pos rfl,aQ _ _ ω (by rw [if_pos rfl];decide) B1.o,?_,aQ _ _ ω (by rw [if_neg ω,Xt4 _ (Nr _)];decide) B0.o,?_,fun i x hi=>by omega,rfl⟩
  ·have cP:w2.heap.size+1<=b:=by rw [aL] at hb;simpa using hb
   show (if _ then _ else _)=_
   rw [if_neg ω];exact HH.o b ω
  ·exact (cl _ ω).trans (if_pos rfl)
  ·exact (cl _ ω).trans (by rw [if_neg ω];exact Xt4 _ (Nr _)))
 obtain ⟨bo,bC⟩:∃ b,b=w2.heap.size:=⟨_,rfl⟩
 rw [<-aL,<- bC]
 rw [<-bC] at aI
 clear aL bC i0 zi
 have i1:=Cw aI.o.inp 1 rfl
 have zi:=Bl i1
 go_wp2_with fail
 clear i1 zi
 go_loopw [4] (fun i wr=>∃ k:Nat,k<=nn/\i=ι k/\Hid (∃ a cap c xs,Xzh m w w.heap.size (w.heap.size+1) bo k #[σ va gn vc,σ na nn nc] (σ (some (π gg 0)) gn aB) (σ a k cap) c xs wr)) (fun i _=>nn - (intOf i).toNat)
 case atStart=>exact ⟨0,Nat.zero_le _,rfl,Lh ⟨_,_,_,_,aI.o⟩⟩
 case round=>
  obtain ⟨k,hk,rfl,aT⟩:=hrel
  obtain ⟨oa,aC,c,xs,aT⟩:=aT.o
  have aA:=Lh aT
  clear aT
  by_cases cQ:k<nn
  ·obtain ⟨x,hx⟩:∃ y,m.nodes[k]?=some y:=⟨_,Lg (by have:=aX.o;omega)⟩
   have HX:=Lh hx
   have bL:Below B w wr:=(aA.o.chg.below0 X25).mono HB.o
   obtain ⟨nb,no_,cO,aN,cI⟩:∃ nb no,na=some (π nb no)/\nb<B/\Xbc B wr nb (no+k*2) x:=by
    obtain ⟨a0,aY,cK,_,_,_,hE⟩:=HN.o
    obtain ⟨rfl,_,rfl⟩:na=a0/\nn=m.nodes.length/\nc=aY:=by have:=aX.o;simpa [this] using cK
    rcases hE with h0|⟨nb,no,rfl,hb,hE⟩
    ·rw [h0] at hx;simp at hx
    ·exact ⟨nb,no,rfl,hb,(hE k x hx).below bL hb⟩
   subst cO
   obtain ⟨n0,⟨lv,n1,bH⟩,bK⟩:=cI
   obtain ⟨la,lc,rfl⟩:=bH.form
   have bR:=bY.o x (Lm hx)
   have v2:=Cw aA.o.box 1 rfl
   have v3:=Cw aA.o.inp 1 rfl
   have zi:=Bl v3
   have zb:=Bl v2
   have CN:Hid (c nb=99):=Lh (by rw [aA.o.chg.old nb (Nl aN HB.o)];exact if_pos (Nl aN HB.o))
   have zn:=Bl n0
   have cM:(0:Int)<=(k:Int):=In _
   have cN:(k:Int)<(nn:Int):=ω
   have bT:=Lh bK
   have bZ:=Lh bR
   have bM:B<=wr.heap.size:=Nt HB.o aA.o.chg.size
   have bW:Hid ((wr.alloc (χ #[] 3)).drew.heap[wr.heap.size]?=some (χ #[] 3 (0,0))):=Lh (Hn wr _)
   have aJ:Hid (Below wr.heap.size wr (wr.alloc (χ #[] 3)).drew):=Lh (Xsh wr _)
   have cF:Hid (Xf B (wr.alloc (χ #[] 3)).drew 1 Zd (σ la x.f.length lc) x.f):=Lh (bH.ints (aJ.o.mono bM))
   have HP:Hid (Chg NO c (fun y=>if y=wr.heap.size then 10+5*k else c y) wr (wr.alloc (χ #[] 3)).drew):=Lh (Chg.paint _ _ aJ.o (Nr _))
   have cD:Hid (∀ y,(wr.alloc (χ #[] 3)).drew.heap.size<=y->(fun y=>if y=wr.heap.size then 10+5*k else c y) y=0):=Lh (fun y hy=>by
    have cR:wr.heap.size+1<=y:=by simpa using hy
    show (if _ then _ else _)=_
    rw [if_neg ω];exact aA.o.hi y ω)
   clear hx bL bH bK bR bM
   go_upto_region 5 with fail
   refine X6 (fun Vs=>Vs.cell? (π nb (no_+k*2))=some (ι x.type)/\Vs.cell? (π nb (no_+k*2+1))=some (σ la x.f.length lc)/\Vs.cell? (π bo 1)=some (σ oa k aC)/\Vs.cell? (π w.heap.size 1)=some (σ (some (π nb no_)) nn nc)) [8,15,16,17,18,20] true 21 rfl κ κ ⟨n0,n1,v2,v3⟩ ?_
   repeat (first|(refine' Xr4.take (Eq.refl false) _ (fun wV bA=>?_) ?_;rotate_left;(try dsimp only at bA);go_simp;(try with_reducible rfl);try simp only [Ap])|refine Xr4.skip (Eq.refl true) ?_)
   refine Xr4.stop ?_
   simp only [List.nil_append,List.cons_append]
   have HS:=Lh (And.intro n0 (And.intro n1 (And.intro v2 v3)))
   clear n0 n1 v2 v3 zn cM cN zi zb
   refine X5 κ ?_
   go_simp
   refine ⟨⟨Xc (Xa _ _) HS.o.1,Xc (Xa _ _) HS.o.2.1,Xc (Xa _ _) HS.o.2.2.1,Xc (Xa _ _) HS.o.2.2.2⟩,?_⟩
   refine X5 κ ?_
   refine Xtj (10+5*k) (.tmp 25) (.tmp 31) rfl (c:=fun y=>if y=wr.heap.size then 10+5*k else c y) wr.heap.size bW.o rfl la x.f.length lc x.f B rfl cF.o bZ.o (if_pos rfl) ω cD.o (fun g1 c1 w8 c8 hI hC aF=>?_)
   have cE:=Lh hI
   have bU:=Lh hC
   have cC:=Lh aF
   have bF:∀ y,y<wr.heap.size->(if y=wr.heap.size then 10+5*k else c y)=c y:=fun y hy=>if_neg ω
   have aO:=Bl HS.o.1
   have aM:=Bl HS.o.2.2.2
   have bE:¬(if nb=wr.heap.size then 10+5*k else c nb)=10+5*k:=by
    rw [bF nb aO,CN.o];omega
   have bQ:¬(if w.heap.size=wr.heap.size then 10+5*k else c w.heap.size)=10+5*k:=by
    rw [bF _ aM,aA.o.cbi];omega
   have bP:¬(fun y=>if y=wr.heap.size then 10+5*k else c y) bo=10+5*k:=by
    have:=(La aA.o.box)
    show ¬(if _ then _ else _)=_
    rw [if_neg ω,aA.o.cbo];omega
   have e0:=hC.cell (Xc aJ.o HS.o.1) bE
   have e1:=hC.cell (Xc aJ.o HS.o.2.1) bE
   have e2:=hC.cell (Xc aJ.o HS.o.2.2.1) bP
   have e3:=hC.cell (Xc aJ.o HS.o.2.2.2) bQ
   have aD:=Lh (And.intro e0 (And.intro e1 (And.intro e2 e3)))
   clear hI hC aF bE bP bQ bF aO aM e0 e1 e2 e3
   refine ⟨.inl aD.o,?_⟩
   (refine' Z6 κ _ (fun wV bA=>?_) ?_;rotate_left;(clear bA;go_simp);(try with_reducible rfl);try simp only [Ap])
   refine X5 κ ?_
   go_simp
   refine ⟨⟨Xc (Xa _ _) aD.o.1,Xc (Xa _ _) aD.o.2.1,Xc (Xa _ _) aD.o.2.2.1,Xc (Xa _ _) aD.o.2.2.2⟩,?_⟩
   have aK:Hid (Chg (fun t=>t=10+5*k) c c8 wr w8):=Lh ((HP.o.mono (fun t h=>h.elim) ω).trans bU.o)
   have aU:Hid (Chg (fun t=>t=10+5*k) c c8 wr (w8.alloc (χ #[ι x.type,σ (some (π g1 0)) x.f.length c1] 74))):=Lh (aK.o.trans (Chg.of_below (Xa _ _) ω))
   have aW:Hid (∀ b,(w8.alloc (χ #[ι x.type,σ (some (π g1 0)) x.f.length c1] 74)).heap.size<=b->c8 b=0):=Lh (fun b hb=>cC.o b (by simp at hb;omega))
   refine X5 κ ?_
   refine Xsy (fun t=>t=3) (.tmp 18) (.tmp 34) 26 74 rfl Tryz.underlying26 Xwg rfl δ δ (c:=c8) (tag:=3) (v:=σ oa k aC) (n:=k) (xs:=xs) rfl (aA.o.row.keep aU.o ω) (π w8.heap.size 0) 1 1 [ι x.type,σ (some (π g1 0)) x.f.length c1] rfl rfl (fun j u hu=>(Xso w8 _ _ j).trans (by simpa using hu)) (by simp [Value.oneCell']) δ ω rfl δ aW.o (fun g3 aZ w9 c9 aP hC aF cJ=>?_)
   have bS:=aA.o.next HX.o bT.o aK.o cE.o hC aF aP
   have aS:=(La aA.o.box)
   have aO:=Bl HS.o.1
   have aM:=Bl HS.o.2.2.2
   have aE:¬c8 nb=3:=by rw [aK.o.old _ aO,CN.o];decide
   have bO:¬c8 w.heap.size=3:=by rw [aK.o.old _ aM,aA.o.cbi];decide
   have bD:¬c8 bo=3:=by rw [aK.o.old _ aS,aA.o.cbo];decide
   have q0:=hC.cell (Xc (Xa _ _) aD.o.1) aE
   have q1:=hC.cell (Xc (Xa _ _) aD.o.2.1) aE
   have q2:=hC.cell (Xc (Xa _ _) aD.o.2.2.1) bD
   have q3:=hC.cell (Xc (Xa _ _) aD.o.2.2.2) bO
   have qf:w9.frozen? (π bo 1)=false:=hC.frozen (Nl aS aU.o.size) (aU.o.frozen aS (Fz aA.o.box) (by show ¬c bo=_;rw [aA.o.cbo];omega)) bD
   refine ⟨.inl ⟨q0,q1,q2,q3⟩,?_⟩
   have cH:=Lh bS
   clear aP hC aF cJ bS aE bD bO aO aM q0 q1 q3 aS
   refine X5 κ ?_
   go_simp
   refine Xr3 ?_
   obtain ⟨W9,bN⟩:∃ u,u=w9.setCell (π bo 1) (σ (some (π g3 0)) (k+1) aZ):=⟨_,rfl⟩
   have aG:=cH.o
   rw [<-bN] at aG ⊢
   have cG:=Lh aG
   clear aG bN q2 qf
   go_wp2
   go_roundw
   case rel=>exact ⟨k+1,ω,by go_num,Lh ⟨_,_,_,_,cG.o⟩⟩
   case measure=>simp [intOf];omega
  ·obtain rfl:k=nn:=ω
   have bG:Hid (Xwp m w (.returned (.agg #[σ (some (π gg 0)) gn aB,σ oa k aC])) ((wr.setCell (π (w.heap.size+1) 0) (σ (some (π gg 0)) gn aB)).setCell (π (w.heap.size+1) 1) (σ oa k aC))):=Lh (by
    have h:=aA.o
    rw [aX.o,cB.o] at h ⊢
    exact h.post)
   have aE:=aA.o.box
   have aH:=aA.o.res
   have v3:=Cw aA.o.inp 1 rfl
   have zi:=Bl v3
   have k0:=Cw aE 0 rfl
   have k1:=Cw aE 1 rfl
   have r0:=Cw aH 0 rfl
   have r1:=Cw aH 1 rfl
   have q0:wr.frozen? (π (w.heap.size+1) 0)=false:=Fz aH
   have q1:wr.frozen? (π (w.heap.size+1) 1)=false:=Fz aH
   have y1:=(La aH)
   have y2:=(La aE)
   have Q1:Hid (((wr.setCell (π (w.heap.size+1) 0) (σ (some (π gg 0)) gn aB)).setCell (π (w.heap.size+1) 1) (σ oa k aC)).heap[w.heap.size+1]?=some (χ #[σ (some (π gg 0)) gn aB,σ oa k aC] 28 (0,0))):=Lh (by
    have h1:=heap_setCell_same wr (w.heap.size+1) 0 _ _ (σ (some (π gg 0)) gn aB) aH
    exact heap_setCell_same _ (w.heap.size+1) 1 _ _ (σ oa k aC) h1)
   clear aE aH
   go_wp2
   exact bodyPost_ret (v:=.agg #[σ (some (π gg 0)) gn aB,σ oa k aC]) (Xx4 (p:=2) rfl Q1.o _ rfl) rfl bG.o
