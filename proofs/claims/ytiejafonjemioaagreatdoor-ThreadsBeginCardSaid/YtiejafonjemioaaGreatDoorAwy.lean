import Derived.Test.YtiejafonjemioaaGreatDoorAwx
set_option maxHeartbeats 8000000
set_option maxRecDepth 1000000
set_option linter.unusedVariables false
set_option linter.unusedSimpArgs false
open Go.Value renaming slice→σ
open Go.Obj renaming cells→χ
namespace Go.Proofs.YtiejafonjemioaaGreatDoor
open Go.RowKit
def X3x (i:Nat):Option Tmp:=if i=0 then some 24 else if i=2 then some 26 else if i=3 then some 27 else if i=4 then some 23 else if i=5 then some 28 else if i=6 then some 29 else if i=7 then some 30 else if i=8 then some 4 else if i=10 then some 5 else if i=11 then some 6 else none
def X30 (i:Nat):Option Tmp:=if i=0 then some 32 else if i=2 then some 34 else if i=3 then some 35 else if i=4 then some 31 else if i=5 then some 36 else if i=6 then some 37 else if i=7 then some 38 else if i=8 then some 7 else if i=10 then some 8 else if i=11 then some 9 else none
theorem Xxl (w:World) (a b c d:Int) (h:in64 a/\in64 b/\in64 c/\in64 d):Xf (w.alloc (χ #[ι a,ι b,ι c,ι d] 3)).heap.size (w.alloc (χ #[ι a,ι b,ι c,ι d] 3)) 1 Zd (σ (some (π w.heap.size 0)) 4 4) [a,b,c,d]:=by
 refine ⟨_,4,rfl,ψ,ψ,ω,.inr ⟨_,0,rfl,ψ,fun i x hx=>?_⟩⟩
 have aA:∀ (j:Nat) v,(#[ι a,ι b,ι c,ι d]:Array Value)[j]?=some v->(w.alloc (χ #[ι a,ι b,ι c,ι d] 3)).cell? (π w.heap.size j)=some v:=fun j v hv=>(Y5 w _ _ j).trans hv
 rw [Nat.zero_add,Nat.mul_one]
 match i,hx with
 | 0,hx=>cases hx;exact ⟨aA 0 _ rfl,h.1⟩
 | 1,hx=>cases hx;exact ⟨aA 1 _ rfl,h.2.1⟩
 | 2,hx=>cases hx;exact ⟨aA 2 _ rfl,h.2.2.1⟩
 | 3,hx=>cases hx;exact ⟨aA 3 _ rfl,h.2.2.2⟩
 | i+4,hx=>cases hx
theorem X18 {B:Nat} {w:World} {b0 b1 b2:Nat} (h0:w.heap[b0]?=some (χ #[.string ⟨#[97,100,100]⟩,ν] 80 (0,0))) (h1:w.heap[b1]?=some (χ #[.string ⟨#[97,100,100]⟩,ν] 80 (0,0))) (h2:w.heap[b2]?=some (χ #[σ (some (π b0 0)) 1 1,σ (some (π b1 0)) 1 1] 54 (0,0))) (k0:b0<B) (k1:b1<B) (k2:b2<B):Xf B w 1 (Xsa 2 (Xsr B) B) (σ (some (π b2 0)) 2 2) Xvz:=by
 have aA:∀ b,b<B->w.heap[b]?=some (χ #[.string ⟨#[97,100,100]⟩,ν] 80 (0,0))->Xf B w 2 (Xsr B) (σ (some (π b 0)) 1 1) [adX]:=fun b hb h=>by
  refine ⟨_,1,rfl,ψ,ψ,ω,.inr ⟨_,0,rfl,hb,fun i x hx=>?_⟩⟩
  match i,hx with
  | 0,hx=>
   cases hx
   exact ⟨Cr h rfl,⟨ν,Cr h rfl,none,0,rfl,by simp [adX],by simp [adX],ω,.inl rfl⟩,δ⟩
  | i+1,hx=>cases hx
 refine ⟨_,2,rfl,by simp [Xvz],by simp [Xvz],ω,.inr ⟨_,0,rfl,k2,fun i x hx=>?_⟩⟩
 match i,hx with
 | 0,hx=>cases hx;exact ⟨_,Cr h2 rfl,aA b0 k0 h0⟩
 | 1,hx=>cases hx;exact ⟨_,Cr h2 rfl,aA b1 k1 h1⟩
 | i+2,hx=>cases hx
theorem Jl (w:World) (hL:Qa w):Calls Tryz.prog 7 #[] w (BoI true w):=by
 have HL:=Lh hL
 obtain ⟨W,hW⟩:∃ W,W=((w.alloc (χ #[.string ⟨#[97,100,100]⟩,ν] 80)).alloc (χ #[.string ⟨#[97,100,100]⟩,ν] 80)).alloc (χ #[σ (some (π w.heap.size 0)) 1 1,σ (some (π (w.heap.size+1) 0)) 1 1] 54):=⟨_,rfl⟩
 have cP:Hid (Below w.heap.size w W):=by rw [hW];exact Lh (((Xa _ _).then (Xa _ _)).then (Xa _ _))
 have dF:Hid (W.heap.size=w.heap.size+3):=by rw [hW];exact Lh ψ
 have h0:Hid (W.heap[w.heap.size]?=some (χ #[.string ⟨#[97,100,100]⟩,ν] 80 (0,0))):=Lh (by
  rw [hW,Ha _ _ _ φ,Ha _ _ _ ψ]
  exact Hn _ _)
 have h1:Hid (W.heap[w.heap.size+1]?=some (χ #[.string ⟨#[97,100,100]⟩,ν] 80 (0,0))):=Lh (by
  rw [hW,Ha _ _ _ ψ]
  have:=Hn (w.alloc (χ #[.string ⟨#[97,100,100]⟩,ν] 80)) (χ #[.string ⟨#[97,100,100]⟩,ν] 80)
  rw [show (w.alloc (χ #[.string ⟨#[97,100,100]⟩,ν] 80)).heap.size=w.heap.size+1 by simp] at this
  exact this)
 have h2:Hid (W.heap[w.heap.size+1+1]?=some (χ #[σ (some (π w.heap.size 0)) 1 1,σ (some (π (w.heap.size+1) 0)) 1 1] 54 (0,0))):=Lh (by
  rw [hW]
  have:=Hn ((w.alloc (χ #[.string ⟨#[97,100,100]⟩,ν] 80)).alloc (χ #[.string ⟨#[97,100,100]⟩,ν] 80)) (χ #[σ (some (π w.heap.size 0)) 1 1,σ (some (π (w.heap.size+1) 0)) 1 1] 54)
  rw [show ((w.alloc (χ #[.string ⟨#[97,100,100]⟩,ν] 80)).alloc (χ #[.string ⟨#[97,100,100]⟩,ν] 80)).heap.size=w.heap.size+1+1 by simp] at this
  exact this)
 have cX:Hid (∀ V,Below W.heap.size W V->Xf V.heap.size V 1 (Xsa 2 (Xsr V.heap.size) V.heap.size) (σ (some (π (w.heap.size+1+1) 0)) 2 2) Xvz):=Lh (fun V hV=>by
  have h:=dF.o
  have hs:=hV.size
  exact X18 ((hV.block _ ω).trans h0.o) ((hV.block _ ω).trans h1.o) ((hV.block _ ω).trans h2.o) ω ω ω)
 clear hL
 go_enter Tryz.func7,Tryz.ntmps7
 go_upto_region 2 with fail
 rw [<-hW]
 clear hW
 go_wp2_with fail
 refine (Xvs W).mono ?_
 rintro e w1 ⟨fa,qa,fc,qc,rfl,cO,cQ⟩
 have cW:=Lh cO
 have cT:=Lh cQ
 clear cO cQ
 obtain ⟨V1,bI⟩:∃ V,V=w1.alloc (χ #[ι 0] 3):=⟨_,rfl⟩
 have bN:Hid (Below w1.heap.size w1 V1):=by rw [bI];exact Lh (Xa _ _)
 have aY:Hid (V1.cell? (π w1.heap.size 0)=some (ι 0)):=Lh (by rw [bI,Y5];rfl)
 have cA:Hid (w1.heap.size<V1.heap.size):=Lh (Bl aY.o)
 have bJ:=Lh (cT.o.then bN.o)
 have cY:Hid (MmV V1.heap.size V1 (.agg #[σ (some (π w1.heap.size 0)) 1 1,ν]) ⟨[0],[]⟩):=Lh ⟨_,_,rfl,⟨_,1,rfl,ψ,ψ,ω,.inr ⟨_,0,rfl,cA.o,fun i x hx=>by
  match i,hx with
  | 0,hx=>cases hx;exact ⟨aY.o,by unfold in64;omega⟩
  | i+1,hx=>cases hx⟩⟩,⟨none,0,rfl,ψ,ψ,ω,.inl rfl⟩⟩
 go_wp2_with fail
 rw [<-bI]
 clear bI
 refine (X1o adC ⟨[0],[]⟩ Xvz 5 _ _ _ V1 (HL.o.below (cP.o.then bJ.o)) ((cW.o.below bN.o).up bN.o.size) cY.o (cX.o V1 bJ.o) (by unfold in64;omega) ⟨ψ,ψ,ψ,fun l hl x hx=>by
  simp only [Xvz,List.mem_cons,List.not_mem_nil,or_false,or_self] at hl
  subst hl
  simp only [List.mem_cons,List.not_mem_nil,or_false] at hx
  subst hx
  simp [adX]⟩).mono ?_
 rintro e w2 ⟨aR,hN⟩
 rcases hN with ⟨dE,-⟩|⟨-,v,rfl,hV⟩
 ·exact absurd X3n dE
 rw [Xz3] at hV
 obtain ⟨s,hs⟩:∃ s,s=Xzs:=⟨_,rfl⟩
 rw [<-hs] at hV
 have aQ:=Lh hs
 clear hs
 obtain ⟨ga,gc,ma,mc,ra,rc,na,nc,ca,cc,oa,oc,ba,bc,ea,ec,rfl⟩:=hV.open_
 have cZ:=Lh hV
 have cU:=Lh ((cP.o.then bJ.o).then aR)
 clear hV aR
 obtain ⟨A,hA⟩:∃ V,V=w2.alloc (χ (Bt ga gc ma mc ra rc na nc ca cc oa oc ba bc ea ec s) 34):=⟨_,rfl⟩
 have HA:Hid (Below w2.heap.size w2 A):=by rw [hA];exact Lh (Xa _ _)
 have aU:Hid (A.heap[w2.heap.size]?=some (χ (Bt ga gc ma mc ra rc na nc ca cc oa oc ba bc ea ec s) 34 (0,0))):=by rw [hA];exact Lh (Hn _ _)
 have cL:=Lh (cU.o.then HA.o)
 obtain ⟨b2,aR⟩:∃ b,b=w2.heap.size:=⟨_,rfl⟩
 go_upto_region 3 with fail
 rw [<-hA,<- aR]
 rw [<-aR] at aU
 clear hA aR
 have bH:Hid (∀ V,Below A.heap.size A V->V.cell? (π b2 0)=some (σ ga s.mem.globals.length gc)/\V.cell? (π b2 1)=some (σ ma s.mem.nodes.length mc)/\V.cell? (π b2 2)=some (ι s.fuel)/\V.cell? (π b2 3)=some (σ ra s.running.length rc)/\V.cell? (π b2 4)=some (σ na s.nodes.length nc)/\V.cell? (π b2 5)=some (σ ca s.calls.length cc)/\V.cell? (π b2 6)=some (σ oa s.results.length oc)/\V.cell? (π b2 7)=some (σ ba s.begins.length bc)/\V.cell? (π b2 8)=some (σ ea s.ends.length ec)/\V.cell? (π b2 9)=some (ι s.step)):=Lh (fun V hV=>by
  have hr:=(hV.block b2 (La aU.o)).trans aU.o
  exact (ten hr).1)
 have cM:Hid (∀ V,Below A.heap.size A V->Qa V/\Xsd V.heap.size V (.agg (Bt ga gc ma mc ra rc na nc ca cc oa oc ba bc ea ec s)) s):=Lh (fun V hV=>by
  have hb:=HA.o.then hV
  exact ⟨HL.o.below (cL.o.then hV),(cZ.o.below hb).ups hb.size (fun _ _ h=>h)⟩)
 obtain ⟨x0,x1,x2,x3,x4,x5,x6,x7,x8,x9⟩:=bH.o A Br
 have aB:Hid (∀ V,Below A.drew.heap.size A.drew V->V.cell? (π b2 0)=some (σ ga s.mem.globals.length gc)/\V.cell? (π b2 1)=some (σ ma s.mem.nodes.length mc)/\V.cell? (π b2 2)=some (ι s.fuel)/\V.cell? (π b2 3)=some (σ ra s.running.length rc)/\V.cell? (π b2 4)=some (σ na s.nodes.length nc)/\V.cell? (π b2 5)=some (σ ca s.calls.length cc)/\V.cell? (π b2 6)=some (σ oa s.results.length oc)/\V.cell? (π b2 7)=some (σ ba s.begins.length bc)/\V.cell? (π b2 8)=some (σ ea s.ends.length ec)/\V.cell? (π b2 9)=some (ι s.step)):=Lh (fun V hV=>bH.o V ((Xh (Below.refl _ A) 1).then hV))
 have aV:Hid (∀ V,Below A.drew.heap.size A.drew V->Qa V/\Xsd V.heap.size V (.agg (Bt ga gc ma mc ra rc na nc ca cc oa oc ba bc ea ec s)) s):=Lh (fun V hV=>cM.o V ((Xh (Below.refl _ A) 1).then hV))
 refine X6 (fun Vs=>Vs.cell? (π b2 0)=some (σ ga s.mem.globals.length gc)/\Vs.cell? (π b2 1)=some (σ ma s.mem.nodes.length mc)/\Vs.cell? (π b2 2)=some (ι s.fuel)/\Vs.cell? (π b2 3)=some (σ ra s.running.length rc)/\Vs.cell? (π b2 4)=some (σ na s.nodes.length nc)/\Vs.cell? (π b2 5)=some (σ ca s.calls.length cc)/\Vs.cell? (π b2 6)=some (σ oa s.results.length oc)/\Vs.cell? (π b2 7)=some (σ ba s.begins.length bc)/\Vs.cell? (π b2 8)=some (σ ea s.ends.length ec)/\Vs.cell? (π b2 9)=some (ι s.step)) [0,2,3,4,5,6,7,8,9,10,11] false 12 rfl κ κ ⟨x0,x1,x2,x3,x4,x5,x6,x7,x8,x9⟩ ?_
 repeat (first|(refine' Xr4.take (Eq.refl false) _ (fun wV bZ=>?_) ?_;rotate_left;(try dsimp only at bZ);go_simp;(try with_reducible rfl);try simp only [Ap])|refine Xr4.skip (Eq.refl true) ?_)
 refine Xr4.stop ?_
 simp only [List.nil_append,List.cons_append]
 clear x0 x1 x2 x3 x4 x5 x6 x7 x8 x9
 refine Xz4 (fun a0 aM=>?_)
 have aT:=Lh aM
 have aC:Hid (a0.tmps.size=87):=Lh (by rw [aM];kernel_rfl)
 have aS:Hid (a0.tmps[25]?.getD undef=.agg (Bt ga gc ma mc ra rc na nc ca cc oa oc ba bc ea ec s)):=Lh (by rw [aM];rfl)
 clear aM
 refine Xyc _ (fun done a q=>∃ f,AwI X3x Xvk 2 [0,0,1,1] A.drew a0 done a q f) ⟨_,AwI.start X3x Xvk 2 [0,0,1,1] A.drew a0⟩ ?_ ?_ ?_
 ·show List.Nodup [0,2,3,4,5,6,7,8,9,10,11]
  decide
 ·rintro p hp done a q hd hw ⟨f,hI⟩
  have HI:=Lh hI
  rcases List.mem_cons.1 hp with rfl|hp
  ·go_simp
   refine (Xvs q).mono ?_
   rintro e w' ⟨fa,qa,fc,qc,rfl,hC,hb⟩
   exact ⟨aB.o w' (hI.below.then hb),_,hI.next hd δ _ hb (n0:=fun _=>⟨fa,fc,qa,qc,rfl,hC⟩)⟩
  rcases List.mem_cons.1 hp with rfl|hp
  ·go_simp
   exact ⟨aB.o _ (hI.below.then (Xa _ _)),_,hI.next hd δ _ (Xa _ _) (n2:=fun _=>⟨_,_,rfl,Xxl q 0 0 1 1 (by unfold in64;omega)⟩)⟩
  rcases List.mem_cons.1 hp with rfl|hp
  ·obtain ⟨fa,fc,qa,qc,e0,hC⟩:=hI.c0 (hw _ (.head _) κ) hd
   obtain ⟨la,lc,e2,aP⟩:=hI.c2 (hw _ (.tail _ (.head _)) κ) hd
   have bS:a.tmps[24]?.getD undef=f 0:=hI.at_ (hw _ (.head _) κ) (i:=0) (d:=24) rfl (by rw [aC.o];decide) δ
   have bU:a.tmps[26]?.getD undef=f 2:=hI.at_ (hw _ (.tail _ (.head _)) κ) (i:=2) (d:=26) rfl (by rw [aC.o];decide) δ
   have dA:a.tmps[25]?.getD undef=.agg (Bt ga gc ma mc ra rc na nc ca cc oa oc ba bc ea ec s):=hI.other δ aS.o
   rw [e0] at bS hC
   rw [e2] at bU aP
   have bK:=Lh hC
   have bM:=Lh aP
   have aO:=Lh hI.below
   clear e0 e2 hC aP hI hw hp
   go_simp
   refine (Xyi adC _ _ _ s [0,0,1,1] q ((aV.o q aO.o).1) Xx7 bK.o (aV.o q aO.o).2 bM.o (fun _=>by rw [aQ.o];exact Xyy)).mono ?_
   rintro e w' ⟨hb,hR⟩
   rcases hR with ⟨hn,-⟩|⟨-,h4,-⟩|⟨-,-,i,s',v,hp,hi,rfl,hV⟩
   ·exact absurd (by rw [aQ.o];exact X0w) hn
   ·exact absurd h4 ψ
   ·rw [aQ.o] at hp
    obtain ⟨rfl,rfl⟩:=X2a hp hi
    obtain ⟨dC,bY,cD,cE,cJ,cK,cF,cG,bQ,bR,cH,cI,bO,bP,bT,bX,rfl⟩:=hV.open_
    obtain ⟨gb,go_,rfl,-,cC,-⟩:=hV.parts.1.nth (k:=0) (x:=2) rfl
    exact ⟨aB.o w' (aO.o.then hb),_,HI.o.next hd δ _ hb (n3:=fun _=>⟨gb,go_,bY,cD,cE,cJ,cK,cF,cG,bQ,bR,cH,cI,bO,bP,bT,bX,rfl,by simpa using cC⟩)⟩
  rcases List.mem_cons.1 hp with rfl|hp
  ·have dB:a.tmps[27]?.getD undef=f 3:=hI.at_ (hw _ (.tail _ (.tail _ (.head _))) κ) (i:=3) (d:=27) rfl (by rw [aC.o];decide) δ
   have hS:=aB.o q hI.below
   have aD:=Lh hS
   have H3:=Lh (hw _ (.tail _ (.tail _ (.head _))) κ)
   clear hS hw hp
   go_simp
   exact ⟨aD.o,_,hI.next hd δ (f 3) Br (n4:=fun _=>⟨rfl,H3.o⟩)⟩
  rcases List.mem_cons.1 hp with rfl|hp
  ·obtain ⟨aH,aE⟩:=hI.c4 (hw _ (.tail _ (.tail _ (.tail _ (.head _)))) κ)
   obtain ⟨g,o,gc,ma,mc,ra,rc,na,nc,ca,cc,oa,oc,ba,bc,ea,ec,e3,-⟩:=hI.c3 aE
   have aK:a.tmps[23]?.getD undef=f 4:=hI.at_ (hw _ (.tail _ (.tail _ (.tail _ (.head _)))) κ) (i:=4) (d:=23) rfl (by rw [aC.o];decide) δ
   rw [aH,e3] at aK
   have E3:=Lh e3
   have aN:=Lh aE
   have aD:=Lh (aB.o q hI.below)
   clear aH aE e3 hw hp hI
   go_simp
   exact ⟨aD.o,_,HI.o.next hd δ (.agg #[σ (some (π g o)) Xvk.mem.globals.length gc,σ ma Xvk.mem.nodes.length mc,ι Xvk.fuel,σ ra Xvk.running.length rc,σ na Xvk.nodes.length nc,σ ca Xvk.calls.length cc,σ oa Xvk.results.length oc,σ ba Xvk.begins.length bc,σ ea Xvk.ends.length ec,ι Xvk.step]) Br (n5:=fun _=>⟨aN.o,_,_,E3.o⟩)⟩
  rcases List.mem_cons.1 hp with rfl|hp
  ·obtain ⟨aH,aE⟩:=hI.c4 (hw _ (.tail _ (.tail _ (.tail _ (.head _)))) κ)
   obtain ⟨g,o,gc,ma,mc,ra,rc,na,nc,ca,cc,oa,oc,ba,bc,ea,ec,e3,-⟩:=hI.c3 aE
   have aK:a.tmps[23]?.getD undef=f 4:=hI.at_ (hw _ (.tail _ (.tail _ (.tail _ (.head _)))) κ) (i:=4) (d:=23) rfl (by rw [aC.o];decide) δ
   rw [aH,e3] at aK
   have E3:=Lh e3
   have aN:=Lh aE
   have aD:=Lh (aB.o q hI.below)
   clear aH aE e3 hw hp hI
   go_simp
   exact ⟨aD.o,_,HI.o.next hd δ (ι 4) Br (n6:=fun _=>rfl)⟩
  rcases List.mem_cons.1 hp with rfl|hp
  ·obtain ⟨aH,aE⟩:=hI.c4 (hw _ (.tail _ (.tail _ (.tail _ (.head _)))) κ)
   obtain ⟨g,o,gc,ma,mc,ra,rc,na,nc,ca,cc,oa,oc,ba,bc,ea,ec,e3,-⟩:=hI.c3 aE
   have aK:a.tmps[23]?.getD undef=f 4:=hI.at_ (hw _ (.tail _ (.tail _ (.tail _ (.head _)))) κ) (i:=4) (d:=23) rfl (by rw [aC.o];decide) δ
   rw [aH,e3] at aK
   have E3:=Lh e3
   have aN:=Lh aE
   have aD:=Lh (aB.o q hI.below)
   clear aH aE e3 hw hp hI
   go_simp
   exact ⟨aD.o,_,HI.o.next hd δ (ι 0) Br (n7:=fun _=>rfl)⟩
  rcases List.mem_cons.1 hp with rfl|hp
  ·have h9:9∉done:=fun h=>hd (HI.o.d8 h)
   clear hw hp
   go_simp
   exact ⟨aB.o _ (hI.below.then (Xa _ _)),_,hI.next hd δ _ (Xa _ _) (n8:=fun _=>⟨_,rfl,hI.below.size,h9,Hn _ _⟩)⟩
  rcases List.mem_cons.1 hp with rfl|hp
  ·have h8:=hw _ (.tail _ (.tail _ (.tail _ (.tail _ (.tail _ (.tail _ (.tail _ (.head _)))))))) κ
   have h5:=hw _ (.tail _ (.tail _ (.tail _ (.tail _ (.head _))))) κ
   have h3:=hw _ (.tail _ (.tail _ (.head _))) κ
   have bW:a.tmps[4]?.getD undef=f 8:=hI.at_ (h8) (i:=8) (d:=4) rfl (by rw [aC.o];decide) δ
   have bV:a.tmps[28]?.getD undef=f 5:=hI.at_ (h5) (i:=5) (d:=28) rfl (by rw [aC.o];decide) δ
   obtain ⟨g,o,gc,ma,mc,ra,rc,na,nc,ca,cc,oa,oc,ba,bc,ea,ec,bo,e8,e5,aF,aL⟩:=hI.store δ hd h8 h5 h3
   have cB:¬bo=b2:=by
    obtain ⟨b',e',hg,-⟩:=hI.c8 h8
    rw [e8] at e'
    cases e'
    have h1:b2<A.heap.size:=(La aU.o)
    have h2:A.heap.size<=bo:=hg
    omega
   have dD:¬b2=bo:=fun e=>cB e.symm
   obtain ⟨t0,t1,t2,t3,t4,t5,t6,t7,t8,t9⟩:=aB.o q hI.below
   rw [e8] at bW
   rw [e5] at bV
   obtain ⟨⟨y0,y1,y2,y3,y4,y5,y6,y7,y8,y9⟩,⟨z0,z1,z2,z3,z4,z5,z6,z7,z8,z9⟩,zz⟩:=ten aF
   have bL:=Lh (aL undef)
   clear hw hp hI HI aL aF e8 e5 h8 h5 h3 hd
   go_simp
   have hx:=bL.o
   rw [show a.put (X3x 9) undef=a from rfl] at hx
   unfold Xr6 at hx
   exact ⟨_,hx⟩
  rcases List.mem_cons.1 hp with rfl|hp
  ·have h6:=hw _ (.tail _ (.tail _ (.tail _ (.tail _ (.tail _ (.head _)))))) κ
   have es:a.tmps[29]?.getD undef=f 6:=hI.at_ (h6) (i:=6) (d:=29) rfl (by rw [aC.o];decide) δ
   rw [hI.c6 h6] at es
   have aD:=Lh (aB.o q hI.below)
   clear hw hp hI h6
   go_simp
   exact ⟨aD.o,_,HI.o.next hd δ (ι 4) Br (n10:=fun _=>rfl)⟩
  rcases List.mem_cons.1 hp with rfl|hp
  ·have h6:=hw _ (.tail _ (.tail _ (.tail _ (.tail _ (.tail _ (.tail _ (.head _))))))) κ
   have es:a.tmps[30]?.getD undef=f 7:=hI.at_ (h6) (i:=7) (d:=30) rfl (by rw [aC.o];decide) δ
   rw [hI.c7 h6] at es
   have aD:=Lh (aB.o q hI.below)
   clear hw hp hI h6
   go_simp
   exact ⟨aD.o,_,HI.o.next hd δ (ι 0) Br (n11:=fun _=>rfl)⟩
  cases hp
 rintro done a q aA ⟨f,hI⟩
 obtain ⟨aG,aZ,g1_,o1_,gc1_,ma1_,mc1_,ra1_,rc1_,na1_,nc1_,ca1_,cc1_,oa1_,oc1_,ba1_,bc1_,ea1_,ec1_,bo1_,e8,aW,aX,aF,aI⟩:=hI.full (fun i hi=>by
  simp only [List.mem_cons,List.mem_nil_iff,or_false] at hi
  rcases hi with rfl|rfl|rfl|rfl|rfl|rfl|rfl|rfl|rfl|rfl|rfl
  ·exact aA _ (.head _)
  ·exact aA _ (.tail _ (.head _))
  ·exact aA _ (.tail _ (.tail _ (.head _)))
  ·exact aA _ (.tail _ (.tail _ (.tail _ (.head _))))
  ·exact aA _ (.tail _ (.tail _ (.tail _ (.tail _ (.head _)))))
  ·exact aA _ (.tail _ (.tail _ (.tail _ (.tail _ (.tail _ (.head _))))))
  ·exact aA _ (.tail _ (.tail _ (.tail _ (.tail _ (.tail _ (.tail _ (.head _)))))))
  ·exact aA _ (.tail _ (.tail _ (.tail _ (.tail _ (.tail _ (.tail _ (.tail _ (.head _))))))))
  ·exact aA _ (.tail _ (.tail _ (.tail _ (.tail _ (.tail _ (.tail _ (.tail _ (.tail _ (.head _)))))))))
  ·exact aA _ (.tail _ (.tail _ (.tail _ (.tail _ (.tail _ (.tail _ (.tail _ (.tail _ (.tail _ (.head _))))))))))
  ·exact aA _ (.tail _ (.tail _ (.tail _ (.tail _ (.tail _ (.tail _ (.tail _ (.tail _ (.tail _ (.tail _ (.head _)))))))))))) δ
 have aG:a=(((((((((((a0.put (some 24) (f 0)).put (some 26) (f 2)).put (some 27) (f 3)).put (some 23) (f 4)).put (some 28) (f 5)).put (some 29) (f 6)).put (some 30) (f 7)).put (some 4) (f 8)).put none (f 9)).put (some 5) (f 10)).put (some 6) (f 11)):=aG
 rw [e8,aW,aX,aT.o] at aG
 have HB1_:=Lh ((Xh (Below.refl _ A) 1).then aZ)
 have HR1_:=Lh aF
 have HE1_:=Lh aI
 clear e8 aW aX aF aI aZ hI aA aT aC aS
 subst aG
 obtain ⟨u0,bA⟩:∃ u,u=f 0:=⟨_,rfl⟩
 obtain ⟨u2,bB⟩:∃ u,u=f 2:=⟨_,rfl⟩
 obtain ⟨u3,bC⟩:∃ u,u=f 3:=⟨_,rfl⟩
 obtain ⟨u4,bD⟩:∃ u,u=f 4:=⟨_,rfl⟩
 obtain ⟨u5,bE⟩:∃ u,u=f 5:=⟨_,rfl⟩
 obtain ⟨u6,bF⟩:∃ u,u=f 6:=⟨_,rfl⟩
 obtain ⟨u7,bG⟩:∃ u,u=f 7:=⟨_,rfl⟩
 rw [<-bA,<- bB,<- bC,<- bD,<- bE,<- bF,<- bG]
 clear bA bB bC bD bE bF bG
 simp only [Ap]
 have aJ:Hid (∀ V,Below q.drew.heap.size q.drew V->V.cell? (π b2 0)=some (σ ga s.mem.globals.length gc)/\V.cell? (π b2 1)=some (σ ma s.mem.nodes.length mc)/\V.cell? (π b2 2)=some (ι s.fuel)/\V.cell? (π b2 3)=some (σ ra s.running.length rc)/\V.cell? (π b2 4)=some (σ na s.nodes.length nc)/\V.cell? (π b2 5)=some (σ ca s.calls.length cc)/\V.cell? (π b2 6)=some (σ oa s.results.length oc)/\V.cell? (π b2 7)=some (σ ba s.begins.length bc)/\V.cell? (π b2 8)=some (σ ea s.ends.length ec)/\V.cell? (π b2 9)=some (ι s.step)):=Lh (fun V hV=>bH.o V (HB1_.o.then ((Xh (Below.refl _ q) 1).then hV)))
 have cN:Hid (∀ V,Below q.drew.heap.size q.drew V->Qa V/\Xsd V.heap.size V (.agg (Bt ga gc ma mc ra rc na nc ca cc oa oc ba bc ea ec s)) s):=Lh (fun V hV=>cM.o V (HB1_.o.then ((Xh (Below.refl _ q) 1).then hV)))
 obtain ⟨A2,rfl⟩:∃ A2:World,A2=q:=⟨_,rfl⟩
 obtain ⟨x0,x1,x2,x3,x4,x5,x6,x7,x8,x9⟩:=bH.o A2 HB1_.o
 go_upto_region 4 with fail
 refine X6 (fun Vs=>Vs.cell? (π b2 0)=some (σ ga s.mem.globals.length gc)/\Vs.cell? (π b2 1)=some (σ ma s.mem.nodes.length mc)/\Vs.cell? (π b2 2)=some (ι s.fuel)/\Vs.cell? (π b2 3)=some (σ ra s.running.length rc)/\Vs.cell? (π b2 4)=some (σ na s.nodes.length nc)/\Vs.cell? (π b2 5)=some (σ ca s.calls.length cc)/\Vs.cell? (π b2 6)=some (σ oa s.results.length oc)/\Vs.cell? (π b2 7)=some (σ ba s.begins.length bc)/\Vs.cell? (π b2 8)=some (σ ea s.ends.length ec)/\Vs.cell? (π b2 9)=some (ι s.step)) [0,2,3,4,5,6,7,8,9,10,11] false 12 rfl κ κ ⟨x0,x1,x2,x3,x4,x5,x6,x7,x8,x9⟩ ?_
 repeat (first|(refine' Xr4.take (Eq.refl false) _ (fun wV bZ=>?_) ?_;rotate_left;(try dsimp only at bZ);go_simp;(try with_reducible rfl);try simp only [Ap])|refine Xr4.skip (Eq.refl true) ?_)
 refine Xr4.stop ?_
 simp only [List.nil_append,List.cons_append]
 clear x0 x1 x2 x3 x4 x5 x6 x7 x8 x9
 refine Xz4 (fun a0 aM=>?_)
 have aT:=Lh aM
 have aC:Hid (a0.tmps.size=87):=Lh (by rw [aM];kernel_rfl)
 have aS:Hid (a0.tmps[33]?.getD undef=.agg (Bt ga gc ma mc ra rc na nc ca cc oa oc ba bc ea ec s)):=Lh (by rw [aM];rfl)
 clear aM
 refine Xyc _ (fun done a q=>∃ f,AwI X30 Xvi 1 [0,1,0,1] A2.drew a0 done a q f) ⟨_,AwI.start X30 Xvi 1 [0,1,0,1] A2.drew a0⟩ ?_ ?_ ?_
 ·show List.Nodup [0,2,3,4,5,6,7,8,9,10,11]
  decide
 ·rintro p hp done a q hd hw ⟨f,hI⟩
  have HI:=Lh hI
  rcases List.mem_cons.1 hp with rfl|hp
  ·go_simp
   refine (Xvs q).mono ?_
   rintro e w' ⟨fa,qa,fc,qc,rfl,hC,hb⟩
   exact ⟨aJ.o w' (hI.below.then hb),_,hI.next hd δ _ hb (n0:=fun _=>⟨fa,fc,qa,qc,rfl,hC⟩)⟩
  rcases List.mem_cons.1 hp with rfl|hp
  ·go_simp
   exact ⟨aJ.o _ (hI.below.then (Xa _ _)),_,hI.next hd δ _ (Xa _ _) (n2:=fun _=>⟨_,_,rfl,Xxl q 0 1 0 1 (by unfold in64;omega)⟩)⟩
  rcases List.mem_cons.1 hp with rfl|hp
  ·obtain ⟨fa,fc,qa,qc,e0,hC⟩:=hI.c0 (hw _ (.head _) κ) hd
   obtain ⟨la,lc,e2,aP⟩:=hI.c2 (hw _ (.tail _ (.head _)) κ) hd
   have bS:a.tmps[32]?.getD undef=f 0:=hI.at_ (hw _ (.head _) κ) (i:=0) (d:=32) rfl (by rw [aC.o];decide) δ
   have bU:a.tmps[34]?.getD undef=f 2:=hI.at_ (hw _ (.tail _ (.head _)) κ) (i:=2) (d:=34) rfl (by rw [aC.o];decide) δ
   have dA:a.tmps[33]?.getD undef=.agg (Bt ga gc ma mc ra rc na nc ca cc oa oc ba bc ea ec s):=hI.other δ aS.o
   rw [e0] at bS hC
   rw [e2] at bU aP
   have bK:=Lh hC
   have bM:=Lh aP
   have aO:=Lh hI.below
   clear e0 e2 hC aP hI hw hp
   go_simp
   refine (Xyi adC _ _ _ s [0,1,0,1] q ((cN.o q aO.o).1) Xx7 bK.o (cN.o q aO.o).2 bM.o (fun _=>by rw [aQ.o];exact Xyy)).mono ?_
   rintro e w' ⟨hb,hR⟩
   rcases hR with ⟨hn,-⟩|⟨-,h4,-⟩|⟨-,-,i,s',v,hp,hi,rfl,hV⟩
   ·exact absurd (by rw [aQ.o];exact X0w) hn
   ·exact absurd h4 ψ
   ·rw [aQ.o] at hp
    obtain ⟨rfl,rfl⟩:=X17 hp hi
    obtain ⟨dC,bY,cD,cE,cJ,cK,cF,cG,bQ,bR,cH,cI,bO,bP,bT,bX,rfl⟩:=hV.open_
    obtain ⟨gb,go_,rfl,-,cC,-⟩:=hV.parts.1.nth (k:=0) (x:=1) rfl
    exact ⟨aJ.o w' (aO.o.then hb),_,HI.o.next hd δ _ hb (n3:=fun _=>⟨gb,go_,bY,cD,cE,cJ,cK,cF,cG,bQ,bR,cH,cI,bO,bP,bT,bX,rfl,by simpa using cC⟩)⟩
  rcases List.mem_cons.1 hp with rfl|hp
  ·have dB:a.tmps[35]?.getD undef=f 3:=hI.at_ (hw _ (.tail _ (.tail _ (.head _))) κ) (i:=3) (d:=35) rfl (by rw [aC.o];decide) δ
   have hS:=aJ.o q hI.below
   have aD:=Lh hS
   have H3:=Lh (hw _ (.tail _ (.tail _ (.head _))) κ)
   clear hS hw hp
   go_simp
   exact ⟨aD.o,_,hI.next hd δ (f 3) Br (n4:=fun _=>⟨rfl,H3.o⟩)⟩
  rcases List.mem_cons.1 hp with rfl|hp
  ·obtain ⟨aH,aE⟩:=hI.c4 (hw _ (.tail _ (.tail _ (.tail _ (.head _)))) κ)
   obtain ⟨g,o,gc,ma,mc,ra,rc,na,nc,ca,cc,oa,oc,ba,bc,ea,ec,e3,-⟩:=hI.c3 aE
   have aK:a.tmps[31]?.getD undef=f 4:=hI.at_ (hw _ (.tail _ (.tail _ (.tail _ (.head _)))) κ) (i:=4) (d:=31) rfl (by rw [aC.o];decide) δ
   rw [aH,e3] at aK
   have E3:=Lh e3
   have aN:=Lh aE
   have aD:=Lh (aJ.o q hI.below)
   clear aH aE e3 hw hp hI
   go_simp
   exact ⟨aD.o,_,HI.o.next hd δ (.agg #[σ (some (π g o)) Xvi.mem.globals.length gc,σ ma Xvi.mem.nodes.length mc,ι Xvi.fuel,σ ra Xvi.running.length rc,σ na Xvi.nodes.length nc,σ ca Xvi.calls.length cc,σ oa Xvi.results.length oc,σ ba Xvi.begins.length bc,σ ea Xvi.ends.length ec,ι Xvi.step]) Br (n5:=fun _=>⟨aN.o,_,_,E3.o⟩)⟩
  rcases List.mem_cons.1 hp with rfl|hp
  ·obtain ⟨aH,aE⟩:=hI.c4 (hw _ (.tail _ (.tail _ (.tail _ (.head _)))) κ)
   obtain ⟨g,o,gc,ma,mc,ra,rc,na,nc,ca,cc,oa,oc,ba,bc,ea,ec,e3,-⟩:=hI.c3 aE
   have aK:a.tmps[31]?.getD undef=f 4:=hI.at_ (hw _ (.tail _ (.tail _ (.tail _ (.head _)))) κ) (i:=4) (d:=31) rfl (by rw [aC.o];decide) δ
   rw [aH,e3] at aK
   have E3:=Lh e3
   have aN:=Lh aE
   have aD:=Lh (aJ.o q hI.below)
   clear aH aE e3 hw hp hI
   go_simp
   exact ⟨aD.o,_,HI.o.next hd δ (ι 4) Br (n6:=fun _=>rfl)⟩
  rcases List.mem_cons.1 hp with rfl|hp
  ·obtain ⟨aH,aE⟩:=hI.c4 (hw _ (.tail _ (.tail _ (.tail _ (.head _)))) κ)
   obtain ⟨g,o,gc,ma,mc,ra,rc,na,nc,ca,cc,oa,oc,ba,bc,ea,ec,e3,-⟩:=hI.c3 aE
   have aK:a.tmps[31]?.getD undef=f 4:=hI.at_ (hw _ (.tail _ (.tail _ (.tail _ (.head _)))) κ) (i:=4) (d:=31) rfl (by rw [aC.o];decide) δ
   rw [aH,e3] at aK
   have E3:=Lh e3
   have aN:=Lh aE
   have aD:=Lh (aJ.o q hI.below)
   clear aH aE e3 hw hp hI
   go_simp
   exact ⟨aD.o,_,HI.o.next hd δ (ι 0) Br (n7:=fun _=>rfl)⟩
  rcases List.mem_cons.1 hp with rfl|hp
  ·have h9:9∉done:=fun h=>hd (HI.o.d8 h)
   clear hw hp
   go_simp
   exact ⟨aJ.o _ (hI.below.then (Xa _ _)),_,hI.next hd δ _ (Xa _ _) (n8:=fun _=>⟨_,rfl,hI.below.size,h9,Hn _ _⟩)⟩
  rcases List.mem_cons.1 hp with rfl|hp
  ·have h8:=hw _ (.tail _ (.tail _ (.tail _ (.tail _ (.tail _ (.tail _ (.tail _ (.head _)))))))) κ
   have h5:=hw _ (.tail _ (.tail _ (.tail _ (.tail _ (.head _))))) κ
   have h3:=hw _ (.tail _ (.tail _ (.head _))) κ
   have bW:a.tmps[7]?.getD undef=f 8:=hI.at_ (h8) (i:=8) (d:=7) rfl (by rw [aC.o];decide) δ
   have bV:a.tmps[36]?.getD undef=f 5:=hI.at_ (h5) (i:=5) (d:=36) rfl (by rw [aC.o];decide) δ
   obtain ⟨g,o,gc,ma,mc,ra,rc,na,nc,ca,cc,oa,oc,ba,bc,ea,ec,bo,e8,e5,aF,aL⟩:=hI.store δ hd h8 h5 h3
   have cB:¬bo=b2:=by
    obtain ⟨b',e',hg,-⟩:=hI.c8 h8
    rw [e8] at e'
    cases e'
    have h1:b2<A.heap.size:=(La aU.o)
    have h2:A.heap.size<=bo:=Nt HB1_.o.size hg
    omega
   have dD:¬b2=bo:=fun e=>cB e.symm
   obtain ⟨t0,t1,t2,t3,t4,t5,t6,t7,t8,t9⟩:=aJ.o q hI.below
   rw [e8] at bW
   rw [e5] at bV
   obtain ⟨⟨y0,y1,y2,y3,y4,y5,y6,y7,y8,y9⟩,⟨z0,z1,z2,z3,z4,z5,z6,z7,z8,z9⟩,zz⟩:=ten aF
   have bL:=Lh (aL undef)
   clear hw hp hI HI aL aF e8 e5 h8 h5 h3 hd
   go_simp
   have hx:=bL.o
   rw [show a.put (X30 9) undef=a from rfl] at hx
   unfold Xr6 at hx
   exact ⟨_,hx⟩
  rcases List.mem_cons.1 hp with rfl|hp
  ·have h6:=hw _ (.tail _ (.tail _ (.tail _ (.tail _ (.tail _ (.head _)))))) κ
   have es:a.tmps[37]?.getD undef=f 6:=hI.at_ (h6) (i:=6) (d:=37) rfl (by rw [aC.o];decide) δ
   rw [hI.c6 h6] at es
   have aD:=Lh (aJ.o q hI.below)
   clear hw hp hI h6
   go_simp
   exact ⟨aD.o,_,HI.o.next hd δ (ι 4) Br (n10:=fun _=>rfl)⟩
  rcases List.mem_cons.1 hp with rfl|hp
  ·have h6:=hw _ (.tail _ (.tail _ (.tail _ (.tail _ (.tail _ (.tail _ (.head _))))))) κ
   have es:a.tmps[38]?.getD undef=f 7:=hI.at_ (h6) (i:=7) (d:=38) rfl (by rw [aC.o];decide) δ
   rw [hI.c7 h6] at es
   have aD:=Lh (aJ.o q hI.below)
   clear hw hp hI h6
   go_simp
   exact ⟨aD.o,_,HI.o.next hd δ (ι 0) Br (n11:=fun _=>rfl)⟩
  cases hp
 rintro done a q aA ⟨f,hI⟩
 obtain ⟨aG,aZ,g2_,o2_,gc2_,ma2_,mc2_,ra2_,rc2_,na2_,nc2_,ca2_,cc2_,oa2_,oc2_,ba2_,bc2_,ea2_,ec2_,bo2_,e8,aW,aX,aF,aI⟩:=hI.full (fun i hi=>by
  simp only [List.mem_cons,List.mem_nil_iff,or_false] at hi
  rcases hi with rfl|rfl|rfl|rfl|rfl|rfl|rfl|rfl|rfl|rfl|rfl
  ·exact aA _ (.head _)
  ·exact aA _ (.tail _ (.head _))
  ·exact aA _ (.tail _ (.tail _ (.head _)))
  ·exact aA _ (.tail _ (.tail _ (.tail _ (.head _))))
  ·exact aA _ (.tail _ (.tail _ (.tail _ (.tail _ (.head _)))))
  ·exact aA _ (.tail _ (.tail _ (.tail _ (.tail _ (.tail _ (.head _))))))
  ·exact aA _ (.tail _ (.tail _ (.tail _ (.tail _ (.tail _ (.tail _ (.head _)))))))
  ·exact aA _ (.tail _ (.tail _ (.tail _ (.tail _ (.tail _ (.tail _ (.tail _ (.head _))))))))
  ·exact aA _ (.tail _ (.tail _ (.tail _ (.tail _ (.tail _ (.tail _ (.tail _ (.tail _ (.head _)))))))))
  ·exact aA _ (.tail _ (.tail _ (.tail _ (.tail _ (.tail _ (.tail _ (.tail _ (.tail _ (.tail _ (.head _))))))))))
  ·exact aA _ (.tail _ (.tail _ (.tail _ (.tail _ (.tail _ (.tail _ (.tail _ (.tail _ (.tail _ (.tail _ (.head _)))))))))))) δ
 have aG:a=(((((((((((a0.put (some 32) (f 0)).put (some 34) (f 2)).put (some 35) (f 3)).put (some 31) (f 4)).put (some 36) (f 5)).put (some 37) (f 6)).put (some 38) (f 7)).put (some 7) (f 8)).put none (f 9)).put (some 8) (f 10)).put (some 9) (f 11)):=aG
 rw [e8,aW,aX,aT.o] at aG
 have HB2_:=Lh ((Xh (Below.refl _ A2) 1).then aZ)
 have HR2_:=Lh aF
 have HE2_:=Lh aI
 clear e8 aW aX aF aI aZ hI aA aT aC aS
 subst aG
 obtain ⟨u0,bA⟩:∃ u,u=f 0:=⟨_,rfl⟩
 obtain ⟨u2,bB⟩:∃ u,u=f 2:=⟨_,rfl⟩
 obtain ⟨u3,bC⟩:∃ u,u=f 3:=⟨_,rfl⟩
 obtain ⟨u4,bD⟩:∃ u,u=f 4:=⟨_,rfl⟩
 obtain ⟨u5,bE⟩:∃ u,u=f 5:=⟨_,rfl⟩
 obtain ⟨u6,bF⟩:∃ u,u=f 6:=⟨_,rfl⟩
 obtain ⟨u7,bG⟩:∃ u,u=f 7:=⟨_,rfl⟩
 rw [<-bA,<- bB,<- bC,<- bD,<- bE,<- bF,<- bG]
 clear bA bB bC bD bE bF bG
 simp only [Ap]
 have cR:=(HB2_.o.block bo1_ (La HR1_.o)).trans HR1_.o
 have cS:=HR2_.o
 have k1:=Xc HB2_.o HE1_.o
 have k2:=HE2_.o
 have k3:=Cw cR 0 rfl
 have k4:=Cw cS 0 rfl
 have z1:=Bl k1
 have z2:=Bl k2
 have z3:=Bl k3
 have z4:=Bl k4
 have cV:=Lh ((cL.o.then HB1_.o).then HB2_.o)
 clear cR cS
 go_wp2
 go_ret
 exact boI rfl cV.o
