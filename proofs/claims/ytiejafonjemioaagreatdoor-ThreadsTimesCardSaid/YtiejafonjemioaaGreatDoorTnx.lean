import Derived.Test.YtiejafonjemioaaGreatDoorInv
set_option maxHeartbeats 4000000
set_option maxRecDepth 100000
set_option linter.unusedVariables false
set_option linter.unusedSimpArgs false
open Go.Value renaming slice→σ
open Go.Obj renaming cells→χ
namespace Go.Proofs.YtiejafonjemioaaGreatDoor
open Go.RowKit
theorem acc3 {W:World} {R:Nat} {x y z:Value} {T:TypeId} (h:W.heap[R]?=some (χ #[x,y,z] T (0,0))):(W.cell? (π R 0)=some x/\W.cell? (π R 1)=some y/\W.cell? (π R 2)=some z)/\(W.frozen? (π R 0)=false/\W.frozen? (π R 1)=false/\W.frozen? (π R 2)=false)/\R<W.heap.size:=
 ⟨⟨Cr h rfl,Cr h rfl,Cr h rfl⟩,⟨Fz h,Fz h,Fz h⟩,(La h)⟩
def nextA (s:Thr) (m:Mch):Acc:=if Xsi m then Xst s.mem m.req else ⟨0,0,0⟩
def TNextIs (cd:Cod) (s:Thr) (t:Int) (w:World) (e:Ending) (w':World):Prop:=Below w.heap.size w w'/\((¬Xse cd s/\e=.returned (.tuple #[.agg #[ι 0,ι 0,ι 0],ι 1]))\/(Xse cd s/\Xsl s t≠0/\e=.returned (.tuple #[.agg #[ι 0,ι 0,ι 0],ι (Xsl s t)]))\/
 (Xse cd s/\Xsl s t=0/\∃ m0 m s1,s.running[t.toNat]?=some m0/\X1l cd s t.toNat m0 m s1/\e=.returned (.tuple #[.agg #[ι (nextA s m).kind,ι (nextA s m).node,ι (nextA s m).field],ι 0])))
theorem Xsd.memAt {B bt:Nat} {w:World} {v0 v1:Value} {s:Thr} {x:List Value} (h:Xsd B w (.agg (v0::v1::x).toArray) s) (h0:w.cell? (π bt 0)=some v0) (h1:w.cell? (π bt 1)=some v1):MemRd w bt s.mem:=by
 obtain ⟨gv,mv,rv,nv,cv,ov,bv,ev,he,hg,hm,-⟩:=h
 obtain ⟨rfl,rfl⟩:v0=gv/\v1=mv:=by simp at he;exact ⟨he.1,he.2.1⟩
 obtain ⟨ga,gc,rfl⟩:=hg.fm
 obtain ⟨ma,mc,rfl⟩:=hm.fm
 refine ⟨⟨ga,gc,h0,fun j v hv=>?_⟩,ma,mc,h1,fun i x hx=>?_⟩
 ·obtain ⟨b,o,h,-⟩:=hg.nth hv
  exact ⟨b,o,h⟩
 ·obtain ⟨b,o,h,-,-,⟨lv,h2,h3⟩,-⟩:=hm.nth hx
  obtain ⟨la,lc,rfl⟩:=h3.fm
  exact ⟨b,o,la,lc,h,h2,fun j v hv=>by
   obtain ⟨b,o,h,-⟩:=h3.nth hv
   exact ⟨b,o,h⟩⟩
theorem beg_req {cd:Cod} {s s1:Thr} {t:Nat} {m0 m:Mch} (hv:Xse cd s) (hm:s.running[t]?=some m0) (hB:X1l cd s t m0 m s1) (hE:m0.frames=[]->Us cd m/\m.fuel<=1048576/\m.compares+pot m<=1000000000000) (ha:Xsi m=true):Xm4 cd m.req:=by
 have hV:Yf cd m:=by
  rcases hB with ⟨aA,rfl,-⟩|⟨h0,-⟩
  ·obtain ⟨m',n,l,r,b,e,h1,h2,h3,h4,h5,h6,h7⟩:=hv.at_ (Ll hm)
   rw [hm] at h1
   cases h1
   rcases h7.head with ⟨h,-⟩|⟨-,h,-⟩
   ·exact absurd (Xub h) aA
   ·exact h
  ·obtain ⟨h1,h2,h3⟩:=hE h0
   exact (Xwh h1 ha h2 h3).valid hv.sound
 obtain ⟨fs,f,hw⟩:=hV.waits (Xty ha).1 (Xty ha).2
 exact hw.req hv.sound
theorem tNext_any (cd:Cod) (cv sv:Value) (s:Thr) (t:Int) (w:World) (hL:Qa w) (hsm:Zb cd) (hc:Yj w.heap.size w cv cd) (hs:Xsd w.heap.size w sv s) :
  Calls Tryz.prog 25 #[cv,sv,ι t] w (TNextIs cd s t w):=by
 obtain ⟨fa,fc,qa,qc,ga,gc,ma,mc,ra,rc,na,nc,ca,cc,oa,oc,ba,bc,ea,ec,W0,L,rfl,rfl,bO,bE,H0,SS,HC,HS,bZ,cB⟩:=ct_open (Nr _) hc hs
 have bM:=Lh hsm
 obtain ⟨W,hW⟩:∃ V,V=W0.alloc (χ #[ι 0,ι 0,ι 0] 64):=⟨_,rfl⟩
 have cA:Hid (Below W0.heap.size W0 W):=by rw [hW];exact Lh (Xa _ _)
 have R0:Hid (W.heap[w.heap.size+1+1]?=some (χ #[ι 0,ι 0,ι 0] 64 (0,0))):=Lh (by
  rw [hW,show w.heap.size+1+1=W0.heap.size by have:=cB.o;omega]
  exact Hn _ _)
 have HK:Hid (∀ V,Below W.heap.size W V->Xth L V/\V.heap[w.heap.size+1+1]?=some (χ #[ι 0,ι 0,ι 0] 64 (0,0))/\Qa V/\Yj w.heap.size V (.agg (Bc fa fc qa qc cd)) cd/\Xsd w.heap.size V (.agg (Bt ga gc ma mc ra rc na nc ca cc oa oc ba bc ea ec s)) s/\Below w.heap.size w V/\w.heap.size<=V.heap.size):=Lh (fun V hV=>by
  have hb:=cA.o.then hV
  have aH:=bE.o.then hb
  exact ⟨H0.o.keep hb,(hV.block _ (La R0.o)).trans R0.o,hL.below aH,hc.below aH,hs.below aH,aH,aH.size⟩)
 have hA:=HK.o W Br
 obtain ⟨g0,g1,g2,x0,x1,x2,x3,x4,x5,x6,x7,x8,x9,-⟩:=SS.o _ hA.1
 have zc:=Bl g0
 have xz:=Bl x0
 clear hL hsm hc hs hA
 go_enter Tryz.func25,Tryz.ntmps25
 go_upto_region 1 with fail
 rw [<-bO,<- hW]
 clear hW bO
 go_wp2_with fail
 refine (Xt3 cd _ s _ w.heap.size W (HK.o W Br).2.2.1 (HK.o W Br).2.2.2.2.2.2 bM.o (HK.o W Br).2.2.2.1 (HK.o W Br).2.2.2.2.1).mono ?_
 rintro e w1 ⟨rfl,aG⟩
 have aV:=Lh aG
 clear g0 g1 g2 x0 x1 x2 x3 x4 x5 x6 x7 x8 x9 zc xz aG
 by_cases hv:Xse cd s
 rotate_left
 ·rw [K8 hv]
  obtain ⟨-,hr,-,-,-,hb,hz⟩:=HK.o w1 aV.o
  obtain ⟨⟨p0,p1,p2⟩,⟨f0,f1,f2⟩,pz⟩:=acc3 hr
  clear hr
  have HV:=Lh (And.intro hv (And.intro hb hz))
  clear hv hb hz
  go_wp2_with fail
  refine bodyPost_ret (v:=.tuple #[.agg #[ι 0,ι 0,ι 0],ι 1]) (by simp [results,Tryz.results25,go_sem,p0,p1,p2]) rfl ?_
  exact ⟨Xsb (Xsb (Xsb HV.o.2.1 (by have:=HV.o.2.2;omega)) (by have:=HV.o.2.2;omega)) (by have:=HV.o.2.2;omega),.inl ⟨HV.o.1,rfl⟩⟩
 rw [Kh hv]
 have HV:=Lh hv
 clear hv
 obtain ⟨hh,hr,-,-,aC,-,hz⟩:=HK.o w1 aV.o
 obtain ⟨g0,g1,g2,x0,x1,x2,x3,x4,x5,x6,x7,x8,x9,-⟩:=SS.o _ hh
 have zc:=Bl g0
 have xz:=Bl x0
 have HX:=Lh (And.intro aC hz)
 clear hh hr aC hz
 go_wp2_with fail
 refine (Xz5 s _ t w.heap.size w1 HX.o.2 HX.o.1 HV.o.calls).mono ?_
 rintro e w2 ⟨rfl,aH⟩
 have aF:=Lh (aV.o.then aH)
 clear g0 g1 g2 x0 x1 x2 x3 x4 x5 x6 x7 x8 x9 zc xz aH HX
 by_cases aA:Xsl s t=0
 rotate_left
 ·have bP:(Xsl s t != 0)=true:=by simpa using aA
  have bQ:(Xsl s t == 0)=false:=by simpa using aA
  obtain ⟨-,hr,-,-,-,hb,hz⟩:=HK.o w2 aF.o
  obtain ⟨⟨p0,p1,p2⟩,⟨f0,f1,f2⟩,pz⟩:=acc3 hr
  clear hr
  have aL:=Lh (And.intro aA (And.intro hb hz))
  clear aA hb hz
  go_wp2_with fail
  refine bodyPost_ret (v:=.tuple #[.agg #[ι 0,ι 0,ι 0],ι (Xsl s t)]) (by simp [results,Tryz.results25,go_sem,p0,p1,p2]) rfl ?_
  exact ⟨Xsb (Xsb (Xsb aL.o.2.1 (by have:=aL.o.2.2;omega)) (by have:=aL.o.2.2;omega)) (by have:=aL.o.2.2;omega),.inr (.inl ⟨HV.o,aL.o.1,rfl⟩)⟩
 obtain ⟨tn,rfl⟩:∃ tn:Nat,t=tn:=⟨t.toNat,Xz6 aA⟩
 obtain ⟨m0,n,l,r,b,e,hp⟩:=HV.o.stepOk aA
 have aK:=Lh aA
 obtain ⟨hh,-,-,-,aC,-,-⟩:=HK.o w2 aF.o
 obtain ⟨-,-,pr,-,pc,-⟩:=aC.parts
 have cF:=hp.hl
 obtain ⟨rb,ro,rfl,cJ,hE⟩:=pr.nth hp.hm
 obtain ⟨uv,u4,k0,k1,k2,k3,k4,k5,k6,k7,k8,-⟩:=hE.nine
 obtain ⟨ua,uc,rfl⟩:=u4.fm
 obtain ⟨g0,g1,g2,x0,x1,x2,x3,x4,x5,x6,x7,x8,x9,-⟩:=SS.o _ hh
 have zc:=Bl g0
 have xz:=Bl x0
 have kz:=Bl k0
 have i0:(0:Int)<=(tn:Int):=In _
 have i1:(tn:Int)<(s.running.length:Int):=by have:=(Ll hp.hm);omega
 have hd:(Xsl s (tn:Int) != 0)=false:=by rw [aA];rfl
 have HP:=Lh hp
 have cL:=Lh pc
 rw [aA]
 clear aA hp aC pr pc cF hE u4 cJ hh
 obtain ⟨W1,aM⟩:∃ V,V=w2.alloc (χ #[σ ua m0.frames.length uc,ι m0.req.kind,ι m0.req.node,ι m0.req.field,ι m0.req.value,ι m0.req.fault,ι m0.fuel,ι m0.compares,ι m0.idle] 51):=⟨_,rfl⟩
 have aG:Hid (Below w2.heap.size w2 W1):=Lh (by rw [aM];exact Xa _ _)
 have bV:Hid (W1.heap.size=w2.heap.size+1):=Lh (by rw [aM];simp)
 have bC:Hid (W1.heap[w2.heap.size]?=some (χ (Xb (σ ua m0.frames.length uc) m0) 51 (0,0))):=Lh (by rw [aM];exact Hn _ _)
 have bI:=Lh (aF.o.then aG.o)
 have kM:W1.cell? (π w2.heap.size 0)=some (σ ua m0.frames.length uc):=Xe bC.o 0 _ rfl
 have zM:w2.heap.size<W1.heap.size:=by have:=bV.o;omega
 go_upto_region 7 with fail
 rw [<-aM]
 clear aM k0 k1 k2 k3 k4 k5 k6 k7 k8 kz g0 g1 g2 x0 x1 x2 x3 x4 x5 x6 x7 x8 x9 zc xz i1 hd
 go_upto_if 32 with fail
 go_cut [11] (fun cN wx=>Hid (∃ m s1 va vc,X1l cd s tn m0 m s1/\(m0.frames=[]->Us cd m/\m.fuel<=1048576/\m.compares+pot m<=1000000000000)/\Below w2.heap.size w2 wx/\wx.heap[w2.heap.size]?=some (χ (Xb (σ va m.frames.length vc) m) 51 (0,0))))
 case first=>
  by_cases aJ:m0.frames.length=0
  rotate_left
  ·have d0:(m0.frames.length == 0)=false:=by simpa using aJ
   have d1:((m0.frames.length:Int) == 0)=false:=by simp only [beq_eq_false_iff_ne,ne_eq];omega
   have bK:Hid (m0.frames≠[]):=Lh (fun e=>aJ (by rw [e];rfl))
   clear aJ
   go_wp2_with fail
   go_meet
   case rel=>exact Lh ⟨m0,s,ua,uc,.inl ⟨bK.o,rfl,rfl⟩,fun e=>absurd e bK.o,aG.o,bC.o⟩
  ·have aS:m0.frames=[]:=List.eq_nil_of_length_eq_zero aJ
   obtain ⟨x,l',rfl,hg⟩:∃ x l',l=x::l'/\Yd cd x s.fuel=0:=by
    rcases HP.o.head with ⟨_,h⟩|⟨h,_⟩
    ·exact h
    ·exact absurd aS h
   have bT:=Lh aS
   have HG:=Lh hg
   obtain ⟨hh,-,bY,cE,aC,-,bR⟩:=HK.o W1 bI.o
   obtain ⟨-,-,-,-,pc,-⟩:=aC.parts
   obtain ⟨cb,co,rfl,cC,lv,y0,l4⟩:=pc.nth HP.o.hl
   obtain ⟨la,lc,rfl⟩:=l4.fm
   rw [Nat.mul_one] at y0
   obtain ⟨lb,lo,rfl,cH,⟨u0,⟨av,u1,bH⟩,bS⟩⟩:=l4.nth (k:=0) rfl
   rw [Nat.zero_mul,Nat.add_zero] at u0 u1
   obtain ⟨xa,xc,rfl⟩:=bH.fm
   obtain ⟨g0,g1,g2,-,-,b2,-,-,b5,-⟩:=SS.o _ hh
   have bN:Hid (∀ V,Below W1.heap.size W1 V->Calls Tryz.prog 69 #[.agg (Bc fa fc qa qc cd),.agg #[.string x.proc,σ xa x.args.length xc],ι s.fuel] V (fun e w'=>∃ m va vc,Zm cd (Zo cd x s.fuel) m/\e=.returned (.tuple #[.agg #[σ va m.frames.length vc,ι m.req.kind,ι m.req.node,ι m.req.field,ι m.req.value,ι m.req.fault,ι m.fuel,ι m.compares,ι m.idle],ι 0])/\Qq V (σ va m.frames.length vc) m w')):=Lh (fun V hV=>by
    obtain ⟨-,-,bX,cD,-,-,cG⟩:=HK.o V (bI.o.then hV)
    refine (Xff cd x s.fuel _ _ w.heap.size V bX cG cD ⟨_,rfl,bH.ints (hV.mono bR),bS⟩ bM.o).mono ?_
    rintro e w' (⟨h,_⟩|⟨_,⟨h,_⟩|⟨_,m',fv,h1,h2,h3⟩⟩)
    ·exact absurd HV.o.sound h
    ·exact absurd HG.o h
    ·obtain ⟨F,k1,k2⟩:=h3
     obtain ⟨va,vc,rfl⟩:=k1.form
     exact ⟨m',va,vc,h1,h2,F,k1,k2⟩)
   have d0:(m0.frames.length == 0)=true:=by simpa using aJ
   have d1:((m0.frames.length:Int) == 0)=true:=by simp;exact aS
   have i2:(tn:Int)<(s.calls.length:Int):=by have:=(Ll HP.o.hl);omega
   have i3:(0:Int)<((x::l').length:Int):=by simp
   have i4:=i2
   have Z:Hid (w.heap.size<W1.heap.size/\w.heap.size+1<W1.heap.size/\cb<W1.heap.size/\lb<W1.heap.size):=Lh ⟨Bl g0,Bl b2,Bl y0,Bl u0⟩
   obtain ⟨zW,zB,zC,zL⟩:=Z.o
   have cM:=Lh (show tn=tn from rfl)
   clear aJ aS hg hh bY cE aC bR pc cC l4 cH bH bS kM
   go_upto_region 8 with fail
   go_cut [10,11] (fun s8 s9 wx=>s9=ι 0/\∃ (b8:Nat) (m:Mch) (va:Option Addr) (vc:Nat),s8=.pointer (some (π b8 0))/\Hid (Zm cd (Zo cd x s.fuel) m)/\Hid (Qq W1 (σ va m.frames.length vc) m wx/\wx.heap[b8]?=some (χ (Xb (σ va m.frames.length vc) m) 51 (0,0))/\W1.heap.size<=b8))
   case first=>
    refine X6 (fun Vs=>Vs.cell? (π w.heap.size 0)=some (σ fa cd.fields.length fc)/\Vs.cell? (π w.heap.size 1)=some (ι cd.globals)/\Vs.cell? (π w.heap.size 2)=some (σ qa cd.funcs.length qc)/\Vs.cell? (π (w.heap.size+1) 5)=some (σ (some (π cb co)) s.calls.length cc)/\Vs.cell? (π cb (co+tn))=some (Value.slice (some (π lb lo)) (x::l').length lc)/\Vs.cell? (π lb lo)=some (.string x.proc)/\Vs.cell? (π lb (lo+1))=some (σ xa x.args.length xc)/\Vs.cell? (π (w.heap.size+1) 2)=some (ι s.fuel)) [10,11,12,13,14,15,16] true 17 rfl κ κ ⟨g0,g1,g2,b5,y0,u0,u1,b2⟩ ?_
    repeat (first|(refine' Xr4.take (Eq.refl false) _ (fun wV aB=>?_) ?_;rotate_left;(try dsimp only at aB);go_simp;(try with_reducible rfl);try simp only [Ap])|refine Xr4.skip (Eq.refl true) ?_)
    refine Xr4.stop ?_
    simp only [List.nil_append,List.cons_append]
    have HK:=Lh (And.intro g0 (And.intro g1 (And.intro g2 (And.intro b5 (And.intro y0 (And.intro u0 (And.intro u1 b2)))))))
    clear g0 g1 g2 b5 y0 u0 u1 b2 zW zB zC zL d0 d1 i2 i3 i4
    refine Xu2 [_,_,_] ?_
    refine Xs3 κ κ ?_ ?_
    ·go_simp
     refine (bN.o _ (Xh Br 1)).mono ?_
     rintro e w1 ⟨m,va,vc,hR,rfl,hN⟩
     have hb:Below W1.heap.size W1 w1:=(Xh Br 1).then hN.below
     have HR:=Lh hR
     have HN:=Lh hN
     have HB:=Lh hb
     clear hR hN hb
     refine ⟨⟨Xc (HB.o) HK.o.1,Xc (HB.o) HK.o.2.1,Xc (HB.o) HK.o.2.2.1,Xc (HB.o) HK.o.2.2.2.1,Xc (HB.o) HK.o.2.2.2.2.1,Xc (HB.o) HK.o.2.2.2.2.2.1,Xc (HB.o) HK.o.2.2.2.2.2.2.1,Xc (HB.o) HK.o.2.2.2.2.2.2.2⟩,?_⟩
     refine Xte ?_
     (refine' Z6 κ _ (fun wV aB=>?_) ?_;rotate_left;(clear aB;go_simp);(try with_reducible rfl);try simp only [Ap])
     refine Xte ?_
     (refine' Z6 κ _ (fun wV aB=>?_) ?_;rotate_left;(clear aB;go_simp);(try with_reducible rfl);try simp only [Ap])
     refine Xte ?_
     (refine' Z6 κ _ (fun wV aB=>?_) ?_;rotate_left;(clear aB;go_simp);(try with_reducible rfl);try simp only [Ap])
     refine X5 κ ?_
     go_simp
     refine ⟨⟨Xc (HB.o.then (Xa _ _)) HK.o.1,Xc (HB.o.then (Xa _ _)) HK.o.2.1,Xc (HB.o.then (Xa _ _)) HK.o.2.2.1,Xc (HB.o.then (Xa _ _)) HK.o.2.2.2.1,Xc (HB.o.then (Xa _ _)) HK.o.2.2.2.2.1,Xc (HB.o.then (Xa _ _)) HK.o.2.2.2.2.2.1,Xc (HB.o.then (Xa _ _)) HK.o.2.2.2.2.2.2.1,Xc (HB.o.then (Xa _ _)) HK.o.2.2.2.2.2.2.2⟩,?_⟩
     refine X5 κ ?_
     go_simp
     refine ⟨⟨Xc (HB.o.then (Xa _ _)) HK.o.1,Xc (HB.o.then (Xa _ _)) HK.o.2.1,Xc (HB.o.then (Xa _ _)) HK.o.2.2.1,Xc (HB.o.then (Xa _ _)) HK.o.2.2.2.1,Xc (HB.o.then (Xa _ _)) HK.o.2.2.2.2.1,Xc (HB.o.then (Xa _ _)) HK.o.2.2.2.2.2.1,Xc (HB.o.then (Xa _ _)) HK.o.2.2.2.2.2.2.1,Xc (HB.o.then (Xa _ _)) HK.o.2.2.2.2.2.2.2⟩,?_⟩
     refine X5 κ ?_
     go_simp
     refine Xr3 ?_
     go_wp2_with fail
     go_meet
     case rel=>
      refine ⟨rfl,_,m,va,vc,rfl,HR,Lh ⟨?_,Hn _ _,HB.o.size⟩⟩
      obtain ⟨F,k1,k2,k3⟩:=HN.o
      exact ⟨F,k1.keep (fun b hb=>Ha _ _ _ (k1.lt b hb)),k2,HB.o.then (Xa _ _)⟩
    ·go_simp
     refine ⟨⟨Xc (Xa _ _) HK.o.1,Xc (Xa _ _) HK.o.2.1,Xc (Xa _ _) HK.o.2.2.1,Xc (Xa _ _) HK.o.2.2.2.1,Xc (Xa _ _) HK.o.2.2.2.2.1,Xc (Xa _ _) HK.o.2.2.2.2.2.1,Xc (Xa _ _) HK.o.2.2.2.2.2.2.1,Xc (Xa _ _) HK.o.2.2.2.2.2.2.2⟩,?_⟩
     obtain ⟨W2,aR⟩:∃ V,V=(W1.alloc (χ #[ν,ι 0,ι 0,ι 0,ι 0,ι 0,ι 0,ι 0,ι 0] 51)).drew:=⟨_,rfl⟩
     have aF:Hid (Below W1.heap.size W1 W2):=Lh (by rw [aR];exact Xsh _ _)
     have bB:Hid (W2.heap[W1.heap.size]?=some (χ #[ν,ι 0,ι 0,ι 0,ι 0,ι 0,ι 0,ι 0,ι 0] 51 (0,0))):=Lh (by rw [aR];exact Hn W1 _)
     rw [<-aR]
     clear aR
     refine X5 κ ?_
     go_simp
     refine (bN.o _ aF.o).mono ?_
     rintro e w1 ⟨m,va,vc,hR,rfl,hN⟩
     have hb:Below W1.heap.size W1 w1:=aF.o.then hN.below
     have HR:=Lh hR
     have HN:=Lh hN
     have HB:=Lh hb
     have aE:w1.heap[W1.heap.size]?=some (χ #[ν,ι 0,ι 0,ι 0,ι 0,ι 0,ι 0,ι 0,ι 0] 51 (0,0)):=by rw [hN.below.block _ (La bB.o)];exact bB.o
     have bU:=Lh aE
     clear hR hN hb
     refine ⟨⟨Xc (HB.o) HK.o.1,Xc (HB.o) HK.o.2.1,Xc (HB.o) HK.o.2.2.1,Xc (HB.o) HK.o.2.2.2.1,Xc (HB.o) HK.o.2.2.2.2.1,Xc (HB.o) HK.o.2.2.2.2.2.1,Xc (HB.o) HK.o.2.2.2.2.2.2.1,Xc (HB.o) HK.o.2.2.2.2.2.2.2⟩,?_⟩
     (refine' Z6 κ _ (fun wV aB=>?_) ?_;rotate_left;(clear aB;go_simp);(try with_reducible rfl);try simp only [Ap])
     (refine' Z6 κ _ (fun wV aB=>?_) ?_;rotate_left;(clear aB;go_simp);(try with_reducible rfl);try simp only [Ap])
     (refine' Z6 κ _ (fun wV aB=>?_) ?_;rotate_left;(clear aB;go_simp);(try with_reducible rfl);try simp only [Ap])
     obtain ⟨t0,t1,t2,t3,t4,t5,t6,t7,t8⟩:=Xy2 (m:=Xl) aE
     obtain ⟨f0,f1,f2,f3,f4,f5,f6,f7,f8⟩:=X37 aE
     have zz:=Bl t0
     have e0:w.heap.size≠W1.heap.size:=by have:=Z.o;omega
     have e1:w.heap.size+1≠W1.heap.size:=by have:=Z.o;omega
     have e2:cb≠W1.heap.size:=by have:=Z.o;omega
     have e3:lb≠W1.heap.size:=by have:=Z.o;omega
     clear aE
     refine X5 κ ?_
     go_simp
     clear t0 t1 t2 t3 t4 t5 t6 t7 t8 f0 f1 f2 f3 f4 f5 f6 f7 f8 zz e0 e1 e2 e3
     refine ⟨⟨Xc (HB.o) HK.o.1,Xc (HB.o) HK.o.2.1,Xc (HB.o) HK.o.2.2.1,Xc (HB.o) HK.o.2.2.2.1,Xc (HB.o) HK.o.2.2.2.2.1,Xc (HB.o) HK.o.2.2.2.2.2.1,Xc (HB.o) HK.o.2.2.2.2.2.2.1,Xc (HB.o) HK.o.2.2.2.2.2.2.2⟩,?_⟩
     refine X5 κ ?_
     go_simp
     refine Xr3 ?_
     go_wp2_with fail
     go_meet
     case rel=>
      obtain ⟨p1,p2⟩:=Xz (m0:=Xl) (fv0:=ν) bU.o (σ va m.frames.length vc) m
      have bW:Below W1.heap.size W1 (Yp w1 W1.heap.size (σ va m.frames.length vc) m):=HB.o.trans (p2.below (fun b hb=>by simp at hb;omega) HB.o.size)
      refine ⟨rfl,_,m,va,vc,rfl,HR,Lh ⟨?_,p1,Nr _⟩⟩
      obtain ⟨F,k1,k2,k3⟩:=HN.o
      have cI:∀ b∈F,b∉[W1.heap.size]:=fun b hb e=>by
       have h1:=k2 b hb
       have h2:=(La bB.o)
       simp at e
       omega
      exact ⟨F,k1.keep (fun b hb=>p2.block b (k1.lt b hb) (cI b hb)),fun b hb=>Nt aF.o.size (k2 b hb),bW⟩
   obtain ⟨rfl,b8,m,va,vc,rfl,bL,aQ⟩:=hcut
   have aT:wc.heap[w2.heap.size]?=some (χ (Xb (σ ua m0.frames.length uc) m0) 51 (0,0)):=(aQ.o.1.below.block _ zM).trans bC.o
   have bD:=Lh aT
   obtain ⟨e0,e1,e2,e3,e4,e5,e6,e7,e8⟩:=Xy2 aQ.o.2.1
   have ez:=Bl e0
   obtain ⟨o0,o1,o2,o3,o4,o5,o6,o7,o8⟩:=Xy2 aT
   obtain ⟨f0,f1,f2,f3,f4,f5,f6,f7,f8⟩:=X37 aT
   have oz:=Bl o0
   have ZM:=Lh zM
   clear aT zM
   go_upto_region 12 with fail
   go_meet
   case rel=>
    obtain ⟨p1,p2⟩:=Xz bD.o (σ va m.frames.length vc) m
    refine Lh ⟨m,X4c s tn l',va,vc,.inr ⟨bT.o,x,l',HP.o.hl,bL.o,rfl⟩,fun _=>Xxf HV.o.sound HG.o bL.o,?_,p1⟩
    exact (aG.o.trans (aQ.o.1.below.mono aG.o.size)).trans (p2.below (fun b hb=>by simp at hb;omega) (Nt aG.o.size aQ.o.1.below.size))
 obtain ⟨m,s1,va,vc,hB,hE,aO,bG⟩:=hcut.o
 have aI:=Lh hB
 have bA:=Lh hE
 have aY:=Lh (aF.o.then aO)
 have bJ:=Lh bG
 obtain ⟨e0,e1,e2,e3,e4,e5,e6,e7,e8⟩:=Xy2 bG
 have ez:=Bl e0
 clear hcut hB hE aO bG kM zM
 go_wp2_with fail
 refine (Xxg m va _ vc _).mono ?_
 rintro e9 w9 ⟨rfl,bF⟩
 have aX:=Lh (aY.o.then bF)
 have aP:=(bF.block _ (La bJ.o)).trans bJ.o
 have aZ:=Lh aP
 clear e0 e1 e2 e3 e4 e5 e6 e7 e8 ez bF aP
 cases ha:Xsi m with
 | false=>
  have HN:Hid (nextA s m=⟨0,0,0⟩):=Lh (by unfold nextA;rw [ha];rfl)
  clear ha
  obtain ⟨-,hr,-,-,-,hb,hz⟩:=HK.o w9 aX.o
  obtain ⟨⟨p0,p1,p2⟩,⟨f0,f1,f2⟩,pz⟩:=acc3 hr
  have aD:=Lh (And.intro hb hz)
  clear hr hb hz
  go_wp2_with fail
  refine bodyPost_ret (v:=.tuple #[.agg #[ι 0,ι 0,ι 0],ι 0]) (by simp [results,Tryz.results25,go_sem,p0,p1,p2]) rfl ?_
  exact ⟨Xsb (Xsb (Xsb aD.o.1 (by have:=aD.o.2;omega)) (by have:=aD.o.2;omega)) (by have:=aD.o.2;omega),.inr (.inr ⟨HV.o,aK.o,m0,m,s1,HP.o.hm,aI.o,by rw [HN.o]⟩)⟩
 | true=>
  have hq:=beg_req HV.o HP.o.hm aI.o bA.o ha
  have HQ:=Lh hq
  have HN:Hid (nextA s m=Xst s.mem m.req):=Lh (by unfold nextA;rw [ha];rfl)
  obtain ⟨hh,-,-,-,aC,-,-⟩:=HK.o w9 aX.o
  obtain ⟨-,-,-,x0,x1,-⟩:=SS.o _ hh
  have xz:=Bl x0
  have aU:=Lh (Xzr s.mem (w.heap.size+1) m.req w9 (aC.memAt x0 x1) hq.node hq.field hq.q.nodeV)
  unfold rqC at aU
  obtain ⟨e0,e1,e2,e3,e4,e5,e6,e7,e8⟩:=Xy2 aZ.o
  have ez:=Bl e0
  clear ha hq hh aC x0 x1
  go_wp2_with fail
  refine aU.o.mono ?_
  rintro e cK ⟨rfl,aN⟩
  have aW:=Lh (aX.o.then aN)
  unfold X3g
  clear e0 e1 e2 e3 e4 e5 e6 e7 e8 ez xz aN aU
  obtain ⟨-,hr,-,-,-,hb,hz⟩:=HK.o cK aW.o
  obtain ⟨⟨p0,p1,p2⟩,⟨f0,f1,f2⟩,pz⟩:=acc3 hr
  have aD:=Lh (And.intro hb hz)
  clear hr hb hz
  go_wp2_with fail
  refine bodyPost_ret (v:=.tuple #[.agg #[ι (Xst s.mem m.req).kind,ι (Xst s.mem m.req).node,ι (Xst s.mem m.req).field],ι 0]) (by simp [results,Tryz.results25,go_sem,p0,p1,p2]) rfl ?_
  exact ⟨Xsb (Xsb (Xsb aD.o.1 (by have:=aD.o.2;omega)) (by have:=aD.o.2;omega)) (by have:=aD.o.2;omega),.inr (.inr ⟨HV.o,aK.o,m0,m,s1,HP.o.hm,aI.o,by rw [HN.o]⟩)⟩
