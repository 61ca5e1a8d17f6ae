import Derived.Test.YtiejafonjemioaaGreatDoorInv
set_option maxHeartbeats 4000000
set_option maxRecDepth 100000
set_option linter.unusedVariables false
set_option linter.unusedSimpArgs false
open Go.Value renaming slice→σ
open Go.Obj renaming cells→χ
namespace Go.Proofs.YtiejafonjemioaaGreatDoor
open Go.RowKit
variable {c:Cod} {s s':Thr} {t:Nat}
theorem Xs8.stepOk (h:Xs8 c s) (h6:s.step<65536) (hc:Xsl s t=0):∃ m n l r b e,Xzl c s t m n l r b e:=by
 unfold Xsl at hc
 rw [if_neg ω] at hc
 split at hc
 ·cases hc
 ·rename_i hlt
  rw [Int.toNat_natCast] at hc
  split at hc
  ·rename_i hen
   obtain ⟨m,n,l,r,b,e,aA⟩:=h.at_ (t:=t) ω
   have hI:=h.all t _ _ _ _ _ _ aA
   have ho:=hI.ops
   have hb:=hI.begins
   have he:=hI.ends
   have h1:(if m.frames=[] then 0 else 1)<=1:=by split<;>omega
   refine ⟨m,n,l,r,b,e,⟨aA.m,aA.n,aA.l,aA.r,aA.b,aA.e,ω,ω,ω,by have:=hI.cnt;omega,⟨h.step,ω⟩,?_⟩⟩
   by_cases hf:m.frames=[]
   ·refine .inl ⟨hf,?_⟩
    unfold enB at hen
    rw [aA.m,aA.l] at hen
    simp only [hf,List.length_nil,Nat.lt_irrefl,decide_false,Bool.false_or,decide_eq_true_eq] at hen
    cases l with
    | nil=>simp at hen
    | cons x l'=>exact ⟨x,l',rfl,Xuz h.fuel (hI.right x ψ)⟩
   ·refine .inr ⟨hf,?_⟩
    rcases hI.mach with ⟨h0,_⟩|h0
    ·exact absurd (by rw [h0];rfl) hf
    ·exact ⟨h0.valid h.sound,h0.asks⟩
  ·cases hc
theorem V2.look {w:World} {c:Clr} {bt:Nat} (h:V2 w c bt s):∃ ga gc ma mc ra rc na nc ca cc oa oc ba bc ea ec,w.heap[bt]?=some (χ (Bt ga gc ma mc ra rc na nc ca cc oa oc ba bc ea ec s) 34 (0,0))/\Xsd w.heap.size w (.agg (Bt ga gc ma mc ra rc na nc ca cc oa oc ba bc ea ec s)) s/\∀ R,c R=14->Xsd (Xr6 w R (σ ga s.mem.globals.length gc) (σ ma s.mem.nodes.length mc) (ι s.fuel) (σ ra s.running.length rc) (σ na s.nodes.length nc) (σ ca s.calls.length cc) (σ oa s.results.length oc) (σ ba s.begins.length bc) (σ ea s.ends.length ec) (ι s.step)).heap.size (Xr6 w R (σ ga s.mem.globals.length gc) (σ ma s.mem.nodes.length mc) (ι s.fuel) (σ ra s.running.length rc) (σ na s.nodes.length nc) (σ ca s.calls.length cc) (σ oa s.results.length oc) (σ ba s.begins.length bc) (σ ea s.ends.length ec) (ι s.step)) (.agg (Bt ga gc ma mc ra rc na nc ca cc oa oc ba bc ea ec s)) s:=by
 obtain ⟨V,hK,hB⟩:=h
 obtain ⟨ga,gc,ma,mc,ra,rc,na,nc,ca,cc,oa,oc,ba,bc,ea,ec,e⟩:=hK.opened
 refine ⟨ga,gc,ma,mc,ra,rc,na,nc,ca,cc,oa,oc,ba,bc,ea,ec,by rw [<-e];exact hB.row,by rw [<-e];exact hK.reads,fun R hR=>?_⟩
 have hS:=Xs2 (T:=fun t=>t=14) (c:=c) (W:=w) (R:=R) (v0:=σ ga s.mem.globals.length gc) (v1:=σ ma s.mem.nodes.length mc) (v2:=ι s.fuel) (v3:=σ ra s.running.length rc) (v4:=σ na s.nodes.length nc) (v5:=σ ca s.calls.length cc) (v6:=σ oa s.results.length oc) (v7:=σ ba s.begins.length bc) (v8:=σ ea s.ends.length ec) (v9:=ι s.step) hR ω
 have K:=hK.k14 hS (fun b hb=>hK.hi b (by rw [Xtg] at hb;exact hb))
 rw [<-e]
 exact K.reads
inductive Xt8 (c:Cod) (s:Thr):List Int->Thr->Prop
 | nil:Xt8 c s [] s
 | snoc {l s1 s2} {t:Int}:Xt8 c s l s1->Xsl s1 t=0->s1.step<65536->Xsq c s1 t.toNat s2->Xt8 c s (l++[t]) s2
theorem Xt8.inv {l:List Int} (h:Xt8 c s l s') (hi:Xs8 c s):Xs8 c s':=by
 induction h with
 | nil=>exact hi
 | snoc _ _ _ hR ih=>exact ih.stepR hR
structure X3k (cd:Cod) (s:Thr) (W:World) (c0:Clr) (bt k:Nat) (sch:List Int) (wr:World) (c:Clr) (sk:Thr):Prop where
 st:V2 wr c bt sk
 chg:Chg NZ c0 c W wr
 path:Xt8 cd s (sch.take k) sk
def Xro (cd:Cod) (s:Thr) (sch:List Int) (w:World) (e:Ending) (w':World):Prop:=Below w.heap.size w w'/\((¬Xse cd s/\e=.returned (.tuple #[.agg Bz,ι 0,ι 1]))\/(Xse cd s/\65536<sch.length/\e=.returned (.tuple #[.agg Bz,ι 0,ι 4]))\/
 (Xse cd s/\sch.length<=65536/\∃ (i:Nat) (s':Thr) (v:Value),Xt8 cd s (sch.take i) s'/\(i=sch.length\/∃ t,sch[i]?=some t/\(Xsl s' t≠0\/65536<=s'.step))/\e=.returned (.tuple #[v,ι i,ι 0])/\Xsd w'.heap.size w' v s'))
theorem Xs4 {fn:Func} {p u q:Tmp} (hf:fn.results=#[.cell p 34,.tmp u,.tmp q]) {W:World} {R:Nat} {x0 x1 x2 x3 x4 x5 x6 x7 x8 x9 v v2:Value} (h:W.heap[R]?=some (χ #[x0,x1,x2,x3,x4,x5,x6,x7,x8,x9] 34 (0,0))) (tmps:Array Value) (h1:tmps.getD p undef=.pointer (some (π R 0))) (h2:tmps.getD u undef=v) (h3:tmps.getD q undef=v2) :
  (results fn tmps).run Tryz.prog W=.ok (.tuple #[.agg #[x0,x1,x2,x3,x4,x5,x6,x7,x8,x9],v,v2]) W:=by
 simp only [results,hf]
 rw [Array.getD_eq_getD_getElem?] at h1 h2 h3
 simp [h1,h2,h3,asAddr,Xwv h,Result.andThen,Sem.run_bind]
theorem Xyi (cd:Cod) (cv sv lv:Value) (s:Thr) (sch:List Int) (w:World) (hL:Qa w) (hsm:Zb cd) (hc:Yj w.heap.size w cv cd) (hs:Xsd w.heap.size w sv s) (hl:Xf w.heap.size w 1 Zd lv sch) (hinv:Xse cd s->Xs8 cd s) :
  Calls Tryz.prog 34 #[cv,sv,lv] w (Xro cd s sch w):=by
 obtain ⟨fv,gv,rfl,hf,hg,cO⟩:=id hc
 obtain ⟨fa,fc,rfl⟩:=hf.form
 obtain ⟨qa,qc,rfl⟩:=hg.form
 have dT:sch.length<=140737488355328:=by
  obtain ⟨_,_,_,h,_⟩:=hl
  exact h
 obtain ⟨la,lc,rfl⟩:=hl.form
 obtain ⟨ga,gc,ma,mc,ra,rc,na,nc,ca,cc,oa,oc,ba,bc,ea,ec,rfl⟩:=hs.open_
 have HC:=Lh hc
 have HS:=Lh hs
 have HL:=Lh hL
 have dF:=Lh hl
 have dC:=Lh hinv
 obtain ⟨W,hW⟩:∃ W,W=((w.alloc (χ (Bc fa fc qa qc cd) 25)).alloc (χ (Bt ga gc ma mc ra rc na nc ca cc oa oc ba bc ea ec s) 34)).alloc (χ Bz 34):=⟨_,rfl⟩
 have cW:Hid (Below w.heap.size w W):=by rw [hW];exact Lh (((Xa _ _).then (Xa _ _)).then (Xa _ _))
 have bZ:Hid (W.heap.size=w.heap.size+3):=by rw [hW];exact Lh ψ
 have R0:Hid (W.heap[w.heap.size]?=some (χ (Bc fa fc qa qc cd) 25 (0,0))):=Lh (by
  rw [hW,Ha _ _ _ φ,Ha _ _ _ ψ]
  exact Hn _ _)
 have R1:Hid (W.heap[w.heap.size+1]?=some (χ (Bt ga gc ma mc ra rc na nc ca cc oa oc ba bc ea ec s) 34 (0,0))):=Lh (by
  rw [hW,Ha _ _ _ ψ]
  have:=Hn (w.alloc (χ (Bc fa fc qa qc cd) 25)) (χ (Bt ga gc ma mc ra rc na nc ca cc oa oc ba bc ea ec s) 34)
  rw [show (w.alloc (χ (Bc fa fc qa qc cd) 25)).heap.size=w.heap.size+1 by simp] at this
  exact this)
 have R2:Hid (W.heap[w.heap.size+1+1]?=some (χ Bz 34 (0,0))):=Lh (by
  rw [hW]
  have:=Hn ((w.alloc (χ (Bc fa fc qa qc cd) 25)).alloc (χ (Bt ga gc ma mc ra rc na nc ca cc oa oc ba bc ea ec s) 34)) (χ Bz 34)
  rw [show ((w.alloc (χ (Bc fa fc qa qc cd) 25)).alloc (χ (Bt ga gc ma mc ra rc na nc ca cc oa oc ba bc ea ec s) 34)).heap.size=w.heap.size+1+1 by simp] at this
  exact this)
 have HK:Hid (∀ V,Below W.heap.size W V->(V.cell? (π w.heap.size 0)=some (σ fa cd.fields.length fc)/\V.cell? (π w.heap.size 1)=some (ι cd.globals)/\V.cell? (π w.heap.size 2)=some (σ qa cd.funcs.length qc))/\w.heap.size<V.heap.size/\V.heap[w.heap.size+1]?=some (χ (Bt ga gc ma mc ra rc na nc ca cc oa oc ba bc ea ec s) 34 (0,0))/\V.heap[w.heap.size+1+1]?=some (χ Bz 34 (0,0))):=Lh (fun V hV=>by
  have h:=bZ.o
  have h0:=(hV.block w.heap.size ω).trans R0.o
  exact ⟨⟨Cr h0 rfl,Cr h0 rfl,Cr h0 rfl⟩,(La h0),(hV.block _ ω).trans R1.o,(hV.block _ ω).trans R2.o⟩)
 have HT:Hid (∀ V,Below W.heap.size W V->Qa V/\Yj w.heap.size V (.agg (Bc fa fc qa qc cd)) cd/\Xsd w.heap.size V (.agg (Bt ga gc ma mc ra rc na nc ca cc oa oc ba bc ea ec s)) s/\Below w.heap.size w V):=Lh (fun V hV=>by
  have hb:=cW.o.then hV
  exact ⟨hL.below hb,hc.below hb,hs.below hb,hb⟩)
 have HZ:Hid (∀ V,Below W.heap.size W V->w.heap.size<=V.heap.size):=Lh (fun V hV=>(cW.o.then hV).size)
 clear hf hg cO hL hs hc hl hinv
 obtain ⟨⟨c0,c1,c2⟩,zc,bC,-⟩:=HK.o W Br
 obtain ⟨⟨x0,x1,x2,x3,x4,x5,x6,x7,x8,x9⟩,-,xz⟩:=ten bC
 clear bC
 go_enter Tryz.func34,Tryz.ntmps34
 go_upto_region 1 with fail
 rw [<-hW]
 have HW:=Lh hW
 clear hW
 go_wp2_with fail
 refine (Xt3 cd _ s _ w.heap.size W (HT.o W Br).1 (HZ.o W Br) hsm (HT.o W Br).2.1 (HT.o W Br).2.2.1).mono ?_
 rintro e w1 ⟨rfl,cX⟩
 have aF:=Lh cX
 clear c0 c1 c2 zc x0 x1 x2 x3 x4 x5 x6 x7 x8 x9 xz cX
 by_cases hv:Xse cd s
 ·rw [Kh hv]
  have HV:=Lh hv
  clear hv
  obtain ⟨-,-,bC,aQ⟩:=HK.o w1 aF.o
  by_cases cT:65536<sch.length
  ·obtain ⟨⟨y0,y1,y2,y3,y4,y5,y6,y7,y8,y9⟩,⟨z0,z1,z2,z3,z4,z5,z6,z7,z8,z9⟩,zz⟩:=ten aQ
   have cK:=Lh aQ
   have aB:Hid (Xro cd s sch w (.returned (.tuple #[.agg Bz,ι 0,ι 4])) (Xr6 w1 (w.heap.size+1+1) ν ν (ι 0) ν ν ν ν ν ν (ι 0))):=Lh ⟨V0 (HT.o w1 aF.o).2.2.2 ω (HZ.o w1 aF.o) ν ν (ι 0) ν ν ν ν ν ν (ι 0),.inr (.inl ⟨HV.o,cT,rfl⟩)⟩
   clear bC aQ
   go_wp2
   exact bodyPost_ret (Xs4 (p:=6) (u:=7) (q:=8) rfl (V4 cK.o ν ν (ι 0) ν ν ν ν ν ν (ι 0)) _ rfl rfl rfl) rfl aB.o
  ·have bN:=Lh cT
   obtain ⟨⟨x0,x1,x2,x3,x4,x5,x6,x7,x8,x9⟩,-,xz⟩:=ten bC
   clear bC aQ
   go_wp2_with fail
   refine (Xue s _ w.heap.size w1 (HZ.o w1 aF.o) (HT.o w1 aF.o).2.2.1 (HV.o.copyOk hsm)).mono ?_
   rintro e w4 ⟨V,c',rfl,hK,hC⟩
   obtain ⟨dK,bY,aG⟩:=Xvo.own (c:=fun b=>if b=w.heap.size+1+1 then 14 else 0) hK hC (fun b hb=>if_neg (by have h1:=aF.o.size;have h2:=bZ.o;omega))
   have cY:Below w1.heap.size w1 w4:=⟨aG.os,aG.tape,aG.output,aG.size,fun b hb=>aG.keep b hb (no _)⟩
   have dB:=Lh (aF.o.then cY)
   have eD:=Lh aG
   obtain ⟨dP,dQ,dV,dW,eB,eC,dX,dY,dL,dM,dZ,eA,dI,dJ,dN,dO,cN⟩:=bY.opened
   rw [cN]
   obtain ⟨W5,bD⟩:∃ u,u=w4.alloc (χ (Bt dP dQ dV dW eB eC dX dY dL dM dZ eA dI dJ dN dO s) 34):=⟨_,rfl⟩
   obtain ⟨bt,bH⟩:∃ b,b=w4.heap.size:=⟨_,rfl⟩
   have cM:Below w4.heap.size w4 W5:=by rw [bD];exact Xa _ _
   have dU:W5.heap.size=w4.heap.size+1:=by rw [bD];simp
   obtain ⟨c5,bI⟩:∃ u:Clr,u=(fun x=>if x=bt then 1 else dK x):=⟨_,rfl⟩
   have bL:Hid (X3k cd s W5 c5 bt 0 sch W5 c5 s):=Lh ⟨⟨V,by
    rw [bI,bH]
    exact bY.no2 (Chg.paint _ _ cM (Nr _)) (fun b hb=>by
     show (if _ then _ else _)=_
     rw [if_neg ω];exact bY.hi b ω),⟨by rw [cN,bD,bH];exact Hn _ _,by rw [bI];exact if_pos rfl⟩⟩,Chg.of_below Br nz0,.nil⟩
   have cI:=Lh (dB.o.then cM)
   have bA:Hid (∀ b,b<w.heap.size+1+1->c5 b=0):=Lh (fun b hb=>by
    have h1:=aF.o.size
    have h2:=bZ.o
    have h3:=aG.size
    rw [bI]
    show (if _ then _ else _)=_
    rw [if_neg ω,aG.old b ω]
    exact if_neg ω)
   have bO:Hid (c5 (w.heap.size+1+1)=14/\w.heap.size+1+1<W5.heap.size):=Lh (by
    have h1:=aF.o.size
    have h2:=bZ.o
    have h3:=aG.size
    refine ⟨?_,ω⟩
    rw [bI]
    show (if _ then _ else _)=_
    rw [if_neg ω,aG.old _ ω]
    exact if_pos rfl)
   clear x0 x1 x2 x3 x4 x5 x6 x7 x8 x9 xz hK hC bY aG cY cN cM dU bI
   have bE:Hid (∀ (V:World) (c:Clr),Chg NZ c5 c W5 V->Below w.heap.size w V/\(V.cell? (π w.heap.size 0)=some (σ fa cd.fields.length fc)/\V.cell? (π w.heap.size 1)=some (ι cd.globals)/\V.cell? (π w.heap.size 2)=some (σ qa cd.funcs.length qc))/\w.heap.size<V.heap.size/\V.heap[w.heap.size+1+1]?=some (χ Bz 34 (0,0))/\c (w.heap.size+1+1)=14/\(∀ b,b<w.heap.size->c b=0)/\w.heap.size<=V.heap.size):=Lh (fun V c h=>by
    obtain ⟨⟨k0,k1,k2⟩,k3,k4,k5⟩:=HK.o W5 cI.o
    have hb:=(HT.o W5 cI.o).2.2.2
    have hz:=HZ.o W5 cI.o
    have e0:¬NZ (c5 w.heap.size):=by rw [bA.o _ ω];exact nz0
    exact ⟨hb.trans (h.below (B:=w.heap.size) (fun b hb=>bA.o b ω) hz),⟨h.cell k0 e0,h.cell k1 e0,h.cell k2 e0⟩,Nl k3 h.size,(h.keep _ bO.o.2 (by rw [bO.o.1];exact Xvf)).trans k5,(h.old _ bO.o.2).trans bO.o.1,fun b hb=>(h.old b ω).trans (bA.o b ω),Nt hz h.size⟩)
   go_upto_region 6 with fail
   rw [<-bD]
   try rw [<-bH]
   have eG:=Lh (And.intro bD bH)
   clear bD bH
   go_wp2_with fail
   go_loopw [26] (fun i wr=>∃ k:Nat,k<=sch.length/\i=ι k/\Hid (∃ c sk,X3k cd s W5 c5 bt k sch wr c sk)) (fun i _=>sch.length - (intOf i).toNat)
   case atStart=>exact ⟨0,Nat.zero_le _,rfl,Lh ⟨_,_,bL.o⟩⟩
   case round=>
    obtain ⟨k,hk,rfl,bB⟩:=hrel
    obtain ⟨c,sk,bB⟩:=bB.o
    have HSt:=Lh bB
    clear bB bL
    obtain ⟨bW,bX,cA,cB,cG,cH,cC,cD,bS,bT,cE,cF,bQ,bR,bU,bV,aD,bM,aC⟩:=HSt.o.st.look
    have dG:=Lh bM
    have dE:=Lh aC
    have eE:=Lh aD
    obtain ⟨⟨x0,x1,x2,x3,x4,x5,x6,x7,x8,x9⟩,-,xz⟩:=ten aD
    clear aD bM aC
    by_cases dS:k<sch.length
    ·obtain ⟨t,ht⟩:∃ y,sch[k]?=some y:=⟨_,Lg dS⟩
     obtain ⟨sb,so,rfl,cZ,dA⟩:=dF.o.nth ht
     have HX:=Lh ht
     have e0:=(Xbl (bE.o _ _ HSt.o.chg).1 cZ).trans dA.1
     rw [Nat.mul_one] at e0
     have ez:=Bl e0
     have eH:(0:Int)<=(k:Int):=In _
     have eI:(k:Int)<(sch.length:Int):=ω
     have cJ:=Lh (HSt.o.path.inv (dC.o HV.o))
     clear ht cZ dA
     go_wp2_with fail
     refine (Xz5 sk _ t wr.heap.size wr (Nr _) dG.o cJ.o.calls).mono ?_
     rintro e w2 ⟨rfl,cL⟩
     have cS:=Lh (HSt.o.st.grow cL)
     have bP:Hid (Chg NZ c5 c W5 w2):=Lh (HSt.o.chg.trans (Chg.of_below cL nz0))
     clear x0 x1 x2 x3 x4 x5 x6 x7 x8 x9 xz e0 ez cL
     obtain ⟨aO,aP,aS,aT,aY,aZ,aU,aV,aK,aL,aW,aX,aI,aJ,aM,aN,aD,-,aC⟩:=cS.o.look
     obtain ⟨⟨x0,x1,x2,x3,x4,x5,x6,x7,x8,x9⟩,-,xz⟩:=ten aD
     by_cases aH:Xsl sk t=0
     ·have bJ:(Xsl sk t == 0)=true:=by simpa using aH
      by_cases bB:65536<=sk.step
      ·obtain ⟨aE,-,-,aA,aR,-,-⟩:=bE.o _ _ bP.o
       have aB:Hid (Xro cd s sch w (.returned (.tuple #[.agg (Bt aO aP aS aT aY aZ aU aV aK aL aW aX aI aJ aM aN sk),ι (k:Int),ι 0])) (Xr6 w2 (w.heap.size+1+1) (σ aO sk.mem.globals.length aP) (σ aS sk.mem.nodes.length aT) (ι sk.fuel) (σ aY sk.running.length aZ) (σ aU sk.nodes.length aV) (σ aK sk.calls.length aL) (σ aW sk.results.length aX) (σ aI sk.begins.length aJ) (σ aM sk.ends.length aN) (ι sk.step))):=Lh ⟨V0 aE ω aE.size (σ aO sk.mem.globals.length aP) (σ aS sk.mem.nodes.length aT) (ι sk.fuel) (σ aY sk.running.length aZ) (σ aU sk.nodes.length aV) (σ aK sk.calls.length aL) (σ aW sk.results.length aX) (σ aI sk.begins.length aJ) (σ aM sk.ends.length aN) (ι sk.step),.inr (.inr ⟨HV.o,by have:=bN.o;omega,k,sk,_,HSt.o.path,.inr ⟨t,HX.o,.inr bB⟩,rfl,aC _ aR⟩)⟩
       obtain ⟨⟨y0,y1,y2,y3,y4,y5,y6,y7,y8,y9⟩,⟨z0,z1,z2,z3,z4,z5,z6,z7,z8,z9⟩,zz⟩:=ten aA
       have bF:=Lh aA
       clear aA aD aC aE aR
       go_wp2
       exact bodyPost_ret (Xs4 (p:=6) (u:=7) (q:=8) rfl (V4 bF.o (σ aO sk.mem.globals.length aP) (σ aS sk.mem.nodes.length aT) (ι sk.fuel) (σ aY sk.running.length aZ) (σ aU sk.nodes.length aV) (σ aK sk.calls.length aL) (σ aW sk.results.length aX) (σ aI sk.begins.length aJ) (σ aM sk.ends.length aN) (ι sk.step)) _ rfl rfl rfl) rfl aB.o
      ·have cR:=Lh aH
       have eF:=Lh bB
       have cP:sk.step<65536:=ω
       have bG:=Lh cP
       obtain ⟨tn,rfl⟩:∃ tn:Nat,t=tn:=⟨t.toNat,Xz6 aH⟩
       obtain ⟨aE,⟨c0,c1,c2⟩,zc,-,-,bK,hz⟩:=bE.o _ _ bP.o
       have cQ:=Lh aE
       have dD:=Lh bK
       have dH:=Lh hz
       obtain ⟨m0,n,l,r,b,e,hp⟩:=cJ.o.stepOk bG.o cR.o
       have HP:=Lh hp
       clear aD aC aE bK hz hp
       go_wp2_with fail
       refine (Xvx cd fa qa fc qc w.heap.size sk c bt tn m0 n l r b e w w2 HL.o rfl cQ.o HV.o.sound hsm dH.o (HC.o.below cQ.o) (fun b hb=>by rw [dD.o b hb];exact nz0) cS.o cJ.o.mem HP.o).mono ?_
       rintro e9 w6 ⟨rfl,s',hR,c6,cV,cU⟩
       have HN:Hid (X3k cd s W5 c5 bt (k+1) sch w6 c6 s'):=Lh ⟨cV,bP.o.trans cU,by
        rw [List.take_add_one,HX.o]
        exact .snoc HSt.o.path cR.o bG.o (by rw [Int.toNat_natCast];exact hR)⟩
       clear hR cV cU c0 c1 c2 zc x0 x1 x2 x3 x4 x5 x6 x7 x8 x9 xz
       have dR:sch.length<=65536:=by have:=bN.o;omega
       go_wp2
       go_roundw
       case rel=>exact ⟨k+1,ω,by go_num,Lh ⟨_,_,HN.o⟩⟩
       case measure=>simp [intOf];omega
     ·have bJ:(Xsl sk t == 0)=false:=by simpa using aH
      obtain ⟨aE,-,-,aA,aR,-,-⟩:=bE.o _ _ bP.o
      have aB:Hid (Xro cd s sch w (.returned (.tuple #[.agg (Bt aO aP aS aT aY aZ aU aV aK aL aW aX aI aJ aM aN sk),ι (k:Int),ι 0])) (Xr6 w2 (w.heap.size+1+1) (σ aO sk.mem.globals.length aP) (σ aS sk.mem.nodes.length aT) (ι sk.fuel) (σ aY sk.running.length aZ) (σ aU sk.nodes.length aV) (σ aK sk.calls.length aL) (σ aW sk.results.length aX) (σ aI sk.begins.length aJ) (σ aM sk.ends.length aN) (ι sk.step))):=Lh ⟨V0 aE ω aE.size (σ aO sk.mem.globals.length aP) (σ aS sk.mem.nodes.length aT) (ι sk.fuel) (σ aY sk.running.length aZ) (σ aU sk.nodes.length aV) (σ aK sk.calls.length aL) (σ aW sk.results.length aX) (σ aI sk.begins.length aJ) (σ aM sk.ends.length aN) (ι sk.step),.inr (.inr ⟨HV.o,by have:=bN.o;omega,k,sk,_,HSt.o.path,.inr ⟨t,HX.o,.inl aH⟩,rfl,aC _ aR⟩)⟩
      obtain ⟨⟨y0,y1,y2,y3,y4,y5,y6,y7,y8,y9⟩,⟨z0,z1,z2,z3,z4,z5,z6,z7,z8,z9⟩,zz⟩:=ten aA
      have bF:=Lh aA
      clear aA aD aC aE aR
      go_wp2
      exact bodyPost_ret (Xs4 (p:=6) (u:=7) (q:=8) rfl (V4 bF.o (σ aO sk.mem.globals.length aP) (σ aS sk.mem.nodes.length aT) (ι sk.fuel) (σ aY sk.running.length aZ) (σ aU sk.nodes.length aV) (σ aK sk.calls.length aL) (σ aW sk.results.length aX) (σ aI sk.begins.length aJ) (σ aM sk.ends.length aN) (ι sk.step)) _ rfl rfl rfl) rfl aB.o
    ·obtain rfl:k=sch.length:=ω
     obtain ⟨aE,-,-,aA,aR,-,-⟩:=bE.o _ _ HSt.o.chg
     have aB:Hid (Xro cd s sch w (.returned (.tuple #[.agg (Bt bW bX cA cB cG cH cC cD bS bT cE cF bQ bR bU bV sk),ι (sch.length:Int),ι 0])) (Xr6 wr (w.heap.size+1+1) (σ bW sk.mem.globals.length bX) (σ cA sk.mem.nodes.length cB) (ι sk.fuel) (σ cG sk.running.length cH) (σ cC sk.nodes.length cD) (σ bS sk.calls.length bT) (σ cE sk.results.length cF) (σ bQ sk.begins.length bR) (σ bU sk.ends.length bV) (ι sk.step))):=Lh ⟨V0 aE ω aE.size (σ bW sk.mem.globals.length bX) (σ cA sk.mem.nodes.length cB) (ι sk.fuel) (σ cG sk.running.length cH) (σ cC sk.nodes.length cD) (σ bS sk.calls.length bT) (σ cE sk.results.length cF) (σ bQ sk.begins.length bR) (σ bU sk.ends.length bV) (ι sk.step),.inr (.inr ⟨HV.o,by have:=bN.o;omega,sch.length,sk,_,HSt.o.path,.inl rfl,rfl,dE.o _ aR⟩)⟩
     obtain ⟨⟨y0,y1,y2,y3,y4,y5,y6,y7,y8,y9⟩,⟨z0,z1,z2,z3,z4,z5,z6,z7,z8,z9⟩,zz⟩:=ten aA
     have bF:=Lh aA
     clear aA aE aR
     go_wp2
     exact bodyPost_ret (Xs4 (p:=6) (u:=7) (q:=8) rfl (V4 bF.o (σ bW sk.mem.globals.length bX) (σ cA sk.mem.nodes.length cB) (ι sk.fuel) (σ cG sk.running.length cH) (σ cC sk.nodes.length cD) (σ bS sk.calls.length bT) (σ cE sk.results.length cF) (σ bQ sk.begins.length bR) (σ bU sk.ends.length bV) (ι sk.step)) _ rfl rfl rfl) rfl aB.o
 ·rw [K8 hv]
  obtain ⟨-,-,-,aQ⟩:=HK.o w1 aF.o
  obtain ⟨⟨y0,y1,y2,y3,y4,y5,y6,y7,y8,y9⟩,⟨z0,z1,z2,z3,z4,z5,z6,z7,z8,z9⟩,zz⟩:=ten aQ
  have cK:=Lh aQ
  have aB:Hid (Xro cd s sch w (.returned (.tuple #[.agg Bz,ι 0,ι 1])) (Xr6 w1 (w.heap.size+1+1) ν ν (ι 0) ν ν ν ν ν ν (ι 0))):=Lh ⟨V0 (HT.o w1 aF.o).2.2.2 ω (HZ.o w1 aF.o) ν ν (ι 0) ν ν ν ν ν ν (ι 0),.inl ⟨hv,rfl⟩⟩
  clear aQ
  go_wp2
  exact bodyPost_ret (Xs4 (p:=6) (u:=7) (q:=8) rfl (V4 cK.o ν ν (ι 0) ν ν ν ν ν ν (ι 0)) _ rfl rfl rfl) rfl aB.o
theorem Xwx (s:Thr) (t:Nat) (m:Mch) (n:Int):(Xr8 s t m n).running.length=s.running.length:=by
 unfold Xr8
 split
 ·show (s.running.set t Xl).length=_
  rw [List.length_set]
 ·split
  ·show (s.running.set t Xl).length=_
   rw [List.length_set]
  ·show (s.running.set t m).length=_
   rw [List.length_set]
theorem Xsq.stp (h:Xsq c s t s'):s'.step=s.step+1/\s'.running.length=s.running.length:=by
 obtain ⟨m0,n,m,s1,_,_,hB,hA⟩:=h
 obtain ⟨e1,_,_,_,_,e6,_⟩:=hB.same
 rcases hA with ⟨_,rfl⟩|⟨_,_,rfl⟩|⟨_,mm,a,m',_,_,rfl⟩
 ·refine ⟨?_,?_⟩
  ·show (Xr8 s1 t m n).step+1=_
   rw [Xts,e6]
  ·show (Xr8 s1 t m n).running.length=_
   rw [Xwx,e1]
 ·refine ⟨?_,?_⟩
  ·show s1.step+1=_
   rw [e6]
  ·show (s1.running.set t Xl).length=_
   rw [List.length_set,e1]
 ·refine ⟨?_,?_⟩
  ·show (Xr8 _ t m' _).step+1=_
   rw [Xts]
   show s1.step+1=_
   rw [e6]
  ·show (Xr8 _ t m' _).running.length=_
   rw [Xwx]
   show s1.running.length=_
   rw [e1]
inductive Xu5 (c:Cod) (s:Thr):Nat->Thr->Prop
 | start:Xu5 c s 0 s
 | skip {t s1}:Xu5 c s t s1->t<s1.running.length->enB s1 t=false->Xu5 c s (t+1) s1
 | step {t s1 s2}:Xu5 c s t s1->t<s1.running.length->enB s1 t=true->s1.step<65536->Xsq c s1 t s2->Xu5 c s t s2
theorem Xu5.inv (h:Xu5 c s t s') (hi:Xs8 c s):Xs8 c s':=by
 induction h with
 | start=>exact hi
 | skip _ _ _ ih=>exact ih
 | step _ _ _ _ hR ih=>exact ih.stepR hR
theorem Xu5.len (h:Xu5 c s t s'):s'.running.length=s.running.length:=by
 induction h with
 | start=>rfl
 | skip _ _ _ ih=>exact ih
 | step _ _ _ _ hR ih=>rw [hR.stp.2];exact ih
