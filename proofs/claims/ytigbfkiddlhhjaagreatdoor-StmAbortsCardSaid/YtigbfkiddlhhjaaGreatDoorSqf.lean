import Derived.Test.YtigbfkiddlhhjaaGreatDoorSqe
set_option maxHeartbeats 4000000
set_option maxRecDepth 100000
set_option linter.all false
open Option renaming some→ς
open And renaming intro→ϟ
open Go.Value renaming slice→σ
open Go.Obj renaming cells→χ
namespace Go.Proofs.YtigbfkiddlhhjaaGreatDoor
open Go.RowKit Proofs.Tryz
def FinS.snoc {c:AQ} {s a d:Tra} {i:Nat} (h:FinS c s a) (b:∀ u,u<i->a.A[u]?=ς []) (hs:gw c a i d):FinS c s d:=by
 induction h with
 | nil s=>exact .step b hs (.nil _)
 | step e f _ g=>exact .step e f (g b hs)
def TraI.stepS {c:AQ} {s s':Tra} {i:Nat} (h:TraI c s) (hs:gw c s i s') (e:s.U<65536):TraI c s'/\s'.active.length=s.active.length:=by
 have a:=gw.law h.inv hs;have b:=h.one;have d:=h.eight;exact ⟨⟨h.inv.stepS hs,hs.outs h.inv h.outs h.steps,by rw [a.len.1];exact b,by rw [a.len.1];exact d,by rw [a.U];omega⟩,a.len.1⟩
def enS_first {s:Tra}:∀ {n:Nat} {v:Int} {l:List Int},enS s n=v::l->∃ i:Nat,v=i/\i<n/\enB4 s i=true/\∀ u,u<i->enB4 s u=false
 | 0,v,l,h=>by simp [enS] at h
 | n+1,v,l,h=>by
  cases e:enB4 s n with
  | false=>rw [enS_no e] at h;obtain ⟨i,c,f,d⟩:=enS_first h;exact ⟨i,c,ω,d⟩
  | true=>
   rw [enS_yes e] at h;cases b:enS s n with
   | nil=>
    rw [b] at h;simp at h;refine ⟨n,h.1.symm,ω,e,λu j=>?_⟩;cases g:enB4 s u with
    | false=>rfl
    | true=>
     have:(u:Int)∈enS s n:=by unfold enS;exact List.mem_map.2 ⟨u,List.mem_filter.2 ⟨List.mem_range.2 j,g⟩,rfl⟩
     rw [b] at this;cases this
   | cons a k=>rw [b] at h;simp at h;obtain ⟨i,c,f,d⟩:=enS_first b;exact ⟨i,by rw [<-h.1];exact c,ω,d⟩
def enS_head {s:Tra} {v:Int} {l:List Int} (h:enS s s.A.length=v::l):∃ (i:Nat) (c:Bi) (d:List Bi),v=i/\s.A[i]?=ς (c::d)/\∀ u,u<i->s.A[u]?=ς []:=by
 obtain ⟨i,rfl,t,r,e⟩:=enS_first h;have at_:∀ u,u<s.A.length->∃ l,s.A[u]?=ς l/\(enB4 s u=decide (0<l.length)):=λu e=>by
  obtain ⟨l,k⟩:∃ l,s.A[u]?=ς l:=⟨_,Lg e⟩
  exact ⟨l,k,by unfold enB4;rw [getD_at k]⟩
 obtain ⟨f,n,g⟩:=at_ i t;rw [r] at g;have w:0<f.length:=by simpa using g.symm
 obtain ⟨c,d,rfl⟩:∃ c d,f=c::d:=by cases f with|nil=>simp at w|cons a b=>exact ⟨a,b,rfl⟩
 refine ⟨i,c,d,rfl,n,λu p=>?_⟩;obtain ⟨m,o,j⟩:=at_ u ω;rw [e u p] at j;have:¬0<m.length:=by simpa using j.symm
 have q:m=[]:=List.eq_nil_of_length_eq_zero ω;rw [o,q]
def refE_head {s:Tra} {i:Nat} {a:Bi} {l:List Bi} (h:s.A[i]?=ς (a::l)):refE s i=if 65536<=s.U then 6 else 0:=by
 have b:=(Ll h)
 unfold refE;rw [if_neg ω,Int.toNat_natCast,getD_at h,if_neg ψ]
def FinIs (cd:AQ) (s:Tra) (w:World) (e:Ending) (w':World):Prop:=Below w w w'/\((∃ s1,FinS cd s s1/\TraI cd s1/\65536<=s1.U/\e=.returned (.tuple #[.agg #[ν,ν,ν,ι 0,ι 0,ν,ν,ν,ν,ν,ν,ι 0,ι 0],ι 6]))\/(∃ s' vs',FinS cd s s'/\TraI cd s'/\s'.active.length=s.active.length/\enS s' s'.A.length=[]/\e=.returned (.tuple #[.agg vs'.toArray,ι 0])/\TraVs (w':Nat) w' vs' s'/\OwnV w w' vs' s'))
def sFinish_any (cd:AQ) (y C:Option Addr) (A D:Nat) (s:Tra) (vs:List Value) (w:World) (hL:C8 w) (fJ:Bv cd) (hc:BF w w (.agg (Bc y A C D cd)) cd) (hs:TraVs (w:Nat) w vs s) (hI:TraI cd s) :
  Calls prog 16 #[.agg (Bc y A C D cd),.agg vs.toArray] w (FinIs cd s w):=by
 obtain ⟨cO,cW,dE,cP,cX,dF,cQ,cY,dG,cR,cZ,dH,cS,dA,dI,cT,dB,dJ,cU,dC,dK,cV,dD,dL,aM,aN,aO,rfl⟩:=hs.shape;obtain ⟨W,N⟩:=ε (((w.alloc (χ (Bc y A C D cd) 25)).alloc (χ #[σ cO cW dE,σ cP cX dF,σ cQ cY dG,ι s.clock,ι s.Y,σ cR cZ dH,σ cS dA dI,σ cT dB dJ,σ cU dC dK,σ cV dD dL,σ aM aN aO,ι s.aborts,ι s.U] 39)).alloc (χ #[ν,ν,ν,ι 0,ι 0,ν,ν,ν,ν,ν,ν,ι 0,ι 0] 39));obtain ⟨gK,eD,R0,R1,R2⟩:=Λ5 (bl3 N) (sz3 N) (ro31 N) (ro32 N) (ro33 N);have q:=Lh (ϟ hI (ϟ fJ hL));have I:Hid (∀ V,Below W W V->BF w V (.agg (Bc y A C D cd)) cd/\C8 V/\TraVs V.heap.size V [σ cO cW dE,σ cP cX dF,σ cQ cY dG,ι s.clock,ι s.Y,σ cR cZ dH,σ cS dA dI,σ cT dB dJ,σ cU dC dK,σ cV dD dL,σ aM aN aO,ι s.aborts,ι s.U] s/\Below w w V/\(w:Nat)<=V.heap.size):=Lh (λV O=>by
  have m:=gK.o.th O;exact ⟨hc.below m,hL.below m,hs.ups m.size (JT.below m),m,m.size⟩)
 have dM:Hid (∀ V,Below W W V->BoxR V ((w:Nat)+1) s/\V.heap[(w:Nat)]?=ς (χ (Bc y A C D cd) 25 (0,0))/\V.heap[(w:Nat)+1]?=ς (χ #[σ cO cW dE,σ cP cX dF,σ cQ cY dG,ι s.clock,ι s.Y,σ cR cZ dH,σ cS dA dI,σ cT dB dJ,σ cU dC dK,σ cV dD dL,σ aM aN aO,ι s.aborts,ι s.U] 39 (0,0))/\V.heap[(w:Nat)+1+1]?=ς (χ #[ν,ν,ν,ι 0,ι 0,ν,ν,ν,ν,ν,ν,ι 0,ι 0] 39 (0,0))):=Lh (λV O=>by
  have h:=eD.o;have hr:=(O.block ((w:Nat)+1) ω).trans R1.o;exact ⟨⟨_,(I.o V O).2.2.1,row13 hr⟩,(O.block (w:Nat) ω).trans R0.o,hr,(O.block ((w:Nat)+1+1) ω).trans R2.o⟩)
 clear hL fJ hc hs hI;obtain ⟨c0,k,c2⟩:=Ω3 R0.o;have zc:(w:Nat)<W:=by have:=eD.o;omega
 have gD:=Lh (svalid_any cd s ((w:Nat)+1) y C A D W (I.o W Br).2.1 q.o.2.1 ((I.o W Br).1.up (I.o W Br).2.2.2.2) (dM.o W Br).1 q.o.1.inv q.o.1.one q.o.1.eight q.o.1.steps);go_enter func16,ntmps16;go_upto_region 1 with fail;rw [<-N];clear N;go_wp2_with fail;refine gD.o.mono ?_;rintro e G ⟨rfl,fB⟩;have U:=Lh fB;clear c0 k c2 zc fB
 
 have f:=row13 (dM.o G U.o).2.2.1;have fN:=f 0 _ rfl;have fO:=f 1 _ rfl;have fP:=f 2 _ rfl;have fQ:=f 3 _ rfl;have fR:=f 4 _ rfl;have fS:=f 5 _ rfl;have fT:=f 6 _ rfl;have fU:=f 7 _ rfl;have fV:=f 8 _ rfl;have fW:=f 9 _ rfl;have bH:=f 10 _ rfl;have bI:=f 11 _ rfl;have bJ:=f 12 _ rfl;have fX:=Lh (scopied_any s [σ cO cW dE,σ cP cX dF,σ cQ cY dG,ι s.clock,ι s.Y,σ cR cZ dH,σ cS dA dI,σ cT dB dJ,σ cU dC dK,σ cV dD dL,σ aM aN aO,ι s.aborts,ι s.U] (o14s (G:Nat)) G (I.o G U.o).2.2.1 (q.o.1.inv.copyS q.o.2.1 q.o.1.eight q.o.1.steps) (λb m=>o14s_hi m));clear f;go_wp2_with fail;refine fX.o.mono ?_;rintro e E ⟨iM,c4,rfl,eB,K,fG⟩;obtain ⟨hJ,hU,iE,hK,hX,iF,hM,hY,iG,hN,hZ,iH,hO,iA,iI,hP,iB,iJ,hQ,iC,iK,hR,iD,iL,eL,eM,eN,rfl⟩:=eB.shape;obtain ⟨r,X⟩:=ε (E.alloc (χ #[σ hJ hU iE,σ hK hX iF,σ hM hY iG,ι s.clock,ι s.Y,σ hN hZ iH,σ hO iA iI,σ hP iB iJ,σ hQ iC iK,σ hR iD iL,σ eL eM eN,ι s.aborts,ι s.U] 39));have aL:=SAt.boxed eB fG X;have aU:Below G G E:=⟨K.os,K.tape,K.output,K.size,λb m=>K.kp b m (no _)⟩
 have aK:Below W W r:=(U.o.th aU).th (bl1 X);obtain ⟨x,fC⟩:=ε (λb=>if b=(E:Nat) then 1 else c4 b:A1);rw [<-fC] at aL;have aC:∀ b,b<(G:Nat)->x b=14:=λb m=>by rw [aL.2.old b (Nl m K.size),K.old b m,o14s_lo m]
 have cJ:=@Lh (∀ b,b<(G:Nat)->x b=14) aC;have dR:Hid (CtxS cd (.agg (Bc y A C D cd)) (w:Nat) w r x):=Lh ⟨q.o.2.2,rfl,(I.o r aK).2.2.2.1,(I.o r aK).1,λb m=>by rw [aC b (by have:=U.o.size;have:=(I.o W Br).2.2.2.2;omega)];exact Io⟩;have eO:=Lh aK;have eR:=Lh aL.1;have eS:=Lh X;have dS:=@Lh ((w:Nat)+1+1<G/\(G:Nat)<=r) (by have:=eD.o;have:=U.o.size;have:=aU.size;have:=sz1 X;omega)
  -- what stays where it was
 have dO:Hid (∀ V k,AT NZ x k r V->V.heap[(w:Nat)]?=ς (χ (Bc y A C D cd) 25 (0,0))/\V.heap[(w:Nat)+1+1]?=ς (χ #[ν,ν,ν,ι 0,ι 0,ν,ν,ν,ν,ν,ν,ι 0,ι 0] 39 (0,0))/\k ((w:Nat)+1+1)=14/\Below w w V):=Lh (λV k hC=>by
  have h5:=dM.o r eO.o;have z:=dS.o;refine ⟨(hC.kp _ ω (by rw [cJ.o _ ω];exact Io)).trans h5.2.1,(hC.kp _ ω (by rw [cJ.o _ ω];exact Io)).trans h5.2.2.2,by rw [hC.old _ ω];exact cJ.o _ ω,?_⟩;exact (I.o r eO.o).2.2.2.1.trans (hC.belowN (B:=(w:Nat)) dR.o.low dR.o.size))
 obtain ⟨ca,cc,fE⟩:=eR.o.callsR;have fY:=Lh (senabled_any s (E:Nat) ca cc r fE (by rw [q.o.1.inv.A];have:=q.o.1.eight;omega));clear fE eB K fG aL aU aK fC aC X fN fO fP fQ fR fS fT fU fV fW bH bI bJ;go_upto_region 4 with fail;rw [<-eS.o];clear eS;go_wp2_with fail;refine fY.o.mono ?_;rintro e Q ⟨la,lc,rfl,dW,bG⟩;have dT:AT NZ x x r Q:=AT.ob dW Qx;have H6:Hid (SAt Q x (E:Nat) s/\AT NZ x x r Q/\CtxS cd (.agg (Bc y A C D cd)) (w:Nat) w Q x/\AE Q Q 1 Aj (σ la (enS s s.A.length).length lc) (enS s s.A.length)):=Lh ⟨eR.o.grow dW,dT,dR.o.go dT,bG⟩;have aX:=@Lh (0<=s.U) (Int.le_trans q.o.1.inv.clock.1 q.o.1.inv.clock.2);clear dW bG dT;go_wp2_with fail;go_loopg [7] 65540 (λgk s7 wr=>∃ (a:Option Addr) (n M:Nat),s7=σ a n M/\Hid (∃ c k,SAt wr k (E:Nat) c/\AT NZ x k r wr/\CtxS cd (.agg (Bc y A C D cd)) (w:Nat) w wr k/\FinS cd s c/\TraI cd c/\c.active.length=s.active.length/\n=(enS c c.A.length).length/\AE wr wr 1 Aj (σ a n M) (enS c c.A.length)/\65537 - c.U<gk/\0<=c.U))
 case atStart=>exact ⟨la,_,lc,rfl,Lh ⟨s,x,H6.o.1,H6.o.2.1,H6.o.2.2.1,.nil s,q.o.1,rfl,rfl,H6.o.2.2.2,by have:=aX.o;omega,aX.o⟩⟩
 case round=>
  obtain ⟨a,n,M,rfl,HR⟩:=hrel;obtain ⟨c,k,eZ,eV,fA,eX,eY,fH,fI,bF,eA,eT⟩:=HR.o;have j:=Lh (ϟ eZ (ϟ eV (ϟ fA (ϟ eX (ϟ eY (ϟ fH (ϟ eA eT)))))));have dP:=Lh (ϟ fI bF);clear eZ eV fA eX eY fH fI bF eA eT;by_cases hp:0<n
  .obtain ⟨v,l,eE⟩:∃ v l,enS c c.A.length=v::l:=by
    cases hq:enS c c.A.length with
    | nil=>have:=dP.o.1;rw [hq] at this;simp at this;omega
    | cons a b=>exact ⟨a,b,rfl⟩
   obtain ⟨i,cl,l',rfl,fD,fF⟩:=enS_head eE;obtain ⟨lb,lo,y0⟩:∃ lb lo,a=ς (π lb lo)/\wr.cell? (π lb lo)=ς (ι (i:Int)):=by
    have h1:=dP.o.2;rw [eE] at h1;obtain ⟨a',gG,e,_,_,_,hE⟩:=h1;rcases hE with h0|⟨b,o,e2,_,hE⟩
    .cases h0
    .have:=hE 0 _ rfl
     simp at e;exact ⟨b,o,by rw [e.1];exact e2,by have:=this.1;rw [Nat.zero_mul,Nat.add_zero] at this;exact this⟩
   obtain ⟨rfl,y0⟩:=y0;have d1:=η ((0:Int)<(n:Int));have d2:decide (0<n)=true:=decide_eq_true hp;have i0:(0:Int)<(n:Int):=ω;obtain ⟨gE,gH,bB⟩:=j.o.1.callsR;have gB:=Lh (refused_any c (E:Nat) i gE gH wr bB);have cK:=Lh (ϟ fD (ϟ fF y0));clear eE fD fF bB;go_wp2_with fail;refine gB.o.mono ?_;rintro e J ⟨rfl,cM⟩;have eP:=Lh cM;have y1:=AB cM y0;have eW:=j.o.2.1.trans (AT.ob cM Qx);have eQ:=Lh eW;clear cM y0 eW;by_cases hs:65536<=c.U
   .have bE:refE c i=6:=by rw [refE_head cK.o.1,if_pos hs]
    rw [bE];have F:=dO.o J k eQ.o;have d:=F.2.1;have g:=row13 d;have gW:=g 0 _ rfl;have gM:=Ψ 0 d;have gX:=g 1 _ rfl;have gN:=Ψ 1 d;have gY:=g 2 _ rfl;have gO:=Ψ 2 d;have gZ:=g 3 _ rfl;have gP:=Ψ 3 d;have hA:=g 4 _ rfl;have gQ:=Ψ 4 d;have hB:=g 5 _ rfl;have gR:=Ψ 5 d;have hD:=g 6 _ rfl;have gS:=Ψ 6 d;have hF:=g 7 _ rfl;have gT:=Ψ 7 d;have hG:=g 8 _ rfl;have gU:=Ψ 8 d;have hH:=g 9 _ rfl;have gV:=Ψ 9 d;have eI:=g 10 _ rfl;have eF:=Ψ 10 d;have eJ:=g 11 _ rfl;have eG:=Ψ 11 d;have eK:=g 12 _ rfl;have eH:=Ψ 12 d;have aV:=puts13_row d ν ν ν (ι 0) (ι 0) ν ν ν ν ν ν (ι 0) (ι 0);have dZ:Below w w (putsW J ((w:Nat)+1+1) 0 [ν,ν,ν,ι 0,ι 0,ν,ν,ν,ν,ν,ν,ι 0,ι 0]):=below_puts ω _ _ F.2.2.2;obtain ⟨WE,L⟩:=ε (putsW J ((w:Nat)+1+1) 0 [ν,ν,ν,ι 0,ι 0,ν,ν,ν,ν,ν,ν,ι 0,ι 0]);rw [<-L] at aV dZ;have aS:Hid (FinIs cd s w (.returned (.tuple #[.agg #[ν,ν,ν,ι 0,ι 0,ν,ν,ν,ν,ν,ν,ι 0,ι 0],ι 6])) WE):=Lh ⟨dZ,.inl ⟨c,j.o.2.2.2.1,j.o.2.2.2.2.1,hs,rfl⟩⟩;have aT:=Lh aV;have dQ:=Lh L;clear bE F d g aV dZ L hs y1;go_wp2_with fail;rw [puts13,<- dQ.o];exact bodyPost_ret (results_tra2 (p:=4) (u:=5) rfl aT.o _ rfl rfl) rfl aS.o
   .have bE:refE c i=0:=by rw [refE_head cK.o.1,if_neg hs]
    rw [bE];have gA:=Lh hs;have F:=(dO.o J k eQ.o).1;have e0:=Ω3 F;have dY:Below J J J.drew:=AG Br 1;have dU:=Lh ((AT.ob (eP.o.th dY) Qx:AT NZ k k wr J.drew));have gC:=Lh (sstep_any cd y C A D (w:Nat) c k (E:Nat) i cl l' w J.drew (j.o.2.2.1.go dU.o) q.o.2.1 (j.o.1.grow (eP.o.th dY)) j.o.2.2.2.2.1.inv cK.o.1 ω);clear bE F hs dY;go_upto_region 10 with fail;refine Ac (λVs=>Vs.cell? (π w 0)=ς (σ y cd.H A)/\Vs.cell? (π w 1)=ς (ι cd.G)/\Vs.cell? (π w 2)=ς (σ C cd.funcs D)/\Vs.cell? (π lb lo)=ς (ι (i:Int))) [4] true 5 rfl κ κ ⟨e0.1,e0.2.1,e0.2.2,y1⟩ ?_;refine softA ?_;clear e0 y1;refine AH κ ?_;go_simp;refine gC.o.mono ?_;rintro e w9 ⟨rfl,P,hS,c2,eC,dV⟩;have hT:=TraI.stepS j.o.2.2.2.2.1 hS (by have:=gA.o;omega);have aY:AT NZ x c2 r w9:=(j.o.2.1.trans dU.o).trans dV;have bA:=(j.o.2.2.1.go dU.o).go dV;have fK:=(gw.law j.o.2.2.2.2.1.inv hS).U;obtain ⟨gF,gI,bC⟩:=eC.callsR;have dN:=Lh (senabled_any P (E:Nat) gF gI w9 bC (by rw [hT.1.inv.A];have:=hT.1.eight;omega));have H:=Lh (ϟ eC (ϟ aY (ϟ bA (ϟ (FinS.snoc j.o.2.2.2.1 cK.o.2.1 hS) (ϟ hT fK)))));clear hS eC dV hT aY bA fK bC;refine BH ?_;go_wp2_with fail;refine dN.o.mono ?_;rintro e Y ⟨fL,fM,rfl,aJ,aR⟩;have HN:Hid (∃ c k,SAt Y k (E:Nat) c/\AT NZ x k r Y/\CtxS cd (.agg (Bc y A C D cd)) (w:Nat) w Y k/\FinS cd s c/\TraI cd c/\c.active.length=s.active.length/\(enS P P.A.length).length=(enS c c.A.length).length/\AE Y Y 1 Aj (σ fL (enS P P.A.length).length fM) (enS c c.A.length)/\65537 - c.U<(gk - 1:Nat)/\0<=c.U):=Lh ⟨P,c2,H.o.1.grow aJ,H.o.2.1.trans (AT.ob aJ Qx),H.o.2.2.1.grow aJ,H.o.2.2.2.1,H.o.2.2.2.2.1.1,by rw [H.o.2.2.2.2.1.2];exact j.o.2.2.2.2.2.1,rfl,aR,by have h1:=H.o.2.2.2.2.2;have h2:=j.o.2.2.2.2.2.2;have h3:=H.o.2.2.2.2.1.1.steps;omega,by have h1:=H.o.2.2.2.2.2;have h2:=j.o.2.2.2.2.2.2;omega⟩;have eA:0<gk:=by have h2:=j.o.2.2.2.2.2.2;have h3:=j.o.2.2.2.2.1.steps;omega
    clear aJ aR;go_wp2_with fail
    go_roundg (gk - 1)
    case measure=>omega
    case rel=>exact ⟨fL,_,fM,rfl,HN⟩
  .have gL:n=0:=ω
   subst gL;have bD:enS c c.A.length=[]:=List.eq_nil_of_length_eq_zero dP.o.1.symm;have fZ:=Lh bD;have F:=dO.o wr k j.o.2.1;have d:=F.2.1;have g:=row13 d;have gW:=g 0 _ rfl;have gM:=Ψ 0 d;have gX:=g 1 _ rfl;have gN:=Ψ 1 d;have gY:=g 2 _ rfl;have gO:=Ψ 2 d;have gZ:=g 3 _ rfl;have gP:=Ψ 3 d;have hA:=g 4 _ rfl;have gQ:=Ψ 4 d;have hB:=g 5 _ rfl;have gR:=Ψ 5 d;have hD:=g 6 _ rfl;have gS:=Ψ 6 d;have hF:=g 7 _ rfl;have gT:=Ψ 7 d;have hG:=g 8 _ rfl;have gU:=Ψ 8 d;have hH:=g 9 _ rfl;have gV:=Ψ 9 d;have eI:=g 10 _ rfl;have eF:=Ψ 10 d;have eJ:=g 11 _ rfl;have eG:=Ψ 11 d;have eK:=g 12 _ rfl;have eH:=Ψ 12 d;obtain ⟨eU,gJ,iN,aD,cN⟩:=(show GStAt wr k _ (E:Nat) (traG c) from j.o.1)
   obtain ⟨Z,bT,cB,bM,bU,cC,bN,bV,cD,bO,bW,cE,bP,bX,cF,bQ,bY,cG,bR,bZ,cH,bS,cA,cI,R,S,T,rfl⟩:=cN.shape;have f:=row13 aD;have fN:=f 0 _ rfl;have fO:=f 1 _ rfl;have fP:=f 2 _ rfl;have fQ:=f 3 _ rfl;have fR:=f 4 _ rfl;have fS:=f 5 _ rfl;have fT:=f 6 _ rfl;have fU:=f 7 _ rfl;have fV:=f 8 _ rfl;have fW:=f 9 _ rfl;have bH:=f 10 _ rfl;have bI:=f 11 _ rfl;have bJ:=f 12 _ rfl;have aE:=puts13_row d (σ Z bT cB) (σ bM bU cC) (σ bN bV cD) (ι c.clock) (ι c.Y) (σ bO bW cE) (σ bP bX cF) (σ bQ bY cG) (σ bR bZ cH) (σ bS cA cI) (σ R S T) (ι c.aborts) (ι c.U);have cL:AT (λt=>t=14) k k wr (putsW wr ((w:Nat)+1+1) 0 [σ Z bT cB,σ bM bU cC,σ bN bV cD,ι c.clock,ι c.Y,σ bO bW cE,σ bP bX cF,σ bQ bY cG,σ bR bZ cH,σ bS cA cI,σ R S T,ι c.aborts,ι c.U]):=puts_chg F.2.2.1 ω _ _ _;have dX:Below w w (putsW wr ((w:Nat)+1+1) 0 [σ Z bT cB,σ bM bU cC,σ bN bV cD,ι c.clock,ι c.Y,σ bO bW cE,σ bP bX cF,σ bQ bY cG,σ bR bZ cH,σ bS cA cI,σ R S T,ι c.aborts,ι c.U]):=below_puts ω _ _ F.2.2.2;obtain ⟨WE,L⟩:=ε (putsW wr ((w:Nat)+1+1) 0 [σ Z bT cB,σ bM bU cC,σ bN bV cD,ι c.clock,ι c.Y,σ bO bW cE,σ bP bX cF,σ bQ bY cG,σ bR bZ cH,σ bS cA cI,σ R S T,ι c.aborts,ι c.U]);rw [<-L] at aE cL dX;have aS:Hid (FinIs cd s w (.returned (.tuple #[.agg #[σ Z bT cB,σ bM bU cC,σ bN bV cD,ι c.clock,ι c.Y,σ bO bW cE,σ bP bX cF,σ bQ bY cG,σ bR bZ cH,σ bS cA cI,σ R S T,ι c.aborts,ι c.U],ι 0])) WE):=Lh ⟨dX,.inr ⟨c,_,j.o.2.2.2.1,j.o.2.2.2.2.1,j.o.2.2.2.2.2.1,fZ.o,rfl,(cN.kp cL (okAll_of λt ht=>by omega)).reads (InvS.wf j.o.2.2.2.2.1.inv j.o.2.2.2.2.1.outs j.o.2.2.2.2.1.steps),⟨k,cN.kp cL (okAll_of λt ht=>by omega),λb m=>by rw [j.o.2.1.old b (by have:=dS.o;omega)];exact cJ.o b (by have:=dS.o;omega),λb m=>eU b (by rw [L,putsW_size] at m;exact m)⟩⟩⟩;have aT:=Lh aE;have dQ:=Lh L;have zb:(E:Nat)<wr:=(La aD)
   clear bD F d g eU gJ aD cN f aE cL dX L;go_wp2_with fail;rw [puts13,<- dQ.o];exact bodyPost_ret (results_tra2 (p:=4) (u:=5) rfl aT.o _ rfl rfl) rfl aS.o
