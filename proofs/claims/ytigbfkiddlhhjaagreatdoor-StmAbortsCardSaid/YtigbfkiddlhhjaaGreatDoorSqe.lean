import Derived.Test.YtigbfkiddlhhjaaGreatDoorSqa
import Derived.Test.YtigbfkiddlhhjaaGreatDoorSqd
import Derived.Test.YtigbfkiddlhhjaaGreatDoorSpg
import Derived.Test.YtigbfkiddlhhjaaGreatDoorSpt
set_option maxHeartbeats 4000000
set_option maxRecDepth 100000
set_option linter.all false
open Go renaming World→Ϣ,Value→ϒ,bodyPost_ret→ϖ
open Go.Value renaming slice→σ
open Go.Obj renaming cells→χ
namespace Go.Proofs.YtigbfkiddlhhjaaGreatDoor
open Go.RowKit Proofs.Tryz
variable {W w:Ϣ} {c:A1} {vs:List ϒ} {s:Tra} {B n b:Nat}
def results_tra2 {e:Func} {p u:Tmp} (s:e.results=#[.cell p 39,.tmp u]) {R:Nat} {x0 i j k l m n o q r b c d v:ϒ} (h:W.heap[R]?=some (χ #[x0,i,j,k,l,m,n,o,q,r,b,c,d] 39 (0,0))) (a:Array ϒ) (f:a.getD p undef=.pointer (some (π R 0))) (g:a.getD u undef=v) :
  (results e a).run prog W=.ok (.tuple #[.agg #[x0,i,j,k,l,m,n,o,q,r,b,c,d],v]) W:=by
 simp only [results,s];rw [Array.getD_eq_getD_getElem?] at f g;simp [f,g,asAddr,load_tra h,Result.andThen,Sem.run_bind]
def GVals.shape (h:GVals w c vs (traG s)):∃ (f:Option Addr) (o y:Nat) (g:Option Addr) (p z:Nat) (i:Option Addr) (q A:Nat) (j:Option Addr) (r B:Nat) (k:Option Addr) (t C:Nat) (l:Option Addr) (u D:Nat) (m:Option Addr) (v E:Nat) (n:Option Addr) (x F:Nat) (b:Option Addr) (d e:Nat),vs=[σ f o y,σ g p z,σ i q A,ι s.clock,ι s.Y,σ j r B,σ k t C,σ l u D,σ m v E,σ n x F,σ b d e,ι s.aborts,ι s.U]:=by
 obtain ⟨G,_,a⟩:=h
 match vs,G with
 | [w0,w1,w2,w3,w4,w5,w6,w7,w8,w9,w10,w11,w12],_=>obtain ⟨f,o,y,rfl⟩:=RowLf.form_ (a 0 _ _ rfl rfl);obtain ⟨g,p,z,rfl⟩:=RowLf.form_ (a 1 _ _ rfl rfl);obtain ⟨i,q,A,rfl⟩:=RowLf.form_ (a 2 _ _ rfl rfl);obtain rfl:w3=ι s.clock:=a 3 _ _ rfl rfl;obtain rfl:w4=ι s.Y:=a 4 _ _ rfl rfl;obtain ⟨j,r,B,rfl⟩:=RowLf.form_ (a 5 _ _ rfl rfl);obtain ⟨k,t,C,rfl⟩:=RowLf.form_ (a 6 _ _ rfl rfl);obtain ⟨l,u,D,rfl⟩:=RowLf.form_ (a 7 _ _ rfl rfl);obtain ⟨m,v,E,rfl⟩:=RowLf.form_ (a 8 _ _ rfl rfl);obtain ⟨n,x,F,rfl⟩:=RowLf.form_ (a 9 _ _ rfl rfl);obtain ⟨b,d,e,rfl⟩:=RowLf.form_ (a 10 _ _ rfl rfl);obtain rfl:w11=ι s.aborts:=a 11 _ _ rfl rfl;obtain rfl:w12=ι s.U:=a 12 _ _ rfl rfl;exact ⟨f,o,y,g,p,z,i,q,A,j,r,B,k,t,C,l,u,D,m,v,E,n,x,F,b,d,e,rfl⟩
def TraVs.shape (h:TraVs B w vs s):∃ (d:Option Addr) (m v:Nat) (e:Option Addr) (n x:Nat) (f:Option Addr) (o y:Nat) (g:Option Addr) (p z:Nat) (i:Option Addr) (q A:Nat) (j:Option Addr) (r C:Nat) (k:Option Addr) (t D:Nat) (l:Option Addr) (u E:Nat) (a:Option Addr) (b c:Nat),vs=[σ d m v,σ e n x,σ f o y,ι s.clock,ι s.Y,σ g p z,σ i q A,σ j r C,σ k t D,σ l u E,σ a b c,ι s.aborts,ι s.U]:=by
 obtain ⟨gv,nv,vv,av,cv,ov,bv,ev,dv,rfl,U,V,X,P,R,W,Q,T,S⟩:=h;obtain ⟨N,O,rfl⟩:=U.form;obtain ⟨Y,Z,rfl⟩:=V.form;obtain ⟨va,vc,rfl⟩:=X.form;obtain ⟨F,G,rfl⟩:=P.form;obtain ⟨J,K,rfl⟩:=R.form;obtain ⟨oa,oc,rfl⟩:=W.form;obtain ⟨H,I,rfl⟩:=Q.form;obtain ⟨L,M,rfl⟩:=T.form;obtain ⟨da,dc,rfl⟩:=S.form;exact ⟨N,_,O,Y,_,Z,va,_,vc,F,_,G,J,_,K,oa,_,oc,H,_,I,L,_,M,da,_,dc,rfl⟩
structure TraI (cd:AQ) (s:Tra):Prop where
 inv:InvS cd s
 outs:InvO s
 one:1<=s.active.length
 eight:s.active.length<=8
 steps:s.U<=65536
def SAt.boxed (h:GVals w c vs (traG s)) (d:∀ b,(w:Nat)<=b->c b=0) (a:W=w.alloc (χ vs.toArray 39)):SAt W (λb=>if b=(w:Nat) then 1 else c b) (w:Nat) s/\AT NO c (λb=>if b=(w:Nat) then 1 else c b) w W:=by
 have f:Below w w W:=by rw [a];exact AA _ _
 have g:(W:Nat)=(w:Nat)+1:=by rw [a];simp
 have e:AT NO c (λb=>if b=(w:Nat) then 1 else c b) w W:=AT.paint _ _ f (Nr _);refine ⟨⟨λb f=>?_,if_pos rfl,vs,by rw [a];exact Hn _ _,h.kp e (okAll_of λt _=>no t)⟩,e⟩;show (if b=(w:Nat) then 1 else c b)=0;rw [if_neg ω];exact d b ω
def o14s (n:Nat):A1:=λb=>if b<n then 14 else 0
def o14s_lo (h:b<n):o14s n b=14:=if_pos h
def o14s_hi (h:n<=b):o14s n b=0:=if_neg ω
def refE_yes {t:Int} (h:refE s t=0):∃ i c l,t=((i:Nat):Int)/\s.A[i]?=some (c::l)/\s.U<65536:=by
 unfold refE at h;split at h
 .cases h
 .rename_i h0
  split at h
  .cases h
  .rename_i h1
   split at h
   .cases h
   .rename_i h2
    obtain ⟨l,b⟩:∃ l,s.A[t.toNat]?=some l:=⟨_,Lg ω⟩
    rw [getD_at b] at h1;cases l with
    | nil=>exact absurd rfl h1
    | cons a l=>exact ⟨t.toNat,a,l,ω,b,ω⟩
def below_puts {w0:Ϣ} (c:B<=b):∀ (a:List ϒ) {w:Ϣ} (o:Nat),Below B w0 w->Below B w0 (putsW w b o a)
 | [],_,_,h=>h
 | u::a,w,o,h=>below_puts c a (o+1) (h.setCell (p:=(π b o)) c u)
def OwnV (w w':Ϣ) (vs:List ϒ) (s:Tra):Prop:=∃ c,GVals w' c vs (traG s)/\(∀ b,b<(w:Nat)->c b=14)/\∀ b,(w':Nat)<=b->c b=0
def StpIs (cd:AQ) (s:Tra) (t:Int) (w:Ϣ) (e:Ending) (w':Ϣ):Prop:=Below w w w'/\((refE s t≠0/\e=.returned (.tuple #[.agg #[ν,ν,ν,ι 0,ι 0,ν,ν,ν,ν,ν,ν,ι 0,ι 0],ι (refE s t)]))\/(refE s t=0/\∃ s' vs',gw cd s t.toNat s'/\e=.returned (.tuple #[.agg vs'.toArray,ι 0])/\TraVs (w':Nat) w' vs' s'/\OwnV w w' vs' s'))
def sStep_any (cd:AQ) (v y:Option Addr) (x z:Nat) (s:Tra) (vs:List ϒ) (t:Int) (w:Ϣ) (hL:C8 w) (eF:Bv cd) (hc:BF w w (.agg (Bc v x y z cd)) cd) (hs:TraVs (w:Nat) w vs s) (hI:TraI cd s) :
  Calls prog 17 #[.agg (Bc v x y z cd),.agg vs.toArray,ι t] w (StpIs cd s t w):=by
 obtain ⟨Z,bP,bX,bI,bQ,bY,bJ,bR,bZ,bK,bS,cA,bL,bT,cB,bM,bU,cC,bN,bV,cD,bO,bW,cE,O,P,Q,rfl⟩:=hs.shape;obtain ⟨W,A⟩:=ε (((w.alloc (χ (Bc v x y z cd) 25)).alloc (χ #[σ Z bP bX,σ bI bQ bY,σ bJ bR bZ,ι s.clock,ι s.Y,σ bK bS cA,σ bL bT cB,σ bM bU cC,σ bN bV cD,σ bO bW cE,σ O P Q,ι s.aborts,ι s.U] 39)).alloc (χ #[ν,ν,ν,ι 0,ι 0,ν,ν,ν,ν,ν,ν,ι 0,ι 0] 39));obtain ⟨eX,J,R0,R1,R2⟩:=Λ5 (bl3 A) (sz3 A) (ro31 A) (ro32 A) (ro33 A);have j:=Lh (And.intro hI (And.intro eF hL));have n:Hid (∀ V,Below W W V->BF w V (.agg (Bc v x y z cd)) cd/\C8 V/\TraVs V.heap.size V [σ Z bP bX,σ bI bQ bY,σ bJ bR bZ,ι s.clock,ι s.Y,σ bK bS cA,σ bL bT cB,σ bM bU cC,σ bN bV cD,σ bO bW cE,σ O P Q,ι s.aborts,ι s.U] s/\Below w w V/\(w:Nat)<=V.heap.size):=Lh (λV E=>by
  have f:=eX.o.th E;exact ⟨hc.below f,hL.below f,hs.ups f.size (JT.below f),f,f.size⟩)
 have D:Hid (∀ V,Below W W V->BoxR V ((w:Nat)+1) s/\V.heap[(w:Nat)]?=some (χ (Bc v x y z cd) 25 (0,0))/\V.heap[(w:Nat)+1]?=some (χ #[σ Z bP bX,σ bI bQ bY,σ bJ bR bZ,ι s.clock,ι s.Y,σ bK bS cA,σ bL bT cB,σ bM bU cC,σ bN bV cD,σ bO bW cE,σ O P Q,ι s.aborts,ι s.U] 39 (0,0))/\V.heap[(w:Nat)+1+1]?=some (χ #[ν,ν,ν,ι 0,ι 0,ν,ν,ν,ν,ν,ν,ι 0,ι 0] 39 (0,0))):=Lh (λV E=>by
  have h:=J.o;have l:=(E.block ((w:Nat)+1) ω).trans R1.o;exact ⟨⟨_,(n.o V E).2.2.1,row13 l⟩,(E.block (w:Nat) ω).trans R0.o,l,(E.block ((w:Nat)+1+1) ω).trans R2.o⟩)
 clear hL eF hc hs hI;have c0:=Ω3 R0.o;have zc:(w:Nat)<W:=by have:=J.o;omega
 have eV:=Lh (svalid_any cd s ((w:Nat)+1) v y x z W (n.o W Br).2.1 j.o.2.1 ((n.o W Br).1.up (n.o W Br).2.2.2.2) (D.o W Br).1 j.o.1.inv j.o.1.one j.o.1.eight j.o.1.steps);go_enter func17,ntmps17;go_upto_region 1 with fail;rw [<-A];clear A;go_wp2_with fail;refine eV.o.mono ?_;rintro e w1 ⟨rfl,dX⟩;have dT:=Lh dX;clear c0 zc dX;obtain ⟨ca,cc,eC⟩:=(D.o w1 dT.o).1.callsR;have eT:=Lh (refused_any s ((w:Nat)+1) t ca cc w1 eC);clear eC;go_wp2_with fail;refine eT.o.mono ?_;rintro e k ⟨rfl,dY⟩;have q:=Lh (dT.o.th dY);clear dY;by_cases l:refE s t=0;rotate_left
 .have d0:=τ (refE s t) 0 l
  have HR:=Lh l;have a:=(D.o k q.o).2.2.2;have d:=row13 a;have fI:=d 0 _ rfl;have eY:=Ψ 0 a;have fJ:=d 1 _ rfl;have eZ:=Ψ 1 a;have fK:=d 2 _ rfl;have fA:=Ψ 2 a;have fL:=d 3 _ rfl;have fB:=Ψ 3 a;have fM:=d 4 _ rfl;have fC:=Ψ 4 a;have fN:=d 5 _ rfl;have fD:=Ψ 5 a;have fO:=d 6 _ rfl;have fE:=Ψ 6 a;have fP:=d 7 _ rfl;have fF:=Ψ 7 a;have fQ:=d 8 _ rfl;have fG:=Ψ 8 a;have fR:=d 9 _ rfl;have fH:=Ψ 9 a;have dN:=d 10 _ rfl;have dK:=Ψ 10 a;have dO:=d 11 _ rfl;have dL:=Ψ 11 a;have dP:=d 12 _ rfl;have dM:=Ψ 12 a;have aT:=puts13_row a ν ν ν (ι 0) (ι 0) ν ν ν ν ν ν (ι 0) (ι 0);have dF:Below w w (putsW k ((w:Nat)+1+1) 0 [ν,ν,ν,ι 0,ι 0,ν,ν,ν,ν,ν,ν,ι 0,ι 0]):=by exact below_puts ω _ _ (n.o k q.o).2.2.2.1
  obtain ⟨WE,o⟩:=ε (putsW k ((w:Nat)+1+1) 0 [ν,ν,ν,ι 0,ι 0,ν,ν,ν,ν,ν,ν,ι 0,ι 0]);rw [<-o] at aT dF;have aR:Hid (StpIs cd s t w (.returned (.tuple #[.agg #[ν,ν,ν,ι 0,ι 0,ν,ν,ν,ν,ν,ν,ι 0,ι 0],ι (refE s t)])) WE):=Lh ⟨dF,.inl ⟨HR.o,rfl⟩⟩;have aS:=Lh aT;have dE:=Lh o;clear l a d aT dF o;go_wp2_with fail;rw [puts13,<- dE.o];exact ϖ (results_tra2 (p:=6) (u:=7) rfl aS.o _ rfl rfl) rfl aR.o
 have d0:=ρ (refE s t) 0 l;have HR:=Lh l;obtain ⟨i,cl,l',rfl,eB,eG⟩:=refE_yes l;have dD:=Lh (And.intro eB eG);have c:=row13 (D.o k q.o).2.2.1;have eH:=c 0 _ rfl;have eI:=c 1 _ rfl;have eJ:=c 2 _ rfl;have eK:=c 3 _ rfl;have eL:=c 4 _ rfl;have eM:=c 5 _ rfl;have eN:=c 6 _ rfl;have eO:=c 7 _ rfl;have eP:=c 8 _ rfl;have eQ:=c 9 _ rfl;have bB:=c 10 _ rfl;have bC:=c 11 _ rfl;have bD:=c 12 _ rfl;have eS:=Lh (scopied_any s [σ Z bP bX,σ bI bQ bY,σ bJ bR bZ,ι s.clock,ι s.Y,σ bK bS cA,σ bL bT cB,σ bM bU cC,σ bN bV cD,σ bO bW cE,σ O P Q,ι s.aborts,ι s.U] (o14s (k:Nat)) k (n.o k q.o).2.2.1 (j.o.1.inv.copyS j.o.2.1 j.o.1.eight j.o.1.steps) (λb f=>o14s_hi f));clear l eB eG c;go_wp2_with fail;refine eS.o.mono ?_;rintro e F ⟨gQ,c4,rfl,dH,r,eD⟩;obtain ⟨fS,gA,gI,fT,gB,gJ,fU,gC,gK,fV,gD,gL,fW,gE,gM,fX,gF,gN,fY,gG,gO,fZ,gH,gP,dQ,dR,dS,rfl⟩:=dH.shape;obtain ⟨m,X⟩:=ε (F.alloc (χ #[σ fS gA gI,σ fT gB gJ,σ fU gC gK,ι s.clock,ι s.Y,σ fV gD gL,σ fW gE gM,σ fX gF gN,σ fY gG gO,σ fZ gH gP,σ dQ dR dS,ι s.aborts,ι s.U] 39));have N:=SAt.boxed dH eD X;have aY:Below k k F:=⟨r.os,r.tape,r.output,r.size,λb f=>r.kp b f (no _)⟩
 have C:Below W W m:=(q.o.th aY).th (bl1 X);obtain ⟨K,eA⟩:=ε (λb=>if b=(F:Nat) then 1 else c4 b:A1);rw [<-eA] at N;have aD:∀ b,b<(k:Nat)->K b=14:=λb f=>by rw [N.2.old b (Nl f r.size),r.old b f,o14s_lo f]
 have dU:=@Lh (∀ b,b<(k:Nat)->K b=14) aD;have H:Hid (CtxS cd (.agg (Bc v x y z cd)) (w:Nat) w m K):=Lh ⟨j.o.2.2,rfl,(n.o m C).2.2.2.1,(n.o m C).1,λb f=>by rw [aD b (by have:=q.o.size;have:=(n.o W Br).2.2.2.2;omega)];exact Io⟩;have eU:=Lh (sstep_any cd v y x z (w:Nat) s K (F:Nat) i cl l' w m H.o j.o.2.1 N.1 j.o.1.inv dD.o.1 dD.o.2);have eR:=Lh C;have hk:=(D.o m C).2.1;have e0:=Ω3 hk;have zc:(w:Nat)<m:=by have:=J.o;have:=C.size;omega
 have dV:=Lh X;clear dH r eD N aY C eA aD hk X eH eI eJ eK eL eM eN eO eP eQ bB bC bD;go_upto_region 7 with fail;rw [<-dV.o];clear dV;go_wp2_with fail;refine eU.o.mono ?_;rintro e G ⟨rfl,g,M,L,eE,I⟩;clear e0 zc;have dJ:=(D.o m eR.o).2.2.2;have dI:=(La dJ)
 have dG:K ((w:Nat)+1+1)=14:=dU.o _ (by have:=q.o.size;have:=J.o;omega);have a:=(I.kp _ dI (by rw [dG];exact Io)).trans dJ;have aZ:L ((w:Nat)+1+1)=14:=by rw [I.old _ dI];exact dG
 have d:=row13 a;have fI:=d 0 _ rfl;have eY:=Ψ 0 a;have fJ:=d 1 _ rfl;have eZ:=Ψ 1 a;have fK:=d 2 _ rfl;have fA:=Ψ 2 a;have fL:=d 3 _ rfl;have fB:=Ψ 3 a;have fM:=d 4 _ rfl;have fC:=Ψ 4 a;have fN:=d 5 _ rfl;have fD:=Ψ 5 a;have fO:=d 6 _ rfl;have fE:=Ψ 6 a;have fP:=d 7 _ rfl;have fF:=Ψ 7 a;have fQ:=d 8 _ rfl;have fG:=Ψ 8 a;have fR:=d 9 _ rfl;have fH:=Ψ 9 a;have dN:=d 10 _ rfl;have dK:=Ψ 10 a;have dO:=d 11 _ rfl;have dL:=Ψ 11 a;have dP:=d 12 _ rfl;have dM:=Ψ 12 a;obtain ⟨dW,eW,gR,aE,Y⟩:=(show GStAt G L _ (F:Nat) (traG g) from eE)
 obtain ⟨cF,cN,cV,cG,cO,cW,cH,cP,cX,cI,cQ,cY,cJ,cR,cZ,cK,cS,dA,cL,cT,dB,cM,cU,dC,R,S,T,rfl⟩:=Y.shape;have c:=row13 aE;have eH:=c 0 _ rfl;have eI:=c 1 _ rfl;have eJ:=c 2 _ rfl;have eK:=c 3 _ rfl;have eL:=c 4 _ rfl;have eM:=c 5 _ rfl;have eN:=c 6 _ rfl;have eO:=c 7 _ rfl;have eP:=c 8 _ rfl;have eQ:=c 9 _ rfl;have bB:=c 10 _ rfl;have bC:=c 11 _ rfl;have bD:=c 12 _ rfl;have aF:=puts13_row a (σ cF cN cV) (σ cG cO cW) (σ cH cP cX) (ι g.clock) (ι g.Y) (σ cI cQ cY) (σ cJ cR cZ) (σ cK cS dA) (σ cL cT dB) (σ cM cU dC) (σ R S T) (ι g.aborts) (ι g.U);have U:AT (λt=>t=14) L L G (putsW G ((w:Nat)+1+1) 0 [σ cF cN cV,σ cG cO cW,σ cH cP cX,ι g.clock,ι g.Y,σ cI cQ cY,σ cJ cR cZ,σ cK cS dA,σ cL cT dB,σ cM cU dC,σ R S T,ι g.aborts,ι g.U]):=puts_chg aZ ω _ _ _;obtain ⟨WE,o⟩:=ε (putsW G ((w:Nat)+1+1) 0 [σ cF cN cV,σ cG cO cW,σ cH cP cX,ι g.clock,ι g.Y,σ cI cQ cY,σ cJ cR cZ,σ cK cS dA,σ cL cT dB,σ cM cU dC,σ R S T,ι g.aborts,ι g.U]);rw [<-o] at aF U;have dZ:Below w w WE:=by have h1:Below w m G:=I.belowN (B:=(w:Nat)) H.o.low H.o.size;rw [o];exact below_puts ω _ _ (H.o.bel.trans h1)
 have aR:Hid (StpIs cd s (i:Int) w (.returned (.tuple #[.agg #[σ cF cN cV,σ cG cO cW,σ cH cP cX,ι g.clock,ι g.Y,σ cI cQ cY,σ cJ cR cZ,σ cK cS dA,σ cL cT dB,σ cM cU dC,σ R S T,ι g.aborts,ι g.U],ι 0])) WE):=Lh ⟨dZ,.inr ⟨HR.o,g,_,by rw [Int.toNat_natCast];exact M,rfl,(Y.kp U (okAll_of λt ht=>by omega)).reads (InvS.wf (j.o.1.inv.stepS M) (M.outs j.o.1.inv j.o.1.outs j.o.1.steps) (by obtain ⟨_,h⟩:=dD.o;have:=(gw.law j.o.1.inv M).U;omega)),⟨L,Y.kp U (okAll_of λt ht=>by omega),λb f=>by rw [I.old b (by have:=H.o.size;omega)];exact dU.o b (by have:=q.o.size;have:=J.o;omega),λb f=>dW b (by rw [o,putsW_size] at f;exact f)⟩⟩⟩;have aS:=Lh aF;have aV:=Lh aE;have dE:=Lh o;clear M eE I dJ dI dG a aZ d dW eW aE Y c aF U dZ o;have zb:(F:Nat)<G:=(La aV.o)
 go_wp2_with fail;rw [puts13,<- dE.o];exact ϖ (results_tra2 (p:=6) (u:=7) rfl aS.o _ rfl rfl) rfl aR.o
