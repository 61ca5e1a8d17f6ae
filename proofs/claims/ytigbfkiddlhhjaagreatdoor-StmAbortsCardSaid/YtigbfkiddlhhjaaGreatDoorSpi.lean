import Derived.Test.YtigbfkiddlhhjaaGreatDoorSph
set_option maxHeartbeats 4000000
set_option maxRecDepth 100000
set_option linter.all false
open Option renaming some→ς
open And renaming intro→ϟ
open List renaming replicate→ϱ
open Go.Value renaming slice→σ
open Go.Obj renaming cells→χ
namespace Go.Proofs.YtigbfkiddlhhjaaGreatDoor
open Go.RowKit Proofs.Tryz
def PostA (c:A1) (bt:Nat) (s':Tra) (ab n cap:Nat) (w w':World):Prop:=∃ c',SAt w' c' bt s'/\AT NZ c c' w w'/\w'.cell? (π bt 5)=ς (σ (ς (π ab 0)) n cap)
def AllocIs (cd:AQ) (s:Tra) (i:Nat) (x:Trx) (r:Rq) (bt ab cap:Nat) (c:A1) (w:World) (e:Ending) (w':World):Prop:=
 (s.M.N.length<4096/\e=.returned (ι ((s.M.N:Int)+1))/\PostA c bt { newN cd s r with active:=s.active.set i { x with N:=x.N+1 } } ab s.active.length cap w w')\/
 (¬s.M.N.length<4096/\e=.returned (ι 0)/\PostA c bt s ab s.active.length cap w w')
def info_snode:(prog.info? 72).map (λi=>(i.zero,i.size,i.bytes))=ς (ς (.agg #[ι 0,ν]),2,32):=by kernel_rfl
def info_sints:(prog.info? 22).map (λi=>(i.zero,i.size,i.bytes))=ς (ς ν,1,24):=by kernel_rfl
def salloc_any (cd:AQ) (O P:Option Addr) (J Q B:Nat) (s:Tra) (c:A1) (d i N cap:Nat) (x:Trx) (r:Rq) (a f:Nat) (w0 w:World) (hX:CtxS cd (.agg (Bc O J P Q cd)) B w0 w c) (h:SAt w c d s) (hx:s.active[i]?=ς x) (K:w.cell? (π d 5)=ς (σ (ς (π N 0)) s.active cap))
  (hf:r.D=f) (hk:cd.H[f]?=ς (a:Int)) (dF:a<=12) (dG:s.vers.length<=4097) (dH:0<=x.N/\x.N<=1099511627776) :
  Calls prog 75 #[.agg (Bc O J P Q cd),.pointer (ς (π d 0)),.pointer (ς (π N (i*13))),ι f] w (AllocIs cd s i x r d N cap c w):=by
 obtain ⟨W,F⟩:=ε (w.alloc (χ (Bc O J P Q cd) 25));have X:=Lh (bl1 F);have dB:=Lh (sz1 F);have bP:W.heap[(w:Nat)]?=ς (χ (Bc O J P Q cd) 25 (0,0)):=ro11 F;have c0:=Cw bP 0 rfl;have HX:=Lh (hX.grow X.o);have H:=Lh (h.grow X.o);have bT:=Lh (AB X.o K);have S:=Lh (ϟ hx (ϟ hf hk));by_cases hl:s.M.N.length<4096;rotate_left
 .obtain ⟨na,nc,R,-⟩:=H.o.nods
  have d1:=η (4096<=s.M.N.length);have d2:=η ((4096:Int)<=(s.M.N:Int));have aZ:=Lh hl;have cN:(w.alloc (χ (Bc O J P Q cd) 25)).cell? (π d 1)=ς (σ na s.M.N nc):=by rw [<-F];exact R
  clear hX h hx K hf hk bP c0 hl;go_enter func75,ntmps75;go_upto_region 1 with fail;rw [<-F];clear F;go_wp2;go_ret;exact .inr ⟨aZ.o,rfl,c,H.o,AT.ob X.o Qx,bT.o⟩
 have d1:=θ (4096<=s.M.N.length);have d2:=θ ((4096:Int)<=(s.M.N:Int));obtain ⟨fv,gv,e,bZ,-⟩:=HX.o.code;obtain rfl:fv=σ O cd.H J:=by simp at e;exact e.1.symm
 obtain ⟨fb,fo,rfl,cY,cA⟩:=bZ.nth hk;have m1:=cA.1;rw [Nat.mul_one] at m1;obtain ⟨na,nc,nx,R,G,aU⟩:=H.o.growN;have Gt:=Lh G;have bH:=Lh aU;have aZ:=Lh hl;have L:Hid (c d=1/\d<W/\(∀ b,(W:Nat)<=b->c b=0)/\W.frozen? (π d 1)=false):=Lh ⟨H.o.lab,GStAt.lt (show GStAt W c _ d (traG s) from H.o),H.o.hi,GStAt.frz (show GStAt W c _ d (traG s) from H.o) 1⟩;have i0:=In f;have i1:(f:Int)<(cd.H:Int):=by have:=(Ll hk);omega
 have cN:(w.alloc (χ #[σ (ς (π fb fo)) cd.H J,ι cd.G,σ P cd.funcs Q] 25)).cell? (π d 1)=ς (σ na s.M.N nc):=by rw [<-F];exact R
 clear e hX h hx K hf hk bP hl bZ cA G aU;go_enter func75,ntmps75;go_upto_region 1 with fail;rw [<-F];clear F;go_upto_region 4 with fail;refine Ac (λVs=>Vs.cell? (π d 1)=ς (σ na s.M.N nc)) [8,9,10,11,15] true 16 rfl κ κ R ?_;refine softA ?_;have aY:=Lh R;clear R c0 m1;have bS:=λW=>FK W a ω;refine AH κ ?_;go_simp;clear bS;have Y:Below W W (W.alloc (χ (Ad (ϱ a 0)) 3)).drew:=Cb W _;refine ⟨AB (AA _ _) aY.o,?_⟩;obtain ⟨q,U⟩:=ε ((W.alloc (χ (Ad (ϱ a 0)) 3)).drew);rw [<-U];have bI:=@Lh (Below W W q) (by rw [U];exact Y);have cF:Hid (∀ C:A1,C W.heap.size=100+16*(s.M.N.length*2+1)+1->Dq q C (100+16*(s.M.N.length*2+1)+1) (σ (ς (π W 0)) a a) (ϱ a 0)):=Lh (λC h'=>by
  have:=QB (w:=W) (c:=C) (k:=a) ω h';rw [U];exact this.kp (T:=NO) (AT.ob (AG Br 1) (no 0)) (no _))
 have cB:(q:Nat)=(W:Nat)+1:=by rw [U];simp
 have cI:=Lh cB;clear U Y cB;refine AH κ ?_;go_simp;refine ⟨AB bI.o aY.o,?_⟩;refine AH κ ?_;go_simp;have A:Below q q (q.alloc (χ #[ι (f:Int),σ (ς (π W 0)) a a] 72)):=AA _ _;refine ⟨AB (bI.o.th A) aY.o,?_⟩;obtain ⟨c1,bE⟩:=ε (λb=>if b=(W:Nat) then 100+16*(s.M.N.length*2+1)+1 else c b:A1);have aS:c1 (W:Nat)=100+16*(s.M.N.length*2+1)+1:=by rw [bE];exact if_pos rfl
 have bN:AT NO c c1 W (q.alloc (χ #[ι (f:Int),σ (ς (π W 0)) a a] 72)):=by have m:=bI.o.th A;exact ⟨m.os,m.tape,m.output,m.size,λb h _=>m.block b h,λb h=>by rw [bE];exact if_neg ω,no 0⟩
 have aD:∀ b,(q.alloc (χ #[ι (f:Int),σ (ς (π W 0)) a a] 72)).heap.size<=b->c1 b=0:=λb h=>by have h1:=cI.o;simp at h;rw [bE];show (if b=(W:Nat) then _ else _)=0;rw [if_neg ω];exact L.o.2.2.1 b ω
 have bU:=Lh bN;have cU:=Lh aD;have cG:=Lh ((cF.o c1 aS).kp (T:=NO) (AT.ob A (no 0)) (no _));clear aS;refine AH κ ?_;refine Dz (λk=>k=21) (.tmp 27) (.tmp 32) 26 72 rfl underlying26 info_snode rfl δ δ (c:=c1) (tag:=21) (v:=σ na s.M.N nc) (n:=s.M.N.length) (xs:=nx) rfl (Gt.o.kp bN (no _)) (π q 0) 1 1 [ι (f:Int),σ (ς (π W 0)) a a] rfl rfl (λj u hu=>by rw [GB,Nat.zero_add,B6];simpa using hu) (by simp [Value.oneCell']) δ (by have:=aZ.o;omega) rfl ω aD (λg aL w2 p G E Z bR=>?_);obtain ⟨o,cg⟩:=bH.o w2 p (σ (ς (π g 0)) (s.M.N.length+1) aL) (σ (ς (π W 0)) a a) _ ⟨(f:Int),ϱ a 0⟩ (E.aft bU.o) Z G ⟨a,by
  have:=cG.o.1.kp E ω;simpa using this⟩
 have D:=E.aft bU.o;have y1:=D.cell aY.o (by show ¬c d=21;rw [L.o.1];omega);have yf:=D.frozen L.o.2.1 L.o.2.2.2 (by show ¬c d=21;rw [L.o.1];omega);have y5:=D.cell bT.o (by show ¬c d=21;rw [L.o.1];omega);obtain ⟨l,bB⟩:=ε (w2.setCell (π d 1) (σ (ς (π g 0)) (s.M.N.length+1) aL));have aX:l.cell? (π d 5)=ς (σ (ς (π N 0)) s.active cap):=by rw [bB,World.cell?_setCell_other _ _ _ _ ψ];exact y5
 rw [<-bB] at o cg;have I:=Lh (ϟ o (ϟ cg aX));have bV:=Lh bB;clear E Z G bR o cg D bE bN aD A y5 aX bB;refine ⟨.inl y1,?_⟩;refine AH κ ?_;go_simp;refine BH ?_;clear y1 yf;rw [<-bV.o];clear bV;obtain ⟨va,vc,vx,v1,aG,aF⟩:=I.o.1.growV;dsimp only at v1 aG aF;have bL:=Lh aG;have bJ:=Lh aF;have M:Hid (p d=1/\d<l/\(∀ b,(l:Nat)<=b->p b=0)/\l.frozen? (π d 2)=false):=Lh ⟨I.o.1.lab,GStAt.lt (show GStAt l p _ d (traG _) from I.o.1),I.o.1.hi,GStAt.frz (show GStAt l p _ d (traG _) from I.o.1) 2⟩;clear aG aF;go_upto_region 5 with fail;refine Ac (λVs=>Vs.cell? (π d 2)=ς (σ va s.vers vc)) [6,7,8,11] true 12 rfl κ κ v1 ?_;refine softA ?_;have bK:=Lh v1;clear v1;have bS:=λW=>FK W a ω;refine AH κ ?_;go_simp;clear bS;have Y:Below l l (l.alloc (χ (Ad (ϱ a 0)) 3)).drew:=Cb l _;refine ⟨AB (AA _ _) bK.o,?_⟩;obtain ⟨z,V⟩:=ε ((l.alloc (χ (Ad (ϱ a 0)) 3)).drew);rw [<-V];have bY:=@Lh (Below l l z) (by rw [V];exact Y);have cK:Hid (∀ C:A1,C (l:Nat)=100+16*s.vers.length+2->Dq z C (100+16*s.vers.length+2) (σ (ς (π l 0)) a a) (ϱ a 0)):=Lh (λC h'=>by
  have:=QB (w:=l) (c:=C) (k:=a) ω h';rw [V];exact this.kp (T:=NO) (AT.ob (AG Br 1) (no 0)) (no _))
 have cC:(z:Nat)=(l:Nat)+1:=by rw [V];simp
 have cM:=Lh cC;clear V Y cC;refine AH κ ?_;go_simp;have A:Below z z (z.alloc (χ #[σ (ς (π l 0)) a a] 22)):=AA _ _;refine ⟨AB (bY.o.th A) bK.o,?_⟩;obtain ⟨c3,bF⟩:=ε (λb=>if b=(l:Nat) then 100+16*s.vers.length+2 else p b:A1);have aT:c3 (l:Nat)=100+16*s.vers.length+2:=by rw [bF];exact if_pos rfl
 have bO:AT NO p c3 l (z.alloc (χ #[σ (ς (π l 0)) a a] 22)):=by have m:=bY.o.th A;exact ⟨m.os,m.tape,m.output,m.size,λb h _=>m.block b h,λb h=>by rw [bF];exact if_neg ω,no 0⟩
 have aE:∀ b,(z.alloc (χ #[σ (ς (π l 0)) a a] 22)).heap.size<=b->c3 b=0:=λb h=>by have h1:=cM.o;simp at h;rw [bF];show (if b=(l:Nat) then _ else _)=0;rw [if_neg ω];exact M.o.2.2.1 b ω
 have bX:=Lh bO;have cV:=Lh aE;have cL:=Lh ((cK.o c3 aT).kp (T:=NO) (AT.ob A (no 0)) (no _));clear aT;refine AH κ ?_;refine Dz (λk=>k=22) (.tmp 41) (.tmp 44) 34 22 rfl underlying34 info_sints rfl δ δ (c:=c3) (tag:=22) (v:=σ va s.vers vc) (n:=s.vers.length) (xs:=vx) rfl (bL.o.kp bO (no _)) (π z 0) 1 1 [σ (ς (π l 0)) a a] rfl rfl (λj u hu=>by rw [GB,Nat.zero_add,B6];simpa using hu) (by simp [Value.oneCell']) δ ω rfl ω aE (λg5 aN w5 c5 G E Z bR=>?_);obtain ⟨o,cg⟩:=bJ.o w5 c5 (σ (ς (π g5 0)) (s.vers.length+1) aN) (σ (ς (π l 0)) a a) _ (ϱ a 0) (E.aft bX.o) Z G ⟨a,by
  have:=cL.o.1.kp E ω;simpa using this⟩
 have D:=E.aft bX.o;have y1:=D.cell bK.o (by show ¬p d=22;rw [M.o.1];omega);have yf:=D.frozen M.o.2.1 M.o.2.2.2 (by show ¬p d=22;rw [M.o.1];omega);have y5:=D.cell I.o.2.2 (by show ¬p d=22;rw [M.o.1];omega);obtain ⟨W6,bC⟩:=ε (w5.setCell (π d 2) (σ (ς (π g5 0)) (s.vers.length+1) aN));have aX:W6.cell? (π d 5)=ς (σ (ς (π N 0)) s.active cap):=by rw [bC,World.cell?_setCell_other _ _ _ _ ψ];exact y5
 rw [<-bC] at o cg;have SV:=Lh (ϟ o (ϟ cg aX));have bW:=Lh bC;clear E Z G bR o cg D bF bO aE A y5 aX bC;refine ⟨.inl y1,?_⟩;refine AH κ ?_;go_simp;refine BH ?_;clear y1 yf;rw [<-bW.o];clear bW;obtain ⟨bM,aK,dC,dD,dE,q5,-,-,cE,aB,-,-,-,-⟩:=SV.o.1.viewX S.o.1;have aW:=SV.o.2.2;obtain ⟨rfl,rfl⟩:bM=N/\aK=cap:=by have:=q5.symm.trans aW;simpa using this
 have qc:W6.cell? (π bM (i*13+10))=ς (ι x.N):=aB 10 _ rfl;have qf:=cE (i*13+10);have cX:IntKind.i64.wrap (x.N+1)=x.N+1:=by rw [IntKind.wrap_i64]<;>omega
 have bQ:=SV.o.1.viewX S.o.1;obtain ⟨bA,aM,cQ,cR,cS,p5,cD,cT,-,-,-,-,-,-⟩:=bQ;obtain ⟨rfl,rfl⟩:bA=bM/\aM=aK:=by have:=p5.symm.trans aW;simpa using this
 obtain ⟨cO,cP,k7,-⟩:=SV.o.1.nods;dsimp only at k7;rw [List.length_append,List.length_singleton] at k7;have cZ:¬d=bA:=λe=>by have h1:=SV.o.1.lab;rw [e,cD] at h1;omega
 have dA:W6.cell? (π d 1)=ς (σ cO (s.M.N.length+1) cP):=k7;obtain ⟨o,cg⟩:=SV.o.1.setF (k:=10) (u:=ι (x.N+1)) (y:=.p (ι (x.N+1))) (x:={ x with N:=x.N+1 }) S.o.1 aW ω rfl rfl;obtain ⟨W7,bD⟩:=ε (W6.setCell (π bA (i*13+10)) (ι (x.N+1)));rw [<-bD] at o cg;have h7:W7.cell? (π d 5)=ς (σ (ς (π bA 0)) s.active aM):=by rw [bD,World.cell?_setCell_other _ _ _ _ ψ];exact aW
 have bG:=Lh (ϟ o (ϟ cg h7));have cJ:=Lh bD;have cH:=Lh aZ.o;have cW:((s.M.N.length+1:Nat):Int)=(s.M.N:Int)+1:=ω;clear p5 q5 aW cE aB k7 o cg h7 bD cD cT;go_wp2_with fail;rw [<-cJ.o];go_ret;refine .inl ⟨cH.o,?_,c5,?_,?_,bG.o.2.2⟩
 .simp
 .have:=bG.o.1
  unfold newN;rw [S.o.2.1,Int.toNat_natCast,getD_at S.o.2.2];exact this
 .exact (((AT.ob X.o Qx).trans (I.o.2.1.mono (λt ht=>by unfold NZ;omega) Qx)).trans (SV.o.2.1.mono (λt ht=>by unfold NZ;omega) Qx)).trans (bG.o.2.1.mono (λt ht=>by unfold NZ;omega) Qx)
