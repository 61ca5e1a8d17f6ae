import Derived.Test.YtiejafonjemioaaGreatDoorRbn
import Derived.Test.YtiejafonjemioaaGreatDoorTnx
import Derived.Test.YtiejafonjemioaaGreatDoorRnx
import Derived.Deep.CutBlock
set_option maxHeartbeats 4000000
set_option maxRecDepth 100000
set_option linter.all false
open Go renaming World→Ϣ,bodyPost_ret→ϖ
open Option renaming some→ς
open And renaming intro→ϟ
open List renaming replicate→ϱ
open Go.Value renaming slice→σ
open Go.Obj renaming cells→χ
namespace Go.Proofs.YtiejafonjemioaaGreatDoor
open Go.RowKit Proofs.Tryz
variable {c:AQ} {m:AV} {s:A3} {t:Nat} {n:Int} {cx cy:A1} {wx wy:Ϣ} {T:Nat->Prop}
def Ax.mil (hs:AU c) (b:Bv c) (h:Ax c m):∀ f∈m.J,f.L.length<=1000000/\f.S.length<=1000000:=λf a=>by
 rcases h.body with ⟨e,_⟩|⟨_,d⟩
 .rw [e] at a;cases a
 .obtain ⟨k,hk,rfl⟩:=List.getElem_of_mem a
  exact DL.mil hs b (d k _ (Lg hk))
def end_kind (h:DQ c m\/(m.J=[]/\m.Q=Ah 21/\EB m)):Cs m=true\/(m.Q.K=4/\m.Q.X=0)\/m.Q.K=5:=by
 rcases h with ⟨_,⟨e,_,a,_⟩|⟨v,_,a,_⟩|⟨d,f,b⟩⟩|⟨_,a,_⟩
 .exact .inr (.inr (by rw [a];rfl))
 .exact .inr (.inl ⟨by rw [a];rfl,by rw [a];rfl⟩)
 .obtain ⟨y,x,_,_,_,_,ha,_⟩:=b.top
  have:=EW ha;unfold Cs;left;simpa using this
 .exact .inr (.inr (by rw [a];rfl))
def end_settle (h:Cs m=true\/(m.Q.K=4/\m.Q.X=0)\/m.Q.K=5):endO5 (runT s t m) t 0 m n=CC s t m n:=by
 rcases h with h|⟨h,a⟩|h
 .have:=FB h
  unfold endO5 CC endB5;rw [if_pos (by simp [h]),if_neg this.1,if_neg this.2];rfl
 .have ha:Cs m=false:=by unfold Cs;simp [h]
  unfold endO5 CC endB5;rw [if_neg (by simp [ha]),if_pos rfl,if_pos ⟨rfl,h⟩,if_pos h,a];unfold Ly runT;simp
 .have ha:Cs m=false:=by unfold Cs;simp [h]
  unfold endO5 CC endB5;rw [if_neg (by simp [ha]),if_pos rfl,if_neg ω,if_neg ω,if_pos h];unfold Ly runT;simp
def end_fault :endO5 (runT s t m) t 11 m n=Ly s t 11 0 m.C n:=by
 unfold endO5 endB5;rw [if_neg ψ,if_neg ω,if_neg ω];unfold Ly runT;simp
def C9.glob (hs:AU c) {r:Rq} {fs:List AY} {f:AY} (h:C9 c m r fs f):r.K≠3->r.O=0->r.D<c.G:=by
 obtain ⟨y,x,_,k,_,o,j,_⟩:=h.top;have b:=fun {n:Int} hn=>hs.lim (n:=n) k.fn o hn;intro i d;rcases j with ⟨a,rfl⟩|⟨v,a,l,rfl⟩|⟨n,a,e,g,rfl⟩|⟨n,v,a,e,g,l,rfl⟩|⟨a,rfl⟩
 .exact (b (n:=c.G) (by rw [a];rfl)).2
 .exact (b (n:=c.G) (by rw [a];rfl)).2
 .have:n=0:=d
  omega
 .have:n=0:=d
  omega
 .exact absurd rfl i
structure LcR (cvs:Array Value) (C R:Nat) (c:A1) (w:Ϣ) (cx:A1) (wx:Ϣ):Prop where
 chg:AT NZ c cx w wx
 code:wx.heap[C]?=ς (χ cvs 25 (0,0))
 cc:cx C=14
 res:wx.heap[R]?=ς (χ Bz 34 (0,0))
 cr:cx R=14
def LcR.go {a:Array Value} {C R:Nat} {c:A1} {w:Ϣ} (h:LcR a C R c w cx wx) (b:AT T cx cy wx wy) (d:¬T 14:=by first|exact Io|exact no _|omega):LcR a C R c w cy wy:=by
 have e:=(La h.code)
 have f:=(La h.res)
 exact ⟨h.chg.trans (b.nz d),by rw [b.kp C e (by rw [h.cc];exact d)];exact h.code,by rw [b.old C e];exact h.cc,by rw [b.kp R f (by rw [h.cr];exact d)];exact h.res,by rw [b.old R f];exact h.cr⟩
structure LmR (M:Nat) (m:AV) (ua:Option Addr) (uc:Nat) (cx:A1) (wx:Ϣ):Prop where
 box:wx.heap[M]?=ς (χ (AC (σ ua m.J uc) m) 51 (0,0))
 lab:cx M=14
 fr:AE wx (mask wx cx) 4 (CK wx) (σ ua m.J uc) m.J
def LmR.go {M:Nat} {c:Option Addr} {d:Nat} (h:LmR M m c d cx wx) (a:AT T cx cy wx wy) (e:¬T 14:=by first|exact Io|exact no _|omega):LmR M m c d cy wy:=by
 have b:=(La h.box)
 exact ⟨by rw [a.kp M b (by rw [h.lab];exact e)];exact h.box,by rw [a.old M b];exact h.lab,h.fr.ups Dx a.size a.sub⟩
def endO5_step (s:A3) (t:Nat) (f:Int) (m:AV) (n:Int):(endO5 s t f m n).U=s.U:=by unfold endO5;split<;>rfl
def rStep5_any (cd:AQ) (cv:Value) (B:Nat) (s:A3) (V:TV) (c:A1) (t:Nat) (m0:AV) (n:Int) (l:List Bi) (r:List CD) (b e:List Int) (w:Ϣ) (hs:AU cd) (nO:Bv cd) (hB:B<=w) (hc:BF B w cv cd) (nN:∀ b,b<B->¬NZ (c b)) (h:TK NO w c s V) (nP:Dp cd s.M) (hp:Pf cd s t m0 n l r b e) (nR:m0.J=[]->Cu m0=true) :
  Calls prog 72 #[cv,.agg (Wq V s),ι t] w λz w'=>∃ s',Dg cd s t s'/\ThrR s' c w z w':=by
 obtain ⟨fv,gv,rfl,K,hg,gA⟩:=id hc;obtain ⟨fa,fc,rfl⟩:=K.form;obtain ⟨qa,qc,rfl⟩:=hg.form;obtain ⟨ga,gc,ma,mc,ra,rc,na,nc,ca,cc,oa,oc,ba,bc,ea,ec,hv⟩:=h.opened;rw [hv];obtain ⟨W,hW⟩:=ε (((w.alloc (χ (Bc fa fc qa qc cd) 25)).alloc (χ (Bt ga gc ma mc ra rc na nc ca cc oa oc ba bc ea ec s) 34)).alloc (χ Bz 34));have kL:=Lh (bl3 hW);have kY:=sz3 hW;have C0:=ro31 hW;have R0:W.heap[(w:Nat)+1]?=ς (χ (Wq V s) 34 (0,0)):=by rw [hv,hW,Ha _ _ _ ψ];have:=Hn (w.alloc (χ (Bc fa fc qa qc cd) 25)) (χ (Bt ga gc ma mc ra rc na nc ca cc oa oc ba bc ea ec s) 34);simpa using this
 have R1:=ro33 hW;obtain ⟨c0,gG,bT,fN⟩:=st_box h kL.o R0 ω;have bA:LcR (Bc fa fc qa qc cd) (w:Nat) ((w:Nat)+1+1) c w c0 W:=⟨bT.nz,C0,fN _ (Nr _) ω ω,R1,fN _ ω ω ω⟩
 have jM:=Lh bA;have HC:=Lh hc;have cR:Hid (∀ (U:Ϣ) (c':A1),AT NZ c c' w U->BF U U (.agg (Bc fa fc qa qc cd)) cd/\(∀ b,b<B->¬NZ (c' b))/\BF B U (.agg (Bc fa fc qa qc cd)) cd/\B<=U):=Lh (λU c' hU=>by
  have hb:=hU.belowN nN hB;have D:=hc.below hb;have I:=Nt hB hU.size;exact ⟨D.up I,hU.lowN nN hB,D,I⟩)
 have G:=Lh hp;have HM:=Lh nP;have i0:=In t;obtain ⟨V1,c1,eR,fR,dI,fY,iC⟩:=gG.give;obtain ⟨mM,mQ,mW,mY,nI,lT,nA,nC,mE,mG,nE,nG,mA,mC,mI,mK,gJ⟩:=fR.opened;have bP:AT NZ c c1 w W:=⟨bT.os,bT.tape,bT.output,bT.size,λb hb _=>bT.kp b hb (no _),λb hb=>by rw [fY b ω];exact bT.old b hb,Qx⟩
 have aA:=rBegun_any cd (.agg (Bc fa fc qa qc cd)) B s V1 c1 t m0 n l r b e W hs nO (cR.o W c1 bP).2.2.2 (cR.o W c1 bP).2.2.1 (cR.o W c1 bP).2.1 fR hp nR;have dK:=λ(w2:Ϣ) (c2:A1) (a:A3) (V2:TV) (D:TK NO w2 c2 a V2) (bU:AT NZ c1 c2 W w2)=>st_back D bU dI iC fY gG.lab.1 eR gJ;rw [gJ] at aA eR;have eY:=Lh dK;have jE:=Lh aA;obtain ⟨⟨x0,x1,x2,x3,x4,x5,x6,x7,x8,x9⟩,-,xz⟩:=Gk eR;have g0:=cells_laid C0;clear K hg gA hc nN nP hp nR h gG bT fN R0 R1 C0 hv kY eR fR dI fY iC gJ bP aA dK bA;go_enter func72,ntmps72;go_upto_region 1 with fail;rw [<-hW];clear hW;go_wp2_with fail;refine jE.o.mono ?_;rintro z w2 ⟨m,q,dM,V2,c2,rfl,fS,bU⟩;obtain ⟨bX,Z⟩:=eY.o w2 c2 (runT q t m) V2 fS bU;obtain ⟨hK,hL,iV,iW,jB,jC,iX,iY,gZ,hD,iZ,jA,gX,gY,hH,hI,gK⟩:=fS.opened;obtain ⟨c3,cK,cF,-⟩:=Z _ _ _ _ _ _ _ _ _ _ gK;rw [gK];obtain ⟨a,gH⟩:=ε (runT q t m:A3);rw [<-gH] at cK cF ⊢;obtain ⟨cQ,bH,cB,cS⟩:=Λ4 dM gH cK (jM.o.go cF);clear x0 x1 x2 x3 x4 x5 x6 x7 x8 x9 xz g0 dM fS bU Z gK cK cF gH;obtain ⟨⟨y0,y1,y2,y3,y4,y5,y6,y7,y8,y9⟩,⟨z0,z1,z2,z3,z4,z5,z6,z7,z8,z9⟩,zz⟩:=Gk bX;clear bX;go_upto_region 2 with fail;change Code.wp _ _ _ _ (B7 w2 (w+1) (σ hK a.M.G hL) (σ iV a.M.N iW) (ι a.Y) (σ jB a.R jC) (σ iX a.N iY) (σ gZ a.A hD) (σ iZ a.results jA) (σ gX a.Z gY) (σ hH a.P hI) (ι a.U));obtain ⟨w3,iM⟩:=ε (B7 w2 (w+1) (σ hK a.M.G hL) (σ iV a.M.N iW) (ι a.Y) (σ jB a.R jC) (σ iX a.N iY) (σ gZ a.A hD) (σ iZ a.results jA) (σ gX a.Z gY) (σ hH a.P hI) (ι a.U));rw [<-iM] at cB cS ⊢;clear iM y0 y1 y2 y3 y4 y5 y6 y7 y8 y9 z0 z1 z2 z3 z4 z5 z6 z7 z8 z9 zz;obtain ⟨f1,f2,f3,f4,f5,f6,f7⟩:=cQ.o.same;have eQ:a.R[t]?=ς m:=by rw [bH.o];unfold runT;dsimp only;rw [f1];exact Li G.o.hm
 have y:Hid (a.R[t]?=ς m/\a.N[t]?=ς n/\a.results[t]?=ς r/\a.P[t]?=ς e/\a.M=q.M/\q.M=s.M/\a.U=s.U):=Lh ⟨eQ,by rw [bH.o];show q.N[t]?=_;rw [f2];exact G.o.hn,by rw [bH.o];show q.results[t]?=_;rw [f3];exact G.o.hr,by rw [bH.o];show q.P[t]?=_;rw [f4];exact G.o.he,by rw [bH.o];rfl,f5,by rw [bH.o];exact f6⟩;have i1:(t:Int)<(a.R:Int):=by have:=(Ll eQ);omega
 obtain ⟨rb,lT,ua,uc,b3,X,lW,gN,-,hX,kZ,-⟩:=cB.o.viewR eQ;have x0:w3.cell? (π rb (t*9))=ς (σ ua m.J uc):=X 0 _ rfl;have x1:=Γ9 X;obtain ⟨w4,eB⟩:=ε (w3.alloc (χ #[σ ua m.J uc,ι m.Q.K,ι m.Q.O,ι m.Q.D,ι m.Q.V,ι m.Q.X,ι m.Y,ι m.C,ι m.I] 51));have fW:=bl1 eB;have lB:=sz1 eB;have iJ:w4.heap[(w3:Nat)]?=ς (χ (AC (σ ua m.J uc) m) 51 (0,0)):=by rw [eB];exact Hn _ _
 obtain ⟨c4,cJ,bN,iD⟩:=cB.o.local_ fW (Nr _) ω;have jQ:=Lh cJ;have fB:=Lh (cS.o.go bN);have bJ:Hid (LmR (w3:Nat) m ua uc c4 w4):=Lh ⟨iJ,iD,hX.ups Dx fW.size bN.sub⟩;clear f1 f2 f3 f4 f5 f6 f7 eQ X lW gN hX kZ fW lB iJ cJ bN iD;go_upto_region 3 with fail;rw [<-eB];obtain ⟨M,hM⟩:=ε (w3:Nat);rw [<-hM] at bJ ⊢;clear eB hM x0 x1 b3 i1;have e0:=AO bJ.o.box;go_wp2_with fail;refine (UX m (σ ua m.J uc) w4 w4 (bJ.o.fr.ups Dx (Nr _) (JT.mask _ _))).mono ?_;rintro z w5 ⟨rfl,fX⟩;have fO:AT NO c4 c4 w4 w5:=AT.ob fX (no 0);have eO:=Lh (jQ.o.grow fX);have cT:=Lh (fB.o.go fO);have cV:=Lh (bJ.o.go fO);clear fX fO e0;cases ha:Cs m with
 | false=>
  have HA:=Lh ha;have jF:=@Lh (Cs m=true\/(m.Q.K=4/\m.Q.X=0)\/m.Q.K=5) (by
   rcases cQ.o with ⟨dV,rfl,-⟩|⟨cO,x,l2,dO,hR,-⟩
   .rcases G.o.head with ⟨h,_⟩|⟨_,_,h⟩
    .exact absurd h dV
    .exact .inl h
   .have hg:AS cd x s.Y=0:=by
     rcases G.o.head with ⟨_,x',l3,h,hg⟩|⟨h,_⟩
     .rw [G.o.hl,h] at dO;cases dO;exact hg
     .exact absurd cO h
    exact end_kind (.inl (Jn hs hg hR).1))
  clear ha;obtain ⟨V3,c6,bQ,cC,aZ,dN,dS⟩:=eO.o.give;obtain ⟨kG,kI,lD,lF,lQ,lU,lH,lK,jX,jZ,lM,lO,jT,jV,kB,kD,cL⟩:=cC.opened;have aA:=rEnded_any a V3 c6 t 0 m n r e w5 cC y.o.1 y.o.2.1 y.o.2.2.1 y.o.2.2.2.1 G.o.rl G.o.el (by unfold in64;simp);have dL:=λ(w2:Ϣ) (c2:A1) (a:A3) (V2:TV) (D:TK NO w2 c2 a V2) (bU:AT NZ c6 c2 w5 w2)=>st_back D bU aZ dS dN eO.o.lab.1 bQ cL;rw [cL] at aA bQ;have cA:=Lh aA;have eZ:=Lh dL;obtain ⟨⟨x0,x1,x2,x3,x4,x5,x6,x7,x8,x9⟩,-,xz⟩:=Gk bQ;clear bQ cC aZ dN dS cL aA dL;go_wp2_with fail;refine cA.o.mono ?_;rintro z w6 ⟨V4,N,rfl,cD,bN⟩;obtain ⟨aK,Z⟩:=eZ.o w6 N _ V4 cD bN;obtain ⟨dG,dH,eE,eF,eK,bY,eG,eH,dC,dD,eI,eJ,dA,dB,dE,dF,cM⟩:=cD.opened;obtain ⟨c8,aR,aO,-⟩:=Z _ _ _ _ _ _ _ _ _ _ cM;rw [cM];obtain ⟨d,bS⟩:=ε (endO5 a t 0 m n:A3);have aY:=@Lh (d.U=s.U) (by rw [bS,endO5_step];exact y.o.2.2.2.2.2.2);have S:=@Lh (Xg cd q t m n (Im d)) (by rw [bS];exact .inl ⟨HA.o,by rw [bH.o,end_settle jF.o]⟩);rw [<-bS] at aR aO ⊢;have bK:=Lh aR;have aW:=Lh (cT.o.go aO);clear x0 x1 x2 x3 x4 x5 x6 x7 x8 x9 xz cD bN Z cM aR aO bS;obtain ⟨⟨y0,y1,y2,y3,y4,y5,y6,y7,y8,y9⟩,⟨z0,z1,z2,z3,z4,z5,z6,z7,z8,z9⟩,zz⟩:=Gk aK;clear aK;go_upto_region 5 with fail;change Code.wp _ _ _ _ (B7 w6 (w+1) (σ dG d.M.G dH) (σ eE d.M.N eF) (ι d.Y) (σ eK d.R bY) (σ eG d.N eH) (σ dC d.A dD) (σ eI d.results eJ) (σ dA d.Z dB) (σ dE d.P dF) (ι d.U));obtain ⟨C,bF⟩:=ε (B7 w6 (w+1) (σ dG d.M.G dH) (σ eE d.M.N eF) (ι d.Y) (σ eK d.R bY) (σ eG d.N eH) (σ dC d.A dD) (σ eI d.results eJ) (σ dA d.Z dB) (σ dE d.P dF) (ι d.U));rw [<-bF] at bK aW ⊢;clear bF y0 y1 y2 y3 y4 y5 y6 y7 y8 y9 z0 z1 z2 z3 z4 z5 z6 z7 z8 z9 zz;have b9:=bK.o.U.1;obtain ⟨-,bl,-,bz⟩:=bK.o.lab;have bf:=bz 9;have gL:IntKind.i64.wrap (d.U+1)=d.U+1:=by rw [IntKind.wrap_i64]<;>(have:=G.o.U;have:=aY.o;omega)
  obtain ⟨k1,k2⟩:=bK.o.setStep (d.U+1) (by have:=G.o.U;have:=aY.o;unfold in64;omega);obtain ⟨s7,bD⟩:∃ x:A3,x={ d with U:=d.U+1 }:=⟨_,rfl⟩
  rw [<-bD] at k1;have cZ:=Lh k1;have aG:=Lh (aW.o.go k2);have bZ:=@Lh (Xg cd q t m n s7) (by rw [bD];exact S.o);clear bz k1 k2 bD;go_upto_region 6 with fail;obtain ⟨w8,eC⟩:=ε (C.setCell (π (w+1) 9) (ι (d.U+1)));rw [<-eC] at cZ aG ⊢;clear eC b9 bf bl gL;have bO:=aG.o.res;obtain ⟨kH,kJ,lE,lG,lR,lV,lI,lL,jY,kA,lN,lP,jU,jW,kC,kE,aC,aJ⟩:=st_ret cZ.o aG.o.chg bO aG.o.cr ω;have fI:Hid (∃ s',Dg cd s t s'/\ThrR s' c w _ _):=Lh ⟨s7,⟨m0,n,m,q,G.o.hm,G.o.hn,cQ.o,bZ.o⟩,aJ⟩;have fJ:=Lh bO;obtain ⟨⟨x0,x1,x2,x3,x4,x5,x6,x7,x8,x9⟩,-,xz⟩:=Gk aC;obtain ⟨⟨y0,y1,y2,y3,y4,y5,y6,y7,y8,y9⟩,⟨z0,z1,z2,z3,z4,z5,z6,z7,z8,z9⟩,zz⟩:=Gk bO;clear bO aC aJ;go_wp2;exact ϖ (O5 (p:=6) rfl (CB fJ.o _ _ _ _ _ _ _ _ _ _) _ rfl) rfl fI.o
 | true=>
  have hv:Ax cd m:=by
   rcases cQ.o with ⟨dV,rfl,-⟩|⟨cO,x,l2,dO,hR,-⟩
   .rcases G.o.head with ⟨h,_⟩|⟨_,h,_⟩
    .exact absurd h dV
    .exact h
   .have hg:AS cd x s.Y=0:=by
     rcases G.o.head with ⟨_,x',l3,h,hg⟩|⟨h,_⟩
     .rw [G.o.hl,h] at dO;cases dO;exact hg
     .exact absurd cO h
    have hE:=Jn hs hg hR;exact (Kn hE.1 ha hE.2.1 hE.2.2).valid hs
  have bV:=FB ha;obtain ⟨hJ,f0,cN⟩:=hv.waits bV.1 bV.2;have dX:=cN.Q hs;have iA:m.Q.K≠3->m.Q.O=0->m.Q.D<(a.M.G:Int):=λP D=>by rw [y.o.2.2.2.2.1,y.o.2.2.2.2.2.1,HM.o.gl];exact cN.glob hs P D
  have HA:=Lh ha;have HV:=Lh hv;have aT:=Lh dX;obtain ⟨V5,fT,hO⟩:=eO.o;obtain ⟨mN,mR,mX,mZ,nJ,nK,nB,nD,mF,mH,nF,nH,mB,mD,mJ,mL,iL⟩:=fT.opened;have gE:=hO.row;have gI:=fT.reads;rw [iL] at gE gI;obtain ⟨hY,iH,-⟩:=gI.parts;have dJ:=rAccess_any a.M _ m.Q (w5:Nat) w5 (Nr _) ⟨_,_,rfl,hY,iH⟩ dX.O dX.q.nodeV dX.D iA;have jD:=Lh dJ;obtain ⟨⟨x0,x1,x2,x3,x4,x5,x6,x7,x8,x9⟩,-,xz⟩:=Gk gE;have e0:=AO cV.o.box;clear ha hv bV cN dX iA fT hO iL gE gI hY iH dJ;go_wp2_with fail;refine jD.o.mono ?_;rintro z w6 ⟨rfl,hP⟩;unfold VW;obtain ⟨ac,fU⟩:=ε (DR a.M m.Q);rw [<-fU];obtain ⟨ak,an,af⟩:=ac;dsimp only;have aS:=Lh fU;have gQ:=Lh hP;clear fU hP x0 x1 x2 x3 x4 x5 x6 x7 x8 x9 xz e0;obtain ⟨C,bF⟩:=ε (w6.alloc (χ #[ι ak,ι an,ι af] 64));have hQ:Below w5 w5 C:=by rw [bF];exact gQ.o.th (AA _ _)
  have eS:=ro11 bF;obtain ⟨N,bD,fP,gC⟩:=eO.o.local_ hQ (b:=(w6:Nat)) gQ.o.size (La eS);have aX:=Lh bD;have aE:=Lh (cT.o.go fP);have aI:=Lh (cV.o.go fP);go_upto_region 8 with fail;rw [<-bF];obtain ⟨A,hA⟩:=ε (w6:Nat);rw [<-hA] at eS gC ⊢;have L:=Lh (ϟ eS gC);clear bF hQ eS bD fP gC hA;go_upto_block 0 with fail
  go_cut [9,10] (λs9 lX wx=>∃ (mm:Mm) (av fv:Int),s9=ι av/\lX=ι fv/\Hid ((fv=11/\Fx cd q.M m.Q=none/\mm=a.M)\/(fv=0/\Fx cd q.M m.Q=ς (mm,av)))/\Hid (∃ cx:A1,Au wx cx (w+1) { a with M:=mm }/\LcR (Bc fa fc qa qc cd) (w:Nat) ((w:Nat)+1+1) c w cx wx/\LmR M m ua uc cx wx/\wx.heap[A]?=ς (χ #[ι ak,ι an,ι af] 64 (0,0))/\cx A=14))
  case first=>
   obtain ⟨a0,a1,a2⟩:=cells_laid L.o.1;obtain ⟨e0,e1,e2,e3,e4,e5,e6,e7,e8⟩:=AO aI.o.box;obtain ⟨f,K⟩:∃ f:Nat,m.Q.D=f:=⟨m.Q.D.toNat,by have:=aT.o.D;omega⟩
   by_cases I:m.Q.K=3
   .have d3:(m.Q.K != 3)=false:=by simp [I]
    by_cases R:a.M.N.length<4096
    .obtain ⟨rfl,rfl,rfl⟩:ak=3/\an=(a.M.N:Int)+1/\af=(f:Int):=by have:=aS.o;unfold DR at this;rw [if_pos I,if_pos R,K] at this;simpa using this
     obtain ⟨k,H,kR,dR⟩:=aT.o.alloc I;obtain ⟨J,rfl⟩:∃ J:Nat,k=J:=⟨k.toNat,ω⟩
     have S:=@Lh (Fx cd q.M m.Q=ς ({ a.M with N:=a.M.N++[⟨(f:Int),ϱ J 0⟩] },(a.M.N:Int)+1)) (by
      rw [<-y.o.2.2.2.2.1];unfold Fx;rw [if_pos I,if_pos R,List.getD_eq_getElem?_getD,H,K];rfl)
     rw [K,Int.toNat_natCast] at H;obtain ⟨-,iE,kO,kK⟩:=cR.o C N aE.o.chg;obtain ⟨kF,mU,e',hT,-⟩:=kO;have ef:kF=σ fa cd.H fc:=by simp at e';exact e'.1.symm
     subst ef;obtain ⟨fb,fo,rfl,hV,cO⟩:=hT.nth H;have m1:=cO.1;rw [Nat.mul_one] at m1;obtain ⟨eV,eW,nx,k1,aC,aP⟩:=aX.o.viewA;obtain ⟨eY,Gt,aD,HL,jG⟩:=Λ5 k1 aC aP aX.o.lab (iE fb hV);have g0:=(cells_laid aE.o.code).1;have j2:=In f;have j3:(f:Int)<(cd.H:Int):=by have:=(Ll H);omega
     have j0:=In J;have j1:=dR;have HK:Hid (J<=12/\(f:Int)<=1000000/\a.M.N.length<4096):=Lh ⟨ω,by have:=aT.o.f64;omega,R⟩;clear e' I R K H hT cO iE kK aC aP kR dR hV;go_upto_region 13 with fail;refine Ac (λQ=>Q.cell? (π (w+1) 1)=ς (σ eV a.M.N eW)/\Q.cell? (π A 2)=ς (ι (f:Int))/\Q.cell? (π w 0)=ς (σ (ς (π fb fo)) cd.H fc)/\Q.cell? (π fb (fo+f))=ς (ι (J:Int))) [11,12,13,14,17] true 18 rfl κ κ ⟨k1,a2,g0,m1⟩ ?_;refine softA ?_;have aM:=Lh (ϟ k1 (ϟ a2 (ϟ g0 m1)));clear k1 a0 a1 a2 g0 m1 e0 e1 e2 e3 e4 e5 e6 e7 e8;have kS:=λU=>FK U J ω;refine AH κ ?_;go_simp;clear kS;have dK:Below C C (C.alloc (χ (Ad (ϱ J 0)) 3)).drew:=Cb C _;refine ⟨Θ4 (AA _ _) aM.o,?_⟩;obtain ⟨u1,dZ⟩:=ε ((C.alloc (χ (Ad (ϱ J 0)) 3)).drew);rw [<-dZ];have bM:=@Lh (Below C C u1) (by rw [dZ];exact dK);have jJ:Hid (∀ c',c' (C:Nat)=10+5*a.M.N.length->Dq u1 c' (10+5*a.M.N.length) (σ (ς (π C 0)) J J) (ϱ J 0)):=Lh (λc' h'=>by
      have:=QB (w:=C) (c:=c') (k:=J) (by have:=HK.o;omega) h';rw [dZ];exact this.kp (T:=NO) (AT.ob (AG Br 1) (no 0)) (no _))
     have iK:(u1:Nat)=(C:Nat)+1:=by rw [dZ];simp
     have jP:=Lh iK;clear dZ dK iK;refine AH κ ?_;go_simp;refine ⟨Θ4 bM.o aM.o,?_⟩;refine AH κ ?_;go_simp;have cE:Below u1 u1 (u1.alloc (χ #[ι (f:Int),σ (ς (π C 0)) J J] 74)):=AA _ _;refine ⟨Θ4 (bM.o.th cE) aM.o,?_⟩;obtain ⟨cq,dP⟩:=ε (λb=>if b=(C:Nat) then 10+5*a.M.N.length else N b:A1);have dQ:cq (C:Nat)=10+5*a.M.N.length:=by rw [dP];exact if_pos rfl
     have fQ:AT NO N cq C (u1.alloc (χ #[ι (f:Int),σ (ς (π C 0)) J J] 74)):=by rw [dP];exact AT.paint _ _ (bM.o.th cE) (Nr _)
     have cG:∀ b,(u1.alloc (χ #[ι (f:Int),σ (ς (π C 0)) J J] 74)).heap.size<=b->cq b=0:=λb h=>by have P:=jP.o;simp at h;rw [dP];show (if b=(C:Nat) then _ else _)=0;rw [if_neg ω];exact HL.o.2.2.1 b ω
     have gR:=Lh fQ;have jI:=Lh cG;have jK:=Lh ((jJ.o cq dQ).kp (T:=NO) (AT.ob cE (no 0)) (no _));have fZ:∀ b,b<(C:Nat)->cq b=N b:=λb hb=>by rw [dP];exact if_neg ω
     clear dQ dP;refine AH κ ?_;refine Dz (λk=>k=3) (.tmp 53) (.tmp 64) 26 74 rfl underlying26 IZ rfl δ δ (c:=cq) (tag:=3) (v:=σ eV a.M.N eW) (n:=a.M.N.length) (xs:=nx) rfl (Gt.o.kp fQ (no _)) (π u1 0) 1 1 [ι (f:Int),σ (ς (π C 0)) J J] rfl rfl (λj u hu=>by rw [GB,Nat.zero_add,B6];simpa using hu) (by simp [Value.oneCell']) δ (by have:=HK.o;omega) rfl ω cG (λg nQ v2 hF aC hC iB kM=>?_);obtain ⟨st,cg⟩:=aD.o _ cq v2 hF _ ⟨(f:Int),ϱ J 0⟩ (σ (ς (π g 0)) (a.M.N.length+1) nQ) gR.o jI.o jK.o (by show in64 (f:Int);have:=HK.o;unfold in64;omega) hC iB aC;have D:=hC.aft gR.o;have y1:=D.cell eY.o (by show ¬N ((w:Nat)+1)=3;rw [HL.o.1];omega);have yf:=D.frozen HL.o.2.1 (HL.o.2.2.2 1) (by show ¬N ((w:Nat)+1)=3;rw [HL.o.1];omega);have eP:=Lh (ϟ (D.cell aM.o.2.1 (by show ¬N A=3;rw [L.o.2];omega)) (ϟ (D.cell aM.o.2.2.1 (by show ¬N (w:Nat)=3;rw [aE.o.cc];omega)) (D.cell aM.o.2.2.2 (by show ¬N fb=3;intro h9;exact jG.o (by rw [h9];exact ⟨δ,δ⟩)))));obtain ⟨w9,cP⟩:=ε (v2.setCell (π (w+1) 1) (σ (ς (π g 0)) (a.M.N.length+1) nQ));rw [<-cP] at st cg;have ST:=Lh st;have CG:=Lh cg;have jS:=Lh cP;clear hC iB aC kM st cg D fQ cG cE fZ cP;refine ⟨.inl ⟨y1,eP.o⟩,?_⟩;refine AH κ ?_;go_simp;refine BH ?_;rw [<-jS.o];have cI:=(CG.o.kp _ (La L.o.1) (by rw [L.o.2];exact Io)).trans L.o.1;have fK:=Lh cI;have a0:=cells_laid cI;clear y1 yf cI j0 j1 j2 j3;go_wp2;go_meet
     case rel=>exact ⟨_,(a.M.N:Int)+1,0,rfl,rfl,Lh (.inr ⟨rfl,S.o⟩),Lh ⟨hF,ST.o,aE.o.go CG.o,aI.o.go CG.o,fK.o,(CG.o.old _ (La L.o.1)).trans L.o.2⟩⟩
    .obtain ⟨rfl,rfl,rfl⟩:ak=0/\an=0/\af=0:=by have:=aS.o;unfold DR at this;rw [if_pos I,if_neg R] at this;simpa using this
     have S:=@Lh (Fx cd q.M m.Q=ς (a.M,0)) (by rw [<-y.o.2.2.2.2.1];unfold Fx;rw [if_pos I,if_neg R]);clear I R K;go_wp2;go_meet
     case rel=>exact ⟨a.M,0,0,rfl,rfl,Lh (.inr ⟨rfl,S.o⟩),Lh ⟨N,aX.o,aE.o,aI.o,L.o⟩⟩
   .have d3:(m.Q.K != 3)=true:=by simp [I]
    by_cases R:((Bd a.M m.Q).length:Int)<=m.Q.D
    .obtain ⟨rfl,rfl,rfl⟩:ak=0/\an=0/\af=0:=by have:=aS.o;unfold DR at this;rw [if_neg I,if_pos R] at this;simpa using this
     have S:=@Lh (Fx cd q.M m.Q=none) (by rw [<-y.o.2.2.2.2.1];unfold Fx;rw [if_neg I,if_pos R]);clear I R K;go_wp2;go_meet
     case rel=>exact ⟨a.M,0,11,rfl,rfl,Lh (.inl ⟨rfl,S.o,rfl⟩),Lh ⟨N,aX.o,aE.o,aI.o,L.o⟩⟩
    .have bB:m.Q.D<((Bd a.M m.Q).length:Int):=ω
     obtain ⟨rfl,rfl,rfl⟩:ak=m.Q.K/\an=m.Q.O/\af=(f:Int):=by have:=aS.o;unfold DR at this;rw [if_neg I,if_neg R,K] at this;simpa using this
     have gD:∃ b,Th C (w+1) m.Q b/\N b≠14:=by
      by_cases O:m.Q.O=0
      .obtain ⟨mO,mS,b0,hG⟩:=aX.o.viewG
       rw [Gm O] at bB;obtain ⟨gb,rfl,-,kP⟩:=hG f _ (Lg ω);exact ⟨gb,.inl ⟨O,_,_,b0⟩,ω⟩
      .have P:1<=m.Q.O:=by have:=aT.o.O;omega
       obtain ⟨eV,eW,b1,hN⟩:=aX.o.viewN;obtain ⟨x,X⟩:=Jt P aT.o.D bB;rw [IJ P X] at bB;obtain ⟨nb,la,lc,rfl,-,n1,-,lA⟩:=hN _ x X;obtain ⟨gb,rfl,-,kP⟩:=lA f _ (Lg ω);exact ⟨gb,.inr ⟨P,_,_,_,_,_,b1,n1⟩,ω⟩
     obtain ⟨gb,dW,hZ⟩:=gD;have dV:A≠gb:=λe=>hZ (by rw [<-e];exact L.o.2);have kV:gb≠A:=λe=>dV e.symm;clear hZ;obtain ⟨q0,qz,qf,-,Z⟩:=aX.o.put dW aT.o.D bB;rw [K,Int.toNat_natCast] at q0 qf;simp only [K,Int.toNat_natCast] at Z;have cY:=Lh Z;have i2:=In f;obtain ⟨mP,mT,b0,-⟩:=aX.o.viewG;have H:m.Q.K=1\/m.Q.K=2:=by have:=aT.o.K;omega
     have aV:m.Q.K=2->Fx cd q.M m.Q=ς (setM a.M m.Q m.Q.V,m.Q.V):=λD=>by rw [<-y.o.2.2.2.2.1];unfold Fx;rw [if_neg I,if_neg R,if_pos D]
     have aQ:m.Q.K=1->Fx cd q.M m.Q=ς (a.M,(Bd a.M m.Q).getD f 0):=λP=>by rw [<-y.o.2.2.2.2.1];unfold Fx;rw [if_neg I,if_neg R,if_neg ω,K,Int.toNat_natCast]
     obtain ⟨vv,eA⟩:=ε ((Bd a.M m.Q).getD f 0);rw [<-eA] at q0 aQ;rcases dW with ⟨O,gn,gk,P⟩|⟨O,nb,nn,nk,n2,k2,P,D⟩
     .rw [Gm O] at bB
      have kQ:gn=a.M.G.length:=by rw [b0] at P;cases P;rfl
      subst kQ;rw [O] at a1;have i3:(f:Int)<(a.M.G:Int):=ω;clear b0;rcases H with H|H
      .have S:=Lh (aQ H)
       rw [H] at a0 e1;clear aQ aV H Z bB K I R O eA;go_wp2;go_meet
       case rel=>exact ⟨a.M,vv,0,rfl,rfl,Lh (.inr ⟨rfl,S.o⟩),Lh ⟨N,aX.o,aE.o,aI.o,L.o⟩⟩
      .have S:=Lh (aV H)
       rw [H] at a0 e1;clear aQ aV H Z bB K I R O eA;go_wp2;go_meet
       case rel=>obtain ⟨st,cg⟩:=cY.o m.Q.V aT.o.q.V;exact ⟨setM a.M m.Q m.Q.V,m.Q.V,0,rfl,rfl,Lh (.inr ⟨rfl,S.o⟩),Lh ⟨N,st,aE.o.go cg,aI.o.go cg,(cg.kp _ (La L.o.1) (by rw [L.o.2];exact Io)).trans L.o.1,L.o.2⟩⟩
     .obtain ⟨i,hi⟩:∃ i:Nat,m.Q.O=(i:Int)+1:=⟨(m.Q.O - 1).toNat,ω⟩
      obtain ⟨x,X⟩:=Jt O aT.o.D bB;rw [IJ O X] at bB;have gB:(m.Q.O - 1).toNat=i:=ω;rw [gB] at X D;obtain ⟨eV,eW,b1,hN⟩:=aX.o.viewN;obtain ⟨lJ,la,lc,kU,-,n1,-,-⟩:=hN _ x X;subst kU;have kW:lJ=nb/\nn=a.M.N.length:=by rw [b1] at P;cases P;exact ⟨rfl,rfl⟩
      obtain ⟨rfl,rfl⟩:=kW;have kT:n2=x.f.length:=by rw [n1] at D;cases D;rfl
      subst kT;rw [hi] at a1;have i3:(f:Int)<(x.f:Int):=ω;have i4:=In i;have i5:(i:Int)<(a.M.N:Int):=by have:=(Ll X);omega
      have ew:IntKind.i64.wrap (i:Int)=(i:Int):=by rw [IntKind.wrap_i64]<;>(have:=y.o.2.2.2.2.1;have:=y.o.2.2.2.2.2.1;have h5:=HM.o.len;rw [<-y.o.2.2.2.2.2.1,<- y.o.2.2.2.2.1] at h5;omega)
      clear P n1;rcases H with H|H
      .have S:=Lh (aQ H)
       rw [H] at a0 e1;clear aQ aV H Z bB K I R O eA hi gB X hN;go_wp2;go_meet
       case rel=>exact ⟨a.M,vv,0,rfl,rfl,Lh (.inr ⟨rfl,S.o⟩),Lh ⟨N,aX.o,aE.o,aI.o,L.o⟩⟩
      .have S:=Lh (aV H)
       rw [H] at a0 e1;clear aQ aV H Z bB K I R O eA hi gB X hN;go_wp2;go_meet
       case rel=>obtain ⟨st,cg⟩:=cY.o m.Q.V aT.o.q.V;exact ⟨setM a.M m.Q m.Q.V,m.Q.V,0,rfl,rfl,Lh (.inr ⟨rfl,S.o⟩),Lh ⟨N,st,aE.o.go cg,aI.o.go cg,(cg.kp _ (La L.o.1) (by rw [L.o.2];exact Io)).trans L.o.1,L.o.2⟩⟩
  obtain ⟨mm,av,fv,rfl,rfl,gP,fD⟩:=hcut;obtain ⟨cx,bE,bA,dU,gF,hS⟩:=fD.o;obtain ⟨s3,eT⟩:∃ x:A3,x={ a with M:=mm }:=⟨_,rfl⟩
  rw [<-eT] at bE;obtain ⟨gW,cU,cW,jO⟩:=Λ4 bE bA dU (ϟ gF hS);have fE:=@Lh (s3.N[t]?=ς n) (by rw [eT];exact y.o.2.1);have gS:=Lh eT;have bW:EU q.M m.Q=if an=0 then 0 else 1:=by unfold EU;rw [<-y.o.2.2.2.2.1,<- aS.o];by_cases h:an=0<;>simp [h]
  have fV:0<=an:=by
   have h:=aS.o;have D:=aT.o.O;unfold DR at h;split at h
   .split at h<;>cases h<;>omega
   .split at h<;>cases h<;>omega
  have gU:=Lh bW;obtain ⟨Y,iI⟩:=ε (n+EU q.M m.Q);have eN:=Lh iI;have a0:=cells_laid gF;clear bE bA dU gF hS eT bW iI;go_upto_if 106 with fail
  go_cut [] (λwx=>Hid (∃ cy:A1,Au wx cy (w+1) { s3 with N:=s3.N.set t Y }/\LcR (Bc fa fc qa qc cd) (w:Nat) ((w:Nat)+1+1) c w cy wx/\LmR M m ua uc cy wx))
  case first=>
   by_cases O:an=0
   .have d0:decide ((0:Int)<an)=false:=by simp [O]
    have fF:=@Lh (Y=n) (by rw [eN.o,gU.o,if_pos O];omega);subst O;clear fV;go_wp2;go_meet
    case rel=>exact Lh ⟨cx,by rw [fF.o,Uu fE.o];exact gW.o,cU.o,cW.o⟩
   .have kX:0<an:=ω
    have d0:=decide_eq_true kX;have fF:=@Lh (Y=n+1) (by rw [eN.o,gU.o,if_neg O]);obtain ⟨kb,kc,k4,k0,iT,lC,iU,-,eD⟩:=gW.o.viewK fE.o;have jL:=Lh (eD (n+1) (by have:=G.o.cnt;unfold in64;omega));have KC:=Lh (ϟ iT lC);have kf:=iU t;have i6:(t:Int)<(s3.N:Int):=by have:=(Ll fE.o);omega
    have mV:IntKind.i64.wrap (n+1)=n+1:=by rw [IntKind.wrap_i64]<;>(have:=G.o.cnt;omega)
    clear O fV eD iU iT;go_wp2;go_meet
    case rel=>exact Lh ⟨cx,by rw [fF.o];exact jL.o.1,cU.o.go (T:=λk=>k=5) (AT.set KC.o.1 ω),cW.o.go (T:=λk=>k=5) (AT.set KC.o.1 ω)⟩
  obtain ⟨cy,bE,bA,dU⟩:=hcut.o;obtain ⟨s4,cJ⟩:∃ x:A3,x={ s3 with N:=s3.N.set t Y }:=⟨_,rfl⟩
  rw [<-cJ] at bE;have bL:=Lh bE;have bI:=Lh bA;have cX:=Lh dU;have aU:=@Lh (s4.R[t]?=ς m/\s4.N[t]?=ς Y/\s4.results[t]?=ς r/\s4.P[t]?=ς e/\s4.U=s.U) (by
   rw [cJ,gS.o];exact ⟨y.o.1,Li y.o.2.1,y.o.2.2.1,y.o.2.2.2.1,y.o.2.2.2.2.2.2⟩)
  have gT:=@Lh (s4={ runT q t m with M:=mm,N:=q.N.set t Y }) (by rw [cJ,gS.o,bH.o];rfl);clear a0 fV bE bA dU cJ hcut;go_upto_if 115 with fail
  go_cut [] (λwx=>Hid (∃ (cz:A1) (E:A3) (m9:AV),Au wx cz (w+1) E/\LcR (Bc fa fc qa qc cd) (w:Nat) ((w:Nat)+1+1) c w cz wx/\E.R[t]?=ς m9/\E.N[t]?=ς Y/\E.results[t]?=ς r/\E.P[t]?=ς e/\E.U=s.U/\Xg cd q t m n (Im (endO5 E t fv m9 Y))))
  case first=>
   rcases gP.o with ⟨rfl,hn,iG⟩|⟨rfl,bC⟩
   .have aP:Hid (Xg cd q t m n (Im (endO5 s4 t 11 m Y))):=Lh (.inr (.inl ⟨HA.o,hn,by
     have O:=Ms hn;have iF:Y=n:=by rw [eN.o];unfold EU;rw [O,if_neg ψ];omega
     have e4:s4=runT q t m:=by rw [gT.o,iF,iG,y.o.2.2.2.2.1,Uu (by have:=y.o.2.1;rw [bH.o] at this;exact this)];rfl
     rw [e4,iF,end_fault]⟩))
    clear hn iG;go_wp2;go_meet
    case rel=>exact Lh ⟨cy,s4,m,bL.o,bI.o,aU.o.1,aU.o.2.1,aU.o.2.2.1,aU.o.2.2.2.1,aU.o.2.2.2.2,aP.o⟩
   .obtain ⟨hJ,f0,cN⟩:=HV.o.waits (FB HA.o).1 (FB HA.o).2
    have hE:DQ cd m:=⟨HV.o.nums,.inr (.inr ⟨hJ,f0,cN⟩)⟩
    have aN:=IN (by rw [y.o.2.2.2.2.2.1];exact HM.o) aT.o bC;have jN:Hid (∀ U,Below wc wc U->Calls prog 110 #[.agg (Bc fa fc qa qc cd),.agg #[σ ua m.J uc,ι m.Q.K,ι m.Q.O,ι m.Q.D,ι m.Q.V,ι m.Q.X,ι m.Y,ι m.C,ι m.I],ι av] U (λe w'=>∃ o va vc,ED cd m av o/\e=.returned (.agg #[σ va o.J vc,ι o.Q.K,ι o.Q.O,ι o.Q.D,ι o.Q.V,ι o.Q.X,ι o.Y,ι o.C,ι o.I])/\CE U (σ va o.J vc) o w')):=Lh (λU hU=>by
     have kN:=bI.o.chg.trans (AT.ob hU Qx);refine (Sg hs nO _ (σ ua m.J uc) m av cN HV.o.nums (U:Nat) U (Nr _) (cR.o U cy kN).1 (cX.o.fr.ups Dx hU.size ((JT.mask _ _).trans (JT.below hU))) (HV.o.mil hs nO) aN).mono ?_;rintro e w' ⟨o,fv,P,rfl,F,k1,k2⟩;obtain ⟨va,vc,rfl⟩:=k1.form;exact ⟨o,va,vc,P,rfl,F,k1,k2⟩)
    have gV:=Lh bC;obtain ⟨eL,bY,nL,nM,b3,-,-,gO,-,-,-,-⟩:=bL.o.viewR aU.o.1;obtain ⟨g0,g1,g2⟩:=cells_laid bI.o.code;obtain ⟨e0,e1,e2,e3,e4,e5,e6,e7,e8⟩:=AO cX.o.box;have i1:(t:Int)<(s4.R:Int):=by have:=(Ll aU.o.1);omega
    clear cN hE aN bC;go_upto_region 25 with fail;refine Ac (λQ=>Q.cell? (π (w+1) 3)=ς (σ (ς (π eL 0)) s4.R bY)/\Q.cell? (π w 0)=ς (σ fa cd.H fc)/\Q.cell? (π w 1)=ς (ι cd.G)/\Q.cell? (π w 2)=ς (σ qa cd.funcs qc)/\Q.cell? (π M 0)=ς (σ ua m.J uc)/\Q.cell? (π M 1)=ς (ι m.Q.K)/\Q.cell? (π M 2)=ς (ι m.Q.O)/\Q.cell? (π M 3)=ς (ι m.Q.D)/\Q.cell? (π M 4)=ς (ι m.Q.V)/\Q.cell? (π M 5)=ς (ι m.Q.X)/\Q.cell? (π M 6)=ς (ι m.Y)/\Q.cell? (π M 7)=ς (ι m.C)/\Q.cell? (π M 8)=ς (ι m.I)) [6,8] true 9 rfl κ κ ⟨b3,g0,g1,g2,e0,e1,e2,e3,e4,e5,e6,e7,e8⟩ ?_;refine softA ?_;have HK:=Lh (ϟ b3 (ϟ g0 (ϟ g1 (ϟ g2 (ϟ e0 (ϟ e1 (ϟ e2 (ϟ e3 (ϟ e4 (ϟ e5 (ϟ e6 (ϟ e7 e8))))))))))));clear b3 g0 g1 g2 e0 e1 e2 e3 e4 e5 e6 e7 e8;refine AH κ ?_;go_simp;refine (jN.o _ (AG Br 1)).mono ?_;rintro z wd ⟨o,va,vc,hN,rfl,cH⟩;have hb:=(AG Br 1).th cH.below;have fH:=Lh hN;have fG:=Lh cH;have aL:=Lh hb;clear hN cH hb;refine ⟨Θ13 aL.o HK.o,?_⟩;have bR:(DQ cd o\/(o.J=[]/\o.Q=Ah 21/\EB o))/\GC o/\IK o:=by
     have bV:=FB HA.o;have aN:=IN (by rw [y.o.2.2.2.2.2.1];exact HM.o) aT.o gV.o;have hE:DQ cd m:=⟨HV.o.nums,.inr (.inr (HV.o.waits bV.1 bV.2))⟩
     have P:=(IR hs hE bV.1 bV.2 aN fH.o).1;have D:o.Y<=1048576:=by
      have K:=HV.o.Y.2;rcases fH.o with ⟨_,_,rfl⟩|⟨_,fs,f,_,hr⟩|⟨_,hr⟩
      .exact K
      .exact Int.le_trans (JN hr HV.o.I.2).1 K
      .exact Int.le_trans (JN hr HV.o.I.2).1 K
     exact ⟨P,RN hs P D,OO hs nO P⟩
    have fL:=Lh bR;have jR:=Lh (bL.o.grow aL.o);obtain ⟨lS,gM,lY,lZ,fM,X,-,gN,bG,-,-,eM⟩:=jR.o.viewR aU.o.1;rw [AB aL.o HK.o.1] at fM;obtain ⟨rfl,rfl⟩:eL=lS/\bY=gM:=by simpa using fM
    have fA:=Lh (eM o (σ va o.J vc) (fG.o.fras bL.o.lab.2.2.1 bR.2.2) bR.2.1);have x0:wd.cell? (π eL (t*9))=ς (σ lY m.J lZ):=X 0 _ rfl;have x1:=Γ9 X;have z0:=bG (t*9);have z1:=bG (t*9+1);have z2:=bG (t*9+2);have z3:=bG (t*9+3);have z4:=bG (t*9+4);have z5:=bG (t*9+5);have z6:=bG (t*9+6);have z7:=bG (t*9+7);have z8:=bG (t*9+8);clear fM X bG eM bR;refine AH κ ?_;go_simp;refine BH ?_;clear x0 x1 z0 z1 z2 z3 z4 z5 z6 z7 z8 gN gO i1;change Exit.then _ _ _ _ (GK wd eL (t*9) (FW (σ va o.J vc) o));obtain ⟨w9,cP⟩:=ε (GK wd eL (t*9) (FW (σ va o.J vc) o));rw [<-cP] at fA ⊢;obtain ⟨E,eU⟩:=ε (runT s4 t o:A3);have dY:Au w9 cy (w+1) E:=by rw [eU];exact fA.o.1
    have dT:=(bI.o.go (T:=NO) (AT.ob aL.o (no 0))).go fA.o.2;have aP:Xg cd q t m n (Im (endO5 E t 0 o Y)):=.inr (.inr ⟨HA.o,mm,av,o,gV.o,fH.o,by
     have e4:E=runT { q with M:=mm,N:=q.N.set t Y } t o:=by rw [eU,gT.o];unfold runT;simp
     rw [e4,end_settle (end_kind fL.o.1),eN.o]⟩)
    have iS:E.R[t]?=ς o/\E.N[t]?=ς Y/\E.results[t]?=ς r/\E.P[t]?=ς e/\E.U=s.U:=by rw [eU];exact ⟨Li aU.o.1,aU.o.2.1,aU.o.2.2.1,aU.o.2.2.2.1,aU.o.2.2.2.2⟩
    have aD:=Lh (ϟ dY (ϟ dT (ϟ aP iS)));clear cP eU dY dT aP iS;go_wp2;go_meet
    case rel=>exact Lh ⟨cy,E,o,aD.o.1,aD.o.2.1,aD.o.2.2.2.1,aD.o.2.2.2.2.1,aD.o.2.2.2.2.2.1,aD.o.2.2.2.2.2.2.1,aD.o.2.2.2.2.2.2.2,aD.o.2.2.1⟩
  obtain ⟨cz,E,m9,bE,bA,iN,iO,iP,iQ,iR,aN⟩:=hcut.o;have eP:=Lh bE;have fC:=Lh bA;have HY:Hid (E.R[t]?=ς m9/\E.N[t]?=ς Y/\E.results[t]?=ς r/\E.P[t]?=ς e/\True/\True/\E.U=s.U):=Lh ⟨iN,iO,iP,iQ,trivial,trivial,iR⟩;have eX:=Lh aN;have jH:=@Lh (in64 fv) (by
   rcases gP.o with ⟨rfl,_⟩|⟨rfl,_⟩<;>(unfold in64;simp))
  clear hcut bE bA iN iO iP iQ iR aN;obtain ⟨V3,c6,bQ,cC,aZ,dN,dS⟩:=eP.o.give;obtain ⟨kG,kI,lD,lF,lQ,lU,lH,lK,jX,jZ,lM,lO,jT,jV,kB,kD,cL⟩:=cC.opened;have aA:=rEnded_any E V3 c6 t fv m9 Y r e wc cC HY.o.1 HY.o.2.1 HY.o.2.2.1 HY.o.2.2.2.1 G.o.rl G.o.el jH.o;have dL:=λ(w2:Ϣ) (c2:A1) (a:A3) (V2:TV) (D:TK NO w2 c2 a V2) (bU:AT NZ c6 c2 wc w2)=>st_back D bU aZ dS dN eP.o.lab.1 bQ cL;rw [cL] at aA bQ;have cA:=Lh aA;have eZ:=Lh dL;obtain ⟨⟨x0,x1,x2,x3,x4,x5,x6,x7,x8,x9⟩,-,xz⟩:=Gk bQ;clear bQ cC aZ dN dS cL aA dL;go_wp2_with fail;refine cA.o.mono ?_;rintro z w6 ⟨V4,N,rfl,cD,bN⟩;obtain ⟨aK,Z⟩:=eZ.o w6 N _ V4 cD bN;obtain ⟨dG,dH,eE,eF,eK,bY,eG,eH,dC,dD,eI,eJ,dA,dB,dE,dF,cM⟩:=cD.opened;obtain ⟨c8,aR,aO,-⟩:=Z _ _ _ _ _ _ _ _ _ _ cM;rw [cM];obtain ⟨d,bS⟩:=ε (endO5 E t fv m9 Y:A3);have aY:=@Lh (d.U=s.U) (by rw [bS,endO5_step];exact HY.o.2.2.2.2.2.2);have S:=@Lh (Xg cd q t m n (Im d)) (by rw [bS];exact eX.o);rw [<-bS] at aR aO ⊢;have bK:=Lh aR;have aW:=Lh (fC.o.go aO);clear x0 x1 x2 x3 x4 x5 x6 x7 x8 x9 xz cD bN Z cM aR aO bS;obtain ⟨⟨y0,y1,y2,y3,y4,y5,y6,y7,y8,y9⟩,⟨z0,z1,z2,z3,z4,z5,z6,z7,z8,z9⟩,zz⟩:=Gk aK;clear aK;go_upto_region 27 with fail;change Code.wp _ _ _ _ (B7 w6 (w+1) (σ dG d.M.G dH) (σ eE d.M.N eF) (ι d.Y) (σ eK d.R bY) (σ eG d.N eH) (σ dC d.A dD) (σ eI d.results eJ) (σ dA d.Z dB) (σ dE d.P dF) (ι d.U));obtain ⟨C,bF⟩:=ε (B7 w6 (w+1) (σ dG d.M.G dH) (σ eE d.M.N eF) (ι d.Y) (σ eK d.R bY) (σ eG d.N eH) (σ dC d.A dD) (σ eI d.results eJ) (σ dA d.Z dB) (σ dE d.P dF) (ι d.U));rw [<-bF] at bK aW ⊢;clear bF y0 y1 y2 y3 y4 y5 y6 y7 y8 y9 z0 z1 z2 z3 z4 z5 z6 z7 z8 z9 zz;have b9:=bK.o.U.1;obtain ⟨-,bl,-,bz⟩:=bK.o.lab;have bf:=bz 9;have gL:IntKind.i64.wrap (d.U+1)=d.U+1:=by rw [IntKind.wrap_i64]<;>(have:=G.o.U;have:=aY.o;omega)
  obtain ⟨k1,k2⟩:=bK.o.setStep (d.U+1) (by have:=G.o.U;have:=aY.o;unfold in64;omega);obtain ⟨s7,bD⟩:∃ x:A3,x={ d with U:=d.U+1 }:=⟨_,rfl⟩
  rw [<-bD] at k1;have cZ:=Lh k1;have aG:=Lh (aW.o.go k2);have bZ:=@Lh (Xg cd q t m n s7) (by rw [bD];exact S.o);clear bz k1 k2 bD;go_upto_region 28 with fail;obtain ⟨w8,eC⟩:=ε (C.setCell (π (w+1) 9) (ι (d.U+1)));rw [<-eC] at cZ aG ⊢;clear eC b9 bf bl gL;have bO:=aG.o.res;obtain ⟨kH,kJ,lE,lG,lR,lV,lI,lL,jY,kA,lN,lP,jU,jW,kC,kE,aC,aJ⟩:=st_ret cZ.o aG.o.chg bO aG.o.cr ω;have fI:Hid (∃ s',Dg cd s t s'/\ThrR s' c w _ _):=Lh ⟨s7,⟨m0,n,m,q,G.o.hm,G.o.hn,cQ.o,bZ.o⟩,aJ⟩;have fJ:=Lh bO;obtain ⟨⟨x0,x1,x2,x3,x4,x5,x6,x7,x8,x9⟩,-,xz⟩:=Gk aC;obtain ⟨⟨y0,y1,y2,y3,y4,y5,y6,y7,y8,y9⟩,⟨z0,z1,z2,z3,z4,z5,z6,z7,z8,z9⟩,zz⟩:=Gk bO;clear bO aC aJ;go_wp2;exact ϖ (O5 (p:=6) rfl (CB fJ.o _ _ _ _ _ _ _ _ _ _) _ rfl) rfl fI.o
