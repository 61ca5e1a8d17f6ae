import Derived.Test.YtiejafonjemioaaGreatDoorNwn
import Derived.Test.YtiejafonjemioaaGreatDoorLsc
set_option maxHeartbeats 8000000
set_option maxRecDepth 1000000
set_option linter.all false
open Go renaming World→Ϣ,Value→ϒ,bodyPost_ret→ϖ
open Go.RowKit renaming Below→ϐ
open Option renaming some→ς
open List renaming replicate→ϱ,mem_cons→ϰ
open Go.Value renaming slice→σ
open Go.Obj renaming cells→χ
namespace Go.Proofs.YtiejafonjemioaaGreatDoor
open Go.RowKit Proofs.Tryz
variable {c:AQ} {s s' s1 s2 T:A3} {t d i j:Nat} {w A:Ϣ} {l sch:List Int} {v:ϒ} {a a0:Act} {sl:Nat->Option Tmp} {K:Int} {done:List Nat} {f:Nat->ϒ}
def Fo.stepOk (h:Fo c s) (o:s.U<65536) (d:Cg s t=0):∃ m n l r b e,Pf c s t m n l r b e:=by
 unfold Cg at d;rw [if_neg ω] at d;split at d
 .cases d
 .rename_i hlt
  rw [Int.toNat_natCast] at d;split at d
  .rename_i hen
   obtain ⟨m,n,l,r,b,e,a⟩:=h.at_ (t:=t) ω;have f:=h.all t _ _ _ _ _ _ a;have u:=f.ops;have p:=f.Z;have q:=f.P;have k:(if m.J=[] then 0 else 1)<=1:=by split<;>omega
   refine ⟨m,n,l,r,b,e,⟨a.m,a.n,a.l,a.r,a.b,a.e,ω,ω,ω,by have:=f.cnt;omega,⟨h.U,ω⟩,?_⟩⟩;by_cases i:m.J=[]
   .refine .inl ⟨i,?_⟩
    unfold Qw at hen;rw [a.m,a.l] at hen;simp only [i,List.length_nil,Nat.lt_irrefl,decide_false,Bool.false_or,decide_eq_true_eq] at hen;cases l with
    | nil=>simp at hen
    | cons x j=>exact ⟨x,j,rfl,IP h.Y (f.right x ψ)⟩
   .refine .inr ⟨i,?_⟩
    rcases f.mach with ⟨g,_⟩|g
    .exact absurd (by rw [g];rfl) i
    .exact ⟨g.valid h.sound,g.asks⟩
  .cases d
def Au.look {c:A1} {y:Nat} (h:Au w c y s):∃ k l m n u v o p f g q r a d i j,w.heap[y]?=ς (χ (Bt k l m n u v o p f g q r a d i j s) 34 (0,0))/\CJ w w (.agg (Bt k l m n u v o p f g q r a d i j s)) s/\∀ R,c R=14->CJ (B7 w R (σ k s.M.G l) (σ m s.M.N n) (ι s.Y) (σ u s.R v) (σ o s.N p) (σ f s.A g) (σ q s.results r) (σ a s.Z d) (σ i s.P j) (ι s.U)).heap.size (B7 w R (σ k s.M.G l) (σ m s.M.N n) (ι s.Y) (σ u s.R v) (σ o s.N p) (σ f s.A g) (σ q s.results r) (σ a s.Z d) (σ i s.P j) (ι s.U)) (.agg (Bt k l m n u v o p f g q r a d i j s)) s:=by
 obtain ⟨V,x,A⟩:=h;obtain ⟨k,l,m,n,u,v,o,p,f,g,q,r,a,d,i,j,e⟩:=x.opened;refine ⟨k,l,m,n,u,v,o,p,f,g,q,r,a,d,i,j,by rw [<-e];exact A.row,by rw [<-e];exact x.reads,λR B=>?_⟩;have C:=D7 (T:=λt=>t=14) (c:=c) (W:=w) (R:=R) (v0:=σ k s.M.G l) (v1:=σ m s.M.N n) (v2:=ι s.Y) (v3:=σ u s.R v) (v4:=σ o s.N p) (v5:=σ f s.A g) (v6:=σ q s.results r) (v7:=σ a s.Z d) (v8:=σ i s.P j) (v9:=ι s.U) B ω;have K:=x.k14 C (λb z=>x.hi b (by rw [FH] at z;exact z));rw [<-e];exact K.reads
inductive Gj (c:AQ) (s:A3):List Int->A3->Prop
 | nil:Gj c s [] s
 | snoc {l:List Int} {s1 s2:A3} {t:Int}:Gj c s l s1->Cg s1 t=0->s1.U<65536->Dg c s1 t.toNat s2->Gj c s (l++[t]) s2
def Gj.inv (h:Gj c s l s') (b:Fo c s):Fo c s':=by
 induction h with
 | nil=>exact b
 | snoc _ _ _ a d=>exact d.stepR a
structure Ww (cd:AQ) (s:A3) (W:Ϣ) (c0:A1) (bt k:Nat) (sch:List Int) (wr:Ϣ) (c:A1) (sk:A3):Prop where
 st:Au wr c bt sk
 chg:AT NZ c0 c W wr
 path:Gj cd s (sch.take k) sk
def MK (cd:AQ) (s:A3) (sch:List Int) (w:Ϣ) (e:Ending) (w':Ϣ):Prop:=ϐ w w w'/\((¬Bu cd s/\e=.returned (.tuple #[.agg Bz,ι 0,ι 1]))\/(Bu cd s/\65536<sch.length/\e=.returned (.tuple #[.agg Bz,ι 0,ι 4]))\/
 (Bu cd s/\sch.length<=65536/\∃ (i:Nat) (s':A3) (v:ϒ),Gj cd s (sch.take i) s'/\(i=sch.length\/∃ t,sch[i]?=ς t/\(Cg s' t≠0\/65536<=s'.U))/\e=.returned (.tuple #[v,ι i,ι 0])/\CJ w' w' v s'))
def EQ {b:Func} {p u q:Tmp} (s:b.results=#[.cell p 34,.tmp u,.tmp q]) {W:Ϣ} {R:Nat} {f g i j k l m n o r v2:ϒ} (h:W.heap[R]?=ς (χ #[f,g,i,j,k,l,m,n,o,r] 34 (0,0))) (a:Array ϒ) (c:a.getD p undef=.pointer (ς (π R 0))) (d:a.getD u undef=v) (e:a.getD q undef=v2) :
  (results b a).run prog W=.ok (.tuple #[.agg #[f,g,i,j,k,l,m,n,o,r],v,v2]) W:=by
 simp only [results,s];rw [Array.getD_eq_getD_getElem?] at c d e;simp [c,d,e,asAddr,LP h,Result.andThen,Sem.run_bind]
def PJ (cd:AQ) (cv sv lv:ϒ) (s:A3) (sch:List Int) (w:Ϣ) (hL:C8 w) (eE:Bv cd) (hc:BF w w cv cd) (hs:CJ w w sv s) (hl:AE w w 1 Aj lv sch) (X:Bu cd s->Fo cd s) :
  Calls prog 34 #[cv,sv,lv] w (MK cd s sch w):=by
 obtain ⟨fv,gv,rfl,hf,hg,cO⟩:=id hc;obtain ⟨fa,fc,rfl⟩:=hf.form;obtain ⟨qa,qc,rfl⟩:=hg.form;have dS:sch.length<=140737488355328:=by obtain ⟨_,_,_,h,_⟩:=hl;exact h
 obtain ⟨la,lc,rfl⟩:=hl.form;obtain ⟨ga,gc,ma,mc,ra,rc,na,nc,ca,cc,oa,oc,ba,bc,ea,ec,rfl⟩:=hs.open_;obtain ⟨HC,HL,dF,dC⟩:=Λ4 hc hL hl X;obtain ⟨W,hW⟩:=ε (((w.alloc (χ (Bc fa fc qa qc cd) 25)).alloc (χ (Bt ga gc ma mc ra rc na nc ca cc oa oc ba bc ea ec s) 34)).alloc (χ Bz 34));obtain ⟨cW,bY,R0,R1,R2⟩:=Λ5 (bl3 hW) (sz3 hW) (ro31 hW) (ro32 hW) (ro33 hW);have HK:Hid (∀ V,ϐ W W V->(V.cell? (π w 0)=ς (σ fa cd.H fc)/\V.cell? (π w 1)=ς (ι cd.G)/\V.cell? (π w 2)=ς (σ qa cd.funcs qc))/\(w:Nat)<V.heap.size/\V.heap[(w:Nat)+1]?=ς (χ (Bt ga gc ma mc ra rc na nc ca cc oa oc ba bc ea ec s) 34 (0,0))/\V.heap[(w:Nat)+1+1]?=ς (χ Bz 34 (0,0))):=Lh (λV hV=>by
  have h:=bY.o;have h0:=(hV.block (w:Nat) ω).trans R0.o;exact ⟨⟨Cr h0 rfl,Cr h0 rfl,Cr h0 rfl⟩,(La h0),(hV.block _ ω).trans R1.o,(hV.block _ ω).trans R2.o⟩)
 have Y:Hid (∀ V,ϐ W W V->C8 V/\BF w V (.agg (Bc fa fc qa qc cd)) cd/\CJ w V (.agg (Bt ga gc ma mc ra rc na nc ca cc oa oc ba bc ea ec s)) s/\ϐ w w V):=Lh (λV hV=>by
  have d:=cW.o.th hV;exact ⟨hL.below d,hc.below d,hs.below d,d⟩)
 have HZ:=@Lh (∀ V,ϐ W W V->(w:Nat)<=V.heap.size) (λV hV=>(cW.o.th hV).size);clear hf hg cO hL hs hc hl X;obtain ⟨⟨c0,c1,c2⟩,zc,bB,-⟩:=HK.o W Br;obtain ⟨⟨x0,x1,x2,x3,x4,x5,x6,x7,x8,x9⟩,-,xz⟩:=Gk bB;clear bB;go_enter func34,ntmps34;go_upto_region 1 with fail;rw [<-hW];clear hW;go_wp2_with fail;refine (IM cd _ s _ (w:Nat) W (Y.o W Br).1 (HZ.o W Br) eE (Y.o W Br).2.1 (Y.o W Br).2.2.1).mono ?_;rintro e g ⟨rfl,cX⟩;have j:=Lh cX;clear c0 c1 c2 zc x0 x1 x2 x3 x4 x5 x6 x7 x8 x9 xz cX;by_cases hv:Bu cd s
 .rw [CP hv]
  have Z:=Lh hv;clear hv;obtain ⟨-,-,bB,K⟩:=HK.o g j.o;by_cases cT:65536<sch.length
  .obtain ⟨⟨y0,y1,y2,y3,y4,y5,y6,y7,y8,y9⟩,⟨z0,z1,z2,z3,z4,z5,z6,z7,z8,z9⟩,zz⟩:=Gk K
   have cK:=Lh K;have z:Hid (MK cd s sch w (.returned (.tuple #[.agg Bz,ι 0,ι 4])) (B7 g (w+1+1) ν ν (ι 0) ν ν ν ν ν ν (ι 0))):=Lh ⟨CH (Y.o g j.o).2.2.2 ω (HZ.o g j.o) ν ν (ι 0) ν ν ν ν ν ν (ι 0),.inr (.inl ⟨Z.o,cT,rfl⟩)⟩;clear bB K;go_wp2;exact ϖ (EQ (p:=6) (u:=7) (q:=8) rfl (CB cK.o ν ν (ι 0) ν ν ν ν ν ν (ι 0)) _ rfl rfl rfl) rfl z.o
  .have cH:=Lh cT
   obtain ⟨⟨x0,x1,x2,x3,x4,x5,x6,x7,x8,x9⟩,-,xz⟩:=Gk bB;clear bB K;go_wp2_with fail;refine (Jx s _ (w:Nat) g (HZ.o g j.o) (Y.o g j.o).2.2.1 (Z.o.copyOk eE)).mono ?_;rintro e w4 ⟨V,c',rfl,hK,hC⟩;obtain ⟨dK,bW,o⟩:=Mx.own (c:=λb=>if b=(w:Nat)+1+1 then 14 else 0) hK hC (λb d=>if_neg (by have h1:=j.o.size;have h2:=bY.o;omega));have cY:ϐ g g w4:=⟨o.os,o.tape,o.output,o.size,λb d=>o.kp b d (no _)⟩
   have dB:=Lh (j.o.th cY);obtain ⟨dP,dQ,dU,dV,eA,eB,dW,dX,dL,dM,dY,dZ,dI,dJ,dN,dO,cN⟩:=bW.opened;rw [cN];obtain ⟨v,bG⟩:=ε (w4.alloc (χ (Bt dP dQ dU dV eA eB dW dX dL dM dY dZ dI dJ dN dO s) 34));obtain ⟨bt,bX⟩:=ε (w4:Nat);have cM:=bl1 bG;have dT:=sz1 bG;obtain ⟨U,bH⟩:=ε ((λx=>if x=bt then 1 else dK x):A1);have bK:Hid (Ww cd s v U bt 0 sch v U s):=Lh ⟨⟨V,by
    rw [bH,bX];exact bW.no2 (AT.paint _ _ cM (Nr _)) (λb d=>by
     show (if _ then _ else _)=_;rw [if_neg ω];exact bW.hi b ω),⟨by rw [cN,bG,bX];exact Hn _ _,by rw [bH];exact if_pos rfl⟩⟩,AT.ob Br Qx,.nil⟩
   have cI:=Lh (dB.o.th cM);have bA:Hid (∀ b,b<(w:Nat)+1+1->U b=0):=Lh (λb d=>by
    have h1:=j.o.size;have h2:=bY.o;have h3:=o.size;rw [bH];show (if _ then _ else _)=_;rw [if_neg ω,o.old b ω];exact if_neg ω)
   have bM:=@Lh (U ((w:Nat)+1+1)=14/\(w:Nat)+1+1<v) (by
    have h1:=j.o.size;have h2:=bY.o;have h3:=o.size;refine ⟨?_,ω⟩;rw [bH];show (if _ then _ else _)=_;rw [if_neg ω,o.old _ ω];exact if_pos rfl)
   clear x0 x1 x2 x3 x4 x5 x6 x7 x8 x9 xz hK hC bW o cY cN cM dT bH;have bD:Hid (∀ (V:Ϣ) (c:A1),AT NZ U c v V->ϐ w w V/\(V.cell? (π w 0)=ς (σ fa cd.H fc)/\V.cell? (π w 1)=ς (ι cd.G)/\V.cell? (π w 2)=ς (σ qa cd.funcs qc))/\(w:Nat)<V/\V.heap[(w:Nat)+1+1]?=ς (χ Bz 34 (0,0))/\c ((w:Nat)+1+1)=14/\(∀ b,b<(w:Nat)->c b=0)/\(w:Nat)<=V):=Lh (λV c h=>by
    obtain ⟨⟨k0,k1,k2⟩,k3,k4,k5⟩:=HK.o v cI.o;have d:=(Y.o v cI.o).2.2.2;have hz:=HZ.o v cI.o;have e0:¬NZ (U (w:Nat)):=by rw [bA.o _ ω];exact Qx
    exact ⟨d.trans (h.below (B:=(w:Nat)) (λb d=>bA.o b ω) hz),⟨h.cell k0 e0,h.cell k1 e0,h.cell k2 e0⟩,Nl k3 h.size,(h.kp _ bM.o.2 (by rw [bM.o.1];exact Io)).trans k5,(h.old _ bM.o.2).trans bM.o.1,λb d=>(h.old b ω).trans (bA.o b ω),Nt hz h.size⟩)
   go_upto_region 6 with fail;rw [<-bG];try rw [<-bX]
   clear bG bX;go_wp2_with fail;go_loopw [26] (λi wr=>∃ k:Nat,k<=sch.length/\i=ι k/\Hid (∃ c a,Ww cd s v U bt k sch wr c a)) (λi _=>sch.length - (intOf i).toNat)
   case atStart=>exact ⟨0,Nat.zero_le _,rfl,Lh ⟨_,_,bK.o⟩⟩
   case round=>
    obtain ⟨k,hk,rfl,bC⟩:=hrel;obtain ⟨c,a,bC⟩:=bC.o;have PU:=Lh bC;clear bC bK;obtain ⟨bU,bV,bZ,cA,cF,cG,cB,cC,bQ,bR,cD,cE,bO,bP,bS,bT,aD,bL,A⟩:=PU.o.st.look;have dG:=Lh bL;have dE:=Lh A;obtain ⟨⟨x0,x1,x2,x3,x4,x5,x6,x7,x8,x9⟩,-,xz⟩:=Gk aD;clear aD bL A;by_cases dR:k<sch.length
    .obtain ⟨t,ht⟩:∃ y,sch[k]?=ς y:=⟨_,Lg dR⟩
     obtain ⟨sb,so,rfl,cZ,dA⟩:=dF.o.nth ht;have HX:=Lh ht;have e0:=(Di (bD.o _ _ PU.o.chg).1 cZ).trans dA.1;rw [Nat.mul_one] at e0;have eC:=In k;have eD:(k:Int)<(sch:Int):=ω;have cJ:=Lh (PU.o.path.inv (dC.o Z.o));clear ht cZ dA;go_wp2_with fail;refine (NF a _ t (wr:Nat) wr (Nr _) dG.o cJ.o.A).mono ?_;rintro e w2 ⟨rfl,cL⟩;have cS:=Lh (PU.o.st.grow cL);have bN:=Lh (PU.o.chg.trans (AT.ob cL Qx));clear x0 x1 x2 x3 x4 x5 x6 x7 x8 x9 xz e0 cL;obtain ⟨I,J,M,N,S,T,O,P,E,F,Q,R,C,D,G,H,aD,-,A⟩:=cS.o.look;obtain ⟨⟨x0,x1,x2,x3,x4,x5,x6,x7,x8,x9⟩,-,xz⟩:=Gk aD;by_cases aG:Cg a t=0
     .have bI:=ζ (Cg a t) 0 aG
      by_cases bC:65536<=a.U
      .obtain ⟨f,-,-,m,L,-,-⟩:=bD.o _ _ bN.o
       have z:Hid (MK cd s sch w (.returned (.tuple #[.agg (Bt I J M N S T O P E F Q R C D G H a),ι (k:Int),ι 0])) (B7 w2 (w+1+1) (σ I a.M.G J) (σ M a.M.N N) (ι a.Y) (σ S a.R T) (σ O a.N P) (σ E a.A F) (σ Q a.results R) (σ C a.Z D) (σ G a.P H) (ι a.U))):=Lh ⟨CH f ω f.size (σ I a.M.G J) (σ M a.M.N N) (ι a.Y) (σ S a.R T) (σ O a.N P) (σ E a.A F) (σ Q a.results R) (σ C a.Z D) (σ G a.P H) (ι a.U),.inr (.inr ⟨Z.o,by have:=cH.o;omega,k,a,_,PU.o.path,.inr ⟨t,HX.o,.inr bC⟩,rfl,A _ L⟩)⟩;obtain ⟨⟨y0,y1,y2,y3,y4,y5,y6,y7,y8,y9⟩,⟨z0,z1,z2,z3,z4,z5,z6,z7,z8,z9⟩,zz⟩:=Gk m;have bE:=Lh m;clear m aD A f L;go_wp2;exact ϖ (EQ (p:=6) (u:=7) (q:=8) rfl (CB bE.o (σ I a.M.G J) (σ M a.M.N N) (ι a.Y) (σ S a.R T) (σ O a.N P) (σ E a.A F) (σ Q a.results R) (σ C a.Z D) (σ G a.P H) (ι a.U)) _ rfl rfl rfl) rfl z.o
      .have cR:=Lh aG
       have cP:a.U<65536:=ω;have bF:=Lh cP;obtain ⟨tn,rfl⟩:∃ tn:Nat,t=tn:=⟨t.toNat,Mu aG⟩
       obtain ⟨f,⟨c0,c1,c2⟩,zc,-,-,bJ,hz⟩:=bD.o _ _ bN.o;have cQ:=Lh f;have dD:=Lh bJ;have dH:=Lh hz;obtain ⟨m0,n,l,r,b,e,hp⟩:=cJ.o.stepOk bF.o cR.o;have HP:=Lh hp;clear aD A f bJ hz hp;go_wp2_with fail;refine (MJ cd fa qa fc qc w a c bt tn m0 n l r b e w w2 HL.o rfl cQ.o Z.o.sound eE dH.o (HC.o.below cQ.o) (λb d=>by rw [dD.o b d];exact Qx) cS.o cJ.o.M HP.o).mono ?_;rintro e9 w6 ⟨rfl,s',hR,c6,cV,cU⟩;have HN:Hid (Ww cd s v U bt (k+1) sch w6 c6 s'):=Lh ⟨cV,bN.o.trans cU,by
        rw [List.take_add_one,HX.o];exact .snoc PU.o.path cR.o bF.o (by rw [Int.toNat_natCast];exact hR)⟩
       clear hR cV cU c0 c1 c2 zc x0 x1 x2 x3 x4 x5 x6 x7 x8 x9 xz;go_wp2;go_roundw
       case rel=>exact ⟨k+1,ω,by go_num,Lh ⟨_,_,HN.o⟩⟩
       case measure=>simp [intOf];omega
     .have bI:=ξ (Cg a t) 0 aG
      obtain ⟨f,-,-,m,L,-,-⟩:=bD.o _ _ bN.o;have z:Hid (MK cd s sch w (.returned (.tuple #[.agg (Bt I J M N S T O P E F Q R C D G H a),ι (k:Int),ι 0])) (B7 w2 (w+1+1) (σ I a.M.G J) (σ M a.M.N N) (ι a.Y) (σ S a.R T) (σ O a.N P) (σ E a.A F) (σ Q a.results R) (σ C a.Z D) (σ G a.P H) (ι a.U))):=Lh ⟨CH f ω f.size (σ I a.M.G J) (σ M a.M.N N) (ι a.Y) (σ S a.R T) (σ O a.N P) (σ E a.A F) (σ Q a.results R) (σ C a.Z D) (σ G a.P H) (ι a.U),.inr (.inr ⟨Z.o,by have:=cH.o;omega,k,a,_,PU.o.path,.inr ⟨t,HX.o,.inl aG⟩,rfl,A _ L⟩)⟩;obtain ⟨⟨y0,y1,y2,y3,y4,y5,y6,y7,y8,y9⟩,⟨z0,z1,z2,z3,z4,z5,z6,z7,z8,z9⟩,zz⟩:=Gk m;have bE:=Lh m;clear m aD A f L;go_wp2;exact ϖ (EQ (p:=6) (u:=7) (q:=8) rfl (CB bE.o (σ I a.M.G J) (σ M a.M.N N) (ι a.Y) (σ S a.R T) (σ O a.N P) (σ E a.A F) (σ Q a.results R) (σ C a.Z D) (σ G a.P H) (ι a.U)) _ rfl rfl rfl) rfl z.o
    .obtain rfl:k=sch.length:=ω
     obtain ⟨f,-,-,m,L,-,-⟩:=bD.o _ _ PU.o.chg;have z:Hid (MK cd s sch w (.returned (.tuple #[.agg (Bt bU bV bZ cA cF cG cB cC bQ bR cD cE bO bP bS bT a),ι (sch:Int),ι 0])) (B7 wr (w+1+1) (σ bU a.M.G bV) (σ bZ a.M.N cA) (ι a.Y) (σ cF a.R cG) (σ cB a.N cC) (σ bQ a.A bR) (σ cD a.results cE) (σ bO a.Z bP) (σ bS a.P bT) (ι a.U))):=Lh ⟨CH f ω f.size (σ bU a.M.G bV) (σ bZ a.M.N cA) (ι a.Y) (σ cF a.R cG) (σ cB a.N cC) (σ bQ a.A bR) (σ cD a.results cE) (σ bO a.Z bP) (σ bS a.P bT) (ι a.U),.inr (.inr ⟨Z.o,by have:=cH.o;omega,sch.length,a,_,PU.o.path,.inl rfl,rfl,dE.o _ L⟩)⟩;obtain ⟨⟨y0,y1,y2,y3,y4,y5,y6,y7,y8,y9⟩,⟨z0,z1,z2,z3,z4,z5,z6,z7,z8,z9⟩,zz⟩:=Gk m;have bE:=Lh m;clear m f L;go_wp2;exact ϖ (EQ (p:=6) (u:=7) (q:=8) rfl (CB bE.o (σ bU a.M.G bV) (σ bZ a.M.N cA) (ι a.Y) (σ cF a.R cG) (σ cB a.N cC) (σ bQ a.A bR) (σ cD a.results cE) (σ bO a.Z bP) (σ bS a.P bT) (ι a.U)) _ rfl rfl rfl) rfl z.o
 .rw [Bw hv]
  obtain ⟨-,-,-,K⟩:=HK.o g j.o;obtain ⟨⟨y0,y1,y2,y3,y4,y5,y6,y7,y8,y9⟩,⟨z0,z1,z2,z3,z4,z5,z6,z7,z8,z9⟩,zz⟩:=Gk K;have cK:=Lh K;have z:Hid (MK cd s sch w (.returned (.tuple #[.agg Bz,ι 0,ι 1])) (B7 g (w+1+1) ν ν (ι 0) ν ν ν ν ν ν (ι 0))):=Lh ⟨CH (Y.o g j.o).2.2.2 ω (HZ.o g j.o) ν ν (ι 0) ν ν ν ν ν ν (ι 0),.inl ⟨hv,rfl⟩⟩;clear K;go_wp2;exact ϖ (EQ (p:=6) (u:=7) (q:=8) rfl (CB cK.o ν ν (ι 0) ν ν ν ν ν ν (ι 0)) _ rfl rfl rfl) rfl z.o
def Dg.det (h:Dg c s t s1) (k:Dg c s t s2):s1=s2:=by
 obtain ⟨D,n,m,b,u,v,z,y⟩:=h;obtain ⟨C,F,q,r,j,o,p,i⟩:=k;rw [u] at j;rw [v] at o;cases j;cases o;have e:m=q/\b=r:=by
  rcases z with ⟨g,rfl,rfl⟩|⟨g,x,l,B,A,rfl⟩
  .rcases p with ⟨_,rfl,rfl⟩|⟨kf,_⟩
   .exact ⟨rfl,rfl⟩
   .exact absurd kf g
  .rcases p with ⟨kf,_⟩|⟨_,x',l',kl,kR,rfl⟩
   .exact absurd g kf
   .rw [B] at kl
    cases kl;exact ⟨Kb A kR,rfl⟩
 obtain ⟨rfl,rfl⟩:=e;rcases y with ⟨d,rfl⟩|⟨d,f,rfl⟩|⟨d,E,a,q,f,w,rfl⟩
 .rcases i with ⟨k3,rfl⟩|⟨k3,_⟩|⟨k3,_⟩
  .rfl
  .rw [d] at k3;cases k3
  .rw [d] at k3;cases k3
 .rcases i with ⟨k3,_⟩|⟨_,k4,rfl⟩|⟨_,_,_,_,k4,_⟩
  .rw [d] at k3;cases k3
  .rfl
  .rw [f] at k4;cases k4
 .rcases i with ⟨k3,_⟩|⟨_,k4,_⟩|⟨_,aB,a',m2,k4,k5,rfl⟩
  .rw [d] at k3;cases k3
  .rw [f] at k4;cases k4
  .rw [f] at k4
   cases k4;rw [Ri w k5]
def Uw {α:Type} {l d:List α} {a b:α} (h:l++[a]=d++[b]):l=d/\a=b:=by
 have c:=List.append_inj' h rfl;exact ⟨c.1,by simpa using c.2⟩
def Gj.det (h:Gj c s l s1):∀ {s2},Gj c s l s2->s1=s2:=by
 induction h with
 | nil=>
  intro s2 k;generalize d:([]:List Int)=l' at k;cases k with
  | nil=>rfl
  | snoc=>simp at d
 | @snoc j a b m _ _ _ e f=>
  intro s2 k;generalize d:j++[m]=l' at k;cases k with
  | nil=>simp at d
  | snoc g n o i=>obtain ⟨rfl,rfl⟩:=Uw d;obtain rfl:=f g;exact e.det i
def SD:BK:=⟨⟨#[97,100,100]⟩,0,0,false,[⟨13,0⟩,⟨4,0⟩,⟨1,1⟩,⟨15,0⟩,⟨5,0⟩,⟨10,0⟩]⟩
def EX:AQ:=⟨[],1,[SD]⟩
def Pi:Bi:=⟨⟨#[97,100,100]⟩,[]⟩
def Wx:Gi ⟨#[97,100,100]⟩=true:=by kernel_rfl
def Tp:Dl EX=false:=by kernel_rfl
def SE:CQ EX SD:=Ro [0,0,1,2,1,0] rfl δ (by
 intro i a;have:(List.range 6).all (VP EX SD [0,0,1,2,1,0])=true:=by kernel_rfl
 exact List.all_eq_true.1 this i (List.mem_range.2 a))
def OA:AU EX:=by
 refine ⟨⟨by simp [EX],by simp [EX],by simp [EX],by simp [EX],by simp [EX],λi x a=>?_⟩,Tp,λf b=>?_⟩
 .match i,a with
  | 0,a=>
   obtain rfl:x=SD:=by simpa [EX] using a.symm
   exact ⟨Wx,by unfold CX;simp [SD],ψ⟩
  | i+1,a=>simp [EX] at a
 .simp only [EX,ϰ,List.not_mem_nil,or_false] at b
  rcases b with rfl;exact SE
def N9:Bv EX:=λy a=>by
 simp only [EX,ϰ,List.not_mem_nil,or_false] at a;rcases a with rfl;simp [SD]
def N7:AS EX Pi 0=0:=by kernel_rfl
def RG:Bb EX ⟨[0],[]⟩=true:=by kernel_rfl
def Jb:List (List Bi):=[[Pi],[Pi]]
def XA:GO EX ⟨[0],[]⟩ Jb 5=0:=by
 unfold GO;rw [CZ OA,RG];rw [if_neg ψ,if_neg ω,if_neg (by simp [Jb]),if_neg (by simp [Jb])];exact Gp (λl a y b=>by
  simp only [Jb,ϰ,List.not_mem_nil,or_false,or_self] at a;subst a;simp only [ϰ,List.not_mem_nil,or_false] at b;subst b;exact N7)
def Xa:AV:=⟨[⟨0,2,[],[]⟩],⟨1,0,0,0,0⟩,4,0,1⟩
def K7 (v:Int):AV:=⟨[⟨0,5,[],[]⟩],⟨2,0,0,v,0⟩,4,0,4⟩
def Xr:AV:=⟨[],EE 0,4,0,5⟩
def K8:Cf EX (CF EX Pi 5) Xa:=
 .go (m1:=⟨[⟨0,1,[],[]⟩],Eg,4,0,0⟩) κ (Cf.stop (r:=⟨1,0,0,0,0⟩) (m1:=⟨[⟨0,2,[],[]⟩],Eg,4,0,1⟩) κ)
def N8:ED EX Xa 0 (K7 1):=
 .inr (.inl ⟨.inl rfl,[],⟨0,2,[],[]⟩,rfl,.go (m1:=⟨[⟨0,3,[],[0,1]⟩],Eg,4,0,2⟩) κ (.go (m1:=⟨[⟨0,4,[],[1]⟩],Eg,4,0,3⟩) κ (Cf.stop (r:=⟨2,0,0,1,0⟩) (m1:=⟨[⟨0,5,[],[]⟩],Eg,4,0,4⟩) κ))⟩)
def Tn:ED EX Xa 1 (K7 2):=
 .inr (.inl ⟨.inl rfl,[],⟨0,2,[],[]⟩,rfl,.go (m1:=⟨[⟨0,3,[],[1,1]⟩],Eg,4,0,2⟩) κ (.go (m1:=⟨[⟨0,4,[],[2]⟩],Eg,4,0,3⟩) κ (Cf.stop (r:=⟨2,0,0,2,0⟩) (m1:=⟨[⟨0,5,[],[]⟩],Eg,4,0,4⟩) κ))⟩)
def Iz {v n:Int}:ED EX (K7 v) n Xr:=
 .inr (.inr ⟨rfl,Cf.stop (r:=EE 0) (m1:=⟨[],Eg,4,0,5⟩) κ⟩)
def Wy:CD:=⟨0,0,0,0,0⟩
def Wd (g:Int) (m0 m1:AV) (l0 l1:List Bi) (r0 r1:List CD) (b0 b1 e0 e1:List Int) (n:Int):A3:=⟨⟨[g],[]⟩,5,[m0,m1],[0,0],[l0,l1],[r0,r1],[b0,b1],[e0,e1],n⟩
def Ph:A3:=Wd 0 AI AI [Pi] [Pi] [] [] [] [] [] [] 0
def Wz:A3:=Wd 0 (K7 1) AI [] [Pi] [] [] [0] [] [] [] 1
def Xs:A3:=Wd 1 AI AI [] [Pi] [Wy] [] [0] [] [1] [] 2
def Xt:A3:=Wd 1 AI (K7 2) [] [] [Wy] [] [0] [2] [1] [] 3
def Ix:A3:=Wd 2 AI AI [] [] [Wy] [Wy] [0] [2] [1] [3] 4
def Xu:A3:=Wd 0 (K7 1) (K7 1) [] [] [] [] [0] [1] [] [] 2
def Xv:A3:=Wd 1 AI (K7 1) [] [] [Wy] [] [0] [1] [2] [] 3
def Iy:A3:=Wd 1 AI AI [] [] [Wy] [Wy] [0] [1] [2] [3] 4
def RH:Lx ⟨[0],[]⟩ 5 Jb=Ph:=rfl
def Xq:Dg EX Ph 0 Wz:=⟨AI,0,Xa,_,rfl,rfl,.inr ⟨rfl,Pi,[],rfl,K8,rfl⟩,.inr (.inr ⟨rfl,⟨[0],[]⟩,0,K7 1,rfl,N8,rfl⟩)⟩
def YG:Dg EX Wz 0 Xs:=⟨K7 1,0,K7 1,_,rfl,rfl,.inl ⟨by simp [K7],rfl,rfl⟩,.inr (.inr ⟨rfl,⟨[1],[]⟩,1,Xr,rfl,Iz,rfl⟩)⟩
def YH:Dg EX Xs 1 Xt:=⟨AI,0,Xa,_,rfl,rfl,.inr ⟨rfl,Pi,[],rfl,K8,rfl⟩,.inr (.inr ⟨rfl,⟨[1],[]⟩,1,K7 2,rfl,Tn,rfl⟩)⟩
def YI:Dg EX Xt 1 Ix:=⟨K7 2,0,K7 2,_,rfl,rfl,.inl ⟨by simp [K7],rfl,rfl⟩,.inr (.inr ⟨rfl,⟨[2],[]⟩,2,Xr,rfl,Iz,rfl⟩)⟩
def Xw:Dg EX Wz 1 Xu:=⟨AI,0,Xa,_,rfl,rfl,.inr ⟨rfl,Pi,[],rfl,K8,rfl⟩,.inr (.inr ⟨rfl,⟨[0],[]⟩,0,K7 1,rfl,N8,rfl⟩)⟩
def Xx:Dg EX Xu 0 Xv:=⟨K7 1,0,K7 1,_,rfl,rfl,.inl ⟨by simp [K7],rfl,rfl⟩,.inr (.inr ⟨rfl,⟨[1],[]⟩,1,Xr,rfl,Iz,rfl⟩)⟩
def Xy:Dg EX Xv 1 Iy:=⟨K7 1,0,K7 1,_,rfl,rfl,.inl ⟨by simp [K7],rfl,rfl⟩,.inr (.inr ⟨rfl,⟨[1],[]⟩,1,Xr,rfl,Iz,rfl⟩)⟩
def X1 {j o v:A3} {a b d e:Int} (A:Dg c j a.toNat s1) (B:Dg c s1 b.toNat s2) (C:Dg c s2 d.toNat o) (D:Dg c o e.toNat v) (p:Cg j a=0/\j.U<65536) (q:Cg s1 b=0/\s1.U<65536) (r:Cg s2 d=0/\s2.U<65536) (u:Cg o e=0/\o.U<65536)
  (g:Gj c j ([a,b,d,e].take i) s') (f:i=[a,b,d,e].length\/∃ t,[a,b,d,e][i]?=ς t/\(Cg s' t≠0\/65536<=s'.U)):i=4/\s'=v:=by
 have w:Gj c j [] j:=.nil;have x:Gj c j [a] s1:=.snoc (l:=[]) w p.1 p.2 A;have y:Gj c j [a,b] s2:=.snoc (l:=[a]) x q.1 q.2 B;have z:Gj c j [a,b,d] o:=.snoc (l:=[a,b]) y r.1 r.2 C;have E:Gj c j [a,b,d,e] v:=.snoc (l:=[a,b,d]) z u.1 u.2 D;have no:∀ (s:A3) (t:Int),Cg s t=0/\s.U<65536->¬(Cg s t≠0\/65536<=s.U):=λs t h k=>by
  rcases k with k|k
  .exact k h.1
  .have:=h.2;omega
 match i,g,f with
 | 0,g,f=>
  obtain rfl:=g.det w;rcases f with f|⟨t,m,n⟩
  .cases f
  .cases m;exact absurd n (no _ _ p)
 | 1,g,f=>
  obtain rfl:=g.det x;rcases f with f|⟨t,m,n⟩
  .cases f
  .cases m;exact absurd n (no _ _ q)
 | 2,g,f=>
  obtain rfl:=g.det y;rcases f with f|⟨t,m,n⟩
  .cases f
  .cases m;exact absurd n (no _ _ r)
 | 3,g,f=>
  obtain rfl:=g.det z;rcases f with f|⟨t,m,n⟩
  .cases f
  .cases m;exact absurd n (no _ _ u)
 | 4,g,f=>exact ⟨rfl,g.det E⟩
 | i+5,g,f=>
  rcases f with f|⟨t,m,n⟩
  .simp at f
  .simp at m
def VY (b:Gj EX Ph (([0,0,1,1]:List Int).take i) s') (a:i=([0,0,1,1]:List Int).length\/∃ t,([0,0,1,1]:List Int)[i]?=ς t/\(Cg s' t≠0\/65536<=s'.U)):i=4/\s'=Ix:=
 X1 Xq YG YH YI ⟨rfl,δ⟩ ⟨rfl,δ⟩ ⟨rfl,δ⟩ ⟨rfl,δ⟩ b a
def VZ (b:Gj EX Ph (([0,1,0,1]:List Int).take i) s') (a:i=([0,1,0,1]:List Int).length\/∃ t,([0,1,0,1]:List Int)[i]?=ς t/\(Cg s' t≠0\/65536<=s'.U)):i=4/\s'=Iy:=
 X1 Xq Xw Xx Xy ⟨rfl,δ⟩ ⟨rfl,δ⟩ ⟨rfl,δ⟩ ⟨rfl,δ⟩ b a
def Pj:Fo EX Ph:=by
 rw [<-RH];refine TS OA (Ik.1 RG) δ (λl a x b=>?_) (λl a=>?_)
 .simp only [Jb,ϰ,List.not_mem_nil,or_false,or_self] at a
  subst a;simp only [ϰ,List.not_mem_nil,or_false] at b;subst b;exact N7
 .simp only [Jb,ϰ,List.not_mem_nil,or_false,or_self] at a
  subst a;simp
def To:Bu EX Ph:=Pj.valT δ δ δ (λt b e a d=>by
 have c:b=[]:=by
  match t,a with
  | 0,a=>cases a;rfl
  | 1,a=>cases a;rfl
  | t+2,a=>cases a
 subst c;rfl)
def Wa (T:A3) (K:Int) (v:ϒ) (w:Ϣ):Prop:=∃ (g o gc:Nat) (ma:Option Addr) (mc:Nat) (ra:Option Addr) (rc:Nat) (na:Option Addr) (nc:Nat) (ca:Option Addr) (cc:Nat) (oa:Option Addr) (oc:Nat) (ba:Option Addr) (bc:Nat) (ea:Option Addr) (ec:Nat),v=.tuple #[.agg #[σ (ς (π g o)) T.M.G gc,σ ma T.M.N mc,ι T.Y,σ ra T.R rc,σ na T.N nc,σ ca T.A cc,σ oa T.results oc,σ ba T.Z bc,σ ea T.P ec,ι T.U],ι 4,ι 0]/\w.cell? (π g o)=ς (ι K)
structure Nk (sl:Nat->Option Tmp) (T:A3) (K:Int) (sch:List Int) (A:Ϣ) (a0:Act) (done:List Nat) (a:Act) (w:Ϣ) (f:Nat->ϒ):Prop where
 act:a=GD a0 sl f done
 nd:done.Nodup
 sub:∀ i∈done,i∈[0,2,3,4,5,6,7,8,9,10,11]
 below:ϐ A A w
 c0:0∈done->3∉done->∃ fa fc qa qc,f 0=.agg #[σ fa EX.H fc,ι 1,σ qa EX.funcs qc]/\BF w w (f 0) EX
 c2:2∈done->3∉done->∃ la lc,f 2=σ la 4 lc/\AE w w 1 Aj (f 2) sch
 c3:3∈done->Wa T K (f 3) w
 c4:4∈done->f 4=f 3/\3∈done
 c5:5∈done->3∈done/\∃ x y,f 3=.tuple #[f 5,x,y]
 c6:6∈done->f 6=ι 4
 c7:7∈done->f 7=ι 0
 c8:8∈done->∃ bo,f 8=.pointer (ς (π bo 0))/\(A:Nat)<=bo/\(9∉done->w.heap[bo]?=ς (χ Bz 34 (0,0)))/\(9∈done->∃ vs,f 5=.agg vs/\w.heap[bo]?=ς (χ vs 34 (0,0)))
 c10:10∈done->f 10=ι 4
 c11:11∈done->f 11=ι 0
 d9:9∈done->5∈done
 d8:9∈done->8∈done
def Nk.at_ (h:Nk sl T K sch A a0 done a w f) (c:i∈done) (b:sl i=ς d) (hs:d<a0.tmps.size) (g:∀ j∈[0,2,3,4,5,6,7,8,9,10,11],sl j=ς d->j=i):a.tmps[d]?.getD undef=f i:=by
 rw [h.act,RF b hs c (λj e=>g j (h.sub j e))];rfl
def Nk.other (h:Nk sl T K sch A a0 done a w f) (c:∀ j∈[0,2,3,4,5,6,7,8,9,10,11],sl j≠ς d) (e:a0.tmps[d]?.getD undef=v):a.tmps[d]?.getD undef=v:=by
 rw [h.act,K3 a0 sl f d done (λj b=>c j (h.sub j b))];exact e
def Nk.start (sl:Nat->Option Tmp) (T:A3) (K:Int) (sch:List Int) (A:Ϣ) (a0:Act):Nk sl T K sch A a0 [] a0 A (λ_=>undef):=
 ⟨rfl,List.nodup_nil,ψ,Below.refl _ _,ψ,ψ,ψ,ψ,ψ,ψ,ψ,ψ,ψ,ψ,ψ,ψ⟩
def VC (f:Nat->ϒ) (i:Nat) (v:ϒ) (j:Nat):ϒ:=if j=i then v else f j
def DM (f:Nat->ϒ) (i:Nat) (v:ϒ):VC f i v i=v:=if_pos rfl
def Tv (h:j≠i):VC f i v j=f j:=if_neg h
def Cl (h:j∈i::done) (a:j≠i):j∈done:=by
 rcases ϰ.1 h with h|h
 .exact absurd h a
 .exact h
def Nk.next {w':Ϣ} (h:Nk sl T K sch A a0 done a w f) (F:i∉done) (P:i∈[0,2,3,4,5,6,7,8,9,10,11]) (v:ϒ) (q:ϐ w w w') (O:i≠9:=by decide)
  (n0:i=0->∃ t u D E,v=.agg #[σ t EX.H u,ι 1,σ D EX.funcs E]/\BF w' w' v EX:=by intro h;cases h)
  (n2:i=2->∃ B C,v=σ B 4 C/\AE w' w' 1 Aj v sch:=by intro h;cases h)
  (n3:i=3->Wa T K v w':=by intro h;cases h) (n4:i=4->v=f 3/\3∈done:=by intro h;cases h) (n5:i=5->3∈done/\∃ x y,f 3=.tuple #[v,x,y]:=by intro h;cases h) (n6:i=6->v=ι 4:=by intro h;cases h) (n7:i=7->v=ι 0:=by intro h;cases h)
  (n8:i=8->∃ m,v=.pointer (ς (π m 0))/\(A:Nat)<=m/\9∉done/\w'.heap[m]?=ς (χ Bz 34 (0,0)):=by intro h;cases h) (n10:i=10->v=ι 4:=by intro h;cases h) (n11:i=11->v=ι 0:=by intro h;cases h):Nk sl T K sch A a0 (i::done) (a.put (sl i) v) w' (VC f i v):=by
 have c:∀ j,j∈done->VC f i v j=f j:=λj b=>Tv (λe=>F (by rw [<-e];exact b));have s:9∈i::done->9∈done:=λb=>Cl b (Ne.symm O);refine ⟨?_,List.nodup_cons.2 ⟨F,h.nd⟩,λj b=>?_,h.below.trans (q.mono h.below.size),λb r=>?_,λb r=>?_,λb=>?_,λb=>?_,λb=>?_,λb=>?_,λb=>?_,λb=>?_,λb=>?_,λb=>?_,λb=>List.mem_cons_of_mem _ (h.d9 (s b)),λb=>List.mem_cons_of_mem _ (h.d8 (s b))⟩
 .show _=(GD a0 sl (VC f i v) done).put (sl i) (VC f i v i)
  rw [DM,IX (l:=done) (g:=f) c,<- h.act]
 .rcases ϰ.1 b with rfl|b
  .exact P
  .exact h.sub j b
 .by_cases e:i=0
  .subst e;rw [DM];exact n0 rfl
  .have b:=Cl b (Ne.symm e)
   obtain ⟨t,u,D,E,n,p⟩:=h.c0 b (λk=>r (List.mem_cons_of_mem _ k));rw [c 0 b];exact ⟨t,u,D,E,n,(p.below q).up q.size⟩
 .by_cases e:i=2
  .subst e;rw [DM];exact n2 rfl
  .have b:=Cl b (Ne.symm e)
   obtain ⟨B,C,n,p⟩:=h.c2 b (λk=>r (List.mem_cons_of_mem _ k));rw [c 2 b];exact ⟨B,C,n,(p.ints q).upI q.size⟩
 .by_cases e:i=3
  .subst e;rw [DM];exact n3 rfl
  .have b:=Cl b (Ne.symm e)
   rw [c 3 b];obtain ⟨g,o,N,R,S,Y,Z,U,V,I,J,W,X,G,H,L,M,n,p⟩:=h.c3 b;exact ⟨g,o,N,R,S,Y,Z,U,V,I,J,W,X,G,H,L,M,n,AB q p⟩
 .by_cases e:i=4
  .subst e
   have d:=n4 rfl;rw [DM,c 3 d.2];exact ⟨d.1,List.mem_cons_of_mem _ d.2⟩
  .have b:=Cl b (Ne.symm e)
   have d:=h.c4 b;rw [c 4 b,c 3 d.2];exact ⟨d.1,List.mem_cons_of_mem _ d.2⟩
 .by_cases e:i=5
  .subst e
   have d:=n5 rfl;rw [DM,c 3 d.1];exact ⟨List.mem_cons_of_mem _ d.1,d.2⟩
  .have b:=Cl b (Ne.symm e)
   have d:=h.c5 b;rw [c 5 b,c 3 d.1];exact ⟨List.mem_cons_of_mem _ d.1,d.2⟩
 .by_cases e:i=6
  .subst e;rw [DM];exact n6 rfl
  .have b:=Cl b (Ne.symm e);rw [c 6 b];exact h.c6 b
 .by_cases e:i=7
  .subst e;rw [DM];exact n7 rfl
  .have b:=Cl b (Ne.symm e);rw [c 7 b];exact h.c7 b
 .by_cases e:i=8
  .subst e
   obtain ⟨m,n,p,r,z⟩:=n8 rfl;rw [DM];exact ⟨m,n,p,λ_=>z,λk=>absurd (s k) r⟩
  .have b:=Cl b (Ne.symm e)
   obtain ⟨m,n,p,r,z⟩:=h.c8 b;rw [c 8 b];refine ⟨m,n,p,λk=>?_,λk=>?_⟩
   .have h5:=r (λQ=>k (List.mem_cons_of_mem _ Q))
    exact (q.block m (La h5)).trans h5
   .obtain ⟨vs,h5,h6⟩:=z (s k)
    rw [c 5 (h.d9 (s k))];exact ⟨vs,h5,(q.block m (La h6)).trans h6⟩
 .by_cases e:i=10
  .subst e;rw [DM];exact n10 rfl
  .have b:=Cl b (Ne.symm e);rw [c 10 b];exact h.c10 b
 .by_cases e:i=11
  .subst e;rw [DM];exact n11 rfl
  .have b:=Cl b (Ne.symm e);rw [c 11 b];exact h.c11 b
def WW {b o:Nat} (h:w.heap[b]?=ς (χ Bz 34 (0,0))) (a:w.cell? (π b o)=ς (ι K)):K=0:=by
 rw [cell_of_row _ _ _ _ _ _ h] at a
 match o,a with
 | 0,a=>cases a
 | 1,a=>cases a
 | 2,a=>cases a;rfl
 | 3,a=>cases a
 | 4,a=>cases a
 | 5,a=>cases a
 | 6,a=>cases a
 | 7,a=>cases a
 | 8,a=>cases a
 | 9,a=>cases a;rfl
 | o+10,a=>cases a
def Nk.store (h:Nk sl T K sch A a0 done a w f) (hK:K≠0) (P:9∉done) (O:8∈done) (N:5∈done) (M:3∈done):∃ (g o z:Nat) (B:Option Addr) (C:Nat) (H:Option Addr) (I:Nat) (D:Option Addr) (E:Nat) (p:Option Addr) (r:Nat) (F:Option Addr) (G:Nat) (m:Option Addr) (n:Nat) (s:Option Addr) (u i:Nat),f 8=.pointer (ς (π i 0))/\f 5=.agg #[σ (ς (π g o)) T.M.G z,σ B T.M.N C,ι T.Y,σ H T.R I,σ D T.N E,σ p T.A r,σ F T.results G,σ m T.Z n,σ s T.P u,ι T.U]/\w.heap[i]?=ς (χ Bz 34 (0,0))/\
  ∀ v,Nk sl T K sch A a0 (9::done) (a.put (sl 9) v) (B7 w i (σ (ς (π g o)) T.M.G z) (σ B T.M.N C) (ι T.Y) (σ H T.R I) (σ D T.N E) (σ p T.A r) (σ F T.results G) (σ m T.Z n) (σ s T.P u) (ι T.U)) (VC f 9 v):=by
 obtain ⟨g,o,z,B,C,H,I,D,E,p,r,F,G,m,n,s,u,R,W⟩:=h.c3 M;obtain ⟨-,x,y,S⟩:=h.c5 N;obtain ⟨i,U,Z,L,-⟩:=h.c8 O;have L:=L P;rw [R] at S;have Q:f 5=.agg #[σ (ς (π g o)) T.M.G z,σ B T.M.N C,ι T.Y,σ H T.R I,σ D T.N E,σ p T.A r,σ F T.results G,σ m T.Z n,σ s T.P u,ι T.U]:=by
  have:=(Value.tuple.inj S)
  have:=congrArg (λq:Array ϒ=>q[0]?) this;simpa using this.symm
 refine ⟨g,o,z,B,C,H,I,D,E,p,r,F,G,m,n,s,u,i,U,Q,L,λv=>?_⟩;have d:∀ j,j∈done->VC f 9 v j=f j:=λj c=>Tv (λe=>P (by rw [<-e];exact c));have V:AT (λt=>t=1) (λb=>if b=i then 1 else 0) (λb=>if b=i then 1 else 0) w (B7 w i (σ (ς (π g o)) T.M.G z) (σ B T.M.N C) (ι T.Y) (σ H T.R I) (σ D T.N E) (σ p T.A r) (σ F T.results G) (σ m T.Z n) (σ s T.P u) (ι T.U)):=D7 (if_pos rfl) ω;have Y:=CB L (σ (ς (π g o)) T.M.G z) (σ B T.M.N C) (ι T.Y) (σ H T.R I) (σ D T.N E) (σ p T.A r) (σ F T.results G) (σ m T.Z n) (σ s T.P u) (ι T.U);have X:g≠i:=λe=>hK (WW L (by rw [<-e];exact W));refine ⟨?_,List.nodup_cons.2 ⟨P,h.nd⟩,λj c=>?_,h.below.trans (V.below (λb hb=>if_neg ω) h.below.size),λ_ k=>absurd (List.mem_cons_of_mem _ M) k,λ_ k=>absurd (List.mem_cons_of_mem _ M) k,λ_=>?_,λc=>?_,λc=>?_,λc=>?_,λc=>?_,λc=>?_,λc=>?_,λc=>?_,λ_=>List.mem_cons_of_mem _ N,λ_=>List.mem_cons_of_mem _ O⟩
 .show _=(GD a0 sl (VC f 9 v) done).put (sl 9) (VC f 9 v 9)
  rw [DM,IX (l:=done) (g:=f) d,<- h.act]
 .rcases ϰ.1 c with rfl|c
  .decide
  .exact h.sub j c
 .rw [d 3 M]
  exact ⟨g,o,z,B,C,H,I,D,E,p,r,F,G,m,n,s,u,R,V.cell W (by show ¬(if g=i then 1 else 0)=1;rw [if_neg X];decide)⟩
 .have c:=Cl c δ
  have J:=h.c4 c;rw [d 4 c,d 3 J.2];exact ⟨J.1,List.mem_cons_of_mem _ J.2⟩
 .have c:=Cl c δ
  have J:=h.c5 c;rw [d 5 c,d 3 J.1];exact ⟨List.mem_cons_of_mem _ J.1,J.2⟩
 .have c:=Cl c δ;rw [d 6 c];exact h.c6 c
 .have c:=Cl c δ;rw [d 7 c];exact h.c7 c
 .rw [d 8 O]
  refine ⟨i,U,Z,λk=>absurd (List.mem_cons_self ..) k,λ_=>⟨_,?_,Y⟩⟩;rw [d 5 N];exact Q
 .have c:=Cl c δ;rw [d 10 c];exact h.c10 c
 .have c:=Cl c δ;rw [d 11 c];exact h.c11 c
def Nk.full (h:Nk sl T K sch A a0 done a w f) (b:∀ i∈[0,2,3,4,5,6,7,8,9,10,11],i∈done) (e:∀ i∈[0,2,3,4,5,6,7,8,9,10,11],∀ j∈[0,2,3,4,5,6,7,8,9,10,11],∀ d,sl i=ς d->sl j=ς d->i=j) :
  a=GD a0 sl f [11,10,9,8,7,6,5,4,3,2,0]/\ϐ A A w/\∃ (g o t:Nat) (u:Option Addr) (v:Nat) (E:Option Addr) (F:Nat) (z:Option Addr) (B:Nat) (n:Option Addr) (p:Nat) (C:Option Addr) (D:Nat) (k:Option Addr) (l:Nat) (r:Option Addr) (s m:Nat),f 8=.pointer (ς (π m 0))/\f 10=ι 4/\f 11=ι 0/\w.heap[m]?=ς (χ #[σ (ς (π g o)) T.M.G t,σ u T.M.N v,ι T.Y,σ E T.R F,σ z T.N B,σ n T.A p,σ C T.results D,σ k T.Z l,σ r T.P s,ι T.U] 34 (0,0))/\w.cell? (π g o)=ς (ι K):=by
 refine ⟨?_,h.below,?_⟩
 .rw [h.act]
  exact R8 h.nd δ (λi c=>by have:=h.sub i c;simp only [ϰ,List.mem_nil_iff,or_false] at this ⊢;omega) (λi c=>b i (by simp only [ϰ,List.mem_nil_iff,or_false] at c ⊢;omega)) (λi c j M=>e i (by simp only [ϰ,List.mem_nil_iff,or_false] at c ⊢;omega) j (by simp only [ϰ,List.mem_nil_iff,or_false] at M ⊢;omega))
 .obtain ⟨g,o,t,u,v,E,F,z,B,n,p,C,D,k,l,r,s,e3,hc⟩:=h.c3 (b 3 δ)
  obtain ⟨-,x,y,H⟩:=h.c5 (b 5 δ);obtain ⟨m,L,-,-,G⟩:=h.c8 (b 8 δ);obtain ⟨N,I,G⟩:=G (b 9 δ);rw [e3] at H;have J:f 5=.agg #[σ (ς (π g o)) T.M.G t,σ u T.M.N v,ι T.Y,σ E T.R F,σ z T.N B,σ n T.A p,σ C T.results D,σ k T.Z l,σ r T.P s,ι T.U]:=by
   have:=(Value.tuple.inj H)
   have:=congrArg (λq:Array ϒ=>q[0]?) this;simpa using this.symm
  rw [J] at I;cases I;exact ⟨g,o,t,u,v,E,F,z,B,n,p,C,D,k,l,r,s,m,L,h.c10 (b 10 δ),h.c11 (b 11 δ),G,hc⟩
def He (l:List Cd):List ϒ:=l.flatMap (λx=>[ι x.op,ι x.a])
def K6:∀ {l:List Cd} {i:Nat} {x:Cd},l[i]?=ς x->(He l)[i*2]?=ς (ι x.op)/\(He l)[i*2+1]?=ς (ι x.a)
 | [],_,_,h=>by simp at h
 | y::l,0,x,h=>by simp at h;subst h;simp [He]
 | y::l,i+1,x,h=>by
  obtain ⟨a,b⟩:=K6 (l:=l) (i:=i) (x:=x) (by simpa using h);have e:He (y::l)=[ι y.op,ι y.a]++He l:=rfl;rw [e];refine ⟨?_,?_⟩
  .rw [show (i+1)*2=i*2+1+1 by omega];simpa using a
  .rw [show (i+1)*2+1=(i*2+1)+1+1 by omega];simpa using b
def Ta (w:Ϣ) (e:Ending) (w':Ϣ):Prop:=∃ (fa qa:Option Addr) (fc qc:Nat),e=.returned (.agg #[σ fa EX.H fc,ι 1,σ qa EX.funcs qc])/\BF w' w' (.agg #[σ fa EX.H fc,ι 1,σ qa EX.funcs qc]) EX/\ϐ w w w'
def Jc (w:Ϣ):Calls prog 33 #[] w (Ta w):=by
 obtain ⟨W,a⟩:=ε (((w.alloc (χ #[ν,ι 1,σ (ς (π (w+1+1) 0)) 1 1] 25)).alloc (χ #[ι 13,ι 0,ι 4,ι 0,ι 1,ι 1,ι 15,ι 0,ι 5,ι 0,ι 10,ι 0] 124)).alloc (χ #[.string ⟨#[97,100,100]⟩,ι 0,ι 0,.bool false,σ (ς (π (w+1) 0)) 6 6] 93));obtain ⟨p,h,q,r,s⟩:=Λ5 (bl3 a) (sz3 a) (ro31 a) (ro32 a) (ro33 a);have t:=@Lh (BF W W (.agg #[ν,ι 1,σ (ς (π (w+1+1) 0)) 1 1]) EX) (by
  refine ⟨_,_,rfl,⟨none,0,rfl,by simp [EX],by simp [EX],ω,.inl rfl⟩,⟨_,1,rfl,by simp [EX],by simp [EX],ω,.inr ⟨_,0,rfl,by have:=h.o;omega,λi x c=>?_⟩⟩,by simp [EX,in64]⟩;have b:∀ (j:Nat) v,(#[.string ⟨#[97,100,100]⟩,ι 0,ι 0,.bool false,σ (ς (π (w+1) 0)) 6 6]:Array ϒ)[j]?=ς v->W.cell? (π (w+1+1) j)=ς v:=λj v f=>by rw [cell_of_row _ _ _ _ _ _ s.o];exact f
  have g:∀ (j:Nat) v,(#[ι 13,ι 0,ι 4,ι 0,ι 1,ι 1,ι 15,ι 0,ι 5,ι 0,ι 10,ι 0]:Array ϒ)[j]?=ς v->W.cell? (π (w+1) j)=ς v:=λj v f=>by rw [cell_of_row _ _ _ _ _ _ r.o];exact f
  match i,c with
  | 0,c=>
   obtain rfl:x=SD:=by simpa [EX] using c.symm
   refine ⟨b 0 _ rfl,b 1 _ rfl,b 2 _ rfl,b 3 _ rfl,⟨_,b 4 _ rfl,⟨_,6,rfl,by simp [SD],by simp [SD],ω,.inr ⟨_,0,rfl,by have:=h.o;omega,λk y m=>?_⟩⟩⟩,δ,by simp [SD,in64],by simp [SD,in64]⟩;obtain ⟨n,o⟩:=K6 m;have e:He SD.code=(#[ι 13,ι 0,ι 4,ι 0,ι 1,ι 1,ι 15,ι 0,ι 5,ι 0,ι 10,ι 0]:Array ϒ).toList:=rfl;rw [e] at n o;rw [Nat.zero_add];refine ⟨g _ _ (by simpa using n),g _ _ (by simpa using o),?_⟩;have l:=Lm m;simp only [SD,ϰ,List.not_mem_nil,or_false] at l;rcases l with rfl|rfl|rfl|rfl|rfl|rfl<;>simp [in64]
  | i+1,c=>simp [EX] at c)
 have u:Hid (Ta w (.returned (.agg #[ν,ι 1,σ (ς (π (w+1+1) 0)) 1 1])) W):=Lh ⟨none,_,0,1,rfl,t.o,p.o⟩;have d:=Ω3 q.o;go_enter func33,ntmps33;go_wp2_with fail;rw [<-a];exact ϖ (v:=.agg #[ν,ι 1,σ (ς (π (w+1+1) 0)) 1 1]) (by simp [results,results33,go_sem,d.1,d.2.1,d.2.2]) rfl u.o
def awS (q x i:Nat):Option Tmp:=if i=0 then ς q else if i=2 then ς (q+2) else if i=3 then ς (q+3) else if i=4 then ς (q - 1) else if i=5 then ς (q+4) else if i=6 then ς (q+5) else if i=7 then ς (q+6) else if i=8 then ς x else if i=10 then ς (x+1) else if i=11 then ς (x+2) else none
def MR (w:Ϣ) (a b c d:Int) (h:in64 a/\in64 b/\in64 c/\in64 d):AE (w.alloc (χ #[ι a,ι b,ι c,ι d] 3)).heap.size (w.alloc (χ #[ι a,ι b,ι c,ι d] 3)) 1 Aj (σ (ς (π w 0)) 4 4) [a,b,c,d]:=by
 refine ⟨_,4,rfl,ψ,ψ,ω,.inr ⟨_,0,rfl,ψ,λi x e=>?_⟩⟩;have f:∀ (j:Nat) v,(#[ι a,ι b,ι c,ι d]:Array ϒ)[j]?=ς v->(w.alloc (χ #[ι a,ι b,ι c,ι d] 3)).cell? (π w j)=ς v:=λj v g=>(B6 w _ _ j).trans g;rw [Nat.zero_add,Nat.mul_one]
 match i,e with
 | 0,e=>cases e;exact ⟨f 0 _ rfl,h.1⟩
 | 1,e=>cases e;exact ⟨f 1 _ rfl,h.2.1⟩
 | 2,e=>cases e;exact ⟨f 2 _ rfl,h.2.2.1⟩
 | 3,e=>cases e;exact ⟨f 3 _ rfl,h.2.2.2⟩
 | i+4,e=>cases e
def VX {B:Nat} {c d e:Nat} (j:w.heap[c]?=ς (χ #[.string ⟨#[97,100,100]⟩,ν] 80 (0,0))) (k:w.heap[d]?=ς (χ #[.string ⟨#[97,100,100]⟩,ν] 80 (0,0))) (g:w.heap[e]?=ς (χ #[σ (ς (π c 0)) 1 1,σ (ς (π d 0)) 1 1] 54 (0,0))) (m:c<B) (n:d<B) (o:e<B):AE B w 1 (Bg 2 (DA B) B) (σ (ς (π e 0)) 2 2) Jb:=by
 have f:∀ b,b<B->w.heap[b]?=ς (χ #[.string ⟨#[97,100,100]⟩,ν] 80 (0,0))->AE B w 2 (DA B) (σ (ς (π b 0)) 1 1) [Pi]:=λb l h=>by
  refine ⟨_,1,rfl,ψ,ψ,ω,.inr ⟨_,0,rfl,l,λi x a=>?_⟩⟩
  match i,a with
  | 0,a=>cases a;exact ⟨Cr h rfl,⟨ν,Cr h rfl,none,0,rfl,by simp [Pi],by simp [Pi],ω,.inl rfl⟩,δ⟩
  | i+1,a=>cases a
 refine ⟨_,2,rfl,by simp [Jb],by simp [Jb],ω,.inr ⟨_,0,rfl,o,λi x a=>?_⟩⟩
 match i,a with
 | 0,a=>cases a;exact ⟨_,Cr g rfl,f c m j⟩
 | 1,a=>cases a;exact ⟨_,Cr g rfl,f d n k⟩
 | i+2,a=>cases a
def aw_w {a:List (Nat×Oper)} {p:Nat×Oper} (d:∀ q∈a,waits p q=true->q.1∈done) (j:Nat) (hl:(Cp p.2).contains j=true) (b:j∈a.map (·.1):=by simp) (c:p.1≠j:=by simp):j∈done:=by
 obtain ⟨y,e,rfl⟩:=List.mem_map.1 b;exact d y e (by unfold waits;rw [hl];simpa using c)
def aw_region {o0 o2 X o4 o5 o6 o7 o8 o9 n r:Oper} {q x:Nat} {u v:Int} {S:Ϣ->Prop} {Q:Exit->Act->Ϣ->Prop} {sv:ϒ} (I:Hid (s=Ph)) (cF:q=24/\x=4/\T=Ix/\K=2/\u=0/\v=1\/q=32/\x=7/\T=Iy/\K=1/\u=1/\v=0)
  (he:[(o0.op,o0.dst),(o2.op,o2.dst),(X.op,X.dst),(o4.op,o4.dst),(o5.op,o5.dst),(o6.op,o6.dst),(o7.op,o7.dst),(o8.op,o8.dst),(o9.op,o9.dst),(n.op,n.dst),(r.op,r.dst)]=[(.call { callee:=.value (.func 33),args:=#[],argTypes:=#[] },ς q),(.buildSlice 22 4 #[(0,.const (ι 0)),(1,.const (ι u)),(2,.const (ι v)),(3,.const (ι 1))],ς (q+2)),(.call { callee:=.value (.func 34),args:=#[.tmp q,.tmp (q+1),.tmp (q+2)],argTypes:=#[25,34,22] },ς (q+3)),(.move (.tmp (q+3)),ς (q - 1)),(.extract (.tmp (q - 1)) 0,ς (q+4)),(.extract (.tmp (q - 1)) 1,ς (q+5)),(.extract (.tmp (q - 1)) 2,ς (q+6)),(.alloc 34,ς x),(.store 34 (.tmp x) (.tmp (q+4)),none),(.assign (.tmp (q+5)),ς (x+1)),(.assign (.tmp (q+6)),ς (x+2))])
  (c:[(Cp X).contains 0,(Cp X).contains 2,(Cp o4).contains 3,(Cp o5).contains 4,(Cp o6).contains 4,(Cp o7).contains 4,(Cp o9).contains 8,(Cp o9).contains 5,(Cp o9).contains 3,(Cp n).contains 6,(Cp r).contains 7]=ϱ 11 true)
  (cG:a0.tmps.size=87) (cE:a0.tmps[q+1]?.getD undef=sv) (hS:∀ V,ϐ A A V->S V/\C8 V/\CJ V.heap.size V sv s)
  (w:∀ (f:Nat->ϒ) (V:Ϣ) (g o G:Nat) (J:Option Addr) (L:Nat) (R:Option Addr) (U:Nat) (M:Option Addr) (N:Nat) (C:Option Addr) (D:Nat) (O:Option Addr) (P:Nat) (z:Option Addr) (B:Nat) (E:Option Addr) (F Z:Nat),ϐ A A V->V.heap[Z]?=ς (χ #[σ (ς (π g o)) T.M.G G,σ J T.M.N L,ι T.Y,σ R T.R U,σ M T.N N,σ C T.A D,σ O T.results P,σ z T.Z B,σ E T.P F,ι T.U] 34 (0,0))->V.cell? (π g o)=ς (ι K)->Q .normal (((((((((((a0.put (ς q) (f 0)).put (ς (q+2)) (f 2)).put (ς (q+3)) (f 3)).put (ς (q - 1)) (f 4)).put (ς (q+4)) (f 5)).put (ς (q+5)) (f 6)).put (ς (q+6)) (f 7)).put (ς x) (.pointer (ς (π Z 0)))).put none (f 9)).put (ς (x+1)) (ι 4)).put (ς (x+2)) (ι 0)) V) :
  Dm prog 12 Q S false [(0,o0),(2,o2),(3,X),(4,o4),(5,o5),(6,o6),(7,o7),(8,o8),(9,o9),(10,n),(11,r)] a0 A:=by
 simp only [List.cons.injEq,Prod.mk.injEq,and_true,ϱ] at he c;obtain ⟨⟨e0,d0⟩,⟨e2,d2⟩,⟨e3,d3⟩,⟨e4,d4⟩,⟨e5,d5⟩,⟨e6,d6⟩,⟨e7,d7⟩,⟨e8,d8⟩,⟨e9,d9⟩,⟨bE,bC⟩,bF,bD⟩:=he;obtain ⟨aT,aU,p4,p5,p6,p7,bZ,bY,bX,bV,bW⟩:=c;obtain ⟨l,aJ,aV,t⟩:Hid _/\Hid _/\Hid _/\Hid _:=⟨Lh hS,Lh w,Lh cE,Lh cG⟩
 clear hS w cE cG;refine OY _ (λdone a V=>∃ f,Nk (awS q x) T K [0,u,v,1] A a0 done a V f) ⟨_,Nk.start ..⟩ ?_ ?_ ?_
 .show List.Nodup [0,2,3,4,5,6,7,8,9,10,11]
  decide
 .rintro p W done a V c hw ⟨f,hI⟩
  have b:=Lh hI;have j:=Lh hI.below;have d:=Lh hw;clear hw hI;rcases cF with ⟨rfl,rfl,rfl,rfl,rfl,rfl⟩|⟨rfl,rfl,rfl,rfl,rfl,rfl⟩
  all_goals
   simp only [Nat.reduceAdd,Nat.reduceSub] at e2 e3 e4 e5 e6 e7 e9 bE bF d2 d3 d4 d5 d6 d7 bC bD;simp only [ϰ,List.mem_nil_iff,or_false] at W;rcases W with rfl|rfl|rfl|rfl|rfl|rfl|rfl|rfl|rfl|rfl|rfl
   .go_simp
    refine (Jc V).mono ?_;rintro e w' ⟨fa,qa,fc,qc,rfl,hC,H⟩;exact ⟨(l.o w' (j.o.th H)).1,_,b.o.next (i:=0) c δ _ H (n0:=λ_=>⟨fa,fc,qa,qc,rfl,hC⟩)⟩
   .go_simp
    exact ⟨(l.o _ (j.o.th (AA _ _))).1,_,b.o.next (i:=2) c δ _ (AA _ _) (n2:=λ_=>⟨_,_,rfl,MR V 0 _ _ 1 (by unfold in64;omega)⟩)⟩
   .obtain ⟨fa,fc,qa,qc,aQ,hC⟩:=b.o.c0 (aw_w d.o 0 aT) c
    obtain ⟨la,lc,aR,aM⟩:=b.o.c2 (aw_w d.o 2 aU) c;have bH:=b.o.at_ (aw_w d.o 0 aT) (i:=0) rfl (by rw [t.o];decide) δ;have bJ:=b.o.at_ (aw_w d.o 2 aU) (i:=2) rfl (by rw [t.o];decide) δ;have bG:=b.o.other δ aV.o;simp only [Nat.reduceAdd] at bG;rw [aQ] at bH hC;rw [aR] at bJ aM;have aW:=Lh hC;have aX:=Lh aM;clear aQ aR hC aM;go_simp;refine (PJ EX _ _ _ s _ V ((l.o V j.o).2.1) N9 aW.o (l.o V j.o).2.2 aX.o (λ_=>by rw [I.o];exact Pj)).mono ?_;rintro e w' ⟨H,⟨hn,-⟩|⟨-,h4,-⟩|⟨-,-,i,s',v,W,hi,rfl,hV⟩⟩
    .exact absurd (by rw [I.o];exact To) hn
    .exact absurd h4 ψ
    .rw [I.o] at W
     first|obtain ⟨rfl,rfl⟩:=VY W hi|obtain ⟨rfl,rfl⟩:=VZ W hi
     obtain ⟨cD,bN,bP,bQ,cA,cB,bR,bS,bA,bB,bT,bU,aY,aZ,bI,bM,rfl⟩:=hV.open_;obtain ⟨gb,go_,rfl,-,bO,-⟩:=hV.parts.1.nth (k:=0) rfl;exact ⟨(l.o w' (j.o.th H)).1,_,b.o.next (i:=3) c δ _ H (n3:=λ_=>⟨gb,go_,bN,bP,bQ,cA,cB,bR,bS,bA,bB,bT,bU,aY,aZ,bI,bM,rfl,by simpa using bO⟩)⟩
   .have H3:=Lh (aw_w d.o 3 p4)
    have cC:=b.o.at_ H3.o (i:=3) rfl (by rw [t.o];decide) δ;go_simp;exact ⟨(l.o V j.o).1,_,b.o.next (i:=4) c δ (f 3) Br (n4:=λ_=>⟨rfl,H3.o⟩)⟩
   .obtain ⟨aE,aB⟩:=b.o.c4 (aw_w d.o 4 p5)
    obtain ⟨g,o,G,J,L,R,U,M,N,C,D,O,P,z,B,E,F,m,-⟩:=b.o.c3 aB;have Y:=b.o.at_ (aw_w d.o 4 p5) (i:=4) rfl (by rw [t.o];decide) δ;rw [aE,m] at Y;have E3:=Lh (And.intro m aB);clear aE aB m;go_simp;exact ⟨(l.o V j.o).1,_,b.o.next (i:=5) c δ _ Br (n5:=λ_=>⟨E3.o.2,_,_,E3.o.1⟩)⟩
   .obtain ⟨aE,aB⟩:=b.o.c4 (aw_w d.o 4 p6)
    obtain ⟨g,o,G,J,L,R,U,M,N,C,D,O,P,z,B,E,F,m,-⟩:=b.o.c3 aB;have Y:=b.o.at_ (aw_w d.o 4 p6) (i:=4) rfl (by rw [t.o];decide) δ;rw [aE,m] at Y;have E3:=Lh (And.intro m aB);clear aE aB m;go_simp;exact ⟨(l.o V j.o).1,_,b.o.next (i:=6) c δ (ι 4) Br (n6:=λ_=>rfl)⟩
   .obtain ⟨aE,aB⟩:=b.o.c4 (aw_w d.o 4 p7)
    obtain ⟨g,o,G,J,L,R,U,M,N,C,D,O,P,z,B,E,F,m,-⟩:=b.o.c3 aB;have Y:=b.o.at_ (aw_w d.o 4 p7) (i:=4) rfl (by rw [t.o];decide) δ;rw [aE,m] at Y;have E3:=Lh (And.intro m aB);clear aE aB m;go_simp;exact ⟨(l.o V j.o).1,_,b.o.next (i:=7) c δ (ι 0) Br (n7:=λ_=>rfl)⟩
   .have h9:9∉done:=λh=>c (b.o.d8 h)
    go_simp;exact ⟨(l.o _ (j.o.th (AA _ _))).1,_,b.o.next (i:=8) c δ _ (AA _ _) (n8:=λ_=>⟨_,rfl,j.o.size,h9,Hn _ _⟩)⟩
   .have h8:=aw_w d.o 8 bZ
    have h5:=aw_w d.o 5 bY;have bL:=b.o.at_ h8 (i:=8) rfl (by rw [t.o];decide) δ;have bK:=b.o.at_ h5 (i:=5) rfl (by rw [t.o];decide) δ;obtain ⟨g,o,G,J,L,R,U,M,N,C,D,O,P,z,B,E,F,Z,aI,aS,aD,aH⟩:=b.o.store δ c h8 h5 (aw_w d.o 3 bX);rw [aI] at bL;rw [aS] at bK;have yy:=Gk aD;have aP:=Lh (aH undef);clear aH aD aI aS h8 h5 c;go_simp;exact ⟨(l.o _ aP.o.below).1,_,aP.o⟩
   .have h6:=aw_w d.o 6 bV
    have es:=b.o.at_ h6 (i:=6) rfl (by rw [t.o];decide) δ;rw [b.o.c6 h6] at es;clear h6;go_simp;exact ⟨(l.o V j.o).1,_,b.o.next (i:=10) c δ (ι 4) Br (n10:=λ_=>rfl)⟩
   .have h6:=aw_w d.o 7 bW
    have es:=b.o.at_ h6 (i:=7) rfl (by rw [t.o];decide) δ;rw [b.o.c7 h6] at es;clear h6;go_simp;exact ⟨(l.o V j.o).1,_,b.o.next (i:=11) c δ (ι 0) Br (n11:=λ_=>rfl)⟩
 .rintro done a V aO ⟨f,hI⟩
  rcases cF with ⟨rfl,rfl,rfl,rfl,rfl,rfl⟩|⟨rfl,rfl,rfl,rfl,rfl,rfl⟩
  all_goals
   obtain ⟨aN,H,g,o,G,J,L,R,U,M,N,C,D,O,P,z,B,E,F,Z,aI,aK,aL,aD,aG⟩:=hI.full (λi hi=>by
    obtain ⟨y,hy,rfl⟩:=List.mem_map.1 (show i∈List.map (·.1) [(0,o0),(2,o2),(3,X),(4,o4),(5,o5),(6,o6),(7,o7),(8,o8),(9,o9),(10,n),(11,r)] from hi);exact aO y hy) δ
   have h:=aJ.o f V g o G J L R U M N C D O P z B E F Z H aD aG;rw [<-aI,<- aK,<- aL] at h;rw [aN];exact h
def Rb (w:Ϣ) (hL:C8 w):Calls prog 7 #[] w (PO true w):=by
 have HL:=Lh hL;obtain ⟨W,F⟩:=ε (((w.alloc (χ #[.string ⟨#[97,100,100]⟩,ν] 80)).alloc (χ #[.string ⟨#[97,100,100]⟩,ν] 80)).alloc (χ #[σ (ς (π w 0)) 1 1,σ (ς (π (w+1) 0)) 1 1] 54));obtain ⟨aY,bM,h0,h1,h2⟩:=Λ5 (bl3 F) (sz3 F) (ro31 F) (ro32 F) (ro33 F);have bG:Hid (∀ V,ϐ W W V->AE V.heap.size V 1 (Bg 2 (DA V.heap.size) V.heap.size) (σ (ς (π (w+1+1) 0)) 2 2) Jb):=Lh (λV b=>by
  have h:=bM.o;have hs:=b.size;exact VX ((b.block _ ω).trans h0.o) ((b.block _ ω).trans h1.o) ((b.block _ ω).trans h2.o) ω ω ω)
 clear hL;go_enter func7,ntmps7;go_upto_region 2 with fail;rw [<-F];clear F;go_wp2_with fail;refine (Jc W).mono ?_;rintro e w1 ⟨fa,qa,fc,qc,rfl,aX,aZ⟩;have bF:=Lh aX;have bC:=Lh aZ;clear aX aZ;obtain ⟨G,aN⟩:=ε (w1.alloc (χ #[ι 0] 3));have aS:=Lh (bl1 aN);have aD:=@Lh (G.cell? (π w1 0)=ς (ι 0)) (by rw [aN,B6];rfl);have aT:=@Lh ((w1:Nat)<G) (Bl aD.o);have aO:=Lh (bC.o.th aS.o);have bH:Hid (Lw G G (.agg #[σ (ς (π w1 0)) 1 1,ν]) ⟨[0],[]⟩):=Lh ⟨_,_,rfl,⟨_,1,rfl,ψ,ψ,ω,.inr ⟨_,0,rfl,aT.o,λi x E=>by
  match i,E with
  | 0,E=>cases E;exact ⟨aD.o,by unfold in64;omega⟩
  | i+1,E=>cases E⟩⟩,⟨none,0,rfl,ψ,ψ,ω,.inl rfl⟩⟩
 go_wp2_with fail;rw [<-aN];clear aN;refine (TO EX ⟨[0],[]⟩ Jb 5 _ _ _ G (HL.o.below (aY.o.th aO.o)) ((bF.o.below aS.o).up aS.o.size) bH.o (bG.o G aO.o) (by unfold in64;omega) ⟨ψ,ψ,ψ,λl hl x E=>by
  simp only [Jb,ϰ,List.not_mem_nil,or_false,or_self] at hl;subst hl;simp only [ϰ,List.not_mem_nil,or_false] at E;subst E;simp [Pi]⟩).mono ?_
 rintro e w2 ⟨H,hN⟩;rcases hN with ⟨bL,-⟩|⟨-,v,rfl,b⟩
 .exact absurd XA bL
 rw [RH] at b;obtain ⟨s,hs⟩:=ε Ph;rw [<-hs] at b;have aV:=Lh hs;clear hs;obtain ⟨o,p,r,t,C,D,u,y,j,k,z,B,d,g,m,n,rfl⟩:=b.open_;have bK:=Lh b;have bD:=Lh ((aY.o.th aO.o).th H);clear b H;obtain ⟨A,hA⟩:=ε (w2.alloc (χ (Bt o p r t C D u y j k z B d g m n s) 34));have HA:=Lh (bl1 hA);have aP:=Lh (ro11 hA);have aU:=Lh (bD.o.th HA.o);obtain ⟨a,H⟩:=ε (w2:Nat);go_upto_region 3 with fail;rw [<-hA,<- H];rw [<-H] at aP;clear hA H;have aM:Hid (∀ V,ϐ A A V->V.cell? (π a 0)=ς (σ o s.M.G p)/\V.cell? (π a 1)=ς (σ r s.M.N t)/\V.cell? (π a 2)=ς (ι s.Y)/\V.cell? (π a 3)=ς (σ C s.R D)/\V.cell? (π a 4)=ς (σ u s.N y)/\V.cell? (π a 5)=ς (σ j s.A k)/\V.cell? (π a 6)=ς (σ z s.results B)/\V.cell? (π a 7)=ς (σ d s.Z g)/\V.cell? (π a 8)=ς (σ m s.P n)/\V.cell? (π a 9)=ς (ι s.U)):=Lh (λV b=>by
  have hr:=(b.block a (La aP.o)).trans aP.o;exact (Gk hr).1)
 have aW:Hid (∀ V,ϐ A A V->C8 V/\CJ V.heap.size V (.agg (Bt o p r t C D u y j k z B d g m n s)) s):=Lh (λV b=>by
  have hb:=HA.o.th b;exact ⟨HL.o.below (aU.o.th b),(bK.o.below hb).ups hb.size (λ_ _ h=>h)⟩)
 obtain ⟨S,T,U,X,Y,Z,x6,x7,x8,x9⟩:=aM.o A Br;have aQ:=@Lh (∀ V,ϐ A.drew.heap.size A.drew V->V.cell? (π a 0)=ς (σ o s.M.G p)/\V.cell? (π a 1)=ς (σ r s.M.N t)/\V.cell? (π a 2)=ς (ι s.Y)/\V.cell? (π a 3)=ς (σ C s.R D)/\V.cell? (π a 4)=ς (σ u s.N y)/\V.cell? (π a 5)=ς (σ j s.A k)/\V.cell? (π a 6)=ς (σ z s.results B)/\V.cell? (π a 7)=ς (σ d s.Z g)/\V.cell? (π a 8)=ς (σ m s.P n)/\V.cell? (π a 9)=ς (ι s.U)) (λV b=>aM.o V ((AG (Below.refl _ A) 1).th b));have aR:=@Lh (∀ V,ϐ A.drew.heap.size A.drew V->C8 V/\CJ V.heap.size V (.agg (Bt o p r t C D u y j k z B d g m n s)) s) (λV b=>aW.o V ((AG (Below.refl _ A) 1).th b));refine Ac (λc=>c.cell? (π a 0)=ς (σ o s.M.G p)/\c.cell? (π a 1)=ς (σ r s.M.N t)/\c.cell? (π a 2)=ς (ι s.Y)/\c.cell? (π a 3)=ς (σ C s.R D)/\c.cell? (π a 4)=ς (σ u s.N y)/\c.cell? (π a 5)=ς (σ j s.A k)/\c.cell? (π a 6)=ς (σ z s.results B)/\c.cell? (π a 7)=ς (σ d s.Z g)/\c.cell? (π a 8)=ς (σ m s.P n)/\c.cell? (π a 9)=ς (ι s.U)) [0,2,3,4,5,6,7,8,9,10,11] false 12 rfl κ κ ⟨S,T,U,X,Y,Z,x6,x7,x8,x9⟩ ?_;refine softA ?_;clear S T U X Y Z x6 x7 x8 x9;refine aw_region (q:=24) (x:=4) aV (.inl ⟨rfl,rfl,rfl,rfl,rfl,rfl⟩) rfl rfl κ rfl (λV b=>⟨aQ.o V b,aR.o V b⟩) ?_;intro f q g1_ o1_ gc1_ ma1_ mc1_ ra1_ rc1_ na1_ nc1_ ca1_ cc1_ oa1_ oc1_ ba1_ bc1_ ea1_ ec1_ bo1_ K J I;have HB1_:=Lh ((AG (Below.refl _ A) 1).th K);have HR1_:=Lh J;have HE1_:=Lh I;clear J I K;obtain ⟨u0,L⟩:=ε (f 0);obtain ⟨u2,M⟩:=ε (f 2);obtain ⟨u3,N⟩:=ε (f 3);obtain ⟨u4,O⟩:=ε (f 4);obtain ⟨u5,P⟩:=ε (f 5);obtain ⟨u6,Q⟩:=ε (f 6);obtain ⟨u7,R⟩:=ε (f 7);rw [<-L,<- M,<- N,<- O,<- P,<- Q,<- R];clear L M N O P Q R;simp only [Ap];have bI:=@Lh (∀ V,ϐ q.drew.heap.size q.drew V->V.cell? (π a 0)=ς (σ o s.M.G p)/\V.cell? (π a 1)=ς (σ r s.M.N t)/\V.cell? (π a 2)=ς (ι s.Y)/\V.cell? (π a 3)=ς (σ C s.R D)/\V.cell? (π a 4)=ς (σ u s.N y)/\V.cell? (π a 5)=ς (σ j s.A k)/\V.cell? (π a 6)=ς (σ z s.results B)/\V.cell? (π a 7)=ς (σ d s.Z g)/\V.cell? (π a 8)=ς (σ m s.P n)/\V.cell? (π a 9)=ς (ι s.U)) (λV b=>aM.o V (HB1_.o.th ((AG (Below.refl _ q) 1).th b)));have bJ:=@Lh (∀ V,ϐ q.drew.heap.size q.drew V->C8 V/\CJ V.heap.size V (.agg (Bt o p r t C D u y j k z B d g m n s)) s) (λV b=>aW.o V (HB1_.o.th ((AG (Below.refl _ q) 1).th b)));obtain ⟨A2,rfl⟩:=ε (q:Ϣ);obtain ⟨S,T,U,X,Y,Z,x6,x7,x8,x9⟩:=aM.o A2 HB1_.o;go_upto_region 4 with fail;refine Ac (λc=>c.cell? (π a 0)=ς (σ o s.M.G p)/\c.cell? (π a 1)=ς (σ r s.M.N t)/\c.cell? (π a 2)=ς (ι s.Y)/\c.cell? (π a 3)=ς (σ C s.R D)/\c.cell? (π a 4)=ς (σ u s.N y)/\c.cell? (π a 5)=ς (σ j s.A k)/\c.cell? (π a 6)=ς (σ z s.results B)/\c.cell? (π a 7)=ς (σ d s.Z g)/\c.cell? (π a 8)=ς (σ m s.P n)/\c.cell? (π a 9)=ς (ι s.U)) [0,2,3,4,5,6,7,8,9,10,11] false 12 rfl κ κ ⟨S,T,U,X,Y,Z,x6,x7,x8,x9⟩ ?_;refine softA ?_;clear S T U X Y Z x6 x7 x8 x9;refine aw_region (q:=32) (x:=7) aV (.inr ⟨rfl,rfl,rfl,rfl,rfl,rfl⟩) rfl rfl κ rfl (λV b=>⟨bI.o V b,bJ.o V b⟩) ?_;intro f q g2_ o2_ gc2_ ma2_ mc2_ ra2_ rc2_ na2_ nc2_ ca2_ cc2_ oa2_ oc2_ ba2_ bc2_ ea2_ ec2_ bo2_ K J I;have HB2_:=Lh ((AG (Below.refl _ A2) 1).th K);have HR2_:=Lh J;have HE2_:=Lh I;clear J I K;obtain ⟨u0,L⟩:=ε (f 0);obtain ⟨u2,M⟩:=ε (f 2);obtain ⟨u3,N⟩:=ε (f 3);obtain ⟨u4,O⟩:=ε (f 4);obtain ⟨u5,P⟩:=ε (f 5);obtain ⟨u6,Q⟩:=ε (f 6);obtain ⟨u7,R⟩:=ε (f 7);rw [<-L,<- M,<- N,<- O,<- P,<- Q,<- R];clear L M N O P Q R;simp only [Ap];have bA:=(HB2_.o.block bo1_ (La HR1_.o)).trans HR1_.o;have bB:=HR2_.o;have k1:=AB HB2_.o HE1_.o;have k2:=HE2_.o;have k3:=Cw bA 0 rfl;have k4:=Cw bB 0 rfl;have bE:=Lh ((aU.o.th HB1_.o).th HB2_.o);clear bA bB;go_wp2;go_ret;exact Gx rfl bE.o
