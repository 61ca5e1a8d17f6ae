import Derived.Test.YtigbfkiddlhhjaaGreatDoorSpl
import Derived.Test.YtigbfkiddlhhjaaGreatDoorSop
import Derived.Test.YtigbfkiddlhhjaaGreatDoorCpc
set_option maxHeartbeats 4000000
set_option maxRecDepth 100000
set_option linter.all false
open Option renaming some→ς
open Bool renaming false→ϝ
open And renaming intro→ϟ
open Go.Value renaming slice→σ
open Go.Obj renaming cells→χ
namespace Go.Proofs.YtigbfkiddlhhjaaGreatDoor
open Go.RowKit Proofs.Tryz
variable {cd:AQ} {cv:Value} {B:Nat} {w0 w w':World} {c:A1}
structure CtxS (cd:AQ) (cv:Value) (B:Nat) (w0 w:World) (c:A1):Prop where
 l0:C8 w0
 b0:(w0:Nat)=B
 bel:Below B w0 w
 code:BF B w cv cd
 low:∀ b,b<B->¬NZ (c b)
def CtxS.go {c':A1} (h:CtxS cd cv B w0 w c) (b:AT NZ c c' w w'):CtxS cd cv B w0 w' c':=by
 have a:B<=w:=by rw [<-h.b0];have:=h.bel.size;omega
 have d:=b.belowN h.low a;exact ⟨h.l0,h.b0,h.bel.trans d,h.code.below d,b.lowN h.low a⟩
def CtxS.laid (h:CtxS cd cv B w0 w c):C8 w:=h.l0.below (by rw [h.b0];exact h.bel)
def CtxS.size (h:CtxS cd cv B w0 w c):B<=w:=by rw [<-h.b0];have:=h.bel.size;omega
def CtxS.grow (h:CtxS cd cv B w0 w c) (a:Below w w w'):CtxS cd cv B w0 w' c:=h.go (AT.ob a Qx)
def PostS (c:A1) (bt:Nat) (s':Tra) (w w':World):Prop:=∃ c',SAt w' c' bt s'/\AT NZ c c' w w'
def BegIs (cd:AQ) (s:Tra) (i bt:Nat) (c:A1) (w:World) (e:Ending) (w':World):Prop:=e=.returned (.tuple #[])/\∃ y,BegS cd s i y/\PostS c bt { s with active:=s.active.set i y } w w'
def sbegin_any (cd:AQ) (G I:Option Addr) (H J B:Nat) (s:Tra) (c:A1) (n i:Nat) (x0:Trx) (x:Bi) (l':List Bi) (w0 w:World) (hX:CtxS cd (.agg (Bc G H I J cd)) B w0 w c) (aS:Bv cd) (hs:AU cd) (h:SAt w c n s) (hx:s.active[i]?=ς x0) (hl:s.A[i]?=ς (x::l')) (hg:AS cd x s.Y=0) :
  Calls prog 73 #[.agg (Bc G H I J cd),.pointer (ς (π n 0)),ι i] w (BegIs cd s i n c w):=by
 obtain ⟨W,M⟩:=ε (w.alloc (χ (Bc G H I J cd) 25));have aO:=Lh (bl1 M);have bX:=Lh (sz1 M);have aI:W.heap[(w:Nat)]?=ς (χ (Bc G H I J cd) 25 (0,0)):=ro11 M;obtain ⟨g0,g1,g2⟩:=Ω3 aI;have HX:=Lh (hX.grow aO.o);have P:=Lh (h.grow aO.o);obtain ⟨R,cc,cK,z,aR,bV⟩:=P.o.viewC hl;obtain ⟨la,lc,rfl⟩:=aR.form;obtain ⟨N,lo,rfl,bU,⟨aT,⟨av,aU,aV⟩,bG⟩⟩:=aR.nth (k:=0) rfl;rw [Nat.zero_mul,Nat.add_zero] at aT aU;obtain ⟨xa,xc,rfl⟩:=aV.form;have u0:=JT.mask W c _ _ aT;have u1:=JT.mask W c _ _ aU;have b6:=z.hd;have y0:=z.el;have b4:W.cell? (π n 4)=ς (ι s.Y):=GStAt.p0 (show GStAt W c _ n (traG s) from P.o) (j:=4) rfl;have bC:Hid (∀ V,Below W W V->Calls prog 105 #[.agg (Bc G H I J cd),.agg #[.string x.proc,σ xa x.args xc],ι s.Y] V (λe w'=>∃ m f g,Cf cd (CF cd x s.Y) m/\e=.returned (.tuple #[.agg #[σ f m.J g,ι m.Q.K,ι m.Q.O,ι m.Q.D,ι m.Q.V,ι m.Q.X,ι m.Y,ι m.C,ι m.I],ι 0])/\CE V (σ f m.J g) m w')):=Lh (λV hV=>by
  have bS:=(JT.mask W c).trans (JT.below hV);have aP:=HX.o.grow hV;refine (ME cd x s.Y _ _ (V:Nat) V aP.laid (Nr _) (aP.code.up aP.size) ⟨_,rfl,aV.ups B5 (by rw [Hk];exact hV.size) bS,bG⟩ aS).mono ?_;rintro e w' (⟨h,_⟩|⟨_,⟨h,_⟩|⟨_,m',fv,h1,h2,h3⟩⟩)
  .exact absurd hs h
  .exact absurd hg h
  .obtain ⟨F,C,K⟩:=h3
   obtain ⟨f,g,rfl⟩:=C.form;exact ⟨m',f,g,h1,h2,F,C,K⟩)
 have i0:=In i;have i2:(i:Int)<(s.A:Int):=ω;have zR:(w:Nat)<W:=Bl g0;have D:=Lh (ϟ hx (ϟ hl (ϟ hg (ϟ hs aS))));have bD:R<W:=z.lt;have bB:Hid (SAt W c n s):=P;have bN:=bX;have bL:=@Lh (n<W) (GStAt.lt (show GStAt W c _ n (traG s) from P.o));have aH:N<W:=Bl u0;clear hX aS hs h hx hl hg aI z aR bV bU aT aU aV bG;go_enter func73,ntmps73;go_upto_region 1 with fail;rw [<-M];clear M;have Z:=Lh (ϟ zR (ϟ zR aH));have bI:=Lh bD
 go_cut [6] (λs6 wx=>∃ (d:Nat) (m:AV) (f:Option Addr) (g:Nat),s6=.pointer (ς (π d 0))/\Hid (Cf cd (CF cd x s.Y) m)/\Hid (CE W (σ f m.J g) m wx/\wx.heap[d]?=ς (χ (AC (σ f m.J g) m) 59 (0,0))/\(W:Nat)<=d))
 case first=>
  refine Ac (λl=>l.cell? (π w 0)=ς (σ G cd.H H)/\l.cell? (π w 1)=ς (ι cd.G)/\l.cell? (π w 2)=ς (σ I cd.funcs J)/\l.cell? (π n 6)=ς (σ (ς (π R 0)) s.A cc)/\l.cell? (π R i)=ς (Value.slice (ς (π N lo)) (x::l').length lc)/\l.cell? (π N lo)=ς (.string x.proc)/\l.cell? (π N (lo+1))=ς (σ xa x.args xc)/\l.cell? (π n 4)=ς (ι s.Y)) [14,15,16,17,18,19,20] true 21 rfl κ κ ⟨g0,g1,g2,b6,y0,u0,u1,b4⟩ ?_;refine softA ?_;have E:=Lh (ϟ g0 (ϟ g1 (ϟ g2 (ϟ b6 (ϟ y0 (ϟ u0 (ϟ u1 b4)))))));clear g0 g1 g2 b6 y0 u0 u1 b4 zR aH bD i2;refine GW [_,_,_] ?_;refine Dv κ κ ?_ ?_
  .go_simp
   refine (bC.o _ (AG Br 1)).mono ?_;rintro e w1 ⟨m,f,g,z,rfl,A⟩;have o:=(AG Br 1).th A.below;have HR:=Lh z;have HN:=Lh A;have v:=Lh o;clear z A o;refine ⟨Θ8 v.o E.o,?_⟩;refine De ?_
   (refine' Ae κ _ (λO u=>?_) ?_;rotate_left;(clear u;go_simp);(try with_reducible rfl);try simp only [Ap])
   refine De ?_
   (refine' Ae κ _ (λO u=>?_) ?_;rotate_left;(clear u;go_simp);(try with_reducible rfl);try simp only [Ap])
   refine De ?_
   (refine' Ae κ _ (λO u=>?_) ?_;rotate_left;(clear u;go_simp);(try with_reducible rfl);try simp only [Ap])
   refine AH κ ?_;go_simp;refine ⟨Θ8 (v.o.th (AA _ _)) E.o,?_⟩;refine AH κ ?_;go_simp;refine ⟨Θ8 (v.o.th (AA _ _)) E.o,?_⟩;refine AH κ ?_;go_simp;refine BH ?_;go_wp2;go_meet
   case rel=>refine ⟨_,m,f,g,rfl,HR,Lh ⟨?_,Hn _ _,v.o.size⟩⟩;obtain ⟨F,C,K,k3⟩:=HN.o;exact ⟨F,C.kp (λb o=>Ha _ _ _ (C.lt b o)),K,v.o.th (AA _ _)⟩
  .go_simp
   refine ⟨Θ8 (AA _ _) E.o,?_⟩;obtain ⟨W2,Q⟩:=ε ((W.alloc (χ #[ν,ι 0,ι 0,ι 0,ι 0,ι 0,ι 0,ι 0,ι 0] 59)).drew);have aK:=@Lh (Below W W W2) (by rw [Q];exact Cb _ _);have aL:=@Lh (W2.heap[(W:Nat)]?=ς (χ #[ν,ι 0,ι 0,ι 0,ι 0,ι 0,ι 0,ι 0,ι 0] 59 (0,0))) (by rw [Q];exact Hn W _);rw [<-Q];clear Q;refine AH κ ?_;go_simp;refine (bC.o _ aK.o).mono ?_;rintro e w1 ⟨m,f,g,z,rfl,A⟩;have o:=aK.o.th A.below;have HR:=Lh z;have HN:=Lh A;have v:=Lh o;have r:w1.heap[(W:Nat)]?=ς (χ #[ν,ι 0,ι 0,ι 0,ι 0,ι 0,ι 0,ι 0,ι 0] 59 (0,0)):=by rw [A.below.block _ (La aL.o)];exact aL.o
   have bK:=Lh r;clear z A o;refine ⟨Θ8 v.o E.o,?_⟩
   (refine' Ae κ _ (λO u=>?_) ?_;rotate_left;(clear u;go_simp);(try with_reducible rfl);try simp only [Ap])
   (refine' Ae κ _ (λO u=>?_) ?_;rotate_left;(clear u;go_simp);(try with_reducible rfl);try simp only [Ap])
   (refine' Ae κ _ (λO u=>?_) ?_;rotate_left;(clear u;go_simp);(try with_reducible rfl);try simp only [Ap])
   have t0:=Ω9 r;have Y:=Ψ 0 r;have f1:=Ψ 1 r;have f2:=Ψ 2 r;have f3:=Ψ 3 r;have f4:=Ψ 4 r;have f5:=Ψ 5 r;have f6:=Ψ 6 r;have f7:=Ψ 7 r;have f8:=Ψ 8 r;have S:(w:Nat)≠(W:Nat):=by have:=Z.o.1;have:=bN.o;omega
   have T:n≠(W:Nat):=by have:=bL.o;omega
   have U:R≠(W:Nat):=by have:=bI.o;omega
   have X:N≠(W:Nat):=by have:=Z.o.2.2;omega
   clear r;refine AH κ ?_;go_simp;clear t0 Y f1 f2 f3 f4 f5 f6 f7 f8 S T U X;refine ⟨Θ8 v.o E.o,?_⟩;refine AH κ ?_;go_simp;refine BH ?_;go_wp2;go_meet
   case rel=>
    obtain ⟨p1,p2⟩:=AZ (m0:=AI) (fv0:=ν) bK.o (σ f m.J g) m;have bR:Below W W (Ai w1 W (σ f m.J g) m):=v.o.trans (p2.below (λb o=>by simp at o;omega) v.o.size);refine ⟨_,m,f,g,rfl,HR,Lh ⟨?_,p1,Nr _⟩⟩;obtain ⟨F,C,K,k3⟩:=HN.o;have bW:∀ b∈F,b∉[(W:Nat)]:=λb o e=>by
     have h1:=K b o;have h2:=(La aL.o)
     simp at e;omega
    exact ⟨F,C.kp (λb o=>p2.block b (C.lt b o) (bW b o)),λb o=>Nt aK.o.size (K b o),bR⟩
 obtain ⟨d,m,f,g,rfl,bA,aN⟩:=hcut;have aE:=Jn D.o.2.2.2.1 D.o.2.2.1 bA.o;have aF:=aN.o.1.below;have bM:=Lh aF;have aM:=Lh (bB.o.grow aF);have aG:=aN.o.1.fras bB.o.hi (aE.1.modest D.o.2.2.2.1 D.o.2.2.2.2);have bJ:=@Lh (fraP m.J (mask wc c) (σ f m.J g)) (by unfold fraP;rw [Hk];exact aG);have y:=aN.o.2.1;have S:wc.cell? (π d 0)=ς (σ f m.J g):=AD y 0 _ rfl;have T:wc.cell? (π d 1)=ς (ι m.Q.K):=AD y 1 _ rfl;have U:wc.cell? (π d 2)=ς (ι m.Q.O):=AD y 2 _ rfl;have X:wc.cell? (π d 3)=ς (ι m.Q.D):=AD y 3 _ rfl;have e4:wc.cell? (π d 4)=ς (ι m.Q.V):=AD y 4 _ rfl;have e5:wc.cell? (π d 5)=ς (ι m.Q.X):=AD y 5 _ rfl;have e6:wc.cell? (π d 6)=ς (ι m.Y):=AD y 6 _ rfl;have e7:wc.cell? (π d 7)=ς (ι m.C):=AD y 7 _ rfl;have e8:wc.cell? (π d 8)=ς (ι m.I):=AD y 8 _ rfl;obtain ⟨a,ac,bY,bZ,cA,L,bE,aQ,q,p,-,-,-,bT⟩:=aM.o.viewX D.o.1;have b3:wc.cell? (π n 3)=ς (ι s.clock):=GStAt.p0 (show GStAt wc c _ n (traG s) from aM.o) (j:=3) rfl;have HU:=Lh (ϟ L bE);have L:wc.cell? (π n 5)=ς (σ (ς (π a 0)) s.active ac):=L;have i3:(i:Int)<(s.active:Int):=ω;have bH:wc.cell? (π a (i*13+0))=ς (bY):=p 0 _ rfl;have Y:wc.frozen? (π a (i*13+0))=ϝ:=q (i*13+0);have cB:wc.cell? (π a (i*13+1))=ς (ι x0.run.Q.K):=p 1 _ rfl;have f1:wc.frozen? (π a (i*13+1))=ϝ:=q (i*13+1);have cC:wc.cell? (π a (i*13+2))=ς (ι x0.run.Q.O):=p 2 _ rfl;have f2:wc.frozen? (π a (i*13+2))=ϝ:=q (i*13+2);have cD:wc.cell? (π a (i*13+3))=ς (ι x0.run.Q.D):=p 3 _ rfl;have f3:wc.frozen? (π a (i*13+3))=ϝ:=q (i*13+3);have cE:wc.cell? (π a (i*13+4))=ς (ι x0.run.Q.V):=p 4 _ rfl;have f4:wc.frozen? (π a (i*13+4))=ϝ:=q (i*13+4);have cF:wc.cell? (π a (i*13+5))=ς (ι x0.run.Q.X):=p 5 _ rfl;have f5:wc.frozen? (π a (i*13+5))=ϝ:=q (i*13+5);have cG:wc.cell? (π a (i*13+6))=ς (ι x0.run.Y):=p 6 _ rfl;have f6:wc.frozen? (π a (i*13+6))=ϝ:=q (i*13+6);have cH:wc.cell? (π a (i*13+7))=ς (ι x0.run.C):=p 7 _ rfl;have f7:wc.frozen? (π a (i*13+7))=ϝ:=q (i*13+7);have cI:wc.cell? (π a (i*13+8))=ς (ι x0.run.I):=p 8 _ rfl;have f8:wc.frozen? (π a (i*13+8))=ϝ:=q (i*13+8);have cJ:wc.cell? (π a (i*13+9))=ς (ι x0.start):=p 9 _ rfl;have f9:wc.frozen? (π a (i*13+9))=ϝ:=q (i*13+9);have aW:wc.cell? (π a (i*13+10))=ς (ι x0.N):=p 10 _ rfl;have bO:wc.frozen? (π a (i*13+10))=ϝ:=q (i*13+10);have aX:wc.cell? (π a (i*13+11))=ς (bZ):=p 11 _ rfl;have bP:wc.frozen? (π a (i*13+11))=ϝ:=q (i*13+11);have aY:wc.cell? (π a (i*13+12))=ς (cA):=p 12 _ rfl;have bQ:wc.frozen? (π a (i*13+12))=ϝ:=q (i*13+12);rw [Nat.add_zero] at bH Y;have aZ:=Lh (ϟ D.o.2.1 bA.o);clear aE aF aG y bE aQ q p bT;go_upto_region 2 with fail;refine Ac (λl=>l.cell? (π d 0)=ς (σ f m.J g)/\l.cell? (π d 1)=ς (ι m.Q.K)/\l.cell? (π d 2)=ς (ι m.Q.O)/\l.cell? (π d 3)=ς (ι m.Q.D)/\l.cell? (π d 4)=ς (ι m.Q.V)/\l.cell? (π d 5)=ς (ι m.Q.X)/\l.cell? (π d 6)=ς (ι m.Y)/\l.cell? (π d 7)=ς (ι m.C)/\l.cell? (π d 8)=ς (ι m.I)/\l.cell? (π n 5)=ς (σ (ς (π a 0)) s.active ac)/\l.cell? (π n 3)=ς (ι s.clock)) [12] true 13 rfl κ κ ⟨S,T,U,X,e4,e5,e6,e7,e8,L,b3⟩ ?_;refine softA ?_;refine AH κ ?_;go_simp;rw [puts13];refine BH ?_;clear bH cB cC cD cE cF cG cH cI cJ aW aX aY Y f1 f2 f3 f4 f5 f6 f7 f8 f9 bO bP bQ S T U X e4 e5 e6 e7 e8 b3 L;obtain ⟨st,cg⟩:=aM.o.setX ⟨m,s.clock,0,[],[]⟩ (σ f m.J g) ν ν D.o.1 HU.o.1 HU.o.2 bJ.o ⟨0,Ao.nil _ _ _ _ _⟩ ⟨0,Ao.nil _ _ _ _ _⟩;have eT:trxC (σ f m.J g) ν ν ⟨m,s.clock,0,[],[]⟩=[σ f m.J g,ι m.Q.K,ι m.Q.O,ι m.Q.D,ι m.Q.V,ι m.Q.X,ι m.Y,ι m.C,ι m.I,ι s.clock,ι 0,ν,ν]:=rfl;rw [eT] at st cg;obtain ⟨wz,bF⟩:=ε (putsW wc a (i*13) [σ f m.J g,ι m.Q.K,ι m.Q.O,ι m.Q.D,ι m.Q.V,ι m.Q.X,ι m.Y,ι m.C,ι m.I,ι s.clock,ι 0,ν,ν]);rw [<-bF] at st cg ⊢;have ST:=Lh (ϟ st cg);clear st cg bF eT
 go_end0
 refine ⟨rfl,⟨m,s.clock,0,[],[]⟩,⟨x,l',m,aZ.o.1,aZ.o.2,rfl⟩,c,ST.o.1.grow (AG Br 1),?_⟩;exact ((AT.ob (aO.o.th bM.o) Qx).trans (ST.o.2.mono (λt ht=>by unfold NZ;omega) Qx)).trans (AT.ob (AG Br 1) Qx)
