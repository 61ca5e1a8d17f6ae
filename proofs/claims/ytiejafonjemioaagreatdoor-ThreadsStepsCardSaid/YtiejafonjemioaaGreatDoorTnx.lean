import Derived.Test.YtiejafonjemioaaGreatDoorInv
set_option maxHeartbeats 4000000
set_option maxRecDepth 100000
set_option linter.all false
open Go renaming World→Ϣ,Value→ϒ,bodyPost_ret→ϖ
open Option renaming some→ς
open And renaming intro→ϟ
open Go.Value renaming slice→σ
open Go.Obj renaming cells→χ
namespace Go.Proofs.YtiejafonjemioaaGreatDoor
open Go.RowKit Proofs.Tryz
def Kf (s:A3) (m:AV):PT:=if Cs m then DR s.M m.Q else ⟨0,0,0⟩
def VV (cd:AQ) (s:A3) (t:Int) (w:Ϣ) (e:Ending) (w':Ϣ):Prop:=Below w w w'/\((¬Bu cd s/\e=.returned (.tuple #[.agg #[ι 0,ι 0,ι 0],ι 1]))\/(Bu cd s/\Cg s t≠0/\e=.returned (.tuple #[.agg #[ι 0,ι 0,ι 0],ι (Cg s t)]))\/
 (Bu cd s/\Cg s t=0/\∃ m0 m s1,s.R[t.toNat]?=ς m0/\Nu cd s t.toNat m0 m s1/\e=.returned (.tuple #[.agg #[ι (Kf s m).K,ι (Kf s m).O,ι (Kf s m).D],ι 0])))
def CJ.memAt {B a:Nat} {w:Ϣ} {v0 v1:ϒ} {s:A3} {x:List ϒ} (h:CJ B w (.agg (v0::v1::x).toArray) s) (m:w.cell? (π a 0)=ς v0) (n:w.cell? (π a 1)=ς v1):Kt w a s.M:=by
 obtain ⟨l,y,F,D,A,E,z,C,c,e,f,-⟩:=h;obtain ⟨rfl,rfl⟩:v0=l/\v1=y:=by simp at c;exact ⟨c.1,c.2.1⟩
 obtain ⟨g,k,rfl⟩:=e.fm;obtain ⟨t,u,rfl⟩:=f.fm;refine ⟨⟨g,k,m,λj v d=>?_⟩,t,u,n,λi x p=>?_⟩
 .obtain ⟨b,o,h,-⟩:=e.nth d
  exact ⟨b,o,h⟩
 .obtain ⟨b,o,h,-,-,⟨lv,h2,h3⟩,-⟩:=f.nth p
  obtain ⟨q,r,rfl⟩:=h3.fm;exact ⟨b,o,q,r,h,h2,λj v d=>by
   obtain ⟨b,o,h,-⟩:=h3.nth d;exact ⟨b,o,h⟩⟩
def VM {cd:AQ} {s q:A3} {t:Nat} {m0 m:AV} (c:Bu cd s) (d:s.R[t]?=ς m0) (j:Nu cd s t m0 m q) (k:m0.J=[]->DQ cd m/\m.Y<=1048576/\m.C+Co m<=1000000000000) (a:Cs m=true):Fy cd m.Q:=by
 have o:Ax cd m:=by
  rcases j with ⟨g,rfl,-⟩|⟨i,-⟩
  .obtain ⟨m',n,l,r,b,e,h1,h2,h3,h4,h5,h6,h7⟩:=c.at_ (Ll d)
   rw [d] at h1;cases h1;rcases h7.head with ⟨h,-⟩|⟨-,h,-⟩
   .exact absurd (El h) g
   .exact h
  .obtain ⟨h1,h2,h3⟩:=k i
   exact (Kn h1 a h2 h3).valid c.sound
 obtain ⟨u,f,p⟩:=o.waits (FB a).1 (FB a).2;exact p.Q c.sound
def S0 (cd:AQ) (cv sv:ϒ) (s:A3) (t:Int) (w:Ϣ) (hL:C8 w) (cL:Bv cd) (hc:BF w w cv cd) (hs:CJ w w sv s) :
  Calls prog 25 #[cv,sv,ι t] w (VV cd s t w):=by
 obtain ⟨fa,fc,qa,qc,ga,gc,ma,mc,ra,rc,na,nc,ca,cc,oa,oc,ba,bc,ea,ec,W0,L,rfl,rfl,bO,bE,H0,SS,HC,HS,bY,cA⟩:=NG (Nr _) hc hs;have bM:=Lh cL;obtain ⟨W,hW⟩:=ε (W0.alloc (χ #[ι 0,ι 0,ι 0] 64));have bZ:=Lh (bl1 hW);have R0:=@Lh (W.heap[(w:Nat)+1+1]?=ς (χ #[ι 0,ι 0,ι 0] 64 (0,0))) (by
  rw [hW,show (w:Nat)+1+1=(W0:Nat) by have:=cA.o;omega];exact Hn _ _)
 have d:Hid (∀ V,Below W W V->DD L V/\V.heap[(w:Nat)+1+1]?=ς (χ #[ι 0,ι 0,ι 0] 64 (0,0))/\C8 V/\BF w V (.agg (Bc fa fc qa qc cd)) cd/\CJ w V (.agg (Bt ga gc ma mc ra rc na nc ca cc oa oc ba bc ea ec s)) s/\Below w w V/\(w:Nat)<=V.heap.size):=Lh (λV hV=>by
  have a:=bZ.o.th hV;have K:=bE.o.th a;exact ⟨H0.o.kp a,(hV.block _ (La R0.o)).trans R0.o,hL.below K,hc.below K,hs.below K,K,K.size⟩)
 have hA:=d.o W Br;have B:=SS.o _ hA.1;clear hL cL hc hs hA;go_enter func25,ntmps25;go_upto_region 1 with fail;rw [<-bO,<- hW];clear hW bO;go_wp2_with fail;refine (IM cd _ s _ (w:Nat) W (d.o W Br).2.2.1 (d.o W Br).2.2.2.2.2.2 bM.o (d.o W Br).2.2.2.1 (d.o W Br).2.2.2.2.1).mono ?_;rintro e S ⟨rfl,J⟩;have aV:=Lh J;clear B J;by_cases Y:Bu cd s;rotate_left
 .rw [Bw Y]
  obtain ⟨-,o,-,-,-,a,j⟩:=d.o S aV.o;obtain ⟨⟨R,z,p⟩,⟨X,f1,f2⟩,pz⟩:=VE o;clear o;have i:=Lh (ϟ Y (ϟ a j));clear Y a j;go_wp2_with fail;refine ϖ (v:=.tuple #[.agg #[ι 0,ι 0,ι 0],ι 1]) (by simp [results,results25,go_sem,R,z,p]) rfl ?_;exact ⟨Ay (Ay (Ay i.o.2.1 (by have:=i.o.2.2;omega)) (by have:=i.o.2.2;omega)) (by have:=i.o.2.2;omega),.inl ⟨i.o.1,rfl⟩⟩
 rw [CP Y];have i:=Lh Y;clear Y;obtain ⟨y,o,-,-,u,-,j⟩:=d.o S aV.o;have B:=SS.o _ y;have HX:=Lh (ϟ u j);clear y o u j;go_wp2_with fail;refine (NF s _ t (w:Nat) S HX.o.2 HX.o.1 i.o.A).mono ?_;rintro e E ⟨rfl,K⟩;have I:=Lh (aV.o.th K);clear B K HX;by_cases H:Cg s t=0;rotate_left
 .have bP:=τ (Cg s t) 0 H
  obtain ⟨-,o,-,-,-,a,j⟩:=d.o E I.o;obtain ⟨⟨R,z,p⟩,⟨X,f1,f2⟩,pz⟩:=VE o;clear o;have aL:=Lh (ϟ H (ϟ a j));clear H a j;go_wp2_with fail;refine ϖ (v:=.tuple #[.agg #[ι 0,ι 0,ι 0],ι (Cg s t)]) (by simp [results,results25,go_sem,R,z,p]) rfl ?_;exact ⟨Ay (Ay (Ay aL.o.2.1 (by have:=aL.o.2.2;omega)) (by have:=aL.o.2.2;omega)) (by have:=aL.o.2.2;omega),.inr (.inl ⟨i.o,aL.o.1,rfl⟩)⟩
 obtain ⟨O,rfl⟩:∃ O:Nat,t=O:=⟨t.toNat,Mu H⟩
 obtain ⟨m0,n,l,r,b,e,hp⟩:=i.o.stepOk H;have aK:=Lh H;obtain ⟨y,-,-,-,u,-,-⟩:=d.o E I.o;obtain ⟨-,-,pr,-,pc,-⟩:=u.parts;obtain ⟨rb,ro,rfl,cH,hE⟩:=pr.nth hp.hm;obtain ⟨uv,u4,k0,C,N,k3,k4,k5,k6,k7,k8,-⟩:=hE.nine;obtain ⟨ua,uc,rfl⟩:=u4.fm;have B:=SS.o _ y;have i0:=In O;have i1:(O:Int)<(s.R:Int):=by have:=(Ll hp.hm);omega
 have Q:=Lh hp;have cJ:=Lh pc;rw [H];clear H hp u pr pc hE u4 cH y;obtain ⟨c,aM⟩:=ε (E.alloc (χ #[σ ua m0.J uc,ι m0.Q.K,ι m0.Q.O,ι m0.Q.D,ι m0.Q.V,ι m0.Q.X,ι m0.Y,ι m0.C,ι m0.I] 51));have J:=Lh (bl1 aM);have bU:=Lh (sz1 aM);have bC:=@Lh (c.heap[(E:Nat)]?=ς (χ (AC (σ ua m0.J uc) m0) 51 (0,0))) (by rw [aM];exact Hn _ _);have bI:=Lh (I.o.th J.o);have kM:c.cell? (π E 0)=ς (σ ua m0.J uc):=AD bC.o 0 _ rfl;have zM:(E:Nat)<c:=by have:=bU.o;omega
 go_upto_region 7 with fail;rw [<-aM];clear aM k0 C N k3 k4 k5 k6 k7 k8 B i1;go_upto_if 32 with fail
 go_cut [11] (λcK wx=>Hid (∃ m s1 f g,Nu cd s O m0 m s1/\(m0.J=[]->DQ cd m/\m.Y<=1048576/\m.C+Co m<=1000000000000)/\Below E E wx/\wx.heap[(E:Nat)]?=ς (χ (AC (σ f m.J g) m) 51 (0,0))))
 case first=>
  by_cases T:m0.J.length=0;rotate_left
  .have d0:(m0.J.length == 0)=false:=by simpa using T
   have d1:((m0.J:Int) == 0)=false:=by simp only [beq_eq_false_iff_ne,ne_eq];omega
   have bK:=@Lh (m0.J≠[]) (λe=>T (by rw [e];rfl));clear T;go_wp2;go_meet
   case rel=>exact Lh ⟨m0,s,ua,uc,.inl ⟨bK.o,rfl,rfl⟩,λe=>absurd e bK.o,J.o,bC.o⟩
  .have aS:=List.eq_nil_of_length_eq_zero T
   obtain ⟨x,l',rfl,hg⟩:∃ x l',l=x::l'/\AS cd x s.Y=0:=by
    rcases Q.o.head with ⟨_,h⟩|⟨h,_⟩
    .exact h
    .exact absurd aS h
   have bS:=Lh aS;have HG:=Lh hg;obtain ⟨y,-,bX,cD,u,-,bQ⟩:=d.o c bI.o;obtain ⟨-,-,-,-,pc,-⟩:=u.parts;obtain ⟨cb,co,rfl,cB,lv,y0,l4⟩:=pc.nth Q.o.hl;obtain ⟨la,lc,rfl⟩:=l4.fm;rw [Nat.mul_one] at y0;obtain ⟨lb,lo,rfl,cF,⟨u0,⟨av,u1,bH⟩,bR⟩⟩:=l4.nth (k:=0) rfl;rw [Nat.zero_mul,Nat.add_zero] at u0 u1;obtain ⟨xa,xc,rfl⟩:=bH.fm;obtain ⟨B,g1,g2,-,-,b2,-,-,b5,-⟩:=SS.o _ y;have bN:Hid (∀ V,Below c c V->Calls prog 69 #[.agg (Bc fa fc qa qc cd),.agg #[.string x.proc,σ xa x.args xc],ι s.Y] V (λe w'=>∃ m f g,Cf cd (CF cd x s.Y) m/\e=.returned (.tuple #[.agg #[σ f m.J g,ι m.Q.K,ι m.Q.O,ι m.Q.D,ι m.Q.V,ι m.Q.X,ι m.Y,ι m.C,ι m.I],ι 0])/\CE V (σ f m.J g) m w')):=Lh (λV hV=>by
    obtain ⟨-,-,bW,cC,-,-,cE⟩:=d.o V (bI.o.th hV);refine (ME cd x s.Y _ _ (w:Nat) V bW cE cC ⟨_,rfl,bH.ints (hV.mono bQ),bR⟩ bM.o).mono ?_;rintro e w' (⟨h,_⟩|⟨_,⟨h,_⟩|⟨_,m',fv,h1,h2,h3⟩⟩)
    .exact absurd i.o.sound h
    .exact absurd HG.o h
    .obtain ⟨F,C,N⟩:=h3
     obtain ⟨f,g,rfl⟩:=C.form;exact ⟨m',f,g,h1,h2,F,C,N⟩)
   have d0:(m0.J.length == 0)=true:=by simpa using T
   have d1:((m0.J:Int) == 0)=true:=by simp;exact aS
   have i2:(O:Int)<(s.A:Int):=by have:=(Ll Q.o.hl);omega
   have Z:Hid ((w:Nat)<c/\(w:Nat)+1<c/\cb<c/\lb<c):=Lh ⟨Bl B,Bl b2,Bl y0,Bl u0⟩;have zW:=Z.o;clear T aS hg y bX cD u bQ pc cB l4 cF bH bR kM;go_upto_region 8 with fail
   go_cut [10,11] (λs8 s9 wx=>s9=ι 0/\∃ (b8:Nat) (m:AV) (f:Option Addr) (g:Nat),s8=.pointer (ς (π b8 0))/\Hid (Cf cd (CF cd x s.Y) m)/\Hid (CE c (σ f m.J g) m wx/\wx.heap[b8]?=ς (χ (AC (σ f m.J g) m) 51 (0,0))/\(c:Nat)<=b8))
   case first=>
    refine Ac (λG=>G.cell? (π w 0)=ς (σ fa cd.H fc)/\G.cell? (π w 1)=ς (ι cd.G)/\G.cell? (π w 2)=ς (σ qa cd.funcs qc)/\G.cell? (π (w+1) 5)=ς (σ (ς (π cb co)) s.A cc)/\G.cell? (π cb (co+O))=ς (Value.slice (ς (π lb lo)) (x::l').length lc)/\G.cell? (π lb lo)=ς (.string x.proc)/\G.cell? (π lb (lo+1))=ς (σ xa x.args xc)/\G.cell? (π (w+1) 2)=ς (ι s.Y)) [10,11,12,13,14,15,16] true 17 rfl κ κ ⟨B,g1,g2,b5,y0,u0,u1,b2⟩ ?_;refine softA ?_;have d:=Lh (ϟ B (ϟ g1 (ϟ g2 (ϟ b5 (ϟ y0 (ϟ u0 (ϟ u1 b2)))))));clear B g1 g2 b5 y0 u0 u1 b2 zW d0 d1 i2;refine GW [_,_,_] ?_;refine Dv κ κ ?_ ?_
    .go_simp
     refine (bN.o _ (AG Br 1)).mono ?_;rintro e S ⟨m,f,g,hR,rfl,M⟩;have a:=(AG Br 1).th M.below;have HR:=Lh hR;have P:=Lh M;have A:=Lh a;clear hR M a;refine ⟨Θ8 A.o d.o,?_⟩;refine De ?_
     (refine' Ae κ _ (λwV q=>?_) ?_;rotate_left;(clear q;go_simp);(try with_reducible rfl);try simp only [Ap])
     refine De ?_
     (refine' Ae κ _ (λwV q=>?_) ?_;rotate_left;(clear q;go_simp);(try with_reducible rfl);try simp only [Ap])
     refine De ?_
     (refine' Ae κ _ (λwV q=>?_) ?_;rotate_left;(clear q;go_simp);(try with_reducible rfl);try simp only [Ap])
     refine AH κ ?_;go_simp;refine ⟨Θ8 (A.o.th (AA _ _)) d.o,?_⟩;refine AH κ ?_;go_simp;refine ⟨Θ8 (A.o.th (AA _ _)) d.o,?_⟩;refine AH κ ?_;go_simp;refine BH ?_;go_wp2;go_meet
     case rel=>refine ⟨rfl,_,m,f,g,rfl,HR,Lh ⟨?_,Hn _ _,A.o.size⟩⟩;obtain ⟨F,C,N,k3⟩:=P.o;exact ⟨F,C.kp (λb a=>Ha _ _ _ (C.lt b a)),N,A.o.th (AA _ _)⟩
    .go_simp
     refine ⟨Θ8 (AA _ _) d.o,?_⟩;obtain ⟨W2,aR⟩:=ε ((c.alloc (χ #[ν,ι 0,ι 0,ι 0,ι 0,ι 0,ι 0,ι 0,ι 0] 51)).drew);have I:=@Lh (Below c c W2) (by rw [aR];exact Cb _ _);have bB:=@Lh (W2.heap[(c:Nat)]?=ς (χ #[ν,ι 0,ι 0,ι 0,ι 0,ι 0,ι 0,ι 0,ι 0] 51 (0,0))) (by rw [aR];exact Hn c _);rw [<-aR];clear aR;refine AH κ ?_;go_simp;refine (bN.o _ I.o).mono ?_;rintro e S ⟨m,f,g,hR,rfl,M⟩;have a:=I.o.th M.below;have HR:=Lh hR;have P:=Lh M;have A:=Lh a;have aE:S.heap[(c:Nat)]?=ς (χ #[ν,ι 0,ι 0,ι 0,ι 0,ι 0,ι 0,ι 0,ι 0] 51 (0,0)):=by rw [M.below.block _ (La bB.o)];exact bB.o
     have bT:=Lh aE;clear hR M a;refine ⟨Θ8 A.o d.o,?_⟩
     (refine' Ae κ _ (λwV q=>?_) ?_;rotate_left;(clear q;go_simp);(try with_reducible rfl);try simp only [Ap])
     (refine' Ae κ _ (λwV q=>?_) ?_;rotate_left;(clear q;go_simp);(try with_reducible rfl);try simp only [Ap])
     (refine' Ae κ _ (λwV q=>?_) ?_;rotate_left;(clear q;go_simp);(try with_reducible rfl);try simp only [Ap])
     have t0:=KQ (m:=AI) aE;have X:=Vp aE;have U:(w:Nat)≠(c:Nat):=by have:=Z.o;omega
     have e1:(w:Nat)+1≠(c:Nat):=by have:=Z.o;omega
     have e2:cb≠(c:Nat):=by have:=Z.o;omega
     have e3:lb≠(c:Nat):=by have:=Z.o;omega
     clear aE;refine AH κ ?_;go_simp;clear t0 X U e1 e2 e3;refine ⟨Θ8 A.o d.o,?_⟩;refine AH κ ?_;go_simp;refine BH ?_;go_wp2;go_meet
     case rel=>
      obtain ⟨z,p⟩:=AZ (m0:=AI) (fv0:=ν) bT.o (σ f m.J g) m;have bV:Below c c (Ai S c (σ f m.J g) m):=A.o.trans (p.below (λb a=>by simp at a;omega) A.o.size);refine ⟨rfl,_,m,f,g,rfl,HR,Lh ⟨?_,z,Nr _⟩⟩;obtain ⟨F,C,N,k3⟩:=P.o;have cG:∀ b∈F,b∉[(c:Nat)]:=λb a e=>by
       have h1:=N b a;have h2:=(La bB.o)
       simp at e;omega
      exact ⟨F,C.kp (λb a=>p.block b (C.lt b a) (cG b a)),λb a=>Nt I.o.size (N b a),bV⟩
   obtain ⟨rfl,b8,m,f,g,rfl,bL,aQ⟩:=hcut;have aT:=(aQ.o.1.below.block _ zM).trans bC.o;have bD:=Lh aT;have U:=KQ aQ.o.2.1;have o0:=KQ aT;have X:=Vp aT;clear aT zM;go_upto_region 12 with fail;go_meet
   case rel=>obtain ⟨z,p⟩:=AZ bD.o (σ f m.J g) m;refine Lh ⟨m,XD s O l',f,g,.inr ⟨bS.o,x,l',Q.o.hl,bL.o,rfl⟩,λ_=>Jn i.o.sound HG.o bL.o,?_,z⟩;exact (J.o.trans (aQ.o.1.below.mono J.o.size)).trans (p.below (λb a=>by simp at a;omega) (Nt J.o.size aQ.o.1.below.size))
 obtain ⟨m,s1,f,g,hB,hE,aO,bG⟩:=hcut.o;obtain ⟨aI,bA,aY,bJ⟩:=Λ4 hB hE (I.o.th aO) bG;have U:=KQ bG;clear hcut hB hE aO bG kM zM;go_wp2_with fail;refine (Jp m f _ g _).mono ?_;rintro e9 w9 ⟨rfl,bF⟩;have aX:=Lh (aY.o.th bF);have aP:=(bF.block _ (La bJ.o)).trans bJ.o;have aZ:=Lh aP;clear U bF aP;cases ha:Cs m with
 | false=>have P:=@Lh (Kf s m=⟨0,0,0⟩) (by unfold Kf;rw [ha];rfl);clear ha;obtain ⟨-,o,-,-,-,a,j⟩:=d.o w9 aX.o;obtain ⟨⟨R,z,p⟩,⟨X,f1,f2⟩,pz⟩:=VE o;have D:=Lh (ϟ a j);clear o a j;go_wp2_with fail;refine ϖ (v:=.tuple #[.agg #[ι 0,ι 0,ι 0],ι 0]) (by simp [results,results25,go_sem,R,z,p]) rfl ?_;exact ⟨Ay (Ay (Ay D.o.1 (by have:=D.o.2;omega)) (by have:=D.o.2;omega)) (by have:=D.o.2;omega),.inr (.inr ⟨i.o,aK.o,m0,m,s1,Q.o.hm,aI.o,by rw [P.o]⟩)⟩
 | true=>have hq:=VM i.o Q.o.hm aI.o bA.o ha;have P:=@Lh (Kf s m=DR s.M m.Q) (by unfold Kf;rw [ha];rfl);obtain ⟨y,-,-,-,u,-,-⟩:=d.o w9 aX.o;obtain ⟨-,-,-,x0,x1,-⟩:=SS.o _ y;have aU:=Lh (K2 s.M (w+1) m.Q w9 (u.memAt x0 x1) hq.O hq.D hq.q.nodeV);unfold O8 at aU;have U:=KQ aZ.o;clear ha hq y u x0 x1;go_wp2_with fail;refine aU.o.mono ?_;rintro e cI ⟨rfl,aN⟩;have aW:=Lh (aX.o.th aN);unfold VW;clear U aN aU;obtain ⟨-,o,-,-,-,a,j⟩:=d.o cI aW.o;obtain ⟨⟨R,z,p⟩,⟨X,f1,f2⟩,pz⟩:=VE o;have D:=Lh (ϟ a j);clear o a j;go_wp2_with fail;refine ϖ (v:=.tuple #[.agg #[ι (DR s.M m.Q).K,ι (DR s.M m.Q).O,ι (DR s.M m.Q).D],ι 0]) (by simp [results,results25,go_sem,R,z,p]) rfl ?_;exact ⟨Ay (Ay (Ay D.o.1 (by have:=D.o.2;omega)) (by have:=D.o.2;omega)) (by have:=D.o.2;omega),.inr (.inr ⟨i.o,aK.o,m0,m,s1,Q.o.hm,aI.o,by rw [P.o]⟩)⟩
def rAccess_any (m:Mm) (X:ϒ) (r:Rq) (B:Nat) (w:Ϣ) (hB:B<=w) (hm:Lw B w X m) (D:0<=r.O) (n:r.O<=1099511627776) (C:0<=r.D) (p:r.K≠3->r.O=0->r.D<(m.G:Int)) :
  Calls prog 76 #[X,.agg (O8 r)] w (TZ w (DR m r)):=by
 obtain ⟨gv,nv,rfl,Q,J⟩:=hm;obtain ⟨ga,gc,rfl⟩:=Q.form;obtain ⟨na,nc,rfl⟩:=J.form;obtain ⟨a,d,g,c,b⟩:=r;dsimp only at D n C p;unfold O8;dsimp only;obtain ⟨W,j⟩:=ε (((w.alloc (χ (Bm ga gc na nc m) 28)).alloc (χ #[ι a,ι d,ι g,ι c,ι b] 49)).alloc (χ #[ι 0,ι 0,ι 0] 64));have H:=Lh (bl3 j);have S:=Lh (sz3 j);have T:=ce31 j;have U:=ce32 j;have V:=ro33 j;obtain ⟨⟨t,u,A⟩,⟨f0,f1,f2⟩,pz⟩:=VE V;have g1:=T 1 _ rfl;have q0:=Γ3 U;have zR:(w:Nat)<W:=by have:=S.o;omega
 have zQ:(w:Nat)+1<W:=by have:=S.o;omega
 have E:∀ (x y z:Int) (O:Ϣ),DR m ⟨a,d,g,c,b⟩=⟨x,y,z⟩->O=((W.setCell (π (w+1+1) 0) (ι x)).setCell (π (w+1+1) 1) (ι y)).setCell (π (w+1+1) 2) (ι z)->TZ w (DR m ⟨a,d,g,c,b⟩) (.returned (.agg #[ι x,ι y,ι z])) O:=λx y z O h e=>by rw [e];exact RE (Ay (Ay (Ay H.o ω) ω) ω) h
 have E:=Lh E;have Z:=Lh J;clear T U V Q J;by_cases k:a=3
 .have e3:=ζ a 3 k
  by_cases o:m.N.length<4096
  .have K:=θ (4096<=m.N.length)
   have L:=θ ((4096:Int)<=(m.N:Int));have l:=@Lh (DR m ⟨a,d,g,c,b⟩=⟨3,(m.N:Int)+1,g⟩) (by unfold DR;rw [if_pos k,if_pos o]);have ew:IntKind.i64.wrap ((m.N:Int)+1)=(m.N:Int)+1:=by rw [IntKind.wrap_i64]<;>omega
   clear o k p;go_enter func76,ntmps76;go_upto_region 1 with fail;rw [<-j];clear j;go_wp2;exact ϖ (v:=.agg #[ι 3,ι ((m.N:Int)+1),ι g]) (by simp [results,results76,go_sem,t,u,A]) rfl (E.o _ _ _ _ l.o rfl)
  .have K:=η (4096<=m.N.length)
   have L:=η ((4096:Int)<=(m.N:Int));have l:=@Lh (DR m ⟨a,d,g,c,b⟩=⟨0,0,0⟩) (by unfold DR;rw [if_pos k,if_neg o]);clear o k p;go_enter func76,ntmps76;go_upto_region 1 with fail;rw [<-j];clear j;go_wp2;exact ϖ (v:=.agg #[ι 0,ι 0,ι 0]) (by simp [results,results76,go_sem,t,u,A]) rfl (E.o _ _ _ _ l.o rfl)
 have e3:=ξ a 3 k;obtain ⟨f,rfl⟩:∃ f:Nat,g=f:=⟨g.toNat,ω⟩
 have s:∀ (x y z:Int) (q:Nat),DR m ⟨a,d,f,c,b⟩=⟨x,y,z⟩->TZ w (DR m ⟨a,d,f,c,b⟩) (.returned (.agg #[ι x,ι y,ι z])) (((W.drewN q).setCell (π (w+1+1) 0) (ι x)).setCell (π (w+1+1) 1) (ι y) |>.setCell (π (w+1+1) 2) (ι z)):=λx y z q h=>RE (Ay (Ay (Ay (AG H.o _) ω) ω) ω) h;have s:=Lh s;by_cases F:(m.N:Int)<d
 .have K:=η ((m.N:Int)<d)
  have l:=@Lh (DR m ⟨a,d,f,c,b⟩=⟨0,0,0⟩) (by
   have e:Bd m ⟨a,d,f,c,b⟩=[]:=by unfold Bd;rw [if_pos (by dsimp only;omega)]
   unfold DR;rw [if_neg k,e,if_pos ψ])
  clear k p F D n C;go_enter func76,ntmps76;go_upto_region 1 with fail;rw [<-j];clear j;go_wp2_with fail;go_quiet (fail);go_wp2;exact ϖ (v:=.agg #[ι 0,ι 0,ι 0]) (by simp [results,results76,go_sem,t,u,A]) rfl (s.o _ _ _ _ l.o)
 have K:=θ ((m.N:Int)<d);by_cases M:d=0
 .subst M
  have L:=θ ((0:Int)<0);have l:=@Lh (DR m ⟨a,0,f,c,b⟩=⟨a,0,f⟩) (by
   have:=p k rfl;have e:Bd m ⟨a,0,f,c,b⟩=m.G:=Gm rfl;unfold DR;rw [if_neg k,e,if_neg (by dsimp only;omega)])
  clear k p F D n C;go_enter func76,ntmps76;go_upto_region 1 with fail;rw [<-j];clear j;go_wp2_with fail;go_quiet (fail);go_wp2;exact ϖ (v:=.agg #[ι a,ι 0,ι (f:Int)]) (by simp [results,results76,go_sem,t,u,A]) rfl (s.o _ _ _ _ l.o)
 obtain ⟨i,rfl⟩:∃ i:Nat,d=(i:Int)+1:=⟨(d - 1).toNat,ω⟩
 obtain ⟨x,G⟩:∃ x,m.N[i]?=ς x:=⟨_,Lg ω⟩
 have o:Bd m ⟨a,(i:Int)+1,f,c,b⟩=x.f:=IJ (by dsimp only;omega) (by dsimp only;rw [show ((i:Int)+1 - 1).toNat=i by omega];exact G);obtain ⟨nb,no,rfl,R,Y,⟨lv,N,I⟩,-⟩:=Z.o.nth G;obtain ⟨la,lc,rfl⟩:=I.form;have k1:=AB H.o N;have L:=η ((0:Int)<(i:Int)+1);have ew:IntKind.i64.wrap (i:Int)=(i:Int):=by rw [IntKind.wrap_i64]<;>omega
 have i0:=In i;have i2:(i:Int)<(m.N:Int):=ω;by_cases P:x.f.length<=f
 .have d3:=η (x.f.length<=f)
  have d4:=η ((x.f:Int)<=(f:Int));have l:=@Lh (DR m ⟨a,(i:Int)+1,f,c,b⟩=⟨0,0,0⟩) (by unfold DR;rw [if_neg k,o,if_pos (by dsimp only;omega)]);clear k p F D n C o G P Y N I R M;go_enter func76,ntmps76;go_upto_region 1 with fail;rw [<-j];clear j;go_wp2_with fail;go_quiet (fail);go_wp2;exact ϖ (v:=.agg #[ι 0,ι 0,ι 0]) (by simp [results,results76,go_sem,t,u,A]) rfl (s.o _ _ _ _ l.o)
 .have d3:=θ (x.f.length<=f)
  have d4:=θ ((x.f:Int)<=(f:Int));have l:=@Lh (DR m ⟨a,(i:Int)+1,f,c,b⟩=⟨a,(i:Int)+1,f⟩) (by unfold DR;rw [if_neg k,o,if_neg (by dsimp only;omega)]);clear k p F D n C o G P Y N I R M;go_enter func76,ntmps76;go_upto_region 1 with fail;rw [<-j];clear j;go_wp2_with fail;go_quiet (fail);go_wp2;exact ϖ (v:=.agg #[ι a,ι ((i:Int)+1),ι (f:Int)]) (by simp [results,results76,go_sem,t,u,A]) rfl (s.o _ _ _ _ l.o)
