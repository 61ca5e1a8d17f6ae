import Derived.Test.YtiejafonjemioaaGreatDoorInv
import Derived.Test.YtiejafonjemioaaGreatDoorLsc
import Derived.Test.YtiejafonjemioaaGreatDoorRy
set_option maxHeartbeats 4000000
set_option maxRecDepth 100000
set_option linter.all false
open Go renaming World→Ϣ,Value→ϒ,bodyPost_ret→ϖ,heap_setCell_same→ϡ
open Option renaming some→ς
open And renaming intro→ϟ
open Go.Value renaming slice→σ
open Go.Obj renaming cells→χ
namespace Go.Proofs.YtiejafonjemioaaGreatDoor
open Go.RowKit Proofs.Tryz
variable {w W:Ϣ} {c c1:A1} {s:A3} {V:TV} {k:Nat}
def ThrR (s:A3) (c:A1) (w:Ϣ) (e:Ending) (w':Ϣ):Prop:=∃ V c',e=.returned (.agg (Wq V s))/\TK NO w' c' s V/\AT NZ c c' w w'
def TK.recol {q:Nat} (h:TK NO w c s V) (G:c k=1\/c k=14) (H:q≠0) (hl:k<w):TK NO w (λb=>if b=k then q else c b) s V:=by
 have r:∀ b,b≠k->(λb=>if b=k then q else c b) b=c b:=λb o=>if_neg o;obtain ⟨y,B⟩:=ε (λb=>if b=k then q else c b:A1);rw [<-B] at r ⊢;have g:∀ j,j≠1->j≠14->∀ b,c b=j->y b=j:=λj f d b o=>by rw [r b (λe=>by subst e;omega)];exact o
 have A:JT (mask w c) (mask w y):=λa v p=>by
  rw [GJ] at p ⊢;split at p
  .rename_i h0
   rw [r _ (λe=>by rw [e] at h0;omega),if_pos h0];exact p
  .cases p
 exact ⟨λb o=>by rw [r b ω];exact h.hi b o,λn=>⟨(h.g n).1.recol (g _ δ δ),(h.g n).2⟩,λn=>(h.n n).recol (g _ δ δ),λi x E=>by
  obtain ⟨F,f,d,u,z⟩:=h.nn i x E;exact ⟨F,f,d,u,λn=>⟨(z n).1.recol (g _ ω ω),(z n).2⟩⟩,λn=>(h.r n).recol (g _ δ δ),λt m D=>by
  obtain ⟨C,f,d,u⟩:=h.rr t m D;exact ⟨C,f,d.ups Dx (Nr _) A,u⟩,λn=>⟨(h.k n).1.recol (g _ δ δ),(h.k n).2⟩,λn=>(h.cr n).recol (g _ δ δ),λt l hl=>by
  obtain ⟨v,f,d⟩:=h.cl t l hl;exact ⟨v,f,d.ups Hd (Nr _) A⟩,λn=>(h.o n).recol (g _ δ δ),λt l hl=>by
  obtain ⟨v,f,d⟩:=h.ol t l hl;exact ⟨v,f,λn=>⟨(d n).1.recol (g _ ω ω),(d n).2⟩⟩,λn=>(h.b n).recol (g _ δ δ),λt l hl=>by
  obtain ⟨v,f,d⟩:=h.bl t l hl;exact ⟨v,f,λn=>⟨(d n).1.recol (g _ ω ω),(d n).2⟩⟩,λn=>(h.e n).recol (g _ δ δ),λt l hl=>by
  obtain ⟨v,f,d⟩:=h.el t l hl;exact ⟨v,f,λn=>⟨(d n).1.recol (g _ ω ω),(d n).2⟩⟩,h.f64,h.s64⟩
def st_box (h:TK NO w c s V) (a:Below w w W) (g:W.heap[k]?=ς (χ (Wq V s) 34 (0,0))) (hl:(w:Nat)<=k):∃ c1:A1,Au W c1 k s/\AT NO c c1 w W/\∀ b,(w:Nat)<=b->b<(W:Nat)->b≠k->c1 b=14:=by
 have l:=(La g)
 obtain ⟨c1,e⟩:=ε (λb=>if b<(w:Nat) then c b else if b=k then 1 else if b<(W:Nat) then 14 else 0:A1);have f:AT NO c c1 w W:=⟨a.os,a.tape,a.output,a.size,λb d _=>a.block b d,λb d=>by rw [e];exact if_pos d,no 0⟩
 refine ⟨c1,⟨V,h.no2 f (λb d=>?_),⟨g,?_⟩⟩,f,λb m i j=>?_⟩
 .have:=a.size
  rw [e];show (if _ then _ else if _ then _ else if _ then _ else _)=_;rw [if_neg ω,if_neg ω,if_neg ω]
 .rw [e];show (if _ then _ else if _ then _ else if _ then _ else _)=_
  rw [if_neg ω,if_pos rfl]
 .rw [e];show (if _ then _ else if _ then _ else if _ then _ else _)=_
  rw [if_neg ω,if_neg j,if_pos i]
def Au.give (h:Au w c k s):∃ (V:TV) (c1:A1),w.heap[k]?=ς (χ (Wq V s) 34 (0,0))/\TK NO w c1 s V/\c1 k=14/\(∀ b,b≠k->c1 b=c b)/\k<w:=by
 obtain ⟨V,e,a⟩:=h;have d:=a.lt;exact ⟨V,_,a.row,e.recol (q:=14) (.inl a.lab) ω d,if_pos rfl,λb f=>if_neg f,d⟩
def st_back {j:A1} {ar:Array ϒ} {P Q R S T X Y Z x8 x9:ϒ} (h:TK NO W j s V) (d:AT NZ c1 j w W) (D:c1 k=14) (hl:k<w) (M:∀ b,b≠k->c1 b=c b) (E:c k=1) (hr:w.heap[k]?=ς (χ ar 34 (0,0))) (I:ar=#[P,Q,R,S,T,X,Y,Z,x8,x9]) :
  W.heap[k]?=ς (χ #[P,Q,R,S,T,X,Y,Z,x8,x9] 34 (0,0))/\∀ n o p r u y z A B C,Wq V s=#[n,o,p,r,u,y,z,A,B,C]->∃ H:A1,Au (B7 W k n o p r u y z A B C) H k s/\AT NZ c H w (B7 W k n o p r u y z A B C)/\∀ b,b≠k->H b=j b:=by
 subst I;have h2:j k=14:=by rw [d.old k hl];exact D
 have hW:=Nl hl d.size;have K:=(d.kp k hl (by rw [D];exact Io)).trans hr;refine ⟨K,λn o p r u y z A B C hv=>?_⟩;have L:=h.recol (q:=1) (.inr h2) ω hW;obtain ⟨U,G⟩:=ε (B7 W k n o p r u y z A B C);have F:AT (λt=>t=1) (λb=>if b=k then 1 else j b) (λb=>if b=k then 1 else j b) W U:=by rw [G];exact D7 (if_pos rfl) ω
 have O:(U:Nat)=(W:Nat):=by rw [G,FH]
 have J:=CB K n o p r u y z A B C;rw [<-G] at J ⊢;have a:=L.kept F (λb m=>L.hi b (by rw [<-O];exact m));have aE:TK NO U (λb=>if b=k then 1 else j b) s V:=⟨a.hi,λ_=>a.g (DU δ),λ_=>a.n (DU δ),λi x hx=>by
  obtain ⟨lv,f,g,a3,a4⟩:=a.nn i x hx;exact ⟨lv,f,g,a3,λ_=>a4 (DU ω)⟩,λ_=>a.r (DU δ),a.rr,λ_=>a.k (DU δ),λ_=>a.cr (DU δ),a.cl,λ_=>a.o (DU δ),λt l hl=>by
  obtain ⟨v,f,g⟩:=a.ol t l hl;exact ⟨v,f,λ_=>g (DU ω)⟩,λ_=>a.b (DU δ),λt l hl=>by
  obtain ⟨v,f,g⟩:=a.bl t l hl;exact ⟨v,f,λ_=>g (DU ω)⟩,λ_=>a.e (DU δ),λt l hl=>by
  obtain ⟨v,f,g⟩:=a.el t l hl;exact ⟨v,f,λ_=>g (DU ω)⟩,a.f64,a.s64⟩
 refine ⟨_,⟨V,aE,by rw [hv];exact J,if_pos rfl⟩,⟨F.os.trans d.os,F.tape.trans d.tape,F.output.trans d.output,by rw [O];exact d.size,λb m N=>?_,λb m=>?_,Qx⟩,λb m=>if_neg m⟩
 .have aC:b≠k:=λe=>N (by rw [e,E];exact ⟨δ,δ⟩)
  rw [G,Np aC];exact d.kp b m (by rw [M b aC];exact N)
 .show (if _ then _ else _)=_
  split
  .rename_i e;rw [e];exact E.symm
  .rename_i e;rw [d.old b m];exact M b e
def st_ret {R:Nat} {S T X Y Z z5 z6 z7 z8 z9:ϒ} (h:Au W c1 k s) (n:AT NZ c c1 w W) (hR:W.heap[R]?=ς (χ #[S,T,X,Y,Z,z5,z6,z7,z8,z9] 34 (0,0))) (A:c1 R=14) (O:(w:Nat)<=R):∃ l m o p x y q r f g u v a d i j,W.heap[k]?=ς (χ (Bt l m o p x y q r f g u v a d i j s) 34 (0,0))/\
  ThrR s c w (.returned (.agg (Bt l m o p x y q r f g u v a d i j s))) (B7 W R (σ l s.M.G m) (σ o s.M.N p) (ι s.Y) (σ x s.R y) (σ q s.N r) (σ f s.A g) (σ u s.results v) (σ a s.Z d) (σ i s.P j) (ι s.U)):=by
 have L:=h;obtain ⟨V,N,F⟩:=L;obtain ⟨l,m,o,p,x,y,q,r,f,g,u,v,a,d,i,j,e⟩:=N.opened;refine ⟨l,m,o,p,x,y,q,r,f,g,u,v,a,d,i,j,by rw [<-e];exact F.row,?_⟩;obtain ⟨U,z⟩:=ε (B7 W R (σ l s.M.G m) (σ o s.M.N p) (ι s.Y) (σ x s.R y) (σ q s.N r) (σ f s.A g) (σ u s.results v) (σ a s.Z d) (σ i s.P j) (ι s.U));have G:(U:Nat)=(W:Nat):=by rw [z,FH]
 have B:AT (λt=>t=14) c1 c1 W U:=by rw [z];exact D7 A ω
 rw [<-z];have M:=h.chg B (λb C=>h.lab.2.2.1 b (by rw [<-G];exact C)) (λt Q=>Q);obtain ⟨D,I,H⟩:=M;have J:k≠R:=λe=>by have:=h.lab.1;rw [e,A] at this;cases this
 have K:Wq D s=Wq V s:=by have E:=H.row;rw [z,Np J,F.row] at E;simpa using E.symm
 refine ⟨D,c1,by rw [K,e],I,⟨B.os.trans n.os,B.tape.trans n.tape,B.output.trans n.output,by rw [G];exact n.size,λb C P=>?_,n.old,Qx⟩⟩;rw [z,Np ω];exact n.kp b C P
def endB5 (f:Int) (m:AV):Bool:=decide (f=0) && Cs m
def endO5 (s:A3) (t:Nat) (f:Int) (m:AV) (n:Int):A3:=if endB5 f m=true then s else Ly s t (if f=0 then m.Q.X else f) (if f=0/\m.Q.K=4 then m.Q.V else 0) m.C n
def rEnded_any (s:A3) (V:TV) (c:A1) (t:Nat) (f:Int) (m:AV) (n:Int) (r:List CD) (e:List Int) (w:Ϣ) (h:TK NO w c s V) (hm:s.R[t]?=ς m) (hn:s.N[t]?=ς n) (hr:s.results[t]?=ς r) (he:s.P[t]?=ς e) (dN:r.length<=1000000) (dK:e.length<=1000000) (hf:in64 f) :
  Calls prog 109 #[.agg (Wq V s),ι t,ι f] w (ThrR (endO5 s t f m n) c w):=by
 obtain ⟨ga,gc,ma,mc,ra,rc,na,nc,ca,cc,oa,oc,ba,bc,ea,ec,hv⟩:=h.opened;rw [hv];obtain ⟨W,hW⟩:=ε ((w.alloc (χ (Bt ga gc ma mc ra rc na nc ca cc oa oc ba bc ea ec s) 34)).alloc (χ Bz 34));have dH:=Lh (bl2 hW);have fJ:=sz2 hW;have R0:W.heap[(w:Nat)]?=ς (χ (Wq V s) 34 (0,0)):=by rw [hv,hW,Ha _ _ _ ψ];exact Hn _ _
 have R1:=ro22 hW;obtain ⟨c0,cL,dE,dD⟩:=st_box h dH.o R0 (Nr _);have dJ:=dD ((w:Nat)+1) ω ω ω;have i0:=In t;have i1:(t:Int)<(s.R:Int):=by have:=(Ll hm);omega
 obtain ⟨rb,gB,ua,uc,b3,P,fZ,cQ,-,dL,dQ,-⟩:=cL.viewR hm;have eN:=Lh dL;have x0:W.cell? (π rb (t*9))=ς (σ ua m.J uc):=P 0 _ rfl;have x1:=Γ9 P;obtain ⟨L,bD⟩:=ε (W.alloc (χ #[σ ua m.J uc,ι m.Q.K,ι m.Q.O,ι m.Q.D,ι m.Q.V,ι m.Q.X,ι m.Y,ι m.C,ι m.I] 51));have bT:=Lh (bl1 bD);have fK:=sz1 bD;have cK:L.heap[(W:Nat)]?=ς (χ (AC (σ ua m.J uc) m) 51 (0,0)):=by rw [bD];exact Hn _ _
 obtain ⟨c1,G,cE,fH⟩:=cL.local_ bT.o (Nr _) ω;have eV:=Lh cK;have R:=Lh G;have eJ:=Lh (dE.nz.trans cE.nz);have aK:Hid (L.heap[(w:Nat)+1]?=ς (χ Bz 34 (0,0))/\c1 ((w:Nat)+1)=14):=Lh ⟨(bT.o.block _ ω).trans R1,(cE.old _ ω).trans dJ⟩;have HZ:=@Lh ((W:Nat)=(w:Nat)+2/\(L:Nat)=(w:Nat)+3) ω;have A:=Lh (ϟ hm (ϟ hn (ϟ hr (ϟ he (ϟ dN (ϟ dK (ϟ hf dQ)))))));have zM:(W:Nat)<L:=ω;have J:=AO cK;clear R0 R1 dD dJ cL dE G cE fH P fZ cQ dL dQ hv hm hn hr he dN dK hf fJ h cK fK;go_enter func109,ntmps109;go_upto_region 1 with fail;rw [<-hW];clear hW;go_upto_region 2 with fail;rw [<-bD];clear bD x0 x1 b3 i1
 go_cut [19] (λb wx=>b=.bool (endB5 f m)/\Hid (Below L L wx))
 case first=>
  by_cases o:f=0
  .have d0:(f == 0)=true:=by simp [o]
   have HE:=@Lh (endB5 f m=Cs m) (by simp [endB5,o]);clear o;go_wp2_with fail;refine (UX m (σ ua m.J uc) W L (eN.o.ups Dx (Nr _) ((JT.mask _ _).trans (JT.below bT.o)))).mono ?_;rintro e w2 ⟨rfl,dI⟩;have eG:=Lh dI;clear dI J zM;go_wp2;go_meet
   case rel=>exact ⟨by rw [HE.o],eG⟩
  .have d0:(f == 0)=false:=by simp [o]
   have HE:=@Lh (endB5 f m=false) (by simp [endB5,o]);clear o;go_wp2;go_meet
   case rel=>exact ⟨by rw [HE.o],Lh Br⟩
 obtain ⟨rfl,aR⟩:=hcut;have cC:=Lh (R.o.grow aR.o);have aS:=Lh (eJ.o.trans (AT.ob aR.o Qx));have bC:=(aR.o.block _ (by have:=HZ.o;omega)).trans aK.o.1;have bR:=(aR.o.block _ zM).trans eV.o;have aV:=Lh bC;have bZ:=Lh bR;clear J zM;cases bQ:endB5 f m with
 | true=>obtain ⟨fF,fG,fN,fO,fX,fY,fP,fQ,fB,fC,fR,fU,eZ,fA,fD,fE,B,aB⟩:=st_ret cC.o aS.o bC aK.o.2 ω;have HP:=@Lh (endO5 s t f m n=s) (by unfold endO5;rw [if_pos bQ]);have cA:=Lh aB;obtain ⟨⟨x0,x1,x2,x3,x4,x5,x6,x7,x8,x9⟩,-,xz⟩:=Gk B;obtain ⟨⟨y0,y1,y2,y3,y4,y5,y6,y7,y8,y9⟩,⟨z0,z1,z2,z3,z4,z5,z6,z7,z8,z9⟩,zz⟩:=Gk bC;clear bC bR B aB bQ;go_wp2;exact ϖ (O5 (p:=6) rfl (CB aV.o _ _ _ _ _ _ _ _ _ _) _ rfl) rfl (by rw [HP.o];exact cA.o)
 | false=>
 have eM:=Lh bQ;have J:=AO bR;obtain ⟨kb,kc,b4,k0,fL,cP,fM,kn,-⟩:=cC.o.viewK A.o.2.1;have eR:=Lh kn;have i2:(t:Int)<(s.N:Int):=by have:=(Ll A.o.2.1);omega
 clear bC bR bQ fL cP fM kn;go_upto_region 4 with fail;refine Ac (λl=>l.cell? (π W 7)=ς (ι m.C)/\l.cell? (π w 4)=ς (σ (ς (π kb 0)) s.N kc)/\l.cell? (π kb t)=ς (ι n)) [10,11] true 12 rfl κ κ ⟨J.2.2.2.2.2.2.2.1,b4,k0⟩ ?_;refine softA ?_;have bY:=Lh (ϟ J.2.2.2.2.2.2.2.1 (ϟ b4 k0));clear J b4 k0;refine AH κ ?_;go_simp;refine ⟨Θ3 (AA _ _) bY.o,?_⟩;refine AH κ ?_;go_simp;refine BH ?_;obtain ⟨W4,bS⟩:=ε ((wc.alloc (χ #[ι f,ι 0,ι m.C,ι n,ι 0] 84)).drew);have bU:Below wc wc W4:=by rw [bS];exact Cb _ _
 have hO:W4.heap[(wc:Nat)]?=ς (χ #[ι f,ι 0,ι m.C,ι n,ι 0] 84 (0,0)):=by rw [bS];exact Hn wc _
 obtain ⟨c4,dO,cF,dM⟩:=cC.o.local_ bU (Nr _) (La hO);have dF:=(bU.block _ (La bZ.o)).trans bZ.o;have M:=Lh hO;have cY:=Lh dO;have S:Hid (c4 (wc:Nat)=14/\c4 ((w:Nat)+1)=14):=Lh ⟨dM,by
  have:=(La aV.o)
  rw [cF.old _ this];exact aK.o.2⟩
 have bV:=Lh (aS.o.trans cF.nz);have eU:=Lh ((bU.block _ (La aV.o)).trans aV.o);have cU:=Lh (Nt (Nt dH.o.size bT.o.size) aR.o.size);rw [<-bS];obtain ⟨i,F⟩:=ε (wc:Nat);rw [<-F] at M S cU ⊢;have o0:=Ω2 M.o;have fV:=Ψ 0 M.o;have fW:=Ψ 1 M.o;have J:=AO dF;have cJ:(W:Nat)≠i:=by have:=(La bZ.o);omega
 have bP:Hid (∀ (x y:Int) (V:Ϣ),AT (λt=>t=14) c4 c4 W4 V->V.heap.size=(W4:Nat)->(∀ k,k≠i->V.heap[k]?=W4.heap[k]?)->V.heap[i]?=ς (χ #[ι x,ι y,ι m.C,ι n,ι 0] 84 (0,0))->∃ g:A1,Au V g w s/\AT NZ c g w V/\g ((w:Nat)+1)=14/\V.heap[(w:Nat)+1]?=ς (χ Bz 34 (0,0))/\V.heap[i]?=ς (χ #[ι x,ι y,ι m.C,ι n,ι 0] 84 (0,0))/\g i=14):=Lh (λx y V hP hz ho hr=>by
  have K:=bV.o;have h2:=(La aV.o)
  exact ⟨c4,cY.o.chg hP (λb O=>cY.o.lab.2.2.1 b (by rw [<-hz];exact O)) (λt ht=>ht),⟨hP.os.trans K.os,hP.tape.trans K.tape,hP.output.trans K.output,by rw [hz];exact K.size,λb O hn=>by rw [ho b (by have:=cU.o;omega)];exact K.kp b O hn,K.old,Qx⟩,S.o.2,by rw [ho _ ω];exact eU.o,hr,S.o.1⟩)
 clear bS bU hO dO cF dM dF F i2;go_upto_if 32 with fail
 go_cut [] (λwx=>Hid (∃ g:A1,Au wx g w s/\AT NZ c g w wx/\g ((w:Nat)+1)=14/\wx.heap[(w:Nat)+1]?=ς (χ Bz 34 (0,0))/\wx.heap[i]?=ς (χ #[ι (if f=0 then m.Q.X else f),ι (if f=0/\m.Q.K=4 then m.Q.V else 0),ι m.C,ι n,ι 0] 84 (0,0))/\g i=14))
 case first=>
  by_cases o:f=0
  .have d0:(f == 0)=true:=by simp [o]
   by_cases U:m.Q.K=4
   .have d4:(m.Q.K == 4)=true:=by simp [U]
    have H:=Lh (ϟ o U);clear o U;go_wp2;go_meet
    case rel=>rw [if_pos H.o.1,if_pos H.o];exact Lh (bP.o _ _ _ ((AT.set (T:=λt=>t=14) S.o.1 ω).trans (AT.set S.o.1 ω)) ψ (λk hk=>by rw [heap_setCell_other _ _ _ _ hk,heap_setCell_other _ _ _ _ hk]) (ϡ _ i 1 _ _ (ι m.Q.V) (ϡ _ i 0 _ _ (ι m.Q.X) M.o)))
   .have d4:(m.Q.K == 4)=false:=by simp [U]
    have H:=Lh (ϟ o U);clear o U;go_wp2;go_meet
    case rel=>rw [if_pos H.o.1,if_neg (λh=>H.o.2 h.2)];exact Lh (bP.o _ _ _ (AT.set (T:=λt=>t=14) S.o.1 ω) ψ (λk hk=>heap_setCell_other _ _ _ _ hk) (ϡ _ i 0 _ _ (ι m.Q.X) M.o))
  .have d0:(f == 0)=false:=by simp [o]
   have H:=Lh o;clear o;go_wp2;go_meet
   case rel=>rw [if_neg H.o,if_neg (λh=>H.o h.1)];exact Lh (bP.o _ _ _ (AT.ob Br ω) rfl (λ_ _=>rfl) M.o)
 obtain ⟨g,dP,bB,bF,dG,cG,bE⟩:=hcut.o;have cZ:=Lh dP;have bW:=Lh bB;have bN:=Lh (ϟ bF dG);obtain ⟨Z,cI⟩:=ε ((if f=0 then m.Q.X else f));obtain ⟨vo,cN⟩:=ε ((if f=0/\m.Q.K=4 then m.Q.V else 0));rw [<-cI,<- cN] at cG;have aN:=Lh (ϟ cG bE);have bM:=Lh (ϟ cI cN);clear hcut dP bB bF dG cG bE cI cN o0 fV fW J cJ bP;have eY:=@Lh (Q9 ⟨Z,vo,m.C,n,0⟩) (by
  obtain ⟨⟨_,_,_,q4,q5⟩,_,q7,_⟩:=A.o.2.2.2.2.2.2.2;refine ⟨?_,?_,q7,eR.o,by unfold in64;simp⟩
  .rw [bM.o.1];split;exact q5;exact A.o.2.2.2.2.2.2.1
  .rw [bM.o.2];split;exact q4;unfold in64;simp)
 obtain ⟨X,fS,dY,gD,b0,o0,dS,dU,dW,bJ,aZ⟩:=cZ.o.viewO A.o.2.2.1;have dA:=Lh cZ.o.lab;have aT:=Lh (ϟ dS (ϟ dU dW));have eW:=Lh bJ;have eE:=Lh aZ;have i1:(t:Int)<(s.results:Int):=by have:=(Ll A.o.2.2.1);omega
 obtain ⟨g0,g1,g2,g3,g4⟩:=Ω5 aN.o.1;clear dS dU dW bJ aZ;go_upto_region 9 with fail;refine Ac (λl=>l.cell? (π w 6)=ς (σ (ς (π X 0)) s.results fS)/\l.cell? (π X t)=ς (σ dY r gD)/\l.cell? (π i 0)=ς (ι Z)/\l.cell? (π i 1)=ς (ι vo)/\l.cell? (π i 2)=ς (ι m.C)/\l.cell? (π i 3)=ς (ι n)/\l.cell? (π i 4)=ς (ι 0)) [9,10,12] true 13 rfl κ κ ⟨b0,o0,g0,g1,g2,g3,g4⟩ ?_;refine softA ?_;have I:=Lh (ϟ b0 (ϟ o0 (ϟ g0 (ϟ g1 (ϟ g2 (ϟ g3 g4))))));clear b0 o0 g0 g1 g2 g3 g4;refine AH κ ?_;go_simp;refine ⟨Θ7 (AA _ _) I.o,?_⟩;have C:AT NO g g wc (wc.alloc (χ #[ι Z,ι vo,ι m.C,ι n,ι 0] 84)).drew:=AT.ob (Cb wc _) (no 0);refine AH κ ?_;refine Dz (λk=>k=11+5*t) (.tmp 52) (.tmp 54) 78 84 rfl underlying78 JB rfl δ δ (c:=g) (tag:=11+5*t) (v:=σ dY r gD) (n:=r.length) (xs:=Dk r) rfl (eW.o.kp C (no _)) (π wc 0) 1 1 (Dw ⟨Z,vo,m.C,n,0⟩) rfl rfl (λj u hu=>(Cy wc _ _ j).trans (by simpa [Dw] using hu)) (by simp [Dw,Value.oneCell']) δ (by have:=A.o.2.2.2.2.1;omega) rfl ω (λb O=>dA.o.2.2.1 b (by simp at O;omega)) (λg0 aX eA d B a bG cH=>?_);have eT:=Lh B;have eH:=Lh a;have eO:=Lh bG;have F:¬g i=11+5*t:=by rw [aN.o.2];omega
 have q0:=a.cell (C.cell I.o.1 (no _)) (by show ¬g (w:Nat)=_;rw [dA.o.1];omega);have q1:=a.cell (C.cell I.o.2.1 (no _)) (by show ¬g X=_;rw [aT.o.1];omega);have q2:=a.cell (C.cell I.o.2.2.1 (no _)) F;have q3:=a.cell (C.cell I.o.2.2.2.1 (no _)) F;have q4:=a.cell (C.cell I.o.2.2.2.2.1 (no _)) F;have q5:=a.cell (C.cell I.o.2.2.2.2.2.1 (no _)) F;have q6:=a.cell (C.cell I.o.2.2.2.2.2.2 (no _)) F;have qf:=a.frozen (by have:=aT.o.2.1;show X<_;simp;omega) (C.frozen aT.o.2.1 (aT.o.2.2 t) (no _)) (by show ¬g X=_;rw [aT.o.1];omega);have eC:=Lh C;clear B a bG cH C F;refine ⟨.inl ⟨q0,q1,q2,q3,q4,q5,q6⟩,?_⟩;clear q0 q2 q3 q4 q5 q6;refine AH κ ?_;go_simp;refine BH ?_;clear q1 qf;obtain ⟨D,q⟩:=eE.o eA d (σ (ς (π g0 0)) (r.length+1) aX) ⟨Z,vo,m.C,n,0⟩ (eH.o.aft eC.o) eO.o eT.o eY.o;obtain ⟨bL,hw⟩:=ε (eA.setCell (π X t) (σ (ς (π g0 0)) (r.length+1) aX));rw [<-hw] at D q ⊢;have aW:=Lh D;have cS:=Lh q;clear hw D q;obtain ⟨z,G⟩:∃ x:A3,x={ s with results:=s.results.modify t (·++[⟨Z,vo,m.C,n,0⟩]) }:=⟨_,rfl⟩
 rw [<-G] at aW;have eK:=Lh G;have cV:=@Lh (z.P[t]?=ς e) (by rw [G];exact A.o.2.2.2.1);have eS:=@Lh (z.R[t]?=ς m) (by rw [G];exact A.o.1);have eQ:=@Lh (z.N[t]?=ς n) (by rw [G];exact A.o.2.1);have i3:(t:Int)<(z.P:Int):=by have:=(Ll cV.o);omega
 clear G i1;obtain ⟨Y,fT,dZ,gE,b1,o1,dT,dV,dX,bK,bA⟩:=aW.o.viewE cV.o;have b9:=aW.o.U.1;have cD:=Lh aW.o.lab;have aU:=Lh (ϟ dT (ϟ dV dX));have eX:=Lh bK;have eF:=Lh bA;clear dT dV dX bK bA;go_upto_region 10 with fail;refine Ac (λl=>l.cell? (π w 8)=ς (σ (ς (π Y 0)) z.P fT)/\l.cell? (π Y t)=ς (σ dZ e gE)/\l.cell? (π w 9)=ς (ι z.U)) [10,11,13] true 14 rfl κ κ ⟨b1,o1,b9⟩ ?_;refine softA ?_;have R:=Lh (ϟ b1 (ϟ o1 b9));clear b1 o1 b9;refine AH κ ?_;go_simp;refine ⟨Θ3 (AA _ _) R.o,?_⟩;have N:AT NO d d bL (bL.alloc (χ #[ι z.U] 3)).drew:=AT.ob (Cb bL _) (no 0);refine AH κ ?_;refine Dz (λk=>k=13+5*t) (.tmp 64) (.tmp 67) 22 3 rfl underlying22 Cx rfl δ δ (c:=d) (tag:=13+5*t) (v:=σ dZ e gE) (n:=e.length) (xs:=e.map (Value.int .i64)) rfl (eX.o.kp N (no _)) (π bL 0) 1 1 ([ι z.U]) rfl rfl (λj u hu=>(Cy bL _ _ j).trans (by simpa [Dw] using hu)) (by simp [Dw,Value.oneCell']) δ (by have:=A.o.2.2.2.2.2.1;omega) rfl ω (λb O=>cD.o.2.2.1 b (by simp at O;omega)) (λg1 aY eB gC B a bG cH=>?_);have cB:=Lh B;have eI:=Lh a;have eP:=Lh bG;have q0:=a.cell (N.cell R.o.1 (no _)) (by show ¬d (w:Nat)=_;rw [cD.o.1];omega);have q1:=a.cell (N.cell R.o.2.1 (no _)) (by show ¬d Y=_;rw [aU.o.1];omega);have q2:=a.cell (N.cell R.o.2.2 (no _)) (by show ¬d (w:Nat)=_;rw [cD.o.1];omega);have qf:=a.frozen (by have:=aU.o.2.1;show Y<_;simp;omega) (N.frozen aU.o.2.1 (aU.o.2.2 t) (no _)) (by show ¬d Y=_;rw [aU.o.1];omega);have eD:=Lh N;clear B a bG cH N;refine ⟨.inl ⟨q0,q1,q2⟩,?_⟩;clear q0 q2;refine AH κ ?_;go_simp;refine BH ?_;clear q1 qf;obtain ⟨D,q⟩:=eF.o eB gC (σ (ς (π g1 0)) (e.length+1) aY) z.U (eI.o.aft eD.o) eP.o cB.o aW.o.U.2;obtain ⟨cR,hw⟩:=ε (eB.setCell (π Y t) (σ (ς (π g1 0)) (e.length+1) aY));rw [<-hw] at D q ⊢;have dB:=Lh D;have cT:=Lh q;clear hw D q;obtain ⟨Q,bH⟩:∃ x:A3,x={ z with P:=z.P.modify t (·++[z.U]) }:=⟨_,rfl⟩
 rw [<-bH] at dB;have eL:=Lh bH;have cX:=@Lh (Q.R[t]?=ς m) (by rw [bH];exact eS.o);have cW:=@Lh (Q.N[t]?=ς n) (by rw [bH];exact eQ.o);have i4:(t:Int)<(Q.R:Int):=by have:=(Ll cX.o);omega
 have i5:(t:Int)<(Q.N:Int):=by have:=(Ll cW.o);omega
 clear bH i3;obtain ⟨rb,rc,dR,gA,fa,fc,r3,k4,E,bI,cQ,cP,cJ,fI,P,y1,D,q⟩:=dB.o.viewRK cX.o cW.o;obtain ⟨w3,cO⟩:=ε ((GK cR rb (t*9) (FW ν AI)).setCell (π dR t) (ι 0));rw [<-cO] at D q;have dC:=Lh D;have z0:=E (t*9);have z1:=E (t*9+1);have z2:=E (t*9+2);have z3:=E (t*9+3);have z4:=E (t*9+4);have z5:=E (t*9+5);have z6:=E (t*9+6);have z7:=E (t*9+7);have z8:=E (t*9+8);have y0:=bI t;have x0:cR.cell? (π rb (t*9))=ς (σ fa m.J fc):=P 0 _ rfl;have x1:=Γ9 P;have bX:=Lh (((bW.o.trans cS.o).trans cT.o).trans q);have bO:=@Lh (w3.heap[(w:Nat)+1]?=ς (χ Bz 34 (0,0))/\gC ((w:Nat)+1)=14) (by
  have hl:=(La bN.o.2)
  have a:=(cS.o.trans cT.o).trans q;exact ⟨(a.kp _ hl (by rw [bN.o.1];exact Io)).trans bN.o.2,(a.old _ hl).trans bN.o.1⟩)
 clear E bI D q P;go_upto_region 13 with fail;change Code.wp _ _ _ _ ((GK cR rb (t*9) (FW ν AI)).setCell (π dR t) (ι 0));rw [<-cO];clear cO z0 z1 z2 z3 z4 z5 z6 z7 z8 y0 y1 x0 x1 r3 k4 cJ fI cQ cP;obtain ⟨s3,cM⟩:∃ x:A3,x={ Q with R:=Q.R.set t AI,N:=Q.N.set t 0 }:=⟨_,rfl⟩
 rw [<-cM] at dC;have HP:=@Lh (endO5 s t f m n=s3) (by
  have K:=eM.o;unfold endO5;rw [if_neg (by rw [K];simp),cM,eL.o,eK.o,<- bM.o.1,<- bM.o.2];rfl)
 clear cM;obtain ⟨fF,fG,fN,fO,fX,fY,fP,fQ,fB,fC,fR,fU,eZ,fA,fD,fE,B,aB⟩:=st_ret dC.o bX.o bO.o.1 bO.o.2 ω;have cA:=Lh aB;obtain ⟨⟨x0,x1,x2,x3,x4,x5,x6,x7,x8,x9⟩,-,xz⟩:=Gk B;obtain ⟨⟨y0,y1,y2,y3,y4,y5,y6,y7,y8,y9⟩,⟨z0,z1,z2,z3,z4,z5,z6,z7,z8,z9⟩,zz⟩:=Gk bO.o.1;clear B aB;go_wp2;exact ϖ (O5 (p:=6) rfl (CB bO.o.1 _ _ _ _ _ _ _ _ _ _) _ rfl) rfl (by rw [HP.o];exact cA.o)
def runT (s:A3) (t:Nat) (m:AV):A3:={ s with R:=s.R.set t m }
def cells_laid {x y z:ϒ} {T:TypeId} (h:w.heap[k]?=ς (χ #[x,y,z] T (0,0))):w.cell? (π k 0)=ς x/\w.cell? (π k 1)=ς y/\w.cell? (π k 2)=ς z:=(VE h).1
def rBegun_any (cd:AQ) (cv:ϒ) (B:Nat) (s:A3) (V:TV) (c:A1) (t:Nat) (m0:AV) (n:Int) (l:List Bi) (r:List CD) (b e:List Int) (w:Ϣ) (hs:AU cd) (fF:Bv cd) (hB:B<=w) (hc:BF B w cv cd) (fE:∀ b,b<B->¬NZ (c b)) (h:TK NO w c s V) (hp:Pf cd s t m0 n l r b e) (fD:m0.J=[]->Cu m0=true) :
  Calls prog 74 #[cv,.agg (Wq V s),ι t] w λz w'=>∃ m D,Nu cd s t m0 m D/\ThrR (runT D t m) c w z w':=by
 obtain ⟨fv,gv,rfl,hf,hg,bV⟩:=id hc;obtain ⟨fa,fc,rfl⟩:=hf.form;obtain ⟨qa,qc,rfl⟩:=hg.form;obtain ⟨ga,gc,ma,mc,ra,rc,na,nc,ca,cc,oa,oc,ba,bc,ea,ec,hv⟩:=h.opened;rw [hv];obtain ⟨W,K⟩:=ε (((w.alloc (χ (Bc fa fc qa qc cd) 25)).alloc (χ (Bt ga gc ma mc ra rc na nc ca cc oa oc ba bc ea ec s) 34)).alloc (χ Bz 34));have bT:=Lh (bl3 K);have eK:=sz3 K;have C0:=ro31 K;have R0:W.heap[(w:Nat)+1]?=ς (χ (Wq V s) 34 (0,0)):=by rw [hv,K,Ha _ _ _ ψ];have:=Hn (w.alloc (χ (Bc fa fc qa qc cd) 25)) (χ (Bt ga gc ma mc ra rc na nc ca cc oa oc ba bc ea ec s) 34);simpa using this
 have R1:=ro33 K;obtain ⟨f,bX,cN,bS⟩:=st_box h bT.o R0 ω;have cP:=bS ((w:Nat)+1+1) ω ω ω;have cO:=bS (w:Nat) (Nr _) ω ω;obtain ⟨HS,dH,N,cH,HC,o⟩:=Λ6 bX cN.nz (ϟ R1 cP) (ϟ C0 cO) hc hp;have HI:=Lh fD;have i0:=In t;have i1:(t:Int)<(s.R:Int):=by have:=(Ll hp.hm);omega
 obtain ⟨rb,fA,ua,uc,b3,L,bA,bC,-,cQ,eL,-⟩:=bX.viewR hp.hm;have dL:=Lh cQ;have x0:W.cell? (π rb (t*9))=ς (σ ua m0.J uc):=L 0 _ rfl;have x1:=Γ9 L;clear hf hg bV hc fE hp fD h bX cN bS cP cO R0 R1 C0 L bA bC cQ eL hv eK;go_enter func74,ntmps74;go_upto_region 1 with fail;rw [<-K];clear K;go_wp2_with fail;refine (Ma m0 (σ ua m0.J uc) W W (Nr _) (dL.o.ups Dx (Nr _) (JT.mask _ _))).mono ?_;rintro e1 w1 ⟨rfl,aV⟩;have bH:=Lh aV;have P:=Lh (HS.o.grow aV);have aN:=Lh (dH.o.trans (AT.ob aV Qx));have Z:=(aV.block _ (La N.o.1)).trans N.o.1;have bM:=Lh Z;clear aV x0 x1 b3;by_cases I:m0.J=[]
 rotate_left
 .have hI:Cu m0=false:=by unfold Cu;simp [I]
  obtain ⟨y,C⟩:=ε (runT s t m0:A3);have J:s=y:=by rw [C];unfold runT;rw [Uu o.o.hm]
  obtain ⟨eE,eF,eM,eN,eT,eV,eO,eP,dW,dY,eQ,eR,dU,dV,eC,eD,A,T⟩:=st_ret P.o aN.o Z N.o.2 ω;have bL:Hid (∃ m D,Nu cd s t m0 m D/\ThrR (runT D t m) c w _ _):=Lh ⟨m0,s,.inl ⟨I,rfl,rfl⟩,by rw [<-C,<- J];exact T⟩;obtain ⟨⟨x0,x1,x2,x3,x4,x5,x6,x7,x8,x9⟩,-,xz⟩:=Gk A;obtain ⟨⟨y0,y1,y2,y3,y4,y5,y6,y7,y8,y9⟩,⟨z0,z1,z2,z3,z4,z5,z6,z7,z8,z9⟩,zz⟩:=Gk Z;rw [hI];clear C J A T Z I hI i1;go_wp2;exact ϖ (O5 (p:=6) rfl (CB bM.o _ _ _ _ _ _ _ _ _ _) _ rfl) rfl bL.o
 rw [HI.o I];obtain ⟨x,g,rfl,hg⟩:∃ x g,l=x::g/\AS cd x s.Y=0:=by
  rcases o.o.head with ⟨_,h⟩|⟨h,_⟩
  .exact h
  .exact absurd I h
 have dK:=Lh I;have HG:=Lh hg;have aE:=(bH.o.block _ (La cH.o.1)).trans cH.o.1;obtain ⟨aY,aZ,fB,fC,b3,-,bA,bC,-,-,-,-⟩:=P.o.viewR o.o.hm;obtain ⟨cb,dX,la,lc,b5,y0,eA,eB,-,bU,-⟩:=P.o.viewC o.o.hl;have eY:=Lh bU;obtain ⟨lb,lo,rfl,eJ,⟨bZ,⟨av,cA,cB⟩,cU⟩⟩:=bU.nth (k:=0) rfl;rw [Nat.zero_mul,Nat.add_zero] at bZ cA;obtain ⟨xa,xc,rfl⟩:=cB.fm;have u0:=JT.mask w1 f _ _ bZ;have u1:=JT.mask w1 f _ _ cA;obtain ⟨b2,eI⟩:=P.o.Y;obtain ⟨g0,g1,g2⟩:=cells_laid aE;have i2:(t:Int)<(s.A:Int):=by have:=(Ll o.o.hl);omega
 have dR:Hid (∀ U,Below w1 w1 U->Calls prog 112 #[.agg (Bc fa fc qa qc cd),.agg #[.string x.proc,σ xa x.args xc],ι s.Y] U (λe w'=>∃ m E G,Cf cd (CF cd x s.Y) m/\e=.returned (.agg #[σ E m.J G,ι m.Q.K,ι m.Q.O,ι m.Q.D,ι m.Q.V,ι m.Q.X,ι m.Y,ι m.C,ι m.I])/\CE U (σ E m.J G) m w')):=Lh (λU hU=>by
  have eG:=(JT.mask w1 f).trans (JT.below hU);have S:=((bT.o.th bH.o).th hU).mono hB;have hz:=((bT.o.th bH.o).th hU).size;refine (PY cd _ x _ s.Y (U:Nat) U (Nr _) ((HC.o.below S).up (Nt hB hz)) ⟨_,rfl,cB.ups B5 hU.size eG,cU⟩ hs fF HG.o).mono ?_;rintro e w' ⟨m',fv,h1,rfl,F,k1,k2⟩;obtain ⟨E,G,rfl⟩:=k1.form;exact ⟨m',E,G,h1,rfl,F,k1,k2⟩)
 clear I hg aE bU bZ cA cB cU eI Z eA eB bA bC eJ;go_upto_region 2 with fail;refine Ac (λd=>d.cell? (π (w+1) 3)=ς (σ (ς (π aY 0)) s.R aZ)/\d.cell? (π w 0)=ς (σ fa cd.H fc)/\d.cell? (π w 1)=ς (ι cd.G)/\d.cell? (π w 2)=ς (σ qa cd.funcs qc)/\d.cell? (π (w+1) 5)=ς (σ (ς (π cb 0)) s.A dX)/\d.cell? (π cb t)=ς (Value.slice (ς (π lb lo)) (x::g).length lc)/\d.cell? (π lb lo)=ς (.string x.proc)/\d.cell? (π lb (lo+1))=ς (σ xa x.args xc)/\d.cell? (π (w+1) 2)=ς (ι s.Y)) [13,15] true 16 rfl κ κ ⟨b3,g0,g1,g2,b5,y0,u0,u1,b2⟩ ?_;refine softA ?_;have HK:=Lh (ϟ b3 (ϟ g0 (ϟ g1 (ϟ g2 (ϟ b5 (ϟ y0 (ϟ u0 (ϟ u1 b2))))))));clear b3 g0 g1 g2 b5 y0 u0 u1 b2 i1;refine AH κ ?_;go_simp;refine (dR.o _ (AG Br 1)).mono ?_;rintro e2 w2 ⟨m,E,G,hR,rfl,hN⟩;have S:=(AG Br 1).th hN.below;have cJ:=Lh hR;have HN:=Lh hN;have O:=Lh S;clear hR hN S;refine ⟨Θ9 O.o HK.o,?_⟩;have hE:=Jn hs HG.o cJ.o;have dP:=Lh (P.o.grow O.o);obtain ⟨eU,cF,eW,eX,bO,L,bA,bC,q,-,-,bB⟩:=dP.o.viewR o.o.hm;rw [AB O.o HK.o.1] at bO;obtain ⟨rfl,rfl⟩:aY=eU/\aZ=cF:=by simpa using bO
 have X:=Lh (bB m (σ E m.J G) (HN.o.fras P.o.lab.2.2.1 (hE.1.modest hs fF)) (RN hs (.inl hE.1) hE.2.1));have x0:w2.cell? (π aY (t*9))=ς (σ eW m0.J eX):=L 0 _ rfl;have x1:=Γ9 L;have z0:=q (t*9);have z1:=q (t*9+1);have z2:=q (t*9+2);have z3:=q (t*9+3);have z4:=q (t*9+4);have z5:=q (t*9+5);have z6:=q (t*9+6);have z7:=q (t*9+7);have z8:=q (t*9+8);clear bO L bA q bB hE;refine AH κ ?_;go_simp;refine BH ?_;clear x0 x1 z0 z1 z2 z3 z4 z5 z6 z7 z8 bC;change Exit.then _ _ _ _ (GK w2 aY (t*9) (FW (σ E m.J G) m));obtain ⟨w3,cT⟩:=ε (GK w2 aY (t*9) (FW (σ E m.J G) m));rw [<-cT] at X ⊢;obtain ⟨y,C⟩:=ε (runT s t m:A3);have dQ:=@Lh (Au w3 f (w+1) y) (by rw [C];exact X.o.1);have bJ:=Lh ((aN.o.trans (AT.ob O.o Qx)).trans X.o.2);have cI:=@Lh (w3.heap[(w:Nat)+1+1]?=ς (χ Bz 34 (0,0))) (by
  have hl:=(La bM.o)
  rw [X.o.2.kp _ (Nl hl O.o.size) (by rw [N.o.2];exact Io),O.o.block _ hl];exact bM.o)
 have dI:=Lh C;have bK:=@Lh (y.A[t]?=ς (x::g)/\y.Z[t]?=ς b) (by rw [C];exact ⟨o.o.hl,o.o.hb⟩);clear cT C X i2;obtain ⟨bP,dZ,eZ,cD,cK,dC,bQ,bR,aS,aH,aR⟩:=dQ.o.viewC bK.o.1;obtain ⟨cC,cE,rfl,-⟩:=aH.nth (k:=0) rfl;have dE:=Lh aR;have cz:=aS t;have i2:(t:Int)<(y.A:Int):=by have:=(Ll bK.o.1);omega
 have i4:(1:Int)<=(g:Int)+1:=ω;obtain ⟨pa,cS⟩:∃ a,(if cD=1 then ς ((π cC cE):Addr) else ς (π cC (cE+2)))=a:=⟨_,rfl⟩
 have dS:=Lh (aH.tail cS);clear aH aR aS bQ bR;go_upto_region 3 with fail;refine Ac (λd=>d.cell? (π (w+1) 5)=ς (σ (ς (π bP 0)) y.A dZ)/\d.cell? (π bP t)=ς (Value.slice (ς (π cC cE)) (x::g).length cD)) [10] true 11 rfl κ κ ⟨cK,dC⟩ ?_;refine softA ?_;refine AH κ ?_;go_simp;refine BH ?_;obtain ⟨M,bG⟩:=ε ((w3.setCell (π bP t) (σ pa g (cD - 1))).drew);rw [<-bG];obtain ⟨dA,cM⟩:=dE.o g _ dS.o;obtain ⟨i,J⟩:∃ x:A3,x={ y with A:=y.A.set t g }:=⟨_,rfl⟩
 have bE:=@Lh (Au M f (w+1) i) (by rw [bG,J];exact dA.grow (AG Br 1));have bI:=@Lh (AT NZ f f w3 M) (by rw [bG];exact cM.trans (AT.ob (AG Br 1) Qx));have dJ:=Lh J;have cG:=@Lh (i.Z[t]?=ς b) (by rw [J];exact bK.o.2);have i5:(t:Int)<(i.Z:Int):=by have:=(Ll cG.o);omega
 clear bG dA cM J i2 i4 cS cz cK dC;obtain ⟨Q,eS,cY,cZ,b8,o8,cV,cW,cX,bD,aT⟩:=bE.o.viewB cG.o;have b9:=bE.o.U.1;have bN:=Lh bE.o.lab;have Y:=Lh (ϟ cV (ϟ cW cX));have dT:=Lh bD;have dF:=Lh aT;clear cV cW cX bD aT;go_upto_region 4 with fail;refine Ac (λd=>d.cell? (π (w+1) 7)=ς (σ (ς (π Q 0)) i.Z eS)/\d.cell? (π Q t)=ς (σ cY b cZ)/\d.cell? (π (w+1) 9)=ς (ι i.U)) [10,11,13] true 14 rfl κ κ ⟨b8,o8,b9⟩ ?_;refine softA ?_;have aL:=Lh (ϟ b8 (ϟ o8 b9));clear b8 o8 b9;refine AH κ ?_;go_simp;refine ⟨Θ3 (AA _ _) aL.o,?_⟩;have H:AT NO f f M (M.alloc (χ #[ι i.U] 3)).drew:=AT.ob (Cb M _) (no 0);refine AH κ ?_;refine Dz (λk=>k=12+5*t) (.tmp 45) (.tmp 48) 22 3 rfl underlying22 Cx rfl δ δ (c:=f) (tag:=12+5*t) (v:=σ cY b cZ) (n:=b.length) (xs:=b.map (Value.int .i64)) rfl (dT.o.kp H (no _)) (π M 0) 1 1 ([ι i.U]) rfl rfl (λj u hu=>(Cy M _ _ j).trans (by simpa [Dw] using hu)) (by simp [Dw,Value.oneCell']) δ (by have:=o.o.bl;omega) rfl ω (λb S=>bN.o.2.2.1 b (by simp at S;omega)) (λg8 aQ dB cL A R cR eH=>?_);have dO:=Lh A;have dG:=Lh R;have dM:=Lh cR;have q0:=R.cell (H.cell aL.o.1 (no _)) (by show ¬f ((w:Nat)+1)=_;rw [bN.o.1];omega);have q1:=R.cell (H.cell aL.o.2.1 (no _)) (by show ¬f Q=_;rw [Y.o.1];omega);have q2:=R.cell (H.cell aL.o.2.2 (no _)) (by show ¬f ((w:Nat)+1)=_;rw [bN.o.1];omega);have qf:=R.frozen (by have:=Y.o.2.1;show Q<_;simp;omega) (H.frozen Y.o.2.1 (Y.o.2.2 t) (no _)) (by show ¬f Q=_;rw [Y.o.1];omega);have dD:=Lh H;clear A R cR eH H;refine ⟨.inl ⟨q0,q1,q2⟩,?_⟩;clear q0 q2;refine AH κ ?_;go_simp;refine BH ?_;clear q1 qf;obtain ⟨st,cg⟩:=dF.o dB cL (σ (ς (π g8 0)) (b.length+1) aQ) i.U (dG.o.aft dD.o) dM.o dO.o bE.o.U.2;obtain ⟨w5,hw⟩:=ε (dB.setCell (π Q t) (σ (ς (π g8 0)) (b.length+1) aQ));rw [<-hw] at st cg ⊢;obtain ⟨s5,bY⟩:∃ x:A3,x={ i with Z:=i.Z.modify t (·++[i.U]) }:=⟨_,rfl⟩
 rw [<-bY] at st;have aX:=(bJ.o.trans bI.o).trans cg;have bW:=(La cI.o)
 have bF:w5.heap[(w:Nat)+1+1]?=ς (χ Bz 34 (0,0)):=by rw [(bI.o.trans cg).kp _ bW (by rw [N.o.2];exact Io)];exact cI.o
 have aW:cL ((w:Nat)+1+1)=14:=by rw [(bI.o.trans cg).old _ bW];exact N.o.2
 obtain ⟨eE,eF,eM,eN,eT,eV,eO,eP,dW,dY,eQ,eR,dU,dV,eC,eD,A,T⟩:=st_ret st aX bF aW ω;have bL:Hid (∃ m D,Nu cd s t m0 m D/\ThrR (runT D t m) c w _ _):=Lh ⟨m,XD s t g,.inr ⟨dK.o,x,g,o.o.hl,cJ.o,rfl⟩,by
  have e:runT (XD s t g) t m=s5:=by rw [bY,dJ.o,dI.o];rfl
  rw [e];exact T⟩
 have dN:=Lh bF;obtain ⟨⟨x0,x1,x2,x3,x4,x5,x6,x7,x8,x9⟩,-,xz⟩:=Gk A;obtain ⟨⟨y0,y1,y2,y3,y4,y5,y6,y7,y8,y9⟩,⟨z0,z1,z2,z3,z4,z5,z6,z7,z8,z9⟩,zz⟩:=Gk bF;clear hw st cg bY aX bW bF aW A T i5;go_wp2;exact ϖ (O5 (p:=6) rfl (CB dN.o _ _ _ _ _ _ _ _ _ _) _ rfl) rfl bL.o
