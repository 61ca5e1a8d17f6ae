import Derived.Test.YtiejafonjemioaaGreatDoorRcp
import Derived.Test.YtiejafonjemioaaGreatDoorRsp
import Derived.Test.YtiejafonjemioaaGreatDoorRth
import Derived.Test.YtiejafonjemioaaGreatDoorAwx
set_option maxHeartbeats 8000000
set_option maxRecDepth 1000000
set_option linter.all false
open Go renaming World→Ϣ,Value→ϒ,Calls→ϙ,bodyPost_ret→ϖ
open Go.RowKit renaming Below→ϐ
open Option renaming some→ς
open And renaming intro→ϟ
open Go.Value renaming slice→σ
open Go.Obj renaming cells→χ
namespace Go.Proofs.YtiejafonjemioaaGreatDoor
open Go.RowKit Proofs.Tryz
variable {s:A3} {B t:Nat} {w w':Ϣ} {c cd:AQ} {m:AV} {V:TV} {e:Ending}
def Wo {u:ϒ} (r:B<=w) (hs:CJ B w u s) :
  ∃ (g:Option Addr) (h:Nat) (i:Option Addr) (j:Nat) (o:Option Addr) (p:Nat) (k:Option Addr) (l:Nat) (c:Option Addr) (d:Nat) (m:Option Addr) (n:Nat) (a:Option Addr) (b:Nat) (e:Option Addr) (f:Nat) (W:Ϣ),
   u=.agg (Bt g h i j o p k l c d m n a b e f s)/\
   W=w.alloc (χ (Bt g h i j o p k l c d m n a b e f s) 34)/\
   Hid (∀ V,ϐ W W V->V.heap[(w:Nat)]?=ς (χ (Bt g h i j o p k l c d m n a b e f s) 34 (0,0))/\CJ B V (.agg (Bt g h i j o p k l c d m n a b e f s)) s/\ϐ w w V/\B<=V.heap.size):=by
 obtain ⟨g,h,i,j,o,p,k,l,c,d,m,n,a,b,e,f,rfl⟩:=hs.open_;refine ⟨g,h,i,j,o,p,k,l,c,d,m,n,a,b,e,f,_,rfl,rfl,Lh (λV t=>?_)⟩;have q:=(AA w _).th t;exact ⟨(t.block _ ψ).trans (Hn _ _),hs.below (q.mono r),q,Nt r q.size⟩
def XI (h:Bu c s) {l:List Bi} (d:s.R[t]?=ς m) (hl:s.A[t]?=ς l):(decide (0<l.length) || !Cu m)=Qw s t:=by
 obtain ⟨y,n,x,r,b,e,f,p,q,u,v,w,j⟩:=h.at_ (Ll d);rw [d] at f;cases f;unfold Qw;rw [d,hl];dsimp only;rw [Bool.or_comm]
 congr 1
 rcases j.head with ⟨a,-⟩|⟨a,o,k,-⟩
 .rw [a,El a];rfl
 .rw [a]
  rcases o.body with ⟨i,g⟩|⟨i,-⟩
  .exfalso
   have:=FB k;unfold DT at g;simp [this.1,this.2] at g
  .have:0<m.J.length:=Nat.pos_of_ne_zero (λh=>i (List.length_eq_zero_iff.1 h))
   simp [this]
def WG (s:A3) (f:Bu c s) (F:ϒ) (t:Nat) (B:Nat) (w:Ϣ) (K:B<=w) (hs:CJ B w F s) (k:t<s.R.length) :
  ϙ prog 65 #[F,ι t] w λe w'=>e=.returned (.bool (Qw s t))/\ϐ w w w':=by
 obtain ⟨ga,gc,ma,mc,ra,rc,na,nc,ca,cc,oa,oc,ba,bc,ea,ec,W,rfl,b,H⟩:=Wo K hs;obtain ⟨m,j⟩:∃ m,s.R[t]?=ς m:=⟨_,Lg k⟩
 obtain ⟨l,i⟩:∃ l,s.A[t]?=ς l:=⟨_,Lg (by rw [f.A];exact k)⟩
 have o:=Lh (XI f j i);obtain ⟨p,v,y,r⟩:=H.o W Br;obtain ⟨-,-,E,-,D,-⟩:=v.parts;obtain ⟨rb,ro,rfl,J,x⟩:=E.nth j;obtain ⟨cb,co,rfl,I,lv,n,C⟩:=D.nth i;obtain ⟨la,lc,rfl⟩:=C.fm;obtain ⟨uv,u4,A,L,M,N,O,P,Q,R,S,-⟩:=x.nine;obtain ⟨ua,uc,rfl⟩:=u4.fm;rw [Nat.mul_one] at n;obtain ⟨⟨T,U,V,X,Y,Z,x6,x7,x8,x9⟩,-,xz⟩:=Gk p;have a:=Lh (ϟ u4 (ϟ y r));have i0:=In t;have i1:(t:Int)<(s.R:Int):=ω;have i2:(t:Int)<(s.A:Int):=by rw [f.A];omega
 have zr:=Bl A;have zl:=Bl n;clear p v y r E D J x I C u4 hs f j i k;by_cases h0:0<l.length
 .have d:=η (0<(l:Int))
  have h:=η (0<l.length);go_enter func65,ntmps65;go_upto_region 1 with fail;rw [<-b];clear b;go_wp2;go_ret;exact ⟨by rw [<-o.o,h];rfl,a.o.2.1⟩
 .have d:=θ (0<(l:Int))
  have h:=θ (0<l.length);go_enter func65,ntmps65;go_upto_region 1 with fail;rw [<-b];clear b;go_wp2_with fail;refine (Ma m _ B _ a.o.2.2 a.o.1).mono ?_;rintro e1 w1 ⟨rfl,u⟩;have G:=Lh (a.o.2.1.th u);have g:=o.o;rw [h] at g;have q:=Lh g;clear u g;cases z:Cu m;all_goals
   rw [z] at q;clear z A L M N O P Q R S n T U V X Y Z x6 x7 x8 x9 xz zr zl;go_wp2;go_ret;exact ⟨by rw [<-q.o];rfl,G.o⟩
def canR (s:A3) (t:Int):Int:=if Cg s t≠0 then Cg s t else if 65536<=s.U then 6 else 0
def rCan_any (s:A3) (x:Bu c s) (y:ϒ) (t:Int) (B:Nat) (w:Ϣ) (O:B<=w) (hs:CJ B w y s) :
  ϙ prog 26 #[y,ι t] w λe w'=>e=.returned (ι (canR s t))/\ϐ w w w':=by
 obtain ⟨Y,Z,ma,mc,ra,rc,na,nc,S,T,oa,oc,Q,R,V,X,W,rfl,d,K⟩:=Wo O hs;obtain ⟨q,u,v,r⟩:=K.o W Br;obtain ⟨⟨z,A,C,D,E,F,G,H,I,p⟩,-,J⟩:=Gk q;have L:=Lh x;have f:=Lh (ϟ u (ϟ v r));clear q u v r hs x;by_cases a:t<0
 .have b:=@Lh (canR s t=2) (by unfold canR Cg;rw [if_pos a];rfl)
  have M:=η (t<0) a;clear a;go_enter func26,ntmps26;go_upto_region 1 with fail;rw [<-d];clear d;go_wp2;go_ret;exact ⟨by rw [b.o];rfl,f.o.2.1⟩
 have M:=θ (t<0) a;by_cases i:(s.R:Int)<=t
 .have b:=@Lh (canR s t=2) (by unfold canR Cg;rw [if_neg a,if_pos i];rfl)
  have N:=η ((s.R:Int)<=t);clear a i;go_enter func26,ntmps26;go_upto_region 1 with fail;rw [<-d];clear d;go_wp2;go_ret;exact ⟨by rw [b.o];rfl,f.o.2.1⟩
 have N:=θ ((s.R:Int)<=t);obtain ⟨n,rfl⟩:∃ n:Nat,t=n:=⟨t.toNat,ω⟩
 have o:n<s.R.length:=ω;have U:=θ (s.R.length<=n);have j:=Lh (WG s L.o _ n B W f.o.2.2 f.o.1 o);cases h:Qw s n with
 | false=>have b:=@Lh (canR s n=14) (by unfold canR Cg;rw [if_neg a,if_neg i,Int.toNat_natCast,h];rfl);rw [h] at j;clear a i o h;go_enter func26,ntmps26;go_upto_region 1 with fail;rw [<-d];clear d;go_wp2_with fail;refine j.o.mono ?_;rintro e P ⟨rfl,g⟩;have k:=Lh (f.o.2.1.th g);clear g z A C D E F G H I p J;go_wp2;go_ret;exact ⟨by rw [b.o];rfl,k.o⟩
 | true=>
  have b:=@Lh (canR s n=if 65536<=s.U then 6 else 0) (by unfold canR Cg;rw [if_neg a,if_neg i,Int.toNat_natCast,h];rfl);rw [h] at j;clear a i o h;go_enter func26,ntmps26;go_upto_region 1 with fail;rw [<-d];clear d;go_wp2_with fail;refine j.o.mono ?_;rintro e P ⟨rfl,g⟩;have k:=Lh (f.o.2.1.th g);have y9:=AB g p;clear g z A C D E F G H I p J;by_cases l:65536<=s.U
  .have d5:=η ((65536:Int)<=s.U)
   have m:=@Lh (canR s n=6) (by rw [b.o,if_pos l]);clear l;go_wp2;go_ret;exact ⟨by rw [m.o];rfl,k.o⟩
  .have d5:=θ ((65536:Int)<=s.U)
   have m:=@Lh (canR s n=0) (by rw [b.o,if_neg l]);clear l;go_wp2;go_ret;exact ⟨by rw [m.o];rfl,k.o⟩
def tk_put {c:A1} {R:Nat} (h:TK NO w c s V) (m:c R=14) (v0 v1 v2 v3 v4 v5 v6 v7 v8 v9:ϒ):TK NO (B7 w R v0 v1 v2 v3 v4 v5 v6 v7 v8 v9) c s V:=by
 have k:AT (λt=>t=14) c c w (B7 w R v0 v1 v2 v3 v4 v5 v6 v7 v8 v9):=D7 m ω;have K:=h.kept k (λb f=>h.hi b (by rw [FH] at f;exact f));exact ⟨K.hi,λ_=>K.g (DU δ),λ_=>K.n (DU δ),λi x n=>by
  obtain ⟨o,a,d,g,j⟩:=K.nn i x n;exact ⟨o,a,d,g,λ_=>j (DU ω)⟩,λ_=>K.r (DU δ),K.rr,λ_=>K.k (DU δ),λ_=>K.cr (DU δ),K.cl,λ_=>K.o (DU δ),λt l e=>by
  obtain ⟨v,a,d⟩:=K.ol t l e;exact ⟨v,a,λ_=>d (DU ω)⟩,λ_=>K.b (DU δ),λt l e=>by
  obtain ⟨v,a,d⟩:=K.bl t l e;exact ⟨v,a,λ_=>d (DU ω)⟩,λ_=>K.e (DU δ),λt l e=>by
  obtain ⟨v,a,d⟩:=K.el t l e;exact ⟨v,a,λ_=>d (DU ω)⟩,K.f64,K.s64⟩
def old_nz {n b:Nat}:¬NZ (oldC B n b):=by unfold oldC;split;exact Io;exact Qx
def Bu.idle0 (h:Bu c s) (g:s.R[t]?=ς m) (j:m.J=[]):Cu m=true:=by
 obtain ⟨z,n,l,r,b,e,a,u,v,w,x,y,i⟩:=h.at_ (Ll g);rw [g] at a;cases a;rcases i.head with ⟨k,-⟩|⟨-,o,d,-⟩
 .exact k
 .exfalso
  obtain ⟨q,f,p⟩:=o.waits (FB d).1 (FB d).2;have:=p.fr;rw [j] at this;simp at this
def rStepX_any (cd:AQ) (cv sv:ϒ) (s:A3) (t B:Nat) (w:Ϣ) (Q:B<=w) (S:Bv cd) (u:Bu cd s) (hc:BF B w cv cd) (hs:CJ B w sv s) (k:Cg s t=0) :
  ϙ prog 27 #[cv,sv,ι t] w λe w'=>ϐ B w w'/\∃ a v,Dg cd s t a/\e=.returned v/\CJ w' w' v a:=by
 obtain ⟨fv,gv,rfl,hf,hg,bB⟩:=id hc;obtain ⟨fa,fc,rfl⟩:=hf.form;obtain ⟨qa,qc,rfl⟩:=hg.form;obtain ⟨ga,gc,ma,mc,ra,rc,na,nc,ca,cc,oa,oc,ba,bc,ea,ec,rfl⟩:=hs.open_;obtain ⟨m0,n,l,r,b,e,hp⟩:=u.stepOk k;have bG:=λh=>u.idle0 hp.hm h;obtain ⟨W,m⟩:=ε (((w.alloc (χ (Bc fa fc qa qc cd) 25)).alloc (χ (Bt ga gc ma mc ra rc na nc ca cc oa oc ba bc ea ec s) 34)).alloc (χ Bz 34));have i:=Lh (bl3 m);have bH:=sz3 m;have C0:=ro31 m;have R0:=ro32 m;have R1:=ro33 m;have bJ:=@Lh (ϙ prog 73 #[.agg (Bt ga gc ma mc ra rc na nc ca cc oa oc ba bc ea ec s)] W.drew (ThrR s (oldC B (W:Nat)) W.drew)) (rCopy45_any s _ B W.drew (Nt Q i.o.size) (hs.below ((i.o.trans (AG Br 1 |>.mono i.o.size)).mono Q)) (u.copyOk S));have bN:=@Lh (∀ (U:Ϣ) (V:TV) (P:A1),ϐ B W U->TK NO U P s V->(∀ b,b<B->P b=0)->(W:Nat)<=U->ϙ prog 72 #[.agg (Bc fa fc qa qc cd),.agg (Wq V s),ι t] U (λz w'=>∃ a,Dg cd s t a/\ThrR a P U z w')) (λU V P hU hK h0 hz=>rStep5_any cd _ B s V P t m0 n l r b e U u.sound S (by have:=i.o.size;omega) (hc.below ((i.o.mono Q).trans hU)) (λb R=>by rw [h0 b R];exact Qx) hK u.memOk hp bG);have bL:=Lh R1;have Z:=Lh bH;obtain ⟨⟨x0,x1,x2,x3,x4,x5,x6,x7,x8,x9⟩,-,xz⟩:=Gk R0;obtain ⟨g0,g1,g2⟩:=cells_laid C0;clear hf hg bB hc hs R0 R1 C0 bH hp bG k u;go_enter func27,ntmps27;go_upto_region 1 with fail;rw [<-m];clear m xz;refine Ac (λg=>g.cell? (π w 0)=ς (σ fa cd.H fc)/\g.cell? (π w 1)=ς (ι cd.G)/\g.cell? (π w 2)=ς (σ qa cd.funcs qc)/\g.cell? (π (w+1) 0)=ς (σ ga s.M.G gc)/\g.cell? (π (w+1) 1)=ς (σ ma s.M.N mc)/\g.cell? (π (w+1) 2)=ς (ι s.Y)/\g.cell? (π (w+1) 3)=ς (σ ra s.R rc)/\g.cell? (π (w+1) 4)=ς (σ na s.N nc)/\g.cell? (π (w+1) 5)=ς (σ ca s.A cc)/\g.cell? (π (w+1) 6)=ς (σ oa s.results oc)/\g.cell? (π (w+1) 7)=ς (σ ba s.Z bc)/\g.cell? (π (w+1) 8)=ς (σ ea s.P ec)/\g.cell? (π (w+1) 9)=ς (ι s.U)) [2,4,5] true 6 rfl κ κ ⟨g0,g1,g2,x0,x1,x2,x3,x4,x5,x6,x7,x8,x9⟩ ?_;refine softA ?_;have f:=Lh (ϟ g0 (ϟ g1 (ϟ g2 (ϟ x0 (ϟ x1 (ϟ x2 (ϟ x3 (ϟ x4 (ϟ x5 (ϟ x6 (ϟ x7 (ϟ x8 x9))))))))))));clear g0 g1 g2 x0 x1 x2 x3 x4 x5 x6 x7 x8 x9;refine AH κ ?_;go_simp;refine bJ.o.mono ?_;rintro z w2 ⟨V2,q,rfl,aY,j⟩;obtain ⟨bW,bX,bY,bZ,cE,cF,cA,cB,bS,bT,cC,cD,bQ,bR,bU,bV,bI⟩:=aY.opened;have X:ϐ W W w2:=(AG Br 1).trans ⟨j.os,j.tape,j.output,j.size,λb R=>j.kp b R old_nz⟩;have bD:=bN.o w2 V2 q (X.mono (Nt Q i.o.size)) aY (λb R=>by
  have:=i.o.size;rw [j.old b (by show b<W;omega)];exact if_neg ω) X.size
 rw [bI] at bD ⊢;have d:=Lh X;have bO:=Lh bD;have aE:Hid (∀ b,(w:Nat)<=b->b<(W:Nat)->q b=14):=Lh (λb h1 h2=>by
  rw [j.old b h2];exact if_pos ⟨ω,h2⟩)
 have bK:Hid (∀ b,b<B->¬NZ (q b)):=Lh (λb R=>by
  have:=i.o.size;rw [j.old b (by show b<W;omega)];exact old_nz)
 clear aY j bI X bD;refine ⟨Θ13 d.o f.o,?_⟩;refine AH κ ?_;go_simp;refine bO.o.mono ?_;rintro z Y ⟨a,hR,V3,c3,rfl,aZ,o⟩;obtain ⟨F,G,H,I,N,O,J,K,A,C,L,M,x,y,D,E,bE⟩:=aZ.opened;rw [bE];have bP:=d.o.size;have T:¬NZ (q (w:Nat))/\¬NZ (q ((w:Nat)+1))/\q ((w:Nat)+1+1)=14:=by have:=Z.o;exact ⟨by rw [aE.o _ (Nr _) ω];exact Io,by rw [aE.o _ ω ω];exact Io,aE.o _ ω ω⟩
 have bC:Y.heap[(w:Nat)+1+1]?=ς (χ Bz 34 (0,0)):=by have:=Z.o;rw [o.kp _ ω (by rw [T.2.2];exact Io),d.o.block _ ω];exact bL.o
 have bF:c3 ((w:Nat)+1+1)=14:=by have:=Z.o;rw [o.old _ ω];exact T.2.2
 have bA:Hid (ϐ B w (B7 Y (w+1+1) (σ F a.M.G G) (σ H a.M.N I) (ι a.Y) (σ N a.R O) (σ J a.N K) (σ A a.A C) (σ L a.results M) (σ x a.Z y) (σ D a.P E) (ι a.U))/\∃ s1 v,Dg cd s t s1/\Ending.returned (.agg (Bt F G H I N O J K A C L M x y D E a))=.returned v/\CJ (B7 Y (w+1+1) (σ F a.M.G G) (σ H a.M.N I) (ι a.Y) (σ N a.R O) (σ J a.N K) (σ A a.A C) (σ L a.results M) (σ x a.Z y) (σ D a.P E) (ι a.U)).heap.size (B7 Y (w+1+1) (σ F a.M.G G) (σ H a.M.N I) (ι a.Y) (σ N a.R O) (σ J a.N K) (σ A a.A C) (σ L a.results M) (σ x a.Z y) (σ D a.P E) (ι a.U)) v s1):=Lh ⟨CH (((i.o.th d.o).mono Q).trans (o.belowN bK.o (by have:=i.o.size;omega))) ω (by have:=i.o.size;have:=o.size;omega) _ _ _ _ _ _ _ _ _ _,a,_,hR,rfl,by
  have:=(tk_put aZ bF (σ F a.M.G G) (σ H a.M.N I) (ι a.Y) (σ N a.R O) (σ J a.N K) (σ A a.A C) (σ L a.results M) (σ x a.Z y) (σ D a.P E) (ι a.U)).reads;rwa [bE] at this⟩
 have bM:=Lh bC;have c:=Lh (ϟ T o);refine ⟨⟨c.o.2.cell (AB d.o f.o.1) c.o.1.1,c.o.2.cell (AB d.o f.o.2.1) c.o.1.1,c.o.2.cell (AB d.o f.o.2.2.1) c.o.1.1,c.o.2.cell (AB d.o f.o.2.2.2.1) c.o.1.2.1,c.o.2.cell (AB d.o f.o.2.2.2.2.1) c.o.1.2.1,c.o.2.cell (AB d.o f.o.2.2.2.2.2.1) c.o.1.2.1,c.o.2.cell (AB d.o f.o.2.2.2.2.2.2.1) c.o.1.2.1,c.o.2.cell (AB d.o f.o.2.2.2.2.2.2.2.1) c.o.1.2.1,c.o.2.cell (AB d.o f.o.2.2.2.2.2.2.2.2.1) c.o.1.2.1,c.o.2.cell (AB d.o f.o.2.2.2.2.2.2.2.2.2.1) c.o.1.2.1,c.o.2.cell (AB d.o f.o.2.2.2.2.2.2.2.2.2.2.1) c.o.1.2.1,c.o.2.cell (AB d.o f.o.2.2.2.2.2.2.2.2.2.2.2.1) c.o.1.2.1,c.o.2.cell (AB d.o f.o.2.2.2.2.2.2.2.2.2.2.2.2) c.o.1.2.1⟩,?_⟩;obtain ⟨⟨y0,y1,y2,y3,y4,y5,y6,y7,y8,y9⟩,⟨z0,z1,z2,z3,z4,z5,z6,z7,z8,z9⟩,zz⟩:=Gk bC;clear hR aZ o bE bP T bC bF;refine AH κ ?_;go_simp;refine BH ?_;go_wp2;exact ϖ (O5 (p:=6) rfl (CB bM.o _ _ _ _ _ _ _ _ _ _) _ rfl) rfl bA.o
def st_in {W:Ϣ} {c:A1} {k:Nat} {x y z A B C D E F G:ϒ} (h:TK NO W c s V) (o:c k=14) (t:W.heap[k]?=ς (χ #[x,y,z,A,B,C,D,E,F,G] 34 (0,0))):∀ a d e f g i j l m n,Wq V s=#[a,d,e,f,g,i,j,l,m,n]->∃ p:A1,Au (B7 W k a d e f g i j l m n) p k s/\∀ b,b≠k->p b=c b/\(B7 W k a d e f g i j l m n).heap[b]?=W.heap[b]?:=λa d e f g i j l m n w=>by
 have v:=(La t)
 have u:=(tk_put h o a d e f g i j l m n).recol (k:=k) (q:=1) (.inr o) ω (by rw [FH];exact v);exact ⟨_,⟨V,u,by rw [w];exact CB t a d e f g i j l m n,if_pos rfl⟩,λb r=>⟨if_neg r,Np r _ _ _ _ _ _ _ _ _ _⟩⟩
def NxP (cd:AQ) (s:A3) (t B:Nat) (w:Ϣ) (e:Ending) (w':Ϣ):Prop:=ϐ B w w'/\∃ m0 m s1,s.R[t]?=ς m0/\Nu cd s t m0 m s1/\e=.returned (VW (Kf s m))
def rNextX_any (cd:AQ) (cv sv:ϒ) (s:A3) (t B:Nat) (w:Ϣ) (hB:B<=w) (fE:Bv cd) (hv:Bu cd s) (hc:BF B w cv cd) (hs:CJ B w sv s) (fD:Cg s t=0) :
  ϙ prog 28 #[cv,sv,ι t] w (NxP cd s t B w):=by
 obtain ⟨fv,gv,rfl,hf,hg,dB⟩:=id hc;obtain ⟨fa,fc,rfl⟩:=hf.form;obtain ⟨qa,qc,rfl⟩:=hg.form;obtain ⟨ga,gc,ma,mc,ra,rc,na,nc,ca,cc,oa,oc,ba,bc,ea,ec,rfl⟩:=hs.open_;obtain ⟨m0,n,l,r,b,e,hp⟩:=hv.stepOk fD;have dW:=λh=>hv.idle0 hp.hm h;obtain ⟨W,hW⟩:=ε (((w.alloc (χ (Bc fa fc qa qc cd) 25)).alloc (χ (Bt ga gc ma mc ra rc na nc ca cc oa oc ba bc ea ec s) 34)).alloc (χ #[ι 0,ι 0,ι 0] 64));have bQ:=Lh (bl3 hW);have dZ:=sz3 hW;have C0:=ro31 hW;have R0:=ro32 hW;have R1:=ro33 hW;have dI:=Lh (λU hU=>rCopy45_any s _ B U (Nt hB (Nt bQ.o.size hU.size)) (hs.below ((bQ.o.th hU).mono hB)) (hv.copyOk fE));have cV:=@Lh (∀ (U:Ϣ) (V:TV) (c':A1),ϐ W W U->TK NO U c' s V->(∀ b,b<B->c' b=0)->ϙ prog 74 #[.agg (Bc fa fc qa qc cd),.agg (Wq V s),ι t] U (λz w'=>∃ m i,Nu cd s t m0 m i/\ThrR (runT i t m) c' U z w')) (λU V c' hU hK h0=>rBegun_any cd _ B s V c' t m0 n l r b e U hv.sound fE (by have:=bQ.o.size;have:=hU.size;omega) (hc.below ((bQ.o.th hU).mono hB)) (λb hb=>by rw [h0 b hb];exact Qx) hK hp dW);obtain ⟨eH,HV,HP,HZ,cU⟩:=Λ5 R1 hv hp dZ (Nt hB bQ.o.size);obtain ⟨⟨x0,x1,x2,x3,x4,x5,x6,x7,x8,x9⟩,-,xz⟩:=Gk R0;obtain ⟨g0,g1,g2⟩:=cells_laid C0;have i0:=In t;clear hf hg dB hc hs R0 R1 C0 dZ hp dW fD hv;go_enter func28,ntmps28;go_upto_region 1 with fail;rw [<-hW];clear hW xz;refine Ac (λf=>f.cell? (π w 0)=ς (σ fa cd.H fc)/\f.cell? (π w 1)=ς (ι cd.G)/\f.cell? (π w 2)=ς (σ qa cd.funcs qc)/\f.cell? (π (w+1) 0)=ς (σ ga s.M.G gc)/\f.cell? (π (w+1) 1)=ς (σ ma s.M.N mc)/\f.cell? (π (w+1) 2)=ς (ι s.Y)/\f.cell? (π (w+1) 3)=ς (σ ra s.R rc)/\f.cell? (π (w+1) 4)=ς (σ na s.N nc)/\f.cell? (π (w+1) 5)=ς (σ ca s.A cc)/\f.cell? (π (w+1) 6)=ς (σ oa s.results oc)/\f.cell? (π (w+1) 7)=ς (σ ba s.Z bc)/\f.cell? (π (w+1) 8)=ς (σ ea s.P ec)/\f.cell? (π (w+1) 9)=ς (ι s.U)) [2,4,5,6] true 7 rfl κ κ ⟨g0,g1,g2,x0,x1,x2,x3,x4,x5,x6,x7,x8,x9⟩ ?_;refine softA ?_;have HK:=Lh (ϟ g0 (ϟ g1 (ϟ g2 (ϟ x0 (ϟ x1 (ϟ x2 (ϟ x3 (ϟ x4 (ϟ x5 (ϟ x6 (ϟ x7 (ϟ x8 x9))))))))))));clear g0 g1 g2 x0 x1 x2 x3 x4 x5 x6 x7 x8 x9;refine' X2 (λbI=>?_) ?_;rotate_left
 .refine GW [_] ?_
  refine Dv κ κ ?ka ?kb
  case' ka=>
   go_simp;refine (dI.o _ (AG Br 1)).mono ?_;rintro z w2 ⟨V2,c2,rfl,bK,bJ⟩;obtain ⟨bZ,cA,cF,cG,cL,cM,cH,cI,bV,bW,cJ,cK,bT,bU,bX,bY,bO⟩:=bK.opened;have bN:ϐ W W W.drew:=AG Br 1;have cB:=bN.trans (bJ.belowN (λb _=>old_nz) bN.size);rw [bO];have o:=Lh cB;have g:=Lh (ϟ bK (ϟ bJ bO));clear bK bJ bO cB bN;refine ⟨Θ13 o.o HK.o,?_⟩;refine Dv κ κ ?kc ?kd
   case' kc=>
    go_simp;obtain ⟨u3,cS⟩:=ε (w2.alloc (χ Bz 34));rw [<-cS];have cP:=bl1 cS;have hX:=ro11 cS;obtain ⟨X,N⟩:=ε (w2:Nat);have dA:=AT.paint (c:=c2) (w2:Nat) 14 cP (Nr _);have dD:=(La hX)
    rw [<-N] at hX dA dD ⊢;have eB:=g.o.1.no2 dA (λb hb=>by show (if _ then _ else _)=_;rw [if_neg ω];exact g.o.1.hi b (Nt cP.size hb));have dX:∀ b,b<(W:Nat)->¬NZ (if b=X then 14 else c2 b):=λb hb=>by have:=o.o.size;rw [if_neg ω,g.o.2.1.old b hb];exact old_nz
    have cD:∀ b,b<B->(if b=X then 14 else c2 b)=0:=λb hb=>by have:=o.o.size;have:=cU.o;rw [if_neg ω,g.o.2.1.old b (by show b<W;omega)];exact if_neg ω
    have aD:=Lh (o.o.th cP);have j:=Lh (ϟ hX (ϟ dD (ϟ eB (ϟ dX (ϟ cD (show (if X=X then 14 else c2 X)=14 from if_pos rfl))))));have bP:=@Lh ((W:Nat)<=X) (by rw [N];exact o.o.size);clear cS cP hX N dA dD eB dX cD;refine ⟨Θ13 aD.o HK.o,?_⟩;refine AH κ ?_;go_simp;have q:=cV.o _ V2 _ aD.o j.o.2.2.1 j.o.2.2.2.2.1;rw [g.o.2.2] at q;refine q.mono ?_;rintro z w4 ⟨m,i,aE,V3,c3,rfl,y,E⟩;obtain ⟨L,M,P,Q,Z,bC,R,S,H,I,T,Y,F,G,J,K,C⟩:=y.opened;obtain ⟨d,O⟩:=ε (runT i t m:A3);rw [<-O] at y C ⊢;rw [C];clear q;have bG:=aD.o.trans (E.belowN j.o.2.2.2.1 aD.o.size);have bL:=(E.kp X j.o.2.1 (by rw [j.o.2.2.2.2.2];exact Io)).trans j.o.1;have cC:=(E.old X j.o.2.1).trans j.o.2.2.2.2.2;obtain ⟨c5,bM,cE⟩:=st_in y cC bL _ _ _ _ _ _ _ _ _ _ C;have u:=Lh bG;have p:=Lh (ϟ aE (ϟ O (ϟ bM cE)));refine ⟨Θ13 u.o HK.o,?_⟩;obtain ⟨⟨y0,y1,y2,y3,y4,y5,y6,y7,y8,y9⟩,⟨z0,z1,z2,z3,z4,z5,z6,z7,z8,z9⟩,zz⟩:=Gk bL;clear bG bL cC bM cE aE O y E C;refine AH κ ?_;go_simp;refine BH ?_;change Exit.then _ _ _ _ (B7 w4 X (σ L d.M.G M) (σ P d.M.N Q) (ι d.Y) (σ Z d.R bC) (σ R d.N S) (σ H d.A I) (σ T d.results Y) (σ F d.Z G) (σ J d.P K) (ι d.U));obtain ⟨Wt,A⟩:=ε (B7 w4 X (σ L d.M.G M) (σ P d.M.N Q) (ι d.Y) (σ Z d.R bC) (σ R d.N S) (σ H d.A I) (σ T d.results Y) (σ F d.Z G) (σ J d.P K) (ι d.U));rw [<-A];clear y0 y1 y2 y3 y4 y5 y6 y7 y8 y9 z0 z1 z2 z3 z4 z5 z6 z7 z8 z9 zz;have D:Hid (Nu cd s t m0 m i/\d=runT i t m/\ϐ W W Wt/\∃ c':A1,Au Wt c' X d):=Lh ⟨p.o.1,p.o.2.1,A▸CH u.o bP.o u.o.size _ _ _ _ _ _ _ _ _ _,c5,by rw [A];exact p.o.2.2.1⟩;clear A;try clear p
    try clear bP
    try clear u
    try clear j
    try clear aD
    try clear g
    try clear o
    try clear H1
    try clear bR
    revert D;revert Wt;revert X;revert d;revert i;revert m;revert K;revert J;revert G;revert F;revert Y;revert T;revert I;revert H;revert S;revert R;revert bC;revert Z;revert Q;revert P;revert M;revert L;revert bY;revert bX;revert bU;revert bT;revert cK;revert cJ;revert bW;revert bV;revert cI;revert cH;revert cM;revert cL;revert cG;revert cF;revert cA;revert bZ;exact bI
   case' kd=>
    go_simp;have q:=cV.o _ V2 c2 o.o g.o.1 (λb hb=>by have:=cU.o;rw [g.o.2.1.old b (by show b<W;omega)];exact if_neg ω);rw [g.o.2.2] at q;refine q.mono ?_;rintro z w4 ⟨m,i,aE,V3,c3,rfl,y,E⟩;obtain ⟨L,M,P,Q,Z,bC,R,S,H,I,T,Y,F,G,J,K,C⟩:=y.opened;obtain ⟨d,O⟩:=ε (runT i t m:A3);rw [<-O] at y C ⊢;rw [C];clear q;have bG:=o.o.trans (E.belowN (λb hb=>by rw [g.o.2.1.old b hb];exact old_nz) o.o.size);have u:=Lh bG;have p:=Lh (ϟ aE (ϟ O (ϟ y C)));refine ⟨Θ13 u.o HK.o,?_⟩;clear bG aE O y E C;refine AH κ ?_;go_simp;refine ⟨Θ13 (u.o.th (AA _ _)) HK.o,?_⟩;refine AH κ ?_;go_simp;refine BH ?_;obtain ⟨Wt,A⟩:=ε (w4.alloc (χ (Bt L M P Q Z bC R S H I T Y F G J K d) 34));rw [<-A];obtain ⟨X,N⟩:=ε (w4:Nat);rw [<-N];have D:=@Lh (Nu cd s t m0 m i/\d=runT i t m/\ϐ W W Wt/\∃ c':A1,Au Wt c' X d) (by
     have dS:=bl1 A;obtain ⟨c5,bM,-,-⟩:=st_box p.o.2.2.1 dS (k:=X) (by rw [p.o.2.2.2,A,N];exact Hn _ _) ω;exact ⟨p.o.1,p.o.2.1,u.o.th dS,c5,bM⟩)
    clear A N;try clear p
    try clear bP
    try clear u
    try clear j
    try clear aD
    try clear g
    try clear o
    try clear H1
    try clear bR
    revert D;revert Wt;revert X;revert d;revert i;revert m;revert K;revert J;revert G;revert F;revert Y;revert T;revert I;revert H;revert S;revert R;revert bC;revert Z;revert Q;revert P;revert M;revert L;revert bY;revert bX;revert bU;revert bT;revert cK;revert cJ;revert bW;revert bV;revert cI;revert cH;revert cM;revert cL;revert cG;revert cF;revert cA;revert bZ;exact bI
  case' kb=>
   go_simp;refine ⟨Θ13 (AA _ _) HK.o,?_⟩;obtain ⟨u1,cR⟩:=ε ((W.alloc (χ Bz 34)).drew);rw [<-cR];have dQ:ϐ W W u1:=by rw [cR];exact Cb _ _
   have cY:u1.heap[(W:Nat)]?=ς (χ Bz 34 (0,0)):=by rw [cR];exact Hn W _
   obtain ⟨X,N⟩:=ε (W:Nat);rw [<-N] at cY ⊢;have bR:=Lh dQ;have H1:=Lh (ϟ cY N);clear cR dQ cY N;refine AH κ ?_;go_simp;refine (dI.o _ (bR.o)).mono ?_;rintro z w2 ⟨V2,c2,rfl,bK,bJ⟩;obtain ⟨bZ,cA,cF,cG,cL,cM,cH,cI,bV,bW,cJ,cK,bT,bU,bX,bY,bO⟩:=bK.opened;have bN:=bR.o;have cB:=bN.trans (bJ.belowN (λb _=>old_nz) bN.size);rw [bO];have o:=Lh cB;have g:=Lh (ϟ bK (ϟ bJ bO));clear bK bJ bO cB bN;refine ⟨Θ13 o.o HK.o,?_⟩;have j:=@Lh (w2.heap[X]?=ς (χ Bz 34 (0,0))/\X<w2/\c2 X=14/\(∀ b,b<(W:Nat)->¬NZ (c2 b))/\∀ b,b<B->c2 b=0) (by
    have h1:=H1.o.2;have h2:=(La H1.o.1)
    have h3:=cU.o;exact ⟨(g.o.2.1.kp X h2 old_nz).trans H1.o.1,Nl h2 g.o.2.1.size,(g.o.2.1.old X h2).trans (if_pos ⟨ω,h2⟩),λb hb=>by rw [g.o.2.1.old b ω];exact old_nz,λb hb=>by rw [g.o.2.1.old b ω];exact if_neg ω⟩)
   refine AH κ ?_;go_simp;have q:=cV.o _ V2 c2 o.o g.o.1 j.o.2.2.2.2;rw [g.o.2.2] at q;refine q.mono ?_;rintro z w4 ⟨m,i,aE,V3,c3,rfl,y,E⟩;obtain ⟨L,M,P,Q,Z,bC,R,S,H,I,T,Y,F,G,J,K,C⟩:=y.opened;obtain ⟨d,O⟩:=ε (runT i t m:A3);rw [<-O] at y C ⊢;rw [C];clear q;have bG:=o.o.trans (E.belowN j.o.2.2.2.1 o.o.size);have bL:=(E.kp X j.o.2.1 (by rw [j.o.2.2.1];exact Io)).trans j.o.1;have cC:=(E.old X j.o.2.1).trans j.o.2.2.1;obtain ⟨c5,bM,cE⟩:=st_in y cC bL _ _ _ _ _ _ _ _ _ _ C;have u:=Lh bG;have bP:=@Lh ((W:Nat)<=X) (by rw [H1.o.2];exact Nr _);have p:=Lh (ϟ aE (ϟ O (ϟ bM cE)));refine ⟨Θ13 u.o HK.o,?_⟩;obtain ⟨⟨y0,y1,y2,y3,y4,y5,y6,y7,y8,y9⟩,⟨z0,z1,z2,z3,z4,z5,z6,z7,z8,z9⟩,zz⟩:=Gk bL;clear bG bL cC bM cE aE O y E C;refine AH κ ?_;go_simp;refine BH ?_;change Exit.then _ _ _ _ (B7 w4 X (σ L d.M.G M) (σ P d.M.N Q) (ι d.Y) (σ Z d.R bC) (σ R d.N S) (σ H d.A I) (σ T d.results Y) (σ F d.Z G) (σ J d.P K) (ι d.U));obtain ⟨Wt,A⟩:=ε (B7 w4 X (σ L d.M.G M) (σ P d.M.N Q) (ι d.Y) (σ Z d.R bC) (σ R d.N S) (σ H d.A I) (σ T d.results Y) (σ F d.Z G) (σ J d.P K) (ι d.U));rw [<-A];clear y0 y1 y2 y3 y4 y5 y6 y7 y8 y9 z0 z1 z2 z3 z4 z5 z6 z7 z8 z9 zz;have D:Hid (Nu cd s t m0 m i/\d=runT i t m/\ϐ W W Wt/\∃ c':A1,Au Wt c' X d):=Lh ⟨p.o.1,p.o.2.1,A▸CH u.o bP.o u.o.size _ _ _ _ _ _ _ _ _ _,c5,by rw [A];exact p.o.2.2.1⟩;clear A;try clear p
   try clear bP
   try clear u
   try clear j
   try clear aD
   try clear g
   try clear o
   try clear H1
   try clear bR
   revert D;revert Wt;revert X;revert d;revert i;revert m;revert K;revert J;revert G;revert F;revert Y;revert T;revert I;revert H;revert S;revert R;revert bC;revert Z;revert Q;revert P;revert M;revert L;revert bY;revert bX;revert bU;revert bT;revert cK;revert cJ;revert bW;revert bV;revert cI;revert cH;revert cM;revert cL;revert cG;revert cF;revert cA;revert bZ;exact bI
 intro bZ cA cF cG cL cM cH cI bV bW cJ cK bT bU bX bY L M P Q Z bC R S H I T Y F G J K m i d X Wt D;obtain ⟨cX,q⟩:=D.o.2.2.2;have HB:=Lh D.o.2.2.1;have cT:=Lh D.o.1;obtain ⟨f1,f2,f3,f4,f5,f6,f7⟩:=D.o.1.same;have dE:d.R[t]?=ς m:=by rw [D.o.2.1];unfold runT;dsimp only;rw [f1];exact Li HP.o.hm
 have dJ:=@Lh (d.M=s.M) (by rw [D.o.2.1];exact f5);have eI:=Lh q;have i1:(t:Int)<(d.R:Int):=by have:=(Ll dE);omega
 obtain ⟨rb,eN,ua,uc,b3,hx,eO,eP,-,dU,-,-⟩:=q.viewR dE;have eF:=Lh dU;have bS:=Lh hx;have aD:=Lh b3;have x0:Wt.cell? (π rb (t*9))=ς (σ ua m.J uc):=hx 0 _ rfl;have x1:=Γ9 hx;have xz:=Bl b3;have dY:=(HB.o.block _ (by have:=HZ.o;omega)).trans eH.o;have dL:=Lh dY;have bF:=@Lh (∀ (a:PT) (U:Ϣ),ϐ Wt Wt U->a=Kf s m->TZ w a (.returned (VW a)) (((U.setCell (π (w+1+1) 0) (ι a.K)).setCell (π (w+1+1) 1) (ι a.O)).setCell (π (w+1+1) 2) (ι a.D))) (λa U hU _=>⟨rfl,Ay (Ay (Ay ((bQ.o.th HB.o).th hU) ω) ω) ω⟩);clear f1 f2 f3 f4 f5 f6 f7 dE q hx eO eP dU dY D;go_wp2_with fail;refine (UX m (σ ua m.J uc) Wt Wt (eF.o.ups Dx (Nr _) (JT.mask _ _))).mono ?_;rintro z w5 ⟨rfl,cZ⟩;have aK:=Lh cZ;have cN:=(cZ.block _ (La dL.o)).trans dL.o;obtain ⟨⟨p0,p1,p2⟩,⟨q0,q1,q2⟩,pz⟩:=VE cN;clear cZ x0 x1 b3 xz;cases ha:Cs m with
 | false=>have HA:=@Lh ((⟨0,0,0⟩:PT)=Kf s m) (by unfold Kf;rw [ha];rfl);have bH:=Lh (bF.o _ w5 aK.o HA.o);clear ha cN;go_wp2_with fail;refine ϖ (v:=.agg #[ι 0,ι 0,ι 0]) (by simp [results,results28,go_sem,p0,p1,p2]) rfl ?_;exact ⟨bH.o.2.mono hB,m0,m,i,HP.o.hm,cT.o,by rw [<-HA.o];rfl⟩
 | true=>
  have hv:Ax cd m:=by
   rcases cT.o with ⟨eM,rfl,-⟩|⟨eJ,x,l2,dT,hR,-⟩
   .rcases HP.o.head with ⟨h,_⟩|⟨_,h,_⟩
    .exact absurd h eM
    .exact h
   .have hg:AS cd x s.Y=0:=by
     rcases HP.o.head with ⟨_,x',l3,h,hg⟩|⟨h,_⟩
     .rw [HP.o.hl,h] at dT;cases dT;exact hg
     .exact absurd eJ h
    have hE:=Jn HV.o.sound hg hR;exact (Kn hE.1 ha hE.2.1 hE.2.2).valid HV.o.sound
  have dC:=FB ha;obtain ⟨eW,f0,dH⟩:=hv.waits dC.1 dC.2;have cQ:=dH.Q HV.o.sound;have dV:m.Q.K≠3->m.Q.O=0->m.Q.D<(d.M.G:Int):=λh1 h2=>by rw [dJ.o,HV.o.memOk.gl];exact dH.glob HV.o.sound h1 h2
  obtain ⟨V5,cW,dO⟩:=eI.o;obtain ⟨dM,dN,eC,eD,fB,fC,eX,eY,eS,eT,eZ,fA,eQ,eR,eU,eV,dG⟩:=cW.opened;have dF:=dO.row;rw [dG] at dF;have eE:Hid (∀ U,ϐ Wt Wt U->ϙ prog 76 #[.agg (Bm dM dN eC eD d.M),.agg #[ι m.Q.K,ι m.Q.O,ι m.Q.D,ι m.Q.V,ι m.Q.X]] U (TZ U (DR d.M m.Q))):=Lh (λU hU=>by
   have eA:=(cW.grow hU).reads;rw [dG] at eA;obtain ⟨eK,eL,-⟩:=eA.parts;exact rAccess_any d.M _ m.Q (U:Nat) U (Nr _) ⟨_,_,rfl,eK,eL⟩ cQ.O cQ.q.nodeV cQ.D dV)
  obtain ⟨⟨u0,u1,u2,u3,u4,u5,u6,u7,u8,u9⟩,-,uz⟩:=Gk dF;obtain ⟨v0,v1,v3,k1,k2⟩:=Δ5 aK.o u0 u1 aD.o (bS.o 1 _ rfl) (bS.o 2 _ rfl);obtain ⟨k3,k4,k5⟩:=Δ3 aK.o (bS.o 3 _ rfl) (bS.o 4 _ rfl) (bS.o 5 _ rfl);have HA:=@Lh (DR d.M m.Q=Kf s m) (by unfold Kf;rw [ha,dJ.o];rfl);have dK:=Lh cN;clear ha hv dC dH cQ dV cW dO dG dF u0 u1 u2 u3 u4 u5 u6 u7 u8 u9 uz cN p0 p1 p2 q0 q1 q2 pz;go_upto_region 4 with fail;refine Ac (λf=>f.cell? (π X 0)=ς (σ dM d.M.G dN)/\f.cell? (π X 1)=ς (σ eC d.M.N eD)/\f.cell? (π X 3)=ς (σ (ς (π rb 0)) d.R eN)/\f.cell? (π rb (t*9+1))=ς (ι m.Q.K)/\f.cell? (π rb (t*9+2))=ς (ι m.Q.O)/\f.cell? (π rb (t*9+3))=ς (ι m.Q.D)/\f.cell? (π rb (t*9+4))=ς (ι m.Q.V)/\f.cell? (π rb (t*9+5))=ς (ι m.Q.X)) [8,9] true 10 rfl κ κ ⟨v0,v1,v3,k1,k2,k3,k4,k5⟩ ?_;refine softA ?_;have g:=Lh (ϟ v0 (ϟ v1 (ϟ v3 (ϟ k1 (ϟ k2 (ϟ k3 (ϟ k4 k5)))))));clear v0 v1 v3 k1 k2 k3 k4 k5 i1;refine AH κ ?_;go_simp;refine (eE.o _ (aK.o.trans (AG Br 1))).mono ?_;rintro z w6 ⟨rfl,dR⟩;obtain ⟨ac,cO⟩:=ε (DR d.M m.Q);rw [<-cO];have bD:ϐ w5 w5 w6:=(AG Br 1).trans dR;have dP:=(bD.block _ (La dK.o)).trans dK.o;obtain ⟨⟨p0,p1,p2⟩,⟨q0,q1,q2⟩,pz⟩:=VE dP;have bH:=Lh (bF.o ac w6 (aK.o.th bD) (cO.trans HA.o));have bE:=Lh bD;have eG:=Lh (cO.trans HA.o);obtain ⟨ak,an,af⟩:=ac;unfold VW;dsimp only;refine ⟨Θ8 bE.o g.o,?_⟩;clear cO dR bD dP;refine AH κ ?_;go_simp;refine BH ?_;go_wp2_with fail;refine ϖ (v:=.agg #[ι ak,ι an,ι af]) (by simp [results,results28,go_sem,p0,p1,p2]) rfl ?_;exact ⟨bH.o.2.mono hB,m0,m,i,HP.o.hm,cT.o,by rw [<-eG.o];rfl⟩
def LenT (s:A3):Prop:=s.A.length=s.R.length/\s.results.length=s.R.length
def settle_lenT {n:Int} (h:LenT s):LenT (CC s t m n):=by
 unfold CC Ly LenT;obtain ⟨a,b⟩:=h;split
 .simp [a,b]
 .split<;>simp [a,b]
def Nu.det {e f:A3} {m0 m':AV} (h:Nu c s t m0 m e) (k:Nu c s t m0 m' f):m=m':=by
 rcases h with ⟨a,rfl,rfl⟩|⟨a,x,l,d,b,rfl⟩
 .rcases k with ⟨-,rfl,rfl⟩|⟨k0,-⟩
  .rfl
  .exact absurd k0 a
 .rcases k with ⟨k0,-⟩|⟨-,y,l',kl,kR,rfl⟩
  .exact absurd a k0
  .rw [d] at kl;cases kl
   exact Kb b kR
def Dg.len {e:A3} (h:Dg c s t e) (hl:LenT s):LenT e:=by
 obtain ⟨o,n,m,j,-,-,i,g⟩:=h;have b:LenT j:=by
  rcases i with ⟨-,-,rfl⟩|⟨-,x,l,-,-,rfl⟩
  .exact hl
  .unfold XD LenT;simp [hl.1,hl.2]
 have d:∀ f:A3,LenT f->LenT (Im f):=λ_ h=>h;rcases g with ⟨-,rfl⟩|⟨-,-,rfl⟩|⟨-,p,a,k,-,-,rfl⟩
 .exact d _ (settle_lenT b)
 .exact d _ (by unfold Ly LenT;simp [b.1,b.2])
 .exact d _ (settle_lenT b)
def qe:A3:=⟨⟨[],[]⟩,0,[],[],[],[],[],[],0⟩
def ZK {α:Type} {sz:Nat} {E:Ϣ->Nat->Nat->α->Prop}:AE B w sz E ν ([]:List α):=⟨none,0,rfl,ψ,ψ,ω,.inl rfl⟩
def qg (B:Nat) (w:Ϣ):CJ B w (.agg Bz) qe:=⟨_,_,_,_,_,_,_,_,rfl,ZK,ZK,ZK,ZK,ZK,ZK,ZK,ZK,by show in64 0;unfold in64;omega,by show in64 0;unfold in64;omega⟩
def sE (p:Bool) (s:A3) (t:Int):Int:=if p=true then canR s t else 1
def nE (p:Bool) (s:A3) (t:Int):Int:=if p=true then Cg s t else 1
def StepX (cd:AQ) (s:A3) (t:Int) (r:Int) (x:A3):Prop:=LenT x/\(r=0->Dg cd s t.toNat x)/\(r≠0->x=qe)
def NextX (cd:AQ) (s:A3) (t:Int) (r:Int) (a:PT):Prop:=(r=0->∃ m0 m s1,s.R[t.toNat]?=ς m0/\Nu cd s t.toNat m0 m s1/\a=Kf s m)/\(r≠0->a=⟨0,0,0⟩)
def step_one {t:Int} (h:Kx cd s t w e w'):ϐ w w w'/\∃ v x,e=.returned (.tuple #[v,ι (sE (pB (Bu cd s)) s t)])/\CJ w' w' v x/\StepX cd s t (sE (pB (Bu cd s)) s t) x:=by
 have z:∀ r:Int,r≠0->StepX cd s t r qe:=λr h=>⟨⟨rfl,rfl⟩,λk=>absurd k h,λ_=>rfl⟩
 obtain ⟨b,⟨h,rfl⟩|⟨h,a,rfl⟩|⟨h,a,c,rfl⟩|⟨h,a,c,g,v,d,rfl,f⟩⟩:=h
 .have e:sE (pB (Bu cd s)) s t=1:=by rw [Bw h];rfl
  rw [e];exact ⟨b,_,_,rfl,qg _ _,z _ δ⟩
 .have e:sE (pB (Bu cd s)) s t=Cg s t:=by rw [CP h];show canR s t=_;exact if_pos a
  rw [e];exact ⟨b,_,_,rfl,qg _ _,z _ a⟩
 .have e:sE (pB (Bu cd s)) s t=6:=by rw [CP h];show canR s t=_;exact (if_neg (λk=>k a)).trans (if_pos c)
  rw [e];exact ⟨b,_,_,rfl,qg _ _,z _ δ⟩
 .have e:sE (pB (Bu cd s)) s t=0:=by rw [CP h];show canR s t=_;exact (if_neg (λk=>k a)).trans (if_neg ω)
  rw [e];exact ⟨b,_,_,rfl,f.self,d.len ⟨h.A,h.results⟩,λ_=>d,λk=>absurd rfl k⟩
def next_one {t:Int} (h:VV cd s t w e w'):ϐ w w w'/\∃ a:PT,e=.returned (.tuple #[.agg #[ι a.K,ι a.O,ι a.D],ι (nE (pB (Bu cd s)) s t)])/\NextX cd s t (nE (pB (Bu cd s)) s t) a:=by
 have z:∀ r:Int,r≠0->NextX cd s t r ⟨0,0,0⟩:=λr h=>⟨λk=>absurd k h,λ_=>rfl⟩
 obtain ⟨b,⟨h,rfl⟩|⟨h,c,rfl⟩|⟨h,c,g,m,i,d,f,rfl⟩⟩:=h
 .have e:nE (pB (Bu cd s)) s t=1:=by rw [Bw h];rfl
  rw [e];exact ⟨b,⟨0,0,0⟩,rfl,z _ δ⟩
 .have e:nE (pB (Bu cd s)) s t=Cg s t:=by rw [CP h];rfl
  rw [e];exact ⟨b,⟨0,0,0⟩,rfl,z _ c⟩
 .have e:nE (pB (Bu cd s)) s t=0:=by rw [CP h];exact c
  rw [e];exact ⟨b,_,rfl,λ_=>⟨g,m,i,d,f,rfl⟩,λk=>absurd rfl k⟩
def threadsSteps_walk (cd:AQ) (s:A3) (t:Int) (cv sv:ϒ) (w:Ϣ) (hL:C8 w) (hc:BF w w cv cd) (hs:CJ w w sv s) :
  ϙ prog 4 #[cv,sv,ι t] w (PO true w):=by
 obtain ⟨J,K,U,X,M,N,O,P,Y,Z,Q,R,F,G,S,T,D,E,H,I,W,L,rfl,rfl,hW,cN,H0,SS,HC,HS,dE,dF⟩:=NG (Nr _) hc hs;have c:Hid (∀ V,ϐ W W V->DD L V/\C8 V/\BF w V (.agg (Bc J K U X cd)) cd/\CJ w V (.agg (Bt M N O P Y Z Q R F G S T D E H I s)) s/\ϐ w w V/\(w:Nat)<=V.heap.size):=Lh (λV d=>by
  have l:=cN.o.th d;exact ⟨H0.o.kp d,hL.below l,hc.below l,hs.below l,l,l.size⟩)
 have A:Hid (∀ V,ϐ W W V->V.cell? (π w 0)=ς (σ J cd.H K)/\V.cell? (π w 1)=ς (ι cd.G)/\V.cell? (π w 2)=ς (σ U cd.funcs X)/\V.cell? (π (w+1) 0)=ς (σ M s.M.G N)/\V.cell? (π (w+1) 1)=ς (σ O s.M.N P)/\V.cell? (π (w+1) 2)=ς (ι s.Y)/\V.cell? (π (w+1) 3)=ς (σ Y s.R Z)/\V.cell? (π (w+1) 4)=ς (σ Q s.N R)/\V.cell? (π (w+1) 5)=ς (σ F s.A G)/\V.cell? (π (w+1) 6)=ς (σ S s.results T)/\V.cell? (π (w+1) 7)=ς (σ D s.Z E)/\V.cell? (π (w+1) 8)=ς (σ H s.P I)/\V.cell? (π (w+1) 9)=ς (ι s.U)):=Lh (λV d=>by
  obtain ⟨i,g1,g2,x0,x1,x2,x3,x4,x5,x6,x7,x8,x9,-⟩:=SS.o _ (c.o V d).1;exact ⟨i,g1,g2,x0,x1,x2,x3,x4,x5,x6,x7,x8,x9⟩)
 clear hL hc hs SS HC HS H0 cN;go_enter func4,ntmps4;go_upto_region 1 with fail;rw [<-hW];clear hW;go_wp2_with fail;refine (Rb W (c.o W Br).2.1).mono ?_;rintro e w1 ⟨rfl,cO⟩;have bM:=Lh cO;clear cO;go_upto_region 3 with fail;have i:=A.o w1 (bM.o);go_wp2_with fail;refine (MH cd _ (w:Nat) w1 (c.o w1 bM.o).2.2.2.2.2 (c.o w1 bM.o).2.2.1).mono ?_;rintro e w2 ⟨r1,rfl,cT,cP⟩;have cX:=Lh cT;have bG:=Lh (bM.o.th cP);clear cT cP i;cases r1 with
 | false=>go_wp2;go_ret;exact ⟨rfl,(c.o w2 bG.o).2.2.2.2.1⟩
 | true=>
 have bH:=@Lh (Bv cd) (λy hy=>by have:=(cX.o rfl).2.2 y hy;omega);have i:=A.o w2 (bG.o);go_wp2_with fail;refine (Ml s _ (w:Nat) w2 (c.o w2 bG.o).2.2.2.2.2 (c.o w2 bG.o).2.2.2.1).mono ?_;rintro e w5 ⟨b5,rfl,cQ⟩;have bN:=Lh (bG.o.th cQ);clear cQ i;cases b5 with
 | false=>go_wp2;go_ret;exact ⟨rfl,(c.o w5 bN.o).2.2.2.2.1⟩
 | true=>
 obtain ⟨q,aX⟩:=ε (sE (pB (Bu cd s)) s t);obtain ⟨fr,bU⟩:=ε (nE (pB (Bu cd s)) s t);have aM:=Lh (ϟ aX bU);clear aX bU;have i:=A.o w5 (bN.o);go_wp2_with fail;have b:=c.o w5 bN.o;refine (Rs cd _ _ s t w5 b.2.1 bH.o (b.2.2.1.up b.2.2.2.2.2) (b.2.2.2.1.ups b.2.2.2.2.2 (λ_ _ h=>h))).mono ?_;rintro e a hN;obtain ⟨cR,v1,sx,rfl,cG,cH⟩:=step_one hN;rw [<-aM.o.1] at cH ⊢;have cV:=Lh (bN.o.th cR);clear hN b cR i;obtain ⟨aV,aW,aY,aZ,bE,bF,bA,bB,aR,aS,bC,bD,aP,aQ,aT,aU,rfl⟩:=cG.open_;have cM:=Lh cG;have aN:=Lh cH;clear cG cH;obtain ⟨W6,bR⟩:=ε (a.alloc (χ (Bt aV aW aY aZ bE bF bA bB aR aS bC bD aP aQ aT aU sx) 34));have cE:=Lh (bl1 bR);have cA:=Lh (ro11 bR);have bY:=Lh (cV.o.th cE.o);go_upto_region 6 with fail;rw [<-bR];clear bR;have i:=A.o W6 (bY.o);go_wp2_with fail;have b:=c.o W6 bY.o;refine (S0 cd _ _ s t W6 b.2.1 bH.o (b.2.2.1.up b.2.2.2.2.2) (b.2.2.2.1.ups b.2.2.2.2.2 (λ_ _ h=>h))).mono ?_;rintro e j hN;obtain ⟨bT,ac,rfl,cF⟩:=next_one hN;rw [<-aM.o.2] at cF ⊢;have cK:=Lh (cE.o.th bT);have cW:=Lh (bY.o.th bT);have bX:=Lh cF;have cB:=Lh ((bT.block _ (La cA.o)).trans cA.o);clear hN b bT cF cA i;obtain ⟨ak,an,af⟩:=ac;obtain ⟨f,bS⟩:=ε (j.alloc (χ #[ι ak,ι an,ι af] 64));have bQ:=Lh (bl1 bS);have cC:=Lh (ro11 bS);have n:=Lh (cW.o.th bQ.o);have cL:=Lh (cK.o.th bQ.o);have cD:=Lh ((bQ.o.block _ (La cB.o)).trans cB.o);go_upto_region 7 with fail;rw [<-bS];clear bS;have bI:Hid (∀ V,ϐ f f V->V.cell? (π a 0)=ς (σ aV sx.M.G aW)/\V.cell? (π a 1)=ς (σ aY sx.M.N aZ)/\V.cell? (π a 2)=ς (ι sx.Y)/\V.cell? (π a 3)=ς (σ bE sx.R bF)/\V.cell? (π a 4)=ς (σ bA sx.N bB)/\V.cell? (π a 5)=ς (σ aR sx.A aS)/\V.cell? (π a 6)=ς (σ bC sx.results bD)/\V.cell? (π a 7)=ς (σ aP sx.Z aQ)/\V.cell? (π a 8)=ς (σ aT sx.P aU)/\V.cell? (π a 9)=ς (ι sx.U)/\V.cell? (π j 0)=ς (ι ak)/\V.cell? (π j 1)=ς (ι an)/\V.cell? (π j 2)=ς (ι af)):=Lh (λV d=>by
  have r1:=(d.block _ (La cD.o)).trans cD.o;have r2:=(d.block _ (La cC.o)).trans cC.o;obtain ⟨⟨x0,x1,x2,x3,x4,x5,x6,x7,x8,x9⟩,-⟩:=Gk r1;obtain ⟨⟨p0,p1,p2⟩,-⟩:=VE r2;exact ⟨x0,x1,x2,x3,x4,x5,x6,x7,x8,x9,p0,p1,p2⟩)
 have aE:Hid (∀ V v x,ϐ f f V->CJ V.heap.size V v x->x=sx->ϙ prog 14 #[.agg (Bt aV aW aY aZ bE bF bA bB aR aS bC bD aP aQ aT aU sx),v] V (PO true V)):=Lh (λV v x d g he=>by
  subst he;have l:=cL.o.th d;exact UY x _ _ (a:Nat) (V:Nat) V l.size (Nr _) aN.o.1.1 aN.o.1.2 (cM.o.below l) g)
 have bO:=Lh (λV d=>(c.o V (n.o.th d)).2.2.2.2.1);clear cB cC cD cM cE cK bQ cL;have i:=A.o f (n.o);go_wp2_with fail;refine (PW cd _ s _ (w:Nat) f (c.o f n.o).2.2.2.2.2 bH.o (c.o f n.o).2.2.1 (c.o f n.o).2.2.2.1).mono ?_;rintro e w8 ⟨rfl,cS⟩;have B:=Lh cS;clear cS i;by_cases g:Bu cd s;rotate_left
 .have dA:q=1:=by rw [aM.o.1,Bw g];rfl
  have dB:fr=1:=by rw [aM.o.2,Bw g];rfl
  subst dA dB;have hz:=bX.o.2 δ;simp only [PT.mk.injEq] at hz;obtain ⟨rfl,rfl,rfl⟩:=hz;have HZ:=Lh (aN.o.2.2 δ).symm;rw [Bw g];clear g;have y0:=bI.o w8 B.o;go_wp2_with fail;refine (aE.o w8 _ qe B.o (qg _ _) HZ.o).mono ?_;rintro e w9 ⟨rfl,bL⟩;have C:=Lh (B.o.th bL);clear bL y0;have y0:=bI.o w9 C.o;go_wp2;go_ret;exact ⟨rfl,bO.o w9 C.o⟩
 rw [CP g];have HV:=Lh g;have bP:=@Lh (q=canR s t) (by rw [aM.o.1,CP g];rfl);have cI:=@Lh (fr=Cg s t) (by rw [aM.o.2,CP g];rfl);clear g;have i:=A.o w8 (n.o.th B.o);go_wp2_with fail;refine (rCan_any s HV.o _ t (w:Nat) w8 (c.o w8 (n.o.th B.o)).2.2.2.2.2 (c.o w8 (n.o.th B.o)).2.2.2.1).mono ?_;rintro e w9 ⟨rfl,bL⟩;rw [<-bP.o];have C:=Lh (B.o.th bL);clear bL i;by_cases z:Cg s t=0;rotate_left
 .have bZ:=Lh (bP.o.trans (if_pos z))
  have dC:=bZ.o.trans cI.o.symm;subst dC;have bV:q≠0:=by rw [bZ.o];exact z
  have cU:q≠6:=by
   rw [bZ.o];unfold Cg;split
   .decide
   split
   .decide
   split<;>decide
  have hz:=bX.o.2 bV;simp only [PT.mk.injEq] at hz;obtain ⟨rfl,rfl,rfl⟩:=hz;have HZ:=Lh (aN.o.2.2 bV).symm;have d0:=ξ q 0 bV;have d6:=ξ q 6 cU;clear z bV cU;have y0:=bI.o w9 C.o;go_wp2_with fail;refine (aE.o w9 _ qe C.o (qg _ _) HZ.o).mono ?_;rintro e bW ⟨rfl,p⟩;have o:=Lh (C.o.th p);clear p y0;have y0:=bI.o bW o.o;go_wp2;go_ret;exact ⟨rfl,bO.o bW o.o⟩
 have bU:=cI.o.trans z;subst bU;obtain ⟨r,rfl⟩:∃ r:Nat,t=r:=⟨t.toNat,Mu z⟩
 have aI:=Lh z;have cJ:Hid (∀ V,ϐ f f V->ϙ prog 28 #[.agg (Bc J K U X cd),.agg (Bt M N O P Y Z Q R F G S T D E H I s),ι r] V (λe w'=>e=.returned (.agg #[ι ak,ι an,ι af])/\ϐ V.heap.size V w')):=Lh (λV d=>by
  have b:=c.o V (n.o.th d);refine (rNextX_any cd _ _ s r (V:Nat) V (Nr _) bH.o HV.o (b.2.2.1.up b.2.2.2.2.2) (b.2.2.2.1.ups b.2.2.2.2.2 (λ_ _ h=>h)) aI.o).mono ?_;rintro e w' ⟨l,m0,m,s1,h1,h2,rfl⟩;obtain ⟨dG,m',dH,k1,k2,k3⟩:=bX.o.1 rfl;rw [show ((r:Int).toNat)=r from rfl] at k1 k2;rw [h1] at k1;cases k1;obtain rfl:=h2.det k2;rw [<-k3];exact ⟨rfl,l⟩)
 have aO:=@Lh (ϐ f f w9.drew) (AG C.o 1);have u:Hid (∀ V,ϐ f f V->V.cell? (π a 0)=ς (σ aV sx.M.G aW)/\V.cell? (π a 1)=ς (σ aY sx.M.N aZ)/\V.cell? (π a 2)=ς (ι sx.Y)/\V.cell? (π a 3)=ς (σ bE sx.R bF)/\V.cell? (π a 4)=ς (σ bA sx.N bB)/\V.cell? (π a 5)=ς (σ aR sx.A aS)/\V.cell? (π a 6)=ς (σ bC sx.results bD)/\V.cell? (π a 7)=ς (σ aP sx.Z aQ)/\V.cell? (π a 8)=ς (σ aT sx.P aU)/\V.cell? (π a 9)=ς (ι sx.U)/\V.cell? (π j 0)=ς (ι ak)/\V.cell? (π j 1)=ς (ι an)/\V.cell? (π j 2)=ς (ι af)/\V.cell? (π w 0)=ς (σ J cd.H K)/\V.cell? (π w 1)=ς (ι cd.G)/\V.cell? (π w 2)=ς (σ U cd.funcs X)/\V.cell? (π (w+1) 0)=ς (σ M s.M.G N)/\V.cell? (π (w+1) 1)=ς (σ O s.M.N P)/\V.cell? (π (w+1) 2)=ς (ι s.Y)/\V.cell? (π (w+1) 3)=ς (σ Y s.R Z)/\V.cell? (π (w+1) 4)=ς (σ Q s.N R)/\V.cell? (π (w+1) 5)=ς (σ F s.A G)/\V.cell? (π (w+1) 6)=ς (σ S s.results T)/\V.cell? (π (w+1) 7)=ς (σ D s.Z E)/\V.cell? (π (w+1) 8)=ς (σ H s.P I)/\V.cell? (π (w+1) 9)=ς (ι s.U)):=Lh (λV d=>by
  obtain ⟨y0,y1,y2,y3,y4,y5,y6,y7,y8,y9,p0,p1,p2⟩:=bI.o V d;exact ⟨y0,y1,y2,y3,y4,y5,y6,y7,y8,y9,p0,p1,p2,A.o V (n.o.th d)⟩)
 clear z;by_cases h6:65536<=s.U
 .have aX:q=6:=by rw [bP.o];exact (if_neg (λk=>k aI.o)).trans (if_pos h6)
  subst aX;have HZ:=Lh (aN.o.2.2 δ).symm;clear h6;go_upto_region 15 with fail;go_region_held3 (λV=>V.cell? (π a 0)=ς (σ aV sx.M.G aW)/\V.cell? (π a 1)=ς (σ aY sx.M.N aZ)/\V.cell? (π a 2)=ς (ι sx.Y)/\V.cell? (π a 3)=ς (σ bE sx.R bF)/\V.cell? (π a 4)=ς (σ bA sx.N bB)/\V.cell? (π a 5)=ς (σ aR sx.A aS)/\V.cell? (π a 6)=ς (σ bC sx.results bD)/\V.cell? (π a 7)=ς (σ aP sx.Z aQ)/\V.cell? (π a 8)=ς (σ aT sx.P aU)/\V.cell? (π a 9)=ς (ι sx.U)/\V.cell? (π j 0)=ς (ι ak)/\V.cell? (π j 1)=ς (ι an)/\V.cell? (π j 2)=ς (ι af)/\V.cell? (π w 0)=ς (σ J cd.H K)/\V.cell? (π w 1)=ς (ι cd.G)/\V.cell? (π w 2)=ς (σ U cd.funcs X)/\V.cell? (π (w+1) 0)=ς (σ M s.M.G N)/\V.cell? (π (w+1) 1)=ς (σ O s.M.N P)/\V.cell? (π (w+1) 2)=ς (ι s.Y)/\V.cell? (π (w+1) 3)=ς (σ Y s.R Z)/\V.cell? (π (w+1) 4)=ς (σ Q s.N R)/\V.cell? (π (w+1) 5)=ς (σ F s.A G)/\V.cell? (π (w+1) 6)=ς (σ S s.results T)/\V.cell? (π (w+1) 7)=ς (σ D s.Z E)/\V.cell? (π (w+1) 8)=ς (σ H s.P I)/\V.cell? (π (w+1) 9)=ς (ι s.U))
   (first|exact u.o _ aF.o|exact u.o _ o.o|exact u.o _ aO.o)
   (first
    | (go_at_call 14;refine (aE.o _ _ qe aO.o (qg _ _) HZ.o).mono ?_;rintro e bW ⟨rfl,p⟩;have o:=Lh (aO.o.th p);clear p)
    | (go_at_call 28;refine (cJ.o _ o.o).mono ?_;rintro e dD ⟨rfl,aH⟩;have aF:=Lh (o.o.th aH);clear aH))
  all_goals
   go_wp2;go_ret;exact ⟨rfl,bO.o _ aF.o⟩
 .have aX:q=0:=by rw [bP.o];exact (if_neg (λk=>k aI.o)).trans (if_neg h6)
  subst aX;clear h6;have cY:Hid (∀ V,ϐ f f V->ϙ prog 27 #[.agg (Bc J K U X cd),.agg (Bt M N O P Y Z Q R F G S T D E H I s),ι r] V (λe w'=>ϐ V.heap.size V w'/\∃ v,e=.returned v/\CJ w' w' v sx)):=Lh (λV d=>by
   have b:=c.o V (n.o.th d);refine (rStepX_any cd _ _ s r (V:Nat) V (Nr _) bH.o HV.o (b.2.2.1.up b.2.2.2.2.2) (b.2.2.2.1.ups b.2.2.2.2.2 (λ_ _ h=>h)) aI.o).mono ?_;rintro e w' ⟨l,s',v,hR,rfl,g⟩;rw [hR.det (aN.o.2.1 rfl)] at g;exact ⟨l,v,rfl,g⟩)
  go_upto_region 13 with fail;go_region_held3 (λV=>V.cell? (π a 0)=ς (σ aV sx.M.G aW)/\V.cell? (π a 1)=ς (σ aY sx.M.N aZ)/\V.cell? (π a 2)=ς (ι sx.Y)/\V.cell? (π a 3)=ς (σ bE sx.R bF)/\V.cell? (π a 4)=ς (σ bA sx.N bB)/\V.cell? (π a 5)=ς (σ aR sx.A aS)/\V.cell? (π a 6)=ς (σ bC sx.results bD)/\V.cell? (π a 7)=ς (σ aP sx.Z aQ)/\V.cell? (π a 8)=ς (σ aT sx.P aU)/\V.cell? (π a 9)=ς (ι sx.U)/\V.cell? (π j 0)=ς (ι ak)/\V.cell? (π j 1)=ς (ι an)/\V.cell? (π j 2)=ς (ι af)/\V.cell? (π w 0)=ς (σ J cd.H K)/\V.cell? (π w 1)=ς (ι cd.G)/\V.cell? (π w 2)=ς (σ U cd.funcs X)/\V.cell? (π (w+1) 0)=ς (σ M s.M.G N)/\V.cell? (π (w+1) 1)=ς (σ O s.M.N P)/\V.cell? (π (w+1) 2)=ς (ι s.Y)/\V.cell? (π (w+1) 3)=ς (σ Y s.R Z)/\V.cell? (π (w+1) 4)=ς (σ Q s.N R)/\V.cell? (π (w+1) 5)=ς (σ F s.A G)/\V.cell? (π (w+1) 6)=ς (σ S s.results T)/\V.cell? (π (w+1) 7)=ς (σ D s.Z E)/\V.cell? (π (w+1) 8)=ς (σ H s.P I)/\V.cell? (π (w+1) 9)=ς (ι s.U))
   (first|exact u.o _ bJ.o|exact u.o _ aF.o|exact u.o _ o.o|exact u.o _ aO.o)
   (first
    | (go_at_call 27;refine (cY.o _ aO.o).mono ?_;rintro e bW ⟨p,v,rfl,g⟩;have o:=Lh (aO.o.th p);have cZ:=Lh g;clear p g)
    | (go_at_call 14;refine (aE.o _ _ sx o.o cZ.o rfl).mono ?_;rintro e dD ⟨rfl,aH⟩;have aF:=Lh (o.o.th aH);clear aH)
    | (go_at_call 28;refine (cJ.o _ aF.o).mono ?_;rintro e dI ⟨rfl,bK⟩;have bJ:=Lh (aF.o.th bK);clear bK))
  all_goals
   go_wp2;go_ret;exact ⟨rfl,bO.o _ bJ.o⟩
