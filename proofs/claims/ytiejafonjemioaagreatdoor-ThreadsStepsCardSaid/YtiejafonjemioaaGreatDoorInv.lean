import Derived.Test.YtiejafonjemioaaGreatDoorCpd
import Derived.Test.YtiejafonjemioaaGreatDoorThd
set_option maxHeartbeats 4000000
set_option maxRecDepth 100000
set_option linter.all false
open Go renaming World→Ϣ,Value→ϒ,bodyPost_ret→ϖ
open Option renaming some→ς
open List renaming replicate→ϱ
open Go.Value renaming slice→σ
open Go.Obj renaming cells→χ
namespace Go.Proofs.YtiejafonjemioaaGreatDoor
open Go.RowKit Proofs.Tryz
variable {α:Type} {c:AQ} {s:A3} {t R:Nat} {k n:Int} {m m':AV} {l:List Bi} {r:List CD} {b e:List Int} {w w' W:Ϣ} {c':A1} {V:TV} {v:ϒ} {x y:α} {f:α->α}
def DL.mil (hs:AU c) (b:Bv c) {g:AY} {P:Cd->Prop} (h:DL c g P):g.L.length<=1000000/\g.S.length<=1000000:=by
 obtain ⟨y,x,m,a,i,f,_,e,n⟩:=h;have j:=DJ (hs.wf a.fn) (hs.snd a.fn) e;have k:=b y (Lm a.fn);have l:=((hs.wf a.fn).pops x (Lm f)).1;have d:=hs.fok a.fn;unfold CX at d;have:=a.loc;omega
def Bu.at_ (h:Bu c s) (a:t<s.R.length):∃ m n l r b e,s.R[t]?=ς m/\s.N[t]?=ς n/\s.A[t]?=ς l/\s.results[t]?=ς r/\s.Z[t]?=ς b/\s.P[t]?=ς e/\Ej c s m n l r b e:=by
 have d:=Lg a;have f:=Lg (l:=s.N) (i:=t) (by rw [h.N];exact a);have g:=Lg (l:=s.A) (i:=t) (by rw [h.A];exact a);have j:=Lg (l:=s.results) (i:=t) (by rw [h.results];exact a);have k:=Lg (l:=s.Z) (i:=t) (by rw [h.Z];exact a);have o:=Lg (l:=s.P) (i:=t) (by rw [h.P];exact a);exact ⟨_,_,_,_,_,_,d,f,g,j,k,o,h.all t _ _ _ _ _ _ d f g j k o⟩
def P8 (hs:AU c) {x:Bi} (h:AS c x k=0):x.args.length<=1000000:=by
 unfold AS at h;split at h
 .cases h
 .split at h
  .cases h
  .rename_i y hy
   split at h
   .cases h
   .split at h
    .cases h
    .rename_i hp
     have a:=hs.fok hy;unfold CX at a;omega
def IP {x:Bi} (a:0<=k/\k<=1048576) (h:AS c x 0=0):AS c x k=0:=by
 unfold AS at h ⊢;rw [if_neg ω] at h ⊢;exact h
def Ej.given (h:Ej c s m n l r b e):∀ x∈l,AS c x 0=0:=λx a=>by
 have:=h.right;rw [List.any_eq_false] at this;have:=this x a;simpa using this
def El (h:Cu m=true):m.J=[]:=by
 unfold Cu at h;rw [Bool.and_eq_true] at h;exact List.isEmpty_iff.1 h.1
def Ez.size (hs:AU c) (b:Bv c) (h:Ez c m n):m.J.length<=1000/\∀ f∈m.J,f.L.length<=1000000/\f.S.length<=1000000:=by
 rcases h with ⟨h,_⟩|⟨_,h,_⟩
 .rw [El h];simp
 .refine ⟨by have:=h.len;omega,λf a=>?_⟩
  rcases h.body with ⟨e,_⟩|⟨_,d⟩
  .rw [e] at a;cases a
  .obtain ⟨k,hk,rfl⟩:=List.getElem_of_mem a
   exact DL.mil hs b (d k _ (Lg hk))
def Bu.copyOk (h:Bu c s) (u:Bv c):Kr s:=by
 have q:=h.sound;have w:=q.1;have p:=Ik.1 h.fits;have y:=h.eight;refine ⟨by have:=p.gl;have:=w.2.2.2.1;omega,p.len,λx v=>?_,ω,λm p=>?_,by rw [h.N];omega,h.A,λl f=>?_,h.results,λl f=>?_,h.Z,λl f=>?_,h.P,λl f=>?_⟩
 .obtain ⟨_,i,_⟩:=p.N x v
  have d:=w.2.1;rw [List.any_eq_false] at d;have:=d _ (Lm i);simp at this;omega
 .obtain ⟨t,ht,rfl⟩:=List.getElem_of_mem p
  obtain ⟨m,n,l,r,b,e,g,i,d,j,k,o,a⟩:=h.at_ ht;rw [Lg ht] at g;cases g;exact a.head.size q u
 .obtain ⟨t,ht,rfl⟩:=List.getElem_of_mem f
  obtain ⟨m,n,l,r,b,e,g,i,d,j,k,o,a⟩:=h.at_ (t:=t) (by rw [<-h.A];exact ht);rw [Lg ht] at d;cases d;exact ⟨by have:=a.ops;omega,λx v=>P8 q (a.given x v)⟩
 .obtain ⟨t,ht,rfl⟩:=List.getElem_of_mem f
  obtain ⟨m,n,l,r,b,e,g,i,d,j,k,o,a⟩:=h.at_ (t:=t) (by rw [<-h.results];exact ht);rw [Lg ht] at j;cases j;have:=a.ops;omega
 .obtain ⟨t,ht,rfl⟩:=List.getElem_of_mem f
  obtain ⟨m,n,l,r,b,e,g,i,d,j,k,o,a⟩:=h.at_ (t:=t) (by rw [<-h.Z];exact ht);rw [Lg ht] at k;cases k;have:=a.ops;have:=a.Z;omega
 .obtain ⟨t,ht,rfl⟩:=List.getElem_of_mem f
  obtain ⟨m,n,l,r,b,e,g,i,d,j,k,o,a⟩:=h.at_ (t:=t) (by rw [<-h.P];exact ht);rw [Lg ht] at o;cases o;have:=a.ops;have:=a.P;omega
def Bu.stepOk (h:Bu c s) (a:Cg s t=0):∃ m n l r b e,Pf c s t m n l r b e:=by
 unfold Cg at a;rw [if_neg ω] at a;split at a
 .cases a
 .rename_i hlt
  rw [Int.toNat_natCast] at a;split at a
  .rename_i hen
   obtain ⟨m,n,l,r,b,e,g,j,i,k,o,p,d⟩:=h.at_ (t:=t) ω;have z:=d.ops;have w:=d.Z;have y:=d.P;refine ⟨m,n,l,r,b,e,⟨g,j,i,k,o,p,ω,ω,ω,?_,⟨h.U.1,by have:=h.U.2;omega⟩,?_⟩⟩
   .rcases d.head with ⟨_,f⟩|⟨_,_,_,f,h9⟩
    .omega
    .omega
   .by_cases hf:m.J=[]
    .refine .inl ⟨hf,?_⟩
     unfold Qw at hen;rw [g,i] at hen;simp only [hf,List.length_nil,Nat.lt_irrefl,decide_false,Bool.false_or,decide_eq_true_eq] at hen;cases l with
     | nil=>simp at hen
     | cons x v=>exact ⟨x,v,rfl,IP h.Y (d.given x ψ)⟩
    .refine .inr ⟨hf,?_⟩
     rcases d.head with ⟨f,_⟩|⟨_,q,u,_⟩
     .exact absurd (El f) hf
     .exact ⟨q,u⟩
  .cases a
def Bu.memOk (h:Bu c s):Dp c s.M:=Ik.1 h.fits
def TK.no2 {c:A1} (h:TK NO w c s V) (d:AT NO c c' w w') (a:∀ b,(w':Nat)<=b->c' b=0):TK NO w' c' s V:=by
 have K:=h.kept d a;have e:(λt=>NO t\/NO t)=NO:=Xk;rw [e] at K;exact K
def TK.k14 {c:A1} (h:TK NO w c s V) (m:AT (λt=>t=14) c c' w w') (g:∀ b,(w':Nat)<=b->c' b=0):TK NO w' c' s V:=by
 have K:=h.kept m g;have n:∀ t,t≠14->¬(NO t\/t=14):=λt o e=>by
  rcases e with e|e
  .exact e
  .exact o e
 exact ⟨K.hi,λ_=>K.g (n _ ω),λ_=>K.n (n _ ω),λi x p=>by
  obtain ⟨q,a,d,j,k⟩:=K.nn i x p;exact ⟨q,a,d,j,λ_=>k (n _ ω)⟩,λ_=>K.r (n _ ω),K.rr,λ_=>K.k (n _ ω),λ_=>K.cr (n _ ω),K.cl,λ_=>K.o (n _ ω),λt l f=>by
  obtain ⟨v,a,d⟩:=K.ol t l f;exact ⟨v,a,λ_=>d (n _ ω)⟩,λ_=>K.b (n _ ω),λt l f=>by
  obtain ⟨v,a,d⟩:=K.bl t l f;exact ⟨v,a,λ_=>d (n _ ω)⟩,λ_=>K.e (n _ ω),λt l f=>by
  obtain ⟨v,a,d⟩:=K.el t l f;exact ⟨v,a,λ_=>d (n _ ω)⟩,K.f64,K.s64⟩
def TK.opened {c:A1} (a:TK NO w c s V):∃ i j k l o p C D e f m n b d g h,Wq V s=(Bt i j k l o p C D e f m n b d g h s):=by
 obtain ⟨K,M,Q,L,G,O,E,I,N,R,H,P,F,J⟩:=V;obtain ⟨i,j,q,-⟩:=(a.g (no _)).1.form;obtain ⟨k,l,r,-⟩:=(a.n (no _)).form;obtain ⟨o,p,t,-⟩:=(a.r (no _)).form;obtain ⟨A,B,u,-⟩:=(a.k (no _)).1.form;obtain ⟨e,f,v,-⟩:=(a.cr (no _)).form;obtain ⟨m,n,x,-⟩:=(a.o (no _)).form;obtain ⟨b,d,y,-⟩:=(a.b (no _)).form;obtain ⟨g,h,z,-⟩:=(a.e (no _)).form;dsimp only at q r t u v x y z;subst q r t u v x y z;exact ⟨i,j,k,l,o,p,A,B,e,f,m,n,b,d,g,h,rfl⟩
def VI (n:Nat) (w':Ϣ) (v:ϒ) (s:A3):Prop:=∀ V:Ϣ,Below 0 w' V->(∀ b,n<=b->b<(w':Nat)->V.heap[b]?=w'.heap[b]?)->CJ V V v s
def VI.self {n:Nat} (h:VI n w' v s):CJ w' w' v s:=h w' Br (λ_ _ _=>rfl)
def Np {b:Nat} (h:b≠R) (v0 v1 v2 v3 v4 v5 v6 v7 v8 v9:ϒ):(B7 W R v0 v1 v2 v3 v4 v5 v6 v7 v8 v9).heap[b]?=W.heap[b]?:=by
 unfold B7;rw [heap_setCell_other _ _ _ _ h,heap_setCell_other _ _ _ _ h,heap_setCell_other _ _ _ _ h,heap_setCell_other _ _ _ _ h,heap_setCell_other _ _ _ _ h,heap_setCell_other _ _ _ _ h,heap_setCell_other _ _ _ _ h,heap_setCell_other _ _ _ _ h,heap_setCell_other _ _ _ _ h,heap_setCell_other _ _ _ _ h]
def Se {U:Ϣ} {c:A1} {n:Nat} (j:∀ b,b<n->c b=14) (e:c R=14) (v0 v1 v2 v3 v4 v5 v6 v7 v8 v9:ϒ) (a:Below 0 (B7 w R v0 v1 v2 v3 v4 v5 v6 v7 v8 v9) U) (g:∀ b,n<=b->b<(B7 w R v0 v1 v2 v3 v4 v5 v6 v7 v8 v9).heap.size->U.heap[b]?=(B7 w R v0 v1 v2 v3 v4 v5 v6 v7 v8 v9).heap[b]?):AT (λt=>t=14) c c w U:=by
 have d:=D7 (T:=λt=>t=14) (c:=c) (W:=w) (R:=R) (v0:=v0) (v1:=v1) (v2:=v2) (v3:=v3) (v4:=v4) (v5:=v5) (v6:=v6) (v7:=v7) (v8:=v8) (v9:=v9) e δ;rw [FH] at g;exact ⟨a.os.trans d.os,a.tape.trans d.tape,a.output.trans d.output,Nt d.size a.size,λb i f=>by
  rw [g b (Nat.le_of_not_lt λh=>f (j b h)) i,Np (λh=>f (by rw [h];exact e))],λ_ _=>rfl,δ⟩
def Au.o {c:A1} {y n:Nat} (h:Au w c y s) (F:∀ b,b<n->c b=14) (B:c R=14):∃ k l m o u v p q f g r t a d i j,w.heap[y]?=ς (χ (Bt k l m o u v p q f g r t a d i j s) 34 (0,0))/\VI n (B7 w R (σ k s.M.G l) (σ m s.M.N o) (ι s.Y) (σ u s.R v) (σ p s.N q) (σ f s.A g) (σ r s.results t) (σ a s.Z d) (σ i s.P j) (ι s.U)) (.agg (Bt k l m o u v p q f g r t a d i j s)) s:=by
 obtain ⟨V,x,A⟩:=h;obtain ⟨k,l,m,o,u,v,p,q,f,g,r,t,a,d,i,j,e⟩:=x.opened;refine ⟨k,l,m,o,u,v,p,q,f,g,r,t,a,d,i,j,by rw [<-e];exact A.row,λU C E=>?_⟩;have z:=Se F B _ _ _ _ _ _ _ _ _ _ C E;have K:=x.k14 z (λb D=>x.hi b (Nt z.size D));rw [<-e];exact K.reads
def CH {n:Nat} {V:Ϣ} (h:Below n w V) (e:n<=R) (a:n<=V) (v0 v1 v2 v3 v4 v5 v6 v7 v8 v9:ϒ):Below n w (B7 V R v0 v1 v2 v3 v4 v5 v6 v7 v8 v9):=by
 have d:=D7 (T:=λt=>t=1) (c:=λx=>if x=R then 1 else 0) (W:=V) (R:=R) (v0:=v0) (v1:=v1) (v2:=v2) (v3:=v3) (v4:=v4) (v5:=v5) (v6:=v6) (v7:=v7) (v8:=v8) (v9:=v9) (if_pos rfl) ω;exact h.trans (d.below (B:=n) (λb f=>if_neg ω) a)
def Dc {b:Func} {p u:Tmp} (q:b.results=#[.cell p 34,.tmp u]) {e f g i j k l m n o:ϒ} (h:W.heap[R]?=ς (χ #[e,f,g,i,j,k,l,m,n,o] 34 (0,0))) (a:Array ϒ) (c:a.getD p undef=.pointer (ς (π R 0))) (d:a.getD u undef=v) :
  (results b a).run prog W=.ok (.tuple #[.agg #[e,f,g,i,j,k,l,m,n,o],v]) W:=by
 simp only [results,q];rw [Array.getD_eq_getD_getElem?] at c d;simp [c,d,asAddr,LP h,Result.andThen,Sem.run_bind]
def Kx (cd:AQ) (s:A3) (t:Int) (w:Ϣ) (e:Ending) (w':Ϣ):Prop:=Below w w w'/\((¬Bu cd s/\e=.returned (.tuple #[.agg Bz,ι 1]))\/(Bu cd s/\Cg s t≠0/\e=.returned (.tuple #[.agg Bz,ι (Cg s t)]))\/(Bu cd s/\Cg s t=0/\65536<=s.U/\e=.returned (.tuple #[.agg Bz,ι 6]))\/
 (Bu cd s/\Cg s t=0/\s.U<65536/\∃ s' v,Dg cd s t.toNat s'/\e=.returned (.tuple #[v,ι 0])/\VI w w' v s'))
def Mu {t:Int} (h:Cg s t=0):t=(t.toNat:Int):=by
 unfold Cg at h;by_cases a:t<0
 .rw [if_pos a] at h;cases h
 .omega
def Rs (cd:AQ) (cv sv:ϒ) (s:A3) (t:Int) (w:Ϣ) (hL:C8 w) (I:Bv cd) (hc:BF w w cv cd) (hs:CJ w w sv s) :
  Calls prog 24 #[cv,sv,ι t] w (Kx cd s t w):=by
 obtain ⟨fv,gv,rfl,hf,hg,bQ⟩:=id hc;obtain ⟨fa,fc,rfl⟩:=hf.form;obtain ⟨qa,qc,rfl⟩:=hg.form;obtain ⟨ga,gc,ma,mc,ra,rc,na,nc,ca,cc,oa,oc,ba,bc,ea,ec,rfl⟩:=hs.open_;have HL:=Lh hL;obtain ⟨W,H⟩:=ε (((w.alloc (χ (Bc fa fc qa qc cd) 25)).alloc (χ (Bt ga gc ma mc ra rc na nc ca cc oa oc ba bc ea ec s) 34)).alloc (χ Bz 34));obtain ⟨bX,bB,R0,R1,R2⟩:=Λ5 (bl3 H) (sz3 H) (ro31 H) (ro32 H) (ro33 H);have K:Hid (∀ V,Below W W V->(V.cell? (π w 0)=ς (σ fa cd.H fc)/\V.cell? (π w 1)=ς (ι cd.G)/\V.cell? (π w 2)=ς (σ qa cd.funcs qc))/\(w:Nat)<V.heap.size/\V.heap[(w:Nat)+1]?=ς (χ (Bt ga gc ma mc ra rc na nc ca cc oa oc ba bc ea ec s) 34 (0,0))/\V.heap[(w:Nat)+1+1]?=ς (χ Bz 34 (0,0))):=Lh (λV G=>by
  have h:=bB.o;have h0:=(G.block (w:Nat) ω).trans R0.o;exact ⟨⟨Cr h0 rfl,Cr h0 rfl,Cr h0 rfl⟩,(La h0),(G.block _ ω).trans R1.o,(G.block _ ω).trans R2.o⟩)
 have g:Hid (∀ V,Below W W V->C8 V/\BF w V (.agg (Bc fa fc qa qc cd)) cd/\CJ w V (.agg (Bt ga gc ma mc ra rc na nc ca cc oa oc ba bc ea ec s)) s/\Below w w V):=Lh (λV G=>by
  have f:=bX.o.th G;exact ⟨hL.below f,hc.below f,hs.below f,f⟩)
 have q:=@Lh (∀ V,Below W W V->(w:Nat)<=V.heap.size) (λV G=>(bX.o.th G).size);clear hf hg bQ hL hs hc;obtain ⟨⟨D,E,F⟩,J,j,-⟩:=K.o W Br;obtain ⟨⟨M,N,O,P,Q,R,S,T,U,X⟩,-,Y⟩:=Gk j;clear j;go_enter func24,ntmps24;go_upto_region 1 with fail;rw [<-H];clear H;go_wp2_with fail;refine (IM cd _ s _ (w:Nat) W (g.o W Br).1 (q.o W Br) I (g.o W Br).2.1 (g.o W Br).2.2.1).mono ?_;rintro e v ⟨rfl,bY⟩;have z:=Lh bY;clear D E F J M N O P Q R S T U X Y bY;by_cases hv:Bu cd s
 .rw [CP hv]
  have o:=Lh hv;clear hv;obtain ⟨⟨D,E,F⟩,J,j,d⟩:=K.o v z.o;obtain ⟨⟨M,N,O,P,Q,R,S,T,U,X⟩,-,Y⟩:=Gk j;clear j d;go_wp2_with fail;refine (NF s _ t (w:Nat) v (q.o v z.o) (g.o v z.o).2.2.1 o.o.A).mono ?_;rintro e c ⟨rfl,bZ⟩;have i:=Lh (z.o.th bZ);clear D E F J M N O P Q R S T U X Y bZ;obtain ⟨⟨D,E,F⟩,J,j,d⟩:=K.o c i.o;obtain ⟨⟨M,N,O,P,Q,R,S,T,U,X⟩,-,Y⟩:=Gk j;have bV:=Lh d;by_cases L:Cg s t=0
  .have aO:=ζ (Cg s t) 0 L
   by_cases cO:65536<=s.U
   .obtain ⟨⟨y0,y1,y2,y3,y4,y5,y6,y7,y8,y9⟩,⟨z0,z1,z2,z3,z4,z5,z6,z7,z8,z9⟩,zz⟩:=Gk d
    have y:Hid (Kx cd s t w (.returned (.tuple #[.agg Bz,ι 6])) (B7 c (w+1+1) ν ν (ι 0) ν ν ν ν ν ν (ι 0))):=Lh ⟨CH (g.o c i.o).2.2.2 ω (q.o c i.o) ν ν (ι 0) ν ν ν ν ν ν (ι 0),.inr (.inr (.inl ⟨o.o,L,cO,rfl⟩))⟩;clear j d;go_wp2;exact ϖ (Dc (p:=6) (u:=7) rfl (CB bV.o ν ν (ι 0) ν ν ν ν ν ν (ι 0)) _ rfl rfl) rfl y.o
   .have bT:=Lh L
    clear j d;have bR:s.U<65536:=ω;obtain ⟨tn,rfl⟩:∃ tn:Nat,t=tn:=⟨t.toNat,Mu L⟩
    have bL:=Lh bR;go_wp2_with fail;refine (Jx s _ (w:Nat) c (q.o c i.o) (g.o c i.o).2.2.1 (o.o.copyOk I)).mono ?_;rintro e k ⟨V,c',rfl,hK,hC⟩;obtain ⟨Z,aN⟩:=ε (c':A1);rw [<-aN] at hK hC;have bA:=hK;have C:=hC;clear aN;have cA:Below c c k:=⟨C.os,C.tape,C.output,C.size,λb f=>C.kp b f (no _)⟩
    have bS:=Lh (i.o.th cA);have bK:=Lh C;obtain ⟨cM,cN,cP,cQ,cV,cW,cR,cS,cI,cJ,cT,cU,cG,cH,cK,cL,bP⟩:=bA.opened;rw [bP];obtain ⟨m,aM⟩:=ε (k.alloc (χ (Bt cM cN cP cQ cV cW cR cS cI cJ cT cU cG cH cK cL s) 34));have bN:=bl1 aM;have cC:=sz1 aM;have bM:Hid (Au m (λx=>if x=(k:Nat) then 1 else Z x) k s):=Lh ⟨V,bA.no2 (AT.paint _ _ bN (Nr _)) (λb f=>by
     show (if _ then _ else _)=_;rw [if_neg ω];exact bA.hi b ω),⟨by rw [bP,aM];exact Hn _ _,if_pos rfl⟩⟩
    have A:=Lh (bS.o.th bN);have cF:=Lh cC;clear D E F J M N O P Q R S T U X Y hK hC bA C cA bP bN cC;obtain ⟨⟨D,E,F⟩,J,-,-⟩:=K.o k bS.o;go_wp2_with fail;rw [<-aM];clear D E F J aM;obtain ⟨m0,n,l,r,b,e,hp⟩:=o.o.stepOk bT.o;have aH:Hid (∀ b,b<(c:Nat)->(if b=(k:Nat) then 1 else Z b)=14):=Lh (λb f=>by
     have h3:=bK.o.size;rw [if_neg ω,bK.o.old b f];exact if_pos f)
    have bU:Hid (∀ b,b<(w:Nat)->¬NZ (if b=(k:Nat) then 1 else Z b)):=Lh (λb f=>by
     rw [aH.o b (by have h1:=i.o.size;have h2:=bB.o;omega)];exact Io)
    have aR:=@Lh ((if (w:Nat)+1+1=(k:Nat) then 1 else Z ((w:Nat)+1+1))=14/\(w:Nat)+1+1<m) (by
     have h1:=i.o.size;have h2:=bB.o;have h3:=bK.o.size;have h4:=cF.o;exact ⟨aH.o _ ω,ω⟩)
    refine (MJ cd fa qa fc qc w s (λx=>if x=(k:Nat) then 1 else Z x) (k:Nat) tn m0 n l r b e w m HL.o rfl (g.o m A.o).2.2.2 o.o.sound I (q.o m A.o) (g.o m A.o).2.1 bU.o bM.o o.o.memOk hp).mono ?_;rintro e9 w6 ⟨rfl,a,hR,c6,bW,aL⟩;have cB:c6 ((w:Nat)+1+1)=14:=by rw [aL.old _ aR.o.2];exact aR.o.1
    have aJ:w6.heap[(w:Nat)+1+1]?=ς (χ Bz 34 (0,0)):=by rw [aL.kp _ aR.o.2 (by show ¬NZ (if _ then _ else _);rw [aR.o.1];exact Io)];exact (K.o m A.o).2.2.2
    obtain ⟨aY,aZ,bC,bD,bI,bJ,bE,bF,aU,aV,bG,bH,aS,aT,aW,aX,aP,aQ⟩:=bW.o (n:=(w:Nat)) (λb f=>by
     have h1:=i.o.size;have h2:=bB.o;have h3:=A.o.size;rw [aL.old b ω];exact aH.o b ω) cB
    have bO:=(g.o m A.o).2.2.2.trans (aL.belowN (B:=(w:Nat)) bU.o (q.o m A.o));have y:Hid (Kx cd s (tn:Int) w (.returned (.tuple #[.agg (Bt aY aZ bC bD bI bJ bE bF aU aV bG bH aS aT aW aX a),ι 0])) (B7 w6 (w+1+1) (σ aY a.M.G aZ) (σ bC a.M.N bD) (ι a.Y) (σ bI a.R bJ) (σ bE a.N bF) (σ aU a.A aV) (σ bG a.results bH) (σ aS a.Z aT) (σ aW a.P aX) (ι a.U))):=Lh ⟨CH bO ω bO.size (σ aY a.M.G aZ) (σ bC a.M.N bD) (ι a.Y) (σ bI a.R bJ) (σ bE a.N bF) (σ aU a.A aV) (σ bG a.results bH) (σ aS a.Z aT) (σ aW a.P aX) (ι a.U),.inr (.inr (.inr ⟨o.o,bT.o,bL.o,a,_,by rw [Int.toNat_natCast];exact hR,rfl,aQ⟩))⟩;obtain ⟨⟨M,N,O,P,Q,R,S,T,U,X⟩,-,Y⟩:=Gk aP;obtain ⟨⟨y0,y1,y2,y3,y4,y5,y6,y7,y8,y9⟩,⟨z0,z1,z2,z3,z4,z5,z6,z7,z8,z9⟩,zz⟩:=Gk aJ;have cE:=Lh aJ;clear aJ aP aQ bO cB hR bW aL hp;go_wp2;exact ϖ (Dc (p:=6) (u:=7) rfl (CB cE.o (σ aY a.M.G aZ) (σ bC a.M.N bD) (ι a.Y) (σ bI a.R bJ) (σ bE a.N bF) (σ aU a.A aV) (σ bG a.results bH) (σ aS a.Z aT) (σ aW a.P aX) (ι a.U)) _ rfl rfl) rfl y.o
  .obtain ⟨⟨y0,y1,y2,y3,y4,y5,y6,y7,y8,y9⟩,⟨z0,z1,z2,z3,z4,z5,z6,z7,z8,z9⟩,zz⟩:=Gk d
   have aO:=ξ (Cg s t) 0 L;have y:Hid (Kx cd s t w (.returned (.tuple #[.agg Bz,ι (Cg s t)])) (B7 c (w+1+1) ν ν (ι 0) ν ν ν ν ν ν (ι 0))):=Lh ⟨CH (g.o c i.o).2.2.2 ω (q.o c i.o) ν ν (ι 0) ν ν ν ν ν ν (ι 0),.inr (.inl ⟨o.o,L,rfl⟩)⟩;clear j d;go_wp2;exact ϖ (Dc (p:=6) (u:=7) rfl (CB bV.o ν ν (ι 0) ν ν ν ν ν ν (ι 0)) _ rfl rfl) rfl y.o
 .rw [Bw hv]
  obtain ⟨-,-,-,d⟩:=K.o v z.o;obtain ⟨⟨y0,y1,y2,y3,y4,y5,y6,y7,y8,y9⟩,⟨z0,z1,z2,z3,z4,z5,z6,z7,z8,z9⟩,zz⟩:=Gk d;have cD:=Lh d;have y:Hid (Kx cd s t w (.returned (.tuple #[.agg Bz,ι 1])) (B7 v (w+1+1) ν ν (ι 0) ν ν ν ν ν ν (ι 0))):=Lh ⟨CH (g.o v z.o).2.2.2 ω (q.o v z.o) ν ν (ι 0) ν ν ν ν ν ν (ι 0),.inl ⟨hv,rfl⟩⟩;clear d;go_wp2;exact ϖ (Dc (p:=6) (u:=7) rfl (CB cD.o ν ν (ι 0) ν ν ν ν ν ν (ι 0)) _ rfl rfl) rfl y.o
structure At (s:A3) (t:Nat) (m:AV) (n:Int) (l:List Bi) (r:List CD) (b e:List Int):Prop where
 m:s.R[t]?=ς m
 n:s.N[t]?=ς n
 l:s.A[t]?=ς l
 r:s.results[t]?=ς r
 b:s.Z[t]?=ς b
 e:s.P[t]?=ς e
structure Xp (c:AQ) (m:AV) (n:Int) (l:List Bi) (r:List CD) (b e:List Int) (step:Int):Prop where
 mach:(m=AI/\n=0)\/Iv c m
 cnt:0<=n/\n<=step
 right:∀ x∈l,AS c x 0=0
 P:e.length=r.length
 Z:b.length=r.length+(if m.J=[] then 0 else 1)
 ops:l.length+r.length+(if m.J=[] then 0 else 1)<=2000
structure Fo (c:AQ) (s:A3):Prop where
 sound:AU c
 M:Dp c s.M
 Y:0<=s.Y/\s.Y<=1048576
 U:0<=s.U
 N:s.N.length=s.R.length
 A:s.A.length=s.R.length
 results:s.results.length=s.R.length
 Z:s.Z.length=s.R.length
 P:s.P.length=s.R.length
 all:∀ (t:Nat) m n l r b e,At s t m n l r b e->Xp c m n l r b e s.U
def Iv.ne (h:Iv c m):m.J≠[]:=by
 obtain ⟨b,f,a⟩:=h.waits;rw [a.fr];simp
def Fo.at_ (h:Fo c s) (a:t<s.R.length):∃ m n l r b e,At s t m n l r b e:=
 ⟨_,_,_,_,_,_,⟨Lg a,Lg (by rw [h.N];exact a),Lg (by rw [h.A];exact a),Lg (by rw [h.results];exact a),Lg (by rw [h.Z];exact a),Lg (by rw [h.P];exact a)⟩⟩
def Kg {l:List α} (h:l[t]?=ς y):(l.set t x)[t]?=ς x:=by
 rw [List.getElem?_set_self (Ll h)]
def PV {l:List α} (h:l[t]?=ς x):(l.modify t f)[t]?=ς (f x):=by
 rw [List.getElem?_modify_eq,h];rfl
structure N3 (c:AQ) (s:A3) (t:Nat) (m:AV) (n:Int) (l:List Bi) (r:List CD) (b e:List Int):Prop where
 sound:AU c
 M:Dp c s.M
 Y:0<=s.Y/\s.Y<=1048576
 U:0<=s.U
 N:s.N.length=s.R.length
 A:s.A.length=s.R.length
 results:s.results.length=s.R.length
 Z:s.Z.length=s.R.length
 P:s.P.length=s.R.length
 others:∀ (u:Nat) m n l r b e,u≠t->At s u m n l r b e->Xp c m n l r b e s.U
 hn:s.N[t]?=ς n
 hl:s.A[t]?=ς l
 hr:s.results[t]?=ς r
 hb:s.Z[t]?=ς b
 he:s.P[t]?=ς e
 lt:t<s.R.length
 right:∀ x∈l,AS c x 0=0
 el:e.length=r.length
 bl:b.length=r.length+1
 ops:l.length+r.length+1<=2000
def Xp.up {a:Int} (h:Xp c m n l r b e a):Xp c m n l r b e (a+1):=⟨h.mach,⟨h.cnt.1,by have:=h.cnt.2;omega⟩,h.right,h.P,h.Z,h.ops⟩
def TJ {l:List α} {u:Nat} (h:u≠t):(l.modify t f)[u]?=l[u]?:=by
 rw [List.getElem?_modify];cases l[u]?<;>simp [Ne.symm h]
def N3.endI (h:N3 c s t m n l r b e) (f v k d:Int):Fo c (Im (Ly s t f v k d)):=by
 refine ⟨h.sound,h.M,h.Y,by show 0<=s.U+1;have:=h.U;omega,?_,?_,?_,?_,?_,λu m' A E B C z D=>?_⟩
 .show (s.N.set t 0).length=(s.R.set t AI).length
  rw [List.length_set,List.length_set];exact h.N
 .show s.A.length=(s.R.set t AI).length
  rw [List.length_set];exact h.A
 .show (s.results.modify t _).length=(s.R.set t AI).length
  rw [List.length_modify,List.length_set];exact h.results
 .show s.Z.length=(s.R.set t AI).length
  rw [List.length_set];exact h.Z
 .show (s.P.modify t _).length=(s.R.set t AI).length
  rw [List.length_modify,List.length_set];exact h.P
 .obtain ⟨a1,a2,a3,a4,a5,a6⟩:=D
  by_cases a:u=t
  .subst a
   have i:(s.R.set u AI)[u]?=ς m':=a1;have g:(s.N.set u 0)[u]?=ς A:=a2;have o:(s.results.modify u (·++[⟨f,v,k,d,0⟩]))[u]?=ς B:=a4;have q:(s.P.modify u (·++[s.U]))[u]?=ς z:=a6;rw [Kg (Lg h.lt)] at i;rw [Kg h.hn] at g;rw [PV h.hr] at o;rw [PV h.he] at q;have j:s.A[u]?=ς E:=a3;have p:s.Z[u]?=ς C:=a5;rw [h.hl] at j;rw [h.hb] at p;cases i;cases g;cases j;cases o;cases p;cases q;have F:=h.ops;have G:=h.bl;have H:=h.el;have I:=h.U;refine ⟨.inl ⟨rfl,rfl⟩,⟨ω,by show (0:Int)<=s.U+1;omega⟩,h.right,by simp;omega,?_,?_⟩
   .show b.length=(r++[_]).length+(if AI.J=[] then 0 else 1)
    rw [if_pos (show AI.J=[] from rfl)];simp;omega
   .show l.length+(r++[_]).length+(if AI.J=[] then 0 else 1)<=2000
    rw [if_pos (show AI.J=[] from rfl)];simp;omega
  .have c1:(s.R.set t AI)[u]?=ς m':=a1
   have w:(s.N.set t 0)[u]?=ς A:=a2;have x:(s.results.modify t (·++[⟨f,v,k,d,0⟩]))[u]?=ς B:=a4;have y:(s.P.modify t (·++[s.U]))[u]?=ς z:=a6;rw [List.getElem?_set_ne (Ne.symm a)] at c1 w;rw [TJ a] at x y;exact (h.others u _ _ _ _ _ _ a ⟨c1,w,a3,x,a5,y⟩).up
def N3.runI (h:N3 c s t m n l r b e) (d:Iv c m') (w:0<=n/\n<=s.U+1):Fo c (Im { s with R:=s.R.set t m' }):=by
 refine ⟨h.sound,h.M,h.Y,by show 0<=s.U+1;have:=h.U;omega,?_,?_,?_,?_,?_,λu y z x A p q v=>?_⟩
 .show s.N.length=(s.R.set t m').length
  rw [List.length_set];exact h.N
 .show s.A.length=(s.R.set t m').length
  rw [List.length_set];exact h.A
 .show s.results.length=(s.R.set t m').length
  rw [List.length_set];exact h.results
 .show s.Z.length=(s.R.set t m').length
  rw [List.length_set];exact h.Z
 .show s.P.length=(s.R.set t m').length
  rw [List.length_set];exact h.P
 .obtain ⟨a1,a2,a3,a4,a5,a6⟩:=v
  have a:(s.R.set t m')[u]?=ς y:=a1;by_cases f:u=t
  .subst f
   rw [Kg (Lg h.lt)] at a;have g:s.N[u]?=ς z:=a2;have i:s.A[u]?=ς x:=a3;have j:s.results[u]?=ς A:=a4;have k:s.Z[u]?=ς p:=a5;have o:s.P[u]?=ς q:=a6;rw [h.hn] at g;rw [h.hl] at i;rw [h.hr] at j;rw [h.hb] at k;rw [h.he] at o;cases a;cases g;cases i;cases j;cases k;cases o;exact ⟨.inr d,w,h.right,h.el,by rw [if_neg d.ne];exact h.bl,by rw [if_neg d.ne];exact h.ops⟩
  .rw [List.getElem?_set_ne (Ne.symm f)] at a
   exact (h.others u _ _ _ _ _ _ f ⟨a,a2,a3,a4,a5,a6⟩).up
def Va {m a:Mm} {r:Rq} (b:Dp c m) (e:Fy c r) (h:Fx c m r=ς (a,n)):Dp c a:=by
 have:∃ p,Ka c ⟨m,[],0⟩ r=ς (p,n)/\p.M=a:=by
  unfold Fx at h;unfold Ka;split at h
  .rename_i h3
   rw [if_pos h3];split at h
   .rename_i hl;rw [if_pos hl];cases h;exact ⟨_,rfl,rfl⟩
   .rename_i hl;rw [if_neg hl];cases h;exact ⟨_,rfl,rfl⟩
  .rename_i h3
   rw [if_neg h3];split at h
   .cases h
   .rename_i hl
    rw [if_neg hl];split at h
    .rename_i h2
     cases h;refine ⟨_,by rw [if_pos h2],?_⟩;show putM m r=setM m r r.V;unfold putM setM;rw [if_neg ω]
    .rename_i h2
     cases h;refine ⟨_,by rw [if_neg h2],?_⟩;show putM m r=m;unfold putM;rw [if_pos h2]
 obtain ⟨p,d,rfl⟩:=this;exact (Ts b e d).1
def XK (m:Mm) (r:Rq):0<=EU m r/\EU m r<=1:=by unfold EU;split<;>omega
def N3.settleI (h:N3 c s t m n l r b e) (g:DQ c m'\/(m'.J=[]/\m'.Q=Ah 21/\EB m')) (k:m'.Y<=1048576) (j:m'.C+Co m'<=1000000000000) (o:0<=n/\n<=s.U+1):Fo c (Im (CC s t m' n)):=by
 unfold CC;by_cases f:m'.Q.K=4
 .rw [if_pos f];exact h.endI _ _ _ _
 .rw [if_neg f]
  by_cases d:m'.Q.K=5
  .rw [if_pos d];exact h.endI _ _ _ _
  .rw [if_neg d]
   rcases g with ⟨i,⟨e,_,a,_⟩|⟨v,_,a,_⟩|p⟩|⟨_,a,_⟩
   .exact absurd (by rw [a];rfl) d
   .exact absurd (by rw [a];rfl) f
   .exact h.runI ⟨p,i,k,j⟩ o
   .exact absurd (by rw [a];rfl) d
def Fo.begin_ {z:A3} {m0:AV} (h:Fo c s) (f:s.R[t]?=ς m0) (q:s.N[t]?=ς n) (G:Nu c s t m0 m z):∃ l r b e,N3 c z t m n l r b e/\DQ c m/\m.Y<=1048576/\m.C+Co m<=1000000000000/\0<=n/\n<=z.U:=by
 have v:=(Ll f)
 obtain ⟨N,P,l,r,b,e,d⟩:=h.at_ v;have C:=d.m;rw [f] at C;cases C;have k:=d.n;rw [q] at k;cases k;have a:=h.all t _ _ _ _ _ _ d;rcases G with ⟨j,rfl,rfl⟩|⟨j,x,w,D,H,rfl⟩
 .have aB:Iv c m:=by
   rcases a.mach with ⟨o,_⟩|o
   .exact absurd (by rw [o];rfl) j
   .exact o
  have i:=a.Z;have g:=a.ops;rw [if_neg j] at i g;exact ⟨l,r,b,e,⟨h.sound,h.M,h.Y,h.U,h.N,h.A,h.results,h.Z,h.P,λu _ _ _ _ _ _ _ p=>h.all u _ _ _ _ _ _ p,q,d.l,d.r,d.b,d.e,v,a.right,a.P,i,g⟩,⟨aB.nums,.inr (.inr aB.waits)⟩,aB.Y,aB.cmp,a.cnt⟩
 .have e3:=d.l
  rw [D] at e3;cases e3;have i:=a.Z;have g:=a.ops;rw [if_pos j] at i g;obtain ⟨J,K,L⟩:=Jn h.sound (IP h.Y (a.right x ψ)) H;refine ⟨w,r,b++[s.U],e,⟨h.sound,h.M,h.Y,h.U,h.N,?_,h.results,?_,h.P,λu O Q M R F k E p=>?_,q,Kg D,d.r,PV d.b,d.e,v,λy I=>a.right y (by simp [I]),a.P,by simp;omega,by simp at g;omega⟩,J,K,L,a.cnt⟩
  .show (s.A.set t w).length=s.R.length
   rw [List.length_set];exact h.A
  .show (s.Z.modify t _).length=s.R.length
   rw [List.length_modify];exact h.Z
  .obtain ⟨a1,a2,a3,a4,a5,a6⟩:=p
   have A:(s.A.set t w)[u]?=ς M:=a3;have B:(s.Z.modify t (·++[s.U]))[u]?=ς F:=a5;rw [List.getElem?_set_ne (Ne.symm E)] at A;rw [TJ E] at B;exact h.all u _ _ _ _ _ _ ⟨a1,a2,A,a4,B,a6⟩
def Fo.stepR {w:A3} (h:Fo c s) (E:Dg c s t w):Fo c w:=by
 obtain ⟨T,n,m,g,z,G,C,B⟩:=E;obtain ⟨l,r,b,e,d,o,q,p,A,O⟩:=h.begin_ z G C;rcases B with ⟨_,rfl⟩|⟨_,_,rfl⟩|⟨F,L,a,m',i,D,rfl⟩
 .exact d.settleI (.inl o) q p ⟨A,ω⟩
 .exact d.endI _ _ _ _
 .have aA:=Kn o F q p
  obtain ⟨R,f,H⟩:=aA.waits;have j:=H.Q d.sound;obtain ⟨I,J,K⟩:=TX d.sound aA (IN d.M j i) D;have N:=XK g.M m.Q;have x:N3 c { g with M:=L,N:=g.N.set t (n+EU g.M m.Q) } t m (n+EU g.M m.Q) l r b e:=by
   refine ⟨d.sound,Va d.M j i,d.Y,d.U,?_,d.A,d.results,d.Z,d.P,λu U M S V P Q v y=>?_,Kg d.hn,d.hl,d.hr,d.hb,d.he,d.lt,d.right,d.el,d.bl,d.ops⟩
   .show (g.N.set t _).length=g.R.length
    rw [List.length_set];exact d.N
   .obtain ⟨a1,a2,a3,a4,a5,a6⟩:=y
    have k:(g.N.set t (n+EU g.M m.Q))[u]?=ς M:=a2;rw [List.getElem?_set_ne (Ne.symm v)] at k;exact d.others u _ _ _ _ _ _ v ⟨a1,k,a3,a4,a5,a6⟩
  exact x.settleI I J K ⟨ω,by show n+EU g.M m.Q<=g.U+1;omega⟩
def Lx (m:Mm) (fuel:Int) (cs:List (List Bi)):A3:=⟨m,fuel,ϱ cs.length AI,ϱ cs.length 0,cs,ϱ cs.length [],ϱ cs.length [],ϱ cs.length [],0⟩
def JU {n:Nat} (h:(ϱ n x)[t]?=ς y):y=x:=by
 have:=Lm h;exact (List.mem_replicate.1 this).2
def TS {m:Mm} {fuel:Int} {a:List (List Bi)} (hs:AU c) (y:Dp c m) (w:0<=fuel/\fuel<=1048576) (z:∀ l∈a,∀ x∈l,AS c x 0=0) (hl:∀ l∈a,l.length<=2000):Fo c (Lx m fuel a):=by
 refine ⟨hs,y,w,Int.le_refl _,by simp [Lx],by simp [Lx],by simp [Lx],by simp [Lx],by simp [Lx],λt m' n l r b e v=>?_⟩;obtain ⟨f,g,h,i,j,k⟩:=v;have o:=JU f;have p:=JU g;have q:=JU i;have s:=JU j;have u:=JU k;subst o p q s u;have d:l∈a:=Lm h;have A:=hl l d;exact ⟨.inl ⟨rfl,rfl⟩,⟨Int.le_refl _,Int.le_refl _⟩,z l d,rfl,by rw [if_pos (show AI.J=[] from rfl)];rfl,by rw [if_pos (show AI.J=[] from rfl)];simp;omega⟩
def PC (h:Iv c m):Cu m=false:=by
 cases a:Cu m with
 | false=>rfl
 | true=>exact absurd (El a) h.ne
def Fo.valT (h:Fo c s) (y:1<=s.R.length) (A:s.R.length<=8) (z:s.U<=65536) (p:∀ (t:Nat) b e,s.Z[t]?=ς b->s.P[t]?=ς e->BA b e (-1) s.U=true):Bu c s:=by
 refine ⟨h.sound,Ik.2 h.M,h.Y,⟨h.U,z⟩,y,A,h.N,h.A,h.results,h.Z,h.P,λt m n l r b e q u v w j k=>?_⟩;have a:=h.all t _ _ _ _ _ _ ⟨q,u,v,w,j,k⟩;have o:l.any (λx=>!(AS c x 0 == 0))=false:=by rw [List.any_eq_false];intro x C;simp [a.right x C]
 have g:=a.Z;have i:=a.ops;rcases a.mach with ⟨rfl,rfl⟩|f
 .rw [if_pos (show AI.J=[] from rfl)] at g i
  have d:Fw AI=0:=rfl;exact ⟨.inl ⟨rfl,rfl⟩,a.P,by rw [d];exact g,by rw [d];exact i,p t b e j k,o⟩
 .rw [if_neg f.ne] at g i
  have d:Fw m=1:=by unfold Fw;rw [PC f];rfl
  have B:=a.cnt;exact ⟨.inr ⟨PC f,f.valid h.sound,f.asks,B.1,ω⟩,a.P,by rw [d];exact g,by rw [d];exact i,p t b e j k,o⟩
