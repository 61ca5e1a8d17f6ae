import Derived.Test.YtigbfkiddlhhjaaGreatDoorVld3
import Derived.Test.YtigbfkiddlhhjaaGreatDoorCpy3
set_option maxHeartbeats 4000000
set_option maxRecDepth 1000000
set_option linter.all false
open Go renaming World→Ϣ,Value→ϒ,bodyPost_ret→ϖ
open Option renaming some→ς
open Go.Value renaming slice→σ
open Go.Obj renaming cells→χ
namespace Go.Proofs.YtigbfkiddlhhjaaGreatDoor
open Go.RowKit Proofs.Tryz
variable {r:Rq} {c:AQ} {f:AY} {m:AV} {fs:List AY}
structure Ax (c:AQ) (m:AV):Prop where
 sound:AU c
 Y:0<=m.Y/\m.Y<=1048576
 cmp:0<=m.C/\m.C<=1099511627776
 I:0<=m.I/\m.I<=100000
 len:m.J.length<=200
 body:(m.J=[]/\DT m.Q=true)\/(m.J≠[]/\∀ k f,m.J[k]?=ς f->BU c m.J m.Q k f)
def MG (c:AQ) (F:ϒ) (m:AV) (fv:ϒ) (B:Nat) (w:Ϣ) (z:C8 w) (y:B<=w) (q:BF B w F c) (N:AE B w 4 (CK B) fv m.J) (C:Bv c) :
  Calls prog 110 #[F,AJ fv m] w λe R=>e=.returned (.bool (pB (Ax c m)))/\Below w w R:=by
 obtain ⟨T,cg,rfl,O,P,S⟩:=id q;obtain ⟨t,u,rfl⟩:=O.form;obtain ⟨v,x,rfl⟩:=P.form;obtain ⟨D,E,rfl⟩:=N.form;obtain ⟨fs,⟨l,n,d,g,b⟩,i,a,j⟩:=m;unfold AJ AC;dsimp only at *
 by_cases A:AU c/\¬i<0/\¬1048576<i/\¬a<0/\¬1099511627776<a/\¬j<0/\¬100000<j/\¬200<(fs:Int)
 rotate_left
 .rw [Bw (λh=>A ⟨h.sound,by have:=h.Y.1;simp at this;omega,by have:=h.Y.2;simp at this;omega,by have:=h.cmp.1;simp at this;omega,by have:=h.cmp.2;simp at this;omega,by have:=h.I.1;simp at this;omega,by have:=h.I.2;simp at this;omega,by have:=h.len;simp at this;omega⟩)]
  exact TE c fs l n d g b i a j t v D u x E B w z y q A
 obtain ⟨r,G,H,I,J,K,L,Q⟩:=A;by_cases p:fs=[]
 .subst p
  have s:pB (Ax c ⟨[],⟨l,n,d,g,b⟩,i,a,j⟩)=DT ⟨l,n,d,g,b⟩:=by
   cases M:DT ⟨l,n,d,g,b⟩ with
   | true=>exact CP ⟨r,⟨by show 0<=i;omega,by show i<=_;omega⟩,⟨by show 0<=a;omega,by show a<=_;omega⟩,⟨by show 0<=j;omega,by show j<=_;omega⟩,ψ,.inl ⟨rfl,M⟩⟩
   | false=>exact Bw (λh=>by
     rcases h.body with ⟨_,h⟩|⟨h,_⟩
     .rw [M] at h;cases h
     .exact h rfl)
  rw [s];exact Qp c l n d g b i a j t v D u x E B w z y q r G H I J K L
 .have s:pB (Ax c ⟨fs,⟨l,n,d,g,b⟩,i,a,j⟩)=pB (∀ k f,fs[k]?=ς f->BU c fs ⟨l,n,d,g,b⟩ k f):=by
   by_cases o:∀ k f,fs[k]?=ς f->BU c fs ⟨l,n,d,g,b⟩ k f
   .rw [CP o]
    exact CP ⟨r,⟨by show 0<=i;omega,by show i<=_;omega⟩,⟨by show 0<=a;omega,by show a<=_;omega⟩,⟨by show 0<=j;omega,by show j<=_;omega⟩,by show fs.length<=200;omega,.inr ⟨p,o⟩⟩
   .rw [Bw o]
    exact Bw (λh=>by
     rcases h.body with ⟨h,_⟩|⟨_,h⟩
     .exact p h
     .exact o h)
  rw [s];exact Qq c fs l n d g b i a j t v D u x E B w z y q N r C G H I J K L Q (by cases fs with|nil=>exact absurd rfl p|cons _ _=>simp)
def Vg {x:Cd} (h:AP x r=true):Ko x r:=by
 have o:=I6 h;obtain ⟨m,a,k,b,j⟩:=r;unfold AP at h;simp only [Bool.and_eq_true,beq_iff_eq,Bool.not_eq_true',beq_eq_false_iff_ne,ne_eq,Bool.or_eq_true] at h;obtain ⟨⟨⟨⟨⟨s,d⟩,f⟩,q⟩,n⟩,g⟩:=h;subst q n;have l:Aa x.op=2->BP b:=λe=>by
  rcases g with g|⟨_,g⟩
  .rw [g];unfold BP;omega
  .exact Aq.1 g
 have i:Aa x.op≠2->b=0:=λe=>by
  rcases g with g|⟨p,_⟩
  .exact g
  .exact absurd p e
 rcases o with e|e|e|e|e
 .have aA:Aa x.op=1:=by rw [e];rfl
  have c:a=0:=by rw [e] at f;simpa [Ag] using f
  rw [aA] at d;have:=i (by rw [aA];decide);subst d c this;exact .inl ⟨e,rfl⟩
 .have aA:Aa x.op=2:=by rw [e];rfl
  have c:a=0:=by rw [e] at f;simpa [Ag] using f
  rw [aA] at d;have:=l aA;subst d c;exact .inr (.inl ⟨b,e,this,rfl⟩)
 .have aA:Aa x.op=1:=by rw [e];rfl
  have c:1<=a/\a<=1099511627776:=by rw [e] at f;simpa [Ag] using f
  rw [aA] at d;have:=i (by rw [aA];decide);subst d this;exact .inr (.inr (.inl ⟨a,e,c.1,⟨ω,c.2⟩,rfl⟩))
 .have aA:Aa x.op=2:=by rw [e];rfl
  have c:1<=a/\a<=1099511627776:=by rw [e] at f;simpa [Ag] using f
  rw [aA] at d;have:=l aA;subst d;exact .inr (.inr (.inr (.inl ⟨a,b,e,c.1,⟨ω,c.2⟩,this,rfl⟩)))
 .have aA:Aa x.op=3:=by rw [e];rfl
  have c:a=0:=by rw [e] at f;simpa [Ag] using f
  rw [aA] at d;have:=i (by rw [aA];decide);subst d c this;exact .inr (.inr (.inr (.inr ⟨e,rfl⟩)))
def DL.imp {P Q:Cd->Prop} (h:DL c f P) (a:∀ x,P x->Q x):DL c f Q:=by
 obtain ⟨y,x,j,b,d,e,g,i⟩:=h;exact ⟨y,x,j,b,d,e,a x g,i⟩
def Oj :∀ (n:Nat) (fs:List AY) (g:AY),fs.length=n->(∀ k f,fs[k]?=ς f->DL c f (λx=>x.op=9/\∃ d,(fs++[g])[k+1]?=ς d/\x.a=d.fn))->Ge c fs.reverse g.fn
 | 0,fs,g,b,_=>by rw [List.eq_nil_of_length_eq_zero b];trivial
 | n+1,fs,g,b,h=>by
  rcases List.eq_nil_or_concat fs with o|⟨j,l,rfl⟩
  .rw [o] at b;simp at b
  .simp only [List.concat_eq_append] at *
   rw [List.reverse_append];simp at b;refine ⟨?_,Oj n j l b (λk f m=>?_)⟩
   .refine (h j.length l ψ).imp (λx e=>⟨e.1,?_⟩)
    obtain ⟨_,d,a,i⟩:=e;rw [Ar ψ] at a;simp at a;subst a;exact i
   .have hk:=(Ll m)
    refine (h k f (by rw [Al hk];exact m)).imp (λx e=>⟨e.1,?_⟩);obtain ⟨_,d,a,i⟩:=e;refine ⟨d,?_,i⟩;rw [Al φ] at a;exact a
def Ax.waits (h:Ax c m) (n:m.Q.K≠4) (o:m.Q.K≠5):∃ fs f,C9 c m m.Q fs f:=by
 rcases h.body with ⟨_,b⟩|⟨j,d⟩
 .unfold DT at b
  rw [if_neg n,if_neg o] at b;cases b
 .rcases List.eq_nil_or_concat m.J with h0|⟨fs,f,hf⟩
  .exact absurd h0 j
  .simp only [List.concat_eq_append] at hf
   have g:m.J.length=fs.length+1:=by rw [hf];simp
   have p:=h.len;refine ⟨fs,f,hf,?_,?_,ω⟩
   .have:=d fs.length f (by rw [hf];simp)
    unfold BU at this;simp only [g] at this;exact this.imp (λx a=>Vg (by simpa using a))
   .refine Oj fs.length fs f rfl (λk l e=>?_)
    have i:=(Ll e)
    have:=d k l (by rw [hf,Al i];exact e);unfold BU at this;refine this.imp (λx a=>?_);rw [if_neg ω,hf] at a;exact a
def Ax.nums (h:Ax c m):EB m:=by
 have b:=h.Y;have d:=h.cmp;have a:=h.I;exact ⟨b.1,a.1,a.2,d.1,by unfold Co;omega⟩
def Ax.K (h:Ax c m):m.Q.K=1\/m.Q.K=2\/m.Q.K=3\/m.Q.K=4\/m.Q.K=5:=by
 by_cases a:m.Q.K=4
 .omega
 by_cases b:m.Q.K=5
 .omega
 obtain ⟨fs,f,e⟩:=h.waits a b;obtain ⟨_,x,_,_,_,_,d,_⟩:=e.top;have:=EW d;omega
def C9.small (hs:AU c) (i:Bv c) (h:C9 c m r fs f):∀ g∈m.J,g.L.length<=100/\g.S.length<=100000:=by
 have n:∀ g P,DL c g P->g.L.length<=100/\g.S.length<=100000:=λg P ⟨y,x,A,d,t,q,_,p,e⟩=>by have u:=DJ (hs.wf d.fn) (hs.snd d.fn) p;have v:=i y (Lm d.fn);have w:=((hs.wf d.fn).pops x (Lm q)).1;have o:=hs.fok d.fn;have z:=d.loc;unfold CX at o;omega
 have j:∀ (l:List AY) (k:Int),Ge c l k->∀ g∈l,g.L.length<=100/\g.S.length<=100000:=by
  intro l;induction l with
  | nil=>intro _ _ g b;simp at b
  | cons a l s=>
   intro k e g b;rw [List.mem_cons] at b;rcases b with rfl|b
   .exact n _ _ e.1
   .exact s _ e.2 g b
 intro g b;rw [h.fr,List.mem_append,List.mem_singleton] at b;rcases b with b|rfl
 .exact j _ _ h.low g (List.mem_reverse.2 b)
 .exact n _ _ h.top
def MM (c:AQ) (m:AV) (n:Int) (w:Ϣ) (e:Ending) (w':Ϣ):Prop:=
 (¬Ax c m/\e=.returned (.tuple #[AJ ν AI,ι 1])/\Below w w w')\/
 (Ax c m/\(m.Q.K=4\/m.Q.K=5)/\e=.returned (.tuple #[AJ ν AI,ι 13])/\Below w w w')\/
 (Ax c m/\¬(m.Q.K=4\/m.Q.K=5)/\Bj m.Q n=false/\e=.returned (.tuple #[AJ ν AI,ι 2])/\Below w w w')\/
 (Ax c m/\¬(m.Q.K=4\/m.Q.K=5)/\Bj m.Q n=true/\∃ m' fv,ED c m n m'/\e=.returned (.tuple #[AJ fv m',ι 0])/\CE w fv m' w')
def Rc (hs:AU c) (h:Bv c) {w:Ϣ} {bm:Nat} {F:List Nat} (l j:Option Addr) (p o k:Nat) (g n:Int) (d:C9 c m m.Q fs f) (a:EB m) (s:Ak w bm m F)
  (B:Nat) (r:∀ b∈F,B<=b) (e:AE B w 5 (CW B) (σ j c.funcs k) c.funcs) (q:Bj m.Q n=true) :
  Calls prog 113 #[.agg #[σ l p o,ι g,σ j c.funcs k],.pointer (ς (π bm 0)),ι n] w (EJ c m n bm F w):=by
 obtain ⟨_,x,_,_,_,_,u,_⟩:=d.top;unfold Bj at q;rcases EW u with i|i|i
 .rw [if_pos i] at q
  exact QK hs h l j p o k g n d a s B r e i (Aq.1 q)
 .exact Vy hs h l j p o k g n d a s B r e i
 .rw [if_neg ω,if_pos i] at q
  have v:BP n:=by simp at q;unfold BP;omega
  by_cases t:n=0
  .exact UO hs h l j p o k g n d a s B r e i t
  .exact QL hs h l j p o k g n d a s B r e i v t
def TP (c:AQ) (cv:ϒ) (m:AV) (fv:ϒ) (n:Int) (B:Nat) (w:Ϣ) (hL:C8 w) (X:B<=w) (hc:BF B w cv c) (hm:AE B w 4 (CK B) fv m.J) (T:Bv c) :
  Calls prog 77 #[cv,AJ fv m,ι n] w (MM c m n w):=by
 have HC:=Lh hc;have HM:=Lh hm;have HL:=Lh hL;obtain ⟨cf,cg,rfl,cI,bU,bW⟩:=hc;obtain ⟨fa,fc,rfl⟩:=cI.form;have HG:=Lh bU;obtain ⟨ga,gc,rfl⟩:=bU.form;obtain ⟨G,H,rfl⟩:=hm.form;obtain ⟨fs,⟨i,l,g,h,d⟩,o,a,q⟩:=m;dsimp only at HM;unfold AJ AC;dsimp only;obtain ⟨W,L⟩:=ε (((w.alloc (χ (Bc fa fc ga gc c) 25)).alloc (χ #[σ G fs H,ι i,ι l,ι g,ι h,ι d,ι o,ι a,ι q] 59)).alloc (χ #[ν,ι 0,ι 0,ι 0,ι 0,ι 0,ι 0,ι 0,ι 0] 59));have aX:=Lh (bl3 L);have cA:=Lh (sz3 L);have b0:=Lh (ce31 L);have E:Hid (W.heap[(w:Nat)+1]?=ς (χ (AC (σ G fs H) ⟨fs,⟨i,l,g,h,d⟩,o,a,q⟩) 59 (0,0))):=by rw [L,Ha _ _ _ ψ];have:=Hn (w.alloc (χ (Bc fa fc ga gc c) 25)) (χ #[σ G fs H,ι i,ι l,ι g,ι h,ι d,ι o,ι a,ι q] 59);exact Lh (by simpa [AC] using this)
 have b2:=Lh (ro33 L);obtain ⟨F,i1,i2⟩:=Γ3 b0.o;have m0:=AD E.o 0 (σ G fs H) rfl;have m1:=AD E.o 1 (ι i) rfl;have m2:=AD E.o 2 (ι l) rfl;have m3:=AD E.o 3 (ι g) rfl;have m4:=AD E.o 4 (ι h) rfl;have t:=AD E.o 5 (ι d) rfl;have m6:=AD E.o 6 (ι o) rfl;have m7:=AD E.o 7 (ι a) rfl;have m8:=AD E.o 8 (ι q) rfl;have z1:(w:Nat)+1<W:=by have:=cA.o;omega
 have cR:B<=W:=ω;have cK:=Lh (HC.o.below (aX.o.mono X));have cM:=Lh (HM.o.fras (aX.o.mono X));clear cI bU hm hL bW;go_enter func77,ntmps77;go_upto_region 1 with fail;rw [<-L];have HW:=Lh L;clear L;go_wp2_with fail;refine (MG c _ ⟨fs,⟨i,l,g,h,d⟩,o,a,q⟩ _ B W (HL.o.below aX.o) cR cK.o cM.o T).mono ?_;rintro e I ⟨rfl,U⟩;obtain ⟨F,i1,i2,m0,m1,m2,m3,m4,t⟩:=Δ9 U F i1 i2 m0 m1 m2 m3 m4 t;obtain ⟨m6,m7,m8⟩:=Δ3 U m6 m7 m8;have z1:=Bl m0;have N:=Lh (aX.o.th U);have r:=@Lh (I.heap[(w:Nat)+1+1]?=ς (χ #[ν,ι 0,ι 0,ι 0,ι 0,ι 0,ι 0,ι 0,ι 0] 59 (0,0))) (by rw [U.block _ (by have:=cA.o;omega)];exact b2.o);have e1:=@Lh (I.heap[(w:Nat)+1]?=ς (χ (AC (σ G fs H) ⟨fs,⟨i,l,g,h,d⟩,o,a,q⟩) 59 (0,0))) (by rw [U.block _ (by have:=cA.o;omega)];exact E.o);clear U;by_cases z:Ax c ⟨fs,⟨i,l,g,h,d⟩,o,a,q⟩;rotate_left
 .rw [Bw z]
  have k:∀ (j:Nat) (v:ϒ),(#[ν,ι 0,ι 0,ι 0,ι 0,ι 0,ι 0,ι 0,ι 0]:Array ϒ)[j]?=ς v->I.cell? (π (w+1+1) j)=ς v:=λj v z=>by rw [cell_of_row _ _ _ _ _ _ r.o];exact z
  have aZ:=k 0 ν rfl;have bI:=Ψ 0 r.o;have bA:=k 1 (ι 0) rfl;have bJ:=Ψ 1 r.o;have bB:=k 2 (ι 0) rfl;have bK:=Ψ 2 r.o;have bC:=k 3 (ι 0) rfl;have bL:=Ψ 3 r.o;have bD:=k 4 (ι 0) rfl;have bM:=Ψ 4 r.o;have bE:=k 5 (ι 0) rfl;have bN:=Ψ 5 r.o;have bF:=k 6 (ι 0) rfl;have bO:=Ψ 6 r.o;have bG:=k 7 (ι 0) rfl;have bP:=Ψ 7 r.o;have bH:=k 8 (ι 0) rfl;have bQ:=Ψ 8 r.o;clear k;have y:=Lh (AZ (R:=(w:Nat)+1+1) (fv0:=ν) (m0:=AI) r.o ν AI);have O:=@Lh (Below w w (Ai I (w+1+1) ν AI)) (N.o.trans (y.o.2.below (λb s=>by simp at s;omega) N.o.size));go_wp2;exact ϖ (Bp rfl y.o.1 _ _ rfl rfl) rfl (.inl ⟨z,rfl,O.o⟩)
 rw [CP z];have J:=Lh z;clear z;by_cases M:i=4\/i=5
 .have Y:=Lh M
  rcases M with M|M
  .subst M
   have k:∀ (j:Nat) (v:ϒ),(#[ν,ι 0,ι 0,ι 0,ι 0,ι 0,ι 0,ι 0,ι 0]:Array ϒ)[j]?=ς v->I.cell? (π (w+1+1) j)=ς v:=λj v z=>by rw [cell_of_row _ _ _ _ _ _ r.o];exact z
   have aZ:=k 0 ν rfl;have bI:=Ψ 0 r.o;have bA:=k 1 (ι 0) rfl;have bJ:=Ψ 1 r.o;have bB:=k 2 (ι 0) rfl;have bK:=Ψ 2 r.o;have bC:=k 3 (ι 0) rfl;have bL:=Ψ 3 r.o;have bD:=k 4 (ι 0) rfl;have bM:=Ψ 4 r.o;have bE:=k 5 (ι 0) rfl;have bN:=Ψ 5 r.o;have bF:=k 6 (ι 0) rfl;have bO:=Ψ 6 r.o;have bG:=k 7 (ι 0) rfl;have bP:=Ψ 7 r.o;have bH:=k 8 (ι 0) rfl;have bQ:=Ψ 8 r.o;clear k;have y:=Lh (AZ (R:=(w:Nat)+1+1) (fv0:=ν) (m0:=AI) r.o ν AI);have O:=@Lh (Below w w (Ai I (w+1+1) ν AI)) (N.o.trans (y.o.2.below (λb s=>by simp at s;omega) N.o.size));go_wp2;exact ϖ (Bp rfl y.o.1 _ _ rfl rfl) rfl (.inr (.inl ⟨J.o,.inl rfl,rfl,O.o⟩))
  .subst M
   have k:∀ (j:Nat) (v:ϒ),(#[ν,ι 0,ι 0,ι 0,ι 0,ι 0,ι 0,ι 0,ι 0]:Array ϒ)[j]?=ς v->I.cell? (π (w+1+1) j)=ς v:=λj v z=>by rw [cell_of_row _ _ _ _ _ _ r.o];exact z
   have aZ:=k 0 ν rfl;have bI:=Ψ 0 r.o;have bA:=k 1 (ι 0) rfl;have bJ:=Ψ 1 r.o;have bB:=k 2 (ι 0) rfl;have bK:=Ψ 2 r.o;have bC:=k 3 (ι 0) rfl;have bL:=Ψ 3 r.o;have bD:=k 4 (ι 0) rfl;have bM:=Ψ 4 r.o;have bE:=k 5 (ι 0) rfl;have bN:=Ψ 5 r.o;have bF:=k 6 (ι 0) rfl;have bO:=Ψ 6 r.o;have bG:=k 7 (ι 0) rfl;have bP:=Ψ 7 r.o;have bH:=k 8 (ι 0) rfl;have bQ:=Ψ 8 r.o;clear k;have y:=Lh (AZ (R:=(w:Nat)+1+1) (fv0:=ν) (m0:=AI) r.o ν AI);have O:=@Lh (Below w w (Ai I (w+1+1) ν AI)) (N.o.trans (y.o.2.below (λb s=>by simp at s;omega) N.o.size));go_wp2;exact ϖ (Bp rfl y.o.1 _ _ rfl rfl) rfl (.inr (.inl ⟨J.o,.inr rfl,rfl,O.o⟩))
 have Y:=Lh M;have dG:=ξ i 4;have dH:=ξ i 5;clear M;go_wp2_with fail;refine (Pk ⟨i,l,g,h,d⟩ n I).mono ?_;rintro e w2 ⟨rfl,V⟩;obtain ⟨F,i1,i2,m0,m1,m2,m3,m4,t⟩:=Δ9 V F i1 i2 m0 m1 m2 m3 m4 t;have m6:=Δ3 V m6 m7 m8;have z1:=Bl m0;have aN:=Lh (N.o.th V);have A:=@Lh (w2.heap[(w:Nat)+1+1]?=ς (χ #[ν,ι 0,ι 0,ι 0,ι 0,ι 0,ι 0,ι 0,ι 0] 59 (0,0))) (by rw [V.block _ (La r.o)];exact r.o);have e2:=@Lh (w2.heap[(w:Nat)+1]?=ς (χ (AC (σ G fs H) ⟨fs,⟨i,l,g,h,d⟩,o,a,q⟩) 59 (0,0))) (by rw [V.block _ (La e1.o)];exact e1.o);clear V;cases ha:Bj ⟨i,l,g,h,d⟩ n with
 | false=>
  have HA:=Lh ha;clear ha;have k:∀ (j:Nat) (v:ϒ),(#[ν,ι 0,ι 0,ι 0,ι 0,ι 0,ι 0,ι 0,ι 0]:Array ϒ)[j]?=ς v->w2.cell? (π (w+1+1) j)=ς v:=λj v z=>by rw [cell_of_row _ _ _ _ _ _ A.o];exact z
  have aZ:=k 0 ν rfl;have bI:=Ψ 0 A.o;have bA:=k 1 (ι 0) rfl;have bJ:=Ψ 1 A.o;have bB:=k 2 (ι 0) rfl;have bK:=Ψ 2 A.o;have bC:=k 3 (ι 0) rfl;have bL:=Ψ 3 A.o;have bD:=k 4 (ι 0) rfl;have bM:=Ψ 4 A.o;have bE:=k 5 (ι 0) rfl;have bN:=Ψ 5 A.o;have bF:=k 6 (ι 0) rfl;have bO:=Ψ 6 A.o;have bG:=k 7 (ι 0) rfl;have bP:=Ψ 7 A.o;have bH:=k 8 (ι 0) rfl;have bQ:=Ψ 8 A.o;clear k;have y:=Lh (AZ (R:=(w:Nat)+1+1) (fv0:=ν) (m0:=AI) A.o ν AI);have O:=@Lh (Below w w (Ai w2 (w+1+1) ν AI)) (aN.o.trans (y.o.2.below (λb s=>by simp at s;omega) aN.o.size));go_wp2;exact ϖ (Bp rfl y.o.1 _ _ rfl rfl) rfl (.inr (.inr (.inl ⟨J.o,Y.o,HA.o,rfl,O.o⟩)))
 | true=>
 have HA:=Lh ha;clear ha;have hs:=J.o.sound;obtain ⟨dE,f0,aY⟩:=J.o.waits (λe=>Y.o (.inl e)) (λe=>Y.o (.inr e));have cO:=Lh aY;have bZ:=Lh (aY.small hs T);have bY:fs.length<=200:=J.o.len;have cU:0<fs.length:=by have:=congrArg List.length aY.fr;simp at this;omega
 have cL:=Lh (HM.o.fras (aN.o.mono X));have cP:=Nt X aN.o.size;clear aY;go_wp2_with fail;refine (OM ⟨fs,⟨i,l,g,h,d⟩,o,a,q⟩ G H B w2 cP cL.o (by show fs.length<=1000;omega) (λf hf=>by have:=bZ.o f hf;omega) cU).mono ?_;rintro e w3 ⟨ca,cc,rfl,F3,cB,aM,Z⟩;dsimp only at cB;have cE:=Lh cB;have aO:=Lh aM;have cC:=Lh (aN.o.th Z);have F:=Δ3 Z F i1 i2;have r3:=@Lh (w3.heap[(w:Nat)+1+1]?=ς (χ #[ν,ι 0,ι 0,ι 0,ι 0,ι 0,ι 0,ι 0,ι 0] 59 (0,0))) (by rw [Z.block _ (La A.o)];exact A.o);have x:=@Lh (w3.heap[(w:Nat)+1]?=ς (χ (AC (σ G fs H) ⟨fs,⟨i,l,g,h,d⟩,o,a,q⟩) 59 (0,0))) (by rw [Z.block _ (La e2.o)];exact e2.o);have dI:=(La A.o)
 have m0:=AD x.o 0 (σ G fs H) rfl;have m1:=AD x.o 1 (ι i) rfl;have m2:=AD x.o 2 (ι l) rfl;have m3:=AD x.o 3 (ι g) rfl;have m4:=AD x.o 4 (ι h) rfl;have t:=AD x.o 5 (ι d) rfl;have m6:=AD x.o 6 (ι o) rfl;have m7:=AD x.o 7 (ι a) rfl;have m8:=AD x.o 8 (ι q) rfl;have cV:=Ψ 0 x.o;have cW:=Ψ 1 x.o;have cX:=Ψ 2 x.o;have cY:=Ψ 3 x.o;have cZ:=Ψ 4 x.o;have dA:=Ψ 5 x.o;have dB:=Ψ 6 x.o;have dC:=Ψ 7 x.o;have dD:=Ψ 8 x.o;have z1:=Bl m0;have K:=Lh (AZ x.o (σ ca fs cc) ⟨fs,⟨i,l,g,h,d⟩,o,a,q⟩);obtain ⟨W4,aR⟩:=ε (Ai w3 (w+1) (σ ca fs cc) ⟨fs,⟨i,l,g,h,d⟩,o,a,q⟩);rw [<-aR] at K;have aK:(w:Nat)+1∉F3:=λe=>by have:=aM _ e;omega
 have cQ:=Lh (Ab.2 ⟨_,F3,K.o.1,cE.o.kp (λb s=>K.o.2.block b (cE.o.lt b s) (λe=>aK (by rw [List.mem_singleton] at e;exact e▸s))),rfl,aK⟩);have aW:=@Lh (Below w w W4) (cC.o.trans (K.o.2.below (λb s=>by simp at s;omega) cC.o.size));have r4:=@Lh (W4.heap[(w:Nat)+1+1]?=ς (χ #[ν,ι 0,ι 0,ι 0,ι 0,ι 0,ι 0,ι 0,ι 0] 59 (0,0))) (by rw [K.o.2.block _ (La r3.o) ψ];exact r3.o);have j0:=K.o.2.cell F.1 ψ;have j1:=K.o.2.cell F.2.1 ψ;have j2:=K.o.2.cell F.2.2 ψ;have bV:=Lh (HG.o.funs (aW.o.mono X));have bX:Hid (∀ b∈((w:Nat)+1)::F3,(w:Nat)<=b):=Lh (λb s=>by
  rw [List.mem_cons] at s;rcases s with rfl|s
  .omega
  .have:=aO.o b s;omega)
 have cS:=Lh (λb s=>Nt X (bX.o b s));have cH:(w:Nat)+1+1∉((w:Nat)+1)::F3:=λe=>by
  rw [List.mem_cons] at e;rcases e with e|e
  .omega
  .have:=aO.o _ e;omega
 have cD:=Lh cH;unfold Ai at aR;dsimp only at aR;unfold AJ AC;dsimp only;clear cB aM Z aK cH bY;go_upto_region 8 with fail;rw [<-aR];clear aR;go_wp2_with fail;refine (Rc hs T fa ga c.H.length fc gc c.G n cO.o J.o.nums cQ.o B cS.o bV.o HA.o).mono ?_;rintro e w5 ⟨rfl,t,F5,cF,cG,aP⟩;obtain ⟨dF,cJ,C,aV,bT,cT⟩:=Ab.1 cG;obtain ⟨P,Q,rfl⟩:=aV.form;obtain ⟨S,aS⟩:=ε t.J.length;rw [<-aS] at C aV;clear aS;have D:=@Lh (w5.heap[(w:Nat)+1+1]?=ς (χ #[ν,ι 0,ι 0,ι 0,ι 0,ι 0,ι 0,ι 0,ι 0] 59 (0,0))) (by rw [aP.block _ (La r4.o) cD.o];exact r4.o);have k:∀ (j:Nat) (v:ϒ),(#[ν,ι 0,ι 0,ι 0,ι 0,ι 0,ι 0,ι 0,ι 0]:Array ϒ)[j]?=ς v->w5.cell? (π (w+1+1) j)=ς v:=λj v z=>by rw [cell_of_row _ _ _ _ _ _ D.o];exact z
 have aZ:=k 0 ν rfl;have bI:=Ψ 0 D.o;have bA:=k 1 (ι 0) rfl;have bJ:=Ψ 1 D.o;have bB:=k 2 (ι 0) rfl;have bK:=Ψ 2 D.o;have bC:=k 3 (ι 0) rfl;have bL:=Ψ 3 D.o;have bD:=k 4 (ι 0) rfl;have bM:=Ψ 4 D.o;have bE:=k 5 (ι 0) rfl;have bN:=Ψ 5 D.o;have bF:=k 6 (ι 0) rfl;have bO:=Ψ 6 D.o;have bG:=k 7 (ι 0) rfl;have bP:=Ψ 7 D.o;have bH:=k 8 (ι 0) rfl;have bQ:=Ψ 8 D.o;clear k;have dJ:=AD C 0 (σ P S Q) rfl;have dK:=AD C 1 (ι t.Q.K) rfl;have dL:=AD C 2 (ι t.Q.O) rfl;have dM:=AD C 3 (ι t.Q.D) rfl;have dN:=AD C 4 (ι t.Q.V) rfl;have dO:=AD C 5 (ι t.Q.X) rfl;have dP:=AD C 6 (ι t.Y) rfl;have dQ:=AD C 7 (ι t.C) rfl;have dR:=AD C 8 (ι t.I) rfl;have y:=Lh (AZ (R:=(w:Nat)+1+1) (fv0:=ν) (m0:=AI) D.o (σ P S Q) t);have aQ:=aP.notin (La r4.o) cD.o;have aT:=aP.ge bX.o aW.o.size;have bS:=aW.o.trans (aP.below bX.o aW.o.size);have bR:Hid (CE w (σ P S Q) t (Ai w5 (w+1+1) (σ P S Q) t)):=Lh ⟨cJ,aV.kp (λb s=>y.o.2.block b (aV.lt b s) (λe=>aQ (by rw [List.mem_singleton] at e;rw [bT];exact List.mem_cons_of_mem _ (e▸s)))),λb s=>aT b (by rw [bT];exact List.mem_cons_of_mem _ s),bS.trans (y.o.2.below (λb s=>by simp at s;omega) bS.size)⟩;have cN:=Lh cF;clear C aV cG aP cF aT bS aQ bT cT;go_wp2_with fail;have aU:MM c ⟨fs,⟨i,l,g,h,d⟩,o,a,q⟩ n w (.returned (.tuple #[AJ (σ P S Q) t,ι 0])) (Ai w5 (w+1+1) (σ P S Q) t):=.inr (.inr (.inr ⟨J.o,Y.o,HA.o,t,_,cN.o,rfl,bR.o⟩));exact ϖ (v:=.tuple #[AJ (σ P S Q) t,ι 0]) (Bp (p:=6) (u:=7) rfl y.o.1 _ _ rfl rfl) rfl aU
