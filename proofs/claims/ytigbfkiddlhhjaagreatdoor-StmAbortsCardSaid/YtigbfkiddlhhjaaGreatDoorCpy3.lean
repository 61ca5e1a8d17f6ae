import Derived.Test.YtigbfkiddlhhjaaGreatDoorRun8
import Derived.Laws.AppendOwn
set_option maxHeartbeats 2000000
set_option maxRecDepth 100000
set_option linter.all false
open Go renaming World→Ϣ,Value→ϒ,Calls→ϙ,bodyPost_ret→ϖ,heap_setCell_same→ϡ
open Go.RowKit renaming Below→ϐ
open Option renaming some→ς
open Go.Value renaming slice→σ
open Go.Obj renaming cells→χ
namespace Go.Proofs.YtigbfkiddlhhjaaGreatDoor
open Go.RowKit Proofs.Tryz
variable {w w' W wr:Ϣ} {bm B A k g cap:Nat} {m:AV} {F:List Nat} {c:AQ} {fs:List AY} {f:AY} {v:ϒ} {cur:Array ϒ} {csd csr:List ϒ}
def Pk (r:Rq) (n:Int) (w:Ϣ) :
  ϙ prog 111 #[XZ r,ι n] w λe w'=>e=.returned (.bool (Bj r n))/\ϐ w w w':=by
 obtain ⟨a,f,c,d,b⟩:=r;unfold XZ;by_cases h:a=1
 .subst h
  have g:=@Lh (Bj ⟨1,f,c,d,b⟩ n=Af n) (by unfold Bj;rw [if_pos rfl]);go_enter func111,ntmps111;go_wp2_with (go_at_call 141;refine (Bh n _).mono ?_;rintro e w' ⟨rfl,rfl⟩);go_ret;exact ⟨by rw [g.o];rfl,AA _ _⟩
 by_cases i:a=3
 .subst i
  have g:=@Lh (Bj ⟨3,f,c,d,b⟩ n=decide (0<=n/\n<=1099511627776)) (by unfold Bj;rw [if_neg ψ,if_pos rfl]);by_cases j:0<=n
  .have aA:decide (0<=n)=true:=by simp [j]
   go_enter func111,ntmps111;go_wp2_with fail;all_goals (go_ret;exact ⟨by rw [g.o];exact Ca (by simp [*]),AA _ _⟩)
  .have aA:=θ (0<=n)
   go_enter func111,ntmps111;go_wp2_with fail;all_goals (go_ret;exact ⟨by rw [g.o];exact Ca (by simp;try omega),AA _ _⟩)
 .have g:=@Lh (Bj ⟨a,f,c,d,b⟩ n=true) (by unfold Bj;rw [if_neg h,if_neg i])
  have k:(a == 1)=false:=by simp [h]
  have l:(a == 3)=false:=by simp [i]
  go_enter func111,ntmps111;go_wp2;go_ret;exact ⟨by rw [g.o];rfl,AA _ _⟩
def JD (h:Ak w bm m F) (r:Rq):Ak (BO w bm r) bm { m with Q:=r } F/\AW F F w (BO w bm r):=by
 obtain ⟨i,g,k,f,rfl,d⟩:=Ab.1 h;obtain ⟨j,c⟩:=EP k r;exact ⟨Ab.2 ⟨i,g,j,f.kp (λb a=>c.block b (f.lt b a) (λe=>d (by rw [List.mem_singleton] at e;exact e▸a))),rfl,d⟩,c.wide (λb a=>by simp at a;simp [a]) (λb a=>.inr a)⟩
def EJ (c:AQ) (m:AV) (n:Int) (bm:Nat) (F:List Nat) (w:Ϣ) (e:Ending) (w':Ϣ):Prop:=
 e=.returned (.tuple #[])/\∃ m' F',ED c m n m'/\Ak w' bm m' F'/\AW F F' w w'
def Vy (hs:AU c) (D:Bv c) (s j:Option Addr) (u t k:Nat) (g n:Int) (q:C9 c m m.Q fs f) (p:EB m) (l:Ak w bm m F)
  (B:Nat) (z:∀ b∈F,B<=b) (o:AE B w 5 (CW B) (σ j c.funcs k) c.funcs) (A:m.Q.K=2) :
  ϙ prog 113 #[.agg #[σ s u t,ι g,σ j c.funcs k],.pointer (ς (π bm 0)),ι n] w (EJ c m n bm F w):=by
 have y:=Lh l.lt;obtain ⟨W,d⟩:=ε ((w.alloc (χ #[σ s u t,ι g,σ j c.funcs k] 25)).alloc (χ #[σ s u t,ι g,σ j c.funcs k,.pointer (ς (π bm 0))] 199));obtain ⟨r,aY,b0,b1⟩:=Λ4 (bl2 d) (sz2 d) (ce21 d) (ce22 d);have L:B<=w:=by obtain ⟨P,H,C,S,rfl,R⟩:=Ab.1 l;have h1:=z bm ψ;have h2:=y.o bm ψ;omega
 have X:bm∈F:=by obtain ⟨P,H,C,S,rfl,R⟩:=Ab.1 l;simp
 have aW:=y.o bm X;obtain ⟨Z,I,v,aP⟩:=Λ4 o z (l.kp r.o) q;have E:=Γ3 b0.o;have n0:(w:Nat)∉F:=λe=>by have:=y.o _ e;omega
 clear l o z q;have J:=Lh A;have V:=Lh (aP.o.goOn p A Eg);clear A;have aX:W.cell? (π bm 1)=ς (ι 2):=by obtain ⟨P,H,C,S,e,R⟩:=Ab.1 v.o;have:=AD C 1 (ι m.Q.K) rfl;rw [J.o] at this;exact this
 go_enter func113,ntmps113;go_upto_region 2 with fail;rw [<-d];clear d;have G:=n0;obtain ⟨Q,h⟩:=JD v.o Eg;have K:=Lh Q;have x:=Lh ((AW.self (F:=F) (w:=W)).trans h);obtain ⟨aV,aU,a,aT,aQ,aS⟩:=Ab.1 v.o;have f1:=Ψ 1 a;have c2:=AD a 2 (ι _) rfl;have f2:=Ψ 2 a;have c3:=AD a 3 (ι _) rfl;have f3:=Ψ 3 a;have c4:=AD a 4 (ι _) rfl;have f4:=Ψ 4 a;have c5:=AD a 5 (ι _) rfl;have f5:=Ψ 5 a;obtain ⟨w6,i⟩:=ε (BO W bm Eg);rw [<-i] at K x;have e0:=h.cell E.1 G;have e1:=h.cell E.2.1 G;have e2:=h.cell E.2.2 G;rw [<-i] at e0 e1 e2;have aR:=I;have Y:=Lh (Z.o.funs ((r.o.mono L).trans (x.o.below I.o (Nt L r.o.size))));unfold BO Eg at i;clear Q h a aT aQ aS;go_upto_region 10 with fail;rw [<-i];clear i;go_wp2_with fail;refine (KW hs D s j u t k g V.o K.o B aR.o Y.o).mono ?_;rintro e w7 ⟨rfl,m7,T,O,N,M⟩;have U:Hid (EJ c m n bm F w (.returned (.tuple #[])) w7):=Lh ⟨rfl,m7,T,.inr (.inr ⟨J.o,O⟩),N,(AW.ob r.o).trans (x.o.trans M)⟩;clear O N M;go_wp2_with fail
 go_end0
 exact U.o
def QK (hs:AU c) (z:Bv c) (q h:Option Addr) (s r i:Nat) (g n:Int) (C:C9 c m m.Q fs f) (v:EB m) (t:Ak w bm m F)
  (B:Nat) (J:∀ b∈F,B<=b) (u:AE B w 5 (CW B) (σ h c.funcs i) c.funcs) (hk:m.Q.K=1) (A:BP n) :
  ϙ prog 113 #[.agg #[σ q s r,ι g,σ h c.funcs i],.pointer (ς (π bm 0)),ι n] w (EJ c m n bm F w):=by
 have I:=Lh t.lt;obtain ⟨W,j⟩:=ε ((w.alloc (χ #[σ q s r,ι g,σ h c.funcs i] 25)).alloc (χ #[σ q s r,ι g,σ h c.funcs i,.pointer (ς (π bm 0))] 199));obtain ⟨o,bE,b0,b1⟩:=Λ4 (bl2 j) (sz2 j) (ce21 j) (ce22 j);have H:B<=w:=by obtain ⟨fv,N,K,A,rfl,hn⟩:=Ab.1 t;have h1:=J bm ψ;have h2:=I.o bm ψ;omega
 have aJ:bm∈F:=by obtain ⟨fv,N,K,A,rfl,hn⟩:=Ab.1 t;simp
 have bJ:=I.o bm aJ;obtain ⟨aX,O,Q,k⟩:=Λ4 u J (t.kp o.o) C;have L:=Γ3 b0.o;have k0:=Γ4 b1.o;have z0:(w:Nat)<W:=by have:=bE.o;omega
 have E:(w:Nat)∉F:=λe=>by have:=I.o _ e;omega
 clear t u J C;have P:=Lh hk;have aF:=Lh (k.o.push v ω n A Eg);clear hk;have bK:W.cell? (π bm 1)=ς (ι 1):=by obtain ⟨fv,N,K,A,e,hn⟩:=Ab.1 Q.o;have:=AD K 1 (ι m.Q.K) rfl;rw [P.o] at this;exact this
 obtain ⟨fb,cap,bH,cs,lv,sv,Fi,Fl,Fs,hT,T⟩:=Q.o.top k.o.fr;have HT:=Lh hT;have aY:=Lh T;have aM:fs.length<=200:=by have:=k.o.len;omega
 have bD:f.S.length<1000000:=by obtain ⟨y,x,hh,D,h1,hx,_,hr,hl⟩:=k.o.top;have h2:=DJ (hs.wf D.fn) (hs.snd D.fn) hr;have h3:=z y (Lm D.fn);have h4:=((hs.wf D.fn).pops x (Lm hx)).1;omega
 clear hT T;go_enter func113,ntmps113;go_upto_region 2 with fail;rw [<-j];clear j;go_wp2_with fail;refine (Da q h s r c.funcs.length i g HT.o aM n A.in64 bD).mono ?_;rintro e w5 ⟨rfl,aZ,bL,aW,Z,U⟩;have R:=Lh ((Z.reframe (fs++[{ f with S:=f.S++[n] }])).own rfl);have d:=@Lh (AW F (bm::fb::(Fi++(Fl++aW))) W w5) (by rw [aY.o];exact U);have j0:=d.o.cell L.1 E;have j1:=d.o.cell L.2.1 E;have j2:=d.o.cell L.2.2 E;have aL:=Lh (d.o.ge O.o (Nt H o.o.size));clear Z U;have M:=d.o.notin z0 E;obtain ⟨h6,l⟩:=JD R.o Eg;have S:=Lh h6;have G:=Lh (d.o.trans l);obtain ⟨bI,bG,a,bF,bA,bC⟩:=Ab.1 R.o;have c1:=AD a 1 (ι _) rfl;have f1:=Ψ 1 a;have c2:=AD a 2 (ι _) rfl;have f2:=Ψ 2 a;have c3:=AD a 3 (ι _) rfl;have f3:=Ψ 3 a;have c4:=AD a 4 (ι _) rfl;have f4:=Ψ 4 a;have c5:=AD a 5 (ι _) rfl;have f5:=Ψ 5 a;obtain ⟨w6,p⟩:=ε (BO w5 bm Eg);rw [<-p] at S G;have e0:=l.cell j0 M;have e1:=l.cell j1 M;have e2:=l.cell j2 M;rw [<-p] at e0 e1 e2;have bB:=aL;have aK:=Lh (aX.o.funs ((o.o.mono H).trans (G.o.below O.o (Nt H o.o.size))));unfold BO Eg at p;clear h6 l a bF bA bC;go_upto_region 10 with fail;rw [<-p];clear p;go_wp2_with fail;refine (KW hs z q h s r i g aF.o S.o B bB.o aK.o).mono ?_;rintro e w7 ⟨rfl,m7,F7,Y,X,V⟩;have HP:Hid (EJ c m n bm F w (.returned (.tuple #[])) w7):=Lh ⟨rfl,m7,F7,.inr (.inl ⟨.inl P.o,fs,f,k.o.fr,Y⟩),X,(AW.ob o.o).trans (G.o.trans V)⟩;clear Y X V;go_wp2_with fail
 go_end0
 exact HP.o
def QL (hs:AU c) (A:Bv c) (r h:Option Addr) (t s i:Nat) (g n:Int) (D:C9 c m m.Q fs f) (z:EB m) (u:Ak w bm m F)
  (B:Nat) (K:∀ b∈F,B<=b) (v:AE B w 5 (CW B) (σ h c.funcs i) c.funcs) (hk:m.Q.K=3) (C:BP n) (k:n≠0) :
  ϙ prog 113 #[.agg #[σ r t s,ι g,σ h c.funcs i],.pointer (ς (π bm 0)),ι n] w (EJ c m n bm F w):=by
 have J:=Lh u.lt;obtain ⟨W,j⟩:=ε ((w.alloc (χ #[σ r t s,ι g,σ h c.funcs i] 25)).alloc (χ #[σ r t s,ι g,σ h c.funcs i,.pointer (ς (π bm 0))] 199));obtain ⟨p,bE,b0,b1⟩:=Λ4 (bl2 j) (sz2 j) (ce21 j) (ce22 j);have I:B<=w:=by obtain ⟨fv,O,L,C,rfl,k⟩:=Ab.1 u;have h1:=K bm ψ;have h2:=J.o bm ψ;omega
 have aJ:bm∈F:=by obtain ⟨fv,O,L,C,rfl,k⟩:=Ab.1 u;simp
 have bJ:=J.o bm aJ;obtain ⟨aX,P,R,l⟩:=Λ4 v K (u.kp p.o) D;have M:=Γ3 b0.o;have k0:=Γ4 b1.o;have z0:(w:Nat)<W:=by have:=bE.o;omega
 have G:(w:Nat)∉F:=λe=>by have:=J.o _ e;omega
 clear u v K D;have Q:=Lh hk;have aF:=Lh (l.o.push z ω n C Eg);clear hk;have bK:W.cell? (π bm 1)=ς (ι 3):=by obtain ⟨fv,O,L,C,e,k⟩:=Ab.1 R.o;have:=AD L 1 (ι m.Q.K) rfl;rw [Q.o] at this;exact this
 have bL:(n == 0)=false:=by simp [k]
 have HN:=Lh k;clear k;obtain ⟨fb,cap,bH,cs,lv,sv,Fi,Fl,Fs,hT,U⟩:=R.o.top l.o.fr;have HT:=Lh hT;have aY:=Lh U;have aM:fs.length<=200:=by have:=l.o.len;omega
 have bD:f.S.length<1000000:=by obtain ⟨y,x,hh,E,h1,hx,_,hr,hl⟩:=l.o.top;have h2:=DJ (hs.wf E.fn) (hs.snd E.fn) hr;have h3:=A y (Lm E.fn);have h4:=((hs.wf E.fn).pops x (Lm hx)).1;omega
 clear hT U;go_enter func113,ntmps113;go_upto_region 2 with fail;rw [<-j];clear j;go_wp2_with fail;refine (Da r h t s c.funcs.length i g HT.o aM n C.in64 bD).mono ?_;rintro e w5 ⟨rfl,aZ,bM,aW,aV,V⟩;have S:=Lh ((aV.reframe (fs++[{ f with S:=f.S++[n] }])).own rfl);have d:=@Lh (AW F (bm::fb::(Fi++(Fl++aW))) W w5) (by rw [aY.o];exact V);have j0:=d.o.cell M.1 G;have j1:=d.o.cell M.2.1 G;have j2:=d.o.cell M.2.2 G;have aL:=Lh (d.o.ge P.o (Nt I p.o.size));clear aV V;have N:=d.o.notin z0 G;obtain ⟨h6,o⟩:=JD S.o Eg;have T:=Lh h6;have H:=Lh (d.o.trans o);obtain ⟨bI,bG,a,bF,bA,bC⟩:=Ab.1 S.o;have c1:=AD a 1 (ι _) rfl;have f1:=Ψ 1 a;have c2:=AD a 2 (ι _) rfl;have f2:=Ψ 2 a;have c3:=AD a 3 (ι _) rfl;have f3:=Ψ 3 a;have c4:=AD a 4 (ι _) rfl;have f4:=Ψ 4 a;have c5:=AD a 5 (ι _) rfl;have f5:=Ψ 5 a;obtain ⟨w6,q⟩:=ε (BO w5 bm Eg);rw [<-q] at T H;have e0:=o.cell j0 N;have e1:=o.cell j1 N;have e2:=o.cell j2 N;rw [<-q] at e0 e1 e2;have bB:=aL;have aK:=Lh (aX.o.funs ((p.o.mono I).trans (H.o.below P.o (Nt I p.o.size))));unfold BO Eg at q;clear h6 o a bF bA bC;go_upto_region 10 with fail;rw [<-q];clear q;go_wp2_with fail;refine (KW hs A r h t s i g aF.o T.o B bB.o aK.o).mono ?_;rintro e w7 ⟨rfl,m7,F7,Z,Y,X⟩;have HP:Hid (EJ c m n bm F w (.returned (.tuple #[])) w7):=Lh ⟨rfl,m7,F7,.inr (.inl ⟨.inr ⟨Q.o,HN.o⟩,fs,f,l.o.fr,Z⟩),Y,(AW.ob p.o).trans (H.o.trans X)⟩;clear Z Y X;go_wp2_with fail
 go_end0
 exact HP.o
def UO (hs:AU c) (T:Bv c) (p i:Option Addr) (r q j:Nat) (g n:Int) (u:C9 c m m.Q fs f) (L:EB m) (h:Ak w bm m F)
  (B:Nat) (J:∀ b∈F,B<=b) (s:AE B w 5 (CW B) (σ i c.funcs j) c.funcs) (K:m.Q.K=3) (l:n=0) :
  ϙ prog 113 #[.agg #[σ p r q,ι g,σ i c.funcs j],.pointer (ς (π bm 0)),ι n] w (EJ c m n bm F w):=by
 have D:=Lh h.lt;obtain ⟨W,d⟩:=ε ((w.alloc (χ #[σ p r q,ι g,σ i c.funcs j] 25)).alloc (χ #[σ p r q,ι g,σ i c.funcs j,.pointer (ς (π bm 0))] 199));obtain ⟨C,Z,b0,b1⟩:=Λ4 (bl2 d) (sz2 d) (ce21 d) (ce22 d);have V:B<=w:=by obtain ⟨E,x,t,M,rfl,l⟩:=Ab.1 h;have H:=J bm ψ;have I:=D.o bm ψ;omega
 have N:bm∈F:=by obtain ⟨E,x,t,M,rfl,l⟩:=Ab.1 h;simp
 have X:=D.o bm N;have z:=Lh (h.kp C.o);clear h s J u;have y:=Lh K;subst l;clear K;have Y:W.cell? (π bm 1)=ς (ι 3):=by obtain ⟨E,x,t,M,e,l⟩:=Ab.1 z.o;have:=AD t 1 (ι m.Q.K) rfl;rw [y.o] at this;exact this
 obtain ⟨O,U,a,Q,A,P⟩:=Ab.1 z.o;have c0:=AD a 0 O rfl;have c2:=AD a 2 (ι _) rfl;have c3:=AD a 3 (ι _) rfl;have c4:=AD a 4 (ι _) rfl;have c5:=AD a 5 (ι _) rfl;have f0:=Ψ 0 a;have f1:=Ψ 1 a;have f2:=Ψ 2 a;have f3:=Ψ 3 a;have f4:=Ψ 4 a;have f5:=Ψ 5 a;have o:=@Lh (∃ v,Ak (BO (W.setCell (π bm 0) ν) bm (Ah 21)) bm { m with J:=[],Q:=Ah 21 } v/\AW F v W (BO (W.setCell (π bm 0) ν) bm (Ah 21))) (by
  have G:=ϡ _ bm 0 _ _ ν a;rw [CY] at G;have H:Ak (W.setCell (π bm 0) ν) bm { m with J:=[] } [bm]:=Ab.2 ⟨_,[],G,Ds _,rfl,ψ⟩;obtain ⟨I,R⟩:=JD H (Ah 21);refine ⟨[bm],I,?_⟩;rw [A];exact (BX.trans R).wide (λb k=>by simp at k;simp [k]) (λb k=>.inl k))
 clear a Q A P;unfold BO Ah at o;go_enter func113,ntmps113;go_upto_region 2 with fail;rw [<-d];clear d;go_wp2_with fail;have S:EJ c m 0 bm F w (.returned (.tuple #[])) _:=⟨rfl,_,_,.inl ⟨y.o,rfl,rfl⟩,o.o.choose_spec.1,(AW.ob C.o).trans o.o.choose_spec.2⟩
 refine ϖ (results_none rfl _ _ _) rfl ?_;exact S
def Cj (B:Nat) (w:Ϣ):List ϒ->List AY->Prop
 | cells,[]=>cells=[]
 | cells,f::fs=>∃ lv sv cs,cells=ι f.fn::ι f.pc::lv::sv::cs/\AE B w 1 Aj lv f.L/\AE B w 1 Aj sv f.S/\in64 f.fn/\in64 f.pc/\Cj B w cs fs
def Cj.below (a:ϐ B w w'):∀ {fs:List AY} {cells:List ϒ},Cj B w cells fs->Cj B w' cells fs
 | [],_,h=>h
 | _::_,_,⟨j,k,b,c,d,e,f,g,i⟩=>⟨j,k,b,c,d.ints a,e.ints a,f,g,i.below a⟩
def Cj.len :∀ {fs:List AY} {cells:List ϒ},Cj B w cells fs->cells.length=fs.length*4
 | [],_,h=>by rw [show _=[] from h];rfl
 | _::_,_,⟨i,j,c,a,d,e,f,g,b⟩=>by rw [a];simp [b.len];omega
def Cj.one :∀ {fs:List AY} {cells:List ϒ},Cj B w cells fs->∀ u∈cells,u.oneCell'=true
 | [],_,h,u,b=>by rw [show _=[] from h] at b;simp at b
 | _::_,_,⟨n,o,k,d,e,f,l,m,g⟩,u,b=>by
  obtain ⟨a,c,rfl⟩:=e.form;obtain ⟨i,j,rfl⟩:=f.form;rw [d] at b;simp only [List.mem_cons] at b;rcases b with rfl|rfl|rfl|rfl|b
  .rfl
  .rfl
  .rfl
  .rfl
  .exact g.one u b
def LG {b:Nat}:∀ {fs:List AY} {o:Nat},(∀ (i:Nat) x,fs[i]?=ς x->CK B w b (o+i*4) x)->∃ c,Cj B w c fs/\∀ (j:Nat) u,c[j]?=ς u->w.cell? (π b (o+j))=ς u
 | [],o,_=>⟨[],rfl,ψ⟩
 | f::fs,o,h=>by
  obtain ⟨l,m,⟨e,n,p⟩,⟨g,q,r⟩,s,t⟩:=h 0 f rfl;obtain ⟨d,v,k⟩:=LG (fs:=fs) (o:=o+4) (λi x y=>by
   have:=h (i+1) x (by simpa using y);rwa [show o+(i+1)*4=o+4+i*4 by omega] at this)
  refine ⟨ι f.fn::ι f.pc::e::g::d,⟨e,g,d,rfl,p,r,s,t,v⟩,λj u a=>?_⟩
  match j,a with
  | 0,a=>simp at a;subst a;simpa using l
  | 1,a=>simp at a;subst a;simpa using m
  | 2,a=>simp at a;subst a;simpa using n
  | 3,a=>simp at a;subst a;simpa using q
  | j+4,a=>have:=k j u (by simpa using a);rwa [show o+(j+4)=o+4+j by omega]
def NE {o:Obj} (a:(w.alloc o).grownBy w' (ς (w:Nat))):ϐ w w w':=
 ⟨a.os,a.tape,a.output,by have:=a.size;simp at this;omega,λk b=>by
  rw [a.block k φ (λe=>by simp at e;omega)];exact Ha _ _ _ b⟩
def Wr (B:Nat) (fs:List AY) (w:Ϣ) (e:Ending) (w':Ϣ):Prop:=
 ∃ v cells,e=.returned v/\w'.ownsRow (w:Nat) 150 4 v fs.length cells/\Cj B w' cells fs/\ϐ w w w'
def Pr (fs:List AY) (v:ϒ) (B:Nat) (w:Ϣ) (G:B<=w) (K:AE B w 4 (CK B) v fs) (hl:fs.length<=1000) :
  ϙ prog 92 #[v] w (Wr B fs w):=by
 obtain ⟨a,cap,rfl,p,q,M,e⟩:=K;obtain ⟨L,H,D,E,F⟩:=info_parts FT;cases a with
 | none=>
  have g:fs=[]:=by
   rcases e with h|⟨b,o,h,_⟩
   .exact h
   .cases h
  subst g;have J:=Lib.run_eql_slice_nil (P:=prog);go_enter func92,ntmps92;go_wp2;go_ret;exact ⟨_,[],rfl,World.ownsRow_nil _ _ _ _,rfl,Below.refl _ _⟩
 | some d=>
  have J:∀ w:Ϣ,(binOp .eql 55 (σ (ς d) fs cap) ν).run prog w=.ok (.bool false) w:=λw=>by simpa using Lib.run_eql_slice_nil (P:=prog) w 55 150 (ς d) fs.length cap 0 0 underlying55
  obtain ⟨c,f,l⟩:∃ c,Cj B w c fs/\∀ (j:Nat) u,c[j]?=ς u->w.cell? (d.add j)=ς u:=by
   rcases e with h|⟨b,o,h,i,e⟩
   .subst h;exact ⟨[],rfl,ψ⟩
   .cases h
    obtain ⟨c,p,q⟩:=LG e;exact ⟨c,p,λj u k=>by rw [Qt];exact q j u k⟩
  have A:=Lh f;have x:=Lh f.len;have y:=Lh f.one;have s:=@Lh (∀ (j:Nat) u,c[j]?=ς u->(w.alloc (χ #[] 150)).cell? (d.add j)=ς u) (λj u k=>AB (AA _ _) (l j u k));have z:=@Lh ((w.alloc (χ #[] 150)).ownsRow (w:Nat) 150 4 (σ (ς (π w 0)) 0 0) 0 []) (World.ownsRow_made w #[] 0 (Nr _) (by unfold maxLen;omega) rfl);clear e f l;go_enter func92,ntmps92;go_wp2_with (at_builtin;refine wpList_append_own _ rfl (.tmp 5) (.tmp 6) 55 rfl (w:Nat) 150 L (.agg #[ι 0,ι 0,ν,ν]) 4 64 underlying55 H D E F rfl δ (σ (ς (π w 0)) 0 0) 0 [] rfl z.o d fs.length cap c rfl x.o s.o y.o ?_ ?_ ?_ ?_;(unfold maxLen;omega);omega;(simp);intro r w' m n g;have t:=Lh m;have C:=Lh n;clear m n g);go_ret;have i:=Lh (NE C.o);have I:w'.ownsRow (w:Nat) 150 4 r fs.length c:=by simpa using t.o
  exact ⟨r,c,rfl,I,A.o.below (i.o.mono G),i.o⟩
def Te (l:List Int) (w:Ϣ) (e:Ending) (w':Ϣ):Prop:=∃ a c F,e=.returned (σ a l c)/\Be w' (σ a l c) l F/\(∀ b∈F,(w:Nat)<=b)/\F.length<=1/\ϐ w w w'
def FF {d:Nat} {e:TypeId} {size:Nat} {n:Nat} {xs:List ϒ} (h:w.ownsRow d e size v n xs):w.ownsRow 0 e size v n xs/\(∀ b∈v.ownBlock.toList,d<=b)/\∃ a c,v=σ a n c:=by
 obtain ⟨f,j⟩:=h;rcases j with ⟨rfl,l⟩|⟨g,cap,i,rfl,k,r⟩
 .subst l
  exact ⟨⟨f,.inl ⟨rfl,rfl⟩⟩,by simp [Value.ownBlock],none,0,rfl⟩
 .exact ⟨⟨f,.inr ⟨g,cap,i,rfl,Nat.zero_le _,r⟩⟩,by simp [Value.ownBlock];exact k,_,_,rfl⟩
def Kh (l:List Int) (v:ϒ) (B:Nat) (w:Ϣ) (C:AE B w 1 Aj v l) (hl:l.length<=1000000):ϙ prog 55 #[v] w (Te l w):=by
 obtain ⟨a,cap,rfl,E,F,G,g⟩:=C;have c:∀ m w',w'.ownsRow (w:Nat) 3 1 m l.length (l.map (Value.int .i64))->(∀ n∈l,in64 n)->ϐ w w w'->Te l w (.returned m) w':=λm w' f r d=>by obtain ⟨u,x,p,t,rfl⟩:=FF f;exact ⟨p,t,_,rfl,⟨u,rfl,r⟩,x,by cases p<;>simp [Value.ownBlock],d⟩
 cases a with
 | none=>
  have q:l=[]:=by
   rcases g with h|⟨b,o,h,_⟩
   .exact h
   .cases h
  subst q;exact (slices_Clone_int_nil _ cap w).mono λe w' ⟨k,D⟩=>by subst k D;exact c _ _ (World.ownsRow_nil _ _ _ _) ψ Br
 | some s=>
  rcases g with h|⟨b,o,h,d,g⟩
  .subst h
   exact (slices_Clone_int_zero s cap w).mono λe w' ⟨m,k,f,_,d⟩=>by subst k;exact c _ _ f ψ d
  .cases h
   refine (slices_Clone_int b o l.length cap l w (Nr _) ω (λj z=>?_)).mono λe w' ⟨m,k,f,_,d⟩=>by
    subst k;rw [List.take_length] at f;exact c _ _ f (λn A=>by
     obtain ⟨i,y,rfl⟩:=List.getElem_of_mem A;exact (g i _ (Lg y)).2) d
   have:=(g j _ (getD_some z)).1;rw [Nat.mul_one] at this;exact this
def Me {a L:List ϒ} {N j:Nat} (h:cur.toList.take N=a++L):(cur.setIfInBounds (a.length+j) v).toList.take N=a++L.set j v:=by
 rw [Array.toList_setIfInBounds,List.take_set,h,List.set_append_right _ _ ω,Nat.add_sub_cancel_left]
structure Eu (B A:Nat) (fs:List AY) (k g cap:Nat) (W wr:Ϣ) (cur:Array ϒ) (csd csr:List ϒ) (F:List Nat):Prop where
 row:wr.heap[g]?=ς (χ cur 150 (0,0))
 csize:cur.size=cap*4
 capl:fs.length<=cap
 capm:cap<=9223372036854775807
 take:cur.toList.take (fs.length*4)=csd++csr
 done:BJ wr csd (fs.take k) F
 rest:Cj B wr csr (fs.drop k)
 nodup:(g::F).Nodup
 ge:∀ b∈g::F,A<=b
 bel:ϐ A W wr
 cslen:csd.length=k*4
def Eu.cells (h:Eu B A fs k g cap W wr cur csd csr F) (j:Nat) (u:ϒ) (b:csr[j]?=ς u):wr.cell? (π g (k*4+j))=ς u:=by
 rw [cell_of_row _ _ _ _ _ _ h.row];have a:(csd++csr)[k*4+j]?=ς u:=by rw [Ar (by rw [h.cslen];omega),h.cslen,Nat.add_sub_cancel_left];exact b
 rw [<-h.take,List.getElem?_take] at a;split at a
 .simpa using a
 .cases a
def Eu.next {n w2:Ϣ} {rest:List ϒ} {lv Z lv' sv':ϒ} {Fl Fs:List Nat} (o:fs[k]?=ς f) (h:Eu B A fs k g cap W wr cur csd (ι f.fn::ι f.pc::lv::Z::rest) F) (y:B<=A)
  (d:ϐ wr wr n) (hl:Be n lv' f.L Fl) (p:∀ b∈Fl,(wr:Nat)<=b) (C:Fl.length<=1) (i:ϐ (n.setCell (π g (k*4+2)) lv').heap.size (n.setCell (π g (k*4+2)) lv') w2) (hs:Be w2 sv' f.S Fs) (m:∀ b∈Fs,(n:Nat)<=b) (E:Fs.length<=1) :
  Eu B A fs (k+1) g cap W (w2.setCell (π g (k*4+3)) sv') ((cur.setIfInBounds (k*4+2) lv').setIfInBounds (k*4+3) sv') (csd++[ι f.fn,ι f.pc,lv',sv']) rest (F++(Fl++Fs)):=by
 have R:=(La h.row)
 have aQ:=d.size;have T:=i.size;simp at T;have U:n.heap[g]?=ς (χ cur 150 (0,0)):=by rw [d.block g R];exact h.row
 have V:=ϡ _ g (k*4+2) _ _ lv' U;have X:w2.heap[g]?=_:=(i.block g φ).trans V;have Y:=ϡ _ g (k*4+3) _ _ sv' X;have r:=h.ge g ψ;have hF:=h.done.lt;have J:=hl.lt;have K:∀ b,b≠g->b<(n:Nat)->w2.heap[b]?=n.heap[b]?:=λb c aP=>by rw [i.block b φ,heap_setCell_other _ _ _ _ c]
 have D:∀ b,b≠g->(w2.setCell (π g (k*4+3)) sv').heap[b]?=w2.heap[b]?:=λb c=>heap_setCell_other _ _ _ _ c;have t:=h.nodup;rw [List.nodup_cons] at t;have s:∀ b∈F,b≠g:=λb c e=>t.1 (e▸c);have q:∀ b∈Fl,b≠g:=λb c e=>by have:=p b c;omega
 have H:∀ b∈Fs,b≠g:=λb c e=>by have:=m b c;omega
 have Q:A<=wr:=ω;have G:ϐ A wr (w2.setCell (π g (k*4+3)) sv'):=((d.mono Q).trans (Br.setCell r _)).trans ((i.mono φ).trans (Br.setCell r _));have S:fs.take (k+1)=fs.take k++[f]:=by rw [List.take_add_one,o];rfl
 refine ⟨Y,by simp [h.csize],h.capl,h.capm,?_,?_,?_,?_,?_,h.bel.trans G,by simp [h.cslen];omega⟩
 .have t1:=Me (j:=2) (v:=lv') h.take
  rw [h.cslen] at t1;have P:=Me (j:=3) (v:=sv') t1;rw [h.cslen] at P;rw [P];simp
 .rw [S]
  exact ((h.done.kp (λb c=>by rw [D b (s b c),K b (s b c) (by have:=hF b c;omega),d.block b (hF b c)])).add (hl.kp (λb c=>by rw [D b (q b c),K b (q b c) (J b c)])) (hs.kp (λb c=>D b (H b c))) (by
   obtain ⟨L,M,I,e,N,O,u,w,x⟩:Cj B wr _ (f::fs.drop (k+1)):=by have:=h.rest;rwa [List.drop_eq_getElem_cons (Ll o),(List.getElem?_eq_some_iff.1 o).2] at this
   exact u) (by
   obtain ⟨L,M,I,e,N,O,u,w,x⟩:Cj B wr _ (f::fs.drop (k+1)):=by have:=h.rest;rwa [List.drop_eq_getElem_cons (Ll o),(List.getElem?_eq_some_iff.1 o).2] at this
   exact w))
 .obtain ⟨L,M,I,e,N,O,u,w,x⟩:Cj B wr _ (f::fs.drop (k+1)):=by have:=h.rest;rwa [List.drop_eq_getElem_cons (Ll o),(List.getElem?_eq_some_iff.1 o).2] at this
  simp at e;rw [e.2.2];exact x.below (G.mono y)
 .rw [List.nodup_cons]
  refine ⟨λe=>?_,?_⟩
  .rw [List.mem_append,List.mem_append] at e
   rcases e with e|e|e
   .exact s _ e rfl
   .exact q _ e rfl
   .exact H _ e rfl
  .have one:∀ l:List Nat,l.length<=1->l.Nodup:=λl hl=>by
    match l,hl with
    | [],_=>simp
    | [a],_=>simp
   rw [List.nodup_append];refine ⟨t.2,?_,λa z b c e=>?_⟩
   .rw [List.nodup_append]
    exact ⟨one _ C,one _ E,λa z b c e=>by have:=J a z;have:=m b c;omega⟩
   .have h1:=hF a z
    rw [List.mem_append] at c;rcases c with c|c
    .have:=p b c;omega
    .have:=m b c;omega
 .intro b c
  rw [List.mem_cons,List.mem_append,List.mem_append] at c;rcases c with rfl|c|c|c
  .exact r
  .exact h.ge b (by simp [c])
  .have:=p b c;omega
  .have:=m b c;omega
def Kq (m:AV) (w:Ϣ) (e:Ending) (w':Ϣ):Prop:=∃ a c,e=.returned (AJ (σ a m.J c) m)/\CE w (σ a m.J c) m w'
def Eu.vown (h:Eu B A fs fs.length g cap W wr cur csd csr F):Cv wr (σ (ς (π g 0)) fs cap) fs (g::F):=by
 have a:=h.rest;rw [List.drop_length] at a;have d:csr=[]:=a;have b:=h.done;rw [List.take_length] at b;have c:=h.take;rw [d,List.append_nil] at c;exact ⟨csd,F,⟨h.cslen,.inr ⟨g,cap,cur,rfl,Nat.zero_le _,h.row,h.capl,by unfold maxLen;have:=h.capm;omega,h.csize,c⟩⟩,b,rfl,h.nodup⟩
def Eu.start {a:List ϒ} (m:wr.ownsRow A 150 4 (σ (ς (π g 0)) fs cap) fs.length a) (k:Cj B wr a fs) (j:ϐ A W wr):∃ b,Eu B A fs 0 g cap W wr b [] a []:=by
 obtain ⟨r,i⟩:=m;rcases i with ⟨h,_⟩|⟨q,p,b,c,d,l,e,f,n,o⟩
 .cases h
 .simp at c
  obtain ⟨rfl,rfl⟩:=c;exact ⟨b,l,n,e,by unfold maxLen at f;omega,by simpa using o,⟨rfl,rfl⟩,by simpa using k,ψ,by simpa using d,j,rfl⟩
def YB (W:Ϣ) (g off:Nat) (l:List Int) (wx:Ϣ):Prop:=∃ w1 a c F,ϐ W W w1/\Be w1 (σ a l c) l F/\(∀ b∈F,(W:Nat)<=b)/\F.length<=1/\wx=w1.setCell (π g off) (σ a l c)
def OM (m:AV) (O:Option Addr) (P B:Nat) (w:Ϣ) (hB:B<=w) (Y:AE B w 4 (CK B) (σ O m.J P) m.J) (hl:m.J.length<=1000) (R:∀ f∈m.J,f.L.length<=1000000/\f.S.length<=1000000) (Q:0<m.J.length) :
  ϙ prog 112 #[AJ (σ O m.J P) m] w (Kq m w):=by
 obtain ⟨fs,n,d,a,l⟩:=m;obtain ⟨W,y⟩:=ε ((w.alloc (χ (AC (σ O fs P) ⟨fs,n,d,a,l⟩) 59)).alloc (χ (AC ν AI) 59));obtain ⟨bX,u,b0,b1⟩:=Λ4 (bl2 y) (sz2 y) (ro21 y) (ro22 y);have HV:=Lh (Y.fras (bX.o.mono hB));have cR:B<=W:=by have:=u.o;omega
 have cO:=Lh R;have cU:fs.length<=1000:=hl;have cW:0<fs.length:=Q;clear Y R hl Q;unfold AJ;unfold AC at y ⊢;go_enter func112,ntmps112;go_upto_region 1 with fail;unfold AI at y;dsimp only at y ⊢;rw [<-y];clear y;have c0:=AD b0.o 0 (σ O fs P) rfl;have z0:(w:Nat)<W:=by have:=u.o;omega
 go_wp2_with fail;refine (Pr fs _ B W cR HV.o cU).mono ?_;rintro e w1 ⟨v1,t,rfl,I,cC,U⟩;obtain ⟨_,_,ga,cap,rfl⟩:=FF I;obtain ⟨g,rfl⟩:∃ g,ga=ς (π g 0):=by
  rcases I.2 with ⟨h,hn⟩|⟨g,c,C,h,_⟩
  .omega
  .simp at h;exact ⟨g,h.1⟩
 have T:=(U.block _ z0).trans b0.o;have c0:=AD T 0 (σ O fs P) rfl;have f0:=Ψ 0 T;obtain ⟨w2,D⟩:=ε (w1.setCell (π w 0) (σ (ς (π g 0)) fs cap));have E:=ϡ _ (w:Nat) 0 _ _ (σ (ς (π g 0)) fs cap) T;rw [CY,<- D] at E;have K0:=Lh E;have dI:g≠(w:Nat):=by
  rcases I.2 with ⟨h,hn⟩|⟨g',c,C,h,bY,_⟩
  .omega
  .simp at h;omega
 have k1:=@Lh (w2.heap[(w:Nat)+1]?=ς (χ (AC ν AI) 59 (0,0))) (by
  rw [D,heap_setCell_other _ _ _ _ ψ,U.block _ (by have:=u.o;omega)];exact b1.o)
 have cE:w2.ownsRow (W:Nat) 150 4 (σ (ς (π g 0)) fs cap) fs.length t:=by
  refine ⟨I.1,?_⟩;rcases I.2 with ⟨h,hn⟩|⟨g',c,C,h,bY,cS,r⟩
  .cases h
  .refine .inr ⟨g',c,C,h,bY,?_,r⟩
   rw [D,heap_setCell_other _ _ _ _ (by show g'≠(w:Nat);simp at h;omega)];exact cS
 have cA:ϐ w W w2:=by rw [D];exact (U.mono (Nat.le_of_lt z0)).setCell (Nr _) _
 obtain ⟨C,aU⟩:=Eu.start cE (cC.below (by rw [D];exact Br.setCell hB _)) (Below.refl (W:Nat) w2);have bF:=Lh aU;have bR:=Lh cA;go_upto_region 2 with fail;rw [<-D];clear D T c0 f0 I cC U cE aU cA E;have c0:=AD K0.o 0 (σ (ς (π g 0)) fs cap) rfl;go_wp2_with fail;go_loopg [11] (fs.length+1) (λgk i wr=>∃ k:Nat,k<=fs.length/\i=ι k/\fs.length - k<gk/\Hid (∃ C bT bH F,Eu B W fs k g cap w2 wr C bT bH F))
 case atStart=>exact ⟨0,Nat.zero_le _,rfl,ω,Lh ⟨C,[],t,[],bF.o⟩⟩
 case round=>
  obtain ⟨k,hk,rfl,dH,hs⟩:=hrel;obtain ⟨aH,bT,bH,F,hS⟩:=hs.o;clear hs;have o:=Lh hS;clear hS;have E:wr.heap[(w:Nat)]?=_:=(o.o.bel.block _ (by have:=u.o;omega)).trans K0.o;have bI:=AD E 0 (σ (ς (π g 0)) fs cap) rfl;have z:=Lh E;clear E;by_cases cD:k<fs.length
  .obtain ⟨f,hf⟩:∃ f,fs[k]?=ς f:=⟨_,Lg cD⟩
   obtain ⟨lv,sv,rest,bL,bO,bP,dF,dL,cF⟩:Cj B wr bH (f::fs.drop (k+1)):=by have:=o.o.rest;rwa [List.drop_eq_getElem_cons cD,(List.getElem?_eq_some_iff.1 hf).2] at this
   subst bL;have q2:=o.o.cells 2 lv rfl;have q3:=o.o.cells 3 sv rfl;have zg:=(La o.o.row)
   obtain ⟨la,lc,rfl⟩:=bO.form;obtain ⟨sa,sc,rfl⟩:=bP.form;have cL:=Lh bO;have cP:=Lh bP;have HF:=Lh hf;have aR:=cO.o f (Lm hf);have dJ:=In k;have dK:(k:Int)<(fs:Int):=ω;clear bO bP hf;go_upto_region 5 with fail;have cB:ϐ wr wr wr.drew:=AG Br 1;have bA:=Lh (cL.o.ints (cB.mono (by have:=o.o.bel.size;have:=bR.o.size;omega)))
   go_cut [3,11] (λs3 dC wx=>s3=ι (k:Int)/\dC=ι (k:Int)/\Hid (YB wr g (k*4+2) f.L wx))
   case first=>
    go_region_with (first|(go_at_call 55;refine (Kh f.L _ B _ bA.o aR.1).mono ?_;rintro e S ⟨K,N,F3,rfl,M,L,V,q⟩;have cY:=keepD q q2;have dA:=keepD q q3;have aI:=keepD q bI;have G:S.heap[g]?=ς (χ aH 150 (0,0)):=((q.block _ zg).trans o.o.row);have bM:S.frozen? (π g (k*4+2))=false:=(Fz G);have dD:=(La G);have eM:=Bl aI;have cM:=Lh M;have cJ:=Lh L;have cH:=Lh q;clear M L q G))
    all_goals
     go_wp2;go_meet;exact ⟨rfl,rfl,Lh ⟨S,K,N,F3,cB.th cH.o,cM.o,cJ.o,V,rfl⟩⟩
   case rest=>
    obtain ⟨rfl,rfl,aS⟩:=hcut;obtain ⟨S,K,N,F3,q,M,L,V,J⟩:=aS.o;have G:=(q.block _ zg).trans o.o.row;have aD:wc.heap[g]?=ς (χ (aH.setIfInBounds (k*4+2) (σ K f.L N)) 150 (0,0)):=by rw [J];exact ϡ _ _ _ _ _ _ G
    have bE:=Lh aD;have cT:=o.o.ge g ψ;have bJ:ϐ W wr wc:=by rw [J];exact (q.mono ω).setCell cT _
    have cQ:=(bJ.cell (p:=(π w 0)) (show (w:Nat)<(W:Nat) by have:=u.o;omega)).trans bI;have cZ:wc.cell? (π g (k*4+2))=ς (σ K f.L N):=by rw [J];exact World.cell?_setCell_same _ _ _ (AB q q2)
    have dB:wc.cell? (π g (k*4+3))=ς (σ sa f.S sc):=by rw [J,World.cell?_setCell_other _ _ _ _ ψ];exact AB q q3
    have dE:=(La aD)
    have bU:B<=W:=by have:=u.o;omega
    have bG:=@Lh (AE B wc.drew 1 Aj (σ sa f.S sc) f.S) ((cP.o.ints (bJ.mono bU)).ints (AG Br 1));have bK:ϐ wc wc wc.drew:=AG Br 1;obtain ⟨aY,bD,aZ,bB,bS⟩:=Λ5 q M L V J;clear q M L V J G aD aS bJ q2 q3 bI;go_upto_region 6 with fail
    go_region_with (first|(go_at_call 55;refine (Kh f.S _ B _ bG.o aR.2).mono ?_;rintro e w4 ⟨a4,c4,F4,rfl,bW,bV,cV,H⟩;have cY:=keepD H cZ;have dA:=keepD H dB;have aI:=keepD H cQ;have Z:w4.heap[g]?=ς (χ (aH.setIfInBounds (k*4+2) (σ K f.L N)) 150 (0,0)):=((H.block _ dE).trans bE.o);have bM:w4.frozen? (π g (k*4+3))=false:=(Fz Z);have dD:=(La Z);have eN:=Bl aI;have cN:=Lh bW;have cK:=Lh bV;have cI:=Lh H;clear bW bV H Z))
    all_goals
     have bQ:(wc:Nat)=(S:Nat):=by rw [bS.o];simp
     have cX:=Lh (Eu.next HF.o o.o bU aY.o bD.o aZ.o bB.o (w2:=w4) (sv':=σ a4 f.S c4) (by rw [<-bS.o];exact bK.th cI.o) cN.o (λb A=>by have:=cK.o b A;simp at this;omega) cV);have dG:fs.length - (k+1)<gk - 1+0:=ω;clear bQ;go_wp2_with fail
     go_roundg (gk - 1)
     case measure=>omega
     case rel=>exact ⟨k+1,ω,by go_num,ω,Lh ⟨_,_,_,_,cX.o⟩⟩
  .obtain rfl:k=fs.length:=ω
   have cG:=Lh o.o.vown;have bZ:=(o.o.bel.block _ (by have:=u.o;omega)).trans k1.o;have s:=Lh bZ;clear bZ;have x:=λj v Y=>AD s.o j v Y;have dU:=x 0 ν rfl;have eD:=Ψ 0 s.o;have dV:=x 1 (ι 0) rfl;have eE:=Ψ 1 s.o;have dW:=x 2 (ι 0) rfl;have eF:=Ψ 2 s.o;have dX:=x 3 (ι 0) rfl;have eG:=Ψ 3 s.o;have dY:=x 4 (ι 0) rfl;have eH:=Ψ 4 s.o;have dZ:=x 5 (ι 0) rfl;have eI:=Ψ 5 s.o;have eA:=x 6 (ι 0) rfl;have eJ:=Ψ 6 s.o;have eB:=x 7 (ι 0) rfl;have eK:=Ψ 7 s.o;have eC:=x 8 (ι 0) rfl;have eL:=Ψ 8 s.o;have dM:=AD z.o 1 (ι n.K) rfl;have dN:=AD z.o 2 (ι n.O) rfl;have dO:=AD z.o 3 (ι n.D) rfl;have dP:=AD z.o 4 (ι n.V) rfl;have dQ:=AD z.o 5 (ι n.X) rfl;have dR:=AD z.o 6 (ι d) rfl;have dS:=AD z.o 7 (ι a) rfl;have dT:=AD z.o 8 (ι l) rfl;have aJ:=Lh (AZ s.o (σ (ς (π g 0)) fs cap) ⟨fs,n,d,a,l⟩);have bN:=o.o.ge;have aQ:=o.o.bel;have bC:Hid (CE w (σ (ς (π g 0)) fs cap) ⟨fs,n,d,a,l⟩ (Ai wr (w+1) (σ (ς (π g 0)) fs cap) ⟨fs,n,d,a,l⟩)):=Lh ⟨g::F,cG.o.kp (λb A=>aJ.o.2.block b (cG.o.lt b A) (λe=>by
     have X:=bN b A;have h2:=u.o;rw [List.mem_singleton] at e;omega)),λb A=>by
      have X:=bN b A;have h2:=u.o;omega,by
      have X:=(bX.o.trans bR.o).trans (aQ.mono (by have:=u.o;omega));exact X.trans (aJ.o.2.below (λb A=>by simp at A;omega) X.size)⟩
   clear x bN aQ;go_wp2_with fail;have aT:Kq ⟨fs,n,d,a,l⟩ w (.returned (AJ (σ (ς (π g 0)) fs cap) ⟨fs,n,d,a,l⟩)) (Ai wr (w+1) (σ (ς (π g 0)) fs cap) ⟨fs,n,d,a,l⟩):=⟨_,_,rfl,bC.o⟩
   exact ϖ (AL (p:=2) rfl aJ.o.1 _ rfl) rfl aT
