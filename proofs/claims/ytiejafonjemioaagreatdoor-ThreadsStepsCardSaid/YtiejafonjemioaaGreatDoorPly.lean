import Derived.Test.YtiejafonjemioaaGreatDoorRun8
import Derived.Test.YtiejafonjemioaaGreatDoorVld3
import Derived.Laws.EntriesVeiled
set_option maxHeartbeats 4000000
set_option maxRecDepth 1000000
set_option linter.all false
open Go renaming World→Ϣ,Value→ϒ,Calls→ϙ,bodyPost_ret→ϖ,heap_setCell_same→ϡ
open Go.RowKit renaming Below→ϐ
open Option renaming some→ς
open Bool renaming false→ϝ,true→ϑ
open List renaming replicate→ϱ,mem_cons→ϰ
open Go.Value renaming slice→σ
open Go.Obj renaming cells→χ
namespace Go.Proofs.YtiejafonjemioaaGreatDoor
open Go.RowKit Proofs.Tryz
variable {w w' W wr:Ϣ} {bm B b o A k g cap B':Nat} {m m1 m':AV} {F:List Nat} {c:AQ} {fs:List AY} {f:AY} {v:ϒ} {n:Int} {cur:Array ϒ} {csd csr:List ϒ} {x:Bi} {r:Rq} {P:Cd->Prop} {l:List Int}
def Pk (r:Rq) (n:Int) (w:Ϣ) :
  ϙ prog 133 #[XZ r,ι n] w λe w'=>e=.returned (.bool (Bj r n))/\ϐ w w w':=by
 obtain ⟨a,f,c,d,b⟩:=r;unfold XZ;by_cases h:a=1
 .subst h
  have g:=@Lh (Bj ⟨1,f,c,d,b⟩ n=Af n) (by unfold Bj;rw [if_pos rfl]);go_enter func133,ntmps133;go_wp2_with (go_at_call 137;refine (Bh n _).mono ?_;rintro e w' ⟨rfl,rfl⟩);go_ret;exact ⟨by rw [g.o];rfl,AA _ _⟩
 by_cases i:a=3
 .subst i
  have g:=@Lh (Bj ⟨3,f,c,d,b⟩ n=decide (0<=n/\n<=1099511627776)) (by unfold Bj;rw [if_neg ψ,if_pos rfl]);by_cases j:0<=n
  .have aA:decide (0<=n)=ϑ:=by simp [j]
   go_enter func133,ntmps133;go_wp2_with fail;all_goals (go_ret;exact ⟨by rw [g.o];exact Ca (by simp [*]),AA _ _⟩)
  .have aA:=θ (0<=n)
   go_enter func133,ntmps133;go_wp2_with fail;all_goals (go_ret;exact ⟨by rw [g.o];exact Ca (by simp;try omega),AA _ _⟩)
 .have g:=@Lh (Bj ⟨a,f,c,d,b⟩ n=ϑ) (by unfold Bj;rw [if_neg h,if_neg i])
  have k:(a == 1)=ϝ:=by simp [h]
  have l:(a == 3)=ϝ:=by simp [i]
  go_enter func133,ntmps133;go_wp2;go_ret;exact ⟨by rw [g.o];rfl,AA _ _⟩
def JD (h:Ak w bm m F) (r:Rq):Ak (BO w bm r) bm { m with Q:=r } F/\AW F F w (BO w bm r):=by
 obtain ⟨i,g,k,f,rfl,d⟩:=Ab.1 h;obtain ⟨j,c⟩:=EP k r;exact ⟨Ab.2 ⟨i,g,j,f.kp (λb a=>c.block b (f.lt b a) (λe=>d (by rw [List.mem_singleton] at e;exact e▸a))),rfl,d⟩,c.wide (λb a=>by simp at a;simp [a]) (λb a=>.inr a)⟩
def EJ (c:AQ) (m:AV) (n:Int) (bm:Nat) (F:List Nat) (w:Ϣ) (e:Ending) (w':Ϣ):Prop:=
 e=.returned (.tuple #[])/\∃ m' F',ED c m n m'/\Ak w' bm m' F'/\AW F F' w w'
def Vy (hs:AU c) (D:Bv c) (s j:Option Addr) (u t k:Nat) (g n:Int) (q:C9 c m m.Q fs f) (p:EB m) (l:Ak w bm m F)
  (B:Nat) (z:∀ b∈F,B<=b) (o:AE B w 5 (CW B) (σ j c.funcs k) c.funcs) (A:m.Q.K=2) :
  ϙ prog 116 #[.agg #[σ s u t,ι g,σ j c.funcs k],.pointer (ς (π bm 0)),ι n] w (EJ c m n bm F w):=by
 have y:=Lh l.lt;obtain ⟨W,d⟩:=ε ((w.alloc (χ #[σ s u t,ι g,σ j c.funcs k] 25)).alloc (χ #[σ s u t,ι g,σ j c.funcs k,.pointer (ς (π bm 0))] 175));obtain ⟨r,aY,b0,b1⟩:=Λ4 (bl2 d) (sz2 d) (ce21 d) (ce22 d);have L:B<=w:=by obtain ⟨P,H,C,S,rfl,R⟩:=Ab.1 l;have h1:=z bm ψ;have h2:=y.o bm ψ;omega
 have X:bm∈F:=by obtain ⟨P,H,C,S,rfl,R⟩:=Ab.1 l;simp
 have aW:=y.o bm X;obtain ⟨Z,I,v,aP⟩:=Λ4 o z (l.kp r.o) q;have E:=Γ3 b0.o;have n0:(w:Nat)∉F:=λe=>by have:=y.o _ e;omega
 clear l o z q;have J:=Lh A;have V:=Lh (aP.o.goOn p A Eg);clear A;have aX:W.cell? (π bm 1)=ς (ι 2):=by obtain ⟨P,H,C,S,e,R⟩:=Ab.1 v.o;have:=AD C 1 (ι m.Q.K) rfl;rw [J.o] at this;exact this
 go_enter func116,ntmps116;go_upto_region 2 with fail;rw [<-d];clear d;have G:=n0;obtain ⟨Q,h⟩:=JD v.o Eg;have K:=Lh Q;have x:=Lh ((AW.self (F:=F) (w:=W)).trans h);obtain ⟨aV,aU,a,aT,aQ,aS⟩:=Ab.1 v.o;have f1:=Ψ 1 a;have c2:=AD a 2 (ι _) rfl;have f2:=Ψ 2 a;have c3:=AD a 3 (ι _) rfl;have f3:=Ψ 3 a;have c4:=AD a 4 (ι _) rfl;have f4:=Ψ 4 a;have c5:=AD a 5 (ι _) rfl;have f5:=Ψ 5 a;obtain ⟨w6,i⟩:=ε (BO W bm Eg);rw [<-i] at K x;have e0:=h.cell E.1 G;have e1:=h.cell E.2.1 G;have e2:=h.cell E.2.2 G;rw [<-i] at e0 e1 e2;have aR:=I;have Y:=Lh (Z.o.funs ((r.o.mono L).trans (x.o.below I.o (Nt L r.o.size))));unfold BO Eg at i;clear Q h a aT aQ aS;go_upto_region 10 with fail;rw [<-i];clear i;go_wp2_with fail;refine (KW hs D s j u t k g V.o K.o B aR.o Y.o).mono ?_;rintro e w7 ⟨rfl,m7,T,O,N,M⟩;have U:Hid (EJ c m n bm F w (.returned (.tuple #[])) w7):=Lh ⟨rfl,m7,T,.inr (.inr ⟨J.o,O⟩),N,(AW.ob r.o).trans (x.o.trans M)⟩;clear O N M;go_wp2_with fail
 go_end0
 exact U.o
def QK (hs:AU c) (z:Bv c) (q h:Option Addr) (s r i:Nat) (g n:Int) (C:C9 c m m.Q fs f) (v:EB m) (t:Ak w bm m F)
  (B:Nat) (J:∀ b∈F,B<=b) (u:AE B w 5 (CW B) (σ h c.funcs i) c.funcs) (hk:m.Q.K=1) (A:BP n) :
  ϙ prog 116 #[.agg #[σ q s r,ι g,σ h c.funcs i],.pointer (ς (π bm 0)),ι n] w (EJ c m n bm F w):=by
 have I:=Lh t.lt;obtain ⟨W,j⟩:=ε ((w.alloc (χ #[σ q s r,ι g,σ h c.funcs i] 25)).alloc (χ #[σ q s r,ι g,σ h c.funcs i,.pointer (ς (π bm 0))] 175));obtain ⟨o,bE,b0,b1⟩:=Λ4 (bl2 j) (sz2 j) (ce21 j) (ce22 j);have H:B<=w:=by obtain ⟨fv,N,K,A,rfl,hn⟩:=Ab.1 t;have h1:=J bm ψ;have h2:=I.o bm ψ;omega
 have aJ:bm∈F:=by obtain ⟨fv,N,K,A,rfl,hn⟩:=Ab.1 t;simp
 have bJ:=I.o bm aJ;obtain ⟨aX,O,Q,k⟩:=Λ4 u J (t.kp o.o) C;have L:=Γ3 b0.o;have k0:=Γ4 b1.o;have z0:(w:Nat)<W:=by have:=bE.o;omega
 have E:(w:Nat)∉F:=λe=>by have:=I.o _ e;omega
 clear t u J C;have P:=Lh hk;have aF:=Lh (k.o.push v ω n A Eg);clear hk;have bK:W.cell? (π bm 1)=ς (ι 1):=by obtain ⟨fv,N,K,A,e,hn⟩:=Ab.1 Q.o;have:=AD K 1 (ι m.Q.K) rfl;rw [P.o] at this;exact this
 obtain ⟨fb,cap,bH,cs,lv,sv,Fi,Fl,Fs,hT,T⟩:=Q.o.top k.o.fr;have HT:=Lh hT;have aY:=Lh T;have aM:fs.length<=200:=by have:=k.o.len;omega
 have bD:f.S.length<1000000:=by obtain ⟨y,x,hh,D,h1,hx,_,hr,hl⟩:=k.o.top;have h2:=DJ (hs.wf D.fn) (hs.snd D.fn) hr;have h3:=z y (Lm D.fn);have h4:=((hs.wf D.fn).pops x (Lm hx)).1;omega
 clear hT T;go_enter func116,ntmps116;go_upto_region 2 with fail;rw [<-j];clear j;go_wp2_with fail;refine (Da q h s r c.funcs.length i g HT.o aM n A.in64 bD).mono ?_;rintro e w5 ⟨rfl,aZ,bL,aW,Z,U⟩;have R:=Lh ((Z.reframe (fs++[{ f with S:=f.S++[n] }])).own rfl);have d:=@Lh (AW F (bm::fb::(Fi++(Fl++aW))) W w5) (by rw [aY.o];exact U);have j0:=d.o.cell L.1 E;have j1:=d.o.cell L.2.1 E;have j2:=d.o.cell L.2.2 E;have aL:=Lh (d.o.ge O.o (Nt H o.o.size));clear Z U;have M:=d.o.notin z0 E;obtain ⟨h6,l⟩:=JD R.o Eg;have S:=Lh h6;have G:=Lh (d.o.trans l);obtain ⟨bI,bG,a,bF,bA,bC⟩:=Ab.1 R.o;have c1:=AD a 1 (ι _) rfl;have f1:=Ψ 1 a;have c2:=AD a 2 (ι _) rfl;have f2:=Ψ 2 a;have c3:=AD a 3 (ι _) rfl;have f3:=Ψ 3 a;have c4:=AD a 4 (ι _) rfl;have f4:=Ψ 4 a;have c5:=AD a 5 (ι _) rfl;have f5:=Ψ 5 a;obtain ⟨w6,p⟩:=ε (BO w5 bm Eg);rw [<-p] at S G;have e0:=l.cell j0 M;have e1:=l.cell j1 M;have e2:=l.cell j2 M;rw [<-p] at e0 e1 e2;have bB:=aL;have aK:=Lh (aX.o.funs ((o.o.mono H).trans (G.o.below O.o (Nt H o.o.size))));unfold BO Eg at p;clear h6 l a bF bA bC;go_upto_region 10 with fail;rw [<-p];clear p;go_wp2_with fail;refine (KW hs z q h s r i g aF.o S.o B bB.o aK.o).mono ?_;rintro e w7 ⟨rfl,m7,F7,Y,X,V⟩;have HP:Hid (EJ c m n bm F w (.returned (.tuple #[])) w7):=Lh ⟨rfl,m7,F7,.inr (.inl ⟨.inl P.o,fs,f,k.o.fr,Y⟩),X,(AW.ob o.o).trans (G.o.trans V)⟩;clear Y X V;go_wp2_with fail
 go_end0
 exact HP.o
def QL (hs:AU c) (A:Bv c) (r h:Option Addr) (t s i:Nat) (g n:Int) (D:C9 c m m.Q fs f) (z:EB m) (u:Ak w bm m F)
  (B:Nat) (K:∀ b∈F,B<=b) (v:AE B w 5 (CW B) (σ h c.funcs i) c.funcs) (hk:m.Q.K=3) (C:BP n) (k:n≠0) :
  ϙ prog 116 #[.agg #[σ r t s,ι g,σ h c.funcs i],.pointer (ς (π bm 0)),ι n] w (EJ c m n bm F w):=by
 have J:=Lh u.lt;obtain ⟨W,j⟩:=ε ((w.alloc (χ #[σ r t s,ι g,σ h c.funcs i] 25)).alloc (χ #[σ r t s,ι g,σ h c.funcs i,.pointer (ς (π bm 0))] 175));obtain ⟨p,bE,b0,b1⟩:=Λ4 (bl2 j) (sz2 j) (ce21 j) (ce22 j);have I:B<=w:=by obtain ⟨fv,O,L,C,rfl,k⟩:=Ab.1 u;have h1:=K bm ψ;have h2:=J.o bm ψ;omega
 have aJ:bm∈F:=by obtain ⟨fv,O,L,C,rfl,k⟩:=Ab.1 u;simp
 have bJ:=J.o bm aJ;obtain ⟨aX,P,R,l⟩:=Λ4 v K (u.kp p.o) D;have M:=Γ3 b0.o;have k0:=Γ4 b1.o;have z0:(w:Nat)<W:=by have:=bE.o;omega
 have G:(w:Nat)∉F:=λe=>by have:=J.o _ e;omega
 clear u v K D;have Q:=Lh hk;have aF:=Lh (l.o.push z ω n C Eg);clear hk;have bK:W.cell? (π bm 1)=ς (ι 3):=by obtain ⟨fv,O,L,C,e,k⟩:=Ab.1 R.o;have:=AD L 1 (ι m.Q.K) rfl;rw [Q.o] at this;exact this
 have bL:(n == 0)=ϝ:=by simp [k]
 have HN:=Lh k;clear k;obtain ⟨fb,cap,bH,cs,lv,sv,Fi,Fl,Fs,hT,U⟩:=R.o.top l.o.fr;have HT:=Lh hT;have aY:=Lh U;have aM:fs.length<=200:=by have:=l.o.len;omega
 have bD:f.S.length<1000000:=by obtain ⟨y,x,hh,E,h1,hx,_,hr,hl⟩:=l.o.top;have h2:=DJ (hs.wf E.fn) (hs.snd E.fn) hr;have h3:=A y (Lm E.fn);have h4:=((hs.wf E.fn).pops x (Lm hx)).1;omega
 clear hT U;go_enter func116,ntmps116;go_upto_region 2 with fail;rw [<-j];clear j;go_wp2_with fail;refine (Da r h t s c.funcs.length i g HT.o aM n C.in64 bD).mono ?_;rintro e w5 ⟨rfl,aZ,bM,aW,aV,V⟩;have S:=Lh ((aV.reframe (fs++[{ f with S:=f.S++[n] }])).own rfl);have d:=@Lh (AW F (bm::fb::(Fi++(Fl++aW))) W w5) (by rw [aY.o];exact V);have j0:=d.o.cell M.1 G;have j1:=d.o.cell M.2.1 G;have j2:=d.o.cell M.2.2 G;have aL:=Lh (d.o.ge P.o (Nt I p.o.size));clear aV V;have N:=d.o.notin z0 G;obtain ⟨h6,o⟩:=JD S.o Eg;have T:=Lh h6;have H:=Lh (d.o.trans o);obtain ⟨bI,bG,a,bF,bA,bC⟩:=Ab.1 S.o;have c1:=AD a 1 (ι _) rfl;have f1:=Ψ 1 a;have c2:=AD a 2 (ι _) rfl;have f2:=Ψ 2 a;have c3:=AD a 3 (ι _) rfl;have f3:=Ψ 3 a;have c4:=AD a 4 (ι _) rfl;have f4:=Ψ 4 a;have c5:=AD a 5 (ι _) rfl;have f5:=Ψ 5 a;obtain ⟨w6,q⟩:=ε (BO w5 bm Eg);rw [<-q] at T H;have e0:=o.cell j0 N;have e1:=o.cell j1 N;have e2:=o.cell j2 N;rw [<-q] at e0 e1 e2;have bB:=aL;have aK:=Lh (aX.o.funs ((p.o.mono I).trans (H.o.below P.o (Nt I p.o.size))));unfold BO Eg at q;clear h6 o a bF bA bC;go_upto_region 10 with fail;rw [<-q];clear q;go_wp2_with fail;refine (KW hs A r h t s i g aF.o T.o B bB.o aK.o).mono ?_;rintro e w7 ⟨rfl,m7,F7,Z,Y,X⟩;have HP:Hid (EJ c m n bm F w (.returned (.tuple #[])) w7):=Lh ⟨rfl,m7,F7,.inr (.inl ⟨.inr ⟨Q.o,HN.o⟩,fs,f,l.o.fr,Z⟩),Y,(AW.ob p.o).trans (H.o.trans X)⟩;clear Z Y X;go_wp2_with fail
 go_end0
 exact HP.o
def UO (hs:AU c) (T:Bv c) (p i:Option Addr) (r q j:Nat) (g n:Int) (u:C9 c m m.Q fs f) (L:EB m) (h:Ak w bm m F)
  (B:Nat) (J:∀ b∈F,B<=b) (s:AE B w 5 (CW B) (σ i c.funcs j) c.funcs) (K:m.Q.K=3) (l:n=0) :
  ϙ prog 116 #[.agg #[σ p r q,ι g,σ i c.funcs j],.pointer (ς (π bm 0)),ι n] w (EJ c m n bm F w):=by
 have D:=Lh h.lt;obtain ⟨W,d⟩:=ε ((w.alloc (χ #[σ p r q,ι g,σ i c.funcs j] 25)).alloc (χ #[σ p r q,ι g,σ i c.funcs j,.pointer (ς (π bm 0))] 175));obtain ⟨C,Z,b0,b1⟩:=Λ4 (bl2 d) (sz2 d) (ce21 d) (ce22 d);have V:B<=w:=by obtain ⟨E,x,t,M,rfl,l⟩:=Ab.1 h;have H:=J bm ψ;have I:=D.o bm ψ;omega
 have N:bm∈F:=by obtain ⟨E,x,t,M,rfl,l⟩:=Ab.1 h;simp
 have X:=D.o bm N;have z:=Lh (h.kp C.o);clear h s J u;have y:=Lh K;subst l;clear K;have Y:W.cell? (π bm 1)=ς (ι 3):=by obtain ⟨E,x,t,M,e,l⟩:=Ab.1 z.o;have:=AD t 1 (ι m.Q.K) rfl;rw [y.o] at this;exact this
 obtain ⟨O,U,a,Q,A,P⟩:=Ab.1 z.o;have c0:=AD a 0 O rfl;have c2:=AD a 2 (ι _) rfl;have c3:=AD a 3 (ι _) rfl;have c4:=AD a 4 (ι _) rfl;have c5:=AD a 5 (ι _) rfl;have f0:=Ψ 0 a;have f1:=Ψ 1 a;have f2:=Ψ 2 a;have f3:=Ψ 3 a;have f4:=Ψ 4 a;have f5:=Ψ 5 a;have o:=@Lh (∃ v,Ak (BO (W.setCell (π bm 0) ν) bm (Ah 21)) bm { m with J:=[],Q:=Ah 21 } v/\AW F v W (BO (W.setCell (π bm 0) ν) bm (Ah 21))) (by
  have G:=ϡ _ bm 0 _ _ ν a;rw [CY] at G;have H:Ak (W.setCell (π bm 0) ν) bm { m with J:=[] } [bm]:=Ab.2 ⟨_,[],G,Ds _,rfl,ψ⟩;obtain ⟨I,R⟩:=JD H (Ah 21);refine ⟨[bm],I,?_⟩;rw [A];exact (BX.trans R).wide (λb k=>by simp at k;simp [k]) (λb k=>.inl k))
 clear a Q A P;unfold BO Ah at o;go_enter func116,ntmps116;go_upto_region 2 with fail;rw [<-d];clear d;go_wp2_with fail;have S:EJ c m 0 bm F w (.returned (.tuple #[])) _:=⟨rfl,_,_,.inl ⟨y.o,rfl,rfl⟩,o.o.choose_spec.1,(AW.ob C.o).trans o.o.choose_spec.2⟩
 refine ϖ (results_none rfl _ _ _) rfl ?_;exact S
def Cj (B:Nat) (w:Ϣ):List ϒ->List AY->Prop
 | cells,[]=>cells=[]
 | cells,f::fs=>∃ lv sv cs,cells=ι f.fn::ι f.pc::lv::sv::cs/\AE B w 1 Aj lv f.L/\AE B w 1 Aj sv f.S/\in64 f.fn/\in64 f.pc/\Cj B w cs fs
def Cj.below (a:ϐ B w w'):∀ {fs:List AY} {cells:List ϒ},Cj B w cells fs->Cj B w' cells fs
 | [],_,h=>h
 | _::_,_,⟨j,k,b,c,d,e,f,g,i⟩=>⟨j,k,b,c,d.ints a,e.ints a,f,g,i.below a⟩
def Cj.len :∀ {fs:List AY} {cells:List ϒ},Cj B w cells fs->cells.length=fs.length*4
 | [],_,h=>by rw [show _=[] from h];rfl
 | _::_,_,⟨i,j,c,a,d,e,f,g,b⟩=>by rw [a];simp [b.len];omega
def Cj.one :∀ {fs:List AY} {cells:List ϒ},Cj B w cells fs->∀ u∈cells,u.oneCell'=ϑ
 | [],_,h,u,b=>by rw [show _=[] from h] at b;simp at b
 | _::_,_,⟨n,o,k,d,e,f,l,m,g⟩,u,b=>by
  obtain ⟨a,c,rfl⟩:=e.form;obtain ⟨i,j,rfl⟩:=f.form;rw [d] at b;simp only [ϰ] at b;rcases b with rfl|rfl|rfl|rfl|b
  .rfl
  .rfl
  .rfl
  .rfl
  .exact g.one u b
def LG :∀ {fs:List AY} {o:Nat},(∀ (i:Nat) x,fs[i]?=ς x->CK B w b (o+i*4) x)->∃ c,Cj B w c fs/\∀ (j:Nat) u,c[j]?=ς u->w.cell? (π b (o+j))=ς u
 | [],o,_=>⟨[],rfl,ψ⟩
 | f::fs,o,h=>by
  obtain ⟨l,m,⟨e,n,p⟩,⟨g,q,r⟩,s,t⟩:=h 0 f rfl;obtain ⟨d,v,k⟩:=LG (fs:=fs) (o:=o+4) (λi x y=>by
   have:=h (i+1) x (by simpa using y);rwa [show o+(i+1)*4=o+4+i*4 by omega] at this)
  refine ⟨ι f.fn::ι f.pc::e::g::d,⟨e,g,d,rfl,p,r,s,t,v⟩,λj u a=>?_⟩
  match j,a with
  | 0,a=>simp at a;subst a;simpa using l
  | 1,a=>simp at a;subst a;simpa using m
  | 2,a=>simp at a;subst a;simpa using n
  | 3,a=>simp at a;subst a;simpa using q
  | j+4,a=>have:=k j u (by simpa using a);rwa [show o+(j+4)=o+4+j by omega]
def NE {o:Obj} (a:(w.alloc o).grownBy w' (ς (w:Nat))):ϐ w w w':=
 ⟨a.os,a.tape,a.output,by have:=a.size;simp at this;omega,λk b=>by
  rw [a.block k φ (λe=>by simp at e;omega)];exact Ha _ _ _ b⟩
def Wr (B:Nat) (fs:List AY) (w:Ϣ) (e:Ending) (w':Ϣ):Prop:=
 ∃ v cells,e=.returned v/\w'.ownsRow (w:Nat) 129 4 v fs.length cells/\Cj B w' cells fs/\ϐ w w w'
def Pr (fs:List AY) (v:ϒ) (B:Nat) (w:Ϣ) (G:B<=w) (K:AE B w 4 (CK B) v fs) (hl:fs.length<=1000) :
  ϙ prog 167 #[v] w (Wr B fs w):=by
 obtain ⟨a,cap,rfl,p,q,M,e⟩:=K;obtain ⟨L,H,D,E,F⟩:=info_parts FT;cases a with
 | none=>
  have g:fs=[]:=by
   rcases e with h|⟨b,o,h,_⟩
   .exact h
   .cases h
  subst g;have J:=Lib.run_eql_slice_nil (P:=prog);go_enter func167,ntmps167;go_wp2;go_ret;exact ⟨_,[],rfl,World.ownsRow_nil _ _ _ _,rfl,Below.refl _ _⟩
 | some d=>
  have J:∀ w:Ϣ,(binOp .eql 47 (σ (ς d) fs cap) ν).run prog w=.ok (.bool ϝ) w:=λw=>by simpa using Lib.run_eql_slice_nil (P:=prog) w 47 129 (ς d) fs.length cap 0 0 underlying47
  obtain ⟨c,f,l⟩:∃ c,Cj B w c fs/\∀ (j:Nat) u,c[j]?=ς u->w.cell? (d.add j)=ς u:=by
   rcases e with h|⟨b,o,h,i,e⟩
   .subst h;exact ⟨[],rfl,ψ⟩
   .cases h
    obtain ⟨c,p,q⟩:=LG e;exact ⟨c,p,λj u k=>by rw [Qt];exact q j u k⟩
  have A:=Lh f;have x:=Lh f.len;have y:=Lh f.one;have s:=@Lh (∀ (j:Nat) u,c[j]?=ς u->(w.alloc (χ #[] 129)).cell? (d.add j)=ς u) (λj u k=>AB (AA _ _) (l j u k));have z:=@Lh ((w.alloc (χ #[] 129)).ownsRow (w:Nat) 129 4 (σ (ς (π w 0)) 0 0) 0 []) (World.ownsRow_made w #[] 0 (Nr _) (by unfold maxLen;omega) rfl);clear e f l;go_enter func167,ntmps167;go_wp2_with (at_builtin;refine wpList_append_own _ rfl (.tmp 5) (.tmp 6) 47 rfl (w:Nat) 129 L (.agg #[ι 0,ι 0,ν,ν]) 4 64 underlying47 H D E F rfl δ (σ (ς (π w 0)) 0 0) 0 [] rfl z.o d fs.length cap c rfl x.o s.o y.o ?_ ?_ ?_ ?_;(unfold maxLen;omega);omega;(simp);intro r w' m n g;have t:=Lh m;have C:=Lh n;clear m n g);go_ret;have i:=Lh (NE C.o);have I:w'.ownsRow (w:Nat) 129 4 r fs.length c:=by simpa using t.o
  exact ⟨r,c,rfl,I,A.o.below (i.o.mono G),i.o⟩
def Te (l:List Int) (w:Ϣ) (e:Ending) (w':Ϣ):Prop:=∃ a c F,e=.returned (σ a l c)/\Be w' (σ a l c) l F/\(∀ b∈F,(w:Nat)<=b)/\F.length<=1/\ϐ w w w'
def FF {d:Nat} {e:TypeId} {f:Nat} {n:Nat} {xs:List ϒ} (h:w.ownsRow d e f v n xs):w.ownsRow 0 e f v n xs/\(∀ b∈v.ownBlock.toList,d<=b)/\∃ a c,v=σ a n c:=by
 obtain ⟨i,k⟩:=h;rcases k with ⟨rfl,m⟩|⟨g,cap,j,rfl,l,r⟩
 .subst m
  exact ⟨⟨i,.inl ⟨rfl,rfl⟩⟩,by simp [Value.ownBlock],none,0,rfl⟩
 .exact ⟨⟨i,.inr ⟨g,cap,j,rfl,Nat.zero_le _,r⟩⟩,by simp [Value.ownBlock];exact l,_,_,rfl⟩
def Kh (l:List Int) (v:ϒ) (B:Nat) (w:Ϣ) (C:AE B w 1 Aj v l) (hl:l.length<=1000000):ϙ prog 114 #[v] w (Te l w):=by
 obtain ⟨a,cap,rfl,E,F,G,g⟩:=C;have c:∀ m w',w'.ownsRow (w:Nat) 3 1 m l.length (l.map (Value.int .i64))->(∀ n∈l,in64 n)->ϐ w w w'->Te l w (.returned m) w':=λm w' f r d=>by obtain ⟨u,x,p,t,rfl⟩:=FF f;exact ⟨p,t,_,rfl,⟨u,rfl,r⟩,x,by cases p<;>simp [Value.ownBlock],d⟩
 cases a with
 | none=>
  have q:l=[]:=by
   rcases g with h|⟨b,o,h,_⟩
   .exact h
   .cases h
  subst q;exact (slices_Clone_int_nil _ cap w).mono λe w' ⟨k,D⟩=>by subst k D;exact c _ _ (World.ownsRow_nil _ _ _ _) ψ Br
 | some s=>
  rcases g with h|⟨b,o,h,d,g⟩
  .subst h
   exact (slices_Clone_int_zero s cap w).mono λe w' ⟨m,k,f,_,d⟩=>by subst k;exact c _ _ f ψ d
  .cases h
   refine (slices_Clone_int b o l.length cap l w (Nr _) ω (λj z=>?_)).mono λe w' ⟨m,k,f,_,d⟩=>by
    subst k;rw [List.take_length] at f;exact c _ _ f (λn A=>by
     obtain ⟨i,y,rfl⟩:=List.getElem_of_mem A;exact (g i _ (Lg y)).2) d
   have:=(g j _ (getD_some z)).1;rw [Nat.mul_one] at this;exact this
def Me {a L:List ϒ} {N j:Nat} (h:cur.toList.take N=a++L):(cur.setIfInBounds (a.length+j) v).toList.take N=a++L.set j v:=by
 rw [Array.toList_setIfInBounds,List.take_set,h,List.set_append_right _ _ ω,Nat.add_sub_cancel_left]
structure Eu (B A:Nat) (fs:List AY) (k g cap:Nat) (W wr:Ϣ) (cur:Array ϒ) (csd csr:List ϒ) (F:List Nat):Prop where
 row:wr.heap[g]?=ς (χ cur 129 (0,0))
 csize:cur.size=cap*4
 capl:fs.length<=cap
 capm:cap<=9223372036854775807
 take:cur.toList.take (fs.length*4)=csd++csr
 done:BJ wr csd (fs.take k) F
 rest:Cj B wr csr (fs.drop k)
 nodup:(g::F).Nodup
 ge:∀ b∈g::F,A<=b
 bel:ϐ A W wr
 cslen:csd.length=k*4
def Eu.cells (h:Eu B A fs k g cap W wr cur csd csr F) (j:Nat) (u:ϒ) (b:csr[j]?=ς u):wr.cell? (π g (k*4+j))=ς u:=by
 rw [cell_of_row _ _ _ _ _ _ h.row];have a:(csd++csr)[k*4+j]?=ς u:=by rw [Ar (by rw [h.cslen];omega),h.cslen,Nat.add_sub_cancel_left];exact b
 rw [<-h.take,List.getElem?_take] at a;split at a
 .simpa using a
 .cases a
def Eu.next {o w2:Ϣ} {n:List ϒ} {lv sv lv' sv':ϒ} {Fl Fs:List Nat} (p:fs[k]?=ς f) (h:Eu B A fs k g cap W wr cur csd (ι f.fn::ι f.pc::lv::sv::n) F) (z:B<=A)
  (d:ϐ wr wr o) (hl:Be o lv' f.L Fl) (q:∀ b∈Fl,(wr:Nat)<=b) (D:Fl.length<=1) (i:ϐ (o.setCell (π g (k*4+2)) lv').heap.size (o.setCell (π g (k*4+2)) lv') w2) (hs:Be w2 sv' f.S Fs) (m:∀ b∈Fs,(o:Nat)<=b) (G:Fs.length<=1) :
  Eu B A fs (k+1) g cap W (w2.setCell (π g (k*4+3)) sv') ((cur.setIfInBounds (k*4+2) lv').setIfInBounds (k*4+3) sv') (csd++[ι f.fn,ι f.pc,lv',sv']) n (F++(Fl++Fs)):=by
 have S:=(La h.row)
 have aQ:=d.size;have U:=i.size;simp at U;have V:o.heap[g]?=ς (χ cur 129 (0,0)):=by rw [d.block g S];exact h.row
 have X:=ϡ _ g (k*4+2) _ _ lv' V;have Y:w2.heap[g]?=_:=(i.block g φ).trans X;have Z:=ϡ _ g (k*4+3) _ _ sv' Y;have s:=h.ge g ψ;have hF:=h.done.lt;have K:=hl.lt;have L:∀ b,b≠g->b<(o:Nat)->w2.heap[b]?=o.heap[b]?:=λb c aP=>by rw [i.block b φ,heap_setCell_other _ _ _ _ c]
 have E:∀ b,b≠g->(w2.setCell (π g (k*4+3)) sv').heap[b]?=w2.heap[b]?:=λb c=>heap_setCell_other _ _ _ _ c;have u:=h.nodup;rw [List.nodup_cons] at u;have t:∀ b∈F,b≠g:=λb c e=>u.1 (e▸c);have r:∀ b∈Fl,b≠g:=λb c e=>by have:=q b c;omega
 have I:∀ b∈Fs,b≠g:=λb c e=>by have:=m b c;omega
 have R:A<=wr:=ω;have H:ϐ A wr (w2.setCell (π g (k*4+3)) sv'):=((d.mono R).trans (Br.setCell s _)).trans ((i.mono φ).trans (Br.setCell s _));have T:fs.take (k+1)=fs.take k++[f]:=by rw [List.take_add_one,p];rfl
 refine ⟨Z,by simp [h.csize],h.capl,h.capm,?_,?_,?_,?_,?_,h.bel.trans H,by simp [h.cslen];omega⟩
 .have t1:=Me (j:=2) (v:=lv') h.take
  rw [h.cslen] at t1;have Q:=Me (j:=3) (v:=sv') t1;rw [h.cslen] at Q;rw [Q];simp
 .rw [T]
  exact ((h.done.kp (λb c=>by rw [E b (t b c),L b (t b c) (by have:=hF b c;omega),d.block b (hF b c)])).add (hl.kp (λb c=>by rw [E b (r b c),L b (r b c) (K b c)])) (hs.kp (λb c=>E b (I b c))) (by
   obtain ⟨M,N,J,e,O,P,w,x,y⟩:Cj B wr _ (f::fs.drop (k+1)):=by have:=h.rest;rwa [List.drop_eq_getElem_cons (Ll p),(List.getElem?_eq_some_iff.1 p).2] at this
   exact w) (by
   obtain ⟨M,N,J,e,O,P,w,x,y⟩:Cj B wr _ (f::fs.drop (k+1)):=by have:=h.rest;rwa [List.drop_eq_getElem_cons (Ll p),(List.getElem?_eq_some_iff.1 p).2] at this
   exact x))
 .obtain ⟨M,N,J,e,O,P,w,x,y⟩:Cj B wr _ (f::fs.drop (k+1)):=by have:=h.rest;rwa [List.drop_eq_getElem_cons (Ll p),(List.getElem?_eq_some_iff.1 p).2] at this
  simp at e;rw [e.2.2];exact y.below (H.mono z)
 .rw [List.nodup_cons]
  refine ⟨λe=>?_,?_⟩
  .rw [List.mem_append,List.mem_append] at e
   rcases e with e|e|e
   .exact t _ e rfl
   .exact r _ e rfl
   .exact I _ e rfl
  .have one:∀ l:List Nat,l.length<=1->l.Nodup:=λl hl=>by
    match l,hl with
    | [],_=>simp
    | [a],_=>simp
   rw [List.nodup_append];refine ⟨u.2,?_,λa C b c e=>?_⟩
   .rw [List.nodup_append]
    exact ⟨one _ D,one _ G,λa C b c e=>by have:=K a C;have:=m b c;omega⟩
   .have h1:=hF a C
    rw [List.mem_append] at c;rcases c with c|c
    .have:=q b c;omega
    .have:=m b c;omega
 .intro b c
  rw [ϰ,List.mem_append,List.mem_append] at c;rcases c with rfl|c|c|c
  .exact s
  .exact h.ge b (by simp [c])
  .have:=q b c;omega
  .have:=m b c;omega
def Kq (m:AV) (w:Ϣ) (e:Ending) (w':Ϣ):Prop:=∃ a c,e=.returned (AJ (σ a m.J c) m)/\CE w (σ a m.J c) m w'
def Eu.vown (h:Eu B A fs fs.length g cap W wr cur csd csr F):Cv wr (σ (ς (π g 0)) fs cap) fs (g::F):=by
 have a:=h.rest;rw [List.drop_length] at a;have d:csr=[]:=a;have b:=h.done;rw [List.take_length] at b;have c:=h.take;rw [d,List.append_nil] at c;exact ⟨csd,F,⟨h.cslen,.inr ⟨g,cap,cur,rfl,Nat.zero_le _,h.row,h.capl,by unfold maxLen;have:=h.capm;omega,h.csize,c⟩⟩,b,rfl,h.nodup⟩
def Eu.start {a:List ϒ} (m:wr.ownsRow A 129 4 (σ (ς (π g 0)) fs cap) fs.length a) (k:Cj B wr a fs) (j:ϐ A W wr):∃ b,Eu B A fs 0 g cap W wr b [] a []:=by
 obtain ⟨r,i⟩:=m;rcases i with ⟨h,_⟩|⟨q,p,b,c,d,l,e,f,n,o⟩
 .cases h
 .simp at c
  obtain ⟨rfl,rfl⟩:=c;exact ⟨b,l,n,e,by unfold maxLen at f;omega,by simpa using o,⟨rfl,rfl⟩,by simpa using k,ψ,by simpa using d,j,rfl⟩
def YB (W:Ϣ) (g off:Nat) (l:List Int) (wx:Ϣ):Prop:=∃ w1 a c F,ϐ W W w1/\Be w1 (σ a l c) l F/\(∀ b∈F,(W:Nat)<=b)/\F.length<=1/\wx=w1.setCell (π g off) (σ a l c)
def OM (m:AV) (O:Option Addr) (P B:Nat) (w:Ϣ) (hB:B<=w) (Y:AE B w 4 (CK B) (σ O m.J P) m.J) (hl:m.J.length<=1000) (R:∀ f∈m.J,f.L.length<=1000000/\f.S.length<=1000000) (Q:0<m.J.length) :
  ϙ prog 134 #[AJ (σ O m.J P) m] w (Kq m w):=by
 obtain ⟨fs,n,d,a,l⟩:=m;obtain ⟨W,y⟩:=ε ((w.alloc (χ (AC (σ O fs P) ⟨fs,n,d,a,l⟩) 51)).alloc (χ (AC ν AI) 51));obtain ⟨bX,u,b0,b1⟩:=Λ4 (bl2 y) (sz2 y) (ro21 y) (ro22 y);have HV:=Lh (Y.fras (bX.o.mono hB));have cR:B<=W:=by have:=u.o;omega
 have cO:=Lh R;have cU:fs.length<=1000:=hl;have cW:0<fs.length:=Q;clear Y R hl Q;unfold AJ;unfold AC at y ⊢;go_enter func134,ntmps134;go_upto_region 1 with fail;unfold AI at y;dsimp only at y ⊢;rw [<-y];clear y;have c0:=AD b0.o 0 (σ O fs P) rfl;have z0:(w:Nat)<W:=by have:=u.o;omega
 go_wp2_with fail;refine (Pr fs _ B W cR HV.o cU).mono ?_;rintro e w1 ⟨v1,t,rfl,I,cC,U⟩;obtain ⟨_,_,ga,cap,rfl⟩:=FF I;obtain ⟨g,rfl⟩:∃ g,ga=ς (π g 0):=by
  rcases I.2 with ⟨h,hn⟩|⟨g,c,C,h,_⟩
  .omega
  .simp at h;exact ⟨g,h.1⟩
 have T:=(U.block _ z0).trans b0.o;have c0:=AD T 0 (σ O fs P) rfl;have f0:=Ψ 0 T;obtain ⟨w2,D⟩:=ε (w1.setCell (π w 0) (σ (ς (π g 0)) fs cap));have E:=ϡ _ (w:Nat) 0 _ _ (σ (ς (π g 0)) fs cap) T;rw [CY,<- D] at E;have K0:=Lh E;have dI:g≠(w:Nat):=by
  rcases I.2 with ⟨h,hn⟩|⟨g',c,C,h,bY,_⟩
  .omega
  .simp at h;omega
 have k1:=@Lh (w2.heap[(w:Nat)+1]?=ς (χ (AC ν AI) 51 (0,0))) (by
  rw [D,heap_setCell_other _ _ _ _ ψ,U.block _ (by have:=u.o;omega)];exact b1.o)
 have cE:w2.ownsRow (W:Nat) 129 4 (σ (ς (π g 0)) fs cap) fs.length t:=by
  refine ⟨I.1,?_⟩;rcases I.2 with ⟨h,hn⟩|⟨g',c,C,h,bY,cS,r⟩
  .cases h
  .refine .inr ⟨g',c,C,h,bY,?_,r⟩
   rw [D,heap_setCell_other _ _ _ _ (by show g'≠(w:Nat);simp at h;omega)];exact cS
 have cA:ϐ w W w2:=by rw [D];exact (U.mono (Nat.le_of_lt z0)).setCell (Nr _) _
 obtain ⟨C,aU⟩:=Eu.start cE (cC.below (by rw [D];exact Br.setCell hB _)) (Below.refl (W:Nat) w2);have bF:=Lh aU;have bR:=Lh cA;go_upto_region 2 with fail;rw [<-D];clear D T c0 f0 I cC U cE aU cA E;have c0:=AD K0.o 0 (σ (ς (π g 0)) fs cap) rfl;go_wp2_with fail;go_loopg [11] (fs.length+1) (λgk i wr=>∃ k:Nat,k<=fs.length/\i=ι k/\fs.length - k<gk/\Hid (∃ C bT bH F,Eu B W fs k g cap w2 wr C bT bH F))
 case atStart=>exact ⟨0,Nat.zero_le _,rfl,ω,Lh ⟨C,[],t,[],bF.o⟩⟩
 case round=>
  obtain ⟨k,hk,rfl,dH,hs⟩:=hrel;obtain ⟨aH,bT,bH,F,hS⟩:=hs.o;clear hs;have o:=Lh hS;clear hS;have E:wr.heap[(w:Nat)]?=_:=(o.o.bel.block _ (by have:=u.o;omega)).trans K0.o;have bI:=AD E 0 (σ (ς (π g 0)) fs cap) rfl;have z:=Lh E;clear E;by_cases cD:k<fs.length
  .obtain ⟨f,hf⟩:∃ f,fs[k]?=ς f:=⟨_,Lg cD⟩
   obtain ⟨lv,sv,rest,bL,bO,bP,dF,dL,cF⟩:Cj B wr bH (f::fs.drop (k+1)):=by have:=o.o.rest;rwa [List.drop_eq_getElem_cons cD,(List.getElem?_eq_some_iff.1 hf).2] at this
   subst bL;have q2:=o.o.cells 2 lv rfl;have q3:=o.o.cells 3 sv rfl;have zg:=(La o.o.row)
   obtain ⟨la,lc,rfl⟩:=bO.form;obtain ⟨sa,sc,rfl⟩:=bP.form;have cL:=Lh bO;have cP:=Lh bP;have HF:=Lh hf;have aR:=cO.o f (Lm hf);have dJ:=In k;have dK:(k:Int)<(fs:Int):=ω;clear bO bP hf;go_upto_region 5 with fail;have cB:ϐ wr wr wr.drew:=AG Br 1;have bA:=Lh (cL.o.ints (cB.mono (by have:=o.o.bel.size;have:=bR.o.size;omega)))
   go_cut [3,11] (λs3 dC wx=>s3=ι (k:Int)/\dC=ι (k:Int)/\Hid (YB wr g (k*4+2) f.L wx))
   case first=>
    go_region_with (first|(go_at_call 114;refine (Kh f.L _ B _ bA.o aR.1).mono ?_;rintro e S ⟨K,N,F3,rfl,M,L,V,q⟩;have cY:=keepD q q2;have dA:=keepD q q3;have aI:=keepD q bI;have G:S.heap[g]?=ς (χ aH 129 (0,0)):=((q.block _ zg).trans o.o.row);have bM:S.frozen? (π g (k*4+2))=ϝ:=(Fz G);have dD:=(La G);have eM:=Bl aI;have cM:=Lh M;have cJ:=Lh L;have cH:=Lh q;clear M L q G))
    all_goals
     go_wp2;go_meet;exact ⟨rfl,rfl,Lh ⟨S,K,N,F3,cB.th cH.o,cM.o,cJ.o,V,rfl⟩⟩
   case rest=>
    obtain ⟨rfl,rfl,aS⟩:=hcut;obtain ⟨S,K,N,F3,q,M,L,V,J⟩:=aS.o;have G:=(q.block _ zg).trans o.o.row;have aD:wc.heap[g]?=ς (χ (aH.setIfInBounds (k*4+2) (σ K f.L N)) 129 (0,0)):=by rw [J];exact ϡ _ _ _ _ _ _ G
    have bE:=Lh aD;have cT:=o.o.ge g ψ;have bJ:ϐ W wr wc:=by rw [J];exact (q.mono ω).setCell cT _
    have cQ:=(bJ.cell (p:=(π w 0)) (show (w:Nat)<(W:Nat) by have:=u.o;omega)).trans bI;have cZ:wc.cell? (π g (k*4+2))=ς (σ K f.L N):=by rw [J];exact World.cell?_setCell_same _ _ _ (AB q q2)
    have dB:wc.cell? (π g (k*4+3))=ς (σ sa f.S sc):=by rw [J,World.cell?_setCell_other _ _ _ _ ψ];exact AB q q3
    have dE:=(La aD)
    have bU:B<=W:=by have:=u.o;omega
    have bG:=@Lh (AE B wc.drew 1 Aj (σ sa f.S sc) f.S) ((cP.o.ints (bJ.mono bU)).ints (AG Br 1));have bK:ϐ wc wc wc.drew:=AG Br 1;obtain ⟨aY,bD,aZ,bB,bS⟩:=Λ5 q M L V J;clear q M L V J G aD aS bJ q2 q3 bI;go_upto_region 6 with fail
    go_region_with (first|(go_at_call 114;refine (Kh f.S _ B _ bG.o aR.2).mono ?_;rintro e w4 ⟨a4,c4,F4,rfl,bW,bV,cV,H⟩;have cY:=keepD H cZ;have dA:=keepD H dB;have aI:=keepD H cQ;have Z:w4.heap[g]?=ς (χ (aH.setIfInBounds (k*4+2) (σ K f.L N)) 129 (0,0)):=((H.block _ dE).trans bE.o);have bM:w4.frozen? (π g (k*4+3))=ϝ:=(Fz Z);have dD:=(La Z);have eN:=Bl aI;have cN:=Lh bW;have cK:=Lh bV;have cI:=Lh H;clear bW bV H Z))
    all_goals
     have bQ:(wc:Nat)=(S:Nat):=by rw [bS.o];simp
     have cX:=Lh (Eu.next HF.o o.o bU aY.o bD.o aZ.o bB.o (w2:=w4) (sv':=σ a4 f.S c4) (by rw [<-bS.o];exact bK.th cI.o) cN.o (λb A=>by have:=cK.o b A;simp at this;omega) cV);have dG:fs.length - (k+1)<gk - 1+0:=ω;clear bQ;go_wp2_with fail
     go_roundg (gk - 1)
     case measure=>omega
     case rel=>exact ⟨k+1,ω,by go_num,ω,Lh ⟨_,_,_,_,cX.o⟩⟩
  .obtain rfl:k=fs.length:=ω
   have cG:=Lh o.o.vown;have bZ:=(o.o.bel.block _ (by have:=u.o;omega)).trans k1.o;have s:=Lh bZ;clear bZ;have x:=λj v Y=>AD s.o j v Y;have dU:=x 0 ν rfl;have eD:=Ψ 0 s.o;have dV:=x 1 (ι 0) rfl;have eE:=Ψ 1 s.o;have dW:=x 2 (ι 0) rfl;have eF:=Ψ 2 s.o;have dX:=x 3 (ι 0) rfl;have eG:=Ψ 3 s.o;have dY:=x 4 (ι 0) rfl;have eH:=Ψ 4 s.o;have dZ:=x 5 (ι 0) rfl;have eI:=Ψ 5 s.o;have eA:=x 6 (ι 0) rfl;have eJ:=Ψ 6 s.o;have eB:=x 7 (ι 0) rfl;have eK:=Ψ 7 s.o;have eC:=x 8 (ι 0) rfl;have eL:=Ψ 8 s.o;have dM:=AD z.o 1 (ι n.K) rfl;have dN:=AD z.o 2 (ι n.O) rfl;have dO:=AD z.o 3 (ι n.D) rfl;have dP:=AD z.o 4 (ι n.V) rfl;have dQ:=AD z.o 5 (ι n.X) rfl;have dR:=AD z.o 6 (ι d) rfl;have dS:=AD z.o 7 (ι a) rfl;have dT:=AD z.o 8 (ι l) rfl;have aJ:=Lh (AZ s.o (σ (ς (π g 0)) fs cap) ⟨fs,n,d,a,l⟩);have bN:=o.o.ge;have aQ:=o.o.bel;have bC:Hid (CE w (σ (ς (π g 0)) fs cap) ⟨fs,n,d,a,l⟩ (Ai wr (w+1) (σ (ς (π g 0)) fs cap) ⟨fs,n,d,a,l⟩)):=Lh ⟨g::F,cG.o.kp (λb A=>aJ.o.2.block b (cG.o.lt b A) (λe=>by
     have X:=bN b A;have h2:=u.o;rw [List.mem_singleton] at e;omega)),λb A=>by
      have X:=bN b A;have h2:=u.o;omega,by
      have X:=(bX.o.trans bR.o).trans (aQ.mono (by have:=u.o;omega));exact X.trans (aJ.o.2.below (λb A=>by simp at A;omega) X.size)⟩
   clear x bN aQ;go_wp2_with fail;have aT:Kq ⟨fs,n,d,a,l⟩ w (.returned (AJ (σ (ς (π g 0)) fs cap) ⟨fs,n,d,a,l⟩)) (Ai wr (w+1) (σ (ς (π g 0)) fs cap) ⟨fs,n,d,a,l⟩):=⟨_,_,rfl,bC.o⟩
   exact ϖ (AL (p:=2) rfl aJ.o.1 _ rfl) rfl aT
structure Ax (c:AQ) (m:AV):Prop where
 sound:AU c
 Y:0<=m.Y/\m.Y<=1048576
 cmp:0<=m.C/\m.C<=1099511627776
 I:0<=m.I/\m.I<=100000
 len:m.J.length<=200
 body:(m.J=[]/\DT m.Q=ϑ)\/(m.J≠[]/\∀ k f,m.J[k]?=ς f->BU c m.J m.Q k f)
def MG (c:AQ) (F:ϒ) (m:AV) (fv:ϒ) (B:Nat) (w:Ϣ) (z:C8 w) (y:B<=w) (q:BF B w F c) (N:AE B w 4 (CK B) fv m.J) (C:Bv c) :
  ϙ prog 128 #[F,AJ fv m] w λe w'=>e=.returned (.bool (pB (Ax c m)))/\ϐ w w w':=by
 obtain ⟨S,T,rfl,O,P,R⟩:=id q;obtain ⟨t,u,rfl⟩:=O.form;obtain ⟨v,x,rfl⟩:=P.form;obtain ⟨D,E,rfl⟩:=N.form;obtain ⟨fs,⟨l,n,d,g,b⟩,i,a,j⟩:=m;unfold AJ AC;dsimp only at *
 by_cases A:AU c/\¬i<0/\¬1048576<i/\¬a<0/\¬1099511627776<a/\¬j<0/\¬100000<j/\¬200<(fs:Int)
 rotate_left
 .rw [Bw (λh=>A ⟨h.sound,by have:=h.Y.1;simp at this;omega,by have:=h.Y.2;simp at this;omega,by have:=h.cmp.1;simp at this;omega,by have:=h.cmp.2;simp at this;omega,by have:=h.I.1;simp at this;omega,by have:=h.I.2;simp at this;omega,by have:=h.len;simp at this;omega⟩)]
  exact TE c fs l n d g b i a j t v D u x E B w z y q A
 obtain ⟨r,G,H,I,J,K,L,Q⟩:=A;by_cases p:fs=[]
 .subst p
  have s:pB (Ax c ⟨[],⟨l,n,d,g,b⟩,i,a,j⟩)=DT ⟨l,n,d,g,b⟩:=by
   cases M:DT ⟨l,n,d,g,b⟩ with
   | true=>exact CP ⟨r,⟨by show 0<=i;omega,by show i<=_;omega⟩,⟨by show 0<=a;omega,by show a<=_;omega⟩,⟨by show 0<=j;omega,by show j<=_;omega⟩,ψ,.inl ⟨rfl,M⟩⟩
   | false=>exact Bw (λh=>by
     rcases h.body with ⟨_,h⟩|⟨h,_⟩
     .rw [M] at h;cases h
     .exact h rfl)
  rw [s];exact Qp c l n d g b i a j t v D u x E B w z y q r G H I J K L
 .have s:pB (Ax c ⟨fs,⟨l,n,d,g,b⟩,i,a,j⟩)=pB (∀ k f,fs[k]?=ς f->BU c fs ⟨l,n,d,g,b⟩ k f):=by
   by_cases o:∀ k f,fs[k]?=ς f->BU c fs ⟨l,n,d,g,b⟩ k f
   .rw [CP o]
    exact CP ⟨r,⟨by show 0<=i;omega,by show i<=_;omega⟩,⟨by show 0<=a;omega,by show a<=_;omega⟩,⟨by show 0<=j;omega,by show j<=_;omega⟩,by show fs.length<=200;omega,.inr ⟨p,o⟩⟩
   .rw [Bw o]
    exact Bw (λh=>by
     rcases h.body with ⟨h,_⟩|⟨_,h⟩
     .exact p h
     .exact o h)
  rw [s];exact Qq c fs l n d g b i a j t v D u x E B w z y q N r C G H I J K L Q (by cases fs with|nil=>exact absurd rfl p|cons _ _=>simp)
def Vg {x:Cd} (h:AP x r=ϑ):Ko x r:=by
 have o:=I6 h;obtain ⟨m,a,k,b,j⟩:=r;unfold AP at h;simp only [Bool.and_eq_true,beq_iff_eq,Bool.not_eq_true',beq_eq_false_iff_ne,ne_eq,Bool.or_eq_true] at h;obtain ⟨⟨⟨⟨⟨s,d⟩,f⟩,q⟩,n⟩,g⟩:=h;subst q n;have l:Aa x.op=2->BP b:=λe=>by
  rcases g with g|⟨_,g⟩
  .rw [g];unfold BP;omega
  .exact Aq.1 g
 have i:Aa x.op≠2->b=0:=λe=>by
  rcases g with g|⟨p,_⟩
  .exact g
  .exact absurd p e
 rcases o with e|e|e|e|e
 .have aA:Aa x.op=1:=by rw [e];rfl
  have c:a=0:=by rw [e] at f;simpa [Ag] using f
  rw [aA] at d;have:=i (by rw [aA];decide);subst d c this;exact .inl ⟨e,rfl⟩
 .have aA:Aa x.op=2:=by rw [e];rfl
  have c:a=0:=by rw [e] at f;simpa [Ag] using f
  rw [aA] at d;have:=l aA;subst d c;exact .inr (.inl ⟨b,e,this,rfl⟩)
 .have aA:Aa x.op=1:=by rw [e];rfl
  have c:1<=a/\a<=1099511627776:=by rw [e] at f;simpa [Ag] using f
  rw [aA] at d;have:=i (by rw [aA];decide);subst d this;exact .inr (.inr (.inl ⟨a,e,c.1,⟨ω,c.2⟩,rfl⟩))
 .have aA:Aa x.op=2:=by rw [e];rfl
  have c:1<=a/\a<=1099511627776:=by rw [e] at f;simpa [Ag] using f
  rw [aA] at d;have:=l aA;subst d;exact .inr (.inr (.inr (.inl ⟨a,b,e,c.1,⟨ω,c.2⟩,this,rfl⟩)))
 .have aA:Aa x.op=3:=by rw [e];rfl
  have c:a=0:=by rw [e] at f;simpa [Ag] using f
  rw [aA] at d;have:=i (by rw [aA];decide);subst d c this;exact .inr (.inr (.inr (.inr ⟨e,rfl⟩)))
def DL.imp {Q:Cd->Prop} (h:DL c f P) (a:∀ x,P x->Q x):DL c f Q:=by
 obtain ⟨y,x,j,b,d,e,g,i⟩:=h;exact ⟨y,x,j,b,d,e,a x g,i⟩
def Oj :∀ (n:Nat) (fs:List AY) (g:AY),fs.length=n->(∀ k f,fs[k]?=ς f->DL c f (λx=>x.op=9/\∃ d,(fs++[g])[k+1]?=ς d/\x.a=d.fn))->Ge c fs.reverse g.fn
 | 0,fs,g,b,_=>by rw [List.eq_nil_of_length_eq_zero b];trivial
 | n+1,fs,g,b,h=>by
  rcases List.eq_nil_or_concat fs with o|⟨j,l,rfl⟩
  .rw [o] at b;simp at b
  .simp only [List.concat_eq_append] at *
   rw [List.reverse_append];simp at b;refine ⟨?_,Oj n j l b (λk f m=>?_)⟩
   .refine (h j.length l ψ).imp (λx e=>⟨e.1,?_⟩)
    obtain ⟨_,d,a,i⟩:=e;rw [Ar ψ] at a;simp at a;subst a;exact i
   .have hk:=(Ll m)
    refine (h k f (by rw [Al hk];exact m)).imp (λx e=>⟨e.1,?_⟩);obtain ⟨_,d,a,i⟩:=e;refine ⟨d,?_,i⟩;rw [Al φ] at a;exact a
def Ax.waits (h:Ax c m) (n:m.Q.K≠4) (o:m.Q.K≠5):∃ fs f,C9 c m m.Q fs f:=by
 rcases h.body with ⟨_,b⟩|⟨j,d⟩
 .unfold DT at b
  rw [if_neg n,if_neg o] at b;cases b
 .rcases List.eq_nil_or_concat m.J with h0|⟨fs,f,hf⟩
  .exact absurd h0 j
  .simp only [List.concat_eq_append] at hf
   have g:m.J.length=fs.length+1:=by rw [hf];simp
   have p:=h.len;refine ⟨fs,f,hf,?_,?_,ω⟩
   .have:=d fs.length f (by rw [hf];simp)
    unfold BU at this;simp only [g] at this;exact this.imp (λx a=>Vg (by simpa using a))
   .refine Oj fs.length fs f rfl (λk l e=>?_)
    have i:=(Ll e)
    have:=d k l (by rw [hf,Al i];exact e);unfold BU at this;refine this.imp (λx a=>?_);rw [if_neg ω,hf] at a;exact a
def Ax.nums (h:Ax c m):EB m:=by
 have b:=h.Y;have d:=h.cmp;have a:=h.I;exact ⟨b.1,a.1,a.2,d.1,by unfold Co;omega⟩
def Ax.K (h:Ax c m):m.Q.K=1\/m.Q.K=2\/m.Q.K=3\/m.Q.K=4\/m.Q.K=5:=by
 by_cases a:m.Q.K=4
 .omega
 by_cases b:m.Q.K=5
 .omega
 obtain ⟨fs,f,e⟩:=h.waits a b;obtain ⟨_,x,_,_,_,_,d,_⟩:=e.top;have:=EW d;omega
def C9.small (hs:AU c) (i:Bv c) (h:C9 c m r fs f):∀ g∈m.J,g.L.length<=100/\g.S.length<=100000:=by
 have n:∀ g P,DL c g P->g.L.length<=100/\g.S.length<=100000:=λg P ⟨y,x,A,d,t,q,_,p,e⟩=>by have u:=DJ (hs.wf d.fn) (hs.snd d.fn) p;have v:=i y (Lm d.fn);have w:=((hs.wf d.fn).pops x (Lm q)).1;have o:=hs.fok d.fn;have z:=d.loc;unfold CX at o;omega
 have j:∀ (l:List AY) (k:Int),Ge c l k->∀ g∈l,g.L.length<=100/\g.S.length<=100000:=by
  intro l;induction l with
  | nil=>intro _ _ g b;simp at b
  | cons a l s=>
   intro k e g b;rw [ϰ] at b;rcases b with rfl|b
   .exact n _ _ e.1
   .exact s _ e.2 g b
 intro g b;rw [h.fr,List.mem_append,List.mem_singleton] at b;rcases b with b|rfl
 .exact j _ _ h.low g (List.mem_reverse.2 b)
 .exact n _ _ h.top
def MM (c:AQ) (m:AV) (n:Int) (w:Ϣ) (e:Ending) (w':Ϣ):Prop:=
 (¬Ax c m/\e=.returned (.tuple #[AJ ν AI,ι 1])/\ϐ w w w')\/
 (Ax c m/\(m.Q.K=4\/m.Q.K=5)/\e=.returned (.tuple #[AJ ν AI,ι 13])/\ϐ w w w')\/
 (Ax c m/\¬(m.Q.K=4\/m.Q.K=5)/\Bj m.Q n=ϝ/\e=.returned (.tuple #[AJ ν AI,ι 2])/\ϐ w w w')\/
 (Ax c m/\¬(m.Q.K=4\/m.Q.K=5)/\Bj m.Q n=ϑ/\∃ m' fv,ED c m n m'/\e=.returned (.tuple #[AJ fv m',ι 0])/\CE w fv m' w')
def Rc (hs:AU c) (h:Bv c) (l j:Option Addr) (p o k:Nat) (g n:Int) (d:C9 c m m.Q fs f) (a:EB m) (s:Ak w bm m F)
  (B:Nat) (r:∀ b∈F,B<=b) (e:AE B w 5 (CW B) (σ j c.funcs k) c.funcs) (q:Bj m.Q n=ϑ) :
  ϙ prog 116 #[.agg #[σ l p o,ι g,σ j c.funcs k],.pointer (ς (π bm 0)),ι n] w (EJ c m n bm F w):=by
 obtain ⟨_,x,_,_,_,_,u,_⟩:=d.top;unfold Bj at q;rcases EW u with i|i|i
 .rw [if_pos i] at q
  exact QK hs h l j p o k g n d a s B r e i (Aq.1 q)
 .exact Vy hs h l j p o k g n d a s B r e i
 .rw [if_neg ω,if_pos i] at q
  have v:BP n:=by simp at q;unfold BP;omega
  by_cases t:n=0
  .exact UO hs h l j p o k g n d a s B r e i t
  .exact QL hs h l j p o k g n d a s B r e i v t
def TP (c:AQ) (cv:ϒ) (m:AV) (fv:ϒ) (n:Int) (B:Nat) (w:Ϣ) (hL:C8 w) (X:B<=w) (hc:BF B w cv c) (hm:AE B w 4 (CK B) fv m.J) (T:Bv c) :
  ϙ prog 104 #[cv,AJ fv m,ι n] w (MM c m n w):=by
 have HC:=Lh hc;have HM:=Lh hm;have HL:=Lh hL;obtain ⟨cf,cg,rfl,cI,bU,bW⟩:=hc;obtain ⟨fa,fc,rfl⟩:=cI.form;have HG:=Lh bU;obtain ⟨ga,gc,rfl⟩:=bU.form;obtain ⟨G,H,rfl⟩:=hm.form;obtain ⟨fs,⟨i,l,g,h,d⟩,o,a,q⟩:=m;dsimp only at HM;unfold AJ AC;dsimp only;obtain ⟨W,L⟩:=ε (((w.alloc (χ (Bc fa fc ga gc c) 25)).alloc (χ #[σ G fs H,ι i,ι l,ι g,ι h,ι d,ι o,ι a,ι q] 51)).alloc (χ #[ν,ι 0,ι 0,ι 0,ι 0,ι 0,ι 0,ι 0,ι 0] 51));have aX:=Lh (bl3 L);have cA:=Lh (sz3 L);have b0:=Lh (ce31 L);have E:Hid (W.heap[(w:Nat)+1]?=ς (χ (AC (σ G fs H) ⟨fs,⟨i,l,g,h,d⟩,o,a,q⟩) 51 (0,0))):=by rw [L,Ha _ _ _ ψ];have:=Hn (w.alloc (χ (Bc fa fc ga gc c) 25)) (χ #[σ G fs H,ι i,ι l,ι g,ι h,ι d,ι o,ι a,ι q] 51);exact Lh (by simpa [AC] using this)
 have b2:=Lh (ro33 L);obtain ⟨F,i1,i2⟩:=Γ3 b0.o;have m0:=AD E.o 0 (σ G fs H) rfl;have m1:=AD E.o 1 (ι i) rfl;have m2:=AD E.o 2 (ι l) rfl;have m3:=AD E.o 3 (ι g) rfl;have m4:=AD E.o 4 (ι h) rfl;have t:=AD E.o 5 (ι d) rfl;have m6:=AD E.o 6 (ι o) rfl;have m7:=AD E.o 7 (ι a) rfl;have m8:=AD E.o 8 (ι q) rfl;have z1:(w:Nat)+1<W:=by have:=cA.o;omega
 have cR:B<=W:=ω;have cK:=Lh (HC.o.below (aX.o.mono X));have cM:=Lh (HM.o.fras (aX.o.mono X));clear cI bU hm hL bW;go_enter func104,ntmps104;go_upto_region 1 with fail;rw [<-L];have HW:=Lh L;clear L;go_wp2_with fail;refine (MG c _ ⟨fs,⟨i,l,g,h,d⟩,o,a,q⟩ _ B W (HL.o.below aX.o) cR cK.o cM.o T).mono ?_;rintro e I ⟨rfl,U⟩;obtain ⟨F,i1,i2,m0,m1,m2,m3,m4,t⟩:=Δ9 U F i1 i2 m0 m1 m2 m3 m4 t;obtain ⟨m6,m7,m8⟩:=Δ3 U m6 m7 m8;have z1:=Bl m0;have N:=Lh (aX.o.th U);have r:=@Lh (I.heap[(w:Nat)+1+1]?=ς (χ #[ν,ι 0,ι 0,ι 0,ι 0,ι 0,ι 0,ι 0,ι 0] 51 (0,0))) (by rw [U.block _ (by have:=cA.o;omega)];exact b2.o);have e1:=@Lh (I.heap[(w:Nat)+1]?=ς (χ (AC (σ G fs H) ⟨fs,⟨i,l,g,h,d⟩,o,a,q⟩) 51 (0,0))) (by rw [U.block _ (by have:=cA.o;omega)];exact E.o);clear U;by_cases z:Ax c ⟨fs,⟨i,l,g,h,d⟩,o,a,q⟩;rotate_left
 .rw [Bw z]
  have k:∀ (j:Nat) (v:ϒ),(#[ν,ι 0,ι 0,ι 0,ι 0,ι 0,ι 0,ι 0,ι 0]:Array ϒ)[j]?=ς v->I.cell? (π (w+1+1) j)=ς v:=λj v z=>by rw [cell_of_row _ _ _ _ _ _ r.o];exact z
  have aZ:=k 0 ν rfl;have bI:=Ψ 0 r.o;have bA:=k 1 (ι 0) rfl;have bJ:=Ψ 1 r.o;have bB:=k 2 (ι 0) rfl;have bK:=Ψ 2 r.o;have bC:=k 3 (ι 0) rfl;have bL:=Ψ 3 r.o;have bD:=k 4 (ι 0) rfl;have bM:=Ψ 4 r.o;have bE:=k 5 (ι 0) rfl;have bN:=Ψ 5 r.o;have bF:=k 6 (ι 0) rfl;have bO:=Ψ 6 r.o;have bG:=k 7 (ι 0) rfl;have bP:=Ψ 7 r.o;have bH:=k 8 (ι 0) rfl;have bQ:=Ψ 8 r.o;clear k;have y:=Lh (AZ (R:=(w:Nat)+1+1) (fv0:=ν) (m0:=AI) r.o ν AI);have O:=@Lh (ϐ w w (Ai I (w+1+1) ν AI)) (N.o.trans (y.o.2.below (λb s=>by simp at s;omega) N.o.size));go_wp2;exact ϖ (Bp rfl y.o.1 _ _ rfl rfl) rfl (.inl ⟨z,rfl,O.o⟩)
 rw [CP z];have J:=Lh z;clear z;by_cases M:i=4\/i=5
 .have Y:=Lh M
  rcases M with M|M
  .subst M
   have k:∀ (j:Nat) (v:ϒ),(#[ν,ι 0,ι 0,ι 0,ι 0,ι 0,ι 0,ι 0,ι 0]:Array ϒ)[j]?=ς v->I.cell? (π (w+1+1) j)=ς v:=λj v z=>by rw [cell_of_row _ _ _ _ _ _ r.o];exact z
   have aZ:=k 0 ν rfl;have bI:=Ψ 0 r.o;have bA:=k 1 (ι 0) rfl;have bJ:=Ψ 1 r.o;have bB:=k 2 (ι 0) rfl;have bK:=Ψ 2 r.o;have bC:=k 3 (ι 0) rfl;have bL:=Ψ 3 r.o;have bD:=k 4 (ι 0) rfl;have bM:=Ψ 4 r.o;have bE:=k 5 (ι 0) rfl;have bN:=Ψ 5 r.o;have bF:=k 6 (ι 0) rfl;have bO:=Ψ 6 r.o;have bG:=k 7 (ι 0) rfl;have bP:=Ψ 7 r.o;have bH:=k 8 (ι 0) rfl;have bQ:=Ψ 8 r.o;clear k;have y:=Lh (AZ (R:=(w:Nat)+1+1) (fv0:=ν) (m0:=AI) r.o ν AI);have O:=@Lh (ϐ w w (Ai I (w+1+1) ν AI)) (N.o.trans (y.o.2.below (λb s=>by simp at s;omega) N.o.size));go_wp2;exact ϖ (Bp rfl y.o.1 _ _ rfl rfl) rfl (.inr (.inl ⟨J.o,.inl rfl,rfl,O.o⟩))
  .subst M
   have k:∀ (j:Nat) (v:ϒ),(#[ν,ι 0,ι 0,ι 0,ι 0,ι 0,ι 0,ι 0,ι 0]:Array ϒ)[j]?=ς v->I.cell? (π (w+1+1) j)=ς v:=λj v z=>by rw [cell_of_row _ _ _ _ _ _ r.o];exact z
   have aZ:=k 0 ν rfl;have bI:=Ψ 0 r.o;have bA:=k 1 (ι 0) rfl;have bJ:=Ψ 1 r.o;have bB:=k 2 (ι 0) rfl;have bK:=Ψ 2 r.o;have bC:=k 3 (ι 0) rfl;have bL:=Ψ 3 r.o;have bD:=k 4 (ι 0) rfl;have bM:=Ψ 4 r.o;have bE:=k 5 (ι 0) rfl;have bN:=Ψ 5 r.o;have bF:=k 6 (ι 0) rfl;have bO:=Ψ 6 r.o;have bG:=k 7 (ι 0) rfl;have bP:=Ψ 7 r.o;have bH:=k 8 (ι 0) rfl;have bQ:=Ψ 8 r.o;clear k;have y:=Lh (AZ (R:=(w:Nat)+1+1) (fv0:=ν) (m0:=AI) r.o ν AI);have O:=@Lh (ϐ w w (Ai I (w+1+1) ν AI)) (N.o.trans (y.o.2.below (λb s=>by simp at s;omega) N.o.size));go_wp2;exact ϖ (Bp rfl y.o.1 _ _ rfl rfl) rfl (.inr (.inl ⟨J.o,.inr rfl,rfl,O.o⟩))
 have Y:=Lh M;have dG:=ξ i 4;have dH:=ξ i 5;clear M;go_wp2_with fail;refine (Pk ⟨i,l,g,h,d⟩ n I).mono ?_;rintro e w2 ⟨rfl,V⟩;obtain ⟨F,i1,i2,m0,m1,m2,m3,m4,t⟩:=Δ9 V F i1 i2 m0 m1 m2 m3 m4 t;have m6:=Δ3 V m6 m7 m8;have z1:=Bl m0;have aN:=Lh (N.o.th V);have A:=@Lh (w2.heap[(w:Nat)+1+1]?=ς (χ #[ν,ι 0,ι 0,ι 0,ι 0,ι 0,ι 0,ι 0,ι 0] 51 (0,0))) (by rw [V.block _ (La r.o)];exact r.o);have e2:=@Lh (w2.heap[(w:Nat)+1]?=ς (χ (AC (σ G fs H) ⟨fs,⟨i,l,g,h,d⟩,o,a,q⟩) 51 (0,0))) (by rw [V.block _ (La e1.o)];exact e1.o);clear V;cases ha:Bj ⟨i,l,g,h,d⟩ n with
 | false=>
  have HA:=Lh ha;clear ha;have k:∀ (j:Nat) (v:ϒ),(#[ν,ι 0,ι 0,ι 0,ι 0,ι 0,ι 0,ι 0,ι 0]:Array ϒ)[j]?=ς v->w2.cell? (π (w+1+1) j)=ς v:=λj v z=>by rw [cell_of_row _ _ _ _ _ _ A.o];exact z
  have aZ:=k 0 ν rfl;have bI:=Ψ 0 A.o;have bA:=k 1 (ι 0) rfl;have bJ:=Ψ 1 A.o;have bB:=k 2 (ι 0) rfl;have bK:=Ψ 2 A.o;have bC:=k 3 (ι 0) rfl;have bL:=Ψ 3 A.o;have bD:=k 4 (ι 0) rfl;have bM:=Ψ 4 A.o;have bE:=k 5 (ι 0) rfl;have bN:=Ψ 5 A.o;have bF:=k 6 (ι 0) rfl;have bO:=Ψ 6 A.o;have bG:=k 7 (ι 0) rfl;have bP:=Ψ 7 A.o;have bH:=k 8 (ι 0) rfl;have bQ:=Ψ 8 A.o;clear k;have y:=Lh (AZ (R:=(w:Nat)+1+1) (fv0:=ν) (m0:=AI) A.o ν AI);have O:=@Lh (ϐ w w (Ai w2 (w+1+1) ν AI)) (aN.o.trans (y.o.2.below (λb s=>by simp at s;omega) aN.o.size));go_wp2;exact ϖ (Bp rfl y.o.1 _ _ rfl rfl) rfl (.inr (.inr (.inl ⟨J.o,Y.o,HA.o,rfl,O.o⟩)))
 | true=>
 have HA:=Lh ha;clear ha;have hs:=J.o.sound;obtain ⟨dE,f0,aY⟩:=J.o.waits (λe=>Y.o (.inl e)) (λe=>Y.o (.inr e));have cO:=Lh aY;have bZ:=Lh (aY.small hs T);have bY:fs.length<=200:=J.o.len;have cU:0<fs.length:=by have:=congrArg List.length aY.fr;simp at this;omega
 have cL:=Lh (HM.o.fras (aN.o.mono X));have cP:=Nt X aN.o.size;clear aY;go_wp2_with fail;refine (OM ⟨fs,⟨i,l,g,h,d⟩,o,a,q⟩ G H B w2 cP cL.o (by show fs.length<=1000;omega) (λf hf=>by have:=bZ.o f hf;omega) cU).mono ?_;rintro e w3 ⟨ca,cc,rfl,F3,cB,aM,Z⟩;dsimp only at cB;have cE:=Lh cB;have aO:=Lh aM;have cC:=Lh (aN.o.th Z);have F:=Δ3 Z F i1 i2;have r3:=@Lh (w3.heap[(w:Nat)+1+1]?=ς (χ #[ν,ι 0,ι 0,ι 0,ι 0,ι 0,ι 0,ι 0,ι 0] 51 (0,0))) (by rw [Z.block _ (La A.o)];exact A.o);have x:=@Lh (w3.heap[(w:Nat)+1]?=ς (χ (AC (σ G fs H) ⟨fs,⟨i,l,g,h,d⟩,o,a,q⟩) 51 (0,0))) (by rw [Z.block _ (La e2.o)];exact e2.o);have dI:=(La A.o)
 have m0:=AD x.o 0 (σ G fs H) rfl;have m1:=AD x.o 1 (ι i) rfl;have m2:=AD x.o 2 (ι l) rfl;have m3:=AD x.o 3 (ι g) rfl;have m4:=AD x.o 4 (ι h) rfl;have t:=AD x.o 5 (ι d) rfl;have m6:=AD x.o 6 (ι o) rfl;have m7:=AD x.o 7 (ι a) rfl;have m8:=AD x.o 8 (ι q) rfl;have cV:=Ψ 0 x.o;have cW:=Ψ 1 x.o;have cX:=Ψ 2 x.o;have cY:=Ψ 3 x.o;have cZ:=Ψ 4 x.o;have dA:=Ψ 5 x.o;have dB:=Ψ 6 x.o;have dC:=Ψ 7 x.o;have dD:=Ψ 8 x.o;have z1:=Bl m0;have K:=Lh (AZ x.o (σ ca fs cc) ⟨fs,⟨i,l,g,h,d⟩,o,a,q⟩);obtain ⟨W4,aR⟩:=ε (Ai w3 (w+1) (σ ca fs cc) ⟨fs,⟨i,l,g,h,d⟩,o,a,q⟩);rw [<-aR] at K;have aK:(w:Nat)+1∉F3:=λe=>by have:=aM _ e;omega
 have cQ:=Lh (Ab.2 ⟨_,F3,K.o.1,cE.o.kp (λb s=>K.o.2.block b (cE.o.lt b s) (λe=>aK (by rw [List.mem_singleton] at e;exact e▸s))),rfl,aK⟩);have aW:=@Lh (ϐ w w W4) (cC.o.trans (K.o.2.below (λb s=>by simp at s;omega) cC.o.size));have r4:=@Lh (W4.heap[(w:Nat)+1+1]?=ς (χ #[ν,ι 0,ι 0,ι 0,ι 0,ι 0,ι 0,ι 0,ι 0] 51 (0,0))) (by rw [K.o.2.block _ (La r3.o) ψ];exact r3.o);have j0:=K.o.2.cell F.1 ψ;have j1:=K.o.2.cell F.2.1 ψ;have j2:=K.o.2.cell F.2.2 ψ;have bV:=Lh (HG.o.funs (aW.o.mono X));have bX:Hid (∀ b∈((w:Nat)+1)::F3,(w:Nat)<=b):=Lh (λb s=>by
  rw [ϰ] at s;rcases s with rfl|s
  .omega
  .have:=aO.o b s;omega)
 have cS:=Lh (λb s=>Nt X (bX.o b s));have cH:(w:Nat)+1+1∉((w:Nat)+1)::F3:=λe=>by
  rw [ϰ] at e;rcases e with e|e
  .omega
  .have:=aO.o _ e;omega
 have cD:=Lh cH;unfold Ai at aR;dsimp only at aR;unfold AJ AC;dsimp only;clear cB aM Z aK cH bY;go_upto_region 8 with fail;rw [<-aR];clear aR;go_wp2_with fail;refine (Rc hs T fa ga c.H.length fc gc c.G n cO.o J.o.nums cQ.o B cS.o bV.o HA.o).mono ?_;rintro e w5 ⟨rfl,t,F5,cF,cG,aP⟩;obtain ⟨dF,cJ,C,aV,bT,cT⟩:=Ab.1 cG;obtain ⟨P,Q,rfl⟩:=aV.form;obtain ⟨S,aS⟩:=ε t.J.length;rw [<-aS] at C aV;clear aS;have D:=@Lh (w5.heap[(w:Nat)+1+1]?=ς (χ #[ν,ι 0,ι 0,ι 0,ι 0,ι 0,ι 0,ι 0,ι 0] 51 (0,0))) (by rw [aP.block _ (La r4.o) cD.o];exact r4.o);have k:∀ (j:Nat) (v:ϒ),(#[ν,ι 0,ι 0,ι 0,ι 0,ι 0,ι 0,ι 0,ι 0]:Array ϒ)[j]?=ς v->w5.cell? (π (w+1+1) j)=ς v:=λj v z=>by rw [cell_of_row _ _ _ _ _ _ D.o];exact z
 have aZ:=k 0 ν rfl;have bI:=Ψ 0 D.o;have bA:=k 1 (ι 0) rfl;have bJ:=Ψ 1 D.o;have bB:=k 2 (ι 0) rfl;have bK:=Ψ 2 D.o;have bC:=k 3 (ι 0) rfl;have bL:=Ψ 3 D.o;have bD:=k 4 (ι 0) rfl;have bM:=Ψ 4 D.o;have bE:=k 5 (ι 0) rfl;have bN:=Ψ 5 D.o;have bF:=k 6 (ι 0) rfl;have bO:=Ψ 6 D.o;have bG:=k 7 (ι 0) rfl;have bP:=Ψ 7 D.o;have bH:=k 8 (ι 0) rfl;have bQ:=Ψ 8 D.o;clear k;have dJ:=AD C 0 (σ P S Q) rfl;have dK:=AD C 1 (ι t.Q.K) rfl;have dL:=AD C 2 (ι t.Q.O) rfl;have dM:=AD C 3 (ι t.Q.D) rfl;have dN:=AD C 4 (ι t.Q.V) rfl;have dO:=AD C 5 (ι t.Q.X) rfl;have dP:=AD C 6 (ι t.Y) rfl;have dQ:=AD C 7 (ι t.C) rfl;have dR:=AD C 8 (ι t.I) rfl;have y:=Lh (AZ (R:=(w:Nat)+1+1) (fv0:=ν) (m0:=AI) D.o (σ P S Q) t);have aQ:=aP.notin (La r4.o) cD.o;have aT:=aP.ge bX.o aW.o.size;have bS:=aW.o.trans (aP.below bX.o aW.o.size);have bR:Hid (CE w (σ P S Q) t (Ai w5 (w+1+1) (σ P S Q) t)):=Lh ⟨cJ,aV.kp (λb s=>y.o.2.block b (aV.lt b s) (λe=>aQ (by rw [List.mem_singleton] at e;rw [bT];exact List.mem_cons_of_mem _ (e▸s)))),λb s=>aT b (by rw [bT];exact List.mem_cons_of_mem _ s),bS.trans (y.o.2.below (λb s=>by simp at s;omega) bS.size)⟩;have cN:=Lh cF;clear C aV cG aP cF aT bS aQ bT cT;go_wp2_with fail;have aU:MM c ⟨fs,⟨i,l,g,h,d⟩,o,a,q⟩ n w (.returned (.tuple #[AJ (σ P S Q) t,ι 0])) (Ai w5 (w+1+1) (σ P S Q) t):=.inr (.inr (.inr ⟨J.o,Y.o,HA.o,t,_,cN.o,rfl,bR.o⟩));exact ϖ (v:=.tuple #[AJ (σ P S Q) t,ι 0]) (Bp (p:=6) (u:=7) rfl y.o.1 _ _ rfl rfl) rfl aU
def BS (c:AQ) (n:Gl):Bool:=if n.type<0 then ϑ else match c.H[n.type.toNat]? with|none=>ϑ|some k=>if (n.f:Int)≠k then ϑ else n.f.any (λn=>!Af n)
def Bb (c:AQ) (m:Mm):Bool:=decide ((m.G:Int)=c.G) && (decide (m.N.length<=4096) && (!(m.G.any (λn=>!Af n)) && !(m.N.any (BS c))))
structure PT where
 K:Int
 O:Int
 D:Int
structure MB where
 M:Mm
 log:List PT
 N:Int
def Nm (x:Gl) (i:Nat) (v:Int):Gl:={ x with f:=x.f.set i v }
def Bd (m:Mm) (r:Rq):List Int:=if (m.N:Int)<r.O then [] else if 0<r.O then ((m.N[(r.O - 1).toNat]?).map (·.f)).getD [] else m.G
def putM (m:Mm) (r:Rq):Mm:=if r.K≠2 then m else if 0<r.O then { m with N:=m.N.modify (r.O - 1).toNat (λx=>Nm x r.D.toNat r.V) } else { m with G:=m.G.set r.D.toNat r.V }
def Ka (c:AQ) (p:MB) (r:Rq):Option (MB×Int):=
 if r.K=3 then
  (if p.M.N.length<4096 then ς (⟨{ p.M with N:=p.M.N++[⟨r.D,ϱ (c.H.getD r.D.toNat 0).toNat 0⟩] },p.log++[⟨3,(p.M.N:Int)+1,r.D⟩],p.N+1⟩,(p.M.N:Int)+1) else ς (p,0))
 else if ((Bd p.M r).length:Int)<=r.D then none
 else ς (⟨putM p.M r,p.log++[⟨r.K,r.O,r.D⟩],p.N+(if 0<r.O then 1 else 0)⟩,if r.K=2 then r.V else (Bd p.M r).getD r.D.toNat 0)
def M7 (c:AQ) (x:Gl):Prop:=0<=x.type/\c.H[x.type.toNat]?=ς (x.f:Int)/\∀ n∈x.f,BP n
structure Dp (c:AQ) (m:Mm):Prop where
 gl:(m.G:Int)=c.G
 gv:∀ n∈m.G,BP n
 len:m.N.length<=4096
 N:∀ x∈m.N,M7 c x
def NC :l.any (λn=>!Af n)=ϝ↔∀ n∈l,BP n:=by
 rw [List.any_eq_false];exact ⟨λh n a=>by have:=h n a;simp at this;exact Aq.1 this,λh n a=>by rw [Aq.2 (h n a)];simp⟩
def KE {x:Gl}:BS c x=ϝ↔M7 c x:=by
 unfold BS M7;by_cases h:x.type<0
 .rw [if_pos h];constructor
  .intro h;cases h
  .intro a;omega
 rw [if_neg h];cases d:c.H[x.type.toNat]? with
 | none=>simp
 | some k=>
  simp only [];by_cases b:(x.f:Int)=k
  .rw [if_neg (by simp [b]),NC]
   exact ⟨λa=>⟨ω,by rw [b],a⟩,λa=>a.2.2⟩
  .rw [if_pos b]
   exact ⟨λh=>(by cases h),λa=>absurd (by simpa using a.2.1.symm) b⟩
def Ik {m:Mm}:Bb c m=ϑ↔Dp c m:=by
 unfold Bb;simp only [Bool.and_eq_true,decide_eq_true_eq,Bool.not_eq_true'];rw [NC];have g:m.N.any (BS c)=ϝ↔∀ x∈m.N,M7 c x:=by rw [List.any_eq_false];exact ⟨λh x f=>KE.1 (by have:=h x f;simpa using this),λh x f=>by rw [KE.2 (h x f)];simp⟩
 rw [g];exact ⟨λ⟨a,b,d,e⟩=>⟨a,d,b,e⟩,λh=>⟨h.gl,h.len,h.gv,h.N⟩⟩
inductive EK (m:AV):KM->Prop
 | go (m1:AV):EK m (.go m1)
 | stop (r:Rq) (m1:AV):m1.Y=m.Y/\m1.I=m.I+1->EK m (.stop r m1)
 | junk (r:Rq) (m1:AV):r.K=5->EK m (.stop r m1)
def EK.ite {p:Prop} [Decidable p] {a b:KM} (c:EK m a) (d:EK m b):EK m (if p then a else b):=by split<;>assumption
def Qh (c:AQ) (m:AV) (fs:List AY) (f:AY) (y:BK) (x:Cd):EK m (Df c m fs f y x):=by
 unfold Df;simp only []
 repeat' apply EK.ite
 all_goals first|exact .go _|exact .stop _ _ ⟨rfl,rfl⟩|skip
 .cases Dt c x.a with
  | none=>exact .junk _ _ rfl
  | some z=>
   simp only [];apply EK.ite
   .exact .go _
   .exact .stop _ _ ⟨rfl,rfl⟩
 .cases fs.getLast? with
  | none=>exact .stop _ _ ⟨rfl,rfl⟩
  | some z=>exact .go _
def Sy (hs:AU c) (h:Dr c m fs f) (a:stepP c m=.stop r m1) (d:r.K≠5):Co m1<Co m:=by
 by_cases b:100000<=m.I
 .unfold stepP at a
  rw [if_pos b] at a;cases a;exact absurd rfl d
 have b:m.I<100000:=ω;obtain ⟨y,x,g,n,i,l,j⟩:=h.at_ hs;rw [h.stepP g.fn i b] at a;have e:EK m (.stop r m1):=by rw [<-a];exact Qh c m fs f y x
 cases e with
 | stop _ _ k=>unfold Co;omega
 | junk _ _ k=>exact absurd k d
def Us (hs:AU c) (h:Cf c m m'):∀ fs f,Dr c m fs f->m'.Q.K≠5->Co m'<Co m:=by
 induction h with
 | stop a=>intro fs f b d;rename_i m r m1;show Co m1<Co m;exact Sy hs b a d
 | go a _ j=>intro fs f b d;have:=GA hs b;rw [a] at this;obtain ⟨⟨e,i,g⟩,k⟩:=this;have:=j e i g d;omega
def mu (m:AV):Nat:=(Co m).toNat*2+(if m.Q.K=4\/m.Q.K=5 then 0 else 1)
def DQ.pot0 (h:DQ c m):0<=Co m:=by
 have a:=h.1.Y;have b:=h.1.idle1;unfold Co;omega
def IR (hs:AU c) (h:DQ c m) (q:m.Q.K≠4) (r:m.Q.K≠5) (i:Bj m.Q n=ϑ) (z:ED c m n m'):(DQ c m'\/(m'.J=[]/\m'.Q=Ah 21/\EB m'))/\mu m'<mu m:=by
 have D:=h.pot0;obtain ⟨d,y⟩:=h;have p:mu m=(Co m).toNat*2+1:=by unfold mu;rw [if_neg (λe=>e.elim q r)]
 obtain ⟨fs,f,o⟩:∃ fs f,C9 c m m.Q fs f:=by
  rcases y with ⟨e,_,a,_⟩|⟨v,_,a,_⟩|h
  .exact absurd (by rw [a];rfl) r
  .exact absurd (by rw [a];rfl) q
  .exact h
 have g:∀ l j k,Dr c l j k->Co l=Co m->Cf c l m'->(DQ c m'\/(m'.J=[]/\m'.Q=Ah 21/\EB m'))/\mu m'<mu m:=λl j k t F a=>by
  obtain ⟨s,B⟩:=Md hs a j k t;refine ⟨.inl s,?_⟩;have E:=s.pot0;rw [p];unfold mu;split
  .omega
  .rename_i b
   have:=Us hs a j k t ω;omega
 rcases z with ⟨b,C,rfl⟩|⟨b,u,x,w,a⟩|⟨b,a⟩
 .refine ⟨.inr ⟨rfl,rfl,⟨d.Y,d.idle0,d.idle1,d.cmp0,d.potle⟩⟩,?_⟩
  rw [p];unfold mu;rw [if_pos (by simp [Ah])];show (Co m).toNat*2+0<_;omega
 .have aD:u=fs/\x=f:=by have:=w.symm.trans o.fr;simpa using List.append_inj' this rfl
  obtain ⟨rfl,rfl⟩:=aD;have A:BP n:=by
   unfold Bj at i;rcases b with b|⟨b,_⟩
   .rw [if_pos b] at i;exact Aq.1 i
   .rw [if_neg ω,if_pos b] at i;simp at i;unfold BP;omega
  exact g _ _ _ (o.push d ω n A Eg) rfl a
 .exact g _ _ _ (o.goOn d b Eg) rfl a
def Xc (d:Int) (m:AV):AV:={ m with Y:=m.Y+d }
def addO (d:Int):KM->KM
 | .go m=>.go (Xc d m)
 | .stop r m=>.stop r (Xc d m)
def Ri {e:AV} (h:ED c m n m1) (b:ED c m n e):m1=e:=by
 rcases h with ⟨d,a,rfl⟩|⟨d,fs,f,a,g⟩|⟨d,a⟩
 .rcases b with ⟨b1,b2,rfl⟩|⟨b1,_⟩|⟨b1,_⟩
  .rfl
  .omega
  .omega
 .rcases b with ⟨b1,b2,rfl⟩|⟨b1,aB,f',b2,b3⟩|⟨b1,_⟩
  .omega
  .have he:=a.symm.trans b2
   obtain ⟨rfl,i⟩:=List.append_inj' he rfl;cases i;exact Kb g b3
  .omega
 .rcases b with ⟨b1,b2,rfl⟩|⟨b1,_⟩|⟨b1,b2⟩
  .omega
  .omega
  .exact Kb a b2
def VP (c:AQ) (f:BK) (hs:List Int) (i:Nat):Bool:=match f.code[i]?,hs[i]? with
 | some x,some h=>decide (AM c f x<=h) && ((decide (x.op≠10) || decide (h=AM c f x)) && (Am x i).all (λk=>decide (k<f.code.length) && decide (hs[k]?=ς (h - AM c f x+AK c f x))))
 | _,_=>ϝ
def Ro {f:BK} (hs:List Int) (q:hs[0]?=ς 0) (r:0<f.code.length) (d:∀ i,i<f.code.length->VP c f hs i=ϑ):CQ c f:=by
 have o:∀ i n,Reach c f i n->i<f.code.length/\hs[i]?=ς n:=λi n h=>by refine h (λi n=>i<f.code.length/\hs[i]?=ς n) ⟨r,q⟩ ?_;rintro i n x k ⟨g,j⟩ l p;have:=d i g;unfold VP at this;rw [l,j] at this;simp only [Bool.and_eq_true,decide_eq_true_eq,List.all_eq_true] at this;exact this.2.2 k p
 refine ⟨λi n h=>?_,λi n m g j=>?_⟩
 .obtain ⟨g,j⟩:=o i n h
  have:=d i g;unfold VP at this;obtain ⟨x,l⟩:∃ x,f.code[i]?=ς x:=⟨_,Lg g⟩
  rw [l,j] at this;simp only [Bool.and_eq_true,Bool.or_eq_true,decide_eq_true_eq,List.all_eq_true] at this;refine ⟨x,l,this.1,λe=>?_,λk p=>(this.2.2 k p).1⟩;rcases this.2.1 with h|h
  .exact absurd e h
  .exact Int.le_of_eq h
 .have a:=(o i n g).2
  have b:=(o i m j).2;rw [a] at b;exact Option.some.inj b
def Nn (hs:AU c) {fuel:Int} (h:AS c x fuel=0) (p:Cf c (CF c x fuel) m):DQ c m/\mu m<=300000000000:=by
 obtain ⟨fs,f,o,q⟩:∃ fs f,Dr c (CF c x fuel) fs f/\Co (CF c x fuel)<=110000000000:=by
  unfold AS at h;by_cases d:fuel<0\/1048576<fuel
  .rw [if_pos d] at h;omega
  rw [if_neg d] at h;cases b:c.funcs[(Dh c x.proc).toNat]? with
  | none=>rw [b] at h;simp at h
  | some y=>
   rw [b] at h;simp only [] at h;by_cases g:Dh c x.proc<0
   .rw [if_pos g] at h;omega
   rw [if_neg g] at h;by_cases i:(x.args:Int)=y.params;rotate_left
   .rw [if_pos i] at h;omega
   rw [if_neg (by simp [i])] at h;cases j:x.args.any (λn=>!Af n) with
   | true=>rw [j] at h;simp at h
   | false=>
    have k:=hs.fok b;unfold CX at k;have e:CF c x fuel=⟨[⟨Dh c x.proc,0,x.args++ϱ (y.L - y.params).toNat 0,[]⟩],⟨0,0,0,0,0⟩,fuel,0,0⟩:=by unfold CF;rw [b];rfl
    rw [e];refine ⟨[],_,⟨rfl,⟨y,⟨by show 0<=Dh c x.proc;omega,b,by show (0:Int)<=0;omega,by show ((x.args++ϱ (y.L - y.params).toNat 0).length:Int)=y.L;rw [List.length_append,List.length_replicate];omega,λn a=>?_,ψ⟩,Reach.zero c y⟩,trivial,ψ,⟨by show 0<=fuel;omega,by show (0:Int)<=0;omega,by show (0:Int)<=100000;omega,by show (0:Int)<=0;omega,by show (0:Int)+(fuel*100001+(100000 - 0))<=_;omega⟩⟩,by show fuel*100001+(100000 - 0)<=_;omega⟩;simp only [List.mem_append,List.mem_replicate] at a;rcases a with a|a
    .exact NC.1 j n a
    .rw [a.2];unfold BP;omega
 obtain ⟨l,d⟩:=Md hs p fs f o;refine ⟨l,?_⟩;unfold mu;split<;>omega
structure Fy (c:AQ) (r:Rq):Prop where
 K:r.K=1\/r.K=2\/r.K=3
 D:0<=r.D
 field2:r.D<=100
 O:0<=r.O
 nodeV:BP r.O
 V:BP r.V
 alloc:r.K=3->∃ n,c.H[r.D.toNat]?=ς n/\0<=n/\n<=12
def C9.Q (hs:AU c) (h:C9 c m r fs f):Fy c r:=by
 obtain ⟨y,x,_,k,_,l,j,_⟩:=h.top;have a:=fun {n:Int} hn=>hs.lim (n:=n) k.fn l hn;have z:BP 0:=by unfold BP;omega
 have p:=hs.1.2.2.2.1;have o:=hs.1.1;rcases j with ⟨b,rfl⟩|⟨v,b,e,rfl⟩|⟨n,b,i,d,rfl⟩|⟨n,v,b,i,d,e,rfl⟩|⟨b,rfl⟩
 .have:=a (n:=c.G) (by rw [b];rfl)
  exact ⟨ψ,this.1,by show x.a<=100;omega,ψ,z,z,ψ⟩
 .have:=a (n:=c.G) (by rw [b];rfl)
  exact ⟨ψ,this.1,by show x.a<=100;omega,ψ,z,e,ψ⟩
 .have:=a (n:=12) (by rw [b];rfl)
  exact ⟨ψ,this.1,by show x.a<=100;omega,by show 0<=n;omega,d,z,ψ⟩
 .have:=a (n:=12) (by rw [b];rfl)
  exact ⟨ψ,this.1,by show x.a<=100;omega,by show 0<=n;omega,d,e,ψ⟩
 .have:=a (n:=(c.H:Int)) (by rw [b];rfl)
  refine ⟨ψ,this.1,by show x.a<=100;omega,ψ,z,z,λ_=>?_⟩;have g:x.a.toNat<c.H.length:=ω;refine ⟨c.H[x.a.toNat],Lg g,?_⟩;have d:=hs.1.2.1;rw [List.any_eq_false] at d;have:=d _ (List.getElem_mem g);simp at this;omega
def SP {m:Mm} (h:Dp c m) (r:Rq):∀ n∈Bd m r,BP n:=by
 unfold Bd;split
 .simp
 split
 .cases hx:m.N[(r.O - 1).toNat]? with
  | none=>simp
  | some x=>simp;exact (h.N x (Lm hx)).2.2
 .exact h.gv
variable {p p':MB}
def Kc (f:Dp c p.M) (g:Fy c r) (h:Ka c p r=ς (p',n)):Bj r n=ϑ:=by
 unfold Ka at h;unfold Bj;by_cases b:r.K=3
 .rw [if_neg ω,if_pos b]
  rw [if_pos b] at h;have i:=f.len;split at h
  .simp at h;simp;omega
  .simp at h;simp;omega
 .rw [if_neg b] at h
  by_cases e:r.K=1
  .rw [if_pos e]
   split at h
   .simp at h
   .rename_i hlt
    simp at h;have a:=h.2;rw [if_neg ω] at a;have d:r.D.toNat<(Bd p.M r).length:=by have:=g.D;omega
    rw [Lg d] at a;simp at a;rw [<-a];exact Aq.2 (SP f r _ (List.getElem_mem d))
  .rw [if_neg e,if_neg b]
def WE {m:Mm} (h:Dp c m) (g:BP r.V):Dp c (putM m r):=by
 unfold putM;split
 .exact h
 split
 .refine ⟨h.gl,h.gv,by simp;exact h.len,λx j=>?_⟩
  obtain ⟨i,a⟩:=List.mem_iff_getElem?.1 j;simp only [List.getElem?_modify] at a;cases f:m.N[i]? with
  | none=>rw [f] at a;simp at a
  | some y=>
   rw [f] at a;have d:=h.N y (Lm f);simp at a;split at a
   .subst a
    refine ⟨d.1,by simp only [Nm,List.length_set];exact d.2.1,λn e=>?_⟩;rcases List.mem_or_eq_of_mem_set e with b|b
    .exact d.2.2 n b
    .rw [b];exact g
   .subst a;exact d
 .refine ⟨by simp;exact h.gl,λn e=>?_,h.len,h.N⟩
  rcases List.mem_or_eq_of_mem_set e with b|b
  .exact h.gv n b
  .rw [b];exact g
def Ts (a:Dp c p.M) (e:Fy c r) (h:Ka c p r=ς (p',n)):Dp c p'.M/\(p'.log.length<=p.log.length+1)/\((0<=p.N/\p.N<=p.log.length)->0<=p'.N/\p'.N<=p'.log.length):=by
 unfold Ka at h;by_cases d:r.K=3
 .rw [if_pos d] at h
  obtain ⟨k,g,i,j⟩:=e.alloc d;split at h
  .rename_i hl
   simp at h;obtain ⟨rfl,_⟩:=h;refine ⟨⟨a.gl,a.gv,by simp;omega,λx b=>?_⟩,ψ,λh=>by simp;omega⟩;simp at b;rcases b with b|rfl
   .exact a.N x b
   .refine ⟨e.D,by rw [g];simp;omega,λn f=>?_⟩
    simp at f;rw [f.2];unfold BP;omega
  .simp at h
   obtain ⟨rfl,_⟩:=h;exact ⟨a,ω,λh=>h⟩
 .rw [if_neg d] at h
  split at h
  .simp at h
  .simp at h
   obtain ⟨rfl,_⟩:=h;exact ⟨WE a e.V,ψ,λh=>by simp;split<;>omega⟩
def AE.up {α:Type} {sz:Nat} {E c:Ϣ->Nat->Nat->α->Prop} {l:List α} (h:AE B w sz E v l) (k:B<=B') (f:∀ b o x,E w b o x->c w b o x):AE B' w sz c v l:=by
 obtain ⟨a,cap,rfl,g,d,e,h⟩:=h;refine ⟨a,cap,rfl,g,d,e,?_⟩;rcases h with h|⟨b,o,rfl,m,h⟩
 .exact .inl h
 .exact .inr ⟨b,o,rfl,ω,λi x j=>f _ _ _ (h i x j)⟩
def AE.upI (h:AE B w 1 Aj v l) (a:B<=B'):AE B' w 1 Aj v l:=h.up a (λ_ _ _ h=>h)
def CW.up {f:BK} (h:CW B w b o f) (k:B<=B'):CW B' w b o f:=by
 obtain ⟨a,c,d,e,⟨v,g,i⟩,j⟩:=h;exact ⟨a,c,d,e,⟨v,g,i.up k (λ_ _ _ h=>h)⟩,j⟩
def CK.up (h:CK B w b o f) (a:B<=B'):CK B' w b o f:=by
 obtain ⟨c,d,⟨v,e,g⟩,⟨u,i,j⟩,k⟩:=h;exact ⟨c,d,⟨v,e,g.upI a⟩,⟨u,i,j.upI a⟩,k⟩
def GP.up {f:Gl} (h:GP B w b o f) (g:B<=B'):GP B' w b o f:=by
 obtain ⟨a,⟨v,c,d⟩,e⟩:=h;exact ⟨a,⟨v,c,d.upI g⟩,e⟩
def BF.up (h:BF B w v c) (a:B<=B'):BF B' w v c:=by
 obtain ⟨b,d,e,f,g,i⟩:=h;exact ⟨b,d,e,f.upI a,g.up a (λ_ _ _ h=>h.up a),i⟩
def Lw.up {m:Mm} (h:Lw B w v m) (a:B<=B'):Lw B' w v m:=by
 obtain ⟨b,f,c,d,e⟩:=h;exact ⟨b,f,c,d.upI a,e.up a (λ_ _ _ h=>h.up a)⟩
def Gh.up (h:Gh B w v x) (e:B<=B'):Gh B' w v x:=by
 obtain ⟨a,b,c,d⟩:=h;exact ⟨a,b,c.upI e,d⟩
def Be.reads (h:Be w v l F) (hl:l.length<=140737488355328):AE w w 1 Aj v l:=by
 by_cases c:0<l.length
 .obtain ⟨lb,cap,rfl,hF,h1,h2⟩:=h.form c
  refine ⟨_,cap,rfl,hl,h1,h2,.inr ⟨lb,0,rfl,h.lt lb (by rw [hF];simp),λi x a=>⟨?_,h.2.2 x (Lm a)⟩⟩⟩;rw [Nat.zero_add,Nat.mul_one];exact h.cellAt a
 .have h3:l=[]:=List.eq_nil_of_length_eq_zero ω
  subst h3;rcases h.1.2 with ⟨rfl,_⟩|⟨g,cap,d,rfl,_,f,e,b,_⟩
  .exact ⟨none,0,rfl,ψ,ψ,ω,.inl rfl⟩
  .exact ⟨ς (π g 0),cap,rfl,ψ,ψ,by unfold maxLen at b;omega,.inl rfl⟩
def BJ.at_ :∀ {fs:List AY} {cells:List ϒ} {F:List Nat} {i:Nat} {f:AY},BJ w cells fs F->fs[i]?=ς f->
  ∃ a b c d,cells[i*4]?=ς (ι f.fn)/\cells[i*4+1]?=ς (ι f.pc)/\cells[i*4+2]?=ς a/\cells[i*4+3]?=ς b/\Be w a f.L c/\Be w b f.S d/\in64 f.fn/\in64 f.pc
 | [],_,_,_,_,_,hx=>by simp at hx
 | g::fs,cells,F,0,f,h,hx=>by obtain ⟨a,b,s,c,d,q,rfl,l,m,n,o,p,rfl⟩:=h;simp at hx;subst hx;exact ⟨a,b,c,d,rfl,rfl,rfl,rfl,l,m,n,o⟩
 | g::fs,cells,F,i+1,f,h,hx=>by
  obtain ⟨a,b,s,c,d,q,rfl,l,m,n,o,p,rfl⟩:=h;obtain ⟨j,k,r,e,t,u,v,x,y⟩:=p.at_ (by simpa using hx);refine ⟨j,k,r,e,?_,?_,?_,?_,y⟩
  .rw [show (i+1)*4=i*4+1+1+1+1 by omega];simpa using t
  .rw [show (i+1)*4+1=(i*4+1)+1+1+1+1 by omega];simpa using u
  .rw [show (i+1)*4+2=(i*4+2)+1+1+1+1 by omega];simpa using v
  .rw [show (i+1)*4+3=(i*4+3)+1+1+1+1 by omega];simpa using x
def Cv.reads {fv:ϒ} (h:Cv w fv fs F) (hl:fs.length<=140737488355328) (m:∀ f∈fs,f.L.length<=140737488355328/\f.S.length<=140737488355328):AE w w 4 (CK w) fv fs:=by
 obtain ⟨b,A,a,d,rfl,D⟩:=h;have E:=d.len;rcases a.2 with ⟨rfl,l⟩|⟨g,cap,C,rfl,_,n,j,k,_⟩
 .have h3:=List.eq_nil_of_length_eq_zero l
  subst h3;exact ⟨none,0,rfl,ψ,ψ,ω,.inl rfl⟩
 .refine ⟨ς (π g 0),cap,rfl,hl,j,by unfold maxLen at k;omega,.inr ⟨g,0,rfl,(La n),λi f c=>?_⟩⟩
  obtain ⟨x,y,z,B,o,p,q,r,s,t,u,v⟩:=d.at_ c;have G:=(Ll c)
  have e:=m f (Lm c);rw [Nat.zero_add];refine ⟨?_,?_,⟨x,?_,s.reads e.1⟩,⟨y,?_,t.reads e.2⟩,u,v⟩
  .rw [a.cellAt _ ω];exact o
  .rw [a.cellAt _ ω];exact p
  .rw [a.cellAt _ ω];exact q
  .rw [a.cellAt _ ω];exact r
def IK (m:AV):Prop:=m.J.length<=140737488355328/\∀ f∈m.J,f.L.length<=140737488355328/\f.S.length<=140737488355328
def DL.modest (hs:AU c) (b:Bv c) {g:AY} (h:DL c g P):g.L.length<=140737488355328/\g.S.length<=140737488355328:=by
 obtain ⟨y,x,m,a,i,f,_,e,n⟩:=h;have j:=DJ (hs.wf a.fn) (hs.snd a.fn) e;have k:=b y (Lm a.fn);have l:=((hs.wf a.fn).pops x (Lm f)).1;have d:=hs.fok a.fn;unfold CX at d;have:=a.loc;omega
def Ge.modest (hs:AU c) (b:Bv c):∀ {l:List AY} {k:Int},Ge c l k->∀ f∈l,f.L.length<=140737488355328/\f.S.length<=140737488355328
 | [],_,_,f,a=>by simp at a
 | g::r,k,h,f,a=>by
  rw [ϰ] at a;rcases a with rfl|a
  .exact h.1.modest hs b
  .exact Ge.modest hs b h.2 f a
def IQ (h:m.J=[]):IK m:=by
 unfold IK;rw [h];exact ⟨ψ,ψ⟩
def C9.modest (hs:AU c) (a:Bv c) (h:C9 c m r fs f):IK m:=by
 refine ⟨?_,λg b=>?_⟩
 .rw [h.fr,List.length_append];have:=h.len;simp;omega
 .rw [h.fr,List.mem_append,List.mem_singleton] at b
  rcases b with b|rfl
  .exact h.low.modest hs a g (List.mem_reverse.2 b)
  .exact h.top.modest hs a
def DQ.modest (hs:AU c) (a:Bv c) (h:DQ c m):IK m:=by
 rcases h.2 with ⟨_,_,_,h⟩|⟨_,_,_,h⟩|⟨fs,f,b⟩
 .exact IQ h
 .exact IQ h
 .exact b.modest hs a
