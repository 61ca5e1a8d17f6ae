import Derived.Test.YtiejafonjemioaaGreatDoorStep0
set_option maxHeartbeats 2000000
set_option maxRecDepth 100000
set_option linter.all false
open Go renaming World→Ϣ,Value→ϒ,Calls→ϙ
open Go.RowKit renaming Below→ϐ
open Option renaming some→ς
open Bool renaming false→ϝ
open Go.Value renaming slice→σ
open Go.Obj renaming cells→χ
namespace Go.Proofs.YtiejafonjemioaaGreatDoor
open Go.RowKit Proofs.Tryz
variable {α:Type} {B b o sz:Nat} {w w':Ϣ} {m:AV} {v:ϒ} {E:Ϣ->Nat->Nat->α->Prop} {l:List α}
structure CD where
 X:Int
 V:Int
 C:Int
 N:Int
 more:Int
structure A3 where
 M:Mm
 Y:Int
 R:List AV
 N:List Int
 A:List (List Bi)
 results:List (List CD)
 Z:List (List Int)
 P:List (List Int)
 U:Int
def FW (fv:ϒ) (m:AV):List ϒ:=[fv,ι m.Q.K,ι m.Q.O,ι m.Q.D,ι m.Q.V,ι m.Q.X,ι m.Y,ι m.C,ι m.I]
def Ht (B:Nat) (w:Ϣ) (b o:Nat) (m:AV):Prop:=
 ∃ fv,(∀ (j:Nat) v,(FW fv m)[j]?=ς v->w.cell? (π b (o+j))=ς v)/\AE B w 4 (CK B) fv m.J/\m.Q.wf/\in64 m.Y/\in64 m.C/\in64 m.I
def Ht.below (a:ϐ B w w') (h:b<B) (g:Ht B w b o m):Ht B w' b o m:=by
 obtain ⟨c,d,e,f⟩:=g;exact ⟨c,λj v i=>by rw [Di a h];exact d j v i,e.fras a,f⟩
def Ht.nine (h:Ht B w b o m):∃ c,AE B w 4 (CK B) c m.J/\w.cell? (π b o)=ς c/\w.cell? (π b (o+1))=ς (ι m.Q.K)/\w.cell? (π b (o+2))=ς (ι m.Q.O)/\w.cell? (π b (o+3))=ς (ι m.Q.D)/\w.cell? (π b (o+4))=ς (ι m.Q.V)/\w.cell? (π b (o+5))=ς (ι m.Q.X)/\w.cell? (π b (o+6))=ς (ι m.Y)/\w.cell? (π b (o+7))=ς (ι m.C)/\w.cell? (π b (o+8))=ς (ι m.I)/\(m.Q.wf/\in64 m.Y/\in64 m.C/\in64 m.I):=by
 obtain ⟨c,a,d,e⟩:=h;exact ⟨c,d,a 0 _ rfl,a 1 _ rfl,a 2 _ rfl,a 3 _ rfl,a 4 _ rfl,a 5 _ rfl,a 6 _ rfl,a 7 _ rfl,a 8 _ rfl,e⟩
def DA (B:Nat) (w:Ϣ) (b o:Nat) (x:Bi):Prop:=
 w.cell? (π b o)=ς (.string x.proc)/\(∃ v,w.cell? (π b (o+1))=ς v/\AE B w 1 Aj v x.args)/\x.proc.size<=140737488355328
def DA.below (a:ϐ B w w') {x:Bi} (h:b<B) (e:DA B w b o x):DA B w' b o x:=by
 obtain ⟨f,⟨v,g,c⟩,d⟩:=e;refine ⟨?_,⟨v,?_,c.ints a⟩,d⟩<;>rw [Di a h]<;>assumption
def FM (w:Ϣ) (b o:Nat) (x:CD):Prop:=
 w.cell? (π b o)=ς (ι x.X)/\w.cell? (π b (o+1))=ς (ι x.V)/\w.cell? (π b (o+2))=ς (ι x.C)/\w.cell? (π b (o+3))=ς (ι x.N)/\w.cell? (π b (o+4))=ς (ι x.more)/\in64 x.X/\in64 x.V/\in64 x.C/\in64 x.N/\in64 x.more
def FM.below (a:ϐ B w w') {x:CD} (h:b<B) (c:FM w b o x):FM w' b o x:=by
 unfold FM at *
 rw [Di a h,Di a h,Di a h,Di a h,Di a h];exact c
def Bg {α:Type} (sz:Nat) (E:Ϣ->Nat->Nat->α->Prop) (B:Nat) (w:Ϣ) (b o:Nat) (l:List α):Prop:=∃ v,w.cell? (π b o)=ς v/\AE B w sz E v l
def Bg.below (e:ϐ B w w') (d:∀ b o x,b<B->E w b o x->E w' b o x) (h:b<B) (hl:Bg sz E B w b o l):Bg sz E B w' b o l:=by
 obtain ⟨v,a,c⟩:=hl;exact ⟨v,by rw [Di e h];exact a,c.mono d⟩
def AE.macs (a:ϐ B w w') {l:List AV} (h:AE B w 9 (Ht B) v l):AE B w' 9 (Ht B) v l:=h.mono λ_ _ _ h=>Ht.below a h
def AE.cals (a:ϐ B w w') {l:List Bi} (h:AE B w 2 (DA B) v l):AE B w' 2 (DA B) v l:=h.mono λ_ _ _ h=>DA.below a h
def AE.outs (a:ϐ B w w') {l:List CD} (h:AE B w 5 FM v l):AE B w' 5 FM v l:=h.mono λ_ _ _ h=>FM.below a h
def AE.calss (a:ϐ B w w') {l:List (List Bi)} (h:AE B w 1 (Bg 2 (DA B) B) v l):AE B w' 1 (Bg 2 (DA B) B) v l:=h.mono λ_ _ _ h b=>Bg.below a (λ_ _ _ h=>DA.below a h) h b
def AE.outss (a:ϐ B w w') {l:List (List CD)} (h:AE B w 1 (Bg 5 FM B) v l):AE B w' 1 (Bg 5 FM B) v l:=h.mono λ_ _ _ h b=>Bg.below a (λ_ _ _ h=>FM.below a h) h b
def AE.intss (a:ϐ B w w') {l:List (List Int)} (h:AE B w 1 (Bg 1 Aj B) v l):AE B w' 1 (Bg 1 Aj B) v l:=h.mono λ_ _ _ h b=>Bg.below a (λ_ _ _ h=>Aj.below a h) h b
abbrev Bt (a:Option Addr) (b:Nat) (c:Option Addr) (d:Nat) (e:Option Addr) (f:Nat) (g:Option Addr) (h:Nat) (i:Option Addr) (j:Nat) (k:Option Addr) (l:Nat) (m:Option Addr) (n:Nat) (o:Option Addr) (p:Nat) (s:A3):Array ϒ:=#[σ a s.M.G b,σ c s.M.N d,ι s.Y,σ e s.R f,σ g s.N h,σ i s.A j,σ k s.results l,σ m s.Z n,σ o s.P p,ι s.U]
def CJ (B:Nat) (w:Ϣ) (v:ϒ) (s:A3):Prop:=
 ∃ gv mv rv nv cv ov bv ev,v=.agg #[gv,mv,ι s.Y,rv,nv,cv,ov,bv,ev,ι s.U]/\AE B w 1 Aj gv s.M.G/\AE B w 2 (GP B) mv s.M.N/\AE B w 9 (Ht B) rv s.R/\AE B w 1 Aj nv s.N/\
  AE B w 1 (Bg 2 (DA B) B) cv s.A/\AE B w 1 (Bg 5 FM B) ov s.results/\AE B w 1 (Bg 1 Aj B) bv s.Z/\AE B w 1 (Bg 1 Aj B) ev s.P/\in64 s.Y/\in64 s.U
variable {s:A3}
def CJ.below (a:ϐ B w w') (h:CJ B w v s):CJ B w' v s:=by
 obtain ⟨f,q,u,r,d,t,c,e,g,i,j,k,l,m,n,o,p,b⟩:=h;exact ⟨f,q,u,r,d,t,c,e,g,i.ints a,j.nods a,k.macs a,l.ints a,m.calss a,n.outss a,o.intss a,p.intss a,b⟩
def Ls (c:AQ) (g:ϒ) (B:Nat) (w:Ϣ) (j:C8 w) (s:B<=w) (l:BF B w g c) :
  ϙ prog 46 #[g] w λe w'=>e=.returned (.bool (DW c))/\ϐ w w w':=by
 have m:=Lh l;have n:=Lh j;obtain ⟨x,y,rfl,p,q,-⟩:=l;obtain ⟨D,v,rfl,-,-,-,-⟩:=p;obtain ⟨E,u,rfl,z,A,C,-⟩:=q;clear j;go_enter func46,ntmps46;go_wp2_with fail;refine (MQ c _ B _ (n.o.below (AA _ _)) φ (m.o.below ((AA _ _).mono s))).mono ?_;rintro e F ⟨i,k,o,rfl,a,t⟩;have f:=As t;by_cases d:o=0
 .have aB:=Lh (CZ (a.1 d))
  subst d;clear a;go_wp2;go_ret;exact ⟨by rw [aB.o];rfl,f⟩
 .have aB:=Lh (FA (λh=>d (a.2 h)))
  have r:=beq_eq_false_iff_ne.2 d;clear a;go_wp2;go_ret;exact ⟨by rw [aB.o];exact congrArg (λb=>Ending.returned (.bool b)) (by first|exact r|rfl),f⟩
def Cs (m:AV):Bool:=decide (m.Q.K=1) || (decide (m.Q.K=2) || decide (m.Q.K=3))
def Jp (m:AV) (a:Option Addr) (n k:Nat) (w:Ϣ):ϙ prog 70 #[.agg (AC (σ a n k) m)] w λe w'=>e=.returned (.bool (Cs m))/\ϐ w w w':=by
 unfold AC;by_cases c:m.Q.K=1
 .have g:=ζ m.Q.K 1 c
  have f:=@Lh (Cs m=true) (by unfold Cs;simp [c]);clear c;go_enter func70,ntmps70;go_wp2;go_ret;exact ⟨by rw [f.o];rfl,AA _ _⟩
 have g:=ξ m.Q.K 1 c;by_cases d:m.Q.K=2
 .have h:=ζ m.Q.K 2 d
  have f:=@Lh (Cs m=true) (by unfold Cs;simp [d]);clear c d;go_enter func70,ntmps70;go_wp2;go_ret;exact ⟨by rw [f.o];rfl,AA _ _⟩
 have h:=ξ m.Q.K 2 d;have b:=ε ((m.Q.K == 3));have f:=@Lh (Cs m=(m.Q.K == 3)) (by unfold Cs;simp [c,d];rfl);clear c d;go_enter func70,ntmps70;go_wp2;go_ret;exact ⟨by rw [f.o];rfl,AA _ _⟩
def Cu (m:AV):Bool:=m.J.isEmpty && (decide (m.Q.K=0/\m.Q.O=0/\m.Q.D=0/\m.Q.V=0/\m.Q.X=0) && (decide (m.Y=0) && (decide (m.C=0) && decide (m.I=0))))
def BA:List Int->List Int->Int->Int->Bool
 | [],_,_,_=>true
 | b::bs,[],last,step=>decide (last<b) && (decide (b<step) && BA bs [] last step)
 | b::bs,e::es,last,step=>decide (last<b) && (decide (b<step) && (decide (b<=e) && (decide (e<step) && BA bs es e step)))
def KG {e:List Int} {d:List Int} {a c b:Int} (h:a<b) (f:b<c) (g:d=[]):BA (b::e) d a c=BA e d a c:=by
 subst g;simp [BA,h,f]
def S9 (f d:List Int) (J L:ϒ) (a:Int) (A B:Nat) (w:Ϣ) (Y:AE A w 1 Aj J f) (Z:AE B w 1 Aj L d):ϙ prog 129 #[J,L,ι a] w λe w'=>e=.returned (.bool (BA f d (-1) a))/\w=w':=by
 obtain ⟨ba,bc,rfl,P,-,-,G⟩:=Y;obtain ⟨ea,ec,rfl,Q,-,-,I⟩:=Z;have N:=Lh G;have O:=Lh I;obtain ⟨p,C⟩:=ε f.length;obtain ⟨K,D⟩:=ε d.length;rw [<-C] at P ⊢;rw [<-D] at Q ⊢;have F:=Lh C;have z:=Lh D;clear G I C D;go_enter func129,ntmps129;go_wp2_with fail
 go_loop [7,12] (λl i=>∃ (k:Nat) (c:Int),k<=p/\i=ι k/\l=ι c/\Hid (BA f d (-1) a=BA (f.drop k) (d.drop k) c a)) (λ_ i=>p - (intOf i).toNat)
 case atStart=>exact ⟨0,-1,Nat.zero_le _,rfl,rfl,Lh rfl⟩
 case round=>
  obtain ⟨k,c,hk,rfl,rfl,j⟩:=hrel;by_cases aR:k<p;rotate_left
  .obtain rfl:k=p:=ω
   have g:=@Lh (BA f d (-1) a=true) (by
    rw [j.o,List.drop_eq_nil_of_le (by have:=F.o;omega)];unfold BA;rfl)
   go_wp2;go_ret;exact ⟨by rw [g.o];rfl,rfl⟩
  obtain ⟨b,s⟩:∃ x,f[k]?=ς x:=⟨_,Lg (by have:=F.o;omega)⟩
  have M:f.drop k=b::f.drop (k+1):=by obtain ⟨q,rfl⟩:=List.getElem?_eq_some_iff.1 s;exact List.drop_eq_getElem_cons q
  have n:=Lh M;rcases N.o with h|⟨R,o1,rfl,-,r⟩
  .subst h;simp at s
  have c1:w.cell? (π R (o1+k))=ς (ι b):=by have:=(r k b s).1;rw [Nat.mul_one] at this;exact this
  have aN:=In k;have aO:(k:Int)<(p:Int):=ω;clear M r s;by_cases m:b<=c
  .have T:=η (b<=c) m
   have g:=@Lh (BA f d (-1) a=ϝ) (by
    rw [j.o,n.o];cases d.drop k<;>simp [BA]<;>omega)
   clear m;go_wp2;go_ret;exact ⟨by rw [g.o];rfl,rfl⟩
  have T:=θ (b<=c);by_cases o:a<=b
  .have U:=η (a<=b) o
   have g:=@Lh (BA f d (-1) a=ϝ) (by
    rw [j.o,n.o];cases d.drop k<;>simp [BA]<;>omega)
   clear m o;go_wp2;go_ret;exact ⟨by rw [g.o];rfl,rfl⟩
  have U:=θ (a<=b);by_cases aQ:k<K;rotate_left
  .have v:=@Lh (BA f d (-1) a=BA (f.drop (k+1)) (d.drop (k+1)) c a) (by
    have q:d.drop k=[]:=List.drop_eq_nil_of_le (by have:=z.o;omega);have X:d.drop (k+1)=[]:=List.drop_eq_nil_of_le (by have:=z.o;omega);rw [j.o,n.o,q,X,KG ω ω rfl])
   clear m o;go_wp2;go_round
   case rel=>exact ⟨k+1,c,ω,by go_num,rfl,v⟩
   case measure=>simp [intOf];omega
  obtain ⟨e,t⟩:∃ x,d[k]?=ς x:=⟨_,Lg (by have:=z.o;omega)⟩
  have H:d.drop k=e::d.drop (k+1):=by obtain ⟨q,rfl⟩:=List.getElem?_eq_some_iff.1 t;exact List.drop_eq_getElem_cons q
  have y:=Lh H;rcases O.o with h|⟨S,o2,rfl,-,r⟩
  .subst h;simp at t
  have c2:w.cell? (π S (o2+k))=ς (ι e):=by have:=(r k e t).1;rw [Nat.mul_one] at this;exact this
  have aP:(k:Int)<(K:Int):=ω;clear H r t;by_cases u:e<b
  .have V:=η (e<b) u
   have g:=@Lh (BA f d (-1) a=ϝ) (by
    rw [j.o,n.o,y.o];simp [BA];omega)
   clear m o u;go_wp2;go_ret;exact ⟨by rw [g.o];rfl,rfl⟩
  have V:=θ (e<b);by_cases E:a<=e
  .have W:=η (a<=e) E
   have g:=@Lh (BA f d (-1) a=ϝ) (by
    rw [j.o,n.o,y.o];simp [BA];omega)
   clear m o u E;go_wp2;go_ret;exact ⟨by rw [g.o];rfl,rfl⟩
  have W:=θ (a<=e);have v:=@Lh (BA f d (-1) a=BA (f.drop (k+1)) (d.drop (k+1)) e a) (by
   rw [j.o,n.o,y.o];simp [BA,show c<b by omega,show b<a by omega,show b<=e by omega,show e<a by omega])
  clear m o u E;go_wp2;go_round
  case rel=>exact ⟨k+1,e,ω,by go_num,rfl,v⟩
  case measure=>simp [intOf];omega
def AE.fm (h:AE B w sz E v l):∃ a b,v=σ a l b:=by
 obtain ⟨a,b,rfl,-⟩:=h;exact ⟨a,b,rfl⟩
def AE.nth {a:Option Addr} {cap n:Nat} (h:AE B w sz E (σ a n cap) l) {k:Nat} {x:α} (c:l[k]?=ς x):∃ b o,a=ς (π b o)/\b<B/\E w b (o+k*sz) x:=by
 obtain ⟨f,g,e,-,-,-,h⟩:=h;cases e;rcases h with rfl|⟨b,o,rfl,d,h⟩
 .simp at c
 .exact ⟨b,o,rfl,d,h k x c⟩
def CJ.open_ (h:CJ B w v s):∃ g i r t A C u x c d y z a b e f,v=.agg (Bt g i r t A C u x c d y z a b e f s):=by
 obtain ⟨G,H,K,I,E,J,D,F,rfl,j,k,l,m,n,o,p,q,-⟩:=h;obtain ⟨_,_,rfl⟩:=j.fm;obtain ⟨_,_,rfl⟩:=k.fm;obtain ⟨_,_,rfl⟩:=l.fm;obtain ⟨_,_,rfl⟩:=m.fm;obtain ⟨_,_,rfl⟩:=n.fm;obtain ⟨_,_,rfl⟩:=o.fm;obtain ⟨_,_,rfl⟩:=p.fm;obtain ⟨_,_,rfl⟩:=q.fm;exact ⟨_,_,_,_,_,_,_,_,_,_,_,_,_,_,_,_,rfl⟩
def CJ.parts {gv d fv f nv b e a c i:ϒ} (h:CJ B w (.agg #[gv,d,fv,f,nv,b,e,a,c,i]) s):AE B w 1 Aj gv s.M.G/\AE B w 2 (GP B) d s.M.N/\AE B w 9 (Ht B) f s.R/\AE B w 1 Aj nv s.N/\
  AE B w 1 (Bg 2 (DA B) B) b s.A/\AE B w 1 (Bg 5 FM B) e s.results/\AE B w 1 (Bg 1 Aj B) a s.Z/\AE B w 1 (Bg 1 Aj B) c s.P/\in64 s.Y/\in64 s.U:=by
 obtain ⟨gv,d,f,nv,b,e,a,c,g,h⟩:=h;cases g;exact h
def Qw (s:A3) (t:Nat):Bool:=match s.R[t]?,s.A[t]? with
 | some m,some l=>decide (0<m.J.length) || decide (0<l.length)
 | _,_=>ϝ
def Ju (s:A3) (L:ϒ) (t:Nat) (B:Nat) (w:Ϣ) (Z:B<=w) (hs:CJ B w L s) (O:t<s.R.length) (hl:s.A.length=s.R.length) :
  ϙ prog 61 #[L,ι t] w λe w'=>e=.returned (.bool (Qw s t))/\ϐ w w w':=by
 obtain ⟨z,A,E,F,ra,K,G,H,X,u,I,J,q,r,x,y,rfl⟩:=hs.open_;obtain ⟨-,-,D,-,C,-⟩:=hs.parts;obtain ⟨m,g⟩:∃ m,s.R[t]?=ς m:=⟨_,Lg O⟩
 obtain ⟨l,h⟩:∃ m,s.A[t]?=ς m:=⟨_,Lg ω⟩
 obtain ⟨c,i,rfl,V,Y,k,p,-⟩:=D.nth g;obtain ⟨M,N,rfl⟩:=p.fm;obtain ⟨a,f,rfl,R,v,o,n⟩:=C.nth h;obtain ⟨P,Q,rfl⟩:=n.fm;have j:=@Lh (Qw s t=(decide (0<m.J.length) || decide (0<l.length))) (by unfold Qw;rw [g,h]);have r0:(w.alloc (χ #[σ z s.M.G A,σ E s.M.N F,ι s.Y,σ (ς (π c i)) s.R K,σ G s.N H,σ (ς (π a f)) s.A u,σ I s.results J,σ q s.Z r,σ x s.P y,ι s.U] 34)).cell? (π c (i+t*9))=ς (σ M m.J N):=by rw [World.cell?_alloc_past _ _ _ (by show c<_;omega)];exact k 0 _ rfl
 have W:(w.alloc (χ #[σ z s.M.G A,σ E s.M.N F,ι s.Y,σ (ς (π c i)) s.R K,σ G s.N H,σ (ς (π a f)) s.A u,σ I s.results J,σ q s.Z r,σ x s.P y,ι s.U] 34)).cell? (π a (f+t))=ς (σ P l Q):=by rw [World.cell?_alloc_past _ _ _ (by show a<_;omega)];simpa using o
 have S:=In t;have T:(t:Int)<(s.R:Int):=ω;have U:(t:Int)<(s.A:Int):=ω;clear D C g h k p o n hs hl;by_cases b:0<m.J.length
 .have d1:=η (0<m.J.length)
  have d:=@Lh (Qw s t=true) (by rw [j.o];simp [b]);clear b;go_enter func61,ntmps61;go_wp2;go_ret;exact ⟨by rw [d.o];rfl,AA _ _⟩
 .have d1:=θ (0<m.J.length)
  have d:=@Lh (Qw s t=decide (0<l.length)) (by rw [j.o];simp [b]);clear b;go_enter func61,ntmps61;go_wp2;go_ret;exact ⟨by rw [d.o];rfl,AA _ _⟩
def Cg (s:A3) (t:Int):Int:=if t<0 then 2 else if (s.R:Int)<=t then 2 else if Qw s t.toNat then 0 else 14
def NF (s:A3) (m:ϒ) (t:Int) (B:Nat) (w:Ϣ) (l:B<=w) (hs:CJ B w m s) (hl:s.A.length=s.R.length) :
  ϙ prog 66 #[m,ι t] w λe w'=>e=.returned (ι (Cg s t))/\ϐ w w w':=by
 have k:=Lh hs;have i:=Lh hl;obtain ⟨C,D,E,F,K,L,G,H,v,x,I,J,r,u,z,A,rfl⟩:=hs.open_;clear hs hl;by_cases a:t<0
 .have b:=@Lh (Cg s t=2) (by unfold Cg;rw [if_pos a])
  have o:=η (t<0) a;clear a;go_enter func66,ntmps66;go_wp2;go_ret;exact ⟨by rw [b.o];rfl,AA _ _⟩
 have o:=θ (t<0) a;by_cases d:(s.R:Int)<=t
 .have b:=@Lh (Cg s t=2) (by unfold Cg;rw [if_neg a,if_pos d])
  have p:=η ((s.R:Int)<=t);clear a d;go_enter func66,ntmps66;go_wp2;go_ret;exact ⟨by rw [b.o];rfl,AA _ _⟩
 have p:=θ ((s.R:Int)<=t);obtain ⟨n,rfl⟩:∃ n:Nat,t=n:=⟨t.toNat,ω⟩
 have j:=@Lh (n<s.R.length) ω;have y:=θ (s.R.length<=n);cases c:Qw s n with
 | true=>have b:=@Lh (Cg s n=0) (by unfold Cg;rw [if_neg a,if_neg d,Int.toNat_natCast,c];rfl);have f:=Lh c;clear a d c;go_enter func66,ntmps66;go_wp2_with fail;refine (Ju s _ n B _ φ (k.o.below (AA _ _ |>.mono l)) j.o i.o).mono ?_;rintro e q ⟨rfl,h⟩;rw [f.o];have g:=As h;go_wp2;go_ret;exact ⟨by rw [b.o];rfl,g⟩
 | false=>have b:=@Lh (Cg s n=14) (by unfold Cg;rw [if_neg a,if_neg d,Int.toNat_natCast,c];rfl);have f:=Lh c;clear a d c;go_enter func66,ntmps66;go_wp2_with fail;refine (Ju s _ n B _ φ (k.o.below (AA _ _ |>.mono l)) j.o i.o).mono ?_;rintro e q ⟨rfl,h⟩;rw [f.o];have g:=As h;go_wp2;go_ret;exact ⟨by rw [b.o];rfl,g⟩
def Nv (B:Nat) (w:Ϣ) (v:ϒ) (l:List Bi):Prop:=AE B w 2 (DA B) v l
def RA (_:Nat) (w:Ϣ) (v:ϒ) (l:List CD):Prop:=∃ B,AE B w 5 FM v l
def Q8 (B:Nat) (w:Ϣ) (v:ϒ) (l:List Int):Prop:=AE B w 1 Aj v l
def LI (t:Nat) (c:Array ϒ) (p:Bi->Bool) (l:List Bi) (v:ϒ) (B:Nat) (w:Ϣ) (Q:An t) (P:B<=w) (n:AE B w 2 (DA B) v l)
  (E:∀ (x:Bi) (g:Ϣ) (C:ϒ),ϐ w w g->Gh B g C x->ϙ prog t (#[C]++c) g (λe u=>e=.returned (.bool (p x))/\ϐ g g u)) :
  ϙ prog 79 #[v,.func (.func t) #[] c] w λe w'=>e=.returned (ι (Cz p l))/\ϐ w w w':=by
 obtain ⟨a,N,rfl,X,S,T,n⟩:=n;have I:=Lh n;have H:=Lh E;unfold An at Q;clear n E;go_enter func79,ntmps79;go_wp2;go_loopw [8] (λi wr=>∃ k:Nat,k<=l.length/\i=ι k/\ϐ w w wr/\Hid (∀ j x,j<k->l[j]?=ς x->p x=ϝ)) (λi _=>l.length - (intOf i).toNat)
 case atStart=>exact ⟨0,Nat.zero_le _,rfl,Below.refl _ _,λj x F=>by omega⟩
 case round=>
  obtain ⟨k,W,rfl,f,r⟩:=hrel;by_cases M:k<l.length
  .obtain ⟨x,hx⟩:∃ x,l[k]?=ς x:=⟨_,Lg M⟩
   rcases I.o with h|⟨b,o,rfl,K,s⟩
   .subst h;simp at hx
   have s:=DA.below (f.mono P) K (s k x hx);obtain ⟨U,⟨R,V,D⟩,O⟩:=s;have G:=Lh D;clear D;have z:=Lh hx;clear hx;go_wp2_with fail;refine (H.o x wr _ f ⟨R,rfl,G.o,O⟩).mono ?_;rintro e u ⟨rfl,J⟩;have A:ϐ w w u:=f.trans (J.mono f.size);cases m:p x with
   | true=>have d:=Lh (DO z.o m r);clear m;go_wp2;go_ret;exact ⟨by rw [d.o];rfl,A⟩
   | false=>
    have d:Hid (∀ j x,j<k+1->l[j]?=ς x->p x=ϝ):=by
     intro j y F q;by_cases L:j=k
     .subst L;have:=z.o.symm.trans q;simp at this;rw [<-this];exact m
     .exact r j y ω q
    clear m;go_wp2;go_roundw
    case rel=>exact ⟨k+1,ω,by go_num,A,d⟩
    case measure=>simp [intOf];omega
  .have d:=Lh (CR (p:=p) (l:=l) (λj y F q=>r j y ω q))
   go_wp2;go_ret;exact ⟨by rw [d.o];rfl,f⟩
def Fb (c:Nat) (a:Array ϒ) (p:Bi->Bool) (l:List Bi) (v:ϒ) (B:Nat) (w:Ϣ) (f:An c) (n:B<=w) (h:AE B w 2 (DA B) v l)
  (g:∀ (x:Bi) (b:Ϣ) (d:ϒ),ϐ w w b->Gh B b d x->ϙ prog c (#[d]++a) b (λe q=>e=.returned (.bool (p x))/\ϐ b b q)) :
  ϙ prog 36 #[v,.func (.func c) #[] a] w λe w'=>e=.returned (.bool (l.any p))/\ϐ w w w':=by
 obtain ⟨k,j,i,m⟩:=Λ4 h g f (Ci p l);clear h g f;go_enter func36,ntmps36;go_wp2_with fail;refine (LI c a p l v B w i.o n k.o j.o).mono ?_;rintro e w' ⟨rfl,o⟩;go_wp2;go_ret;exact ⟨by rw [<-m.o];rfl,o⟩
def KN (t:Nat) (c:Array ϒ) (p:List Bi->Bool) (l:List (List Bi)) (v:ϒ) (B:Nat) (w:Ϣ) (Q:An t) (E:B<=w) (n:AE B w 1 (Bg 2 (DA B) B) v l)
  (F:∀ (x:List Bi) (g:Ϣ) (C:ϒ),ϐ w w g->Nv B g C x->ϙ prog t (#[C]++c) g (λe u=>e=.returned (.bool (p x))/\ϐ g g u)) :
  ϙ prog 59 #[v,.func (.func t) #[] c] w λe w'=>e=.returned (ι (Cz p l))/\ϐ w w w':=by
 obtain ⟨a,O,rfl,V,R,S,n⟩:=n;have J:=Lh n;have I:=Lh F;unfold An at Q;clear n F;go_enter func59,ntmps59;go_wp2;go_loopw [8] (λi wr=>∃ k:Nat,k<=l.length/\i=ι k/\ϐ w w wr/\Hid (∀ j x,j<k->l[j]?=ς x->p x=ϝ)) (λi _=>l.length - (intOf i).toNat)
 case atStart=>exact ⟨0,Nat.zero_le _,rfl,Below.refl _ _,λj x G=>by omega⟩
 case round=>
  obtain ⟨k,U,rfl,d,r⟩:=hrel;by_cases N:k<l.length
  .obtain ⟨x,hx⟩:∃ x,l[k]?=ς x:=⟨_,Lg N⟩
   rcases J.o with h|⟨b,o,rfl,L,s⟩
   .subst h;simp at hx
   have s:=Bg.below (d.mono E) (λ_ _ _ h=>DA.below (d.mono E) h) L (s k x hx);obtain ⟨T,P,D⟩:=s;rw [Nat.mul_one] at P;have H:=Lh D;clear D;have z:=Lh hx;clear hx;go_wp2_with fail;refine (I.o x wr _ d H.o).mono ?_;rintro e u ⟨rfl,K⟩;have A:ϐ w w u:=d.trans (K.mono d.size);cases m:p x with
   | true=>have f:=Lh (DO z.o m r);clear m;go_wp2;go_ret;exact ⟨by rw [f.o];rfl,A⟩
   | false=>
    have f:Hid (∀ j x,j<k+1->l[j]?=ς x->p x=ϝ):=by
     intro j y G q;by_cases M:j=k
     .subst M;have:=z.o.symm.trans q;simp at this;rw [<-this];exact m
     .exact r j y ω q
    clear m;go_wp2;go_roundw
    case rel=>exact ⟨k+1,ω,by go_num,A,f⟩
    case measure=>simp [intOf];omega
  .have f:=Lh (CR (p:=p) (l:=l) (λj y G q=>r j y ω q))
   go_wp2;go_ret;exact ⟨by rw [f.o];rfl,d⟩
def FJ (c:Nat) (a:Array ϒ) (p:List Bi->Bool) (l:List (List Bi)) (v:ϒ) (B:Nat) (w:Ϣ) (f:An c) (n:B<=w) (h:AE B w 1 (Bg 2 (DA B) B) v l)
  (g:∀ (x:List Bi) (b:Ϣ) (d:ϒ),ϐ w w b->Nv B b d x->ϙ prog c (#[d]++a) b (λe q=>e=.returned (.bool (p x))/\ϐ b b q)) :
  ϙ prog 17 #[v,.func (.func c) #[] a] w λe w'=>e=.returned (.bool (l.any p))/\ϐ w w w':=by
 obtain ⟨k,j,i,m⟩:=Λ4 h g f (Ci p l);clear h g f;go_enter func17,ntmps17;go_wp2_with fail;refine (KN c a p l v B w i.o n k.o j.o).mono ?_;rintro e w' ⟨rfl,o⟩;go_wp2;go_ret;exact ⟨by rw [<-m.o];rfl,o⟩
def LK (t:Nat) (c:Array ϒ) (p:AV->Bool) (l:List AV) (v:ϒ) (B:Nat) (w:Ϣ) (R:An t) (Q:B<=w) (q:AE B w 9 (Ht B) v l)
  (E:∀ (x:AV) (g:Ϣ) (C:ϒ),ϐ w w g->Nx B g C x->ϙ prog t (#[C]++c) g (λe u=>e=.returned (.bool (p x))/\ϐ g g u)) :
  ϙ prog 58 #[v,.func (.func t) #[] c] w λe w'=>e=.returned (ι (Cz p l))/\ϐ w w w':=by
 obtain ⟨a,N,rfl,V,S,T,q⟩:=q;have I:=Lh q;have H:=Lh E;unfold An at R;clear q E;go_enter func58,ntmps58;go_wp2;go_loopw [8] (λi wr=>∃ k:Nat,k<=l.length/\i=ι k/\ϐ w w wr/\Hid (∀ j x,j<k->l[j]?=ς x->p x=ϝ)) (λi _=>l.length - (intOf i).toNat)
 case atStart=>exact ⟨0,Nat.zero_le _,rfl,Below.refl _ _,λj x F=>by omega⟩
 case round=>
  obtain ⟨k,U,rfl,f,s⟩:=hrel;by_cases M:k<l.length
  .obtain ⟨x,hx⟩:∃ x,l[k]?=ς x:=⟨_,Lg M⟩
   rcases I.o with h|⟨b,o,rfl,K,m⟩
   .subst h;simp at hx
   have m:=Ht.below (f.mono Q) K (m k x hx);obtain ⟨O,D,W,X,Y,Z,k4,k5,k6,k7,k8,P⟩:=m.nine;have G:=Lh D;clear D m;have z:=Lh hx;clear hx;go_wp2_with fail;refine (H.o x wr _ f ⟨O,rfl,G.o,P⟩).mono ?_;rintro e u ⟨rfl,J⟩;have A:ϐ w w u:=f.trans (J.mono f.size);cases n:p x with
   | true=>have d:=Lh (DO z.o n s);clear n;go_wp2;go_ret;exact ⟨by rw [d.o];rfl,A⟩
   | false=>
    have d:Hid (∀ j x,j<k+1->l[j]?=ς x->p x=ϝ):=by
     intro j y F r;by_cases L:j=k
     .subst L;have:=z.o.symm.trans r;simp at this;rw [<-this];exact n
     .exact s j y ω r
    clear n;go_wp2;go_roundw
    case rel=>exact ⟨k+1,ω,by go_num,A,d⟩
    case measure=>simp [intOf];omega
  .have d:=Lh (CR (p:=p) (l:=l) (λj y F r=>s j y ω r))
   go_wp2;go_ret;exact ⟨by rw [d.o];rfl,f⟩
def Ij (c:Nat) (a:Array ϒ) (p:AV->Bool) (l:List AV) (v:ϒ) (B:Nat) (w:Ϣ) (f:An c) (n:B<=w) (h:AE B w 9 (Ht B) v l)
  (g:∀ (x:AV) (b:Ϣ) (d:ϒ),ϐ w w b->Nx B b d x->ϙ prog c (#[d]++a) b (λe q=>e=.returned (.bool (p x))/\ϐ b b q)) :
  ϙ prog 15 #[v,.func (.func c) #[] a] w λe w'=>e=.returned (.bool (l.any p))/\ϐ w w w':=by
 obtain ⟨k,j,i,m⟩:=Λ4 h g f (Ci p l);clear h g f;go_enter func15,ntmps15;go_wp2_with fail;refine (LK c a p l v B w i.o n k.o j.o).mono ?_;rintro e w' ⟨rfl,o⟩;go_wp2;go_ret;exact ⟨by rw [<-m.o];rfl,o⟩
def LJ (t:Nat) (c:Array ϒ) (p:List Int->Bool) (l:List (List Int)) (v:ϒ) (B:Nat) (w:Ϣ) (Q:An t) (E:B<=w) (n:AE B w 1 (Bg 1 Aj B) v l)
  (F:∀ (x:List Int) (g:Ϣ) (C:ϒ),ϐ w w g->Q8 B g C x->ϙ prog t (#[C]++c) g (λe u=>e=.returned (.bool (p x))/\ϐ g g u)) :
  ϙ prog 83 #[v,.func (.func t) #[] c] w λe w'=>e=.returned (ι (Cz p l))/\ϐ w w w':=by
 obtain ⟨a,O,rfl,V,R,S,n⟩:=n;have J:=Lh n;have I:=Lh F;unfold An at Q;clear n F;go_enter func83,ntmps83;go_wp2;go_loopw [8] (λi wr=>∃ k:Nat,k<=l.length/\i=ι k/\ϐ w w wr/\Hid (∀ j x,j<k->l[j]?=ς x->p x=ϝ)) (λi _=>l.length - (intOf i).toNat)
 case atStart=>exact ⟨0,Nat.zero_le _,rfl,Below.refl _ _,λj x G=>by omega⟩
 case round=>
  obtain ⟨k,U,rfl,d,r⟩:=hrel;by_cases N:k<l.length
  .obtain ⟨x,hx⟩:∃ x,l[k]?=ς x:=⟨_,Lg N⟩
   rcases J.o with h|⟨b,o,rfl,L,s⟩
   .subst h;simp at hx
   have s:=Bg.below (d.mono E) (λ_ _ _ h=>Aj.below (d.mono E) h) L (s k x hx);obtain ⟨T,P,D⟩:=s;rw [Nat.mul_one] at P;have H:=Lh D;clear D;have z:=Lh hx;clear hx;go_wp2_with fail;refine (I.o x wr _ d H.o).mono ?_;rintro e u ⟨rfl,K⟩;have A:ϐ w w u:=d.trans (K.mono d.size);cases m:p x with
   | true=>have f:=Lh (DO z.o m r);clear m;go_wp2;go_ret;exact ⟨by rw [f.o];rfl,A⟩
   | false=>
    have f:Hid (∀ j x,j<k+1->l[j]?=ς x->p x=ϝ):=by
     intro j y G q;by_cases M:j=k
     .subst M;have:=z.o.symm.trans q;simp at this;rw [<-this];exact m
     .exact r j y ω q
    clear m;go_wp2;go_roundw
    case rel=>exact ⟨k+1,ω,by go_num,A,f⟩
    case measure=>simp [intOf];omega
  .have f:=Lh (CR (p:=p) (l:=l) (λj y G q=>r j y ω q))
   go_wp2;go_ret;exact ⟨by rw [f.o];rfl,d⟩
def Fe (c:Nat) (a:Array ϒ) (p:List Int->Bool) (l:List (List Int)) (v:ϒ) (B:Nat) (w:Ϣ) (f:An c) (n:B<=w) (h:AE B w 1 (Bg 1 Aj B) v l)
  (g:∀ (x:List Int) (b:Ϣ) (d:ϒ),ϐ w w b->Q8 B b d x->ϙ prog c (#[d]++a) b (λe q=>e=.returned (.bool (p x))/\ϐ b b q)) :
  ϙ prog 43 #[v,.func (.func c) #[] a] w λe w'=>e=.returned (.bool (l.any p))/\ϐ w w w':=by
 obtain ⟨k,j,i,m⟩:=Λ4 h g f (Ci p l);clear h g f;go_enter func43,ntmps43;go_wp2_with fail;refine (LJ c a p l v B w i.o n k.o j.o).mono ?_;rintro e w' ⟨rfl,o⟩;go_wp2;go_ret;exact ⟨by rw [<-m.o];rfl,o⟩
def LM (t:Nat) (c:Array ϒ) (p:List CD->Bool) (l:List (List CD)) (v:ϒ) (B:Nat) (w:Ϣ) (Q:An t) (E:B<=w) (n:AE B w 1 (Bg 5 FM B) v l)
  (F:∀ (x:List CD) (g:Ϣ) (C:ϒ),ϐ w w g->RA B g C x->ϙ prog t (#[C]++c) g (λe u=>e=.returned (.bool (p x))/\ϐ g g u)) :
  ϙ prog 84 #[v,.func (.func t) #[] c] w λe w'=>e=.returned (ι (Cz p l))/\ϐ w w w':=by
 obtain ⟨a,O,rfl,V,R,S,n⟩:=n;have J:=Lh n;have I:=Lh F;unfold An at Q;clear n F;go_enter func84,ntmps84;go_wp2;go_loopw [8] (λi wr=>∃ k:Nat,k<=l.length/\i=ι k/\ϐ w w wr/\Hid (∀ j x,j<k->l[j]?=ς x->p x=ϝ)) (λi _=>l.length - (intOf i).toNat)
 case atStart=>exact ⟨0,Nat.zero_le _,rfl,Below.refl _ _,λj x G=>by omega⟩
 case round=>
  obtain ⟨k,U,rfl,d,r⟩:=hrel;by_cases N:k<l.length
  .obtain ⟨x,hx⟩:∃ x,l[k]?=ς x:=⟨_,Lg N⟩
   rcases J.o with h|⟨b,o,rfl,L,s⟩
   .subst h;simp at hx
   have s:=Bg.below (d.mono E) (λ_ _ _ h=>FM.below (d.mono E) h) L (s k x hx);obtain ⟨T,P,D⟩:=s;rw [Nat.mul_one] at P;have H:=Lh D;clear D;have z:=Lh hx;clear hx;go_wp2_with fail;refine (I.o x wr _ d ⟨_,H.o⟩).mono ?_;rintro e u ⟨rfl,K⟩;have A:ϐ w w u:=d.trans (K.mono d.size);cases m:p x with
   | true=>have f:=Lh (DO z.o m r);clear m;go_wp2;go_ret;exact ⟨by rw [f.o];rfl,A⟩
   | false=>
    have f:Hid (∀ j x,j<k+1->l[j]?=ς x->p x=ϝ):=by
     intro j y G q;by_cases M:j=k
     .subst M;have:=z.o.symm.trans q;simp at this;rw [<-this];exact m
     .exact r j y ω q
    clear m;go_wp2;go_roundw
    case rel=>exact ⟨k+1,ω,by go_num,A,f⟩
    case measure=>simp [intOf];omega
  .have f:=Lh (CR (p:=p) (l:=l) (λj y G q=>r j y ω q))
   go_wp2;go_ret;exact ⟨by rw [f.o];rfl,d⟩
def I8 (c:Nat) (a:Array ϒ) (p:List CD->Bool) (l:List (List CD)) (v:ϒ) (B:Nat) (w:Ϣ) (f:An c) (n:B<=w) (h:AE B w 1 (Bg 5 FM B) v l)
  (g:∀ (x:List CD) (b:Ϣ) (d:ϒ),ϐ w w b->RA B b d x->ϙ prog c (#[d]++a) b (λe q=>e=.returned (.bool (p x))/\ϐ b b q)) :
  ϙ prog 44 #[v,.func (.func c) #[] a] w λe w'=>e=.returned (.bool (l.any p))/\ϐ w w w':=by
 obtain ⟨k,j,i,m⟩:=Λ4 h g f (Ci p l);clear h g f;go_enter func44,ntmps44;go_wp2_with fail;refine (LM c a p l v B w i.o n k.o j.o).mono ?_;rintro e w' ⟨rfl,o⟩;go_wp2;go_ret;exact ⟨by rw [<-m.o];rfl,o⟩
