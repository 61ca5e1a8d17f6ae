import Derived.Test.YtiejafonjemioaaGreatDoorTh4
import Derived.Test.YtiejafonjemioaaGreatDoorPly
import Derived.Test.YtiejafonjemioaaGreatDoorReg
set_option maxHeartbeats 8000000
set_option maxRecDepth 1000000
set_option linter.all false
open Go renaming World→Ϣ,Value→ϒ,Calls→ϙ
open Go.RowKit renaming Below→ϐ
open Option renaming some→ς
open Bool renaming false→ϝ,true→ϑ
open And renaming intro→ϟ
open Go.Value renaming slice→σ
open Go.Obj renaming cells→χ
namespace Go.Proofs.YtiejafonjemioaaGreatDoor
open Go.RowKit Proofs.Tryz
variable {c:AQ} {x:Bi} {n:Int} {w w':Ϣ} {L:List (Addr×ϒ)} {a:Addr} {v cv sv:ϒ} {s:A3} {B:Nat}
def Lt (n:Int) (w:Ϣ) :
  ϙ prog 87 #[ι n] w λe w'=>e=.returned (.bool (Af n))/\w=w':=by
 go_enter func87,ntmps87;go_wp2;all_goals (go_ret;exact ⟨by unfold Af;congr 2;simp;omega,rfl⟩)
def II:An 86:=λ_ _=>by kernel_rfl
def MA:An 89:=λ_ _=>by kernel_rfl
def Qk (n:Int) (w:Ϣ) :
  ϙ prog 86 #[ι n] w λe w'=>e=.returned (.bool (!Af n))/\w=w':=by
 go_enter func86,ntmps86;go_wp2_with (go_at_call 87;refine (Lt n _).mono ?_;rintro e w' ⟨rfl,rfl⟩);go_ret;exact ⟨rfl,rfl⟩
def Mg (w:Ϣ):∀ (x:Int) (a:Ϣ) (b:ϒ),ϐ w w a->Ny 0 a b x->ϙ prog 86 (#[b]++#[]) a (λe c=>e=.returned (.bool (!Af x))/\ϐ a a c):=by
 rintro x a b _ ⟨rfl,_⟩;exact (Qk x a).mono λe c ⟨d,f⟩=>⟨d,f▸Below.refl _ _⟩
def Ql (c:AQ) (n:Gl) (o q:Option Addr) (p r y z B:Nat) (w:Ϣ) (A:B<=w) (E:AE B w 1 Aj (σ q c.H r) c.H) (G:AE B w 1 Aj (σ o n.f p) n.f) (U:in64 n.type)
  (s:w.cell? (π y 0)=ς (σ q c.H r)) (u:w.cell? (π z 0)=ς (.func (.func 86) #[] #[])) :
  ϙ prog 89 #[.agg #[ι n.type,σ o n.f p],.pointer (ς (π y 0)),.pointer (ς (π z 0))] w λe w'=>e=.returned (.bool (BS c n))/\ϐ w w w':=by
 obtain ⟨t,f⟩:=n;dsimp only at *
 obtain ⟨W,a⟩:=ε (w.alloc (χ #[ι t,σ o f p] 74));have b:=Lh (bl1 a);have Q:=Lh (ce11 a);have v:=Γ2 Q.o;have s:=AB b.o s;have u:=AB b.o u;have H:=Lh (E.ints (b.o.mono A));have I:=Lh (G.ints (b.o.mono A));unfold in64 at U;have O:=Nt A b.o.size;clear E G;by_cases x:t<0
 .have d:decide (t<0)=ϑ:=by simp [x]
  have j:=@Lh (BS c ⟨t,f⟩=ϑ) (by unfold BS;simp [x]);go_enter func89,ntmps89;go_upto_region 1 with fail;rw [<-a];clear a;go_quiet (fail);go_wp2;go_ret;exact ⟨by rw [j.o];rfl,AG b.o _⟩
 obtain ⟨n,rfl⟩:∃ n:Nat,t=n:=⟨t.toNat,ω⟩
 have d1:=θ ((n:Int)<0);clear x;by_cases D:c.H.length<=n
 .have d:decide (c.H.length<=n)=ϑ:=by simp [D]
  have R:=η ((c.H:Int)<=(n:Int));have j:=@Lh (BS c ⟨n,f⟩=ϑ) (by unfold BS;simp [List.getElem?_eq_none D]);go_enter func89,ntmps89;go_upto_region 1 with fail;rw [<-a];clear a;go_quiet (fail);go_wp2;go_ret;exact ⟨by rw [j.o];rfl,AG b.o _⟩
 obtain ⟨k,i⟩:∃ k,c.H[n]?=ς k:=⟨_,Lg ω⟩
 obtain ⟨g,l,rfl,Y,F⟩:∃ g l,q=ς (π g l)/\g<B/\W.cell? (π g (l+n))=ς (ι k):=by
  obtain ⟨J,K,P,_,_,_,C⟩:=H.o;obtain ⟨rfl,rfl⟩:q=J/\r=K:=by simpa using P
  rcases C with S|⟨g,l,rfl,T,C⟩
  .rw [S] at i;simp at i
  .have:=(C n k i).1
   rw [Nat.mul_one] at this;exact ⟨g,l,rfl,T,this⟩
 have aK:=In n;have aL:(n:Int)<(c.H:Int):=ω;by_cases m:(f:Int)=k;rotate_left
 .have d:((f:Int) == k)=ϝ:=by simp [m]
  have R:((f:Int) != k)=ϑ:=by simp [m]
  have j:=@Lh (BS c ⟨n,f⟩=ϑ) (by unfold BS;simp [i,m]);clear i;go_enter func89,ntmps89;go_upto_region 1 with fail;rw [<-a];clear a;go_quiet (fail);go_wp2;go_ret;exact ⟨by rw [j.o];rfl,AG b.o _⟩
 have Z:((f:Int) != k)=ϝ:=by simp [m]
 have j:=@Lh (BS c ⟨n,f⟩=f.any (λn=>!Af n)) (by unfold BS;rw [if_neg ψ];simp only [Int.toNat_natCast,i];rw [if_neg (by simp [m])]);have N:=@Lh (AE B W.drew 1 Aj (σ o f p) f) (I.o.ints (AG Br 1));have L:B<=W.drew.heap.size:=O;clear i m;go_enter func89,ntmps89;go_upto_region 1 with fail;rw [<-a];clear a;go_region_held3 (λV=>V.cell? (π w 0)=ς (ι (n:Int))/\V.cell? (π w 1)=ς (σ o f p)/\V.cell? (π y 0)=ς (σ (ς (π g l)) c.H r)/\V.cell? (π z 0)=ς (.func (.func 86) #[] #[])/\V.cell? (π g (l+n))=ς (ι k))
  (first|exact ⟨v.1,v.2,s,u,F⟩|exact ⟨AB h v.1,AB h v.2,AB h s,AB h u,AB h F⟩)
  (first|(go_at_call 40;refine (BT 86 #[] (λn=>!Af n) f _ B W.drew II L N.o (Mg _)).mono ?_;rintro e X ⟨rfl,h⟩))
 have M:=Lh ((AG b.o 1).th h);clear h;go_wp2;go_ret;exact ⟨by rw [j.o];rfl,M.o⟩
def S8 (c:AQ) (g:Option Addr) (i f h B:Nat) (w:Ϣ) (k:B<=w) (m:AE B w 1 Aj (σ g c.H i) c.H) (n:w.cell? (π f 0)=ς (σ g c.H i)) (o:w.cell? (π h 0)=ς (.func (.func 86) #[] #[])) :
  ∀ (x:Gl) (a:Ϣ) (d:ϒ),ϐ w w a->Wk B a d x->ϙ prog 89 (#[d]++#[.pointer (ς (π f 0)),.pointer (ς (π h 0))]) a (λe r=>e=.returned (.bool (BS c x))/\ϐ a a r):=by
 rintro x a d b ⟨s,rfl,j,l⟩;obtain ⟨p,q,rfl⟩:=j.form;exact Ql c x p g q i f h B a (Nt k b.size) (m.ints (b.mono k)) j l (AB b n) (AB b o)
def Mh (c:AQ) (cv:ϒ) (m:Mm) (y:ϒ) (B:Nat) (w:Ϣ) (g:B<=w) (Q:BF B w cv c) (R:Lw B w y m) :
  ϙ prog 47 #[cv,y] w λe w'=>e=.returned (.bool (Bb c m))/\ϐ w w w':=by
 obtain ⟨Z,cg,rfl,o,t,A⟩:=Q;have D:=Lh o;obtain ⟨v,x,rfl⟩:=o.form;obtain ⟨O,P,rfl⟩:=t.form;obtain ⟨gv,nv,rfl,p,q⟩:=R;have E:=Lh p;have F:=Lh q;obtain ⟨V,X,rfl⟩:=p.form;obtain ⟨T,U,rfl⟩:=q.form;obtain ⟨W,a⟩:=ε (((w.alloc (χ (Bc v x O P c) 25)).alloc (χ (Bm V X T U m) 28)).alloc (χ #[.func (.func 86) #[] #[]] 97));obtain ⟨i,H,I,J,K⟩:=Λ5 (bl3 a) (sz3 a) (ce31 a) (ce32 a) (ce33 a);obtain ⟨h,S⟩:=Γ2 I.o;obtain ⟨M,N⟩:=Γ2 J.o;have L:=K.o 0 _ rfl;have Y:(w:Nat)+1+1<W:=by have:=H.o;omega
 have G:B<=W:=ω;clear o t p q A;by_cases j:(m.G:Int)=c.G;rotate_left
 .have d:=τ (m.G:Int) c.G
  have f:=@Lh (Bb c m=ϝ) (by unfold Bb;simp [j]);go_enter func47,ntmps47;go_upto_region 2 with fail;rw [<-a];clear a;go_wp2;go_ret;exact ⟨by rw [f.o];rfl,i.o⟩
 have d1:=ρ (m.G:Int) c.G;by_cases u:m.N.length<=4096;rotate_left
 .have d:=η ((4096:Int)<(m.N:Int))
  have f:=@Lh (Bb c m=ϝ) (by unfold Bb;simp [u]);clear j;go_enter func47,ntmps47;go_upto_region 2 with fail;rw [<-a];clear a;go_wp2;go_ret;exact ⟨by rw [f.o];rfl,i.o⟩
 have d2:=θ ((4096:Int)<(m.N:Int));have f:=@Lh (Bb c m=(!(m.G.any (λn=>!Af n)) && !(m.N.any (BS c)))) (by unfold Bb;simp only [j,u,decide_true,Bool.true_and]);clear j;go_enter func47,ntmps47;go_upto_region 2 with fail;rw [<-a];clear a;go_wp2_with fail;refine (BT 86 #[] (λn=>!Af n) m.G _ B W II G (E.o.ints (i.o.mono g)) (Mg _)).mono ?_;rintro e z ⟨rfl,l⟩;have h:=Δ5 l h S M N L;have Y:=Bl h.2.2.2.2;have b:=Lh (i.o.th l);clear l;cases k:m.G.any (λn=>!Af n) with
 | true=>have r:=@Lh (Bb c m=ϝ) (by rw [f.o,k];rfl);clear k;go_wp2;go_ret;exact ⟨by rw [r.o];rfl,b.o⟩
 | false=>have r:=@Lh (Bb c m=!(m.N.any (BS c))) (by rw [f.o,k];rfl);clear k;go_wp2_with fail;refine (Ii 89 #[.pointer (ς (π w 0)),.pointer (ς (π (w+1+1) 0))] (BS c) m.N _ B z MA (Nt g b.o.size) (F.o.nods (b.o.mono g)) (S8 c v x _ _ B z (Nt g b.o.size) (D.o.ints (b.o.mono g)) h.1 h.2.2.2.2)).mono ?_;rintro e w2 ⟨rfl,s⟩;have C:=Lh (b.o.th s);clear s;go_wp2;go_ret;exact ⟨by rw [r.o];rfl,C.o⟩
def L0:An 91:=λ_ _=>by kernel_rfl
def L1:An 92:=λ_ _=>by kernel_rfl
def QW (d a:ByteArray) (p l r c:ϒ) (b:Nat) (w:Ϣ) (f:b<w) (h:w.cell? (π b 0)=ς (.string a)) :
  ϙ prog 91 #[.agg #[.string d,p,l,r,c],.pointer (ς (π b 0))] w λe w'=>e=.returned (.bool (CM d a))/\ϐ w w w':=by
 have g:(w.alloc (χ #[.string d,p,l,r,c] 93)).cell? (π b 0)=ς (.string a):=by rw [World.cell?_alloc_past _ _ _ f];exact h
 go_enter func91,ntmps91;go_wp2;go_ret;exact ⟨rfl,Br.alloc (Nr _) _⟩
def Sj (d:ByteArray) (b:Nat) (B:Nat) (w:Ϣ) (g:b<w) (h:w.cell? (π b 0)=ς (.string d)):∀ (x:BK) (a:Ϣ) (c:ϒ),ϐ w w a->EI B a c x->ϙ prog 91 (#[c]++#[.pointer (ς (π b 0))]) a (λe i=>e=.returned (.bool (CM x.name d))/\ϐ a a i):=by
 rintro x a c f ⟨cv,rfl,_⟩;exact QW x.name d _ _ _ _ b a (by have:=f.size;omega) (by rw [f.cell (p:=(π b 0)) g];exact h)
def QX (n:Int) (w:Ϣ) :
  ϙ prog 92 #[ι n] w λe w'=>e=.returned (.bool (!Af n))/\w=w':=by
 go_enter func92,ntmps92;go_wp2_with (go_at_call 87;refine (Lt n _).mono ?_;rintro e w' ⟨rfl,rfl⟩);go_ret;exact ⟨rfl,rfl⟩
def Sk (w:Ϣ):∀ (x:Int) (a:Ϣ) (b:ϒ),ϐ w w a->Ny 0 a b x->ϙ prog 92 (#[b]++#[]) a (λe c=>e=.returned (.bool (!Af x))/\ϐ a a c):=by
 rintro x a b _ ⟨rfl,_⟩;exact (QX x a).mono λe c ⟨d,f⟩=>⟨d,f▸Below.refl _ _⟩
def RC (c:AQ) (x:Bi) (w:Ϣ) (e:Ending) (w':Ϣ):Prop:=e=.returned (ι (AS c x 0))/\ϐ w w w'
def Gb (h:AS c x 0=n) (a:ϐ w w w'):RC c x w (.returned (ι n)) w':=⟨by rw [h],a⟩
def UC (a:Dh c x.proc = -1):AS c x 0=9:=by
 unfold AS;rw [if_neg ω];cases c.funcs[(Dh c x.proc).toNat]? with
 | none=>rfl
 | some y=>simp only [];rw [if_pos ω]
def UB {k:Nat} {y:BK} (a:Dh c x.proc=k) (b:c.funcs[k]?=ς y):AS c x 0=if (x.args:Int)≠y.params then 3 else if x.args.any (λn=>!Af n) then 11 else 0:=by
 unfold AS;rw [if_neg ω,a];simp only [Int.toNat_natCast,b];rw [if_neg ω]
def Lr (c:AQ) (cv:ϒ) (x:Bi) (K:ϒ) (B:Nat) (w:Ϣ) (m:B<=w) (Z:BF B w cv c) (hx:Gh B w K x) :
  ϙ prog 49 #[cv,K] w (RC c x w):=by
 obtain ⟨fv,gv,rfl,J,u,aR⟩:=Z;obtain ⟨V,X,rfl⟩:=J.form;obtain ⟨H,I,rfl⟩:=u.form;obtain ⟨av,rfl,t,aZ⟩:=hx;obtain ⟨xa,xc,rfl⟩:=t.form;obtain ⟨W,h⟩:=ε ((w.alloc (χ (Bc V X H I c) 25)).alloc (χ #[.string x.proc,σ xa x.args xc] 80));have l:=Lh (bl2 h);have T:=Lh (ce21 h);have U:=Lh (ce22 h);have v:=T.o 2 _ rfl;obtain ⟨z,x1⟩:=Γ2 U.o;have L:(w:Nat)+1<W:=Bl z;have s:=Nt m l.o.size;have A:=Lh (u.funs (l.o.mono m));have S:=Lh (t.ints (l.o.mono m));have R:=Lh z;clear J u t;go_enter func49,ntmps49;go_upto_region 1 with fail;rw [<-h];clear h;go_wp2_with fail;refine (FQ 91 #[.pointer (ς (π (w+1) 0))] (λf=>CM f.name x.proc) c.funcs _ B _ L0 s A.o (Sj x.proc _ B _ L R.o)).mono ?_;rintro e w1 ⟨rfl,g⟩;have v:=Δ3 g v z x1;have L:=Bl v.2.1;have q:=Lh (l.o.th g);have Q:=Lh (A.o.funs (g.mono s));have N:=Lh (S.o.ints (g.mono s));clear g;rcases G1 (λf=>CM f.name x.proc) c.funcs with b|⟨k,hk,b⟩
 .have a:=Lh (UC b)
  rw [b];clear b;go_wp2;go_ret;exact Gb a.o q.o
 obtain ⟨y,i⟩:∃ y,c.funcs[k]?=ς y:=⟨_,Lg hk⟩
 have r:=Lh (UB b i);rw [b];clear b;obtain ⟨M,P,G,aW,aX,aY,o⟩:=Q.o;obtain ⟨rfl,rfl⟩:H=M/\I=P:=by simpa using G
 rcases o with Y|⟨yb,yo,rfl,aS,o⟩
 .rw [Y] at i;simp at i
 have p1:=(o k y i).2.1;have aT:=In k;have aU:(k:Int)<(c.funcs:Int):=ω;have aV:=θ ((k:Int)<0);clear G o i;by_cases d:(x.args:Int)=y.params;rotate_left
 .have a:=@Lh (AS c x 0=3) (by rw [r.o,if_pos d])
  have D:((x.args:Int) != y.params)=ϑ:=by simp [d]
  clear d;go_wp2_with fail;go_quiet (fail);have j:=Lh (AG q.o nq);go_wp2;go_ret;exact Gb a.o j.o
 have C:=Lh d;have D:((x.args:Int) != y.params)=ϝ:=by simp [d]
 rw [<-d] at p1;clear d D;go_wp2_with fail;go_quiet (fail);have j:=Lh (AG q.o nq);have O:=Lh (N.o.ints (AG Br nq));go_wp2_with fail;refine (BT 92 #[] (λn=>!Af n) x.args _ B _ L1 (Nt m j.o.size) O.o (Sk _)).mono ?_;rintro e w2 ⟨rfl,F⟩;have E:=Lh (j.o.th F);clear F;cases p:x.args.any (λn=>!Af n) with
 | true=>have a:=@Lh (AS c x 0=11) (by rw [r.o,if_neg (by rw [C.o];simp),if_pos p]);clear p;go_wp2;go_ret;exact Gb a.o E.o
 | false=>have a:=@Lh (AS c x 0=0) (by rw [r.o,if_neg (by rw [C.o];simp),if_neg (by rw [p];simp)]);clear p;go_wp2;go_ret;exact Gb a.o E.o
def UH (m:AV) (fv:ϒ) (B:Nat) (w:Ϣ) (p:AE B w 4 (CK B) fv m.J):ϙ prog 127 #[.agg (AC fv m)] w λe w'=>e=.returned (.bool (Cu m))/\ϐ w w w':=by
 obtain ⟨C,D,rfl⟩:=p.fm;clear p;obtain ⟨k,⟨i,j,c,f,b⟩,g,a,h⟩:=m;obtain ⟨n,l⟩:=ε k.length;have q:=@Lh (Cu ⟨k,⟨i,j,c,f,b⟩,g,a,h⟩=(decide (n=0) && (decide (i=0/\j=0/\c=0/\f=0/\b=0) && (decide (g=0) && (decide (a=0) && decide (h=0)))))) (by
  unfold Cu;rw [l];cases k<;>simp)
 unfold AC;dsimp only;rw [<-l];clear l;by_cases o:n=0;by_cases r:i=0;by_cases s:j=0;by_cases t:c=0;by_cases u:f=0;by_cases v:b=0;by_cases x:g=0;by_cases y:a=0;by_cases z:h=0;all_goals
  try have d:=beq_false_of_ne ‹¬_=_›
  try have A:((n:Int) == 0)=ϝ:=by simp [o]
  try subst o
  try subst r
  try subst s
  try subst t
  try subst u
  try subst v
  try subst x
  try subst y
  try subst z
  go_enter func127,ntmps127;go_wp2;go_ret;exact ⟨by rw [q.o];simp [*],AA _ _⟩
def DD (L:List (Addr×ϒ)) (w:Ϣ):Prop:=∀ (j:Nat) p,L[j]?=ς p->w.cell? p.1=ς p.2
def DD.get (h:DD L w) (j:Nat) (b:L[j]?=ς (a,v)):w.cell? a=ς v:=h j (a,v) b
def DD.kp (h:DD L w) (a:ϐ w w w'):DD L w':=λj p b=>AB a (h j p b)
def DD.nil :DD [] w:=λj p h=>by simp at h
def DD.cons (h:w.cell? a=ς v) (c:DD L w):DD ((a,v)::L) w:=λj p b=>by
 cases j with
 | zero=>simp at b;subst b;exact h
 | succ j=>exact c j p (by simpa using b)
def Pv:An 130:=λ_ _=>by kernel_rfl
def U9 (c:AQ) (l r:Option Addr) (m s:Nat) (x:Bi) (t:ϒ) (B b:Nat) (w:Ϣ) (n:B<=w) (p:Gh B w t x) (o:BF B w (.agg (Bc l m r s c)) c) (f:AR w b [σ l c.H m,ι c.G,σ r c.funcs s]) :
  ϙ prog 130 #[t,.pointer (ς (π b 0))] w λe w'=>e=.returned (.bool (!(AS c x 0 == 0)))/\ϐ w w w':=by
 have u:=Lh o;have v:=Lh p;obtain ⟨z,rfl,k,-⟩:=p;obtain ⟨h,i,rfl⟩:=k.fm;have A:=(f.alloc (χ #[.string x.proc,σ h x.args i] 80)) 0 _ rfl;have C:=(f.alloc (χ #[.string x.proc,σ h x.args i] 80)) 1 _ rfl;have D:=(f.alloc (χ #[.string x.proc,σ h x.args i] 80)) 2 _ rfl;clear o k f;go_enter func130,ntmps130;go_wp2_with fail;refine (Lr c _ x _ B _ φ (u.o.below ((AA _ _).mono n)) (v.o.below ((AA _ _).mono n))).mono ?_;rintro e E ⟨rfl,y⟩;have j:=As y;cases a:(AS c x 0 == 0) with
 | true=>
  have q:AS c x 0=0:=by simpa using a
  have g:=@Lh ((!(AS c x 0 == 0))=ϝ) (by rw [a];rfl);rw [q];clear q a;go_wp2;go_ret;exact ⟨by rw [g.o];rfl,j⟩
 | false=>
  have d:(AS c x 0 != 0)=ϑ:=by unfold bne;rw [a];rfl
  have g:=@Lh ((!(AS c x 0 == 0))=ϑ) (by rw [a];rfl);clear a;go_wp2;go_ret;exact ⟨by rw [g.o];rfl,j⟩
def Fw (m:AV):Nat:=if Cu m then 0 else 1
def Ez (c:AQ) (m:AV) (n:Int):Prop:=(Cu m=ϑ/\n=0)\/(Cu m=ϝ/\Ax c m/\Cs m=ϑ/\0<=n/\n<=1099511627776)
structure Ej (c:AQ) (s:A3) (m:AV) (n:Int) (l:List Bi) (r:List CD) (b e:List Int):Prop where
 head:Ez c m n
 P:e.length=r.length
 Z:b.length=r.length+Fw m
 ops:l.length+r.length+Fw m<=2000
 timed:BA b e (-1) s.U=ϑ
 right:l.any (λx=>!(AS c x 0 == 0))=ϝ
def Wb (w:Ϣ):List (Addr×ϒ)->Prop
 | []=>True
 | (a,v)::L=>w.cell? a=ς v/\Wb w L
def DD.all (h:DD L w):Wb w L:=by
 induction L with
 | nil=>trivial
 | cons p L c=>obtain ⟨a,v⟩:=p;exact ⟨h.get 0 rfl,c (λj q b=>h (j+1) q (by simpa using b))⟩
def NG (D:B<=w) (F:BF B w cv c) (hs:CJ B w sv s) :
  ∃ (j:Option Addr) (k:Nat) (u:Option Addr) (v:Nat) (l:Option Addr) (m:Nat) (n:Option Addr) (o:Nat) (x:Option Addr) (y:Nat) (p:Option Addr) (q:Nat) (e:Option Addr) (f:Nat) (r:Option Addr) (t:Nat) (b:Option Addr) (d:Nat) (g:Option Addr) (i:Nat) (W:Ϣ) (L:List (Addr×ϒ)),
   cv=.agg (Bc j k u v c)/\sv=.agg (Bt l m n o x y p q e f r t b d g i s)/\W=(w.alloc (χ (Bc j k u v c) 25)).alloc (χ (Bt l m n o x y p q e f r t b d g i s) 34)/\Hid (ϐ w w W)/\Hid (DD L W)/\Hid (∀ V,DD L V->V.cell? (π w 0)=ς (σ j c.H k)/\V.cell? (π w 1)=ς (ι c.G)/\V.cell? (π w 2)=ς (σ u c.funcs v)/\V.cell? (π (w+1) 0)=ς (σ l s.M.G m)/\V.cell? (π (w+1) 1)=ς (σ n s.M.N o)/\V.cell? (π (w+1) 2)=ς (ι s.Y)/\V.cell? (π (w+1) 3)=ς (σ x s.R y)/\V.cell? (π (w+1) 4)=ς (σ p s.N q)/\V.cell? (π (w+1) 5)=ς (σ e s.A f)/\V.cell? (π (w+1) 6)=ς (σ r s.results t)/\V.cell? (π (w+1) 7)=ς (σ b s.Z d)/\V.cell? (π (w+1) 8)=ς (σ g s.P i)/\V.cell? (π (w+1) 9)=ς (ι s.U)/\True)/\Hid (BF B W (.agg (Bc j k u v c)) c)/\Hid (CJ B W (.agg (Bt l m n o x y p q e f r t b d g i s)) s)/\Hid (B<=W)/\Hid ((W:Nat)=(w:Nat)+2):=by
 have H:=Lh F;have I:=Lh hs;obtain ⟨l,m,n,o,x,y,p,q,e,f,r,t,b,d,g,i,rfl⟩:=hs.open_;obtain ⟨M,N,rfl,J,K,-⟩:=F;obtain ⟨j,k,rfl⟩:=J.fm;obtain ⟨u,v,rfl⟩:=K.fm;obtain ⟨W,z⟩:=ε ((w.alloc (χ (Bc j k u v c) 25)).alloc (χ (Bt l m n o x y p q e f r t b d g i s) 34));have A:=Lh (bl2 z);have C:=ce21 z;have a:=ce22 z;obtain ⟨L,E⟩:∃ L:List (Addr×ϒ),L=[((π w 0),σ j c.H k),((π w 1),ι c.G),((π w 2),σ u c.funcs v),((π (w+1) 0),σ l s.M.G m),((π (w+1) 1),σ n s.M.N o),((π (w+1) 2),ι s.Y),((π (w+1) 3),σ x s.R y),((π (w+1) 4),σ p s.N q),((π (w+1) 5),σ e s.A f),((π (w+1) 6),σ r s.results t),((π (w+1) 7),σ b s.Z d),((π (w+1) 8),σ g s.P i),((π (w+1) 9),ι s.U)]:=⟨_,rfl⟩
 have G:=@Lh (DD L W) (by rw [E];exact .cons (C 0 _ rfl) <| .cons (C 1 _ rfl) <| .cons (C 2 _ rfl) <| .cons (a 0 _ rfl) <| .cons (a 1 _ rfl) <| .cons (a 2 _ rfl) <| .cons (a 3 _ rfl) <| .cons (a 4 _ rfl) <| .cons (a 5 _ rfl) <| .cons (a 6 _ rfl) <| .cons (a 7 _ rfl) <| .cons (a 8 _ rfl) <| .cons (a 9 _ rfl) <| DD.nil);exact ⟨_,_,_,_,_,_,_,_,_,_,_,_,_,_,_,_,_,_,_,_,W,L,rfl,rfl,z,A,G,Lh (λV h=>by rw [E] at h;exact h.all),Lh (H.o.below (A.o.mono D)),Lh (I.o.below (A.o.mono D)),Lh (Nt D A.o.size),Lh (by rw [z];simp)⟩
def RY {t:Nat} {m:AV} {l:List Bi} {r:List CD} {b e:List Int} (O:B<=w) (hc:BF B w cv c) (hs:CJ B w sv s)
  (hm:s.R[t]?=ς m) (hn:s.N[t]?=ς n) (hl:s.A[t]?=ς l) (hr:s.results[t]?=ς r) (hb:s.Z[t]?=ς b) (he:s.P[t]?=ς e) :
  ∃ (y:Option Addr) (z:Nat) (A:Option Addr) (C:Nat) (G:Option Addr) (H:Nat) (I:Option Addr) (J a d N u no K k o E v x M i j D p q F:Nat) (Z:Option Addr) (uc:Nat) (X:Option Addr) (Y:Nat) (pa:Option Addr) (Q:Nat) (R:Option Addr) (S:Nat) (T:Option Addr) (U:Nat) (W:Ϣ) (L:List (Addr×ϒ)),
   cv=.agg (Bc y z A C c)/\sv=.agg #[σ G s.M.G H,σ I s.M.N J,ι s.Y,σ (ς (π a d)) s.R N,σ (ς (π u no)) s.N K,σ (ς (π k o)) s.A E,σ (ς (π v x)) s.results M,σ (ς (π i j)) s.Z D,σ (ς (π p q)) s.P F,ι s.U]/\W=(w.alloc (χ (Bc y z A C c) 25)).alloc (χ #[σ G s.M.G H,σ I s.M.N J,ι s.Y,σ (ς (π a d)) s.R N,σ (ς (π u no)) s.N K,σ (ς (π k o)) s.A E,σ (ς (π v x)) s.results M,σ (ς (π i j)) s.Z D,σ (ς (π p q)) s.P F,ι s.U] 34)/\Hid (ϐ w w W)/\Hid (DD L W)/\Hid (∀ V,DD L V->V.cell? (π w 0)=ς (σ y c.H z)/\V.cell? (π w 1)=ς (ι c.G)/\V.cell? (π w 2)=ς (σ A c.funcs C)/\V.cell? (π (w+1) 0)=ς (σ G s.M.G H)/\V.cell? (π (w+1) 1)=ς (σ I s.M.N J)/\V.cell? (π (w+1) 2)=ς (ι s.Y)/\V.cell? (π (w+1) 3)=ς (σ (ς (π a d)) s.R N)/\V.cell? (π (w+1) 4)=ς (σ (ς (π u no)) s.N K)/\V.cell? (π (w+1) 5)=ς (σ (ς (π k o)) s.A E)/\V.cell? (π (w+1) 6)=ς (σ (ς (π v x)) s.results M)/\V.cell? (π (w+1) 7)=ς (σ (ς (π i j)) s.Z D)/\V.cell? (π (w+1) 8)=ς (σ (ς (π p q)) s.P F)/\V.cell? (π (w+1) 9)=ς (ι s.U)/\V.cell? (π a (d+t*9))=ς (σ Z m.J uc)/\V.cell? (π a (d+t*9+1))=ς (ι m.Q.K)/\V.cell? (π a (d+t*9+2))=ς (ι m.Q.O)/\V.cell? (π a (d+t*9+3))=ς (ι m.Q.D)/\V.cell? (π a (d+t*9+4))=ς (ι m.Q.V)/\V.cell? (π a (d+t*9+5))=ς (ι m.Q.X)/\V.cell? (π a (d+t*9+6))=ς (ι m.Y)/\V.cell? (π a (d+t*9+7))=ς (ι m.C)/\V.cell? (π a (d+t*9+8))=ς (ι m.I)/\V.cell? (π u (no+t))=ς (ι n)/\V.cell? (π k (o+t))=ς (σ X l Y)/\V.cell? (π v (x+t))=ς (σ pa r Q)/\V.cell? (π i (j+t))=ς (σ R b S)/\V.cell? (π p (q+t))=ς (σ T e U)/\True)/\Hid (BF B W (.agg (Bc y z A C c)) c)/\Hid (AE B W 4 (CK B) (σ Z m.J uc) m.J)/\Hid (r.length<=140737488355328)/\Hid (l.length<=140737488355328)/\Hid (AE B W 2 (DA B) (σ X l Y) l)/\Hid (AE B W 1 Aj (σ R b S) b)/\Hid (AE B W 1 Aj (σ T e U) e)/\Hid (B<=W)/\(0:Int)<=(t:Int)/\(t:Int)<(s.R:Int)/\(t:Int)<(s.N:Int)/\(t:Int)<(s.A:Int)/\(t:Int)<(s.results:Int)/\(t:Int)<(s.Z:Int)/\(t:Int)<(s.P:Int):=by
 obtain ⟨G,H,I,J,ra,N,na,K,ca,E,oa,M,ba,D,ea,F,rfl⟩:=hs.open_;obtain ⟨-,-,pr,pn,Q,po,pb,pe,-,aQ⟩:=hs.parts;have aH:=Lh hc;obtain ⟨aR,aS,rfl,aO,aP,-⟩:=hc;obtain ⟨y,z,rfl⟩:=aO.fm;obtain ⟨A,C,rfl⟩:=aP.fm;obtain ⟨a,d,rfl,aY,hE⟩:=pr.nth hm;obtain ⟨uv,u4,k0,k1,k2,k3,k4,k5,k6,k7,k8,-⟩:=hE.nine;obtain ⟨Z,uc,rfl⟩:=u4.fm;obtain ⟨u,no,rfl,aW,kn,-⟩:=pn.nth hn;obtain ⟨k,o,rfl,aU,lv,kl,l4⟩:=Q.nth hl;obtain ⟨X,Y,rfl⟩:=l4.fm;obtain ⟨v,x,rfl,aX,pv,kp,p4⟩:=po.nth hr;obtain ⟨pa,Q,rfl⟩:=p4.fm;obtain ⟨i,j,rfl,aT,bv,kb,b4⟩:=pb.nth hb;obtain ⟨R,S,rfl⟩:=b4.fm;obtain ⟨p,q,rfl,aV,ev,ke,e4⟩:=pe.nth he;obtain ⟨T,U,rfl⟩:=e4.fm;rw [Nat.mul_one] at kn kl kp kb ke;have i0:=In t;have i1:(t:Int)<(s.R:Int):=by have:=(Ll hm);omega
 have i2:(t:Int)<(s.N:Int):=by have:=(Ll hn);omega
 have i3:(t:Int)<(s.A:Int):=by have:=(Ll hl);omega
 have i4:(t:Int)<(s.results:Int):=by have:=(Ll hr);omega
 have i5:(t:Int)<(s.Z:Int):=by have:=(Ll hb);omega
 have i6:(t:Int)<(s.P:Int):=by have:=(Ll he);omega
 obtain ⟨W,P⟩:=ε ((w.alloc (χ (Bc y z A C c) 25)).alloc (χ #[σ G s.M.G H,σ I s.M.N J,ι s.Y,σ (ς (π a d)) s.R N,σ (ς (π u no)) s.N K,σ (ς (π k o)) s.A E,σ (ς (π v x)) s.results M,σ (ς (π i j)) s.Z D,σ (ς (π p q)) s.P F,ι s.U] 34));have f:=Lh (bl2 P);have aN:=Lh (sz2 P);have b0:=ce21 P;have g:=ce22 P;obtain ⟨L,aF⟩:∃ L:List (Addr×ϒ),L=[((π w 0),σ y c.H z),((π w 1),ι c.G),((π w 2),σ A c.funcs C),((π (w+1) 0),σ G s.M.G H),((π (w+1) 1),σ I s.M.N J),((π (w+1) 2),ι s.Y),((π (w+1) 3),σ (ς (π a d)) s.R N),((π (w+1) 4),σ (ς (π u no)) s.N K),((π (w+1) 5),σ (ς (π k o)) s.A E),((π (w+1) 6),σ (ς (π v x)) s.results M),((π (w+1) 7),σ (ς (π i j)) s.Z D),((π (w+1) 8),σ (ς (π p q)) s.P F),((π (w+1) 9),ι s.U),((π a (d+t*9)),σ Z m.J uc),((π a (d+t*9+1)),ι m.Q.K),((π a (d+t*9+2)),ι m.Q.O),((π a (d+t*9+3)),ι m.Q.D),((π a (d+t*9+4)),ι m.Q.V),((π a (d+t*9+5)),ι m.Q.X),((π a (d+t*9+6)),ι m.Y),((π a (d+t*9+7)),ι m.C),((π a (d+t*9+8)),ι m.I),((π u (no+t)),ι n),((π k (o+t)),σ X l Y),((π v (x+t)),σ pa r Q),((π i (j+t)),σ R b S),((π p (q+t)),σ T e U)]:=⟨_,rfl⟩
 have H0:=@Lh (DD L W) (by rw [aF];exact .cons (b0 0 _ rfl) <| .cons (b0 1 _ rfl) <| .cons (b0 2 _ rfl) <| .cons (g 0 _ rfl) <| .cons (g 1 _ rfl) <| .cons (g 2 _ rfl) <| .cons (g 3 _ rfl) <| .cons (g 4 _ rfl) <| .cons (g 5 _ rfl) <| .cons (g 6 _ rfl) <| .cons (g 7 _ rfl) <| .cons (g 8 _ rfl) <| .cons (g 9 _ rfl) <| .cons (AB f.o k0) <| .cons (AB f.o k1) <| .cons (AB f.o k2) <| .cons (AB f.o k3) <| .cons (AB f.o k4) <| .cons (AB f.o k5) <| .cons (AB f.o k6) <| .cons (AB f.o k7) <| .cons (AB f.o k8) <| .cons (AB f.o kn) <| .cons (AB f.o kl) <| .cons (AB f.o kp) <| .cons (AB f.o kb) <| .cons (AB f.o ke) <| DD.nil);have HC:=Lh (aH.o.below (f.o.mono O));have HU:=Lh (u4.fras (f.o.mono O));have aL:=Lh (by obtain ⟨_,_,_,h,_⟩:=p4;exact h);have aI:=Lh (by obtain ⟨_,_,_,h,_⟩:=l4;exact h);have aJ:=Lh (l4.cals (f.o.mono O));have aG:=Lh (b4.ints (f.o.mono O));have aK:=Lh (e4.ints (f.o.mono O));have aM:=@Lh (B<=W) (by have:=aN.o;omega);exact ⟨_,_,_,_,_,_,_,_,_,_,_,_,_,_,_,_,_,_,_,_,_,_,_,_,_,_,_,_,_,_,_,_,_,_,_,_,W,L,rfl,rfl,P,f,H0,Lh (λV h=>by rw [aF] at h;exact h.all),HC,HU,aL,aI,aJ,aG,aK,aM,i0,i1,i2,i3,i4,i5,i6⟩
def KS (c:AQ) (cv:ϒ) (s:A3) (sv:ϒ) (t:Nat) (m:AV) (n:Int) (l:List Bi) (r:List CD) (b e:List Int) (B:Nat) (w:Ϣ) (hL:C8 w) (Q:B<=w) (aL:Bv c) (hc:BF B w cv c) (hs:CJ B w sv s)
  (hm:s.R[t]?=ς m) (q:s.N[t]?=ς n) (hl:s.A[t]?=ς l) (hr:s.results[t]?=ς r) (hb:s.Z[t]?=ς b) (he:s.P[t]?=ς e) :
  ϙ prog 97 #[cv,sv,ι t] w λz w'=>z=.returned (.bool (pB (Ej c s m n l r b e)))/\ϐ w w w':=by
 have aN:=Lh hc;obtain ⟨fa,fc,qa,qc,ga,gc,ma,mc,rb,ro,rc,nb,no,nc,cb,co,cc,ob,oo,oc,bb,bo,bc,eb,eo,ec,ua,uc,la,lc,pa,pc,bO,bP,bQ,bR,W,L,rfl,rfl,hW,i,X,f,HC,HU,aR,aO,aP,aM,aQ,A,i0,i1,i2,i3,i4,i5,i6⟩:=RY Q hc hs hm q hl hr hb he;have HL:=Lh (hL.below i.o);clear hL hc hs hm q hl hr hb he;have g0:=f.o _ X.o;go_enter func97,ntmps97;go_upto_region 1 with fail;rw [<-hW];clear hW;go_wp2_with fail;refine (UH m _ B _ HU.o).mono ?_;rintro e1 S ⟨rfl,k⟩;have H1:=Lh (X.o.kp k);have T:=Lh k;clear g0 k;have SC:Hid (∀ V,DD L V->AR V w [σ fa c.H fc,ι c.G,σ qa c.funcs qc]):=Lh (λV h=>by
  obtain ⟨g0,g1,g2,-⟩:=f.o _ h;intro j v p
  match j,p with
  | 0,p=>cases p;exact g0
  | 1,p=>cases p;exact g1
  | 2,p=>cases p;exact g2)
 go_upto_if 15 with fail
 go_cut [7] (λs7 K=>s7=ι (Fw m:Int)/\Hid (DD L K)/\Hid (ϐ W W K)/\Hid (Ez c m n))
 case first=>
  cases C:Cu m with
  | true=>
   have HR:=@Lh (Fw m=0) (by unfold Fw;rw [C];rfl);have u:=Lh C;clear C;have g7:=f.o _ H1.o;by_cases q:n=0
   .subst q
    go_wp2;go_meet
    case rel=>exact ⟨by rw [HR.o];rfl,H1,T,Lh (.inl ⟨u.o,rfl⟩)⟩
   .have a:Hid (pB (Ej c s m n l r b e)=ϝ):=Lh (Bw (λh=>by
     rcases h.head with ⟨-,h⟩|⟨h,-⟩
     .exact q h
     .rw [u.o] at h;cases h))
    have d:=τ n 0 q;clear q;go_wp2;go_ret;exact ⟨by rw [a.o];rfl,i.o.th T.o⟩
  | false=>
   have HR:=@Lh (Fw m=1) (by unfold Fw;rw [C];rfl);have u:=Lh C;clear C;go_upto_region 4 with fail
   go_cut [48] (λbN K=>bN=.bool (!pB (Ez c m n))/\Hid (DD L K)/\Hid (ϐ W W K))
   case first=>
    have y:=Lh (AG T.o 1);have aJ:=Lh (X.o.kp y.o);refine Gq (DD L) [6,14] κ κ aJ.o ?_;refine softW f ?_;refine E5 (Eq.refl ϑ) rfl ?_;go_simp;go_at_call 128;refine (MG c _ m _ B S.drew (HL.o.below y.o) (Nt A.o y.o.size) (HC.o.below (y.o.mono A.o)) (HU.o.fras (y.o.mono A.o)) aL).mono ?_;rintro z w2 ⟨rfl,o⟩;have Y:=Lh (aJ.o.kp o);have B2:=Lh (y.o.th o);refine ⟨Y.o,?_⟩;clear o;cases H:pB (Ax c m) with
    | false=>
     have a:Hid (pB (Ez c m n)=ϝ):=Lh (Bw (λh=>by
      rcases h with ⟨h,-⟩|⟨-,h,-⟩
      .rw [u.o] at h;cases h
      .rw [CP h] at H;cases H))
     clear H;refine softW f ?_;refine Fp ?_;go_wp2;go_meet
     case rel=>exact ⟨by rw [a.o];rfl,Y,B2⟩
    | true=>
     have HV:=Lh H;clear H;refine softW f ?_;refine E5 (Eq.refl ϑ) rfl ?_;go_simp;go_at_call 70;refine (Jp m _ _ _ w2).mono ?_;rintro z w3 ⟨rfl,aI⟩;have H3:=Lh (Y.o.kp aI);have B3:=Lh (B2.o.th aI);refine ⟨H3.o,?_⟩;clear aI;by_cases h0:n<0<;>by_cases h1:1099511627776<n<;>cases g:Cs m
     all_goals try (exfalso;omega)
     all_goals
      have a:=@Lh (pB (Ez c m n)=(Cs m && (!decide (n<0) && !decide (1099511627776<n)))) (by
       by_cases h:Ez c m n
       .rw [CP h]
        rcases h with ⟨P,-⟩|⟨-,-,P,h4,h5⟩
        .rw [u.o] at P;cases P
        .rw [P];simp;omega
       .rw [Bw h]
        have hx:¬(Cs m=ϑ/\0<=n/\n<=1099511627776):=λh9=>h (.inr ⟨u.o,Classical.byContradiction (λh=>by have:=HV.o;rw [Bw h] at this;cases this),h9⟩);rw [g];simp [g] at hx ⊢;all_goals omega)
      rw [g] at a;first|have d0:=decide_eq_false h0|have d0:=decide_eq_true h0
      first|have O:=decide_eq_false h1|have O:=decide_eq_true h1
      clear g h0 h1;refine softW f ?_;refine Fp ?_;go_wp2;go_meet
      case rel=>exact ⟨by rw [a.o];simp [*],H3,B3⟩
   case rest=>
    obtain ⟨rfl,H4,B4⟩:=hcut;cases D:pB (Ez c m n) with
    | false=>have a:=@Lh (pB (Ej c s m n l r b e)=ϝ) (Bw (λh=>by rw [CP h.head] at D;cases D));clear D;go_wp2;go_ret;exact ⟨by rw [a.o];rfl,i.o.th B4.o⟩
    | true=>
     have Z:=Lh (Classical.byContradiction λh=>by rw [Bw h] at D;cases D);clear D;go_wp2;go_meet
     case rel=>exact ⟨by rw [HR.o];rfl,H4,B4,Z⟩
 case rest=>
  obtain ⟨rfl,H8,E,Z⟩:=hcut;have aK:=@Lh (Fw m<=1) (by unfold Fw;split<;>omega);obtain ⟨R,hR⟩:=ε (Fw m);rw [<-hR] at aK ⊢;have bS:=aK.o;have N:=Lh hR;have g8:=f.o _ H8.o;clear hR;have bJ:=aR.o;have bI:=aO.o;have bK:IntKind.i64.wrap ((r:Int)+(R:Int))=(r:Int)+(R:Int):=by rw [IntKind.wrap_i64];omega
  have bL:IntKind.i64.wrap ((l:Int)+(r:Int))=(l:Int)+(r:Int):=by rw [IntKind.wrap_i64];omega
  have bM:IntKind.i64.wrap ((l:Int)+(r:Int)+(R:Int))=(l:Int)+(r:Int)+(R:Int):=by rw [IntKind.wrap_i64];omega
  by_cases I:e.length=r.length;rotate_left
  .have a:=@Lh (pB (Ej c s m n l r b e)=ϝ) (Bw (λh=>I h.P))
   have O:=τ (e:Int) (r:Int);clear I;go_wp2;go_ret;exact ⟨by rw [a.o];rfl,i.o.th E.o⟩
  have O:((e:Int) != (r:Int))=ϝ:=by rw [I];simp
  have Q1:=Lh I;clear I;by_cases J:b.length=r.length+R;rotate_left
  .have a:=@Lh (pB (Ej c s m n l r b e)=ϝ) (Bw (λh=>J (by rw [N.o];exact h.Z)))
   have d3:=τ (b:Int) ((r:Int)+(R:Int));clear J;go_wp2;go_ret;exact ⟨by rw [a.o];rfl,i.o.th E.o⟩
  have d3:((b:Int) != (r:Int)+(R:Int))=ϝ:=by rw [J];simp
  have Q2:=Lh J;clear J;by_cases q3:2000<l.length+r.length+R
  .have a:=@Lh (pB (Ej c s m n l r b e)=ϝ) (Bw (λh=>by have:=h.ops;rw [<-N.o] at this;omega))
   have d5:=η ((2000:Int)<(l:Int)+(r:Int)+(R:Int));clear q3;go_wp2;go_ret;exact ⟨by rw [a.o];rfl,i.o.th E.o⟩
  have d5:=θ ((2000:Int)<(l:Int)+(r:Int)+(R:Int));have Q3:=Lh q3;clear q3;go_upto_region 11 with fail;clear g8 bK bL bM O d3 d5;have F:=@Lh (ϐ w w wc.drew) (AG (i.o.th E.o) 1);have U:=@Lh (ϐ W W wc.drew) (AG E.o 1);have M:=@Lh (DD L wc.drew) (H8.o.kp (AG Br 1));refine Gq (DD L) [12,20] κ κ M.o ?_;refine softW f ?_;refine E5 (Eq.refl ϑ) rfl ?_;go_simp;go_at_call 129;refine (S9 b e _ _ s.U B B wc.drew (aM.o.ints (U.o.mono A.o)) (aQ.o.ints (U.o.mono A.o))).mono ?_;rintro z w2 ⟨rfl,rfl⟩;refine ⟨M.o,?_⟩;cases G:BA b e (-1) s.U with
  | false=>have a:=@Lh (pB (Ej c s m n l r b e)=ϝ) (Bw (λh=>by rw [h.timed] at G;cases G));clear G;refine softW f ?_;refine Fp ?_;go_wp2;go_ret;exact ⟨by rw [a.o];rfl,F.o⟩
  | true=>
   have a:=@Lh (pB (Ej c s m n l r b e)=!l.any (λx=>!(AS c x 0 == 0))) (by
    cases g:l.any (λx=>!(AS c x 0 == 0)) with
    | true=>rw [Bw (λh=>by rw [h.right] at g;cases g)];rfl
    | false=>rw [CP ⟨Z.o,Q1.o,by rw [<-N.o];exact Q2.o,by rw [<-N.o];have:=Q3.o;omega,G,g⟩];rfl)
   clear G;refine softW f ?_;refine E5 (Eq.refl ϑ) rfl ?_;go_simp;go_at_call 36;refine (Fb 130 #[.pointer (ς (π w 0))] (λx=>!(AS c x 0 == 0)) l _ B wc.drew Pv (Nt Q F.o.size) (aP.o.cals (U.o.mono A.o)) (λx S av k hx=>U9 c fa qa fc qc x av B (w:Nat) S (Nt Q (F.o.th k).size) hx (aN.o.below ((F.o.th k).mono Q)) (SC.o S (M.o.kp k)))).mono ?_;rintro z w2 ⟨rfl,o⟩;have H9:=Lh (M.o.kp o);have B9:=Lh (F.o.th o);refine ⟨H9.o,?_⟩;clear o;refine softW f ?_;refine Fp ?_;go_wp2;go_ret;exact ⟨by rw [a.o];rfl,B9.o⟩
structure Bu (c:AQ) (s:A3):Prop where
 sound:AU c
 fits:Bb c s.M=ϑ
 Y:0<=s.Y/\s.Y<=1048576
 U:0<=s.U/\s.U<=65536
 one:1<=s.R.length
 eight:s.R.length<=8
 N:s.N.length=s.R.length
 A:s.A.length=s.R.length
 results:s.results.length=s.R.length
 Z:s.Z.length=s.R.length
 P:s.P.length=s.R.length
 all:∀ (t:Nat) m n l r b e,s.R[t]?=ς m->s.N[t]?=ς n->s.A[t]?=ς l->s.results[t]?=ς r->s.Z[t]?=ς b->s.P[t]?=ς e->Ej c s m n l r b e
def BE (h:¬Bu c s) (a:ϐ w w w'):Ending.returned (.bool ϝ)=.returned (.bool (pB (Bu c s)))/\ϐ w w w':=⟨by rw [Bw h],a⟩
def IM (c:AQ) (cv:ϒ) (s:A3) (sv:ϒ) (B:Nat) (w:Ϣ) (hL:C8 w) (hB:B<=w) (V:Bv c) (hc:BF B w cv c) (hs:CJ B w sv s) :
  ϙ prog 60 #[cv,sv] w λz w'=>z=.returned (.bool (pB (Bu c s)))/\ϐ w w w':=by
 obtain ⟨fa,fc,qa,qc,ga,gc,ma,mc,ra,rc,na,nc,ca,cc,oa,oc,ba,bc,ea,ec,W,L,rfl,rfl,hW,f,H0,P,Q,R,p,aR⟩:=NG hB hc hs;have HL:=Lh (hL.below f.o);have HM:Hid (Lw B W (.agg (Bm ga gc ma mc s.M)) s.M):=Lh ⟨_,_,rfl,R.o.parts.1,R.o.parts.2.1⟩;have q:=P.o _ H0.o;clear hL hc hs;go_enter func60,ntmps60;go_upto_region 1 with fail;rw [<-hW];clear hW;go_wp2_with fail;refine (Ls c _ B W HL.o p.o Q.o).mono ?_;rintro e1 w1 ⟨rfl,S⟩;have H1:=Lh (H0.o.kp S);have v:=Lh S;clear q S;have q:=P.o _ H1.o;cases A:DW c with
 | false=>have a:=@Lh (¬Bu c s) (λh=>by rw [CZ h.sound] at A;cases A);clear A;go_wp2;go_ret;exact BE a.o (f.o.th v.o)
 | true=>
 have aN:=Lh (Ki.1 A);clear A;go_wp2_with fail;refine (Mh c _ s.M _ B w1 (Nt p.o v.o.size) (Q.o.below (v.o.mono p.o)) (HM.o.below (v.o.mono p.o))).mono ?_;rintro e2 w2 ⟨rfl,T⟩;have H2:=Lh (H1.o.kp T);have g:=Lh (v.o.th T);clear q T;have q:=P.o _ H2.o;cases y:Bb c s.M with
 | false=>have a:=@Lh (¬Bu c s) (λh=>by rw [h.fits] at y;cases y);clear y;go_wp2;go_ret;exact BE a.o (f.o.th g.o)
 | true=>
 have aM:=Lh y;clear y;by_cases J:s.Y<0
 .have a:=@Lh (¬Bu c s) (λh=>by have:=h.Y.1;omega)
  have d0:=η (s.Y<0) J;clear J;go_wp2;go_ret;exact BE a.o (f.o.th g.o)
 have d0:=θ (s.Y<0) J;have Q0:=Lh J;clear J;by_cases K:1048576<s.Y
 .have a:=@Lh (¬Bu c s) (λh=>by have:=h.Y.2;omega)
  have d1:=η (1048576<s.Y) K;clear K;go_wp2;go_ret;exact BE a.o (f.o.th g.o)
 have d1:=θ (1048576<s.Y) K;have Q1:=Lh K;clear K;by_cases M:s.U<0
 .have a:=@Lh (¬Bu c s) (λh=>by have:=h.U.1;omega)
  have d2:=η (s.U<0) M;clear M;go_wp2;go_ret;exact BE a.o (f.o.th g.o)
 have d2:=θ (s.U<0) M;have Q2:=Lh M;clear M;by_cases O:65536<s.U
 .have a:=@Lh (¬Bu c s) (λh=>by have:=h.U.2;omega)
  have d3:=η (65536<s.U) O;clear O;go_wp2;go_ret;exact BE a.o (f.o.th g.o)
 have d3:=θ (65536<s.U) O;have Q3:=Lh O;clear O;by_cases X:s.R.length<1
 .have a:=@Lh (¬Bu c s) (λh=>by have:=h.one;omega)
  have aO:=η ((s.R:Int)<1);clear X;go_wp2;go_ret;exact BE a.o (f.o.th g.o)
 have aO:=θ ((s.R:Int)<1);have Q4:=Lh X;clear X;by_cases Y:8<s.R.length
 .have a:=@Lh (¬Bu c s) (λh=>by have:=h.eight;omega)
  have aP:=η (8<(s.R:Int));clear Y;go_wp2;go_ret;exact BE a.o (f.o.th g.o)
 have aP:=θ (8<(s.R:Int));have Q5:=Lh Y;clear Y;by_cases E:s.N.length=s.R.length;rotate_left
 .have a:=@Lh (¬Bu c s) (λh=>E h.N)
  have e0:=τ (s.N:Int) (s.R:Int);clear E;go_wp2;go_ret;exact BE a.o (f.o.th g.o)
 have e0:((s.N:Int) != (s.R:Int))=ϝ:=by rw [E];simp
 have P0:=Lh E;clear E;by_cases F:s.A.length=s.R.length;rotate_left
 .have a:=@Lh (¬Bu c s) (λh=>F h.A)
  have e1:=τ (s.A:Int) (s.R:Int);clear F;go_wp2;go_ret;exact BE a.o (f.o.th g.o)
 have e1:((s.A:Int) != (s.R:Int))=ϝ:=by rw [F];simp
 have P1:=Lh F;clear F;by_cases G:s.results.length=s.R.length;rotate_left
 .have a:=@Lh (¬Bu c s) (λh=>G h.results)
  have e2:=τ (s.results:Int) (s.R:Int);clear G;go_wp2;go_ret;exact BE a.o (f.o.th g.o)
 have e2:((s.results:Int) != (s.R:Int))=ϝ:=by rw [G];simp
 have P2:=Lh G;clear G;by_cases H:s.Z.length=s.R.length;rotate_left
 .have a:=@Lh (¬Bu c s) (λh=>H h.Z)
  have e3:=τ (s.Z:Int) (s.R:Int);clear H;go_wp2;go_ret;exact BE a.o (f.o.th g.o)
 have e3:((s.Z:Int) != (s.R:Int))=ϝ:=by rw [H];simp
 have P3:=Lh H;clear H;by_cases I:s.P.length=s.R.length;rotate_left
 .have a:=@Lh (¬Bu c s) (λh=>I h.P)
  have e4:=τ (s.P:Int) (s.R:Int);clear I;go_wp2;go_ret;exact BE a.o (f.o.th g.o)
 have e4:((s.P:Int) != (s.R:Int))=ϝ:=by rw [I];simp
 have P4:=Lh I;clear I;go_wp2_with fail;clear q;have N:=ε s.R.length;go_loopw [82] (λi wr=>∃ k:Nat,k<=s.R.length/\i=ι k/\Hid (DD L wr)/\Hid (ϐ W W wr)/\Hid (∀ (t:Nat) m n l r b e,t<k->s.R[t]?=ς m->s.N[t]?=ς n->s.A[t]?=ς l->s.results[t]?=ς r->s.Z[t]?=ς b->s.P[t]?=ς e->Ej c s m n l r b e)) (λi _=>s.R.length - (intOf i).toNat)
 case atStart=>exact ⟨0,Nat.zero_le _,rfl,H2,g,Lh (λt m n l r b e h=>by omega)⟩
 case round=>
  obtain ⟨k,hk,rfl,HR,u,HA⟩:=hrel;clear N;have q:=P.o _ HR.o;by_cases o:k<s.R.length;rotate_left
  .have a:=@Lh (pB (Bu c s)=ϑ) (CP ⟨aN.o,aM.o,⟨by have:=Q0.o;omega,by have:=Q1.o;omega⟩,⟨by have:=Q2.o;omega,by have:=Q3.o;omega⟩,by have:=Q4.o;omega,by have:=Q5.o;omega,P0.o,P1.o,P2.o,P3.o,P4.o,λt m n l r b e C=>HA.o t m n l r b e (by have:=(Ll C);omega) C⟩)
   have d:=θ (k<s.R.length);clear o;go_wp2;go_ret;exact ⟨by rw [a.o];rfl,f.o.th u.o⟩
  obtain ⟨m,hm⟩:∃ x,s.R[k]?=ς x:=⟨_,Lg o⟩
  obtain ⟨n,hn⟩:∃ x,s.N[k]?=ς x:=⟨_,Lg (by rw [P0.o];exact o)⟩
  obtain ⟨l,hl⟩:∃ x,s.A[k]?=ς x:=⟨_,Lg (by rw [P1.o];exact o)⟩
  obtain ⟨r,hr⟩:∃ x,s.results[k]?=ς x:=⟨_,Lg (by rw [P2.o];exact o)⟩
  obtain ⟨b,hb⟩:∃ x,s.Z[k]?=ς x:=⟨_,Lg (by rw [P3.o];exact o)⟩
  obtain ⟨e,he⟩:∃ x,s.P[k]?=ς x:=⟨_,Lg (by rw [P4.o];exact o)⟩
  have j:=Lh (ϟ hm (ϟ hn (ϟ hl (ϟ hr (ϟ hb he)))));have HK:=Lh o;have d:=η (k<s.R.length);have aS:=In k;have aT:IntKind.i64.wrap ((k:Int)+1)=(k:Int)+1:=by rw [IntKind.wrap_i64];have:=Q5.o;omega
  clear hm hn hl hr hb he;go_wp2_with fail;refine (KS c _ s _ k m n l r b e B wr (HL.o.below u.o) (Nt p.o u.o.size) V (Q.o.below (u.o.mono p.o)) (R.o.below (u.o.mono p.o)) j.o.1 j.o.2.1 j.o.2.2.1 j.o.2.2.2.1 j.o.2.2.2.2.1 j.o.2.2.2.2.2).mono ?_;rintro z w3 ⟨rfl,U⟩;have H3:=Lh (HR.o.kp U);have Z:=Lh (u.o.th U);clear q U;cases D:pB (Ej c s m n l r b e) with
  | false=>have a:=@Lh (¬Bu c s) (λh=>by rw [CP (h.all k m n l r b e j.o.1 j.o.2.1 j.o.2.2.1 j.o.2.2.2.1 j.o.2.2.2.2.1 j.o.2.2.2.2.2)] at D;cases D);clear D;go_wp2;go_ret;exact BE a.o (f.o.th Z.o)
  | true=>
   have aL:Hid (∀ (t:Nat) m n l r b e,t<k+1->s.R[t]?=ς m->s.N[t]?=ς n->s.A[t]?=ς l->s.results[t]?=ς r->s.Z[t]?=ς b->s.P[t]?=ς e->Ej c s m n l r b e):=Lh (λt m' n' l' r' b' e' h C h2 h3 h4 h5 h6=>by
    by_cases aQ:t=k
    .subst aQ
     obtain ⟨g1,g2,g3,g4,g5,g6⟩:=j.o;obtain rfl:=Option.some.inj (g1.symm.trans C);obtain rfl:=Option.some.inj (g2.symm.trans h2);obtain rfl:=Option.some.inj (g3.symm.trans h3);obtain rfl:=Option.some.inj (g4.symm.trans h4);obtain rfl:=Option.some.inj (g5.symm.trans h5);obtain rfl:=Option.some.inj (g6.symm.trans h6);exact NW.1 D
    .exact HA.o t m' n' l' r' b' e' ω C h2 h3 h4 h5 h6)
   clear D;go_wp2;go_roundw
   case rel=>exact ⟨k+1,ω,by go_num,H3,Z,aL⟩
   case measure=>simp [intOf];omega
