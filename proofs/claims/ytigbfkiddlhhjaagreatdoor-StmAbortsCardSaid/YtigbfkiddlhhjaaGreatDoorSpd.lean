import Derived.Test.YtigbfkiddlhhjaaGreatDoorSpa
set_option maxHeartbeats 4000000
set_option maxRecDepth 1000000
set_option linter.all false
open Go renaming World→Ϣ,Value→ϒ,Calls→ϙ
open Go.RowKit renaming Below→ϐ
open Option renaming some→ς
open Go.Value renaming slice→σ
open Go.Obj renaming cells→χ
namespace Go.Proofs.YtigbfkiddlhhjaaGreatDoor
open Go.RowKit Proofs.Tryz
def svalue_any (n:Int) (w:Ϣ) :
  ϙ prog 88 #[ι n] w λe a=>e=.returned (.bool (Af n))/\w=a:=by
 go_enter func88,ntmps88;go_wp2;all_goals (go_ret;exact ⟨by unfold Af;congr 2;simp;omega,rfl⟩)
def enters_other:An 50:=λ_ _=>by kernel_rfl
def enters_sfits1:An 52:=λ_ _=>by kernel_rfl
def sother_any (n:Int) (w:Ϣ) :
  ϙ prog 50 #[ι n] w λe a=>e=.returned (.bool (!Af n))/\w=a:=by
 go_enter func50,ntmps50;go_wp2_with (go_at_call 88;refine (svalue_any n _).mono ?_;rintro e a ⟨rfl,rfl⟩);go_ret;exact ⟨rfl,rfl⟩
def sother_fn (w:Ϣ):∀ (x:Int) (a:Ϣ) (b:ϒ),ϐ w w a->Ny 0 a b x->ϙ prog 50 (#[b]++#[]) a (λe c=>e=.returned (.bool (!Af x))/\ϐ a a c):=by
 rintro x a b _ ⟨rfl,_⟩;exact (sother_any x a).mono λe c ⟨d,f⟩=>⟨d,f▸Below.refl _ _⟩
def ssound_any (c:AQ) (g:ϒ) (B:Nat) (w:Ϣ) (j:C8 w) (s:B<=w) (l:BF B w g c) :
  ϙ prog 25 #[g] w λe u=>e=.returned (.bool (DW c))/\ϐ w w u:=by
 have m:=Lh l;have n:=Lh j;obtain ⟨y,z,rfl,p,q,-⟩:=l;obtain ⟨E,x,rfl,-,-,-,-⟩:=p;obtain ⟨F,v,rfl,A,C,D,-⟩:=q;clear j;go_enter func25,ntmps25;go_wp2_with fail;refine (MQ c _ B _ (n.o.below (AA _ _)) φ (m.o.below ((AA _ _).mono s))).mono ?_;rintro e G ⟨i,k,o,rfl,a,t⟩;have f:=As t;by_cases d:o=0
 .have aB:=Lh (CZ (a.1 d))
  subst d;clear a;go_wp2;go_ret;exact ⟨by rw [aB.o];rfl,f⟩
 .have aB:=Lh (FA (λh=>d (a.2 h)))
  have r:=beq_eq_false_iff_ne.2 d;clear a;go_wp2;go_ret;exact ⟨by rw [aB.o];exact congrArg (λb=>Ending.returned (.bool b)) (by first|exact r|rfl),f⟩
def sfits1_any (c:AQ) (n:Gl) (o q:Option Addr) (p r x B:Nat) (w:Ϣ) (y:B<=w) (C:AE B w 1 Aj (σ q c.H r) c.H) (E:AE B w 1 Aj (σ o n.f p) n.f) (S:in64 n.type)
  (s:w.cell? (π x 0)=ς (σ q c.H r)) :
  ϙ prog 52 #[.agg #[ι n.type,σ o n.f p],.pointer (ς (π x 0))] w λe T=>e=.returned (.bool (BS c n))/\ϐ w w T:=by
 obtain ⟨t,f⟩:=n;dsimp only at *
 obtain ⟨W,a⟩:=ε (w.alloc (χ #[ι t,σ o f p] 72));have b:=Lh (bl1 a);have O:=Lh (ce11 a);have u:=Γ2 O.o;have s:=AB b.o s;have F:=Lh (C.ints (b.o.mono y));have G:=Lh (E.ints (b.o.mono y));unfold in64 at S;have M:=Nt y b.o.size;clear C E;by_cases v:t<0
 .have d:decide (t<0)=true:=by simp [v]
  have i:=@Lh (BS c ⟨t,f⟩=true) (by unfold BS;simp [v]);go_enter func52,ntmps52;go_upto_region 1 with fail;rw [<-a];clear a;go_quiet (fail);go_wp2;go_ret;exact ⟨by rw [i.o];rfl,AG b.o _⟩
 obtain ⟨n,rfl⟩:∃ n:Nat,t=n:=⟨t.toNat,ω⟩
 have d1:=θ ((n:Int)<0);clear v;by_cases A:c.H.length<=n
 .have d:decide (c.H.length<=n)=true:=by simp [A]
  have P:=η ((c.H:Int)<=(n:Int));have i:=@Lh (BS c ⟨n,f⟩=true) (by unfold BS;simp [List.getElem?_eq_none A]);go_enter func52,ntmps52;go_upto_region 1 with fail;rw [<-a];clear a;go_quiet (fail);go_wp2;go_ret;exact ⟨by rw [i.o];rfl,AG b.o _⟩
 obtain ⟨k,h⟩:∃ k,c.H[n]?=ς k:=⟨_,Lg ω⟩
 obtain ⟨g,j,rfl,X,D⟩:∃ g j,q=ς (π g j)/\g<B/\W.cell? (π g (j+n))=ς (ι k):=by
  obtain ⟨H,I,N,_,_,_,z⟩:=F.o;obtain ⟨rfl,rfl⟩:q=H/\r=I:=by simpa using N
  rcases z with Q|⟨g,j,rfl,R,z⟩
  .rw [Q] at h;simp at h
  .have:=(z n k h).1
   rw [Nat.mul_one] at this;exact ⟨g,j,rfl,R,this⟩
 have Z:=In n;have aL:(n:Int)<(c.H:Int):=ω;by_cases m:(f:Int)=k;rotate_left
 .have d:((f:Int) == k)=false:=by simp [m]
  have P:((f:Int) != k)=true:=by simp [m]
  have i:=@Lh (BS c ⟨n,f⟩=true) (by unfold BS;simp [h,m]);clear h;go_enter func52,ntmps52;go_upto_region 1 with fail;rw [<-a];clear a;go_quiet (fail);go_wp2;go_ret;exact ⟨by rw [i.o];rfl,AG b.o _⟩
 have Y:((f:Int) != k)=false:=by simp [m]
 have i:=@Lh (BS c ⟨n,f⟩=f.any (λn=>!Af n)) (by unfold BS;rw [if_neg ψ];simp only [Int.toNat_natCast,h];rw [if_neg (by simp [m])]);have L:=@Lh (AE B W.drew 1 Aj (σ o f p) f) (G.o.ints (AG Br 1));have J:B<=W.drew.heap.size:=M;clear h m;go_enter func52,ntmps52;go_upto_region 1 with fail;rw [<-a];clear a;go_region_held3 (λV=>V.cell? (π w 0)=ς (ι (n:Int))/\V.cell? (π w 1)=ς (σ o f p)/\V.cell? (π x 0)=ς (σ (ς (π g j)) c.H r)/\V.cell? (π g (j+n))=ς (ι k))
  (first|exact ⟨u.1,u.2,s,D⟩|exact ⟨AB l u.1,AB l u.2,AB l s,AB l D⟩)
  (first|(go_at_call 49;refine (BT 50 #[] (λn=>!Af n) f _ B W.drew enters_other J L.o (sother_fn _)).mono ?_;rintro e U ⟨rfl,l⟩))
 have K:=Lh ((AG b.o 1).th l);clear l;go_wp2;go_ret;exact ⟨by rw [i.o];rfl,K.o⟩
def sfits1_fn (c:AQ) (g:Option Addr) (h f B:Nat) (w:Ϣ) (j:B<=w) (l:AE B w 1 Aj (σ g c.H h) c.H) (m:w.cell? (π f 0)=ς (σ g c.H h)) :
  ∀ (x:Gl) (a:Ϣ) (d:ϒ),ϐ w w a->Wk B a d x->ϙ prog 52 (#[d]++#[.pointer (ς (π f 0))]) a (λe p=>e=.returned (.bool (BS c x))/\ϐ a a p):=by
 rintro x a d b ⟨q,rfl,i,k⟩;obtain ⟨n,o,rfl⟩:=i.form;exact sfits1_any c x n g o h f B a (Nt j b.size) (l.ints (b.mono j)) i k (AB b m)
def sfits_any (c:AQ) (v:ϒ) (m:Mm) (z:ϒ) (B:Nat) (w:Ϣ) (f:B<=w) (O:BF B w v c) (P:Lw B w z m) :
  ϙ prog 26 #[v,z] w λe V=>e=.returned (.bool (Bb c m))/\ϐ w w V:=by
 obtain ⟨X,cg,rfl,l,u,C⟩:=O;have E:=Lh l;obtain ⟨x,y,rfl⟩:=l.form;obtain ⟨M,N,rfl⟩:=u.form;obtain ⟨gv,nv,rfl,o,p⟩:=P;have F:=Lh o;have G:=Lh p;obtain ⟨T,U,rfl⟩:=o.form;obtain ⟨R,S,rfl⟩:=p.form;obtain ⟨W,b⟩:=ε ((w.alloc (χ (Bc x y M N c) 25)).alloc (χ (Bm T U R S m) 28));have j:=Lh (bl2 b);have I:=Lh (ce21 b);have J:=Lh (ce22 b);obtain ⟨s,Q⟩:=Γ2 I.o;obtain ⟨K,L⟩:=Γ2 J.o;have H:=Nt f j.o.size;clear l u o p C;by_cases q:(m.G:Int)=c.G;rotate_left
 .have d:=τ (m.G:Int) c.G
  have h:=@Lh (Bb c m=false) (by unfold Bb;simp [q]);go_enter func26,ntmps26;go_upto_region 1 with fail;rw [<-b];clear b;go_wp2;go_ret;exact ⟨by rw [h.o];rfl,j.o⟩
 have Y:=ρ (m.G:Int) c.G;have h:=@Lh (Bb c m=(decide (m.N.length<=4096) && (!(m.G.any (λn=>!Af n)) && !(m.N.any (BS c))))) (by unfold Bb;simp only [q,decide_true,Bool.true_and]);clear q;go_enter func26,ntmps26;go_upto_region 1 with fail;rw [<-b];clear b;go_wp2_with fail;refine (BT 50 #[] (λn=>!Af n) m.G _ B W enters_other H (F.o.ints (j.o.mono f)) (sother_fn _)).mono ?_;rintro e A ⟨rfl,k⟩;have s:=Δ4 k s Q K L;have a:=Lh (j.o.th k);clear k;cases i:m.G.any (λn=>!Af n) with
 | true=>have g:=@Lh (Bb c m=false) (by rw [h.o,i];simp);clear i;go_wp2;go_ret;exact ⟨by rw [g.o];rfl,a.o⟩
 | false=>
  by_cases r:m.N.length<=4096;rotate_left
  .have d:=η ((4096:Int)<(m.N:Int))
   have g:=@Lh (Bb c m=false) (by rw [h.o];simp [r]);clear i;go_wp2;go_ret;exact ⟨by rw [g.o];rfl,a.o⟩
  have Z:=θ ((4096:Int)<(m.N:Int));have g:=@Lh (Bb c m=!(m.N.any (BS c))) (by rw [h.o,i];simp [r]);clear i r;go_wp2_with fail;refine (Ii 52 #[.pointer (ς (π w 0))] (BS c) m.N _ B A enters_sfits1 (Nt f a.o.size) (G.o.nods (a.o.mono f)) (sfits1_fn c x y _ B A (Nt f a.o.size) (E.o.ints (a.o.mono f)) s.1)).mono ?_;rintro e w2 ⟨rfl,t⟩;have D:=Lh (a.o.th t);clear t;go_wp2;go_ret;exact ⟨by rw [g.o];rfl,D.o⟩
def enters_swrong1:An 54:=λ_ _=>by kernel_rfl
def swrong1_any (d a:ByteArray) (p l r c:ϒ) (b:Nat) (w:Ϣ) (f:b<w) (h:w.cell? (π b 0)=ς (.string a)) :
  ϙ prog 54 #[.agg #[.string d,p,l,r,c],.pointer (ς (π b 0))] w λe g=>e=.returned (.bool (CM d a))/\ϐ w w g:=by
 have i:(w.alloc (χ #[.string d,p,l,r,c] 70)).cell? (π b 0)=ς (.string a):=by rw [World.cell?_alloc_past _ _ _ f];exact h
 go_enter func54,ntmps54;go_wp2;go_ret;exact ⟨rfl,Br.alloc (Nr _) _⟩
def swrong1_fn (d:ByteArray) (b:Nat) (B:Nat) (w:Ϣ) (g:b<w) (h:w.cell? (π b 0)=ς (.string d)):∀ (x:BK) (a:Ϣ) (c:ϒ),ϐ w w a->EI B a c x->ϙ prog 54 (#[c]++#[.pointer (ς (π b 0))]) a (λe i=>e=.returned (.bool (CM x.name d))/\ϐ a a i):=by
 rintro x a c f ⟨j,rfl,_⟩;exact swrong1_any x.name d _ _ _ _ b a (by have:=f.size;omega) (by rw [f.cell (p:=(π b 0)) g];exact h)
def SWrongIs (c:AQ) (x:Bi) (w:Ϣ) (e:Ending) (w':Ϣ):Prop:=e=.returned (ι (AS c x 0))/\ϐ w w w'
def swrongIs_of {c:AQ} {x:Bi} {n:Int} {w w':Ϣ} (h:AS c x 0=n) (a:ϐ w w w'):SWrongIs c x w (.returned (ι n)) w':=⟨by rw [h],a⟩
def givenS_no {c:AQ} {x:Bi} (a:Dh c x.proc = -1):AS c x 0=9:=by
 unfold AS;rw [if_neg ω];cases c.funcs[(Dh c x.proc).toNat]? with
 | none=>rfl
 | some y=>simp only [];rw [if_pos ω]
def givenS_at {c:AQ} {x:Bi} {k:Nat} {y:BK} (a:Dh c x.proc=k) (b:c.funcs[k]?=ς y):AS c x 0=if (x.args:Int)≠y.params then 3 else if x.args.any (λn=>!Af n) then 11 else 0:=by
 unfold AS;rw [if_neg ω,a];simp only [Int.toNat_natCast,b];rw [if_neg ω]
def swrong_any (c:AQ) (H:ϒ) (x:Bi) (L:ϒ) (B:Nat) (w:Ϣ) (m:B<=w) (hc:BF B w H c) (hx:Gh B w L x) :
  ϙ prog 28 #[H,L] w (SWrongIs c x w):=by
 obtain ⟨fv,gv,rfl,K,u,aR⟩:=hc;obtain ⟨X,Y,rfl⟩:=K.form;obtain ⟨I,J,rfl⟩:=u.form;obtain ⟨av,rfl,t,aZ⟩:=hx;obtain ⟨xa,xc,rfl⟩:=t.form;obtain ⟨W,h⟩:=ε ((w.alloc (χ (Bc X Y I J c) 25)).alloc (χ #[.string x.proc,σ xa x.args xc] 64));have l:=Lh (bl2 h);have U:=Lh (ce21 h);have V:=Lh (ce22 h);have v:=U.o 2 _ rfl;obtain ⟨z,x1⟩:=Γ2 V.o;have M:(w:Nat)+1<W:=Bl z;have s:=Nt m l.o.size;have A:=Lh (u.funs (l.o.mono m));have T:=Lh (t.ints (l.o.mono m));have S:=Lh z;clear K u t;go_enter func28,ntmps28;go_upto_region 1 with fail;rw [<-h];clear h;go_wp2_with fail;refine (FQ 54 #[.pointer (ς (π (w+1) 0))] (λf=>CM f.name x.proc) c.funcs _ B _ enters_swrong1 s A.o (swrong1_fn x.proc _ B _ M S.o)).mono ?_;rintro e w1 ⟨rfl,g⟩;have v:=Δ3 g v z x1;have M:=Bl v.2.1;have q:=Lh (l.o.th g);have R:=Lh (A.o.funs (g.mono s));have O:=Lh (T.o.ints (g.mono s));clear g;rcases G1 (λf=>CM f.name x.proc) c.funcs with b|⟨k,hk,b⟩
 .have a:=Lh (givenS_no b)
  rw [b];clear b;go_wp2;go_ret;exact swrongIs_of a.o q.o
 obtain ⟨y,i⟩:∃ y,c.funcs[k]?=ς y:=⟨_,Lg hk⟩
 have r:=Lh (givenS_at b i);rw [b];clear b;obtain ⟨N,Q,G,aW,aX,aY,o⟩:=R.o;obtain ⟨rfl,rfl⟩:I=N/\J=Q:=by simpa using G
 rcases o with Z|⟨yb,yo,rfl,aS,o⟩
 .rw [Z] at i;simp at i
 have p1:=(o k y i).2.1;have aT:=In k;have aU:(k:Int)<(c.funcs:Int):=ω;have aV:=θ ((k:Int)<0);clear G o i;by_cases d:(x.args:Int)=y.params;rotate_left
 .have a:=@Lh (AS c x 0=3) (by rw [r.o,if_pos d])
  have D:((x.args:Int) != y.params)=true:=by simp [d]
  clear d;go_wp2_with fail;go_quiet (fail);have j:=Lh (AG q.o nq);go_wp2;go_ret;exact swrongIs_of a.o j.o
 have C:=Lh d;have D:((x.args:Int) != y.params)=false:=by simp [d]
 rw [<-d] at p1;clear d D;go_wp2_with fail;go_quiet (fail);have j:=Lh (AG q.o nq);have P:=Lh (O.o.ints (AG Br nq));go_wp2_with fail;refine (BT 50 #[] (λn=>!Af n) x.args _ B _ enters_other (Nt m j.o.size) P.o (sother_fn _)).mono ?_;rintro e w2 ⟨rfl,F⟩;have E:=Lh (j.o.th F);clear F;cases p:x.args.any (λn=>!Af n) with
 | true=>have a:=@Lh (AS c x 0=11) (by rw [r.o,if_neg (by rw [C.o];simp),if_pos p]);clear p;go_wp2;go_ret;exact swrongIs_of a.o E.o
 | false=>have a:=@Lh (AS c x 0=0) (by rw [r.o,if_neg (by rw [C.o];simp),if_neg (by rw [p];simp)]);clear p;go_wp2;go_ret;exact swrongIs_of a.o E.o
def enters_vers1:An 99:=λ_ _=>by kernel_rfl
def enters_vers2:An 100:=λ_ _=>by kernel_rfl
def vers2_fn (k:Int) (f g:Nat) (w:Ϣ) (h:w.cell? (π f 0)=ς (.pointer (ς (π g 0)))) (i:w.cell? (π g 3)=ς (ι k)) :
  ∀ (x:Int) (a:Ϣ) (c:ϒ),ϐ w w a->Ny 0 a c x->ϙ prog 100 (#[c]++#[.pointer (ς (π f 0))]) a (λe l=>e=.returned (.bool (decide (x<0) || decide (k<x)))/\ϐ a a l):=by
 rintro x a c j ⟨rfl,_⟩;have n:=AB j h;have o:=AB j i;clear h i;show ϙ prog 100 #[ι x,.pointer (ς (π f 0))] a _;by_cases b:x<0
 .have d:=η (x<0) b
  clear b;go_enter func100,ntmps100;go_wp2;go_ret;exact ⟨by simp [d],Below.refl _ _⟩
 .have d:=θ (x<0) b
  have m:=Lh b;clear b;go_enter func100,ntmps100;go_wp2;go_ret;exact ⟨by simp [d],Below.refl _ _⟩
def vers1_fn (k:Int) (c d B:Nat) (w:Ϣ) (s:B<=w) (g:w.cell? (π c 0)=ς (.pointer (ς (π d 0)))) (h:w.cell? (π d 3)=ς (ι k)) :
  ∀ (x:List Int) (a:Ϣ) (b:ϒ),ϐ w w a->Q8 B a b x->ϙ prog 99 (#[b]++#[.pointer (ς (π c 0))]) a (λe j=>e=.returned (.bool (x.any λn=>decide (n<0) || decide (k<n)))/\ϐ a a j):=by
 rintro x a b f i;have q:=AB f g;have r:=AB f h;have o:=Nt s f.size;clear g h;show ϙ prog 99 #[b,.pointer (ς (π c 0))] a _;have m:=Lh i;have l:=Lh (vers2_fn k c d a q r);clear i;go_enter func99,ntmps99;go_wp2_with fail;refine (BT 100 #[.pointer (ς (π c 0))] (λn=>decide (n<0) || decide (k<n)) x b B a enters_vers2 o m.o l.o).mono ?_;rintro e j ⟨rfl,p⟩;go_wp2;go_ret;exact ⟨rfl,p⟩
def versions_any (s:Tra) (d:Nat) (w:Ϣ) (h:BoxR w d s) (o:VersOk s.M s.vers s.clock) :
  ϙ prog 69 #[.pointer (ς (π d 0))] w λz w'=>z=.returned (.bool true)/\ϐ w w w':=by
 obtain ⟨W,m⟩:=ε (w.alloc (χ #[.pointer (ς (π d 0))] 88));have t:=bl1 m;have O:W.cell? (π w 0)=ς (.pointer (ς (π d 0))):=by rw [m,B6];rfl
 have M:=h.below t;obtain ⟨gv,nv,vv,av,cv,ov,bv,ev,dv,a⟩:=M.opened;obtain ⟨ga,gc,rfl⟩:=a.g.1.form;obtain ⟨na,nc,rfl⟩:=a.n.1.form;obtain ⟨va,vc,rfl⟩:=a.v.1.form;have aU:s.M.N.length<=140737488355328:=by obtain ⟨_,_,_,hh,_⟩:=a.n.1;exact hh
 have b0:=a.g.2;have b1:=a.n.2;have J:=a.v.2;have b3:=a.clock;have G:=o.len;obtain ⟨l0,q⟩:∃ x,s.vers[0]?=ς x:=⟨_,Lg ω⟩
 have y:=o.zero;rw [getD_at q] at y;obtain ⟨vb,vo,aV,la,lc,aR,B,-⟩:=listAt a.v.1 q;cases aR;rw [Nat.add_zero] at B;rw [G] at J;rw [y] at B;have f:=Lh o;have p:=Lh a;have X:=Lh t;have c:=Lh (And.intro O (And.intro b0 (And.intro b1 (And.intro J b3))));have ew:IntKind.i64.wrap ((s.M.N:Int)+1)=(s.M.N:Int)+1:=by rw [IntKind.wrap_i64]<;>omega
 have i0:(0:Int)<(s.M.N:Int)+1:=ω;have i1:((s.M.N.length+1:Nat):Int)=(s.M.N:Int)+1:=ω;have z0:(w:Nat)<W:=Bl O;clear h M a o G q y t;go_enter func69,ntmps69;go_upto_region 1 with fail;rw [<-m];clear m;go_quiet (fail);go_wp2_with fail;clear B;go_loopw [40] (λi wr=>∃ k:Nat,k<=s.M.N.length/\i=ι k/\ϐ W W wr) (λi _=>s.M.N.length - (intOf i).toNat)
 case atStart=>exact ⟨0,Nat.zero_le _,rfl,AG Br _⟩
 case round=>
  obtain ⟨k,hk,rfl,b⟩:=hrel;by_cases Y:k<s.M.N.length;rotate_left
  .have D:=Δ3 b c.o.1 c.o.2.2.2.1 c.o.2.2.2.2
   have Q:=Lh (vers1_fn s.clock (w:Nat) d (wr:Nat) wr (Nr _) D.1 D.2.2);have R:=Lh (p.o.v.1.ups (Il (E:=λ_=>Aj) B5) b.size (JT.below b));have V:=@Lh ((s.vers.any λl=>l.any λn=>decide (n<0) || decide (s.clock<n))=false) (by
    rw [List.any_eq_false];intro l hl;rw [Bool.not_eq_true,List.any_eq_false];intro n hn;have:=f.o.vals l hl n hn;simp;omega)
   have U:=Lh f.o.len;have P:=Lh (X.o.th b);clear b;go_wp2_with fail;rw [<-U.o];refine (Fe 99 #[.pointer (ς (π w 0))] (λl=>l.any λn=>decide (n<0) || decide (s.clock<n)) s.vers _ (wr:Nat) wr enters_vers1 (Nr _) R.o Q.o).mono ?_;rintro e w2 ⟨rfl,j⟩;rw [V.o];go_wp2;go_ret;exact ⟨rfl,P.o.th j⟩
  obtain ⟨x,A⟩:∃ x,s.M.N[k]?=ς x:=⟨_,Lg Y⟩
  obtain ⟨nb,no,rfl,-,H,⟨fv,I,N⟩,-⟩:=p.o.n.1.nth A;obtain ⟨K,L,rfl⟩:=N.form;obtain ⟨l1,u⟩:∃ x,s.vers[k+1]?=ς x:=⟨_,Lg (by have:=f.o.len;omega)⟩
  have v:=f.o.O k x A;rw [getD_at u] at v;obtain ⟨ub,uo,uc,ua,ud,Z,C,-⟩:=listAt p.o.v.1 u;cases Z;rw [v] at C;obtain ⟨S,g⟩:=ε (wr.alloc (χ #[ι x.type,σ K x.f L] 72));have j:=bl1 g;have r:=b.th j;have x0:=AB b H;have x1:=AB b I;have D:=Δ3 r c.o.1 c.o.2.2.2.1 C;have aS:S.cell? (π wr 1)=ς (σ K x.f L):=by rw [g,B6];rfl
  have aT:IntKind.i64.wrap ((k:Int)+1)=(k:Int)+1:=by rw [IntKind.wrap_i64]<;>omega
  have t0:=In k;have t1:(k:Int)<(s.M.N:Int):=ω;have t2:(k:Int)+1<(s.M.N:Int)+1:=ω;have t3:(0:Int)<=(k:Int)+1:=ω;have t4:((k:Int)+1).toNat=k+1:=ω;have T:=Lh r;have F:=Lh g;clear j r A H I N u v C b g;go_upto_region 6 with fail;rw [<-F.o];clear F x0 x1;go_quiet (fail);go_wp2;go_roundw
  case rel=>exact ⟨k+1,ω,by go_num,AG T.o _⟩
  case measure=>simp [intOf];omega
