import Derived.Test.YtigbfkiddlhhjaaGreatDoorTh4
import Derived.Laws.EntriesVeiled
import Derived.Outline
import Derived.Test.YtigbfkiddlhhjaaGreatDoorPst3
set_option maxHeartbeats 2000000
set_option maxRecDepth 100000
set_option linter.all false
open Go renaming World→Ϣ,Value→ϒ,Calls→ϙ
open Bool renaming false→ϝ,true→ϑ
open Go.Value renaming slice→σ
open Go.Obj renaming cells→χ
namespace Go.Proofs.YtigbfkiddlhhjaaGreatDoor
open Go.RowKit Proofs.Tryz
variable {α:Type} {B sz cap n k:Nat} {w w':Ϣ} {v:ϒ} {a b:Bool} {E:Ϣ->Nat->Nat->α->Prop} {l:List α}
def AE.fr (h:AE B w sz E v l):∃ a cap,v=σ a l cap/\l.length<=140737488355328:=by
 obtain ⟨a,cap,b,c,_⟩:=h;exact ⟨a,cap,b,c⟩
def PO (b:Bool) (w:Ϣ) (e:Ending) (w':Ϣ):Prop:=e=.returned (.bool b)/\Below w w w'
def XP (h:a=b):Ending.returned (.bool a)=Ending.returned (.bool b):=by rw [h]
def Gx (h:a=b) (c:Below w w w'):PO b w (.returned (.bool a)) w':=⟨XP h,c⟩
def MD (m:Mm):Bool:=decide (60<(m.G:Int)) || (decide (60<(m.N:Int)) || m.N.any (λx=>decide (60<(x.f:Int))))
def au {m:Mm} (h:MD m=ϝ):m.G.length<=60/\m.N.length<=60/\∀ x∈m.N,x.f.length<=60:=by
 unfold MD at h;simp only [Bool.or_eq_false_iff,decide_eq_false_iff_not,List.any_eq_false,decide_eq_true_eq] at h;exact ⟨ω,ω,λx a=>by have:=h.2.2 x a;omega⟩
def TN (m:Mm) (H:ϒ) (B:Nat) (w:Ϣ) (F:B<=w) (Z:Lw B w H m):ϙ prog 7 #[H] w (PO (MD m) w):=by
 obtain ⟨gv,nv,rfl,G,q⟩:=Z;obtain ⟨U,V,rfl,O⟩:=G.fr;obtain ⟨I,J,rfl,T⟩:=q.fr;have r:=Lh q;have f:=@Lh (MD m=(decide (60<(m.G:Int)) || (decide (60<(m.N:Int)) || m.N.any (λx=>decide (60<(x.f:Int)))))) rfl;obtain ⟨g,D⟩:=ε m.G.length;obtain ⟨a,p⟩:=ε m.N.length;rw [<-p] at T r f ⊢;rw [<-D] at O f ⊢;have z:=Lh p;obtain ⟨W,j⟩:=ε (w.alloc (χ #[σ U g V,σ I a J] 28));have d:=Lh (bl1 j);have u:=ro11 j;have p0:=Ω2 u;have M:=Nt F d.o.size;clear G q D p u;go_enter func7,ntmps7;go_upto_region 1 with fail;rw [<-j];clear j;by_cases aZ:(g:Int)<=60;rotate_left
 .go_wp2
  go_ret;exact Gx (by rw [f.o,show decide (60<(g:Int))=ϑ by simp;omega];rfl) d.o
 by_cases bA:(a:Int)<=60;rotate_left
 .go_wp2
  go_ret;exact Gx (by rw [f.o,show decide (60<(a:Int))=ϑ by simp;omega];simp) d.o
 have A:=@Lh (MD m=m.N.any (λx=>decide (60<(x.f:Int)))) (by rw [f.o,show decide (60<(g:Int))=ϝ by simp;omega,show decide (60<(a:Int))=ϝ by simp;omega];rfl);go_wp2_with fail;go_loopw [3] (λi wr=>∃ k:Nat,k<=a/\i=ι k/\Hid (∀ y∈m.N.take k,y.f.length<=60)/\Hid (Below W W wr)) (λi _=>a - (intOf i).toNat)
 case atStart=>exact ⟨0,Nat.zero_le _,rfl,Lh ψ,Lh Br⟩
 case round=>
  obtain ⟨k,hk,rfl,t,e⟩:=hrel;have N:=Lh ((d.o.mono F).trans (e.o.mono M));have s1:=AB e.o p0.2;by_cases aY:k<a
  .obtain ⟨x,hx⟩:∃ x,m.N[k]?=some x:=⟨_,Lg (by have:=z.o;omega)⟩
   rcases r.o.nods N.o with ⟨K,L,C,P,Q,R,h⟩
   obtain ⟨rfl,-,rfl⟩:I=K/\a=m.N.length/\J=L:=by simpa using C
   rcases h with X|⟨b,o,rfl,aO,h⟩
   .rw [X] at hx;simp at hx
   obtain ⟨h1,⟨lv,Y,E⟩,h4⟩:=h k x hx;obtain ⟨la,lc,rfl,S⟩:=E.fr;have s:=Lh hx;obtain ⟨ln,n⟩:=ε x.f.length;rw [<-n] at Y S;have v:=Lh n;have aW:=In k;have aX:(k:Int)<(a:Int):=ω;clear hx E n C h P Q R;by_cases bB:(ln:Int)<=60
   .have aV:Hid (∀ y∈m.N.take (k+1),y.f.length<=60):=Lh (λy c=>by
     rw [List.take_add_one,s.o] at c;rcases List.mem_append.1 c with c|c
     .exact t.o y c
     .simp at c;subst c;have:=v.o;omega)
    go_wp2;go_roundw
    case rel=>exact ⟨k+1,ω,by go_num,aV,e⟩
    case measure=>simp [intOf];omega
   .have l:=@Lh (MD m=ϑ) (by
     rw [A.o,List.any_eq_true];exact ⟨x,Lm s.o,by have:=v.o;simp;omega⟩)
    go_wp2;go_ret;exact Gx l.o.symm (d.o.th e.o)
  .obtain rfl:k=a:=ω
   have l:=@Lh (MD m=ϝ) (by
    rw [A.o,List.any_eq_false];intro y c;have:=t.o y (by rw [z.o,List.take_length];exact c);simp;omega)
   go_wp2;go_ret;exact Gx l.o.symm (d.o.th e.o)
def AE.elem {a:Option Addr} (h:AE B w sz E (σ a n cap) l) {x:α} (d:l[k]?=some x):∃ b o,a=some (π b o)/\b<B/\E w b (o+k*sz) x:=by
 obtain ⟨e,f,g,_,_,_,c⟩:=h;obtain ⟨rfl,_,rfl⟩:a=e/\n=l.length/\cap=f:=by simpa using g
 rcases c with i|⟨b,o,rfl,j,c⟩
 .rw [i] at d;simp at d
 .exact ⟨b,o,rfl,j,c k x d⟩
def AE.frm (h:AE B w sz E v l):∃ a cap,v=σ a l cap/\l.length<=140737488355328:=by
 obtain ⟨a,cap,rfl,b,_⟩:=h;exact ⟨a,cap,rfl,b⟩
def YA (w:Ϣ) (e:Ending) (w':Ϣ):Prop:=e=.returned (.bool ϑ)/\∃ n,w'=w.drewN n
def Er (l:List Int) (o p:ϒ) (A B:Nat) (w:Ϣ) (d:AE A w 1 Aj o l) (e:AE B w 1 Aj p l):ϙ prog 67 #[o,p] w (YA w):=by
 obtain ⟨G,H,rfl,y⟩:=d.frm;obtain ⟨I,J,rfl,_⟩:=e.frm;have f:=Lh d;have g:=Lh e;obtain ⟨b,c⟩:=ε l.length;rw [<-c] at y f g ⊢;have r:=Lh c;clear d e c;go_enter func67,ntmps67;go_wp2_with fail;go_loopw [5] (λi wr=>∃ k:Nat,k<=b/\i=ι k/\Hid (∃ n,wr=w.drewN n)) (λi _=>b - (intOf i).toNat)
 case atStart=>exact ⟨0,Nat.zero_le _,rfl,Lh ⟨0,rfl⟩⟩
 case round=>
  obtain ⟨k,M,rfl,m⟩:=hrel;obtain ⟨n,a⟩:=m.o;by_cases F:k<b
  .obtain ⟨x,hx⟩:∃ x,l[k]?=some x:=⟨_,Lg (by have:=r.o;omega)⟩
   obtain ⟨u,z,s,_,h⟩:=f.o.elem hx;obtain ⟨v,C,t,_,j⟩:=g.o.elem hx;subst s t;have K:wr.cell? (π u (z+k))=some (ι x):=by rw [a];have:=h.1;rw [Nat.mul_one] at this;exact this
   have L:wr.cell? (π v (C+k))=some (ι x):=by rw [a];have:=j.1;rw [Nat.mul_one] at this;exact this
   have D:=In k;have E:(k:Int)<(b:Int):=ω;have q:=Lh a;clear hx h j m a;go_wp2_with fail;go_quiet (fail);go_wp2;go_roundw
   case rel=>exact ⟨k+1,ω,by go_num,Lh ⟨_,by rw [q.o,World.drewN_drewN]⟩⟩
   case measure=>simp [intOf];omega
  .go_wp2
   go_ret;exact ⟨rfl,n,rfl⟩
def AE.nodElem {a:Option Addr} {l:List Gl} (h:AE B w 2 (GP B) (σ a n cap) l) (p:Below B w w') {f:Gl} (q:l[k]?=some f):∃ b o c d,a=some (π b o)/\b<B/\w'.cell? (π b (o+k*2))=some (ι f.type)/\w'.cell? (π b (o+k*2+1))=some (σ c f.f d)/\AE B w' 1 Aj (σ c f.f d) f.f:=by
 obtain ⟨b,o,rfl,g,m⟩:=(h.nods p).elem q;obtain ⟨i,⟨v,j,e⟩,r⟩:=m;obtain ⟨c,d,rfl,_⟩:=e.frm;exact ⟨b,o,c,d,rfl,g,i,j,e⟩
def TH (m:Mm) (N O:ϒ) (A B:Nat) (w:Ϣ) (r:A<=w) (s:B<=w) (ha:Lw A w N m) (b:Lw B w O m) :
  ϙ prog 36 #[N,O] w (λe w'=>e=.returned (.bool ϑ)/\Below w w w'):=by
 obtain ⟨g1,n1,rfl,j,p⟩:=ha;obtain ⟨g2,n2,rfl,l,q⟩:=b;obtain ⟨T,V,rfl,bI⟩:=j.frm;obtain ⟨U,X,rfl,_⟩:=l.frm;obtain ⟨bE,bG,rfl,bD⟩:=p.frm;obtain ⟨bF,bH,rfl,_⟩:=q.frm;obtain ⟨u,v,y,z⟩:=Λ4 j l p q;obtain ⟨H,D⟩:=ε m.G.length;obtain ⟨c,o⟩:=ε m.N.length;rw [<-D] at u v ⊢;rw [<-o] at bD y z ⊢;have S:=Lh o;obtain ⟨W,d⟩:=ε ((w.alloc (χ #[σ T H V,σ bE c bG] 28)).alloc (χ #[σ U H X,σ bF c bH] 28));have a:=Lh (bl2 d);have Q:=Lh (ce21 d);have R:=Lh (ce22 d);have L:=Γ2 Q.o;have M:=Γ2 R.o;have Y:A<=W:=Nt r a.o.size;have Z:B<=W:=Nt s a.o.size;clear j l p q D o;go_enter func36,ntmps36;go_upto_region 1 with fail;rw [<-d];clear d;go_wp2_with fail;refine (Er m.G _ _ A B W (u.o.ints (a.o.mono r)) (v.o.ints (a.o.mono s))).mono ?_;rintro e w8 ⟨rfl,nq,rfl⟩;go_wp2_with fail;go_loopw [5] (λi wr=>∃ k:Nat,k<=c/\i=ι k/\Hid (∃ n,wr=W.drewN n)) (λi _=>c - (intOf i).toNat)
 case atStart=>exact ⟨0,Nat.zero_le _,rfl,Lh ⟨nq,rfl⟩⟩
 case round=>
  obtain ⟨k,hk,rfl,I⟩:=hrel;obtain ⟨n,t⟩:=I.o;have b:Below W W wr:=by rw [t];exact AG Br n
  have s0:=Δ4 b L.1 L.2 M.1 M.2;by_cases bL:k<c
  .obtain ⟨f,hx⟩:∃ x,m.N[k]?=some x:=⟨_,Lg (by have:=S.o;omega)⟩
   obtain ⟨b1,o1,bM,bO,aZ,bA,k1,K,E⟩:=y.o.nodElem ((a.o.mono r).trans (b.mono Y)) hx;obtain ⟨b2,o2,bN,bP,bB,bC,j1,J,F⟩:=z.o.nodElem ((a.o.mono s).trans (b.mono Z)) hx;subst aZ bB;have g:=Lh E;have h:=Lh F;obtain ⟨ty,G⟩:=f;dsimp only at k1 K j1 J g h;obtain ⟨fn,C⟩:=ε G.length;rw [<-C] at K J g h;have bJ:=In k;have bK:(k:Int)<(c:Int):=ω;have P:=Lh t;clear hx E F C I t b;go_wp2_with fail;go_quiet ((go_at_call 67;exact Calls.quiet_of (Er G _ _ A B _ (g.o.ints (AG Br _)) (h.o.ints (AG Br _)))));go_wp2;go_roundw
   case rel=>exact ⟨k+1,ω,by go_num,Lh ⟨_,by rw [P.o,World.drewN_drewN]⟩⟩
   case measure=>simp [intOf];omega
  .clear b
   go_wp2;go_ret;exact ⟨rfl,AG a.o n⟩
def lq (l:List Int) (o p:ϒ) (A B:Nat) (w:Ϣ) (d:AE A w 1 Aj o l) (e:AE B w 1 Aj p l):ϙ prog 20 #[o,p] w (YA w):=by
 obtain ⟨I,J,rfl,y⟩:=d.frm;obtain ⟨K,L,rfl,_⟩:=e.frm;have f:=Lh d;have g:=Lh e;obtain ⟨a,c⟩:=ε l.length;rw [<-c] at y f g ⊢;have r:=Lh c;have G:=ρ (a:Int) (a:Int);clear d e c;go_enter func20,ntmps20;go_wp2_with fail;go_loopw [13] (λi wr=>∃ k:Nat,k<=a/\i=ι k/\Hid (∃ n,wr=w.drewN n)) (λi _=>a - (intOf i).toNat)
 case atStart=>exact ⟨0,Nat.zero_le _,rfl,Lh ⟨0,rfl⟩⟩
 case round=>
  obtain ⟨k,O,rfl,m⟩:=hrel;obtain ⟨n,b⟩:=m.o;by_cases F:k<a
  .obtain ⟨x,hx⟩:∃ x,l[k]?=some x:=⟨_,Lg (by have:=r.o;omega)⟩
   obtain ⟨u,z,s,_,h⟩:=f.o.elem hx;obtain ⟨v,C,t,_,j⟩:=g.o.elem hx;subst s t;have M:wr.cell? (π u (z+k))=some (ι x):=by rw [b];have:=h.1;rw [Nat.mul_one] at this;exact this
   have N:wr.cell? (π v (C+k))=some (ι x):=by rw [b];have:=j.1;rw [Nat.mul_one] at this;exact this
   have D:=In k;have E:(k:Int)<(a:Int):=ω;have H:=ρ x x;have q:=Lh b;clear hx h j m b;go_wp2_with fail;go_quiet (fail);go_wp2;go_roundw
   case rel=>exact ⟨k+1,ω,by go_num,Lh ⟨_,by rw [q.o,World.drewN_drewN]⟩⟩
   case measure=>simp [intOf];omega
  .go_wp2
   go_ret;exact ⟨rfl,n,rfl⟩
def bigW (x:Bi):Bool:=decide (100<(x.proc.size:Int)) || decide (60<(x.args:Int))
def longW (l:List Bi):Bool:=((decide (6<(l:Int)) && decide ((l:Int)<=2000)) || decide (3000<(l:Int))) || l.any bigW
def wideB (l:List (List Bi)):Bool:=((decide (4<(l:Int)) && decide ((l:Int)<=8)) || decide (20<(l:Int))) || l.any longW
def enters_widec:An 24:=λ_ _=>by kernel_rfl
def enters_widel:An 22:=λ_ _=>by kernel_rfl
def widec_any (x:Bi) (c:ϒ) (B:Nat) (w:Ϣ) (e:Gh B w c x):ϙ prog 24 #[c] w (PO (bigW x) w):=by
 obtain ⟨g,rfl,b,h⟩:=e;obtain ⟨i,j,rfl,d⟩:=b.fr;unfold bigW;obtain ⟨k,a⟩:=ε x.args.length;rw [<-a] at d ⊢;clear b a;by_cases f:(x.proc.size:Int)<=100;all_goals
  go_enter func24,ntmps24;go_wp2;go_ret;exact Gx (by simp<;>omega) (AA _ _)
def widec_fn (B:Nat) (w:Ϣ):∀ (x:Bi) (a:Ϣ) (b:ϒ),Below w w a->Gh B a b x->ϙ prog 24 (#[b]++#[]) a (λe d=>e=.returned (.bool (bigW x))/\Below a a d):=λx a b _ c=>widec_any x b B a c
def widel_any (l:List Bi) (lv:ϒ) (B:Nat) (w:Ϣ) (m:B<=w) (hl:Nv B w lv l):ϙ prog 22 #[lv] w (PO (longW l) w):=by
 have c:=Lh hl;obtain ⟨p,q,rfl,i⟩:=hl.fr;have a:=@Lh (longW l=(((decide (6<(l:Int)) && decide ((l:Int)<=2000)) || decide (3000<(l:Int))) || l.any bigW)) rfl;obtain ⟨n,g⟩:=ε l.length;rw [<-g] at a i c ⊢;clear hl g;by_cases b:(6<(n:Int)/\(n:Int)<=2000)
 .obtain ⟨h1,h2⟩:=b
  go_enter func22,ntmps22;go_wp2;go_ret;exact Gx (by rw [a.o];simp<;>omega) Br
 by_cases o:3000<(n:Int)
 .have f:6<(n:Int):=ω
  have k:¬(n:Int)<=2000:=ω;clear b;go_enter func22,ntmps22;go_wp2;go_ret;exact Gx (by rw [a.o];simp<;>omega) Br
 have j:=@Lh (longW l=l.any bigW) (by
  rw [a.o,show (decide (6<(n:Int)) && decide ((n:Int)<=2000))=ϝ by simp;omega,show decide (3000<(n:Int))=ϝ by simp;omega];rfl)
 rcases (show ¬6<(n:Int)\/(6<(n:Int)/\¬(n:Int)<=2000) by omega) with f|⟨f,k⟩
 all_goals
  clear b;go_enter func22,ntmps22;go_wp2_with fail;refine (Fb 24 #[] bigW l _ B w enters_widec m c.o (widec_fn B w)).mono ?_;rintro e r ⟨rfl,d⟩;have h:=Lh d;clear d;go_wp2;go_ret;exact Gx j.o.symm h.o
def widel_fn (B:Nat) (w:Ϣ) (c:B<=w):∀ (x:List Bi) (a:Ϣ) (b:ϒ),Below w w a->Nv B a b x->ϙ prog 22 (#[b]++#[]) a (λe g=>e=.returned (.bool (longW x))/\Below a a g):=λx a b d f=>widel_any x b B a (Nt c d.size) f
def wide_any (l:List (List Bi)) (lv:ϒ) (B:Nat) (w:Ϣ) (g:B<=w) (hl:AE B w 1 (Bg 2 (DA B) B) lv l):ϙ prog 8 #[lv] w (PO (wideB l) w):=by
 have c:=Lh hl;obtain ⟨p,q,rfl,j⟩:=hl.fr;have a:=@Lh (wideB l=(((decide (4<(l:Int)) && decide ((l:Int)<=8)) || decide (20<(l:Int))) || l.any longW)) rfl;obtain ⟨n,h⟩:=ε l.length;rw [<-h] at a j c ⊢;clear hl h;by_cases b:(4<(n:Int)/\(n:Int)<=8)
 .obtain ⟨h1,h2⟩:=b
  go_enter func8,ntmps8;go_wp2;go_ret;exact Gx (by rw [a.o];simp<;>omega) Br
 by_cases o:20<(n:Int)
 .have f:4<(n:Int):=ω
  have m:¬(n:Int)<=8:=ω;clear b;go_enter func8,ntmps8;go_wp2;go_ret;exact Gx (by rw [a.o];simp<;>omega) Br
 have k:=@Lh (wideB l=l.any longW) (by
  rw [a.o,show (decide (4<(n:Int)) && decide ((n:Int)<=8))=ϝ by simp;omega,show decide (20<(n:Int))=ϝ by simp;omega];rfl)
 rcases (show ¬4<(n:Int)\/(4<(n:Int)/\¬(n:Int)<=8) by omega) with f|⟨f,m⟩
 all_goals
  clear b;go_enter func8,ntmps8;go_wp2_with fail;refine (FJ 22 #[] longW l _ B w enters_widel g c.o (widel_fn B w g)).mono ?_;rintro e r ⟨rfl,d⟩;have i:=Lh d;clear d;go_wp2;go_ret;exact Gx k.o.symm i.o
def wideB_no {l:List (List Bi)} (h:wideB l=ϝ):∀ x∈l,∀ y∈x,y.args.length<=60:=by
 unfold wideB at h;simp only [Bool.or_eq_false_iff,List.any_eq_false] at h;intro x c y d;have a:=h.2 x c;unfold longW at a;simp only [Bool.or_eq_true,not_or,List.any_eq_true,not_exists,not_and] at a;have b:=a.2 y d;unfold bigW at b;simp only [Bool.or_eq_true,decide_eq_true_eq,not_or] at b;omega
def GreatPost (c:AQ) (w:Ϣ) (e:Ending) (w':Ϣ):Prop:=∃ b,e=.returned (.bool b)/\(b=ϝ->∀ y∈c.funcs,y.code.length<=600)/\Below w w w'
def great_any (c:AQ) (r:ϒ) (B:Nat) (w:Ϣ) (J:B<=w) (hc:BF B w r c):ϙ prog 6 #[r] w (GreatPost c w):=by
 obtain ⟨fv,gv,rfl,K,s,aW⟩:=hc;obtain ⟨fa,fc,rfl,V⟩:=K.fr;obtain ⟨E,F,rfl,X⟩:=s.fr;have t:=Lh s;obtain ⟨D,p⟩:=ε c.H.length;obtain ⟨d,l⟩:=ε c.funcs.length;rw [<-l] at X t ⊢;rw [<-p] at V ⊢;have A:=Lh l;have aV:=Lh p;obtain ⟨W,j⟩:=ε (w.alloc (χ #[σ fa D fc,ι c.G,σ E d F] 25));have g:=Lh (bl1 j);have v:=ro11 j;have L:=Ω3 v;clear K s l p v;go_enter func6,ntmps6;go_upto_region 1 with fail;rw [<-j];clear j;go_wp2_with fail;go_loopw [3,9] (λn i wr=>∃ k z:Nat,k<=d/\i=ι k/\n=ι z/\z<=600/\Hid (∀ y∈c.funcs.take k,y.code.length<=z)/\Hid (Below W W wr)) (λ_ i _=>d - (intOf i).toNat)
 case atStart=>exact ⟨0,0,Nat.zero_le _,rfl,rfl,ω,Lh ψ,Lh Br⟩
 case round=>
  obtain ⟨k,z,hk,rfl,rfl,hz,u,e⟩:=hrel;have S:=Nt J g.o.size;have T:=Lh ((g.o.mono J).trans (e.o.mono S));have s2:=AB e.o L.2.2;by_cases aZ:k<d
  .obtain ⟨f,hx⟩:∃ x,c.funcs[k]?=some x:=⟨_,Lg (by have:=A.o;omega)⟩
   rcases t.o.funs T.o with ⟨O,P,C,Y,Z,aT,h⟩
   obtain ⟨rfl,-,rfl⟩:E=O/\d=c.funcs.length/\F=P:=by simpa using C
   rcases h with h0|⟨b,o,rfl,aN,h⟩
   .rw [h0] at hx;simp at hx
   obtain ⟨G,h2,h3,h4,⟨r,h5,H⟩,I⟩:=h k f hx;obtain ⟨ca,cc,rfl,U⟩:=H.fr;have N:=Lh hx;obtain ⟨q,m⟩:=ε f.code.length;rw [<-m] at h5 U;have R:=Lh m;have aX:=In k;have aY:(k:Int)<(d:Int):=ω;have bA:=I.1;clear hx H m C h I Y Z aT;by_cases bC:(f.name.size:Int)<=100;rotate_left
   .go_wp2
    go_ret;exact ⟨ϑ,rfl,ψ,(g.o.th e.o).th (AA _ _)⟩
   by_cases bD:(z:Int)+(q:Int)<=600;rotate_left
   .go_wp2
    go_ret;exact ⟨ϑ,rfl,ψ,(g.o.th e.o).th (AA _ _)⟩
   have aU:Hid (∀ y∈c.funcs.take (k+1),y.code.length<=z+q):=Lh (λy a=>by
    rw [List.take_add_one,N.o] at a;rcases List.mem_append.1 a with a|a
    .have:=u.o y a;omega
    .simp at a;subst a;have:=R.o;omega)
   go_wp2;go_roundw
   case rel=>exact ⟨k+1,z+q,ω,by go_num,by go_num,ω,aU,Lh (e.o.th (AA _ _))⟩
   case measure=>simp [intOf];omega
  .obtain rfl:k=d:=ω
   have Q:=@Lh (∀ y∈c.funcs,y.code.length<=600) (by
    have G:=A.o;intro y a;have:=u.o y (by rw [G,List.take_length];exact a);omega)
   have M:=Lh (g.o.th e.o);have s0:=AB e.o L.1;by_cases bB:(D:Int)<=20;all_goals
    go_wp2;go_ret;exact ⟨_,rfl,λ_=>Q.o,M.o⟩
