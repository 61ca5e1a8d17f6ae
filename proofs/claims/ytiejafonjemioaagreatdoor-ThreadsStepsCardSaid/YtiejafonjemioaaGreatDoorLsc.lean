import Derived.Test.YtiejafonjemioaaGreatDoorTh4
import Derived.Laws.EntriesVeiled
import Derived.Outline
import Derived.Test.YtiejafonjemioaaGreatDoorPst3
set_option maxHeartbeats 8000000
set_option maxRecDepth 100000
set_option linter.all false
open Go renaming World→Ϣ,Value→ϒ,Calls→ϙ
open Go.RowKit renaming Below→ϐ
open Option renaming some→ς
open Bool renaming false→ϝ,true→ϑ
open And renaming intro→ϟ
open Go.Value renaming slice→σ
open Go.Obj renaming cells→χ
namespace Go.Proofs.YtiejafonjemioaaGreatDoor
open Go.RowKit Proofs.Tryz
variable {α:Type} {B sz cap n k:Nat} {w w':Ϣ} {v:ϒ} {a:Option Addr} {b:Bool} {E:Ϣ->Nat->Nat->α->Prop} {l:List α}
def AE.fr (h:AE B w sz E v l):∃ a cap,v=σ a l cap/\l.length<=140737488355328:=by
 obtain ⟨a,cap,b,c,_⟩:=h;exact ⟨a,cap,b,c⟩
def YN (w:Ϣ) (e:Ending) (w':Ϣ):Prop:=∃ b,e=.returned (.bool b)/\ϐ w w w'
def PO (b:Bool) (w:Ϣ) (e:Ending) (w':Ϣ):Prop:=e=.returned (.bool b)/\ϐ w w w'
def XP {a:Bool} (h:a=b):Ending.returned (.bool a)=Ending.returned (.bool b):=by rw [h]
def Gx {a:Bool} (h:a=b) (c:ϐ w w w'):PO b w (.returned (.bool a)) w':=⟨XP h,c⟩
def IS (x:Bi):Bool:=decide (100<(x.proc.size:Int)) || decide (20<(x.args:Int))
def FZ (l:List Bi):Bool:=((decide (6<(l:Int)) && decide ((l:Int)<=2000)) || decide (2005<(l:Int))) || l.any IS
def VK (l:List (List Bi)):Bool:=decide ((l:Int)<=10) && !(l.any FZ)
def OQ:An 37:=λ_ _=>by kernel_rfl
def OR:An 35:=λ_ _=>by kernel_rfl
def T6 (x:Bi) (c:ϒ) (B:Nat) (w:Ϣ) (e:Gh B w c x):ϙ prog 37 #[c] w (PO (IS x) w):=by
 obtain ⟨g,rfl,b,h⟩:=e;obtain ⟨i,j,rfl,d⟩:=b.fr;unfold IS;obtain ⟨k,a⟩:=ε x.args.length;rw [<-a] at d ⊢;clear b a;by_cases f:(x.proc.size:Int)<=100;all_goals
  go_enter func37,ntmps37;go_wp2;go_ret;exact Gx (by simp<;>omega) (AA _ _)
def Vm (B:Nat) (w:Ϣ):∀ (x:Bi) (a:Ϣ) (b:ϒ),ϐ w w a->Gh B a b x->ϙ prog 37 (#[b]++#[]) a (λe d=>e=.returned (.bool (IS x))/\ϐ a a d):=λx a b _ c=>T6 x b B a c
def T7 (l:List Bi) (lv:ϒ) (B:Nat) (w:Ϣ) (m:B<=w) (hl:Nv B w lv l):ϙ prog 35 #[lv] w (PO (FZ l) w):=by
 have c:=Lh hl;obtain ⟨p,q,rfl,i⟩:=hl.fr;have a:=@Lh (FZ l=(((decide (6<(l:Int)) && decide ((l:Int)<=2000)) || decide (2005<(l:Int))) || l.any IS)) rfl;obtain ⟨n,g⟩:=ε l.length;rw [<-g] at a i c ⊢;clear hl g;by_cases b:(6<(n:Int)/\(n:Int)<=2000)
 .obtain ⟨h1,h2⟩:=b
  go_enter func35,ntmps35;go_wp2;go_ret;exact Gx (by rw [a.o];simp<;>omega) Br
 by_cases o:2005<(n:Int)
 .have f:6<(n:Int):=ω
  have k:¬(n:Int)<=2000:=ω;clear b;go_enter func35,ntmps35;go_wp2;go_ret;exact Gx (by rw [a.o];simp<;>omega) Br
 have j:=@Lh (FZ l=l.any IS) (by
  rw [a.o,show (decide (6<(n:Int)) && decide ((n:Int)<=2000))=ϝ by simp;omega,show decide (2005<(n:Int))=ϝ by simp;omega];rfl)
 rcases (show ¬6<(n:Int)\/(6<(n:Int)/\¬(n:Int)<=2000) by omega) with f|⟨f,k⟩
 all_goals
  clear b;go_enter func35,ntmps35;go_wp2_with fail;refine (Fb 37 #[] IS l _ B w OQ m c.o (Vm B w)).mono ?_;rintro e r ⟨rfl,d⟩;have h:=Lh d;clear d;go_wp2;go_ret;exact Gx j.o.symm h.o
def Vn (B:Nat) (w:Ϣ) (c:B<=w):∀ (x:List Bi) (a:Ϣ) (b:ϒ),ϐ w w a->Nv B a b x->ϙ prog 35 (#[b]++#[]) a (λe g=>e=.returned (.bool (FZ x))/\ϐ a a g):=λx a b d f=>T7 x b B a (Nt c d.size) f
def TL (l:List (List Bi)) (lv:ϒ) (B:Nat) (w:Ϣ) (d:B<=w) (hl:AE B w 1 (Bg 2 (DA B) B) lv l):ϙ prog 10 #[lv] w (PO (VK l) w):=by
 have b:=Lh hl;obtain ⟨k,m,rfl,h⟩:=hl.fr;have a:=@Lh (VK l=(decide ((l:Int)<=10) && !(l.any FZ))) rfl;obtain ⟨n,f⟩:=ε l.length;rw [<-f] at a h b ⊢;clear hl f;by_cases j:(n:Int)<=10;rotate_left
 .go_enter func10,ntmps10
  go_wp2;go_ret;exact Gx (by rw [a.o];simp<;>omega) Br
 have i:=@Lh (VK l=!(l.any FZ)) (by rw [a.o,show decide ((n:Int)<=10)=ϑ by simp;omega];rfl);go_enter func10,ntmps10;go_wp2_with fail;refine (FJ 35 #[] FZ l _ B w OR d b.o (Vn B w d)).mono ?_;rintro e o ⟨rfl,c⟩;have g:=Lh c;clear c;go_wp2;go_ret;exact Gx i.o.symm g.o
def IY (f:AY):Bool:=decide (60<(f.L:Int)) || decide (60<(f.S:Int))
def Hl (m:AV):Bool:=decide ((m.J:Int)<=20) && !(m.J.any IY)
def OS:An 82:=λ_ _=>by kernel_rfl
def UM (x:AY) (e:ϒ) (B:Nat) (w:Ϣ) (h:VQ B w e x):ϙ prog 82 #[e] w (PO (IY x) w):=by
 obtain ⟨m,q,rfl,c,d,_⟩:=h;obtain ⟨k,l,rfl,f⟩:=c.fr;obtain ⟨n,o,rfl,g⟩:=d.fr;unfold IY;obtain ⟨i,a⟩:=ε x.L.length;obtain ⟨p,b⟩:=ε x.S.length;rw [<-a] at f ⊢;rw [<-b] at g ⊢;clear c d a b;by_cases j:(i:Int)<=60;all_goals
  go_enter func82,ntmps82;go_wp2;go_ret;exact Gx (by simp<;>omega) (AA _ _)
def Vv (B:Nat) (w:Ϣ):∀ (x:AY) (a:Ϣ) (b:ϒ),ϐ w w a->VQ B a b x->ϙ prog 82 (#[b]++#[]) a (λe d=>e=.returned (.bool (IY x))/\ϐ a a d):=λx a b _ c=>UM x b B a c
def QH (m:AV) (k:ϒ) (B:Nat) (w:Ϣ) (i:B<=w) (t:Nx B w k m):ϙ prog 42 #[k] w (PO (Hl m) w):=by
 obtain ⟨v,rfl,f,-⟩:=t;have a:=Lh f;obtain ⟨r,s,rfl,o⟩:=f.fr;have d:=@Lh (Hl m=(decide ((m.J:Int)<=20) && !(m.J.any IY))) rfl;obtain ⟨n,j⟩:=ε m.J.length;rw [<-j] at d o a ⊢;clear f j;obtain ⟨W,c⟩:=ε (w.alloc (χ #[σ r n s,ι m.Q.K,ι m.Q.O,ι m.Q.D,ι m.Q.V,ι m.Q.X,ι m.Y,ι m.C,ι m.I] 51));have b:=Lh (bl1 c);have h:=ro11 c;have x:=Cw h 0 rfl;have p:=Nt i b.o.size;have a:=Lh (a.o.fras (b.o.mono i));clear h;go_enter func42,ntmps42;go_upto_region 1 with fail;rw [<-c];clear c;by_cases u:(n:Int)<=20;rotate_left
 .go_wp2
  go_ret;exact Gx (by rw [d.o];simp<;>omega) b.o
 have q:=@Lh (Hl m=!(m.J.any IY)) (by rw [d.o,show decide ((n:Int)<=20)=ϑ by simp;omega];rfl);go_wp2_with fail;refine (IL 82 #[] IY m.J _ B W OS p a.o (Vv B W)).mono ?_;rintro e y ⟨rfl,g⟩;have l:=Lh (b.o.th g);clear g;go_wp2;go_ret;exact Gx q.o.symm l.o
def Rt (c:AQ) (w:Ϣ) (e:Ending) (w':Ϣ):Prop:=∃ b,e=.returned (.bool b)/\(b=ϑ->c.H.length<=100/\c.funcs.length<=20/\∀ y∈c.funcs,y.code.length<=600)/\ϐ w w w'
def MH (c:AQ) (r:ϒ) (B:Nat) (w:Ϣ) (J:B<=w) (hc:BF B w r c):ϙ prog 8 #[r] w (Rt c w):=by
 obtain ⟨fv,gv,rfl,K,s,aW⟩:=hc;obtain ⟨fa,fc,rfl,V⟩:=K.fr;obtain ⟨E,F,rfl,X⟩:=s.fr;have t:=Lh s;obtain ⟨D,p⟩:=ε c.H.length;obtain ⟨d,l⟩:=ε c.funcs.length;rw [<-l] at X t ⊢;rw [<-p] at V ⊢;have A:=Lh l;have R:=Lh p;obtain ⟨W,j⟩:=ε (w.alloc (χ #[σ fa D fc,ι c.G,σ E d F] 25));have e:=Lh (bl1 j);have v:=ro11 j;have p0:=Ω3 v;clear K s l p v;go_enter func8,ntmps8;go_upto_region 1 with fail;rw [<-j];clear j;by_cases bB:(d:Int)<=20;rotate_left
 .go_wp2
  go_ret;exact ⟨ϝ,rfl,ψ,e.o⟩
 by_cases bC:(D:Int)<=100;rotate_left
 .go_wp2
  go_ret;exact ⟨ϝ,rfl,ψ,e.o⟩
 go_wp2_with fail;go_loopw [3,19] (λn i wr=>∃ k z:Nat,k<=d/\i=ι k/\n=ι z/\z<=600/\Hid (∀ y∈c.funcs.take k,y.code.length<=z)/\Hid (ϐ W W wr)) (λ_ i _=>d - (intOf i).toNat)
 case atStart=>exact ⟨0,0,Nat.zero_le _,rfl,rfl,ω,Lh ψ,Lh Br⟩
 case round=>
  obtain ⟨k,z,hk,rfl,rfl,hz,u,g⟩:=hrel;have S:=Nt J e.o.size;have T:=Lh ((e.o.mono J).trans (g.o.mono S));have s2:=AB g.o p0.2.2;by_cases aZ:k<d
  .obtain ⟨f,hx⟩:∃ x,c.funcs[k]?=ς x:=⟨_,Lg (by have:=A.o;omega)⟩
   rcases t.o.funs T.o with ⟨N,O,C,Y,Z,aU,h⟩
   obtain ⟨rfl,-,rfl⟩:E=N/\d=c.funcs.length/\F=O:=by simpa using C
   rcases h with h0|⟨b,o,rfl,aO,h⟩
   .rw [h0] at hx;simp at hx
   obtain ⟨G,h2,h3,h4,⟨r,h5,H⟩,I⟩:=h k f hx;obtain ⟨ca,cc,rfl,U⟩:=H.fr;have M:=Lh hx;obtain ⟨q,m⟩:=ε f.code.length;rw [<-m] at h5 U;have Q:=Lh m;have aX:=In k;have aY:(k:Int)<(d:Int):=ω;have bA:=I.1;clear hx H m C h I Y Z aU;by_cases bD:(f.name.size:Int)<=100;rotate_left
   .go_wp2
    go_ret;exact ⟨ϝ,rfl,ψ,(e.o.th g.o).th (AA _ _)⟩
   by_cases bE:(z:Int)+(q:Int)<=600;rotate_left
   .go_wp2
    go_ret;exact ⟨ϝ,rfl,ψ,(e.o.th g.o).th (AA _ _)⟩
   have aV:Hid (∀ y∈c.funcs.take (k+1),y.code.length<=z+q):=Lh (λy a=>by
    rw [List.take_add_one,M.o] at a;rcases List.mem_append.1 a with a|a
    .have:=u.o y a;omega
    .simp at a;subst a;have:=Q.o;omega)
   go_wp2;go_roundw
   case rel=>exact ⟨k+1,z+q,ω,by go_num,by go_num,ω,aV,Lh (g.o.th (AA _ _))⟩
   case measure=>simp [intOf];omega
  .obtain rfl:k=d:=ω
   have P:=@Lh (c.H.length<=100/\c.funcs.length<=20/\∀ y∈c.funcs,y.code.length<=600) (by
    have G:=A.o;have h2:=R.o;refine ⟨ω,ω,λy a=>?_⟩;have:=u.o y (by rw [G,List.take_length];exact a);omega)
   have L:=Lh (e.o.th g.o);go_wp2;go_ret;exact ⟨ϑ,rfl,λ_=>P.o,L.o⟩
def MD (m:Mm):Bool:=decide (60<(m.G:Int)) || (decide (60<(m.N:Int)) || m.N.any (λx=>decide (60<(x.f:Int))))
def TN (m:Mm) (H:ϒ) (B:Nat) (w:Ϣ) (F:B<=w) (Z:Lw B w H m):ϙ prog 9 #[H] w (PO (MD m) w):=by
 obtain ⟨gv,nv,rfl,G,q⟩:=Z;obtain ⟨U,V,rfl,O⟩:=G.fr;obtain ⟨I,J,rfl,T⟩:=q.fr;have r:=Lh q;have f:=@Lh (MD m=(decide (60<(m.G:Int)) || (decide (60<(m.N:Int)) || m.N.any (λx=>decide (60<(x.f:Int)))))) rfl;obtain ⟨g,D⟩:=ε m.G.length;obtain ⟨a,p⟩:=ε m.N.length;rw [<-p] at T r f ⊢;rw [<-D] at O f ⊢;have z:=Lh p;obtain ⟨W,j⟩:=ε (w.alloc (χ #[σ U g V,σ I a J] 28));have d:=Lh (bl1 j);have u:=ro11 j;have p0:=Ω2 u;have M:=Nt F d.o.size;clear G q D p u;go_enter func9,ntmps9;go_upto_region 1 with fail;rw [<-j];clear j;by_cases aZ:(g:Int)<=60;rotate_left
 .go_wp2
  go_ret;exact Gx (by rw [f.o,show decide (60<(g:Int))=ϑ by simp;omega];rfl) d.o
 by_cases bA:(a:Int)<=60;rotate_left
 .go_wp2
  go_ret;exact Gx (by rw [f.o,show decide (60<(a:Int))=ϑ by simp;omega];simp) d.o
 have A:=@Lh (MD m=m.N.any (λx=>decide (60<(x.f:Int)))) (by rw [f.o,show decide (60<(g:Int))=ϝ by simp;omega,show decide (60<(a:Int))=ϝ by simp;omega];rfl);go_wp2_with fail;go_loopw [3] (λi wr=>∃ k:Nat,k<=a/\i=ι k/\Hid (∀ y∈m.N.take k,y.f.length<=60)/\Hid (ϐ W W wr)) (λi _=>a - (intOf i).toNat)
 case atStart=>exact ⟨0,Nat.zero_le _,rfl,Lh ψ,Lh Br⟩
 case round=>
  obtain ⟨k,hk,rfl,t,e⟩:=hrel;have N:=Lh ((d.o.mono F).trans (e.o.mono M));have s1:=AB e.o p0.2;by_cases aY:k<a
  .obtain ⟨x,hx⟩:∃ x,m.N[k]?=ς x:=⟨_,Lg (by have:=z.o;omega)⟩
   rcases r.o.nods N.o with ⟨K,L,C,P,Q,R,h⟩
   obtain ⟨rfl,-,rfl⟩:I=K/\a=m.N.length/\J=L:=by simpa using C
   rcases h with X|⟨b,o,rfl,aO,h⟩
   .rw [X] at hx;simp at hx
   obtain ⟨h1,⟨lv,Y,E⟩,h4⟩:=h k x hx;obtain ⟨la,lc,rfl,S⟩:=E.fr;have s:=Lh hx;obtain ⟨ln,n⟩:=ε x.f.length;rw [<-n] at Y S;have v:=Lh n;have aW:=In k;have aX:(k:Int)<(a:Int):=ω;clear hx E n C h P Q R;by_cases bB:(ln:Int)<=60
   .have aV:Hid (∀ y∈m.N.take (k+1),y.f.length<=60):=Lh (λy c=>by
     rw [List.take_add_one,s.o] at c;rcases List.mem_append.1 c with c|c
     .exact t.o y c
     .simp at c;subst c;have:=v.o;omega)
    go_wp2;go_roundw
    case rel=>exact ⟨k+1,ω,by go_num,aV,e⟩
    case measure=>simp [intOf];omega
   .have l:=@Lh (MD m=ϑ) (by
     rw [A.o,List.any_eq_true];exact ⟨x,Lm s.o,by have:=v.o;simp;omega⟩)
    go_wp2;go_ret;exact Gx l.o.symm (d.o.th e.o)
  .obtain rfl:k=a:=ω
   have l:=@Lh (MD m=ϝ) (by
    rw [A.o,List.any_eq_false];intro y c;have:=t.o y (by rw [z.o,List.take_length];exact c);simp;omega)
   go_wp2;go_ret;exact Gx l.o.symm (d.o.th e.o)
def J7 (n:Int):Bool:=decide (549755813888<n) && decide (n<=1099511627776)
def MT (m:AV):Bool:=(J7 m.C || !Hl m) || (decide (300<m.Y) && decide (m.Y<=1048576))
def LD:An 38:=λ_ _=>by kernel_rfl
def Pt:An 41:=λ_ _=>by kernel_rfl
def Pu:An 45:=λ_ _=>by kernel_rfl
def WM (x:List Int) (d:ϒ) (B:Nat) (w:Ϣ) (b:Q8 B w d x):ϙ prog 38 #[d] w (PO (decide (40<(x:Int))) w):=by
 obtain ⟨a,c,rfl,h⟩:=AE.fr b;clear b;go_enter func38,ntmps38;go_wp2;go_ret;exact Gx rfl Br
def Uv (B:Nat) (w:Ϣ):∀ (x:List Int) (a:Ϣ) (b:ϒ),ϐ w w a->Q8 B a b x->ϙ prog 38 (#[b]++#[]) a (λe d=>e=.returned (.bool (decide (40<(x:Int))))/\ϐ a a d):=λx a b _ c=>WM x b B a c
def WO (x:List CD) (d:ϒ) (B:Nat) (w:Ϣ) (b:RA B w d x):ϙ prog 45 #[d] w (PO (decide (40<(x:Int))) w):=by
 obtain ⟨_,b⟩:=b;obtain ⟨a,c,rfl,h⟩:=AE.fr b;clear b;go_enter func45,ntmps45;go_wp2;go_ret;exact Gx rfl Br
def XT (B:Nat) (w:Ϣ):∀ (x:List CD) (a:Ϣ) (b:ϒ),ϐ w w a->RA B a b x->ϙ prog 45 (#[b]++#[]) a (λe d=>e=.returned (.bool (decide (40<(x:Int))))/\ϐ a a d):=λx a b _ c=>WO x b B a c
def RX (n:Int) (w:Ϣ):ϙ prog 39 #[ι n] w (λe w'=>e=.returned (.bool (J7 n))/\w=w'):=by
 unfold J7;by_cases a:549755813888<n;all_goals
  go_enter func39,ntmps39;go_wp2;go_ret;exact ⟨XP (by simp<;>omega),rfl⟩
def XR (w:Ϣ):∀ (x:Int) (a:Ϣ) (b:ϒ),ϐ w w a->Ny 0 a b x->ϙ prog 39 (#[b]++#[]) a (λe c=>e=.returned (.bool (J7 x))/\ϐ a a c):=by
 rintro x a b _ ⟨rfl,_⟩;exact (RX x a).mono λe c ⟨d,f⟩=>⟨d,f▸Below.refl _ _⟩
def WN (m:AV) (s:ϒ) (b B:Nat) (w:Ϣ) (k:B<=w) (l:w.cell? (π b 0)=ς (.func (.func 39) #[] #[])) (p:Nx B w s m):ϙ prog 41 #[s,.pointer (ς (π b 0))] w (PO (MT m) w):=by
 have f:=Lh p;obtain ⟨K,rfl,o,-⟩:=p;obtain ⟨y,z,rfl,u⟩:=o.fr;obtain ⟨n,q⟩:=ε m.J.length;rw [<-q] at u f ⊢;clear o q;obtain ⟨W,g⟩:=ε (w.alloc (χ #[σ y n z,ι m.Q.K,ι m.Q.O,ι m.Q.D,ι m.Q.V,ι m.Q.X,ι m.Y,ι m.C,ι m.I] 51));have d:=Lh (bl1 g);have i:=ro11 g;obtain ⟨A,C,D,E,F,G,r,H,I⟩:=Ω9 i;have J:=AB d.o l;have v:=Nt k d.o.size;have f:=Lh (f.o.below (d.o.mono k));have c:=@Lh (MT m=((J7 m.C || !Hl m) || (decide (300<m.Y) && decide (m.Y<=1048576)))) rfl;clear i l;go_enter func41,ntmps41;go_upto_region 1 with fail;rw [<-g];clear g;go_wp2_with fail;refine (RX m.C W).mono ?_;rintro e M ⟨rfl,rfl⟩;cases a:J7 m.C with
 | true=>rw [a] at c;have t:=Lh c.o;clear a c;go_wp2;go_ret;exact Gx (by rw [t.o];rfl) d.o
 | false=>
  rw [a] at c;clear a;go_wp2_with fail;refine (QH m _ B W v f.o).mono ?_;rintro e N ⟨rfl,h⟩;have j:=Lh (d.o.th h);have r:=AB h r;clear h A C D E F G H I J;cases a:Hl m with
  | false=>rw [a] at c;clear a;go_wp2;go_ret;exact Gx (by rw [c.o];rfl) j.o
  | true=>
   rw [a] at c;have x:=@Lh (MT m=(decide (300<m.Y) && decide (m.Y<=1048576))) (by rw [c.o];simp);clear a;by_cases L:300<m.Y;all_goals
    go_wp2;go_ret;exact Gx (by rw [x.o];simp<;>omega) j.o
def XS (b B:Nat) (w:Ϣ) (f:B<=w) (g:w.cell? (π b 0)=ς (.func (.func 39) #[] #[])):∀ (x:AV) (a:Ϣ) (c:ϒ),ϐ w w a->Nx B a c x->ϙ prog 41 (#[c]++#[.pointer (ς (π b 0))]) a (λe i=>e=.returned (.bool (MT x))/\ϐ a a i):=λx a c d h=>WN x c b B a (Nt f d.size) (AB d g) h
def CJ.lens {s:A3} (h:CJ B w v s):s.M.G.length<=140737488355328/\s.M.N.length<=140737488355328/\s.R.length<=140737488355328/\s.N.length<=140737488355328/\s.A.length<=140737488355328/\s.results.length<=140737488355328/\s.Z.length<=140737488355328/\s.P.length<=140737488355328:=by
 obtain ⟨x,y,C,z,t,A,r,u,rfl,j,k,l,m,n,o,p,q,-⟩:=h;obtain ⟨_,_,-,a⟩:=j.fr;obtain ⟨_,_,-,b⟩:=k.fr;obtain ⟨_,_,-,c⟩:=l.fr;obtain ⟨_,_,-,d⟩:=m.fr;obtain ⟨_,_,-,e⟩:=n.fr;obtain ⟨_,_,-,f⟩:=o.fr;obtain ⟨_,_,-,g⟩:=p.fr;obtain ⟨_,_,-,i⟩:=q.fr;exact ⟨a,b,c,d,e,f,g,i⟩
def Ml (s:A3) (sv:ϒ) (B:Nat) (w:Ϣ) (hB:B<=w) (hs:CJ B w sv s):ϙ prog 11 #[sv] w (YN w):=by
 obtain ⟨l1,l2,l3,l4,l5,l6,l7,l8⟩:=hs.lens;obtain ⟨ga,gc,ma,mc,ra,rc,na,nc,ca,cc,oa,oc,ba,bc,ea,ec,rfl⟩:=hs.open_;obtain ⟨I,J,M,K,C,L,G,H,-⟩:=hs.parts;try delta Bt
 obtain ⟨gn,aW⟩:=ε s.M.G.length;obtain ⟨mn,aX⟩:=ε s.M.N.length;obtain ⟨P,bB⟩:=ε s.R.length;obtain ⟨N,aY⟩:=ε s.N.length;obtain ⟨cn,aT⟩:=ε s.A.length;obtain ⟨O,aZ⟩:=ε s.results.length;obtain ⟨E,aS⟩:=ε s.Z.length;obtain ⟨F,aU⟩:=ε s.P.length;obtain ⟨i,aV⟩:=ε s.Y;obtain ⟨st,bC⟩:=ε s.U;rw [<-aW] at l1 I ⊢;rw [<-aX] at l2 J ⊢;rw [<-bB] at l3 M ⊢;rw [<-aY] at l4 K ⊢;rw [<-aT] at l5 C ⊢;rw [<-aZ] at l6 L ⊢;rw [<-aS] at l7 G ⊢;rw [<-aU] at l8 H ⊢;rw [<-aV,<- bC];clear aW aX bB aY aT aZ aS aU aV bC hs;obtain ⟨Q,HR,HN,HC,HO,bE⟩:=Λ6 (ϟ I J) M K C L G;have HE:=Lh H;clear I J M K C L G H;obtain ⟨W,v⟩:=ε (w.alloc (χ #[σ ga gn gc,σ ma mn mc,ι i,σ ra P rc,σ na N nc,σ ca cn cc,σ oa O oc,σ ba E bc,σ ea F ec,ι st] 34));have z:=Lh (bl1 v);have h:Hid (∀ V,ϐ W W V->V.cell? (π w 0)=ς (σ ga gn gc)/\V.cell? (π w 1)=ς (σ ma mn mc)/\V.cell? (π w 2)=ς (ι i)/\V.cell? (π w 3)=ς (σ ra P rc)/\V.cell? (π w 4)=ς (σ na N nc)/\V.cell? (π w 5)=ς (σ ca cn cc)/\V.cell? (π w 6)=ς (σ oa O oc)/\V.cell? (π w 7)=ς (σ ba E bc)/\V.cell? (π w 8)=ς (σ ea F ec)/\(w:Nat)<V.heap.size):=Lh (λV f=>by
  have bA:=ro11 v;have h0:=(f.block (w:Nat) ((La bA))).trans bA;refine ⟨?_,?_,?_,?_,?_,?_,?_,?_,?_,(La h0)⟩<;>(rw [cell_of_row _ _ _ _ _ _ h0];rfl))
 have R:=Nt hB z.o.size;have a:=@Lh (∀ V,ϐ W W V->ϐ B w V/\B<=V.heap.size/\ϐ w w V) (λV f=>⟨(z.o.th f).mono hB,Nt R f.size,z.o.th f⟩);have c:=h.o W Br;go_enter func11,ntmps11;go_upto_region 1 with fail;rw [<-v];clear v;go_wp2_with fail;refine (TN s.M _ B W R ⟨_,_,rfl,Q.o.1.ints (a.o W Br).1,Q.o.2.nods (a.o W Br).1⟩).mono ?_;rintro e t ⟨rfl,S⟩;have o:=Lh S;clear c S;have c:=h.o t o.o;cases b:MD s.M with
 | true=>clear b;go_wp2;go_ret;exact ⟨_,rfl,(a.o t o.o).2.2⟩
 | false=>
 clear b;go_wp2_with fail;refine (TL s.A _ B t (a.o t o.o).2.1 (HC.o.calss (a.o t o.o).1)).mono ?_;rintro e d ⟨rfl,T⟩;have g:=Lh (o.o.th T);clear c T;have c:=h.o d g.o;cases b:VK s.A with
 | false=>clear b;go_wp2;go_ret;exact ⟨_,rfl,(a.o d g.o).2.2⟩
 | true=>
 clear b;by_cases q_r:(P:Int)<=10;rotate_left
 .go_wp2
  go_ret;exact ⟨_,rfl,(a.o d g.o).2.2⟩
 by_cases q_n:(N:Int)<=10;rotate_left
 .go_wp2
  go_ret;exact ⟨_,rfl,(a.o d g.o).2.2⟩
 by_cases q_o:(O:Int)<=10;rotate_left
 .go_wp2
  go_ret;exact ⟨_,rfl,(a.o d g.o).2.2⟩
 by_cases q_b:(E:Int)<=10;rotate_left
 .go_wp2
  go_ret;exact ⟨_,rfl,(a.o d g.o).2.2⟩
 by_cases q_e:(F:Int)<=10;rotate_left
 .go_wp2
  go_ret;exact ⟨_,rfl,(a.o d g.o).2.2⟩
 by_cases hf:300<i/\i<=1048576
 .obtain ⟨h1,h2⟩:=hf
  go_wp2;go_ret;exact ⟨_,rfl,(a.o d g.o).2.2⟩
 obtain ⟨V,f⟩:=ε (d.alloc (χ #[.func (.func 39) #[] #[]] 97));have bG:=Lh (bl1 f);have y:=@Lh (V.cell? (π d 0)=ς (.func (.func 39) #[] #[])) (by
  rw [f];exact B6 d #[.func (.func 39) #[] #[]] _ 0)
 have u:=Lh (g.o.th bG.o);obtain ⟨fb,D⟩:=ε (d:Nat);rcases (show ¬300<i\/(300<i/\¬i<=1048576) by omega) with h3|⟨h3,h4⟩
 all_goals
  clear hf;go_upto_region 5 with fail;rw [<-f,<- D];rw [<-D] at y;clear c f D;have c:=h.o V u.o;have kf:=y.o;go_wp2_with fail;refine (BT 39 #[] J7 s.N _ B V (λ_ _=>by kernel_rfl) (a.o V u.o).2.1 (HN.o.ints (a.o V u.o).1) (XR V)).mono ?_;rintro e j ⟨rfl,A⟩;have k:=Lh (u.o.th A);have bF:=Lh (AB A y.o);clear c A kf;have c:=h.o j k.o;cases b:s.N.any J7 with
  | true=>clear b;go_wp2;go_ret;exact ⟨_,rfl,(a.o j k.o).2.2⟩
  | false=>
  clear b;go_wp2_with fail;refine (Ij 41 #[.pointer (ς (π fb 0))] MT s.R _ B j Pt (a.o j k.o).2.1 (HR.o.macs (a.o j k.o).1) (XS fb B j (a.o j k.o).2.1 bF.o)).mono ?_;rintro e l ⟨rfl,U⟩;have p:=Lh (k.o.th U);clear c U;have c:=h.o l p.o;cases b:s.R.any MT with
  | true=>clear b;go_wp2;go_ret;exact ⟨_,rfl,(a.o l p.o).2.2⟩
  | false=>
  clear b;go_wp2_with fail;refine (Fe 38 #[] (λx=>decide (40<(x:Int))) s.Z _ B l LD (a.o l p.o).2.1 (bE.o.intss (a.o l p.o).1) (Uv B l)).mono ?_;rintro e m ⟨rfl,X⟩;have q:=Lh (p.o.th X);clear c X;have c:=h.o m q.o;cases b:s.Z.any λx=>decide (40<(x:Int)) with
  | true=>clear b;go_wp2;go_ret;exact ⟨_,rfl,(a.o m q.o).2.2⟩
  | false=>
  clear b;go_wp2_with fail;refine (Fe 38 #[] (λx=>decide (40<(x:Int))) s.P _ B m LD (a.o m q.o).2.1 (HE.o.intss (a.o m q.o).1) (Uv B m)).mono ?_;rintro e n ⟨rfl,Y⟩;have r:=Lh (q.o.th Y);clear c Y;have c:=h.o n r.o;cases b:s.P.any λx=>decide (40<(x:Int)) with
  | true=>clear b;go_wp2;go_ret;exact ⟨_,rfl,(a.o n r.o).2.2⟩
  | false=>
  clear b;go_wp2_with fail;refine (I8 45 #[] (λx=>decide (40<(x:Int))) s.results _ B n Pu (a.o n r.o).2.1 (HO.o.outss (a.o n r.o).1) (XT B n)).mono ?_;rintro e w8 ⟨rfl,Z⟩;have bD:=Lh (r.o.th Z);clear c Z;go_wp2;go_ret;exact ⟨_,rfl,(a.o w8 bD.o).2.2⟩
def AE.elem (h:AE B w sz E (σ a n cap) l) {x:α} (d:l[k]?=ς x):∃ b o,a=ς (π b o)/\b<B/\E w b (o+k*sz) x:=by
 obtain ⟨e,f,g,_,_,_,c⟩:=h;obtain ⟨rfl,_,rfl⟩:a=e/\n=l.length/\cap=f:=by simpa using g
 rcases c with i|⟨b,o,rfl,j,c⟩
 .rw [i] at d;simp at d
 .exact ⟨b,o,rfl,j,c k x d⟩
def AE.frm (h:AE B w sz E v l):∃ a cap,v=σ a l cap/\l.length<=140737488355328:=by
 obtain ⟨a,cap,rfl,b,_⟩:=h;exact ⟨a,cap,rfl,b⟩
def YA (w:Ϣ) (e:Ending) (w':Ϣ):Prop:=e=.returned (.bool ϑ)/\∃ n,w'=w.drewN n
def RW (l:List Int) (o p:ϒ) (A B:Nat) (w:Ϣ) (d:AE A w 1 Aj o l) (e:AE B w 1 Aj p l):ϙ prog 126 #[o,p] w (YA w):=by
 obtain ⟨G,H,rfl,y⟩:=d.frm;obtain ⟨I,J,rfl,_⟩:=e.frm;have f:=Lh d;have g:=Lh e;obtain ⟨b,c⟩:=ε l.length;rw [<-c] at y f g ⊢;have r:=Lh c;clear d e c;go_enter func126,ntmps126;go_wp2_with fail;go_loopw [5] (λi wr=>∃ k:Nat,k<=b/\i=ι k/\Hid (∃ n,wr=w.drewN n)) (λi _=>b - (intOf i).toNat)
 case atStart=>exact ⟨0,Nat.zero_le _,rfl,Lh ⟨0,rfl⟩⟩
 case round=>
  obtain ⟨k,M,rfl,m⟩:=hrel;obtain ⟨n,a⟩:=m.o;by_cases F:k<b
  .obtain ⟨x,hx⟩:∃ x,l[k]?=ς x:=⟨_,Lg (by have:=r.o;omega)⟩
   obtain ⟨u,z,s,_,h⟩:=f.o.elem hx;obtain ⟨v,C,t,_,j⟩:=g.o.elem hx;subst s t;have K:wr.cell? (π u (z+k))=ς (ι x):=by rw [a];have:=h.1;rw [Nat.mul_one] at this;exact this
   have L:wr.cell? (π v (C+k))=ς (ι x):=by rw [a];have:=j.1;rw [Nat.mul_one] at this;exact this
   have D:=In k;have E:(k:Int)<(b:Int):=ω;have q:=Lh a;clear hx h j m a;go_wp2_with fail;go_quiet (fail);go_wp2;go_roundw
   case rel=>exact ⟨k+1,ω,by go_num,Lh ⟨_,by rw [q.o,World.drewN_drewN]⟩⟩
   case measure=>simp [intOf];omega
  .go_wp2
   go_ret;exact ⟨rfl,n,rfl⟩
def Er (l:List Int) (o p:ϒ) (A B:Nat) (w:Ϣ) (d:AE A w 1 Aj o l) (e:AE B w 1 Aj p l):ϙ prog 77 #[o,p] w (YA w):=by
 obtain ⟨G,H,rfl,y⟩:=d.frm;obtain ⟨I,J,rfl,_⟩:=e.frm;have f:=Lh d;have g:=Lh e;obtain ⟨b,c⟩:=ε l.length;rw [<-c] at y f g ⊢;have r:=Lh c;clear d e c;go_enter func77,ntmps77;go_wp2_with fail;go_loopw [5] (λi wr=>∃ k:Nat,k<=b/\i=ι k/\Hid (∃ n,wr=w.drewN n)) (λi _=>b - (intOf i).toNat)
 case atStart=>exact ⟨0,Nat.zero_le _,rfl,Lh ⟨0,rfl⟩⟩
 case round=>
  obtain ⟨k,M,rfl,m⟩:=hrel;obtain ⟨n,a⟩:=m.o;by_cases F:k<b
  .obtain ⟨x,hx⟩:∃ x,l[k]?=ς x:=⟨_,Lg (by have:=r.o;omega)⟩
   obtain ⟨u,z,s,_,h⟩:=f.o.elem hx;obtain ⟨v,C,t,_,j⟩:=g.o.elem hx;subst s t;have K:wr.cell? (π u (z+k))=ς (ι x):=by rw [a];have:=h.1;rw [Nat.mul_one] at this;exact this
   have L:wr.cell? (π v (C+k))=ς (ι x):=by rw [a];have:=j.1;rw [Nat.mul_one] at this;exact this
   have D:=In k;have E:(k:Int)<(b:Int):=ω;have q:=Lh a;clear hx h j m a;go_wp2_with fail;go_quiet (fail);go_wp2;go_roundw
   case rel=>exact ⟨k+1,ω,by go_num,Lh ⟨_,by rw [q.o,World.drewN_drewN]⟩⟩
   case measure=>simp [intOf];omega
  .go_wp2
   go_ret;exact ⟨rfl,n,rfl⟩
def AE.fraElem {l:List AY} (h:AE B w 4 (CK B) (σ a n cap) l) (x:ϐ B w w') {f:AY} (y:l[k]?=ς f):∃ b o c d e g,a=ς (π b o)/\b<B/\w'.cell? (π b (o+k*4))=ς (ι f.fn)/\w'.cell? (π b (o+k*4+1))=ς (ι f.pc)/\w'.cell? (π b (o+k*4+2))=ς (σ c f.L d)/\w'.cell? (π b (o+k*4+3))=ς (σ e f.S g)/\AE B w' 1 Aj (σ c f.L d) f.L/\AE B w' 1 Aj (σ e f.S g) f.S:=by
 obtain ⟨b,o,rfl,m,t⟩:=(h.fras x).elem y;obtain ⟨p,q,⟨v,r,i⟩,⟨u,s,j⟩,z⟩:=t;obtain ⟨c,d,rfl,_⟩:=i.frm;obtain ⟨e,g,rfl,_⟩:=j.frm;exact ⟨b,o,c,d,e,g,rfl,m,p,q,r,s,i,j⟩
def VD (m:AV) (U V:ϒ) (A B:Nat) (w:Ϣ) (G:A<=w) (H:B<=w) (s:AE A w 4 (CK A) U m.J) (n:AE B w 4 (CK B) V m.J) :
  ϙ prog 96 #[.agg (AC U m),.agg (AC V m)] w (λe w'=>e=.returned (.bool ϑ)/\ϐ w w w'):=by
 obtain ⟨C,D,rfl,X⟩:=s.frm;obtain ⟨E,F,rfl,_⟩:=n.frm;obtain ⟨p,⟨j,l,c,d,b⟩,g,a,h⟩:=m;dsimp only at s n X ⊢;have I:=Lh s;have J:=Lh n;obtain ⟨o,z⟩:=ε p.length;rw [<-z] at X I J ⊢;have aS:=Lh z;obtain ⟨W,r⟩:=ε ((w.alloc (χ (AC (σ C o D) ⟨p,⟨j,l,c,d,b⟩,g,a,h⟩) 51)).alloc (χ (AC (σ E o F) ⟨p,⟨j,l,c,d,b⟩,g,a,h⟩) 51));have q:=Lh (bl2 r);have aA:=@Lh (AR W w (AC (σ C o D) ⟨p,⟨j,l,c,d,b⟩,g,a,h⟩).toList) (by rw [r];exact AF.alloc _);have aB:Hid (AR W (w+1) (AC (σ E o F) ⟨p,⟨j,l,c,d,b⟩,g,a,h⟩).toList):=by rw [r];have:=@AF (w.alloc (χ (AC (σ C o D) ⟨p,⟨j,l,c,d,b⟩,g,a,h⟩) 51)) (AC (σ E o F) ⟨p,⟨j,l,c,d,b⟩,g,a,h⟩) 51;exact Lh (by simpa using this)
 clear s n z;unfold AC at r ⊢;go_enter func96,ntmps96;go_upto_region 1 with fail;rw [<-r];clear r;have p0:=Γ9 aA.o;have q0:=Γ9 aB.o;go_wp2_with fail;go_loopw [5] (λi wr=>∃ k:Nat,k<=o/\i=ι k/\Hid (ϐ W W wr)) (λi _=>o - (intOf i).toNat)
 case atStart=>exact ⟨0,Nat.zero_le _,rfl,Lh Br⟩
 case round=>
  obtain ⟨k,hk,rfl,n⟩:=hrel;have s0:=AB n.o p0.1;have t0:=AB n.o q0.1;have zs:=Bl s0;have zt:=Bl t0;by_cases aZ:k<o
  .obtain ⟨f,hx⟩:∃ x,p[k]?=ς x:=⟨_,Lg (by have:=aS.o;omega)⟩
   have O:ϐ A w wr:=(q.o.mono G).trans (n.o.mono (Nt G q.o.size));have P:ϐ B w wr:=(q.o.mono H).trans (n.o.mono (Nt H q.o.size));obtain ⟨b1,o1,bA,bC,bG,bI,aT,aU,k1,k2,k3,k4,Q,S⟩:=I.o.fraElem O hx;obtain ⟨b2,o2,bB,bD,bH,bJ,aV,aW,Y,j2,Z,j4,R,T⟩:=J.o.fraElem P hx;subst aT aV;obtain ⟨t,v,u,y⟩:=Λ4 Q S R T;obtain ⟨fn,pc,lo,st⟩:=f;dsimp only at k1 k2 k3 k4 Y j2 Z j4 t v u y;obtain ⟨bE,K⟩:=ε lo.length;obtain ⟨bK,L⟩:=ε st.length;rw [<-K] at k3 Z t u;rw [<-L] at k4 j4 v y;have z1:=Bl k1;have z2:=Bl Y;have aX:=In k;have aY:(k:Int)<(o:Int):=ω;clear hx Q S R T O P K L;go_wp2_with fail;have M:A<=wr:=Nt G (Nt q.o.size n.o.size);have N:B<=wr:=Nt H (Nt q.o.size n.o.size)
   go_region
   all_goals
    go_wp2_with fail;refine (RW lo _ _ A B _ (t.o.ints ((AG ((AA _ _).th (AA _ _)) 1).mono M)) (u.o.ints ((AG ((AA _ _).th (AA _ _)) 1).mono N))).mono ?_;rintro e w8 ⟨rfl,nq,rfl⟩;go_wp2_with fail;refine (RW st _ _ A B _ (v.o.ints ((AG ((AA _ _).th (AA _ _)) _).mono M)) (y.o.ints ((AG ((AA _ _).th (AA _ _)) _).mono N))).mono ?_;rintro e w8 ⟨rfl,bF,rfl⟩;go_wp2;go_roundw
    case rel=>exact ⟨k+1,ω,by go_num,Lh (n.o.th (AG ((AA _ _).th (AA _ _)) _))⟩
    case measure=>simp [intOf];omega
  .go_wp2
   go_ret;exact ⟨rfl,q.o.th n.o⟩
def AE.nodElem {l:List Gl} (h:AE B w 2 (GP B) (σ a n cap) l) (p:ϐ B w w') {f:Gl} (q:l[k]?=ς f):∃ b o c d,a=ς (π b o)/\b<B/\w'.cell? (π b (o+k*2))=ς (ι f.type)/\w'.cell? (π b (o+k*2+1))=ς (σ c f.f d)/\AE B w' 1 Aj (σ c f.f d) f.f:=by
 obtain ⟨b,o,rfl,g,m⟩:=(h.nods p).elem q;obtain ⟨i,⟨v,j,e⟩,r⟩:=m;obtain ⟨c,d,rfl,_⟩:=e.frm;exact ⟨b,o,c,d,rfl,g,i,j,e⟩
def TH (m:Mm) (N O:ϒ) (A B:Nat) (w:Ϣ) (r:A<=w) (s:B<=w) (ha:Lw A w N m) (b:Lw B w O m) :
  ϙ prog 30 #[N,O] w (λe w'=>e=.returned (.bool ϑ)/\ϐ w w w'):=by
 obtain ⟨g1,n1,rfl,j,p⟩:=ha;obtain ⟨g2,n2,rfl,l,q⟩:=b;obtain ⟨T,V,rfl,bI⟩:=j.frm;obtain ⟨U,X,rfl,_⟩:=l.frm;obtain ⟨bE,bG,rfl,bD⟩:=p.frm;obtain ⟨bF,bH,rfl,_⟩:=q.frm;obtain ⟨u,v,y,z⟩:=Λ4 j l p q;obtain ⟨H,D⟩:=ε m.G.length;obtain ⟨c,o⟩:=ε m.N.length;rw [<-D] at u v ⊢;rw [<-o] at bD y z ⊢;have S:=Lh o;obtain ⟨W,d⟩:=ε ((w.alloc (χ #[σ T H V,σ bE c bG] 28)).alloc (χ #[σ U H X,σ bF c bH] 28));have a:=Lh (bl2 d);have Q:=Lh (ce21 d);have R:=Lh (ce22 d);have L:=Γ2 Q.o;have M:=Γ2 R.o;have Y:A<=W:=Nt r a.o.size;have Z:B<=W:=Nt s a.o.size;clear j l p q D o;go_enter func30,ntmps30;go_upto_region 1 with fail;rw [<-d];clear d;go_wp2_with fail;refine (Er m.G _ _ A B W (u.o.ints (a.o.mono r)) (v.o.ints (a.o.mono s))).mono ?_;rintro e w8 ⟨rfl,nq,rfl⟩;go_wp2_with fail;go_loopw [5] (λi wr=>∃ k:Nat,k<=c/\i=ι k/\Hid (∃ n,wr=W.drewN n)) (λi _=>c - (intOf i).toNat)
 case atStart=>exact ⟨0,Nat.zero_le _,rfl,Lh ⟨nq,rfl⟩⟩
 case round=>
  obtain ⟨k,hk,rfl,I⟩:=hrel;obtain ⟨n,t⟩:=I.o;have b:ϐ W W wr:=by rw [t];exact AG Br n
  have s0:=Δ4 b L.1 L.2 M.1 M.2;by_cases bL:k<c
  .obtain ⟨f,hx⟩:∃ x,m.N[k]?=ς x:=⟨_,Lg (by have:=S.o;omega)⟩
   obtain ⟨b1,o1,bM,bO,aZ,bA,k1,K,E⟩:=y.o.nodElem ((a.o.mono r).trans (b.mono Y)) hx;obtain ⟨b2,o2,bN,bP,bB,bC,j1,J,F⟩:=z.o.nodElem ((a.o.mono s).trans (b.mono Z)) hx;subst aZ bB;have g:=Lh E;have h:=Lh F;obtain ⟨ty,G⟩:=f;dsimp only at k1 K j1 J g h;obtain ⟨fn,C⟩:=ε G.length;rw [<-C] at K J g h;have bJ:=In k;have bK:(k:Int)<(c:Int):=ω;have P:=Lh t;clear hx E F C I t b;go_wp2_with fail;go_quiet ((go_at_call 77;exact Calls.quiet_of (Er G _ _ A B _ (g.o.ints (AG Br _)) (h.o.ints (AG Br _)))));go_wp2;go_roundw
   case rel=>exact ⟨k+1,ω,by go_num,Lh ⟨_,by rw [P.o,World.drewN_drewN]⟩⟩
   case measure=>simp [intOf];omega
  .clear b
   go_wp2;go_ret;exact ⟨rfl,AG a.o n⟩
def Hs (n lo hi:Int):Bool:=decide (lo<=n) && decide (n<=hi)
def FY (n a b:Int) (w:Ϣ):ϙ prog 54 #[ι n,ι a,ι b] w (λe w'=>e=.returned (.bool (Hs n a b))/\w=w'):=by
 unfold Hs;by_cases h:a<=n;all_goals
  go_enter func54,ntmps54;go_wp2;go_ret;exact ⟨XP (by simp<;>omega),rfl⟩
def UX (m:AV) (fv:ϒ) (B:Nat) (w:Ϣ) (i:AE B w 4 (CK B) fv m.J):ϙ prog 75 #[.agg (AC fv m)] w (PO (Cs m) w):=by
 obtain ⟨s,t,rfl⟩:=i.fm;clear i;obtain ⟨o,⟨a,l,d,g,c⟩,h,b,k⟩:=m;obtain ⟨n,j⟩:=ε o.length;unfold AC Cs;dsimp only;rw [<-j];clear j;by_cases e:a=1
 .subst e
  go_enter func75,ntmps75;go_wp2;go_ret;exact Gx ψ (AA _ _)
 have q:(a == 1)=ϝ:=by simp [e]
 by_cases f:a=2
 .subst f
  go_enter func75,ntmps75;go_wp2;go_ret;exact Gx ψ (AA _ _)
 have r:(a == 2)=ϝ:=by simp [f]
 go_enter func75,ntmps75;go_wp2;go_ret;exact Gx (by by_cases p:a=3<;>simp [e,f,p]) (AA _ _)
def Qe (f d:List Int) (O Q:ϒ) (a:Int) (A B:Nat) (w:Ϣ) (hb:AE A w 1 Aj O f) (he:AE B w 1 Aj Q d):ϙ prog 100 #[O,Q,ι a] w λe w'=>e=.returned (.bool (BA f d (-1) a))/\∃ n,w'=w.drewN n:=by
 obtain ⟨ba,bc,rfl,U,-,-,L⟩:=hb;obtain ⟨ea,ec,rfl,V,-,-,N⟩:=he;have S:=Lh L;have T:=Lh N;obtain ⟨s,G⟩:=ε f.length;obtain ⟨P,H⟩:=ε d.length;rw [<-G] at U ⊢;rw [<-H] at V ⊢;have K:=Lh G;have F:=Lh H;clear L N G H;go_enter func100,ntmps100;go_wp2_with fail;go_loopw [7,8] (λl i wr=>∃ (k:Nat) (c:Int),k<=s/\i=ι k/\l=ι c/\Hid (BA f d (-1) a=BA (f.drop k) (d.drop k) c a)/\Hid (∃ n,wr=w.drewN n)) (λ_ i _=>s - (intOf i).toNat)
 case atStart=>exact ⟨0,-1,Nat.zero_le _,rfl,rfl,Lh rfl,Lh ⟨0,rfl⟩⟩
 case round=>
  obtain ⟨k,c,hk,rfl,rfl,j,m⟩:=hrel;by_cases aS:k<s;rotate_left
  .obtain rfl:k=s:=ω
   have g:=@Lh (BA f d (-1) a=ϑ) (by
    rw [j.o,List.drop_eq_nil_of_le (by have:=K.o;omega)];unfold BA;rfl)
   go_wp2;go_ret;exact ⟨by rw [g.o];rfl,m.o⟩
  obtain ⟨b,y⟩:∃ x,f[k]?=ς x:=⟨_,Lg (by have:=K.o;omega)⟩
  have R:f.drop k=b::f.drop (k+1):=by obtain ⟨t,rfl⟩:=List.getElem?_eq_some_iff.1 y;exact List.drop_eq_getElem_cons t
  have p:=Lh R;rcases S.o with h|⟨W,o1,rfl,-,u⟩
  .subst h;simp at y
  have c1:wr.cell? (π W (o1+k))=ς (ι b):=by obtain ⟨n,v⟩:=m.o;rw [v];have:=(u k b y).1;rw [Nat.mul_one] at this;exact this
  have aO:=In k;have aP:(k:Int)<(s:Int):=ω;clear R u y;by_cases o:b<=c
  .have Y:=η (b<=c) o
   have g:=@Lh (BA f d (-1) a=ϝ) (by
    rw [j.o,p.o];cases d.drop k<;>simp [BA]<;>omega)
   clear o;go_wp2;go_ret;exact ⟨by rw [g.o];rfl,m.o⟩
  have Y:=θ (b<=c);by_cases r:a<=b
  .have Z:=η (a<=b) r
   have g:=@Lh (BA f d (-1) a=ϝ) (by
    rw [j.o,p.o];cases d.drop k<;>simp [BA]<;>omega)
   clear o r;go_wp2;go_ret;exact ⟨by rw [g.o];rfl,m.o⟩
  have Z:=θ (a<=b);by_cases aR:k<P;rotate_left
  .have D:=@Lh (BA f d (-1) a=BA (f.drop (k+1)) (d.drop (k+1)) c a) (by
    have t:d.drop k=[]:=List.drop_eq_nil_of_le (by have:=F.o;omega);have h2:d.drop (k+1)=[]:=List.drop_eq_nil_of_le (by have:=F.o;omega);rw [j.o,p.o,t,h2,KG ω ω rfl])
   clear o r;go_wp2;go_roundw
   case rel=>exact ⟨k+1,c,ω,by go_num,rfl,D,m⟩
   case measure=>simp [intOf];omega
  obtain ⟨e,z⟩:∃ x,d[k]?=ς x:=⟨_,Lg (by have:=F.o;omega)⟩
  have M:d.drop k=e::d.drop (k+1):=by obtain ⟨t,rfl⟩:=List.getElem?_eq_some_iff.1 z;exact List.drop_eq_getElem_cons t
  have E:=Lh M;rcases T.o with h|⟨X,o2,rfl,-,u⟩
  .subst h;simp at z
  have c2:wr.cell? (π X (o2+k))=ς (ι e):=by obtain ⟨n,v⟩:=m.o;rw [v];have:=(u k e z).1;rw [Nat.mul_one] at this;exact this
  have aQ:(k:Int)<(P:Int):=ω;have I:Hid (∀ q,∃ n,wr.drewN q=w.drewN n):=Lh (λq=>by
   obtain ⟨n,v⟩:=m.o;exact ⟨_,by rw [v,World.drewN_drewN]⟩)
  clear M u z;by_cases C:e<b
  .have d3:=η (e<b) C
   have g:=@Lh (BA f d (-1) a=ϝ) (by
    rw [j.o,p.o,E.o];simp [BA];omega)
   clear o r C;go_wp2_with fail;go_quiet (fail);go_wp2;go_ret;exact ⟨by rw [g.o];rfl,I.o _⟩
  have d3:=θ (e<b);by_cases J:a<=e
  .have d4:=η (a<=e) J
   have g:=@Lh (BA f d (-1) a=ϝ) (by
    rw [j.o,p.o,E.o];simp [BA];omega)
   clear o r C J;go_wp2_with fail;go_quiet (fail);go_wp2;go_ret;exact ⟨by rw [g.o];rfl,I.o _⟩
  have d4:=θ (a<=e);have D:=@Lh (BA f d (-1) a=BA (f.drop (k+1)) (d.drop (k+1)) e a) (by
   rw [j.o,p.o,E.o];simp [BA,show c<b by omega,show b<a by omega,show b<=e by omega,show e<a by omega])
  clear o r C J;go_wp2_with fail;go_quiet (fail);go_wp2;go_roundw
  case rel=>exact ⟨k+1,e,ω,by go_num,rfl,D,Lh (I.o _)⟩
  case measure=>simp [intOf];omega
def JO (l:List (List Int)) (r s:ϒ) (A B:Nat) (w:Ϣ) (f:AE A w 1 (Bg 1 Aj A) r l) (g:AE B w 1 (Bg 1 Aj B) s l):ϙ prog 57 #[r,s] w (YA w):=by
 obtain ⟨R,S,rfl,F⟩:=f.frm;obtain ⟨T,U,rfl,_⟩:=g.frm;have m:=Lh f;have o:=Lh g;obtain ⟨b,c⟩:=ε l.length;rw [<-c] at F m o ⊢;have y:=Lh c;clear f g c;go_enter func57,ntmps57;go_wp2_with fail;go_loopw [5] (λi wr=>∃ k:Nat,k<=b/\i=ι k/\Hid (∃ n,wr=w.drewN n)) (λi _=>b - (intOf i).toNat)
 case atStart=>exact ⟨0,Nat.zero_le _,rfl,Lh ⟨0,rfl⟩⟩
 case round=>
  obtain ⟨k,X,rfl,p⟩:=hrel;obtain ⟨n,a⟩:=p.o;by_cases Q:k<b
  .obtain ⟨x,hx⟩:∃ x,l[k]?=ς x:=⟨_,Lg (by have:=y.o;omega)⟩
   obtain ⟨D,G,z,_,I,d,h⟩:=m.o.elem hx;obtain ⟨E,H,C,_,J,e,j⟩:=o.o.elem hx;subst z C;rw [Nat.mul_one] at d e;have V:wr.cell? (π D (G+k))=ς I:=by rw [a];exact d
   have W:wr.cell? (π E (H+k))=ς J:=by rw [a];exact e
   obtain ⟨K,L,rfl⟩:=h.fm;obtain ⟨M,N,rfl⟩:=j.fm;have u:=@Lh (∀ q,AE A (wr.drewN q) 1 Aj (σ K x L) x) (λq=>by rw [a];exact h);have v:=@Lh (∀ q,AE B (wr.drewN q) 1 Aj (σ M x N) x) (λq=>by rw [a];exact j);have O:=In k;have P:(k:Int)<(b:Int):=ω;have t:=Lh a;clear hx d e p a h j;go_wp2_with fail;go_quiet ((go_at_call 77;exact Calls.quiet_of (Er x _ _ A B _ (u.o _) (v.o _))));go_wp2;go_roundw
   case rel=>exact ⟨k+1,ω,by go_num,Lh ⟨_,by rw [t.o,World.drewN_drewN]⟩⟩
   case measure=>simp [intOf];omega
  .go_wp2
   go_ret;exact ⟨rfl,n,rfl⟩
def Rv (m:AV) (fv:ϒ) (B:Nat) (w:Ϣ) (M:AE B w 4 (CK B) fv m.J):ϙ prog 96 #[.agg (AC fv m),.agg #[ν,ι 0,ι 0,ι 0,ι 0,ι 0,ι 0,ι 0,ι 0]] w (PO (Cu m) w):=by
 obtain ⟨t,u,rfl,K⟩:=M.fr;clear M;obtain ⟨r,⟨l,h,g,d,b⟩,e,a,c⟩:=m;obtain ⟨n,J⟩:=ε r.length;have o:=@Lh (Cu ⟨r,⟨l,h,g,d,b⟩,e,a,c⟩=(decide (n=0) && (decide (l=0/\h=0/\g=0/\d=0/\b=0) && (decide (e=0) && (decide (a=0) && decide (c=0)))))) (by
  unfold Cu;rw [J];cases r<;>simp)
 unfold AC;dsimp only at K ⊢;rw [<-J] at K ⊢;clear J;by_cases z:n=0;rotate_left
 .have p:=@Lh (Cu ⟨r,⟨l,h,g,d,b⟩,e,a,c⟩=ϝ) (by rw [o.o];simp [z])
  have x:((n:Int) != 0)=ϑ:=by simp [z]
  have y:((n:Int) == 0)=ϝ:=by simp [z]
  clear o;go_enter func96,ntmps96;go_upto_region 1 with fail;obtain ⟨W,f⟩:=ε ((w.alloc (χ #[σ t n u,ι l,ι h,ι g,ι d,ι b,ι e,ι a,ι c] 51)).alloc (χ #[ν,ι 0,ι 0,ι 0,ι 0,ι 0,ι 0,ι 0,ι 0] 51));have q:=Lh (bl2 f);have j:=ro21 f;have k:=ro22 f;have s:=Ω9 j;have v:=Ω9 k;rw [<-f];clear f j k;go_wp2;go_ret;exact Gx p.o.symm q.o
 subst z;by_cases A:l=0;rotate_left
 .have p:=@Lh (Cu ⟨r,⟨l,h,g,d,b⟩,e,a,c⟩=ϝ) (by rw [o.o];simp [A])
  have x:(l != 0)=ϑ:=by simp [A]
  have y:(l == 0)=ϝ:=by simp [A]
  clear o;go_enter func96,ntmps96;go_upto_region 1 with fail;obtain ⟨W,f⟩:=ε ((w.alloc (χ #[σ t 0 u,ι l,ι h,ι g,ι d,ι b,ι e,ι a,ι c] 51)).alloc (χ #[ν,ι 0,ι 0,ι 0,ι 0,ι 0,ι 0,ι 0,ι 0] 51));have q:=Lh (bl2 f);have j:=ro21 f;have k:=ro22 f;have s:=Ω9 j;have v:=Ω9 k;rw [<-f];clear f j k;go_wp2;go_ret;exact Gx p.o.symm q.o
 subst A;by_cases C:h=0;rotate_left
 .have p:=@Lh (Cu ⟨r,⟨0,h,g,d,b⟩,e,a,c⟩=ϝ) (by rw [o.o];simp [C])
  have x:(h != 0)=ϑ:=by simp [C]
  have y:(h == 0)=ϝ:=by simp [C]
  clear o;go_enter func96,ntmps96;go_upto_region 1 with fail;obtain ⟨W,f⟩:=ε ((w.alloc (χ #[σ t 0 u,ι 0,ι h,ι g,ι d,ι b,ι e,ι a,ι c] 51)).alloc (χ #[ν,ι 0,ι 0,ι 0,ι 0,ι 0,ι 0,ι 0,ι 0] 51));have q:=Lh (bl2 f);have j:=ro21 f;have k:=ro22 f;have s:=Ω9 j;have v:=Ω9 k;rw [<-f];clear f j k;go_wp2;go_ret;exact Gx p.o.symm q.o
 subst C;by_cases D:g=0;rotate_left
 .have p:=@Lh (Cu ⟨r,⟨0,0,g,d,b⟩,e,a,c⟩=ϝ) (by rw [o.o];simp [D])
  have x:(g != 0)=ϑ:=by simp [D]
  have y:(g == 0)=ϝ:=by simp [D]
  clear o;go_enter func96,ntmps96;go_upto_region 1 with fail;obtain ⟨W,f⟩:=ε ((w.alloc (χ #[σ t 0 u,ι 0,ι 0,ι g,ι d,ι b,ι e,ι a,ι c] 51)).alloc (χ #[ν,ι 0,ι 0,ι 0,ι 0,ι 0,ι 0,ι 0,ι 0] 51));have q:=Lh (bl2 f);have j:=ro21 f;have k:=ro22 f;have s:=Ω9 j;have v:=Ω9 k;rw [<-f];clear f j k;go_wp2;go_ret;exact Gx p.o.symm q.o
 subst D;by_cases E:d=0;rotate_left
 .have p:=@Lh (Cu ⟨r,⟨0,0,0,d,b⟩,e,a,c⟩=ϝ) (by rw [o.o];simp [E])
  have x:(d != 0)=ϑ:=by simp [E]
  have y:(d == 0)=ϝ:=by simp [E]
  clear o;go_enter func96,ntmps96;go_upto_region 1 with fail;obtain ⟨W,f⟩:=ε ((w.alloc (χ #[σ t 0 u,ι 0,ι 0,ι 0,ι d,ι b,ι e,ι a,ι c] 51)).alloc (χ #[ν,ι 0,ι 0,ι 0,ι 0,ι 0,ι 0,ι 0,ι 0] 51));have q:=Lh (bl2 f);have j:=ro21 f;have k:=ro22 f;have s:=Ω9 j;have v:=Ω9 k;rw [<-f];clear f j k;go_wp2;go_ret;exact Gx p.o.symm q.o
 subst E;by_cases F:b=0;rotate_left
 .have p:=@Lh (Cu ⟨r,⟨0,0,0,0,b⟩,e,a,c⟩=ϝ) (by rw [o.o];simp [F])
  have x:(b != 0)=ϑ:=by simp [F]
  have y:(b == 0)=ϝ:=by simp [F]
  clear o;go_enter func96,ntmps96;go_upto_region 1 with fail;obtain ⟨W,f⟩:=ε ((w.alloc (χ #[σ t 0 u,ι 0,ι 0,ι 0,ι 0,ι b,ι e,ι a,ι c] 51)).alloc (χ #[ν,ι 0,ι 0,ι 0,ι 0,ι 0,ι 0,ι 0,ι 0] 51));have q:=Lh (bl2 f);have j:=ro21 f;have k:=ro22 f;have s:=Ω9 j;have v:=Ω9 k;rw [<-f];clear f j k;go_wp2;go_ret;exact Gx p.o.symm q.o
 subst F;by_cases G:e=0;rotate_left
 .have p:=@Lh (Cu ⟨r,⟨0,0,0,0,0⟩,e,a,c⟩=ϝ) (by rw [o.o];simp [G])
  have x:(e != 0)=ϑ:=by simp [G]
  have y:(e == 0)=ϝ:=by simp [G]
  clear o;go_enter func96,ntmps96;go_upto_region 1 with fail;obtain ⟨W,f⟩:=ε ((w.alloc (χ #[σ t 0 u,ι 0,ι 0,ι 0,ι 0,ι 0,ι e,ι a,ι c] 51)).alloc (χ #[ν,ι 0,ι 0,ι 0,ι 0,ι 0,ι 0,ι 0,ι 0] 51));have q:=Lh (bl2 f);have j:=ro21 f;have k:=ro22 f;have s:=Ω9 j;have v:=Ω9 k;rw [<-f];clear f j k;go_wp2;go_ret;exact Gx p.o.symm q.o
 subst G;by_cases H:a=0;rotate_left
 .have p:=@Lh (Cu ⟨r,⟨0,0,0,0,0⟩,0,a,c⟩=ϝ) (by rw [o.o];simp [H])
  have x:(a != 0)=ϑ:=by simp [H]
  have y:(a == 0)=ϝ:=by simp [H]
  clear o;go_enter func96,ntmps96;go_upto_region 1 with fail;obtain ⟨W,f⟩:=ε ((w.alloc (χ #[σ t 0 u,ι 0,ι 0,ι 0,ι 0,ι 0,ι 0,ι a,ι c] 51)).alloc (χ #[ν,ι 0,ι 0,ι 0,ι 0,ι 0,ι 0,ι 0,ι 0] 51));have q:=Lh (bl2 f);have j:=ro21 f;have k:=ro22 f;have s:=Ω9 j;have v:=Ω9 k;rw [<-f];clear f j k;go_wp2;go_ret;exact Gx p.o.symm q.o
 subst H;by_cases I:c=0;rotate_left
 .have p:=@Lh (Cu ⟨r,⟨0,0,0,0,0⟩,0,0,c⟩=ϝ) (by rw [o.o];simp [I])
  have x:(c != 0)=ϑ:=by simp [I]
  have y:(c == 0)=ϝ:=by simp [I]
  clear o;go_enter func96,ntmps96;go_upto_region 1 with fail;obtain ⟨W,f⟩:=ε ((w.alloc (χ #[σ t 0 u,ι 0,ι 0,ι 0,ι 0,ι 0,ι 0,ι 0,ι c] 51)).alloc (χ #[ν,ι 0,ι 0,ι 0,ι 0,ι 0,ι 0,ι 0,ι 0] 51));have q:=Lh (bl2 f);have j:=ro21 f;have k:=ro22 f;have s:=Ω9 j;have v:=Ω9 k;rw [<-f];clear f j k;go_wp2;go_ret;exact Gx p.o.symm q.o
 subst I;have p:=@Lh (Cu ⟨r,⟨0,0,0,0,0⟩,0,0,0⟩=ϑ) (by rw [o.o];simp);clear o;go_enter func96,ntmps96;go_upto_region 1 with fail;obtain ⟨W,f⟩:=ε ((w.alloc (χ #[σ t 0 u,ι 0,ι 0,ι 0,ι 0,ι 0,ι 0,ι 0,ι 0] 51)).alloc (χ #[ν,ι 0,ι 0,ι 0,ι 0,ι 0,ι 0,ι 0,ι 0] 51));have q:=Lh (bl2 f);have j:=ro21 f;have k:=ro22 f;have s:=Ω9 j;have v:=Ω9 k;rw [<-f];clear f j k;go_wp2_with fail;go_loopw [5] (λi wr=>i=ι 0/\Hid (ϐ W W wr)) (λ_ _=>0)
 case atStart=>exact ⟨rfl,Lh Br⟩
 case round=>obtain ⟨rfl,L⟩:=hrel;have N:=AB L.o s.1;clear s v;go_wp2;go_ret;exact Gx p.o.symm (q.o.th L.o)
def Ma (m:AV) (fv:ϒ) (B:Nat) (w:Ϣ) (q:B<=w) (c:AE B w 4 (CK B) fv m.J):ϙ prog 98 #[.agg (AC fv m)] w (PO (Cu m) w):=by
 have d:=Lh c;obtain ⟨i,j,rfl⟩:=c.fm;have l:=λr p=>Rv m (σ i m.J j) B r p;have b:=Lh l;obtain ⟨n,k⟩:=ε m.J.length;unfold AC at b ⊢;rw [<-k] at d b ⊢;obtain ⟨W,a⟩:=ε (w.alloc (χ #[σ i n j,ι m.Q.K,ι m.Q.O,ι m.Q.D,ι m.Q.V,ι m.Q.X,ι m.Y,ι m.C,ι m.I] 51));have g:=Lh (bl1 a);have f:=ro11 a;have s:=Ω9 f;clear c l k f;go_enter func98,ntmps98;go_upto_region 1 with fail;rw [<-a];clear a;go_wp2_with fail;refine (b.o W (d.o.fras (g.o.mono q))).mono ?_;rintro e t ⟨rfl,h⟩;have o:=Lh (g.o.th h);clear h;go_wp2;go_ret;exact Gx rfl o.o
def UZ (s:A3) (va vb:ϒ) (A B:Nat) (w:Ϣ) (hA:A<=w) (hB:B<=w) (aW:s.A.length=s.R.length) (aX:s.results.length=s.R.length) (R:CJ A w va s) (z:CJ B w vb s):ϙ prog 56 #[va,vb] w (PO ϑ w):=by
 obtain ⟨l1,l2,l3,l4,-,-,l7,l8⟩:=R.lens;obtain ⟨bQ,bS,cE,cG,cO,bC,cI,cK,bK,aU,cM,bA,bG,bI,bM,bO,rfl⟩:=R.open_;obtain ⟨bR,bT,cF,cH,cP,bD,cJ,cL,bL,aV,cN,bB,bH,bJ,bN,bP,rfl⟩:=z.open_;try delta Bt at R z ⊢
 rw [aW,aX] at R z ⊢;obtain ⟨gn,bZ⟩:=ε s.M.G.length;obtain ⟨mn,cB⟩:=ε s.M.N.length;obtain ⟨b,aZ⟩:=ε s.R.length;obtain ⟨nn,cC⟩:=ε s.N.length;obtain ⟨bn,bU⟩:=ε s.Z.length;obtain ⟨en,bV⟩:=ε s.P.length;obtain ⟨fu,dR⟩:=ε s.Y;obtain ⟨st,dV⟩:=ε s.U;rw [<-bZ] at l1;rw [<-cB] at l2;rw [<-aZ] at l3 aW aX;rw [<-cC] at l4;rw [<-bU] at l7;rw [<-bV] at l8;rw [<-bZ,<- cB,<- aZ,<- cC,<- bU,<- bV,<- dR,<- dV] at R z ⊢;have bF:=Lh (ϟ aZ (ϟ aW aX));have eF:=Lh R;have eG:=Lh z;clear bZ cB aZ cC bU bV dR dV R z aW aX;obtain ⟨W,Q⟩:=ε ((w.alloc (χ #[σ bQ gn bS,σ cE mn cG,ι fu,σ cO b bC,σ cI nn cK,σ bK b aU,σ cM b bA,σ bG bn bI,σ bM en bO,ι st] 34)).alloc (χ #[σ bR gn bT,σ cF mn cH,ι fu,σ cP b bD,σ cJ nn cL,σ bL b aV,σ cN b bB,σ bH bn bJ,σ bN en bP,ι st] 34));have dN:=Lh (bl2 Q);have HK:Hid (∀ V,ϐ W W V->(V.cell? (π w 0)=ς (σ bQ gn bS)/\V.cell? (π w 1)=ς (σ cE mn cG)/\V.cell? (π w 2)=ς (ι fu)/\V.cell? (π w 3)=ς (σ cO b bC)/\V.cell? (π w 4)=ς (σ cI nn cK)/\V.cell? (π w 5)=ς (σ bK b aU)/\V.cell? (π w 6)=ς (σ cM b bA)/\V.cell? (π w 7)=ς (σ bG bn bI)/\V.cell? (π w 8)=ς (σ bM en bO)/\V.cell? (π w 9)=ς (ι st))/\(V.cell? (π (w+1) 0)=ς (σ bR gn bT)/\V.cell? (π (w+1) 1)=ς (σ cF mn cH)/\V.cell? (π (w+1) 2)=ς (ι fu)/\V.cell? (π (w+1) 3)=ς (σ cP b bD)/\V.cell? (π (w+1) 4)=ς (σ cJ nn cL)/\V.cell? (π (w+1) 5)=ς (σ bL b aV)/\V.cell? (π (w+1) 6)=ς (σ cN b bB)/\V.cell? (π (w+1) 7)=ς (σ bH bn bJ)/\V.cell? (π (w+1) 8)=ς (σ bN en bP)/\V.cell? (π (w+1) 9)=ς (ι st))/\(w:Nat)<V.heap.size/\(w:Nat)+1<V.heap.size):=Lh (λV hV=>by
  have fO:=sz2 Q;have eM:=ro21 Q;have eN:=ro22 Q;have h1:=(hV.block (w:Nat) ω).trans eM;have h2:=(hV.block ((w:Nat)+1) ω).trans eN;refine ⟨⟨?_,?_,?_,?_,?_,?_,?_,?_,?_,?_⟩,⟨?_,?_,?_,?_,?_,?_,?_,?_,?_,?_⟩,(La h1),(La h2)⟩<;>first|(rw [cell_of_row _ _ _ _ _ _ h1];rfl)|(rw [cell_of_row _ _ _ _ _ _ h2];rfl))
 have t:Hid (∀ V,ϐ W W V->A<=V.heap.size/\B<=V.heap.size/\CJ A V (.agg #[σ bQ gn bS,σ cE mn cG,ι fu,σ cO b bC,σ cI nn cK,σ bK b aU,σ cM b bA,σ bG bn bI,σ bM en bO,ι st]) s/\CJ B V (.agg #[σ bR gn bT,σ cF mn cH,ι fu,σ cP b bD,σ cJ nn cL,σ bL b aV,σ cN b bB,σ bH bn bJ,σ bN en bP,ι st]) s/\ϐ w w V):=Lh (λV hV=>by
  have z:=dN.o.th hV;exact ⟨Nt hA z.size,Nt hB z.size,eF.o.below (z.mono hA),eG.o.below (z.mono hB),z⟩)
 obtain ⟨⟨T,U,X,C,Y,d,f,Z,x8,x9⟩,⟨y0,y1,y2,D,y4,g,h,y7,y8,y9⟩,E,F⟩:=HK.o W Br;go_enter func56,ntmps56;go_upto_region 1 with fail;rw [<-Q];have HW:=Lh Q;clear Q;go_wp2_with fail;refine (TH s.M _ _ A B W (t.o W Br).1 (t.o W Br).2.1 ⟨_,_,rfl,(t.o W Br).2.2.1.parts.1,(t.o W Br).2.2.1.parts.2.1⟩ ⟨_,_,rfl,(t.o W Br).2.2.2.1.parts.1,(t.o W Br).2.2.2.1.parts.2.1⟩).mono ?_;rintro e w1 ⟨rfl,dQ⟩;have aT:=Lh dQ;clear T U X C Y d f Z x8 x9 y0 y1 y2 D y4 g h y7 y8 y9 E F;clear dQ;obtain ⟨⟨T,U,X,C,Y,d,f,Z,x8,x9⟩,⟨y0,y1,y2,D,y4,g,h,y7,y8,y9⟩,E,F⟩:=HK.o w1 aT.o;go_wp2_with fail;refine (Er s.N _ _ A B w1 (t.o w1 aT.o).2.2.1.parts.2.2.2.1 (t.o w1 aT.o).2.2.2.1.parts.2.2.2.1).mono ?_;rintro e w2 ⟨rfl,q2,dU⟩;have cS:=@Lh (ϐ W W w2) (aT.o.th (by rw [dU];exact AG Br q2));clear T U X C Y d f Z x8 x9 y0 y1 y2 D y4 g h y7 y8 y9 E F;clear dU;obtain ⟨⟨T,U,X,C,Y,d,f,Z,x8,x9⟩,⟨y0,y1,y2,D,y4,g,h,y7,y8,y9⟩,E,F⟩:=HK.o w2 cS.o;go_wp2_with fail;clear T U X C Y d f Z x8 x9 y0 y1 y2 D y4 g h y7 y8 y9 E F;go_loopw [6] (λi wr=>∃ k:Nat,k<=b/\i=ι k/\Hid (ϐ W W wr)) (λi _=>b - (intOf i).toNat)
 case atStart=>exact ⟨0,Nat.zero_le _,rfl,cS⟩
 case round=>
  obtain ⟨k,hk,rfl,K⟩:=hrel;obtain ⟨y,rfl⟩:=ε (wr:Ϣ);by_cases fM:k<b;rotate_left
  .have eB:=Lh (dN.o.th K.o)
   go_wp2;go_ret;exact Gx rfl eB.o
  obtain ⟨m,hm⟩:∃ x,s.R[k]?=ς x:=⟨_,Lg (by have:=bF.o.1;omega)⟩
  obtain ⟨l,hl⟩:∃ x,s.A[k]?=ς x:=⟨_,Lg (by have:=bF.o.2.1;omega)⟩
  obtain ⟨r,hr⟩:∃ x,s.results[k]?=ς x:=⟨_,Lg (by have:=bF.o.2.2;omega)⟩
  obtain ⟨h1,h2,h3,h4,eL⟩:=t.o y K.o;have aQ:=h3.parts;have aY:=h4.parts;obtain ⟨G,I,rfl,fA,dS⟩:=aQ.2.2.1.nth hm;obtain ⟨H,J,rfl,fB,dT⟩:=aY.2.2.1.nth hm;obtain ⟨dD,dF,rfl,eW,fC,u,aL⟩:=aQ.2.2.2.2.1.nth hl;obtain ⟨dE,dG,rfl,eX,fD,v,aM⟩:=aY.2.2.2.2.1.nth hl;obtain ⟨dX,dZ,rfl,eY,fQ,o,aN⟩:=aQ.2.2.2.2.2.1.nth hr;obtain ⟨dY,eA,rfl,eZ,fR,q,aO⟩:=aY.2.2.2.2.2.1.nth hr;rw [Nat.mul_one] at u v o q;obtain ⟨fE,bW,a0,a1,a2,a3,a4,a5,a6,a7,a8,-⟩:=dS.nine;obtain ⟨fF,bX,b0,O,P,b3,b4,b5,b6,b7,b8,-⟩:=dT.nine;obtain ⟨dH,dJ,rfl⟩:=bW.fm;obtain ⟨dI,dK,rfl⟩:=bX.fm;obtain ⟨eP,eR,rfl,l9⟩:=aL.fr;obtain ⟨eQ,eS,rfl,-⟩:=aM.fr;obtain ⟨eT,fS,rfl,eO⟩:=aN.fr;obtain ⟨eU,eV,rfl,-⟩:=aO.fr;obtain ⟨cW,cX,cT,cU,cY,cZ⟩:=Λ6 bW bX aL aM aN aO;obtain ⟨fn,bY⟩:=ε m.J.length;obtain ⟨L,cA⟩:=ε l.length;obtain ⟨on,cD⟩:=ε r.length;rw [<-bY] at a0 b0 cW cX;rw [<-cA] at u v cT cU l9;rw [<-cD] at o q cY cZ eO;have HN:=Lh (ϟ bY (ϟ cA cD));have fP:=ρ (L:Int) (L:Int);have fI:=In k;have fJ:(k:Int)<(b:Int):=ω;clear hm hl hr h1 h2 h3 h4 eL aQ aY dS dT bW bX aL aM aN aO bY cA cD fA fB eW eX eY eZ;have z3:=Bl u;have z4:=Bl v;have z5:=Bl o;have z6:=Bl q;obtain ⟨⟨T,U,X,C,Y,d,f,Z,x8,x9⟩,⟨y0,y1,y2,D,y4,g,h,y7,y8,y9⟩,E,F⟩:=HK.o y K.o;have eD:=Lh (cW.o.fras (AG (Below.refl A y) 1));have eE:=Lh (cX.o.fras (AG (Below.refl B y) 1));have dL:A<=y.drew.heap.size:=(t.o y K.o).1;have dM:B<=y.drew.heap.size:=(t.o y K.o).2.1;have dC:=Lh (λV eJ eK h1 h2=>VD m (σ dH fn dJ) (σ dI fn dK) A B V eJ eK h1 h2);unfold AC at dC;go_upto_region 7 with fail;go_region_held3 (λV=>V.cell? (π w 3)=ς (σ (ς (π G I)) b bC)/\V.cell? (π w 5)=ς (σ (ς (π dD dF)) b aU)/\V.cell? (π w 6)=ς (σ (ς (π dX dZ)) b bA)/\V.cell? (π (w+1) 3)=ς (σ (ς (π H J)) b bD)/\V.cell? (π (w+1) 5)=ς (σ (ς (π dE dG)) b aV)/\V.cell? (π (w+1) 6)=ς (σ (ς (π dY eA)) b bB)/\V.cell? (π G (I+k*9))=ς (σ dH fn dJ)/\V.cell? (π G (I+k*9+1))=ς (ι m.Q.K)/\V.cell? (π G (I+k*9+2))=ς (ι m.Q.O)/\V.cell? (π G (I+k*9+3))=ς (ι m.Q.D)/\V.cell? (π G (I+k*9+4))=ς (ι m.Q.V)/\V.cell? (π G (I+k*9+5))=ς (ι m.Q.X)/\V.cell? (π G (I+k*9+6))=ς (ι m.Y)/\V.cell? (π G (I+k*9+7))=ς (ι m.C)/\V.cell? (π G (I+k*9+8))=ς (ι m.I)/\V.cell? (π H (J+k*9))=ς (σ dI fn dK)/\V.cell? (π H (J+k*9+1))=ς (ι m.Q.K)/\V.cell? (π H (J+k*9+2))=ς (ι m.Q.O)/\V.cell? (π H (J+k*9+3))=ς (ι m.Q.D)/\V.cell? (π H (J+k*9+4))=ς (ι m.Q.V)/\V.cell? (π H (J+k*9+5))=ς (ι m.Q.X)/\V.cell? (π H (J+k*9+6))=ς (ι m.Y)/\V.cell? (π H (J+k*9+7))=ς (ι m.C)/\V.cell? (π H (J+k*9+8))=ς (ι m.I)/\V.cell? (π dD (dF+k))=ς (σ eP L eR)/\V.cell? (π dE (dG+k))=ς (σ eQ L eS)/\V.cell? (π dX (dZ+k))=ς (σ eT on fS)/\V.cell? (π dY (eA+k))=ς (σ eU on eV))
   (first|exact ⟨C,d,f,D,g,h,a0,a1,a2,a3,a4,a5,a6,a7,a8,b0,O,P,b3,b4,b5,b6,b7,b8,u,v,o,q⟩|exact ⟨AB a C,AB a d,AB a f,AB a D,AB a g,AB a h,AB a a0,AB a a1,AB a a2,AB a a3,AB a a4,AB a a5,AB a a6,AB a a7,AB a a8,AB a b0,AB a O,AB a P,AB a b3,AB a b4,AB a b5,AB a b6,AB a b7,AB a b8,AB a u,AB a v,AB a o,AB a q⟩)
   (first|(go_at_call 96;refine (dC.o y.drew dL dM eD.o eE.o).mono ?_;rintro e w4 ⟨rfl,a⟩))
  have M:=Lh ((AG Br 1).th a);have bE:=Lh (K.o.th M.o);obtain ⟨C,d,f,D,g,h,a0,a1,a2⟩:=Δ9 M.o C d f D g h a0 a1 a2;obtain ⟨a3,a4,a5,a6,a7,a8,b0,O,P⟩:=Δ9 M.o a3 a4 a5 a6 a7 a8 b0 O P;obtain ⟨b3,b4,b5,b6,b7,b8,u,v,o⟩:=Δ9 M.o b3 b4 b5 b6 b7 b8 u v o;have q:=AB M.o q;have eH:=Lh (ϟ d (ϟ f (ϟ g (ϟ h (ϟ u (ϟ v (ϟ o q)))))));clear a a0 b0 a1 O a2 P a3 b3 a4 b4 a5 b5 a6 b6 a7 b7 a8 b8 dL dM T U X C Y Z x8 x9 y0 y1 y2 D y4 y7 y8 y9;have E:=Bl d;have F:=Bl g;have z3:=Bl u;have z4:=Bl v;have z5:=Bl o;have z6:=Bl q;go_wp2_with fail;clear d f g h u v o q E F z3 z4 z5 z6;go_loopw [7] (λi wr=>∃ j:Nat,j<=L/\i=ι j/\Hid (∃ n,wr=w4.drewN n)) (λi _=>L - (intOf i).toNat)
  case atStart=>exact ⟨0,Nat.zero_le _,rfl,Lh ⟨0,rfl⟩⟩
  case round=>
   obtain ⟨j,hj,rfl,hw⟩:=hrel;have HD:=@Lh (ϐ w4 w4 wr) (by
    obtain ⟨n,S⟩:=hw.o;rw [S];exact AG Br n)
   obtain ⟨d,f,g,h,u,v,o,q⟩:=eH.o;obtain ⟨d,f,g,h,u⟩:=Δ5 HD.o d f g h u;obtain ⟨v,o,q⟩:=Δ3 HD.o v o q;have E:=Bl d;have F:=Bl g;have z3:=Bl u;have z4:=Bl v;have z5:=Bl o;have z6:=Bl q;by_cases fK:j<L
   .obtain ⟨c,hc⟩:∃ x,l[j]?=ς x:=⟨_,Lg (by have:=HN.o.2.1;omega)⟩
    have N:=M.o.th HD.o;have aR:=(t.o y K.o).1;have aS:=(t.o y K.o).2.1;obtain ⟨O,o1,rfl,cQ,e1,⟨v1,f1,s1⟩,-⟩:=(cT.o.cals (N.mono aR)).nth hc;obtain ⟨P,o2,rfl,cR,e2,⟨v2,f2,s2⟩,-⟩:=(cU.o.cals (N.mono aS)).nth hc;obtain ⟨t1,u1,rfl⟩:=s1.fm;obtain ⟨t2,u2,rfl⟩:=s2.fm;obtain ⟨ag,dO⟩:=ε c.args;rw [<-dO] at s1 s2 f1 f2;have dA:=Lh s1;have dB:=Lh s2;obtain ⟨an,dP⟩:=ε ag.length;rw [<-dP] at f1 f2 dA dB;have fG:=In j;have fH:(j:Int)<(L:Int):=ω;clear hc s1 s2 dO dP N aR aS cQ cR;go_wp2_with fail;go_quiet ((go_at_call 77;exact Calls.quiet_of (Er ag _ _ A B _ (dA.o.ints (AG Br _)) (dB.o.ints (AG Br _)))));go_wp2;go_roundw
    case rel=>exact ⟨j+1,ω,by go_num,Lh (by
     obtain ⟨n,S⟩:=hw.o;exact ⟨_,by rw [S,World.drewN_drewN]⟩)⟩
    case measure=>simp [intOf];omega
   obtain rfl:j=L:=ω;obtain ⟨w5,rfl⟩:=ε (wr:Ϣ);have eI:=Lh (ϟ d (ϟ f (ϟ g (ϟ h (ϟ o q)))));have cV:=Lh HD.o;go_wp2_with fail;clear d f g h u v o q E F z3 z4 z5 z6;go_loopw [8] (λi wr=>∃ p:Nat,p<=on/\i=ι p/\Hid (∃ n,wr=w5.drewN n)) (λi _=>on - (intOf i).toNat)
   case atStart=>exact ⟨0,Nat.zero_le _,rfl,Lh ⟨0,rfl⟩⟩
   case round=>
    obtain ⟨p,hp,rfl,dW⟩:=hrel;have aP:=@Lh (ϐ w5 w5 wr) (by
     obtain ⟨n,S⟩:=dW.o;rw [S];exact AG Br n)
    obtain ⟨d,f,g,h,o,q⟩:=eI.o;obtain ⟨f,h,o,q⟩:=Δ4 aP.o f h o q;have E:=Bl f;have F:=Bl h;have z5:=Bl o;have z6:=Bl q;clear d g;by_cases fL:p<on
    .obtain ⟨c,hc⟩:∃ x,r[p]?=ς x:=⟨_,Lg (by have:=HN.o.2.2;omega)⟩
     have N:=(M.o.th cV.o).th aP.o;have aR:=(t.o y K.o).1;have aS:=(t.o y K.o).2.1;obtain ⟨O,o1,rfl,cQ,e0,e1,e2,e3,e4,-⟩:=(cY.o.outs (N.mono aR)).nth hc;obtain ⟨P,o2,rfl,cR,f0,f1,f2,f3,f4,-⟩:=(cZ.o.outs (N.mono aS)).nth hc;obtain ⟨c0,c1,c2,c3,c4⟩:=c;have fN:=In p;have aQ:(p:Int)<(on:Int):=ω;clear hc N aR aS cQ cR;go_wp2_with fail;go_quiet (fail);go_wp2;go_roundw
     case rel=>exact ⟨p+1,ω,by go_num,Lh (by
      obtain ⟨n,S⟩:=dW.o;exact ⟨_,by rw [S,World.drewN_drewN]⟩)⟩
     case measure=>simp [intOf];omega
    .have eC:=Lh ((bE.o.th cV.o).th aP.o)
     go_wp2;go_roundw
     case rel=>exact ⟨k+1,ω,by go_num,Lh eC.o⟩
     case measure=>simp [intOf];omega
def UY (s:A3) (va vb:ϒ) (A B:Nat) (w:Ϣ) (hA:A<=w) (hB:B<=w) (aS:s.A.length=s.R.length) (aT:s.results.length=s.R.length) (m:CJ A w va s) (b:CJ B w vb s):ϙ prog 14 #[va,vb] w (PO ϑ w):=by
 obtain ⟨l1,l2,l3,l4,-,-,l7,l8⟩:=m.lens;obtain ⟨aO,aQ,aV,aX,bH,bJ,aZ,bB,X,Z,bD,bF,R,T,aK,aM,rfl⟩:=m.open_;obtain ⟨aP,aR,aW,aY,bI,bK,bA,bC,Y,aJ,bE,bG,S,U,aL,aN,rfl⟩:=b.open_;try delta Bt at m b ⊢
 rw [aS,aT] at m b ⊢;obtain ⟨i,bN⟩:=ε s.M.G.length;obtain ⟨j,bO⟩:=ε s.M.N.length;obtain ⟨a,aU⟩:=ε s.R.length;obtain ⟨k,bP⟩:=ε s.N.length;obtain ⟨d,bL⟩:=ε s.Z.length;obtain ⟨f,bM⟩:=ε s.P.length;obtain ⟨g,bT⟩:=ε s.Y;obtain ⟨l,bW⟩:=ε s.U;rw [<-bN] at l1;rw [<-bO] at l2;rw [<-aU] at l3 aS aT;rw [<-bP] at l4;rw [<-bL] at l7;rw [<-bM] at l8;rw [<-bN,<- bO,<- aU,<- bP,<- bL,<- bM,<- bT,<- bW] at m b ⊢;have bQ:=Lh (ϟ aU (ϟ aS aT));have bY:=Lh m;have bZ:=Lh b;clear bN bO aU bP bL bM bT bW m b aS aT;obtain ⟨W,n⟩:=ε ((w.alloc (χ #[σ aO i aQ,σ aV j aX,ι g,σ bH a bJ,σ aZ k bB,σ X a Z,σ bD a bF,σ R d T,σ aK f aM,ι l] 34)).alloc (χ #[σ aP i aR,σ aW j aY,ι g,σ bI a bK,σ bA k bC,σ Y a aJ,σ bE a bG,σ S d U,σ aL f aN,ι l] 34));have bR:=Lh (bl2 n);have HK:Hid (∀ V,ϐ W W V->(V.cell? (π w 0)=ς (σ aO i aQ)/\V.cell? (π w 1)=ς (σ aV j aX)/\V.cell? (π w 2)=ς (ι g)/\V.cell? (π w 3)=ς (σ bH a bJ)/\V.cell? (π w 4)=ς (σ aZ k bB)/\V.cell? (π w 5)=ς (σ X a Z)/\V.cell? (π w 6)=ς (σ bD a bF)/\V.cell? (π w 7)=ς (σ R d T)/\V.cell? (π w 8)=ς (σ aK f aM)/\V.cell? (π w 9)=ς (ι l))/\(V.cell? (π (w+1) 0)=ς (σ aP i aR)/\V.cell? (π (w+1) 1)=ς (σ aW j aY)/\V.cell? (π (w+1) 2)=ς (ι g)/\V.cell? (π (w+1) 3)=ς (σ bI a bK)/\V.cell? (π (w+1) 4)=ς (σ bA k bC)/\V.cell? (π (w+1) 5)=ς (σ Y a aJ)/\V.cell? (π (w+1) 6)=ς (σ bE a bG)/\V.cell? (π (w+1) 7)=ς (σ S d U)/\V.cell? (π (w+1) 8)=ς (σ aL f aN)/\V.cell? (π (w+1) 9)=ς (ι l))/\(w:Nat)<V.heap.size/\(w:Nat)+1<V.heap.size):=Lh (λV hV=>by
  have cD:=sz2 n;have cB:=ro21 n;have cC:=ro22 n;have h1:=(hV.block (w:Nat) ω).trans cB;have h2:=(hV.block ((w:Nat)+1) ω).trans cC;refine ⟨⟨?_,?_,?_,?_,?_,?_,?_,?_,?_,?_⟩,⟨?_,?_,?_,?_,?_,?_,?_,?_,?_,?_⟩,(La h1),(La h2)⟩<;>first|(rw [cell_of_row _ _ _ _ _ _ h1];rfl)|(rw [cell_of_row _ _ _ _ _ _ h2];rfl))
 have c:Hid (∀ V,ϐ W W V->A<=V.heap.size/\B<=V.heap.size/\CJ A V (.agg #[σ aO i aQ,σ aV j aX,ι g,σ bH a bJ,σ aZ k bB,σ X a Z,σ bD a bF,σ R d T,σ aK f aM,ι l]) s/\CJ B V (.agg #[σ aP i aR,σ aW j aY,ι g,σ bI a bK,σ bA k bC,σ Y a aJ,σ bE a bG,σ S d U,σ aL f aN,ι l]) s/\ϐ w w V):=Lh (λV hV=>by
  have b:=bR.o.th hV;exact ⟨Nt hA b.size,Nt hB b.size,bY.o.below (b.mono hA),bZ.o.below (b.mono hB),b⟩)
 obtain ⟨⟨p,q,r,t,u,v,x,y,z,C⟩,⟨D,E,F,G,H,I,J,K,L,M⟩,N,O⟩:=HK.o W Br;go_enter func14,ntmps14;go_upto_region 1 with fail;rw [<-n];clear n;go_wp2_with fail;have cA:=Lh (λV h1 h2 h3 h4=>UZ s (.agg #[σ aO i aQ,σ aV j aX,ι g,σ bH a bJ,σ aZ k bB,σ X a Z,σ bD a bF,σ R d T,σ aK f aM,ι l]) (.agg #[σ aP i aR,σ aW j aY,ι g,σ bI a bK,σ bA k bC,σ Y a aJ,σ bE a bG,σ S d U,σ aL f aN,ι l]) A B V h1 h2 (by have h:=bQ.o;omega) (by have h:=bQ.o;omega) h3 h4);refine (cA.o W (c.o W Br).1 (c.o W Br).2.1 (c.o W Br).2.2.1 (c.o W Br).2.2.2.1).mono ?_;rintro e w1 ⟨rfl,bS⟩;have P:=Lh bS;clear p q r t u v x y z C D E F G H I J K L M N O;clear bS;obtain ⟨⟨p,q,r,t,u,v,x,y,z,C⟩,⟨D,E,F,G,H,I,J,K,L,M⟩,N,O⟩:=HK.o w1 P.o;go_wp2_with fail;refine (JO s.Z _ _ A B w1 (c.o w1 P.o).2.2.1.parts.2.2.2.2.2.2.1 (c.o w1 P.o).2.2.2.1.parts.2.2.2.2.2.2.1).mono ?_;rintro e o ⟨rfl,q2,bU⟩;have Q:=@Lh (ϐ W W o) (P.o.th (by rw [bU];exact AG Br q2));clear p q r t u v x y z C D E F G H I J K L M N O;clear bU;obtain ⟨⟨p,q,r,t,u,v,x,y,z,C⟩,⟨D,E,F,G,H,I,J,K,L,M⟩,N,O⟩:=HK.o o Q.o;go_wp2_with fail;refine (JO s.P _ _ A B o (c.o o Q.o).2.2.1.parts.2.2.2.2.2.2.2.1 (c.o o Q.o).2.2.2.1.parts.2.2.2.2.2.2.2.1).mono ?_;rintro e w3 ⟨rfl,q3,bV⟩;have bX:=@Lh (ϐ W W w3) (Q.o.th (by rw [bV];exact AG Br q3));clear p q r t u v x y z C D E F G H I J K L M N O;clear bV;go_wp2;go_ret;exact Gx rfl (bR.o.th bX.o)
