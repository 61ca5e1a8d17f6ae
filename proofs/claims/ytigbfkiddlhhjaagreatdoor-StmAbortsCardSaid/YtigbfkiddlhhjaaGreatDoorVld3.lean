import Derived.Test.YtigbfkiddlhhjaaGreatDoorPst3
import Derived.Laws.AppendOwn
import Derived.Outline
set_option maxHeartbeats 8000000
set_option maxRecDepth 1000000
set_option linter.all false
open Go renaming World→Ϣ,Value→ϒ,Calls→ϙ
open Go.RowKit renaming Below→ϐ
open Option renaming some→ς
open Bool renaming false→ϝ,true→ϑ
open Go.Value renaming slice→σ
open Go.Obj renaming cells→χ
namespace Go.Proofs.YtigbfkiddlhhjaaGreatDoor
open Go.RowKit Proofs.Tryz
variable {w:Ϣ} {bk clock k A:Nat} {es:Array MapEntry} {o:Obj} {c:AQ} {P:Prop} {x:Cd} {r:Rq} {y:BK} {fr:List AY} {f:AY} {v:Int} {l:List Int}
def IC:An 143:=λ_ _=>by kernel_rfl
def Qo (n:Int) (w:Ϣ) :
  ϙ prog 143 #[ι n] w λe a=>e=.returned (.bool (!Af n))/\w=a:=by
 go_enter func143,ntmps143;go_wp2_with (go_at_call 141;refine (Bh n _).mono ?_;rintro e a ⟨rfl,rfl⟩);go_ret;exact ⟨rfl,rfl⟩
def Mi (w:Ϣ):∀ (x:Int) (a:Ϣ) (b:ϒ),ϐ w w a->Ny 0 a b x->ϙ prog 143 (#[b]++#[]) a (λe c=>e=.returned (.bool (!Af x))/\ϐ a a c):=by
 rintro x a b _ ⟨rfl,_⟩;exact (Qo x a).mono λe c ⟨d,f⟩=>⟨d,f▸Below.refl _ _⟩
def C7 (c:AQ) (x:Cd):Int:=if x.op=5\/x.op=6 then 1 else if x.op=7 then 2 else if x.op=9 then (match Dt c x.a with|some z=>z.params|none=>0) else 0
def Oz (c:AQ) (p:ϒ) (x:Cd) (B:Nat) (w:Ϣ) (H:B<=w) (I:BF B w p c) (l:x.op=9->0<=x.a/\x.a<c.funcs.length) :
  ϙ prog 145 #[p,.agg #[ι x.op,ι x.a]] w λe J=>e=.returned (ι (C7 c x))/\ϐ w w J:=by
 obtain ⟨U,F,rfl,t,m,K⟩:=I;obtain ⟨A,C,rfl⟩:=t.form;have i:=Lh (m.funs (((AA w (χ #[σ A c.H C,ι c.G,F] 25)).th (AA _ (χ #[ι x.op,ι x.a] 96))).mono H));obtain ⟨D,E,rfl⟩:=m.form;obtain ⟨b,a⟩:=x;clear t m;by_cases h:b=9
 .subst h
  obtain ⟨q,j⟩:=l rfl;obtain ⟨n,rfl⟩:=Int.eq_ofNat_of_zero_le q;obtain ⟨z,f⟩:∃ z,c.funcs[n]?=ς z:=⟨_,Lg (by simp at j;omega)⟩
  have d:=@Lh (C7 c ⟨9,n⟩=z.params) (by unfold C7;simp [Dt,f]);obtain ⟨u,v,o,R,S,T,g⟩:=i.o;obtain ⟨rfl,rfl⟩:D=u/\E=v:=by simpa using o
  rcases g with G|⟨W,X,rfl,L,g⟩
  .rw [G] at f;simp at f
  have V:=(g n z f).2.1;have P:=In n;have Q:(n:Int)<(c.funcs:Int):=j;clear o g j q i f l;go_enter func145,ntmps145;go_wp2;go_ret;exact ⟨by rw [d.o];rfl,(AA _ _).th (AA _ _)⟩
 .have d:=@Lh (C7 c ⟨b,a⟩=if b=5\/b=6 then 1 else if b=7 then 2 else 0) (by unfold C7;simp [h])
  have O:(b == 9)=ϝ:=by simp [h]
  clear l i;by_cases r:b=5
  .subst r
   go_enter func145,ntmps145;go_wp2;go_ret;exact ⟨by rw [d.o];rfl,(AA _ _).th (AA _ _)⟩
  by_cases s:b=6
  .subst s
   go_enter func145,ntmps145;go_wp2;go_ret;exact ⟨by rw [d.o];rfl,(AA _ _).th (AA _ _)⟩
  by_cases k:b=7
  .subst k
   go_enter func145,ntmps145;go_wp2;go_ret;exact ⟨by rw [d.o];rfl,(AA _ _).th (AA _ _)⟩
  .have aF:(b == 5)=ϝ:=by simp [r]
   have M:(b == 6)=ϝ:=by simp [s]
   have N:(b == 7)=ϝ:=by simp [k]
   have y:=@Lh (C7 c ⟨b,a⟩=0) (by rw [d.o,if_neg ω,if_neg k]);go_enter func145,ntmps145;go_wp2;go_ret;exact ⟨by rw [y.o];rfl,(AA _ _).th (AA _ _)⟩
def NP (n:Int) (l:List Int) (b cap:Nat) (w:Ϣ) (hl:l.length<=1000) (m:∀ (j:Nat) u,l[j]?=ς u->w.cell? (π b j)=ς (ι u)) :
  ϙ prog 164 #[σ (ς (π b 0)) l cap,ι n] w λe t=>e=.returned (ι (Cz (λa=>n == a) l))/\w=t:=by
 have o:=Lh m;clear m;go_enter func164,ntmps164;go_wp2_with fail
 go_loop [8] (λi=>∃ k:Nat,k<=l.length/\i=ι k/\Hid (∀ (j:Nat) u,j<k->l[j]?=ς u->(n == u)=ϝ)) (λi=>l.length - (intOf i).toNat)
 case atStart=>exact ⟨0,Nat.zero_le _,rfl,Lh (λj u d=>by omega)⟩
 case round=>
  obtain ⟨k,A,rfl,f⟩:=hrel;by_cases r:k<l.length
  .obtain ⟨u,hu⟩:∃ u,l[k]?=ς u:=⟨_,Lg r⟩
   have q:=o.o k u hu;have z:=Bl q;have v:=In k;have x:(k:Int)<(l:Int):=ω;have h:=Lh hu;clear hu;cases g:n == u with
   | true=>
    have s:n=u:=by simpa using g
    subst s;clear g;go_wp2;go_ret;exact ⟨E8 (by rw [DO h.o ψ (λj y d c=>f.o j y d c)]),rfl⟩
   | false=>
    go_wp2_with fail;have p:=Lh g;go_round
    case rel=>exact ⟨k+1,ω,by go_num,Lh (λj y d c=>by
     by_cases e:j=k
     .subst e;rw [h.o] at c;cases c;exact p.o
     .exact f.o j y ω c)⟩
    case measure=>simp [intOf];omega
  .go_wp2
   go_ret;exact ⟨E8 (by rw [CR (λj y d c=>f.o j y ω c)]),rfl⟩
def DN (n:Int) (l:List Int) (b cap:Nat) (w:Ϣ) (hl:l.length<=1000) (c:∀ (j:Nat) u,l[j]?=ς u->w.cell? (π b j)=ς (ι u)) :
  ϙ prog 142 #[σ (ς (π b 0)) l cap,ι n] w λe d=>e=.returned (.bool (l.any (λa=>n == a)))/\w=d:=by
 have f:=Lh c;clear c;go_enter func142,ntmps142;go_wp2_with (go_at_call 164;refine (NP n l b cap w hl f.o).mono ?_;rintro e d ⟨rfl,rfl⟩);go_ret;exact ⟨Ca (Ci _ l),rfl⟩
def Aa (op:Int):Int:=if op=4\/op=6 then 1 else if op=5\/op=7 then 2 else if op=8 then 3 else 0
def Ag (op n:Int):Bool:=if op=6\/op=7 then decide (1<=n/\n<=1099511627776) else n == 0
def AP (x:Cd) (r:Rq):Bool:=!(Aa x.op == 0) && (r.K == Aa x.op) && Ag x.op r.O && (r.D == x.a) && (r.X == 0) && (r.V == 0 || (Aa x.op == 2 && Af r.V))
def Vb (a g f b c d:Int) (w:Ϣ) :
  ϙ prog 146 #[.agg #[ι 4,ι a],.agg #[ι g,ι f,ι b,ι c,ι d]] w λe n=>e=.returned (.bool (AP ⟨4,a⟩ ⟨g,f,b,c,d⟩))/\ϐ w w n:=by
 by_cases m:g=1;rotate_left
 .have hb:(g == 1)=ϝ:=by simp [m]
  have h:=@Lh (AP ⟨4,a⟩ ⟨g,f,b,c,d⟩=ϝ) (by unfold AP Aa Ag;simp [*]);go_enter func146,ntmps146;go_wp2;go_ret;exact ⟨by rw [h.o];rfl,(AA _ _).th (AA _ _)⟩
 subst m;by_cases i:f=0;rotate_left
 .have d1:(f == 0)=ϝ:=by simp [i]
  have h:=@Lh (AP ⟨4,a⟩ ⟨1,f,b,c,d⟩=ϝ) (by unfold AP Aa Ag;simp [*]);go_enter func146,ntmps146;go_wp2;go_ret;exact ⟨by rw [h.o];rfl,(AA _ _).th (AA _ _)⟩
 subst i;by_cases j:b=a;rotate_left
 .have d3:(b == a)=ϝ:=by simp [j]
  have h:=@Lh (AP ⟨4,a⟩ ⟨1,0,b,c,d⟩=ϝ) (by unfold AP Aa Ag;simp [*]);go_enter func146,ntmps146;go_wp2;go_ret;exact ⟨by rw [h.o];rfl,(AA _ _).th (AA _ _)⟩
 subst j;by_cases k:d=0;rotate_left
 .have d4:(d == 0)=ϝ:=by simp [k]
  have h:=@Lh (AP ⟨4,b⟩ ⟨1,0,b,c,d⟩=ϝ) (by unfold AP Aa Ag;simp [*]);go_enter func146,ntmps146;go_wp2;go_ret;exact ⟨by rw [h.o];rfl,(AA _ _).th (AA _ _)⟩
 subst k;by_cases l:c=0
 .subst l
  have h:=@Lh (AP ⟨4,b⟩ ⟨1,0,b,0,0⟩=ϑ) (by unfold AP Aa Ag;simp [*]);go_enter func146,ntmps146;go_wp2;go_ret;exact ⟨by rw [h.o];rfl,(AA _ _).th (AA _ _)⟩
 have o:(c == 0)=ϝ:=by simp [l]
 have h:=@Lh (AP ⟨4,b⟩ ⟨1,0,b,c,0⟩=ϝ) (by unfold AP Aa Ag;simp [*]);go_enter func146,ntmps146;go_wp2;go_ret;exact ⟨by rw [h.o];rfl,(AA _ _).th (AA _ _)⟩
def Vc (a g f b c d:Int) (w:Ϣ) :
  ϙ prog 146 #[.agg #[ι 5,ι a],.agg #[ι g,ι f,ι b,ι c,ι d]] w λe n=>e=.returned (.bool (AP ⟨5,a⟩ ⟨g,f,b,c,d⟩))/\ϐ w w n:=by
 by_cases m:g=2;rotate_left
 .have hb:(g == 2)=ϝ:=by simp [m]
  have h:=@Lh (AP ⟨5,a⟩ ⟨g,f,b,c,d⟩=ϝ) (by unfold AP Aa Ag;simp [*]);go_enter func146,ntmps146;go_wp2;go_ret;exact ⟨by rw [h.o];rfl,(AA _ _).th (AA _ _)⟩
 subst m;by_cases i:f=0;rotate_left
 .have d1:(f == 0)=ϝ:=by simp [i]
  have h:=@Lh (AP ⟨5,a⟩ ⟨2,f,b,c,d⟩=ϝ) (by unfold AP Aa Ag;simp [*]);go_enter func146,ntmps146;go_wp2;go_ret;exact ⟨by rw [h.o];rfl,(AA _ _).th (AA _ _)⟩
 subst i;by_cases j:b=a;rotate_left
 .have d3:(b == a)=ϝ:=by simp [j]
  have h:=@Lh (AP ⟨5,a⟩ ⟨2,0,b,c,d⟩=ϝ) (by unfold AP Aa Ag;simp [*]);go_enter func146,ntmps146;go_wp2;go_ret;exact ⟨by rw [h.o];rfl,(AA _ _).th (AA _ _)⟩
 subst j;by_cases k:d=0;rotate_left
 .have d4:(d == 0)=ϝ:=by simp [k]
  have h:=@Lh (AP ⟨5,b⟩ ⟨2,0,b,c,d⟩=ϝ) (by unfold AP Aa Ag;simp [*]);go_enter func146,ntmps146;go_wp2;go_ret;exact ⟨by rw [h.o];rfl,(AA _ _).th (AA _ _)⟩
 subst k;by_cases l:c=0
 .subst l
  have h:=@Lh (AP ⟨5,b⟩ ⟨2,0,b,0,0⟩=ϑ) (by unfold AP Aa Ag;simp [*]);go_enter func146,ntmps146;go_wp2;go_ret;exact ⟨by rw [h.o];rfl,(AA _ _).th (AA _ _)⟩
 have o:(c == 0)=ϝ:=by simp [l]
 have h:=@Lh (AP ⟨5,b⟩ ⟨2,0,b,c,0⟩=Af c) (by unfold AP Aa Ag;simp [*]);go_enter func146,ntmps146;go_wp2_with (go_at_call 141;refine (Bh _ _).mono ?_;rintro e n ⟨rfl,rfl⟩);go_ret;exact ⟨by rw [h.o];rfl,(AA _ _).th (AA _ _)⟩
def Vd (a g c b d f:Int) (w:Ϣ) :
  ϙ prog 146 #[.agg #[ι 6,ι a],.agg #[ι g,ι c,ι b,ι d,ι f]] w λe q=>e=.returned (.bool (AP ⟨6,a⟩ ⟨g,c,b,d,f⟩))/\ϐ w w q:=by
 by_cases n:g=1;rotate_left
 .have hb:(g == 1)=ϝ:=by simp [n]
  by_cases j:1<=c
  .have i:decide (1<=c)=ϑ:=by simp [j]
   have h:=@Lh (AP ⟨6,a⟩ ⟨g,c,b,d,f⟩=ϝ) (by unfold AP Aa Ag;simp [*]);go_enter func146,ntmps146;go_wp2_with fail;go_quiet (fail);go_wp2;go_ret;exact ⟨by rw [h.o];rfl,AG ((AA _ _).th (AA _ _)) _⟩
  .have i:=θ (1<=c)
   have h:=@Lh (AP ⟨6,a⟩ ⟨g,c,b,d,f⟩=ϝ) (by unfold AP Aa Ag;simp [*]);go_enter func146,ntmps146;go_wp2_with fail;go_quiet (fail);go_wp2;go_ret;exact ⟨by rw [h.o];rfl,AG ((AA _ _).th (AA _ _)) _⟩
 subst n;by_cases j:1<=c;rotate_left
 .have i:=θ (1<=c)
  have h:=@Lh (AP ⟨6,a⟩ ⟨1,c,b,d,f⟩=ϝ) (by unfold AP Aa Ag;simp [*]);go_enter func146,ntmps146;go_wp2_with fail;go_quiet (fail);go_wp2;go_ret;exact ⟨by rw [h.o];rfl,AG ((AA _ _).th (AA _ _)) _⟩
 have i:decide (1<=c)=ϑ:=by simp [j]
 by_cases p:c<=1099511627776;rotate_left
 .have o:=θ (c<=1099511627776)
  have h:=@Lh (AP ⟨6,a⟩ ⟨1,c,b,d,f⟩=ϝ) (by unfold AP Aa Ag;simp [*]);go_enter func146,ntmps146;go_wp2_with fail;go_quiet (fail);go_wp2;go_ret;exact ⟨by rw [h.o];rfl,AG ((AA _ _).th (AA _ _)) _⟩
 have o:decide (c<=1099511627776)=ϑ:=by simp [p]
 by_cases k:b=a;rotate_left
 .have d3:(b == a)=ϝ:=by simp [k]
  have h:=@Lh (AP ⟨6,a⟩ ⟨1,c,b,d,f⟩=ϝ) (by unfold AP Aa Ag;simp [*]);go_enter func146,ntmps146;go_wp2_with fail;go_quiet (fail);go_wp2;go_ret;exact ⟨by rw [h.o];rfl,AG ((AA _ _).th (AA _ _)) _⟩
 subst k;by_cases l:f=0;rotate_left
 .have d4:(f == 0)=ϝ:=by simp [l]
  have h:=@Lh (AP ⟨6,b⟩ ⟨1,c,b,d,f⟩=ϝ) (by unfold AP Aa Ag;simp [*]);go_enter func146,ntmps146;go_wp2_with fail;go_quiet (fail);go_wp2;go_ret;exact ⟨by rw [h.o];rfl,AG ((AA _ _).th (AA _ _)) _⟩
 subst l;by_cases m:d=0
 .subst m
  have h:=@Lh (AP ⟨6,b⟩ ⟨1,c,b,0,0⟩=ϑ) (by unfold AP Aa Ag;simp [*]);go_enter func146,ntmps146;go_wp2_with fail;go_quiet (fail);go_wp2;go_ret;exact ⟨by rw [h.o];rfl,AG ((AA _ _).th (AA _ _)) _⟩
 have r:(d == 0)=ϝ:=by simp [m]
 have h:=@Lh (AP ⟨6,b⟩ ⟨1,c,b,d,0⟩=ϝ) (by unfold AP Aa Ag;simp [*]);go_enter func146,ntmps146;go_wp2_with fail;go_quiet (fail);go_wp2;go_ret;exact ⟨by rw [h.o];rfl,AG ((AA _ _).th (AA _ _)) _⟩
def Ve (a g c b d f:Int) (w:Ϣ) :
  ϙ prog 146 #[.agg #[ι 7,ι a],.agg #[ι g,ι c,ι b,ι d,ι f]] w λe k=>e=.returned (.bool (AP ⟨7,a⟩ ⟨g,c,b,d,f⟩))/\ϐ w w k:=by
 by_cases o:g=2;rotate_left
 .have hb:(g == 2)=ϝ:=by simp [o]
  by_cases j:1<=c
  .have i:decide (1<=c)=ϑ:=by simp [j]
   have h:=@Lh (AP ⟨7,a⟩ ⟨g,c,b,d,f⟩=ϝ) (by unfold AP Aa Ag;simp [*]);go_enter func146,ntmps146;go_wp2_with fail;go_quiet (fail);go_wp2;go_ret;exact ⟨by rw [h.o];rfl,AG ((AA _ _).th (AA _ _)) _⟩
  .have i:=θ (1<=c)
   have h:=@Lh (AP ⟨7,a⟩ ⟨g,c,b,d,f⟩=ϝ) (by unfold AP Aa Ag;simp [*]);go_enter func146,ntmps146;go_wp2_with fail;go_quiet (fail);go_wp2;go_ret;exact ⟨by rw [h.o];rfl,AG ((AA _ _).th (AA _ _)) _⟩
 subst o;by_cases j:1<=c;rotate_left
 .have i:=θ (1<=c)
  have h:=@Lh (AP ⟨7,a⟩ ⟨2,c,b,d,f⟩=ϝ) (by unfold AP Aa Ag;simp [*]);go_enter func146,ntmps146;go_wp2_with fail;go_quiet (fail);go_wp2;go_ret;exact ⟨by rw [h.o];rfl,AG ((AA _ _).th (AA _ _)) _⟩
 have i:decide (1<=c)=ϑ:=by simp [j]
 by_cases q:c<=1099511627776;rotate_left
 .have p:=θ (c<=1099511627776)
  have h:=@Lh (AP ⟨7,a⟩ ⟨2,c,b,d,f⟩=ϝ) (by unfold AP Aa Ag;simp [*]);go_enter func146,ntmps146;go_wp2_with fail;go_quiet (fail);go_wp2;go_ret;exact ⟨by rw [h.o];rfl,AG ((AA _ _).th (AA _ _)) _⟩
 have p:decide (c<=1099511627776)=ϑ:=by simp [q]
 by_cases l:b=a;rotate_left
 .have d3:(b == a)=ϝ:=by simp [l]
  have h:=@Lh (AP ⟨7,a⟩ ⟨2,c,b,d,f⟩=ϝ) (by unfold AP Aa Ag;simp [*]);go_enter func146,ntmps146;go_wp2_with fail;go_quiet (fail);go_wp2;go_ret;exact ⟨by rw [h.o];rfl,AG ((AA _ _).th (AA _ _)) _⟩
 subst l;by_cases m:f=0;rotate_left
 .have d4:(f == 0)=ϝ:=by simp [m]
  have h:=@Lh (AP ⟨7,b⟩ ⟨2,c,b,d,f⟩=ϝ) (by unfold AP Aa Ag;simp [*]);go_enter func146,ntmps146;go_wp2_with fail;go_quiet (fail);go_wp2;go_ret;exact ⟨by rw [h.o];rfl,AG ((AA _ _).th (AA _ _)) _⟩
 subst m;by_cases n:d=0
 .subst n
  have h:=@Lh (AP ⟨7,b⟩ ⟨2,c,b,0,0⟩=ϑ) (by unfold AP Aa Ag;simp [*]);go_enter func146,ntmps146;go_wp2_with fail;go_quiet (fail);go_wp2;go_ret;exact ⟨by rw [h.o];rfl,AG ((AA _ _).th (AA _ _)) _⟩
 have r:(d == 0)=ϝ:=by simp [n]
 have h:=@Lh (AP ⟨7,b⟩ ⟨2,c,b,d,0⟩=Af d) (by unfold AP Aa Ag;simp [*]);go_enter func146,ntmps146;go_wp2_with (go_at_call 141;refine (Bh _ _).mono ?_;rintro e k ⟨rfl,rfl⟩);go_quiet (fail);go_wp2_with (go_at_call 141;refine (Bh _ _).mono ?_;rintro e k ⟨rfl,rfl⟩);go_ret;exact ⟨by rw [h.o];rfl,AG ((AA _ _).th (AA _ _)) _⟩
def Vf (a g f b c d:Int) (w:Ϣ) :
  ϙ prog 146 #[.agg #[ι 8,ι a],.agg #[ι g,ι f,ι b,ι c,ι d]] w λe n=>e=.returned (.bool (AP ⟨8,a⟩ ⟨g,f,b,c,d⟩))/\ϐ w w n:=by
 by_cases m:g=3;rotate_left
 .have hb:(g == 3)=ϝ:=by simp [m]
  have h:=@Lh (AP ⟨8,a⟩ ⟨g,f,b,c,d⟩=ϝ) (by unfold AP Aa Ag;simp [*]);go_enter func146,ntmps146;go_wp2;go_ret;exact ⟨by rw [h.o];rfl,(AA _ _).th (AA _ _)⟩
 subst m;by_cases i:f=0;rotate_left
 .have d1:(f == 0)=ϝ:=by simp [i]
  have h:=@Lh (AP ⟨8,a⟩ ⟨3,f,b,c,d⟩=ϝ) (by unfold AP Aa Ag;simp [*]);go_enter func146,ntmps146;go_wp2;go_ret;exact ⟨by rw [h.o];rfl,(AA _ _).th (AA _ _)⟩
 subst i;by_cases j:b=a;rotate_left
 .have d3:(b == a)=ϝ:=by simp [j]
  have h:=@Lh (AP ⟨8,a⟩ ⟨3,0,b,c,d⟩=ϝ) (by unfold AP Aa Ag;simp [*]);go_enter func146,ntmps146;go_wp2;go_ret;exact ⟨by rw [h.o];rfl,(AA _ _).th (AA _ _)⟩
 subst j;by_cases k:d=0;rotate_left
 .have d4:(d == 0)=ϝ:=by simp [k]
  have h:=@Lh (AP ⟨8,b⟩ ⟨3,0,b,c,d⟩=ϝ) (by unfold AP Aa Ag;simp [*]);go_enter func146,ntmps146;go_wp2;go_ret;exact ⟨by rw [h.o];rfl,(AA _ _).th (AA _ _)⟩
 subst k;by_cases l:c=0
 .subst l
  have h:=@Lh (AP ⟨8,b⟩ ⟨3,0,b,0,0⟩=ϑ) (by unfold AP Aa Ag;simp [*]);go_enter func146,ntmps146;go_wp2;go_ret;exact ⟨by rw [h.o];rfl,(AA _ _).th (AA _ _)⟩
 have o:(c == 0)=ϝ:=by simp [l]
 have h:=@Lh (AP ⟨8,b⟩ ⟨3,0,b,c,0⟩=ϝ) (by unfold AP Aa Ag;simp [*]);go_enter func146,ntmps146;go_wp2;go_ret;exact ⟨by rw [h.o];rfl,(AA _ _).th (AA _ _)⟩
def Tu (a i b d f c:Int) (w:Ϣ) (g:Int) (h:g≠4/\g≠5/\g≠6/\g≠7/\g≠8) :
  ϙ prog 146 #[.agg #[ι g,ι a],.agg #[ι i,ι b,ι d,ι f,ι c]] w λe l=>e=.returned (.bool (AP ⟨g,a⟩ ⟨i,b,d,f,c⟩))/\ϐ w w l:=by
 have j:=@Lh (AP ⟨g,a⟩ ⟨i,b,d,f,c⟩=ϝ) (by unfold AP Aa;simp [h]);have m:(g == 4)=ϝ:=by simp [h]
 have n:(g == 5)=ϝ:=by simp [h]
 have o:(g == 6)=ϝ:=by simp [h]
 have p:(g == 7)=ϝ:=by simp [h]
 have q:(g == 8)=ϝ:=by simp [h]
 clear h;by_cases k:b=0
 .subst k
  go_enter func146,ntmps146;go_wp2;go_ret;exact ⟨by rw [j.o];rfl,(AA _ _).th (AA _ _)⟩
 .have aA:(b == 0)=ϝ:=by simp [k]
  go_enter func146,ntmps146;go_wp2;go_ret;exact ⟨by rw [j.o];rfl,(AA _ _).th (AA _ _)⟩
def MP (x:Cd) (r:Rq) (w:Ϣ):ϙ prog 146 #[.agg #[ι x.op,ι x.a],XZ r] w λe n=>e=.returned (.bool (AP x r))/\ϐ w w n:=by
 obtain ⟨h,a⟩:=x;obtain ⟨f,g,c,d,b⟩:=r;unfold XZ;by_cases i:h=4
 .subst i;exact Vb a f g c d b w
 by_cases j:h=5
 .subst j;exact Vc a f g c d b w
 by_cases k:h=6
 .subst k;exact Vd a f g c d b w
 by_cases l:h=7
 .subst l;exact Ve a f g c d b w
 by_cases m:h=8
 .subst m;exact Vf a f g c d b w
 exact Tu a f g c d b w h ⟨i,j,k,l,m⟩
def N0 (c:AQ) (y:BK) (w:Ϣ) (e:Ending) (w':Ϣ):Prop:=
 ∃ g hs,e=.returned (.tuple #[σ (ς (π g 0)) y.code y.code.length,ι 0])/\(w:Nat)<=g/\w'.heap[g]?=ς (χ (Ad hs) 3 (0,0))/\DB c y hs/\ϐ w w w'
def N1 (c:AQ) (I:ϒ) (k:Nat) (y:BK) (B:Nat) (w:Ϣ) (S:C8 w) (f:B<=w) (U:BF B w I c) (hs:AU c) (h:c.funcs[k]?=ς y) :
  ϙ prog 144 #[I,ι (k:Int)] w (N0 c y w):=by
 have t:=Lh U;have aS:=Lh (hs.wf h);obtain ⟨fv,gv,rfl,X,E,aJ⟩:=U;obtain ⟨A,C,rfl⟩:=X.form;obtain ⟨R,r,rfl⟩:=E.form;have aX:=(Ll h)
 obtain ⟨a,d,rfl,v,l⟩:∃ a d,R=ς (π a d)/\a<B/\CW B w a (d+k*5) y:=by
  obtain ⟨a0,aH,aQ,aY,aZ,bA,l⟩:=E;obtain ⟨rfl,rfl⟩:R=a0/\r=aH:=by simpa using aQ
  rcases l with h0|⟨a,d,rfl,v,l⟩
  .rw [h0] at h;simp at h
  .exact ⟨a,d,rfl,v,l k y h⟩
 have HE:=Lh l;obtain ⟨W,s⟩:=ε (w.alloc (χ #[σ A c.H C,ι c.G,σ (ς (π a d)) c.funcs r] 25));obtain ⟨q,b0,u,H⟩:=Λ4 (bl1 s) (ce11 s) S (FP hs.1);have aR:=@Lh (FO c=ϑ) (by unfold FO;rw [H.o,hs.2.1];rfl);obtain ⟨m,n,o⟩:=Γ3 b0.o;have HY:=Lh h;have HS:=Lh hs;clear X E l S h hs aJ;go_enter func144,ntmps144;go_upto_region 1 with fail;rw [<-s];clear s;go_wp2_with fail;refine (LH c _ B W (u.o.below q.o) (Nt f q.o.size) (t.o.below (q.o.mono f))).mono ?_;rintro e w1 ⟨rfl,x⟩;rw [H.o];have p:=Lh (q.o.th x);obtain ⟨m,n,o⟩:=Δ3 x m n o;clear x;go_wp2_with fail;refine (Py c _ B w1 (u.o.below p.o) (Nt f p.o.size) (t.o.below (p.o.mono f))).mono ?_;rintro e i ⟨rfl,z⟩;rw [aR.o];have j:=Lh (p.o.th z);obtain ⟨m,n,o⟩:=Δ3 z m n o;clear z;obtain ⟨J,K,L,M,⟨xv,N,D⟩,O,P,Q⟩:=HE.o.below (j.o.mono f) v;have H6:=Lh D;obtain ⟨Z,G,rfl⟩:=D.form;have aV:=In k;have aW:(k:Int)<(c.funcs:Int):=ω;have aT:=θ ((k:Int)<0);have aU:=θ (c.funcs.length<=k);have aO:=@Lh (C8 i.drew) (u.o.below (AG j.o 1));have aM:=@Lh (BF B i.drew (.agg #[σ A c.H C,ι c.G,σ (ς (π a d)) c.funcs r]) c) (t.o.below ((AG j.o 1).mono f));have aN:Hid (EI B i.drew (.agg #[.string y.name,ι y.params,ι y.L,.bool y.result,σ Z y.code G]) y):=Lh ⟨_,rfl,H6.o.inss (AG Br 1),O,P,Q⟩;have aP:B<=i.drew.heap.size:=Nt f j.o.size;clear D O P Q;go_upto_region 7 with fail;go_region_held3 (λV=>V.cell? (π w 0)=ς (σ A c.H C)/\V.cell? (π w 1)=ς (ι c.G)/\V.cell? (π w 2)=ς (σ (ς (π a d)) c.funcs r)/\V.cell? (π a (d+k*5))=ς (.string y.name)/\V.cell? (π a (d+k*5+1))=ς (ι y.params)/\V.cell? (π a (d+k*5+2))=ς (ι y.L)/\V.cell? (π a (d+k*5+3))=ς (.bool y.result)/\V.cell? (π a (d+k*5+4))=ς (σ Z y.code G))
  (first|exact ⟨m,n,o,J,K,L,M,N⟩|exact ⟨AB hb3 m,AB hb3 n,AB hb3 o,AB hb3 J,AB hb3 K,AB hb3 L,AB hb3 M,AB hb3 N⟩)
  (first|(go_at_call 86;refine (KA c _ y _ B _ aO.o aP aM.o aN.o aS.o).mono ?_;rintro e Y T;obtain ⟨g,b,rfl,hg3,hh3,hA3,hb3⟩:∃ g b,e=.returned (.tuple #[σ (ς (π g 0)) y.code y.code.length,ι 0,ι 0])/\i.drew.heap.size<=g/\Hid (Y.heap[g]?=ς (χ (Ad b) 3 (0,0)))/\DB c y b/\ϐ i.drew.heap.size i.drew Y:=(by rcases T with ⟨_,_,_,_,_,F,_⟩|⟨g,b,h1,h2,h3,_,h5,h6⟩;exact absurd (HS.o.2.2 y (Lm HY.o)) F;exact ⟨g,b,h1,h2,Lh h3,h5,h6⟩);clear T))
 have aL:=Lh ((AG j.o 1).th hb3);have aI:=Nt j.o.size hg3;clear hb3;go_wp2_with fail
 go_ret2
 exact ⟨g,b,rfl,aI,hh3.o,hA3,aL.o⟩
def J5 (k:Int):∀ (l:List MapEntry) (i:Nat),(∀ e∈l,∃ n:Int,e.key=ι n)->
  ∃ r,Instr.findNow (.int .i64) (ι k) l i=ς r/\∀ j v,r=ς (j,v)->∃ e∈l,e.key=ι k/\e.val=v
 | [],i,_=>⟨none,by simp [Instr.findNow],ψ⟩
 | e::l,i,h=>by
  obtain ⟨n,c⟩:=h e ψ;obtain ⟨r,o,p⟩:=J5 k l (i+1) (λe a=>h e (by simp [a]));by_cases b:k=n
  .subst b
   exact ⟨ς (i,e.val),by simp [Instr.findNow,Instr.sameNow,c],λj v a=>by simp at a;exact ⟨e,ψ,c,a.2⟩⟩
  .have hb:(n == k)=ϝ:=by simp;exact λe=>b e.symm
   have d:(k == n)=ϝ:=by simp [b]
   refine ⟨r,by simp [Instr.findNow,Instr.sameNow,c,hb,d,o],λj v a=>?_⟩;obtain ⟨f,g,m⟩:=p j v a;exact ⟨f,by simp [g],m⟩
def RQ (a:w.heap[bk]?=ς (.map es clock)) (k:Int) (r:Option (Nat×ϒ)) (h:Instr.findNow (.int .i64) (ι k) es.toList 0=ς r) :
  (Instr.lookup 192 (.map (ς bk)) (ι k) ϑ).run prog w=.ok (.tuple #[match r with|some (_,v)=>v|none=>ν,.bool r.isSome]) w:=by
 have b:∀ w:Ϣ,(zeroValue 22).run prog w=.ok ν w:=λw=>by kernel_rfl
 cases r with
 | none=>simp [Instr.lookup,run_underlying underlying192,MapKept.run_getObj_map a,MapKept.run_checkKey underlying3 (k:=ι k) rfl,MapKept.run_findKey underlying3 h,Result.andThen,b]
 | some r=>simp [Instr.lookup,run_underlying underlying192,MapKept.run_getObj_map a,MapKept.run_checkKey underlying3 (k:=ι k) rfl,MapKept.run_findKey underlying3 h,Result.andThen]
def Ew (w:Ϣ) (bk:Nat) (o:Obj):Ϣ:={ w with heap:=w.heap.setIfInBounds bk o }
def U8 (a:w.heap[bk]?=ς (.map es clock)) (k:Int) (v:ϒ) (h:Instr.findNow (.int .i64) (ι k) es.toList 0=ς none) :
  (Instr.mapUpdate 192 (.map (ς bk)) (ι k) v).run prog w=.ok () (Ew w bk (.map (es.push ⟨ι k,v,clock⟩) (clock+1))):=by
 simp [Instr.mapUpdate,run_underlying underlying192,MapKept.run_getObj_map a,MapKept.run_checkKey underlying3 (k:=ι k) rfl,MapKept.run_findKey underlying3 h,MapKept.run_setObj_map _ a,Result.andThen,Ew]
def On (a:bk<w):(Ew w bk o).heap[bk]?=ς o:=by
 unfold Ew;simp [Array.getElem?_setIfInBounds,a]
def GY (a:k≠bk):(Ew w bk o).heap[k]?=w.heap[k]?:=by
 unfold Ew;simp only [];rw [Array.getElem?_setIfInBounds,if_neg (λe=>a e.symm)]
def Oo :(Ew w bk o).heap.size=(w:Nat):=by unfold Ew;simp
def Om :AW [bk] [bk] w (Ew w bk o):=⟨rfl,rfl,rfl,by rw [Oo];exact Nr _,λk _ hF=>GY (λe=>hF (by simp [e])),λ_ h=>.inl h⟩
structure Gv (c:AQ) (A:Nat) (w:Ϣ) (bk:Nat) (es:Array MapEntry) (clock:Nat):Prop where
 map:w.heap[bk]?=ς (.map es clock)
 ent:∀ e∈es.toList,∃ (k:Nat) (y:BK) (g:Nat) (hs:List Int),e.key=ι k/\c.funcs[k]?=ς y/\e.val=σ (ς (π g 0)) y.code y.code.length/\w.heap[g]?=ς (χ (Ad hs) 3 (0,0))/\DB c y hs/\A<=g/\g≠bk
def Gv.kp {w':Ϣ} (h:Gv c A w bk es clock) (b:ϐ w w w'):Gv c A w' bk es clock:=
 ⟨by rw [b.block _ (La h.map)];exact h.map,λe m=>by
  obtain ⟨k,y,g,n,d,f,i,a,j,l⟩:=h.ent e m;exact ⟨k,y,g,n,d,f,i,by rw [b.block _ (La a)];exact a,j,l⟩⟩
def Gv.find (h:Gv c A w bk es clock) (k:Nat) (y:BK) (u:c.funcs[k]?=ς y) :
  Instr.findNow (.int .i64) (ι k) es.toList 0=ς none\/∃ j g a,Instr.findNow (.int .i64) (ι k) es.toList 0=ς (ς (j,σ (ς (π g 0)) y.code y.code.length))/\w.heap[g]?=ς (χ (Ad a) 3 (0,0))/\DB c y a:=by
 obtain ⟨r,m,t⟩:=J5 k es.toList 0 (λe d=>by obtain ⟨n,_,_,_,b,_⟩:=h.ent e d;exact ⟨n,b⟩);cases r with
 | none=>exact .inl m
 | some p=>
  obtain ⟨j,v⟩:=p;obtain ⟨e,d,b,f⟩:=t j v rfl;obtain ⟨x,z,g,a,i,l,o,q,s,_⟩:=h.ent e d;rw [b] at i;have:k=x:=by simp at i;omega
  subst this;rw [u] at l;cases l;rw [o] at f;subst f;exact .inr ⟨j,g,a,m,q,s⟩
def Gv.add (h:Gv c A w bk es clock) (k:Nat) (y:BK) (l:c.funcs[k]?=ς y) (g:Nat) (hs:List Int) (j:w.heap[g]?=ς (χ (Ad hs) 3 (0,0))) (i:DB c y hs) (b:A<=g) (d:g≠bk) :
  Gv c A (Ew w bk (.map (es.push ⟨ι k,σ (ς (π g 0)) y.code y.code.length,clock⟩) (clock+1))) bk (es.push ⟨ι k,σ (ς (π g 0)) y.code y.code.length,clock⟩) (clock+1):=by
 have f:=(La h.map)
 refine ⟨On f,λe a=>?_⟩;rw [Array.toList_push,List.mem_append,List.mem_singleton] at a;rcases a with a|a
 .obtain ⟨k',y',g',aB,h1,h2,h3,h4,h5,h6,h7⟩:=h.ent e a
  exact ⟨k',y',g',aB,h1,h2,h3,by rw [GY h7];exact h4,h5,h6,h7⟩
 .subst a
  exact ⟨k,y,g,hs,rfl,l,rfl,by rw [GY d];exact j,i,b,d⟩
noncomputable def pB (P:Prop):Bool:=@decide P (Classical.propDecidable P)
def CP (h:P):pB P=ϑ:=by unfold pB;exact @decide_eq_true _ (Classical.propDecidable _) h
def Bw (h:¬P):pB P=ϝ:=by unfold pB;exact @decide_eq_false _ (Classical.propDecidable _) h
def BU (c:AQ) (fr:List AY) (r:Rq) (k:Nat) (f:AY):Prop:=
 DL c f (λx=>if k+1=fr.length then AP x r=ϑ else x.op=9/\∃ g,fr[k+1]?=ς g/\x.a=g.fn)
def I6 (h:AP x r=ϑ):x.op=4\/x.op=5\/x.op=6\/x.op=7\/x.op=8:=by
 unfold AP Aa at h;by_cases a:x.op=4\/x.op=6
 .omega
 rw [if_neg a] at h;by_cases b:x.op=5\/x.op=7
 .omega
 rw [if_neg b] at h;by_cases c:x.op=8
 .omega
 rw [if_neg c] at h;simp at h
def Oy (h:x.op=4\/x.op=5\/x.op=6\/x.op=7\/x.op=8\/x.op=9):C7 c x=AM c y x:=by
 unfold C7 AM Bk BB;rcases h with h|h|h|h|h|h<;>simp [h]
 cases Dt c x.a<;>rfl
def IE (h:if k+1=fr.length then AP x r=ϑ else x.op=9/\∃ g,fr[k+1]?=ς g/\x.a=g.fn):x.op=4\/x.op=5\/x.op=6\/x.op=7\/x.op=8\/x.op=9:=by
 split at h
 .have:=I6 h;omega
 .omega
structure Gs (c:AQ) (f:AY) (y:BK) (x:Cd) (v:Int):Prop where
 base:Gr c f y
 pc1:1<=f.pc
 at_:y.code[(f.pc - 1).toNat]?=ς x
 hv:(v = -1/\∀ n,¬Reach c y (f.pc - 1).toNat n)\/(0<=v/\Reach c y (f.pc - 1).toNat v)
def Gs.neg (h:Gs c f y x v) (n:v<0):¬BU c fr r k f:=by
 rintro ⟨e,p,l,a,i,o,j,d,m⟩;have:e=y:=by have:=a.fn;rw [h.base.fn] at this;cases this;rfl
 subst this;rcases h.hv with ⟨_,b⟩|⟨g,_⟩
 .exact b _ d
 .omega
def Gs.ht (hs:AU c) (h:Gs c f y x v) (l:BU c fr r k f):(f.S:Int)=v - C7 c x/\(if k+1=fr.length then AP x r=ϑ else x.op=9/\∃ g,fr[k+1]?=ς g/\x.a=g.fn):=by
 obtain ⟨e,p,t,b,s,o,a,d,m⟩:=l;have:e=y:=by have:=b.fn;rw [h.base.fn] at this;cases this;rfl
 subst this;have j:p=x:=by have:=h.at_;rw [o] at this;cases this;rfl
 subst j;rcases h.hv with ⟨_,n⟩|⟨q,i⟩
 .exact absurd d (n _)
 .have:=(hs.snd b.fn).2 _ _ _ d i
  subst this;exact ⟨by rw [Oy (y:=e) (IE a)];exact m,a⟩
def Gs.yes (h:Gs c f y x v) (i:¬v<0) (hl:(f.S:Int)=v - C7 c x) (a:if k+1=fr.length then AP x r=ϑ else x.op=9/\∃ g,fr[k+1]?=ς g/\x.a=g.fn):BU c fr r k f:=by
 rcases h.hv with ⟨d,e⟩|⟨d,b⟩
 .omega
 .exact ⟨y,x,v,h.base,h.pc1,h.at_,a,b,by rw [<-Oy (y:=y) (IE a)];exact hl⟩
def TE (c:AQ) (fs:List AY) (i j f g d fuel a b:Int) (n p y:Option Addr) (o q z:Nat) (B:Nat) (w:Ϣ) (s:C8 w) (O:B<=w) (t:BF B w (.agg (Bc n o p q c)) c) (u:¬(AU c/\¬fuel<0/\¬1048576<fuel/\¬a<0/\¬1099511627776<a/\¬b<0/\¬100000<b/\¬200<(fs:Int))) :
  ϙ prog 110 #[.agg (Bc n o p q c),.agg #[σ y fs z,ι i,ι j,ι f,ι g,ι d,ι fuel,ι a,ι b]] w λe w'=>e=.returned (.bool ϝ)/\ϐ w w w':=by
 have C:=Lh u;clear u;obtain ⟨W,k⟩:=ε ((w.alloc (χ (Bc n o p q c) 25)).alloc (χ #[σ y fs z,ι i,ι j,ι f,ι g,ι d,ι fuel,ι a,ι b] 59));obtain ⟨m,F,G,H⟩:=Λ4 (bl2 k) (sz2 k) (ce21 k) (ce22 k);have E:=Lh (t.below (m.o.mono O));have A:=Lh s;have D:B<=W:=by have:=F.o;omega
 clear t s;obtain ⟨v,P,Q⟩:=Γ3 G.o;obtain ⟨R,S,T,U,V,X,x,Y,Z⟩:=Γ9 H.o;go_enter func110,ntmps110;go_upto_region 1 with fail;rw [<-k];clear k;go_wp2_with fail;refine (Hc c _ B W (A.o.below m.o) D E.o).mono ?_;rintro e w1 ⟨rfl,l⟩;have v:=Δ9 l v P Q R S T U V X;have x:=Δ3 l x Y Z;have h:=Lh (m.o.th l);clear l;by_cases r:AU c;rotate_left
 .rw [FA r]
  go_wp2;go_ret;exact ⟨rfl,h.o⟩
 rw [CZ r];by_cases h0:fuel<0
 .have I:=η (fuel<0)
  go_wp2;go_ret;exact ⟨rfl,h.o⟩
 have I:=θ (fuel<0);by_cases h1:1048576<fuel
 .have J:=η (1048576<fuel)
  go_wp2;go_ret;exact ⟨rfl,h.o⟩
 have J:=θ (1048576<fuel);by_cases h2:a<0
 .have K:=η (a<0)
  go_wp2;go_ret;exact ⟨rfl,h.o⟩
 have K:=θ (a<0);by_cases h3:1099511627776<a
 .have L:=η (1099511627776<a)
  go_wp2;go_ret;exact ⟨rfl,h.o⟩
 have L:=θ (1099511627776<a);by_cases h4:b<0
 .have M:=η (b<0)
  go_wp2;go_ret;exact ⟨rfl,h.o⟩
 have M:=θ (b<0);by_cases h5:100000<b
 .have N:=η (100000<b)
  go_wp2;go_ret;exact ⟨rfl,h.o⟩
 have N:=θ (100000<b);by_cases h6:200<(fs:Int)
 .have d6:=η (200<(fs:Int))
  go_wp2;go_ret;exact ⟨rfl,h.o⟩
 exact (C.o ⟨r,ω,ω,ω,ω,ω,ω,ω⟩).elim
def FN (e:Int):Bool:=[17,18,19,20,5,21,6].any (λa=>e == a)
def DT (r:Rq):Bool:=if r.K=4 then Af r.V && (r.O == 0 && r.D == 0 && r.X == 0) else if r.K=5 then FN r.X && (r.O == 0 && r.D == 0 && r.V == 0) else ϝ
def GH (W:Ϣ) (T:TypeId) (b:Nat) (c:b=(W:Nat)):∀ (j:Nat) (u:Int),([17,18,19,20,5,21,6]:List Int)[j]?=ς u->(W.alloc (χ #[ι 17,ι 18,ι 19,ι 20,ι 5,ι 21,ι 6] T)).cell? (π b j)=ς (ι u):=λj u a=>by
 subst c;rw [B6];have h:j<7:=(Ll a)
 have d:j=0\/j=1\/j=2\/j=3\/j=4\/j=5\/j=6:=ω;rcases d with rfl|rfl|rfl|rfl|rfl|rfl|rfl<;>simp at a<;>subst a<;>rfl
def Qp (c:AQ) (k h f d b fuel g m:Int) (C E K:Option Addr) (D F L:Nat) (B:Nat) (w:Ϣ) (G:C8 w) (S:B<=w) (H:BF B w (.agg (Bc C D E F c)) c) (hs:AU c) (h0:¬fuel<0) (h1:¬1048576<fuel) (h2:¬g<0) (h3:¬1099511627776<g) (h4:¬m<0) (h5:¬100000<m) :
  ϙ prog 110 #[.agg (Bc C D E F c),.agg #[σ K 0 L,ι k,ι h,ι f,ι d,ι b,ι fuel,ι g,ι m]] w λe w'=>e=.returned (.bool (DT ⟨k,h,f,d,b⟩))/\ϐ w w w':=by
 have d0:=θ (fuel<0);have d1:=θ (1048576<fuel);have d2:=θ (g<0);have d3:=θ (1099511627776<g);have d4:=θ (m<0);have d5:=θ (100000<m);obtain ⟨W,r⟩:=ε ((w.alloc (χ (Bc C D E F c) 25)).alloc (χ #[σ K 0 L,ι k,ι h,ι f,ι d,ι b,ι fuel,ι g,ι m] 59));obtain ⟨y,P,Q,R⟩:=Λ4 (bl2 r) (sz2 r) (ce21 r) (ce22 r);have O:=Lh (H.below (y.o.mono S));have M:=Lh G;have N:B<=W:=by have:=P.o;omega
 clear H G;obtain ⟨I,T,U⟩:=Γ3 Q.o;obtain ⟨V,X,Y,Z,m4,m5,J,m7,m8⟩:=Γ9 R.o;go_enter func110,ntmps110;go_upto_region 1 with fail;rw [<-r];have HW:=Lh r;clear r;go_wp2_with fail;refine (Hc c _ B W (M.o.below y.o) N O.o).mono ?_;rintro e w1 ⟨rfl,x⟩;rw [CZ hs];have I:=Δ9 x I T U V X Y Z m4 m5;have J:=Δ3 x J m7 m8;have o:=Lh (y.o.th x);clear x;by_cases z:k=4
 .subst z
  cases i:Af d with
  | false=>have l:=@Lh (DT ⟨4,h,f,d,b⟩=ϝ) (by unfold DT;simp [i]);have n:=Lh i;clear i;go_wp2_with (go_at_call 141;refine (Bh _ _).mono ?_;rintro e q ⟨rfl,rfl⟩;rw [n.o]);go_ret;exact ⟨by rw [l.o];rfl,o.o.th (AA _ _)⟩
  | true=>
   by_cases v:h=0;rotate_left
   .have l:=@Lh (DT ⟨4,h,f,d,b⟩=ϝ) (by unfold DT;simp [i,v])
    have n:=Lh i;clear i;go_wp2_with (go_at_call 141;refine (Bh _ _).mono ?_;rintro e q ⟨rfl,rfl⟩;rw [n.o]);go_ret;exact ⟨by rw [l.o];rfl,o.o.th (AA _ _)⟩
   subst v;by_cases s:f=0;rotate_left
   .have l:=@Lh (DT ⟨4,0,f,d,b⟩=ϝ) (by unfold DT;simp [i,s])
    have n:=Lh i;clear i;go_wp2_with (go_at_call 141;refine (Bh _ _).mono ?_;rintro e q ⟨rfl,rfl⟩;rw [n.o]);go_ret;exact ⟨by rw [l.o];rfl,o.o.th (AA _ _)⟩
   subst s;by_cases t:b=0
   .subst t
    have l:=@Lh (DT ⟨4,0,0,d,0⟩=ϑ) (by unfold DT;simp [i]);have n:=Lh i;clear i;go_wp2_with (go_at_call 141;refine (Bh _ _).mono ?_;rintro e q ⟨rfl,rfl⟩;rw [n.o]);go_ret;exact ⟨by rw [l.o];rfl,o.o.th (AA _ _)⟩
   .have l:=@Lh (DT ⟨4,0,0,d,b⟩=ϝ) (by unfold DT;simp [i,t])
    have n:=Lh i;clear i;go_wp2_with (go_at_call 141;refine (Bh _ _).mono ?_;rintro e q ⟨rfl,rfl⟩;rw [n.o]);go_ret;exact ⟨by rw [l.o];rfl,o.o.th (AA _ _)⟩
 by_cases A:k=5
 .subst A
  cases i:FN b with
  | false=>have l:=@Lh (DT ⟨5,h,f,d,b⟩=ϝ) (by unfold DT;simp [i]);have n:=Lh i;clear i;go_wp2_with (go_at_call 142;refine (DN b [17,18,19,20,5,21,6] _ 7 _ δ (λj u p=>?_)).mono ?_;(exact GH _ _ _ ψ j u p);rintro e q ⟨rfl,rfl⟩;rw [show [17,18,19,20,5,21,6].any (λa=>b == a)=FN b from rfl,n.o]);go_ret;exact ⟨by rw [l.o];rfl,o.o.th ((AA _ _).th (AA _ _))⟩
  | true=>
   by_cases v:h=0;rotate_left
   .have l:=@Lh (DT ⟨5,h,f,d,b⟩=ϝ) (by unfold DT;simp [i,v])
    have n:=Lh i;clear i;go_wp2_with (go_at_call 142;refine (DN b [17,18,19,20,5,21,6] _ 7 _ δ (λj u p=>?_)).mono ?_;(exact GH _ _ _ ψ j u p);rintro e q ⟨rfl,rfl⟩;rw [show [17,18,19,20,5,21,6].any (λa=>b == a)=FN b from rfl,n.o]);go_ret;exact ⟨by rw [l.o];rfl,o.o.th ((AA _ _).th (AA _ _))⟩
   subst v;by_cases s:f=0;rotate_left
   .have l:=@Lh (DT ⟨5,0,f,d,b⟩=ϝ) (by unfold DT;simp [i,s])
    have n:=Lh i;clear i;go_wp2_with (go_at_call 142;refine (DN b [17,18,19,20,5,21,6] _ 7 _ δ (λj u p=>?_)).mono ?_;(exact GH _ _ _ ψ j u p);rintro e q ⟨rfl,rfl⟩;rw [show [17,18,19,20,5,21,6].any (λa=>b == a)=FN b from rfl,n.o]);go_ret;exact ⟨by rw [l.o];rfl,o.o.th ((AA _ _).th (AA _ _))⟩
   subst s;by_cases t:d=0
   .subst t
    have l:=@Lh (DT ⟨5,0,0,0,b⟩=ϑ) (by unfold DT;simp [i]);have n:=Lh i;clear i;go_wp2_with (go_at_call 142;refine (DN b [17,18,19,20,5,21,6] _ 7 _ δ (λj u p=>?_)).mono ?_;(exact GH _ _ _ ψ j u p);rintro e q ⟨rfl,rfl⟩;rw [show [17,18,19,20,5,21,6].any (λa=>b == a)=FN b from rfl,n.o]);go_ret;exact ⟨by rw [l.o];rfl,o.o.th ((AA _ _).th (AA _ _))⟩
   .have l:=@Lh (DT ⟨5,0,0,d,b⟩=ϝ) (by unfold DT;simp [i,t])
    have n:=Lh i;clear i;go_wp2_with (go_at_call 142;refine (DN b [17,18,19,20,5,21,6] _ 7 _ δ (λj u p=>?_)).mono ?_;(exact GH _ _ _ ψ j u p);rintro e q ⟨rfl,rfl⟩;rw [show [17,18,19,20,5,21,6].any (λa=>b == a)=FN b from rfl,n.o]);go_ret;exact ⟨by rw [l.o];rfl,o.o.th ((AA _ _).th (AA _ _))⟩
 have l:=@Lh (DT ⟨k,h,f,d,b⟩=ϝ) (by unfold DT;simp [z,A]);have e4:(k == 4)=ϝ:=by simp [z]
 have e5:(k == 5)=ϝ:=by simp [A]
 go_wp2;go_ret;exact ⟨by rw [l.o];rfl,o.o.th (AA _ _)⟩
def NU (W:Ϣ):(Instr.makeMap 192 none).run prog W=.ok (.map (ς (W:Nat))) (W.alloc (.map #[] 0)):=by simp [Instr.makeMap]
def RI (h:l.any (λn=>!Af n)=ϝ):∀ n∈l,BP n:=λn a=>by
 rw [List.any_eq_false] at h;have:=h n a;simp at this;exact Aq.1 this
def RJ (h:l.any (λn=>!Af n)=ϑ):¬∀ n∈l,BP n:=λa=>by
 rw [List.any_eq_true] at h;obtain ⟨n,b,h⟩:=h;have:=Aq.2 (a n b);rw [this] at h;cases h
def Qq (c:AQ) (fs:List AY) (t A o q m fuel r fZ:Int) (fa ga ma:Option Addr) (fc gc mc:Nat) (B:Nat) (w:Ϣ) (hL:C8 w) (hB:B<=w) (hc:BF B w (.agg (Bc fa fc ga gc c)) c) (hm:AE B w 4 (CK B) (σ ma fs mc) fs) (hs:AU c) (gB:Bv c) (h0:¬fuel<0) (h1:¬1048576<fuel) (h2:¬r<0) (h3:¬1099511627776<r) (h4:¬fZ<0) (h5:¬100000<fZ) (h6:¬200<(fs:Int)) (gA:0<fs.length) :
  ϙ prog 110 #[.agg (Bc fa fc ga gc c),.agg #[σ ma fs mc,ι t,ι A,ι o,ι q,ι m,ι fuel,ι r,ι fZ]] w λe w'=>e=.returned (.bool (pB (∀ k f,fs[k]?=ς f->BU c fs ⟨t,A,o,q,m⟩ k f)))/\ϐ w w w':=by
 have d0:=θ (fuel<0);have d1:=θ (1048576<fuel);have d2:=θ (r<0);have d3:=θ (1099511627776<r);have d4:=θ (fZ<0);have d5:=θ (100000<fZ);have fY:=ξ (fs:Int) 0;have fQ:=θ ((200:Int)<(fs:Int));have HM:=Lh hm;have fV:=NU;clear hm;obtain ⟨W,hW⟩:=ε ((w.alloc (χ (Bc fa fc ga gc c) 25)).alloc (χ #[σ ma fs mc,ι t,ι A,ι o,ι q,ι m,ι fuel,ι r,ι fZ] 59));obtain ⟨dM,eL,b0,b1,HC⟩:=Λ5 (bl2 hW) (sz2 hW) (ce21 hW) (ce22 hW) hc;have fD:=Lh (hc.below (dM.o.mono hB));have HL:=Lh hL;have fB:B<=W:=by have:=eL.o;omega
 clear hc hL;obtain ⟨G,H,I⟩:=Γ3 b0.o;obtain ⟨C,N,O,P,Q,R,S,T,U⟩:=Γ9 b1.o;have z1:(w:Nat)+1<W:=by have:=eL.o;omega
 go_enter func110,ntmps110;go_upto_region 1 with fail;rw [<-hW];have HW:=Lh hW;clear hW;go_wp2_with fail;refine (Hc c _ B W (HL.o.below dM.o) fB fD.o).mono ?_;rintro e w1 ⟨rfl,aR⟩;rw [CZ hs];obtain ⟨G,H,I,C,N,O,P,Q,R⟩:=Δ9 aR G H I C N O P Q R;obtain ⟨S,T,U⟩:=Δ3 aR S T U;have z1:=Bl C;have eP:=Lh (dM.o.th aR);clear aR;have dR:=@Lh (∀ k f,fs[k]?=ς f->¬BU c fs ⟨t,A,o,q,m⟩ k f->pB (∀ k f,fs[k]?=ς f->BU c fs ⟨t,A,o,q,m⟩ k f)=ϝ) (λk f L hn=>Bw (λh=>hn (h k f L)));obtain ⟨mb,mo,rfl,bP,eF⟩:∃ mb mo,ma=ς (π mb mo)/\mb<B/\∀ (i:Nat) f,fs[i]?=ς f->CK B w mb (mo+i*4) f:=by
  obtain ⟨a0,aN,bN,fH,fI,fJ,hE⟩:=HM.o;obtain ⟨rfl,rfl⟩:ma=a0/\mc=aN:=by simpa using bN
  rcases hE with h0|⟨mb,mo,rfl,M,hE⟩
  .rw [h0] at gA;simp at gA
  .exact ⟨mb,mo,rfl,M,hE⟩
 have dC:=Lh eF;obtain ⟨bk,bZ⟩:=ε (w1:Nat);obtain ⟨W1,cM⟩:=ε (w1.alloc (.map #[] 0));have fA:Hid (Gv c bk W1 bk #[] 0):=Lh ⟨by rw [cM,bZ];exact Hn _ _,ψ⟩;have dN:=@Lh (ϐ bk w1 W1) (by rw [cM,bZ];exact AA _ _);have fP:(w:Nat)+1<bk:=by rw [bZ];exact z1
 clear eF;go_wp2_with fail;rw [<-cM,<- bZ];clear cM bZ;go_loopg [91] (fs.length+1) (λgk i wr=>∃ k:Nat,k<=fs.length/\i=ι k/\fs.length - k<gk/\Hid (ϐ bk w1 wr)/\Hid (∃ es aH,Gv c bk wr bk es aH)/\Hid (∀ j f,j<k->fs[j]?=ς f->BU c fs ⟨t,A,o,q,m⟩ j f))
 case atStart=>exact ⟨0,Nat.zero_le _,rfl,ω,dN,Lh ⟨_,_,fA.o⟩,Lh (λj f hj=>by omega)⟩
 case round=>
  obtain ⟨k,hk,rfl,dS,aS,eI,aY⟩:=hrel;have cK:=Lh (eP.o.trans (aS.o.mono ω));have G:=(aS.o.cell (p:=(π w 0)) (show (w:Nat)<bk by omega)).trans G;have H:=(aS.o.cell (p:=(π w 1)) (show (w:Nat)<bk by omega)).trans H;have I:=(aS.o.cell (p:=(π w 2)) (show (w:Nat)<bk by omega)).trans I;have C:=(aS.o.cell (p:=(π (w+1) 0)) (show (w:Nat)+1<bk by omega)).trans C;have N:=(aS.o.cell (p:=(π (w+1) 1)) (show (w:Nat)+1<bk by omega)).trans N;have O:=(aS.o.cell (p:=(π (w+1) 2)) (show (w:Nat)+1<bk by omega)).trans O;have P:=(aS.o.cell (p:=(π (w+1) 3)) (show (w:Nat)+1<bk by omega)).trans P;have Q:=(aS.o.cell (p:=(π (w+1) 4)) (show (w:Nat)+1<bk by omega)).trans Q;have R:=(aS.o.cell (p:=(π (w+1) 5)) (show (w:Nat)+1<bk by omega)).trans R;have S:=(aS.o.cell (p:=(π (w+1) 6)) (show (w:Nat)+1<bk by omega)).trans S;have T:=(aS.o.cell (p:=(π (w+1) 7)) (show (w:Nat)+1<bk by omega)).trans T;have U:=(aS.o.cell (p:=(π (w+1) 8)) (show (w:Nat)+1<bk by omega)).trans U;have z1:=Bl C;obtain ⟨es,aH,dL⟩:=eI.o;have eU:=Lh dL;have cC:=(La dL.map)
  clear eI dL;by_cases fK:k<fs.length
  .obtain ⟨f,L⟩:∃ f,fs[k]?=ς f:=⟨_,Lg fK⟩
   have HF:=Lh L;have aJ:=Lh (dR.o k f L);obtain ⟨q0,q1,⟨lv,q2,dZ⟩,⟨sv,q3,eA⟩,eO,eN⟩:=(dC.o k f L).below (cK.o.mono hB) bP;have eV:=Lh dZ;have eX:=Lh eA;obtain ⟨la,lc,rfl⟩:=dZ.form;obtain ⟨sa,sc,rfl⟩:=eA.form;have fT:=In k;have fU:(k:Int)<(fs:Int):=ω;obtain ⟨W2,cN⟩:=ε (wr.alloc (χ #[ι f.fn,ι f.pc,σ la f.L lc,σ sa f.S sc] 150));have aK:=bl1 cN;have cJ:=Lh aK;have cP:=Lh (ce11 cN);clear L dZ eA;unfold in64 at eO eN;go_upto_region 16 with fail;rw [<-cN];obtain ⟨G,H,I,C,N,O,P,Q,R⟩:=Δ9 aK G H I C N O P Q R;obtain ⟨S,T,U⟩:=Δ3 aK S T U;obtain ⟨F,n1,n2,X⟩:=Γ4 cP.o;have z1:=Bl C;have zn:=Bl F;have aW:=Lh (cK.o.th aK);have eR:=Lh (eU.o.kp aK);clear cN aK q0 q1 q2 q3;by_cases c1:f.fn<0
   .have d:decide (f.fn<0)=ϑ:=by simp [c1]
    have s:=Lh (aJ.o (λ⟨_,_,_,M,_⟩=>by have:=M.fn0;omega));go_wp2;go_ret;exact ⟨by rw [s.o];rfl,aW.o⟩
   obtain ⟨n,hn⟩:∃ n:Nat,f.fn=n:=⟨f.fn.toNat,ω⟩
   have HN:=Lh hn;rw [hn] at F;have dn:=θ ((n:Int)<0);clear hn c1;by_cases c2:c.funcs.length<=n
   .have d:decide (c.funcs.length<=n)=ϑ:=by simp [c2]
    have s:=Lh (aJ.o (λ⟨y,_,_,M,_⟩=>by
     have h1:=M.fn;rw [HN.o,Int.toNat_natCast,List.getElem?_eq_none c2] at h1;cases h1))
    go_wp2;go_ret;exact ⟨by rw [s.o];rfl,aW.o⟩
   have d2:=θ (c.funcs.length<=n);obtain ⟨y,hy⟩:∃ y,c.funcs[n]?=ς y:=⟨_,Lg ω⟩
   have HY:=Lh hy;obtain ⟨yb,yo,fG,bR,eE⟩:∃ yb yo,ga=ς (π yb yo)/\yb<B/\CW B w yb (yo+n*5) y:=by
    obtain ⟨gC,fR,eG,_,hg,_⟩:=HC.o;simp only [Value.agg.injEq,Array.mk.injEq,List.cons.injEq,and_true] at eG;obtain ⟨_,_,rfl⟩:=eG;obtain ⟨a0,aN,bN,fH,fI,fJ,hE⟩:=hg;obtain ⟨rfl,rfl⟩:ga=a0/\gc=aN:=by simpa using bN
    rcases hE with h0|⟨yb,yo,rfl,bR,hE⟩
    .rw [h0] at hy;simp at hy
    .exact ⟨yb,yo,rfl,bR,hE n y hy⟩
   subst fG;have eD:=Nt hB aW.o.size;obtain ⟨g1,g2,g3,g4,⟨xv,g5,g6⟩,g7,g8,g9⟩:=eE.below (aW.o.mono hB) bR;obtain ⟨ca,cc,rfl⟩:=g6.form;have eB:=Lh g6;have fE:=gB y (Lm hy);have fF:=hs.fok hy;unfold CX at fF;have zy:=Bl g1;have fW:=In n;have fX:(n:Int)<(c.funcs:Int):=ω;obtain ⟨W3,bX⟩:=ε (W2.alloc (χ #[.string y.name,ι y.params,ι y.L,.bool y.result,σ ca y.code cc] 70));have aI:=bl1 bX;have cE:=Lh (ce11 bX);clear hy g6 g7 g8 g9 eE;go_upto_region 19 with fail;rw [<-bX];have dF:=Lh bX;obtain ⟨G,H,I,C,N,O,P,Q,R⟩:=Δ9 aI G H I C N O P Q R;obtain ⟨S,T,U,F,n1⟩:=Δ5 aI S T U F n1;have n2:=AB aI n2;have X:=AB aI X;obtain ⟨K,y1,y2,y3,y4⟩:=Γ5 cE.o;have z1:=Bl C;have zn:=Bl F;have zy:=Bl K;have aX:=Lh (aW.o.th aI);have eS:=Lh (eR.o.kp aI);obtain ⟨ib,cQ⟩:=ε (wr:Nat);obtain ⟨yc,cT⟩:=ε (W2:Nat);rw [<-cQ] at F n1 n2 X zn;rw [<-cT] at K y1 y2 y3 y4 zy;rw [<-cQ,<- cT];have eQ:=Lh cQ;have eY:=Lh cT;clear bX aI cQ cT g1 g2 g3 g4 g5;by_cases c3:f.pc<1
   .have d:decide (f.pc<1)=ϑ:=by simp [c3]
    have s:=Lh (aJ.o (λ⟨_,_,_,_,h1,_⟩=>by omega));go_wp2;go_ret;exact ⟨by rw [s.o];rfl,aX.o⟩
   obtain ⟨p,hp⟩:∃ p:Nat,f.pc=(p:Int)+1:=⟨(f.pc - 1).toNat,ω⟩
   have HP:=Lh hp;rw [hp] at n1;have dp:=θ ((p:Int)+1<1);have fN:(p:Int)+1<=9223372036854775807:=ω;clear hp c3;by_cases c4:(y.code:Int)<(p:Int)+1
   .have d:=η ((y.code:Int)<(p:Int)+1)
    have s:=Lh (aJ.o (λ⟨y',x',_,M,_,hx,_⟩=>by
     have h1:=M.fn;rw [HN.o,Int.toNat_natCast,HY.o] at h1;cases h1;rw [HP.o,show ((p:Int)+1 - 1).toNat=p by omega,List.getElem?_eq_none ω] at hx;cases hx))
    go_wp2;go_ret;exact ⟨by rw [s.o];rfl,aX.o⟩
   have d4:=θ ((y.code:Int)<(p:Int)+1);by_cases c5:(f.L:Int)=y.L;rotate_left
   .have d:((f.L:Int) == y.L)=ϝ:=by simp [c5]
    have d':((f.L:Int) != y.L)=ϑ:=by simp [c5]
    have s:=Lh (aJ.o (λ⟨y',x',_,M,_⟩=>by
     have h1:=M.fn;rw [HN.o,Int.toNat_natCast,HY.o] at h1;cases h1;exact c5 M.loc))
    go_wp2;go_ret;exact ⟨by rw [s.o];rfl,aX.o⟩
   have cZ:=Lh c5;rw [<-c5] at y2;clear c5;have dH:=Nt hB aX.o.size;have cD:=Lh (by
    have h1:=cJ.o.mono (Nt hB cK.o.size);have h2:ϐ W2 W2 W3:=by rw [dF.o];exact AA _ _
    exact h1.trans (h2.mono eD))
   have dA:=Lh (eV.o.ints cD.o);go_wp2_with fail;refine (BT 143 #[] (λn=>!Af n) f.L _ B W3 IC dH dA.o (Mi _)).mono ?_;rintro e W4 ⟨rfl,aE⟩;obtain ⟨G,H,I,C,N,O,P,Q,R⟩:=Δ9 aE G H I C N O P Q R;obtain ⟨S,T,U,F,n1,n2,X,K,y1⟩:=Δ9 aE S T U F n1 n2 X K y1;obtain ⟨y2,y3,y4⟩:=Δ3 aE y2 y3 y4;have z1:=Bl C;have zn:=Bl F;have zy:=Bl K;have bC:=Lh (aX.o.th aE);have eT:=Lh (eS.o.kp aE);have dD:=Lh ((eX.o.ints cD.o).ints (aE.mono dH));have cU:=Lh aE;clear aE;cases cR:f.L.any (λn=>!Af n) with
   | true=>have s:=Lh (aJ.o (λ⟨_,_,_,M,_⟩=>RJ cR M.lv));clear cR;go_wp2;go_ret;exact ⟨by rw [s.o];rfl,bC.o⟩
   | false=>
   have dB:=Lh (RI cR);clear cR;go_wp2_with fail;refine (BT 143 #[] (λn=>!Af n) f.S _ B W4 IC (Nt hB bC.o.size) dD.o (Mi _)).mono ?_;rintro e W5 ⟨rfl,aF⟩;obtain ⟨G,H,I,C,N,O,P,Q,R⟩:=Δ9 aF G H I C N O P Q R;obtain ⟨S,T,U,F,n1,n2,X,K,y1⟩:=Δ9 aF S T U F n1 n2 X K y1;obtain ⟨y2,y3,y4⟩:=Δ3 aF y2 y3 y4;have z1:=Bl C;have zn:=Bl F;have zy:=Bl K;have aL:=Lh (bC.o.th aF);have bI:=Lh (eT.o.kp aF);have bY:=Lh (by
    have h2:ϐ W2 W2 W3:=by rw [dF.o];exact AA _ _
    exact ((h2.mono eD).trans (cU.o.mono dH)).trans (aF.mono (Nt hB bC.o.size)))
   have cA:=Lh (by
    have h1:=aS.o.trans (cJ.o.mono (Nat.le_of_lt cC));have h2:ϐ W2 W2 W3:=by rw [dF.o];exact AA _ _
    have e2:=Nt (Nat.le_of_lt cC) cJ.o.size;have e3:=Nt e2 h2.size;have e4:=Nt e3 cU.o.size;exact ((h1.trans (h2.mono e2)).trans (cU.o.mono e3)).trans (aF.mono e4))
   clear aF;cases cS:f.S.any (λn=>!Af n) with
   | true=>have s:=Lh (aJ.o (λ⟨_,_,_,M,_⟩=>RJ cS M.sv));clear cS;go_wp2;go_ret;exact ⟨by rw [s.o];rfl,aL.o⟩
   | false=>
   have dE:=Lh (RI cS);clear cS;have cG:p<y.code.length:=ω;clear eN eO fN;obtain ⟨x,hx⟩:∃ x,y.code[p]?=ς x:=⟨_,Lg cG⟩
   have HX:=Lh hx;have bG:Hid (Gr c f y):=Lh ⟨by rw [HN.o];omega,by rw [HN.o,Int.toNat_natCast];exact HY.o,by rw [HP.o];omega,cZ.o,dB.o,dE.o⟩;have cF:=(hs.wf HY.o).op x (Lm hx);have h9:=@Lh (x.op=9->0<=x.a/\x.a<c.funcs.length) (λe=>hs.lim HY.o hx (by rw [e];rfl));have eK:=@Lh (0<=C7 c x/\C7 c x<=6) (by
    unfold C7;split
    .omega
    split
    .omega
    split
    .rename_i e _ e9
     have:=h9.o e9;cases hg:Dt c x.a with
     | none=>simp
     | some z=>have:=hs.fok (show c.funcs[x.a.toNat]?=ς z from hg);unfold CX at this;simp only [];omega
    .omega)
   clear hx;rcases bI.o.find n y HY.o with dW|⟨jf,g,cH,eH,bA,hA⟩
   .have eJ:(Instr.lookup 192 (.map (ς bk)) (ι (n:Int)) ϑ).run prog W5=.ok (.tuple #[ν,.bool ϝ]) W5:=RQ bI.o.map n none dW
    have eW:=Lh dW;have dI:=Nt hB aL.o.size;have cB:=(La bI.o.map)
    clear dW;go_wp2_with fail;refine (N1 c _ n y B W5 (HL.o.below aL.o) dI (HC.o.below (aL.o.mono hB)) hs HY.o).mono ?_;rintro e W6 ⟨g,cH,rfl,fS,aT,hA,aD⟩;have cY:=Lh (bI.o.kp aD);have eM:(Instr.mapUpdate 192 (.map (ς bk)) (ι (n:Int)) (σ (ς (π g 0)) y.code y.code.length)).run prog W6=.ok () (Ew W6 bk (.map (es.push ⟨ι n,σ (ς (π g 0)) y.code y.code.length,aH⟩) (aH+1))):=U8 cY.o.map n _ eW.o;obtain ⟨WY,cO⟩:=ε (Ew W6 bk (.map (es.push ⟨ι n,σ (ς (π g 0)) y.code y.code.length,aH⟩) (aH+1)));rw [<-cO] at eM;have dS:g≠bk:=ω;have eC:=@Lh (Gv c bk WY bk _ _) (by rw [cO];exact cY.o.add n y HY.o g cH aT hA ω dS);have bS:AW [bk] [bk] W6 WY:=by rw [cO];exact Om
    have bA:WY.heap[g]?=ς (χ (Ad cH) 3 (0,0)):=by rw [bS.block g (La aT) (by simp;exact dS)];exact aT
    have cW:=@Lh (ϐ w w WY) ((aL.o.th aD).trans (bS.below (λb M=>by simp at M;omega) (aL.o.th aD).size));have dO:=@Lh (ϐ bk w1 WY) ((cA.o.trans (aD.mono (Nat.le_of_lt cB))).trans (bS.below (λb M=>by simp at M;omega) (Nat.le_of_lt (La cY.o.map))));have fC:=@Lh (ϐ B W2 WY) ((bY.o.trans (aD.mono dI)).trans (bS.below (λb M=>by simp at M;omega) (Nt dI aD.size)));obtain ⟨G,H,I,C,N,O,P,Q,R⟩:=Δ9 aD G H I C N O P Q R;obtain ⟨S,T,U,F,n1,n2,X,K,y1⟩:=Δ9 aD S T U F n1 n2 X K y1;obtain ⟨y2,y3,y4⟩:=Δ3 aD y2 y3 y4;have z1:=Bl C;have zn:=Bl F;have zy:=Bl K;clear cO;go_upto_region 26 with fail;have Y:∀ {a:Addr} {u:ϒ},W6.cell? a=ς u->a.block≠bk->WY.cell? a=ς u:=λh1 h2=>bS.cell h1 (by simp;exact h2);have cL:ib≠bk:=by rw [eQ.o];omega
    have bW:yc≠bk:=by rw [eY.o];have:=cJ.o.size;omega
    have G:=Y G (show (w:Nat)≠bk by omega);have H:=Y H (show (w:Nat)≠bk by omega);have I:=Y I (show (w:Nat)≠bk by omega);have C:=Y C (show (w:Nat)+1≠bk by omega);have N:=Y N (show (w:Nat)+1≠bk by omega);have O:=Y O (show (w:Nat)+1≠bk by omega);have P:=Y P (show (w:Nat)+1≠bk by omega);have Q:=Y Q (show (w:Nat)+1≠bk by omega);have R:=Y R (show (w:Nat)+1≠bk by omega);have S:=Y S (show (w:Nat)+1≠bk by omega);have T:=Y T (show (w:Nat)+1≠bk by omega);have U:=Y U (show (w:Nat)+1≠bk by omega);have F:=Y F cL;have n1:=Y n1 cL;have n2:=Y n2 cL;have X:=Y X cL;have K:=Y K bW;have y1:=Y y1 bW;have y2:=Y y2 bW;have y3:=Y y3 bW;have y4:=Y y4 bW;have z1:=Bl C;have zn:=Bl F;have zy:=Bl K;clear Y eJ eM aD bS aT;obtain ⟨v,s⟩:∃ v,cH[p]?=ς v:=⟨_,Lg (by rw [hA.1];omega)⟩
    have hT:Hid (Gs c f y x v):=Lh ⟨bG.o,by rw [HP.o];omega,by rw [HP.o,show ((p:Int)+1 - 1).toNat=p by omega];exact HX.o,by rw [HP.o,show ((p:Int)+1 - 1).toNat=p by omega];exact hA.2 p v s⟩;have fO:-1<=v/\v<=100000:=by
     rcases hA.2 p v s with ⟨h,_⟩|⟨h,hr⟩
     .omega
     .have:=DJ (hs.wf HY.o) (hs.snd HY.o) hr;omega
    have r0:WY.cell? (π g p)=ς (ι v):=by rw [cell_of_row _ _ _ _ _ _ bA];exact DC s
    obtain ⟨cb,co,dP,dQ,dK⟩:∃ cb co,ca=ς (π cb co)/\cb<B/\JW WY cb (co+p*2) x:=by
     obtain ⟨a0,aN,bN,_,_,_,hE⟩:=eB.o.inss fC.o;obtain ⟨rfl,rfl⟩:ca=a0/\cc=aN:=by simpa using bN
     rcases hE with h0|⟨cb,co,rfl,M,hE⟩
     .rw [h0] at cG;simp at cG
     .exact ⟨cb,co,rfl,M,hE p x HX.o⟩
    subst dP;obtain ⟨Z,x1,dY,cI⟩:=dK;have zx:=Bl Z;have fL:=In p;have fM:(p:Int)<(y.code:Int):=ω;obtain ⟨E,D⟩:=x;dsimp only at Z x1 cF;obtain ⟨W7,bD⟩:=ε (WY.alloc (χ #[ι E,ι D] 96));have aB:=bl1 bD;have bM:=Lh (ce11 bD);clear hA s bA;go_upto_region 27 with fail;rw [<-bD];obtain ⟨G,H,I,C,N,O,P,Q,R⟩:=Δ9 aB G H I C N O P Q R;obtain ⟨S,T,U,F,n1,n2,X,K,y1⟩:=Δ9 aB S T U F n1 n2 X K y1;obtain ⟨y2,y3,y4,r0⟩:=Δ4 aB y2 y3 y4 r0;have z1:=Bl C;have zn:=Bl F;have zy:=Bl K;obtain ⟨Z,x1⟩:=Γ2 bM.o;have zx:=Bl Z;have bB:=Lh (cW.o.th aB);have bV:=Lh (eC.o.kp aB);have bL:=Lh (dO.o.trans (aB.mono (Nat.le_of_lt (La eC.o.map))));have dJ:B<=W7.drew.heap.size:=Nt hB bB.o.size;have cX:=@Lh (BF B W7.drew (.agg #[σ fa c.H fc,ι c.G,σ (ς (π yb yo)) c.funcs gc]) c) (HC.o.below ((AG bB.o 1).mono hB));obtain ⟨xb,bQ⟩:=ε (WY:Nat);rw [<-bQ] at Z x1 zx;rw [<-bQ];clear bD aB bQ bM;by_cases c8:v<0
    .have d:decide (v<0)=ϑ:=by simp [c8]
     have s:=Lh (aJ.o (hT.o.neg c8));go_quiet (fail);go_wp2;go_ret;exact ⟨by rw [s.o];rfl,AG bB.o _⟩
    have hw:IntKind.i64.wrap (v - C7 c ⟨E,D⟩)=v - C7 c ⟨E,D⟩:=by have:=eK.o;rw [IntKind.wrap_i64];omega
    go_region_held3 (λV=>V.cell? (π g p)=ς (ι v)/\V.cell? (π ib 3)=ς (σ sa f.S sc)/\V.cell? (π w 0)=ς (σ fa c.H fc)/\V.cell? (π w 1)=ς (ι c.G)/\V.cell? (π w 2)=ς (σ (ς (π yb yo)) c.funcs gc)/\V.cell? (π xb 0)=ς (ι E)/\V.cell? (π xb 1)=ς (ι D))
     (first|exact ⟨r0,X,G,H,I,Z,x1⟩|exact ⟨AB l r0,AB l X,AB l G,AB l H,AB l I,AB l Z,AB l x1⟩)
     (first|(go_at_call 145;refine (Oz c _ ⟨E,D⟩ B W7.drew dJ cX.o h9.o).mono ?_;rintro e W8 ⟨rfl,l⟩))
    have aV:=Lh ((AG bB.o 1).th l);have bJ:=Lh ((bV.o.kp (AG Br 1)).kp l);have aZ:=Lh ((bL.o.trans (AG Br 1)).trans (l.mono (Nat.le_of_lt (La bV.o.map))));have G:=keepD l G;have H:=keepD l H;have I:=keepD l I;have C:=keepD l C;have N:=keepD l N;have O:=keepD l O;have P:=keepD l P;have Q:=keepD l Q;have R:=keepD l R;have S:=keepD l S;have T:=keepD l T;have U:=keepD l U;have F:=keepD l F;have n1:=keepD l n1;have n2:=keepD l n2;have X:=keepD l X;have K:=keepD l K;have y1:=keepD l y1;have y2:=keepD l y2;have y3:=keepD l y3;have y4:=keepD l y4;have Z:=keepD l Z;have x1:=keepD l x1;have z1:=Bl C;have zn:=Bl F;have zy:=Bl K;have zx:=Bl Z;clear l hw;by_cases c9:(f.S:Int)=v - C7 c ⟨E,D⟩;rotate_left
    .have d:((f.S:Int) == v - C7 c ⟨E,D⟩)=ϝ:=by simp [c9]
     have d':((f.S:Int) != v - C7 c ⟨E,D⟩)=ϑ:=by simp [c9]
     have s:=Lh (aJ.o (λL=>c9 (hT.o.ht hs L).1));go_wp2;go_ret;exact ⟨by rw [s.o];rfl,aV.o⟩
    have bT:=Lh c9;have d9:((f.S:Int) == v - C7 c ⟨E,D⟩)=ϑ:=by simp [c9]
    have eZ:((f.S:Int) != v - C7 c ⟨E,D⟩)=ϝ:=by simp [c9]
    clear c9;by_cases cl:k+1=fs.length
    .have aU:=Lh cl
     have dl:=ζ (k:Int) ((fs:Int) - 1);clear cl;go_wp2_with fail;refine (MP ⟨E,D⟩ ⟨t,A,o,q,m⟩ W8).mono ?_;rintro e W9 ⟨rfl,bF⟩;have cV:=Lh (aV.o.th bF);have bK:=Lh (bJ.o.kp bF);have aO:=Lh (aZ.o.trans (bF.mono (Nat.le_of_lt (La bJ.o.map))));clear bF;cases bE:AP ⟨E,D⟩ ⟨t,A,o,q,m⟩ with
     | false=>
      have s:=Lh (aJ.o (λL=>by
       have:=(hT.o.ht hs L).2;rw [if_pos aU.o,bE] at this;cases this))
      clear bE;go_wp2;go_ret;exact ⟨by rw [s.o];rfl,cV.o⟩
     | true=>
      have aQ:=Lh (hT.o.yes ω bT.o (by rw [if_pos aU.o];exact bE));clear bE;go_wp2_with fail
      go_roundg (gk - 1)
      case measure=>omega
      case rel=>exact ⟨k+1,ω,by go_num,ω,aO,Lh ⟨_,_,bK.o⟩,Lh (λj f' hj aP=>by
       by_cases e:j=k
       .subst e;rw [HF.o] at aP;cases aP;exact aQ.o
       .exact aY.o j f' ω aP)⟩
    .have dl:=ξ (k:Int) ((fs:Int) - 1)
     obtain ⟨f2,bO⟩:∃ f2,fs[k+1]?=ς f2:=⟨_,Lg ω⟩
     have q0:=((dC.o (k+1) f2 bO).below (aV.o.mono hB) bP).1;have bU:=Lh bO;have aU:=Lh cl;have dT:(0:Int)<=(k:Int)+1:=ω;have dU:(k:Int)+1<(fs:Int):=ω;have dV:((k:Int)+1).toNat=k+1:=ω;have dX:IntKind.i64.wrap ((k:Int)+1)=(k:Int)+1:=by rw [IntKind.wrap_i64];omega
     clear bO cl;go_upto_region 32 with fail;by_cases J:E=9;rotate_left
     .have d:(E == 9)=ϝ:=by simp [J]
      have d':(E != 9)=ϑ:=by simp [J]
      have s:=Lh (aJ.o (λL=>by
       have:=(hT.o.ht hs L).2;rw [if_neg aU.o] at this;exact J this.1))
      go_quiet (fail);go_wp2;go_ret;exact ⟨by rw [s.o];rfl,AG aV.o _⟩
     have dG:(E != 9)=ϝ:=by simp [J]
     have bH:=Lh J;clear J;by_cases aM:D=f2.fn
     .have d:(D == f2.fn)=ϑ:=by simp [aM]
      have d':(D != f2.fn)=ϝ:=by simp [aM]
      have aQ:=@Lh (BU c fs ⟨t,A,o,q,m⟩ k f) (hT.o.yes ω bT.o (by rw [if_neg aU.o];exact ⟨bH.o,f2,bU.o,aM⟩));clear aM;go_quiet (fail);have bK:=Lh (bJ.o.kp (AG Br nq));have aO:=Lh (aZ.o.trans (AG Br nq));clear dV dX;go_wp2_with fail
      go_roundg (gk - 1)
      case measure=>omega
      case rel=>exact ⟨k+1,ω,by go_num,ω,aO,Lh ⟨_,_,bK.o⟩,Lh (λj f' hj aP=>by
       by_cases e:j=k
       .subst e;rw [HF.o] at aP;cases aP;exact aQ.o
       .exact aY.o j f' ω aP)⟩
     .have d:(D == f2.fn)=ϝ:=by simp [aM]
      have d':(D != f2.fn)=ϑ:=by simp [aM]
      have s:=Lh (aJ.o (λL=>by
       have:=(hT.o.ht hs L).2;rw [if_neg aU.o] at this;obtain ⟨_,f3,h3,h4⟩:=this;rw [bU.o] at h3;cases h3;exact aM h4))
      go_quiet (fail);go_wp2;go_ret;exact ⟨by rw [s.o];rfl,AG aV.o _⟩
   .have eJ:(Instr.lookup 192 (.map (ς bk)) (ι (n:Int)) ϑ).run prog W5=.ok (.tuple #[σ (ς (π g 0)) y.code y.code.length,.bool ϑ]) W5:=RQ bI.o.map n _ eH
    clear eH;obtain ⟨v,s⟩:∃ v,cH[p]?=ς v:=⟨_,Lg (by rw [hA.1];omega)⟩
    have hT:Hid (Gs c f y x v):=Lh ⟨bG.o,by rw [HP.o];omega,by rw [HP.o,show ((p:Int)+1 - 1).toNat=p by omega];exact HX.o,by rw [HP.o,show ((p:Int)+1 - 1).toNat=p by omega];exact hA.2 p v s⟩;have fO:-1<=v/\v<=100000:=by
     rcases hA.2 p v s with ⟨h,_⟩|⟨h,hr⟩
     .omega
     .have:=DJ (hs.wf HY.o) (hs.snd HY.o) hr;omega
    have r0:W5.cell? (π g p)=ς (ι v):=by rw [cell_of_row _ _ _ _ _ _ bA];exact DC s
    obtain ⟨cb,co,dP,dQ,dK⟩:∃ cb co,ca=ς (π cb co)/\cb<B/\JW W5 cb (co+p*2) x:=by
     obtain ⟨a0,aN,bN,_,_,_,hE⟩:=eB.o.inss bY.o;obtain ⟨rfl,rfl⟩:ca=a0/\cc=aN:=by simpa using bN
     rcases hE with h0|⟨cb,co,rfl,M,hE⟩
     .rw [h0] at cG;simp at cG
     .exact ⟨cb,co,rfl,M,hE p x HX.o⟩
    subst dP;obtain ⟨Z,x1,dY,cI⟩:=dK;have zx:=Bl Z;have fL:=In p;have fM:(p:Int)<(y.code:Int):=ω;obtain ⟨E,D⟩:=x;dsimp only at Z x1 cF;obtain ⟨W7,bD⟩:=ε (W5.alloc (χ #[ι E,ι D] 96));have aB:=bl1 bD;have bM:=Lh (ce11 bD);clear hA s bA;go_upto_region 27 with fail;rw [<-bD];obtain ⟨G,H,I,C,N,O,P,Q,R⟩:=Δ9 aB G H I C N O P Q R;obtain ⟨S,T,U,F,n1,n2,X,K,y1⟩:=Δ9 aB S T U F n1 n2 X K y1;obtain ⟨y2,y3,y4,r0⟩:=Δ4 aB y2 y3 y4 r0;have z1:=Bl C;have zn:=Bl F;have zy:=Bl K;obtain ⟨Z,x1⟩:=Γ2 bM.o;have zx:=Bl Z;have bB:=Lh (aL.o.th aB);have bV:=Lh (bI.o.kp aB);have bL:=Lh (cA.o.trans (aB.mono (Nat.le_of_lt (La bI.o.map))));have dJ:B<=W7.drew.heap.size:=Nt hB bB.o.size;have cX:=@Lh (BF B W7.drew (.agg #[σ fa c.H fc,ι c.G,σ (ς (π yb yo)) c.funcs gc]) c) (HC.o.below ((AG bB.o 1).mono hB));obtain ⟨xb,bQ⟩:=ε (W5:Nat);rw [<-bQ] at Z x1 zx;rw [<-bQ];clear bD aB bQ bM;by_cases c8:v<0
    .have d:decide (v<0)=ϑ:=by simp [c8]
     have s:=Lh (aJ.o (hT.o.neg c8));go_quiet (fail);go_wp2;go_ret;exact ⟨by rw [s.o];rfl,AG bB.o _⟩
    have hw:IntKind.i64.wrap (v - C7 c ⟨E,D⟩)=v - C7 c ⟨E,D⟩:=by have:=eK.o;rw [IntKind.wrap_i64];omega
    go_region_held3 (λV=>V.cell? (π g p)=ς (ι v)/\V.cell? (π ib 3)=ς (σ sa f.S sc)/\V.cell? (π w 0)=ς (σ fa c.H fc)/\V.cell? (π w 1)=ς (ι c.G)/\V.cell? (π w 2)=ς (σ (ς (π yb yo)) c.funcs gc)/\V.cell? (π xb 0)=ς (ι E)/\V.cell? (π xb 1)=ς (ι D))
     (first|exact ⟨r0,X,G,H,I,Z,x1⟩|exact ⟨AB l r0,AB l X,AB l G,AB l H,AB l I,AB l Z,AB l x1⟩)
     (first|(go_at_call 145;refine (Oz c _ ⟨E,D⟩ B W7.drew dJ cX.o h9.o).mono ?_;rintro e W8 ⟨rfl,l⟩))
    have aV:=Lh ((AG bB.o 1).th l);have bJ:=Lh ((bV.o.kp (AG Br 1)).kp l);have aZ:=Lh ((bL.o.trans (AG Br 1)).trans (l.mono (Nat.le_of_lt (La bV.o.map))));have G:=keepD l G;have H:=keepD l H;have I:=keepD l I;have C:=keepD l C;have N:=keepD l N;have O:=keepD l O;have P:=keepD l P;have Q:=keepD l Q;have R:=keepD l R;have S:=keepD l S;have T:=keepD l T;have U:=keepD l U;have F:=keepD l F;have n1:=keepD l n1;have n2:=keepD l n2;have X:=keepD l X;have K:=keepD l K;have y1:=keepD l y1;have y2:=keepD l y2;have y3:=keepD l y3;have y4:=keepD l y4;have Z:=keepD l Z;have x1:=keepD l x1;have z1:=Bl C;have zn:=Bl F;have zy:=Bl K;have zx:=Bl Z;clear l hw;by_cases c9:(f.S:Int)=v - C7 c ⟨E,D⟩;rotate_left
    .have d:((f.S:Int) == v - C7 c ⟨E,D⟩)=ϝ:=by simp [c9]
     have d':((f.S:Int) != v - C7 c ⟨E,D⟩)=ϑ:=by simp [c9]
     have s:=Lh (aJ.o (λL=>c9 (hT.o.ht hs L).1));go_wp2;go_ret;exact ⟨by rw [s.o];rfl,aV.o⟩
    have bT:=Lh c9;have d9:((f.S:Int) == v - C7 c ⟨E,D⟩)=ϑ:=by simp [c9]
    have eZ:((f.S:Int) != v - C7 c ⟨E,D⟩)=ϝ:=by simp [c9]
    clear c9;by_cases cl:k+1=fs.length
    .have aU:=Lh cl
     have dl:=ζ (k:Int) ((fs:Int) - 1);clear cl;go_wp2_with fail;refine (MP ⟨E,D⟩ ⟨t,A,o,q,m⟩ W8).mono ?_;rintro e W9 ⟨rfl,bF⟩;have cV:=Lh (aV.o.th bF);have bK:=Lh (bJ.o.kp bF);have aO:=Lh (aZ.o.trans (bF.mono (Nat.le_of_lt (La bJ.o.map))));clear bF;cases bE:AP ⟨E,D⟩ ⟨t,A,o,q,m⟩ with
     | false=>
      have s:=Lh (aJ.o (λL=>by
       have:=(hT.o.ht hs L).2;rw [if_pos aU.o,bE] at this;cases this))
      clear bE;go_wp2;go_ret;exact ⟨by rw [s.o];rfl,cV.o⟩
     | true=>
      have aQ:=Lh (hT.o.yes ω bT.o (by rw [if_pos aU.o];exact bE));clear bE;go_wp2_with fail
      go_roundg (gk - 1)
      case measure=>omega
      case rel=>exact ⟨k+1,ω,by go_num,ω,aO,Lh ⟨_,_,bK.o⟩,Lh (λj f' hj aP=>by
       by_cases e:j=k
       .subst e;rw [HF.o] at aP;cases aP;exact aQ.o
       .exact aY.o j f' ω aP)⟩
    .have dl:=ξ (k:Int) ((fs:Int) - 1)
     obtain ⟨f2,bO⟩:∃ f2,fs[k+1]?=ς f2:=⟨_,Lg ω⟩
     have q0:=((dC.o (k+1) f2 bO).below (aV.o.mono hB) bP).1;have bU:=Lh bO;have aU:=Lh cl;have dT:(0:Int)<=(k:Int)+1:=ω;have dU:(k:Int)+1<(fs:Int):=ω;have dV:((k:Int)+1).toNat=k+1:=ω;have dX:IntKind.i64.wrap ((k:Int)+1)=(k:Int)+1:=by rw [IntKind.wrap_i64];omega
     clear bO cl;go_upto_region 32 with fail;by_cases J:E=9;rotate_left
     .have d:(E == 9)=ϝ:=by simp [J]
      have d':(E != 9)=ϑ:=by simp [J]
      have s:=Lh (aJ.o (λL=>by
       have:=(hT.o.ht hs L).2;rw [if_neg aU.o] at this;exact J this.1))
      go_quiet (fail);go_wp2;go_ret;exact ⟨by rw [s.o];rfl,AG aV.o _⟩
     have dG:(E != 9)=ϝ:=by simp [J]
     have bH:=Lh J;clear J;by_cases aM:D=f2.fn
     .have d:(D == f2.fn)=ϑ:=by simp [aM]
      have d':(D != f2.fn)=ϝ:=by simp [aM]
      have aQ:=@Lh (BU c fs ⟨t,A,o,q,m⟩ k f) (hT.o.yes ω bT.o (by rw [if_neg aU.o];exact ⟨bH.o,f2,bU.o,aM⟩));clear aM;go_quiet (fail);have bK:=Lh (bJ.o.kp (AG Br nq));have aO:=Lh (aZ.o.trans (AG Br nq));clear dV dX;go_wp2_with fail
      go_roundg (gk - 1)
      case measure=>omega
      case rel=>exact ⟨k+1,ω,by go_num,ω,aO,Lh ⟨_,_,bK.o⟩,Lh (λj f' hj aP=>by
       by_cases e:j=k
       .subst e;rw [HF.o] at aP;cases aP;exact aQ.o
       .exact aY.o j f' ω aP)⟩
     .have d:(D == f2.fn)=ϝ:=by simp [aM]
      have d':(D != f2.fn)=ϑ:=by simp [aM]
      have s:=Lh (aJ.o (λL=>by
       have:=(hT.o.ht hs L).2;rw [if_neg aU.o] at this;obtain ⟨_,f3,h3,h4⟩:=this;rw [bU.o] at h3;cases h3;exact aM h4))
      go_quiet (fail);go_wp2;go_ret;exact ⟨by rw [s.o];rfl,AG aV.o _⟩
  .obtain rfl:k=fs.length:=ω
   have s:=Lh (CP (λj f L=>aY.o j f (Ll L) L));go_wp2;go_ret;exact ⟨by rw [s.o];rfl,cK.o⟩
