import Derived.Test.YtiejafonjemioaaGreatDoorMov
import Derived.Deep.RegionHeld3
set_option maxHeartbeats 2000000
set_option maxRecDepth 100000
set_option linter.all false
open Go renaming World→Ϣ,Value→ϒ,Calls→ϙ
open Option renaming some→ς
open Bool renaming false→ϝ,true→ϑ
open Go.Value renaming slice→σ
open Go.Obj renaming cells→χ
namespace Go.Proofs.YtiejafonjemioaaGreatDoor
open Go.RowKit Proofs.Tryz
variable {T:TypeId} {c:AQ} {w:Ϣ} {A:Array ϒ} {o:Obj} {f:BK} {x:Cd}
def IB (c:Int):Az c=2↔(97<=c/\c<=122\/65<=c/\c<=90):=by
 unfold Az;split
 .constructor<;>intro h<;>omega
 .split
  .constructor<;>intro h<;>omega
  .split
   .constructor<;>intro h<;>omega
   .split<;>constructor<;>intro h<;>omega
def Gy (c:Int):2<=Az c↔((97<=c/\c<=122\/65<=c/\c<=90)\/(48<=c/\c<=57)\/c=95):=by
 unfold Az;split
 .constructor<;>intro h<;>omega
 .split
  .constructor<;>intro h<;>omega
  .split
   .constructor<;>intro h<;>omega
   .split<;>constructor<;>intro h<;>omega
def Vr (c:Int):Bool:=decide (Az c=2)
def KH (c:Int):Bool:=decide (2<=Az c)
def VA {c:Int} (h:KH c=ϝ):Az c<2:=by
 have:¬2<=Az c:=of_decide_eq_false h;omega
def TG {c:Int} (h:KH c=ϑ):2<=Az c:=of_decide_eq_true h
def XF (c:Int):Bool:=decide (48<=c/\c<=57)
def En (c:Int) (w:Ϣ):ϙ prog 180 #[.int .u8 c] w λe a=>e=.returned (.bool (Vr c))/\w=a:=by
 go_enter func180,ntmps180;go_wp2;all_goals (go_ret;exact ⟨Ca (by unfold Vr;rw [Bool.eq_iff_iff];simp [IB] at *;omega),rfl⟩)
def LZ (c:Int) (w:Ϣ):ϙ prog 211 #[.int .u8 c] w λe a=>e=.returned (.bool (XF c))/\w=a:=by
 go_enter func211,ntmps211;go_wp2;all_goals (go_ret;exact ⟨Ca (by unfold XF;rw [Bool.eq_iff_iff];simp at *;omega),rfl⟩)
def St (c:Int) (w:Ϣ):ϙ prog 181 #[.int .u8 c] w λe d=>e=.returned (.bool (KH c))/\w=d:=by
 cases a:Vr c with
 | true=>
  have g:Hid (KH c=ϑ):=by have:=of_decide_eq_true a;exact Lh (decide_eq_true ω)
  have f:=Lh a;clear a;go_enter func181,ntmps181;go_wp2_with fail;refine (En _ _).mono ?_;rintro e d ⟨rfl,rfl⟩;rw [f.o];go_wp2;go_ret;exact ⟨by rw [g.o];rfl,rfl⟩
 | false=>
  have i:=of_decide_eq_false a;cases b:XF c with
  | true=>
   have g:Hid (KH c=ϑ):=by have:=of_decide_eq_true b;exact Lh (decide_eq_true ((Gy c).2 ω))
   have f:=Lh a;have h:=Lh b;clear a b i;go_enter func181,ntmps181;go_wp2_with fail;refine (En _ _).mono ?_;rintro e d ⟨rfl,rfl⟩;rw [f.o];go_wp2_with fail;refine (LZ _ _).mono ?_;rintro e d ⟨rfl,rfl⟩;rw [h.o];go_wp2;go_ret;exact ⟨by rw [g.o];rfl,rfl⟩
  | false=>
   have g:Hid (KH c=(c == 95)):=by have j:=of_decide_eq_false b;rw [IB] at i;refine Lh ?_;unfold KH;rw [Bool.eq_iff_iff];simp [Gy];omega
   have f:=Lh a;have h:=Lh b;clear a b i;go_enter func181,ntmps181;go_wp2_with fail;refine (En _ _).mono ?_;rintro e d ⟨rfl,rfl⟩;rw [f.o];go_wp2_with fail;refine (LZ _ _).mono ?_;rintro e d ⟨rfl,rfl⟩;rw [h.o];go_wp2;go_ret;exact ⟨by rw [g.o];rfl,rfl⟩
def Vq (c:List ByteArray) (s:ByteArray) (v:ϒ) (B:Nat) (w:Ϣ) (D:AE B w 1 M8 v c):ϙ prog 212 #[v,.string s] w λe E=>e=.returned (.bool (Dn c s))/\w=E:=by
 obtain ⟨a,A,rfl,K,G,H,g⟩:=D;have r:=Lh g;clear g;go_enter func212,ntmps212;go_wp2_with fail
 go_loop [5] (λi=>∃ k:Nat,k<=c.length/\i=ι k/\Hid (∀ (j:Nat) x,j<k->c[j]?=ς x->CM x s=ϝ)) (λi=>c.length - (intOf i).toNat)
 case atStart=>exact ⟨0,Nat.zero_le _,rfl,λj x m=>by omega⟩
 case round=>
  obtain ⟨k,J,rfl,p⟩:=hrel;by_cases z:k<c.length
  .obtain ⟨x,f⟩:∃ x,c[k]?=ς x:=⟨_,Lg z⟩
   rcases r.o with h|⟨b,o,rfl,F,g⟩
   .subst h;simp at f
   have I:w.cell? (π b (o+k))=ς (.string x):=by have:=g k x f;unfold M8 at this;simpa using this
   have n:=Lh f;clear f g;cases d:CM x s with
   | true=>have l:=@Lh (Dn c s=ϑ) (List.any_eq_true.2 ⟨x,Lm n.o,d⟩);have C:(x.toList == s.toList)=ϑ:=d;clear d;go_wp2;go_ret;exact ⟨by rw [l.o];rfl,rfl⟩
   | false=>
    have t:Hid (∀ (j:Nat) y,j<k+1->c[j]?=ς y->CM y s=ϝ):=Lh (λj y m q=>by
     by_cases u:j=k
     .subst u;have:=n.o.symm.trans q;cases this;exact d
     .exact p.o j y ω q)
    have C:(x.toList == s.toList)=ϝ:=d;clear d;go_wp2;go_round
    case rel=>exact ⟨k+1,ω,by go_num,t⟩
    case measure=>simp [intOf];omega
  .have l:=@Lh (Dn c s=ϝ) (by
    unfold Dn;rw [List.any_eq_false];intro x f;obtain ⟨j,m,rfl⟩:=List.getElem_of_mem f;rw [p.o j _ ω (Lg m)];simp)
   go_wp2;go_ret;exact ⟨by rw [l.o];rfl,rfl⟩
def XQ:List ByteArray:=[⟨#[116,121,112,101]⟩,⟨#[118,97,114]⟩,⟨#[112,114,111,99]⟩,⟨#[108,111,99,97,108]⟩,⟨#[109,101,97,115,117,114,101]⟩,⟨#[105,110,118,97,114,105,97,110,116]⟩,⟨#[112,111,116,101,110,116,105,97,108]⟩,⟨#[98,111,117,110,100]⟩,⟨#[105,102]⟩,⟨#[101,108,115,101]⟩,⟨#[119,104,105,108,101]⟩,⟨#[114,101,116,117,114,110]⟩,⟨#[110,101,119]⟩,⟨#[110,105,108]⟩,⟨#[116,114,117,101]⟩,⟨#[102,97,108,115,101]⟩,⟨#[97,110,100]⟩,⟨#[111,114]⟩,⟨#[110,111,116]⟩,⟨#[109,97,120]⟩,⟨#[109,105,110]⟩,⟨#[108,111,103]⟩,⟨#[105,110,116]⟩,⟨#[98,111,111,108]⟩,⟨#[116,104,105,115]⟩,⟨#[115,111,114,116]⟩,⟨#[111,112]⟩,⟨#[114,117,108,101]⟩,⟨#[115,112,101,99]⟩,⟨#[100,101,115,99]⟩,⟨#[115,99,114,105,112,116]⟩]
def L9 (w:Ϣ):ϙ prog 213 #[] w λe a=>e=.returned (σ (ς (π w 0)) 31 31)/\a=w.alloc (χ (XQ.map .string).toArray 9):=by
 go_enter func213,ntmps213;go_wp2;go_ret;exact ⟨rfl,rfl⟩
def O6:(XQ.all λa=>D5.any λb=>a.toList == b.toList)=ϑ/\(D5.all λa=>XQ.any λb=>a.toList == b.toList)=ϑ:=⟨κ,κ⟩
def Ur (s:ByteArray):Dn XQ s=Oa s:=by
 have e:∀ l d:List ByteArray,(l.all λa=>d.any λb=>a.toList == b.toList)=ϑ->Dn l s=ϑ->Dn d s=ϑ:=λl d h c=>by unfold Dn at c ⊢;rw [List.any_eq_true] at c ⊢;obtain ⟨a,i,f⟩:=c;have:=List.all_eq_true.1 h a i;rw [List.any_eq_true] at this;obtain ⟨b,j,g⟩:=this;refine ⟨b,j,?_⟩;unfold CM at f ⊢;rw [<-eq_of_beq g];exact f
 rw [Bool.eq_iff_iff];exact ⟨e _ _ O6.1,e _ _ O6.2⟩
def LY (s:ByteArray) (w:Ϣ):ϙ prog 182 #[.string s] w λe a=>e=.returned (.bool (Oa s))/\Below w w a:=by
 have b:AE (w+1) (w.alloc (χ (XQ.map .string).toArray 9)) 1 M8 (σ (ς (π w 0)) 31 31) XQ:=by refine ⟨ς (π w 0),31,rfl,by decide +kernel,by decide +kernel,by decide +kernel,.inr ⟨_,_,rfl,ω,λi x f=>?_⟩⟩;unfold M8;rw [cell_of_row _ _ _ _ _ _ (Hn _ _)];simp [f]
 have c:=Lh b;have d:=Lh (Ur s);clear b;go_enter func182,ntmps182;go_wp2_with fail;refine (L9 _).mono ?_;rintro e a ⟨rfl,rfl⟩;go_wp2_with fail;refine (Vq XQ s _ _ _ c.o).mono ?_;rintro e a ⟨rfl,rfl⟩;go_wp2;go_ret;exact ⟨by rw [<-d.o];rfl,AA _ _⟩
def O1 (s:ByteArray) (w:Ϣ) (hs:s.size<=140737488355328) :
  ϙ prog 156 #[.string s] w λe n=>e=.returned (.bool (Gi s))/\Below w w n:=by
 by_cases m:0<s.size;rotate_left
 .have d:=Lh (Ob m)
  have v:((s.size:Int) == 0)=ϑ:=beq_iff_eq.2 ω;go_enter func156,ntmps156;go_wp2;go_ret;exact ⟨by rw [d.o];rfl,Below.refl _ _⟩
 have v:=ξ (s.size:Int) 0;by_cases q:s.size<=40;rotate_left
 .have d:=Lh (Oc q)
  have x:=η (40<(s.size:Int));go_enter func156,ntmps156;go_wp2;go_ret;exact ⟨by rw [d.o];rfl,Below.refl _ _⟩
 have x:=θ (40<(s.size:Int));cases c:Vr (s[0].toNat:Int) with
 | false=>have d:=Lh (Od m (of_decide_eq_false c));have f:=Lh c;clear c;go_enter func156,ntmps156;go_wp2_with fail;refine (En _ _).mono ?_;rintro e n ⟨rfl,rfl⟩;rw [f.o];go_wp2;go_ret;exact ⟨by rw [d.o];rfl,Below.refl _ _⟩
 | true=>
  have f:=Lh c;clear c;go_enter func156,ntmps156;go_wp2_with fail;refine (En _ _).mono ?_;rintro e n ⟨rfl,rfl⟩;rw [f.o];go_wp2_with fail
  go_loop [3] (λi=>∃ k:Nat,k<=s.size/\i=ι k/\Hid (∀ j (a:j<s.size),j<k->2<=Az (s[j].toNat:Int))) (λi=>s.size - (intOf i).toNat)
  case atStart=>exact ⟨0,Nat.zero_le _,rfl,λj a h=>by omega⟩
  case round=>
   obtain ⟨k,y,rfl,p⟩:=hrel;by_cases u:k<s.size
   .go_wp2_with fail
    refine (St _ _).mono ?_;rintro e o ⟨rfl,rfl⟩;cases l:KH (s[k].toNat:Int) with
    | false=>have b:=Lh (Of k u (VA l));clear l;go_wp2;go_ret;exact ⟨by rw [b.o];rfl,Below.refl _ _⟩
    | true=>
     have t:Hid (∀ j (a:j<s.size),j<k+1->2<=Az (s[j].toNat:Int)):=Lh (λj a h=>by
      by_cases e:j=k
      .subst e;exact TG l
      .exact p.o j a ω)
     clear l;go_wp2;go_round
     case rel=>exact ⟨k+1,ω,by go_num,t⟩
     case measure=>simp [intOf];omega
   .go_wp2_with fail
    refine (LY _ _).mono ?_;rintro e o ⟨rfl,r⟩;cases g:Oa s with
    | true=>have b:=Lh (Oe g);clear g;go_wp2;go_ret;exact ⟨by rw [b.o];rfl,r⟩
    | false=>have b:=Lh (Og m q (of_decide_eq_true f.o) g (λj a=>p.o j a ω));clear g;go_wp2;go_ret;exact ⟨by rw [b.o];rfl,r⟩
def ND (a n:Int):Bool:=decide (0<=a/\a<n)
def QQ (a n:Int) (w:Ϣ):ϙ prog 183 #[ι a,ι n] w λe b=>e=.returned (.bool (ND a n))/\w=b:=by
 go_enter func183,ntmps183;go_wp2;all_goals (go_ret;exact ⟨Ca (by unfold ND;simp;try omega),rfl⟩)
def GF :AR ((w.alloc o).alloc (χ A T)) ((w:Nat)+1) A.toList:=by
 have:=@AF (w.alloc o) A T;simpa using this
def J3 {a:Obj}:AR (((w.alloc o).alloc a).alloc (χ A T)) ((w:Nat)+1+1) A.toList:=by
 have:=@AF ((w.alloc o).alloc a) A T;simpa using this
def Fv {n:Int} (k:Int) (a:x.op=k) (b:1<=k/\k<=31) (hl:Ey c f k=ς n):ND x.a n=Ct c f x:=by
 unfold Ct ND;rw [if_neg ω,a,hl]
def XN (a:x.op=1):Ct c f x=decide (-1099511627776<=x.a/\x.a<=1099511627776):=by
 unfold Ct;rw [if_neg ω,a];rfl
def UP (d:¬x.op=1) (e:¬x.op=2) (g:¬x.op=3) (i:¬x.op=4) (j:¬x.op=5) (k:¬x.op=6) (l:¬x.op=7) (m:¬x.op=8) (n:¬x.op=9) (a:¬x.op=11) (b:¬x.op=12):Ct c f x=decide (1<=x.op/\x.op<=31/\x.a=0):=by
 unfold Ct Ey;rw [if_neg e,if_neg g,if_neg i,if_neg j,if_neg k,if_neg l,if_neg m,if_neg n,if_neg a,if_neg b,if_neg d];by_cases h:x.op<1\/31<x.op
 .rw [if_pos h];symm;rw [decide_eq_false_iff_not];omega
 .rw [if_neg h]
  show decide (x.a=0)=_;rw [Bool.eq_iff_iff];simp;omega
def Sl (c:AQ) (k:ϒ) (f:BK) (fv:ϒ) (x:Cd) (p:ϒ) (B:Nat) (w:Ϣ) (F:BF B w k c) (G:EI B w fv f) (K:IV B w p x) :
  ϙ prog 157 #[k,fv,p] w λe o=>e=.returned (.bool (Ct c f x))/\Below w w o:=by
 obtain ⟨fv,O,rfl,t,u,z⟩:=F;obtain ⟨P,rfl,H,I,J,C⟩:=G;obtain ⟨rfl,D,E⟩:=K;obtain ⟨l,g,rfl,v,-,-,-⟩:=t;obtain ⟨m,i,rfl,q,r,s,y⟩:=u;obtain ⟨n,j,rfl,A,-,-,-⟩:=H;clear y;unfold in64 at *
 obtain ⟨W,a⟩:=ε ((((w.alloc (χ (Bc l g m i c) 25)).alloc (χ #[.string f.name,ι f.params,ι f.L,.bool f.result,σ n f.code j] 93)).alloc (χ #[ι x.op,ι x.a] 124)));have b:=@Lh (Below w w W) (by rw [a];exact ((AA _ _).th (AA _ _)).th (AA _ _));have L:AR W w [σ l c.H g,ι c.G,σ m c.funcs i]:=by rw [a];exact (AF.alloc _).alloc _
 have M:AR W (w+1) [.string f.name,ι f.params,ι f.L,.bool f.result,σ n f.code j]:=by rw [a];exact GF.alloc _
 have N:AR W (w+1+1) [ι x.op,ι x.a]:=by rw [a];exact J3
 clear L M N;go_enter func157,ntmps157;have d:=Lh a;clear a;go_wp2_with (rw [<-d.o];go_at_call 183;refine (QQ _ _ _).mono ?_;rintro e o ⟨rfl,rfl⟩);all_goals
  go_ret;refine ⟨Ca ?_,by first|exact b.o|(rw [d.o] at b;exact b.o)⟩;clear b d z I J C D E q r s v A;simp only [beq_iff_eq,beq_eq_false_iff_ne,decide_eq_true_eq,decide_eq_false_iff_not] at *
  first
   | (
    have h:x.op=1:=by assumption
    rw [XN h,Bool.eq_iff_iff];simp;omega)
   | exact Fv 2 (by assumption) ω rfl
   | exact Fv 3 (by assumption) ω rfl
   | exact Fv 4 (by assumption) ω rfl
   | exact Fv 5 (by assumption) ω rfl
   | exact Fv 6 (by assumption) ω rfl
   | exact Fv 7 (by assumption) ω rfl
   | exact Fv 8 (by assumption) ω rfl
   | exact Fv 9 (by assumption) ω rfl
   | exact Fv 11 (by assumption) ω rfl
   | exact Fv 12 (by assumption) ω rfl
   | (rw [UP (by assumption) (by assumption) (by assumption) (by assumption) (by assumption) (by assumption) (by assumption) (by assumption) (by assumption) (by assumption) (by assumption),Bool.eq_iff_iff];simp;omega)
def Qf (c:AQ) (cv:ϒ) (B:Nat) (w:Ϣ) (N:B<=w) (hc:BF B w cv c) :
  ϙ prog 123 #[cv] w (RD (Dl c) w):=by
 have HC:=Lh hc;obtain ⟨bF,bG,rfl,aX,aY,aI⟩:=hc;obtain ⟨K,L,rfl,bH,-,-,-⟩:=aX;obtain ⟨ga,M,rfl,bK,bL,bM,aL⟩:=aY;have aS:=Lh aL;clear aL aI;obtain ⟨W,G⟩:=ε (w.alloc (χ (Bc K L ga M c) 25));have HW:=Lh (bl1 G);have HK:=Lh (ce11 G);have aU:=Lh G;clear G;go_enter func123,ntmps123;go_wp2_with fail;rw [<-aU.o];go_loopw [5] (λi wr=>∃ k:Nat,k<=c.funcs.length/\i=ι k/\Hid (Below W W wr/\∀ (j:Nat) x,j<k->c.funcs[j]?=ς x->(x.code.any λy=>!Ct c x y)=ϝ)) (λi _=>c.funcs.length - (intOf i).toNat)
 case atStart=>exact ⟨0,Nat.zero_le _,rfl,Lh ⟨Below.refl _ _,λj x Q=>by omega⟩⟩
 case round=>
  obtain ⟨k,hk,rfl,D⟩:=hrel;obtain ⟨wo,rfl⟩:=ε (wr:Ϣ);have I:=Lh (HW.o.th D.o.1);have Z:=Lh (HK.o.kp D.o.1);have H:=Z.o 2 _ rfl;by_cases bA:k<c.funcs.length
  .obtain ⟨x,d⟩:∃ x,c.funcs[k]?=ς x:=⟨_,Lg bA⟩
   rcases aS.o with h|⟨b,o,rfl,aK,O⟩
   .rw [h] at d;simp at d
   have aW:=(O k x d).below (I.o.mono N) aK;have aQ:=Lh (O k x d);have U:=Lh d;obtain ⟨n,q,r,s,⟨xv,u,f⟩,v,A,C⟩:=aW;have H6:=Lh f;obtain ⟨xa,bE,rfl,bP,-,-,bB⟩:=f;clear O d bB n q r s v A C;go_wp2_with fail;clear H u;go_loopw [6] (λi wr=>∃ p:Nat,p<=x.code.length/\i=ι p/\Hid (Below wo wo wr/\∀ (j:Nat) y,j<p->x.code[j]?=ς y->Ct c x y=ϑ)) (λi _=>x.code.length - (intOf i).toNat)
   case atStart=>exact ⟨0,Nat.zero_le _,rfl,Lh ⟨Below.refl _ _,λj x Q=>by omega⟩⟩
   case round=>
    obtain ⟨p,hp,rfl,m⟩:=hrel;have J:=Lh (I.o.th m.o.1);have aH:=Lh (Z.o.kp m.o.1);obtain ⟨n,q,r,s,⟨xv,u,f⟩,v,A,C⟩:=aQ.o.below (J.o.mono N) aK;have aV:=f;obtain ⟨bD,Y,rfl,-⟩:=aV;obtain ⟨q0,q1,H⟩:=Γ3 aH.o;have zg:=Bl u;by_cases aZ:p<x.code.length
    .obtain ⟨y,g⟩:∃ y,x.code[p]?=ς y:=⟨_,Lg aZ⟩
     have aR:Hid (EI B wr.drew (.agg #[.string x.name,ι x.params,ι x.L,.bool x.result,σ bD x.code Y]) x):=Lh ⟨_,rfl,f.inss (AG Br 1),v,A,C⟩;obtain ⟨bQ,aM,he,-,-,-,F⟩:=f;cases he;rcases F with h|⟨S,T,rfl,bC,F⟩
     .rw [h] at g;simp at g
     obtain ⟨y1,y2,y3,y4⟩:=F p y g;have X:=Lh g;have aP:=@Lh (BF B wr.drew (.agg #[σ K c.H L,ι c.G,σ (ς (π b o)) c.funcs M]) c) (HC.o.below ((AG J.o 1).mono N));have aT:Hid (IV B wr.drew (.agg #[ι y.op,ι y.a]) y):=Lh ⟨rfl,y3,y4⟩;have bI:=In k;have bJ:(k:Int)<(c.funcs:Int):=ω;have bN:=In p;have bO:(p:Int)<(x.code:Int):=ω;clear g F y3 y4 v A C;go_wp2_with fail;go_upto_region 7 with fail;go_region_held3 (λV=>V.cell? (π w 0)=ς (σ K c.H L)/\V.cell? (π w 1)=ς (ι c.G)/\V.cell? (π w 2)=ς (σ (ς (π b o)) c.funcs M)/\V.cell? (π b (o+k*5))=ς (.string x.name)/\V.cell? (π b (o+k*5+1))=ς (ι x.params)/\V.cell? (π b (o+k*5+2))=ς (ι x.L)/\V.cell? (π b (o+k*5+3))=ς (.bool x.result)/\V.cell? (π b (o+k*5+4))=ς (σ (ς (π S T)) x.code Y)/\V.cell? (π S (T+p*2))=ς (ι y.op)/\V.cell? (π S (T+p*2+1))=ς (ι y.a))
      (first|exact ⟨q0,q1,H,n,q,r,s,u,y1,y2⟩|exact ⟨AB a q0,AB a q1,AB a H,AB a n,AB a q,AB a r,AB a s,AB a u,AB a y1,AB a y2⟩)
      (first|(go_at_call 157;refine (Sl c _ x _ y _ B _ aP.o aR.o aT.o).mono ?_;rintro e w3 ⟨rfl,a⟩))
     have aN:=Lh ((AG J.o 1).th a);have aG:=Lh ((AG m.o.1 1).th a);clear a;cases E:Ct c x y with
     | false=>
      have P:=Lh (Mj U.o (List.any_eq_true.2 ⟨y,Lm X.o,by rw [E];rfl⟩));clear E;go_wp2_with fail
      go_ret3
      exact ⟨_,_,by rw [P.o];rfl,aN.o⟩
     | true=>
      have R:Hid (∀ (j:Nat) z,j<p+1->x.code[j]?=ς z->Ct c x z=ϑ):=Lh (λj z Q l=>by
       by_cases e:j=p
       .subst e;rw [X.o] at l;cases l;exact E
       .exact m.o.2 j z ω l)
      clear E;go_wp2;go_roundw
      case rel=>exact ⟨p+1,ω,by go_num,Lh ⟨aG.o,R.o⟩⟩
      case measure=>simp [intOf];omega
    .have R:Hid (∀ (j:Nat) z,j<k+1->c.funcs[j]?=ς z->(z.code.any λy=>!Ct c z y)=ϝ):=Lh (λj z Q l=>by
      by_cases e:j=k
      .subst e;rw [U.o] at l;cases l
       rw [List.any_eq_false];intro y g;obtain ⟨t,ht,rfl⟩:=List.getElem_of_mem g;rw [m.o.2 t _ ω (Lg ht)];simp
      .exact D.o.2 j z ω l)
     have aO:=Lh (D.o.1.th m.o.1);clear f n q r s v A C;go_wp2;go_roundw
     case rel=>exact ⟨k+1,ω,by go_num,Lh ⟨aO.o,R.o⟩⟩
     case measure=>simp [intOf];omega
  .have P:=Lh (KK (λj x _ d=>D.o.2 j x (by have:=(Ll d);omega) d))
   go_wp2_with fail
   go_ret3
   exact ⟨_,_,by rw [P.o];rfl,I.o⟩
def Si (c:AQ) (cv:ϒ) (B:Nat) (w:Ϣ) (R:B<=w) (hc:BF B w cv c) :
  ϙ prog 122 #[cv] w λe w'=>e=.returned (.bool (GX c))/\Below w w w':=by
 obtain ⟨bH,bI,rfl,bD,bE,aM⟩:=hc;obtain ⟨fa,fc,rfl,bJ,-,-,aT⟩:=bD;obtain ⟨ga,gc,rfl,bK,bL,bM,aU⟩:=bE;have aY:=Lh aT;have aZ:=Lh aU;clear aU aT;unfold in64 at aM;obtain ⟨W,K⟩:=ε (w.alloc (χ (Bc fa fc ga gc c) 25));have g:=Lh (bl1 K);have U:=Lh (ce11 K);have A:=Lh K;clear K;by_cases h1:c.H.length<=12;rotate_left
 .have d:=Lh (Bs (c:=c) (λh=>h1 h.1))
  have J:=η (12<(c.H:Int));go_enter func122,ntmps122;go_wp2_with fail;rw [<-A.o];go_ret;exact ⟨by rw [d.o];rfl,g.o⟩
 have J:=θ (12<(c.H:Int));by_cases h2:0<=c.G;rotate_left
 .have d:=Lh (Bs (c:=c) (λh=>h2 h.2.2.1))
  have e2:=η (c.G<0);go_enter func122,ntmps122;go_wp2_with fail;rw [<-A.o];go_ret;exact ⟨by rw [d.o];rfl,g.o⟩
 have e2:=θ (c.G<0);by_cases h3:c.G<=8;rotate_left
 .have d:=Lh (Bs (c:=c) (λh=>h3 h.2.2.2.1))
  have e3:=η (8<c.G);go_enter func122,ntmps122;go_wp2_with fail;rw [<-A.o];go_ret;exact ⟨by rw [d.o];rfl,g.o⟩
 have e3:=θ (8<c.G);by_cases h4:c.funcs.length<=40;rotate_left
 .have d:=Lh (Bs (c:=c) (λh=>h4 h.2.2.2.2.1))
  have e4:=η (40<(c.funcs:Int));go_enter func122,ntmps122;go_wp2_with fail;rw [<-A.o];go_ret;exact ⟨by rw [d.o];rfl,g.o⟩
 have e4:=θ (40<(c.funcs:Int));go_enter func122,ntmps122;go_wp2_with fail;rw [<-A.o];clear J e2 e3 e4;have q0:=U.o 0 _ rfl
 go_loop [3] (λi=>∃ k:Nat,k<=c.H.length/\i=ι k/\Hid (∀ (j:Nat) n,j<k->c.H[j]?=ς n->¬(n<0\/12<n))) (λi=>c.H.length - (intOf i).toNat)
 case atStart=>exact ⟨0,Nat.zero_le _,rfl,λj n l=>by omega⟩
 case round=>
  obtain ⟨k,hk,rfl,M⟩:=hrel;by_cases Q:k<c.H.length
  .obtain ⟨n,a⟩:∃ n,c.H[k]?=ς n:=⟨_,Lg Q⟩
   rcases aY.o with h|⟨b,o,rfl,I,u⟩
   .rw [h] at a;simp at a
   obtain ⟨c1,c2⟩:=(u k n a).below (g.o.mono R) I;unfold in64 at c2;rw [Nat.mul_one] at c1;have F:=Lh a;clear a u;by_cases r:n<0\/12<n
   .have d:=Lh (Bs (c:=c) (λh=>by
     have:=List.any_eq_false.1 h.2.1 n (Lm F.o);exact this (decide_eq_true r)))
    rcases r with r|r;all_goals
     go_wp2;go_ret;exact ⟨by rw [d.o];rfl,g.o⟩
   .have aO:Hid (∀ (j:Nat) n,j<k+1->c.H[j]?=ς n->¬(n<0\/12<n)):=Lh (λj m l S=>by
     by_cases e:j=k
     .subst e;rw [F.o] at S;cases S;exact r
     .exact M.o j m ω S)
    have d1:=θ (n<0);have d2:=θ (12<n);clear r;go_wp2;go_round
    case rel=>exact ⟨k+1,ω,by go_num,aO⟩
    case measure=>simp [intOf];omega
  .have bF:=@Lh (c.H.any (λn=>decide (n<0\/12<n))=ϝ) (by
    rw [List.any_eq_false];intro n a;obtain ⟨j,l,rfl⟩:=List.getElem_of_mem a;have:=M.o j _ ω (Lg l);simp;omega)
   clear M;go_wp2_with fail;clear q0;go_loopw [4] (λi wr=>∃ k:Nat,k<=c.funcs.length/\i=ι k/\Hid (Below W W wr/\∀ (j:Nat) x,j<k->c.funcs[j]?=ς x->Ir c j x)) (λi _=>c.funcs.length - (intOf i).toNat)
   case atStart=>exact ⟨0,Nat.zero_le _,rfl,Lh ⟨Below.refl _ _,λj x l=>by omega⟩⟩
   case round=>
    obtain ⟨k,hk,rfl,D⟩:=hrel;obtain ⟨wo,rfl⟩:=ε (wr:Ϣ);have L:=Lh (g.o.th D.o.1);have aS:=Lh (U.o.kp D.o.1);have T:=aS.o 2 _ rfl;by_cases Q:k<c.funcs.length
    .obtain ⟨x,f⟩:∃ x,c.funcs[k]?=ς x:=⟨_,Lg Q⟩
     rcases aZ.o with h|⟨b,o,rfl,I,u⟩
     .rw [h] at f;simp at f
     have bC:=(u k x f).below (L.o.mono R) I;have HE:=Lh u;have G:=Lh f;obtain ⟨g1,g2,g3,g4,⟨xv,g5,g6⟩,g7,g8,g9⟩:=bC;obtain ⟨xa,aQ,rfl,bP,-,-,-⟩:=g6;unfold in64 at g8 g9;obtain ⟨W1,H⟩:=ε (wo.alloc (χ #[.string x.name,ι x.params,ι x.L,.bool x.result,σ xa x.code aQ] 93));have aV:=Lh (bl1 H);have aX:=Lh (ce11 H);have bB:=Lh H;clear u f H;go_wp2_with fail;rw [<-bB.o];refine (O1 _ _ g7).mono ?_;rintro e w2 ⟨rfl,P⟩;have N:=Lh (aV.o.th P);have O:=Lh (L.o.th N.o);have Y:=Lh (aX.o.kp P);have r0:=Γ5 Y.o;have T:=AB N.o T;clear g1 g2 g3 g4 g5 P;cases a:Gi x.name with
     | false=>have d:=Lh (Bs (c:=c) (λh=>by rw [(h.2.2.2.2.2 k x G.o).1] at a;cases a));clear a;go_wp2;go_ret;exact ⟨by rw [d.o];rfl,O.o⟩
     | true=>
      have F:=Lh a;clear a;by_cases C:CX x
      .have bA:=Lh C
       obtain ⟨o1,o2,o3,o4,o5,o6⟩:=C;have d1:=θ (x.params<0);have d2:=θ (6<x.params);have d3:=θ (x.L<x.params);have d4:=θ (100<x.L);have d5:=ξ (x.code:Int) 0;have d6:=θ (1048576<(x.code:Int));go_wp2_with fail;clear d1 d2 d3 d4 d5 d6 r0 T o1 o2 o3 o4 o5 o6;go_loopw [6] (λi wr=>∃ p:Nat,p<=k/\i=ι p/\Hid (Below w2 w2 wr/\∀ (j:Nat) y,j<p->c.funcs[j]?=ς y->CM y.name x.name=ϝ)) (λi _=>k - (intOf i).toNat)
       case atStart=>exact ⟨0,Nat.zero_le _,rfl,Lh ⟨Below.refl _ _,λj x l=>by omega⟩⟩
       case round=>
        obtain ⟨p,hp,rfl,s⟩:=hrel;have Z:=Lh (O.o.th s.o.1);have X:=Lh (N.o.th s.o.1);by_cases bG:p<k
        .obtain ⟨y,E⟩:∃ y,c.funcs[p]?=ς y:=⟨_,Lg ω⟩
         have t1:=((HE.o p y E).below (Z.o.mono R) I).1;have t2:=(aS.o.kp X.o) 2 _ rfl;have t3:=(Y.o.kp s.o.1) 0 _ rfl;have V:=Lh E;have bN:=In p;have bO:(p:Int)<(c.funcs:Int):=ω;clear E;cases v:CM y.name x.name with
         | true=>
          have d:=Lh (Bs (c:=c) (λh=>by
           have:=List.any_eq_false.1 (h.2.2.2.2.2 k x G.o).2.2 y (Lm (i:=p) (by rw [List.getElem?_take];simp [bG,V.o]));exact this v))
          have J:(y.name.toList == x.name.toList)=ϑ:=v;clear v;go_wp2_with fail;go_quiet (fail);go_wp2;go_ret;exact ⟨by rw [d.o];rfl,AG Z.o _⟩
         | false=>
          have a:Hid (∀ (j:Nat) y,j<p+1->c.funcs[j]?=ς y->CM y.name x.name=ϝ):=Lh (λj z l q=>by
           by_cases e:j=p
           .subst e;rw [V.o] at q;cases q;exact v
           .exact s.o.2 j z ω q)
          have J:(y.name.toList == x.name.toList)=ϝ:=v;clear v;go_wp2_with fail;go_quiet (fail);go_wp2;go_roundw
          case rel=>exact ⟨p+1,ω,by go_num,Lh ⟨AG s.o.1 _,a.o⟩⟩
          case measure=>simp [intOf];omega
        .have a:Hid (∀ (j:Nat) y,j<k+1->c.funcs[j]?=ς y->Ir c j y):=Lh (λj z l q=>by
          by_cases e:j=k
          .subst e;rw [G.o] at q;cases q
           refine ⟨F.o,bA.o,?_⟩;rw [List.any_eq_false];intro y E;obtain ⟨t,ht,rfl⟩:=List.getElem_of_mem E;rw [List.length_take] at ht;rw [List.getElem_take,s.o.2 t _ ω (Lg ω)];simp
          .exact D.o.2 j z ω q)
         have aW:=Lh (D.o.1.th X.o);go_wp2;go_roundw
         case rel=>exact ⟨k+1,ω,by go_num,Lh ⟨aW.o,a.o⟩⟩
         case measure=>simp [intOf];omega
      .have aP:=Lh (Bs (c:=c) (λh=>C (h.2.2.2.2.2 k x G.o).2.1))
       unfold CX at C;go_wp2_with fail;all_goals first
        | (exfalso;apply C;simp only [beq_iff_eq,beq_eq_false_iff_ne,decide_eq_true_eq,decide_eq_false_iff_not] at *;omega)
        | (go_ret;exact ⟨by rw [aP.o];rfl,O.o⟩)
    .have d:=Lh (FP (c:=c) ⟨h1,bF.o,h2,h3,h4,λi x f=>D.o.2 i x (by have:=(Ll f);omega) f⟩)
     go_wp2;go_ret;exact ⟨by rw [d.o];rfl,L.o⟩
