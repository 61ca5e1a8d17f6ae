import Derived.Test.YtigbfkiddlhhjaaGreatDoorSlFunc
import Derived.Test.YtigbfkiddlhhjaaGreatDoorShelf
import Derived.Shelf.Spec.TrailingZeros
import Derived.Deep.QuietTactic
import Derived.BigQuiet
import Derived.WalkSmall
import Derived.Deep.WholeRow
set_option maxHeartbeats 1000000
set_option maxRecDepth 100000
set_option linter.all false
open Go renaming World→Ϣ,Value→ϒ,Calls→ϙ
open Go.RowKit renaming Below→ϐ
open Option renaming some→ς
open Bool renaming false→ϝ,true→ϑ
open Go.Value renaming slice→σ
open Go.Obj renaming cells→χ
namespace Go.Proofs.YtigbfkiddlhhjaaGreatDoor
open Go.RowKit Proofs.Tryz
variable {α:Type} {a s:ByteArray} {c:AQ} {w w':Ϣ} {p:α->Bool} {l:List α}
def M8 (w:Ϣ) (b o:Nat) (s:ByteArray):Prop:=w.cell? (π b o)=ς (.string s)
def Bx (a b:ByteArray):Bool:=Op.bytesLess a.toList b.toList
def OJ (a b:ByteArray) (w:Ϣ) :
  ϙ prog 201 #[.string a,.string b] w λe w'=>e=.returned (.bool (Bx a b))/\w=w':=by
 go_enter func201,ntmps201;go_wp2;go_ret;exact ⟨rfl,rfl⟩
def SO (a:ByteArray) (w:Ϣ) :
  ϙ prog 202 #[.string a] w λe w'=>e=.returned (.bool ϝ)/\w=w':=by
 go_enter func202,ntmps202;go_wp2;go_ret;exact ⟨ψ,rfl⟩
def Az (c:Int):Int:=
 if c=32\/c=9\/c=13\/c=10 then 1
 else if 97<=c/\c<=122\/65<=c/\c<=90 then 2
 else if 48<=c/\c<=57 then 3
 else if c=95 then 4 else 0
def Hg (c:Int) (w:Ϣ) :
  ϙ prog 152 #[.int .u8 c] w λe w'=>e=.returned (ι (Az c))/\w=w':=by
 go_enter func152,ntmps152;go_wp2;all_goals
  go_ret;refine ⟨E8 ?_,rfl⟩;simp only [beq_iff_eq,beq_eq_false_iff_ne] at *
  unfold Az;first|rw [if_pos ω]|(rw [if_neg ω];first|rw [if_pos ω]|(rw [if_neg ω];first|rw [if_pos ω]|(rw [if_neg ω];first|rw [if_pos ω]|rw [if_neg ω])))
def Gf:∀ {a b c:List UInt8},Op.bytesLess a b=ϑ->Op.bytesLess b c=ϑ->Op.bytesLess a c=ϑ
 | [],[],_,h,_=>by simp [Op.bytesLess] at h
 | [],_::_,[],_,h=>by simp [Op.bytesLess] at h
 | [],_::_,_::_,_,_=>by simp [Op.bytesLess]
 | _::_,[],_,h,_=>by simp [Op.bytesLess] at h
 | _::_,_::_,[],_,h=>by simp [Op.bytesLess] at h
 | x::a,y::b,z::c,h,k=>by
  simp only [Op.bytesLess,Bool.or_eq_true,Bool.and_eq_true,decide_eq_true_eq,beq_iff_eq] at *
  rcases h with h|⟨rfl,h⟩
  .rcases k with k|⟨rfl,k⟩
   .exact .inl (UInt8.lt_trans h k)
   .exact .inl h
  .rcases k with k|⟨rfl,k⟩
   .exact .inl k
   .exact .inr ⟨rfl,Gf h k⟩
def GE:∀ (a:List UInt8),Op.bytesLess a a=ϝ
 | []=>rfl
 | x::a=>by simp [Op.bytesLess,GE a]
def IH {b c:ByteArray} (h:Bx a b=ϑ) (k:Bx b c=ϑ):Bx a c=ϑ:=Gf h k
def Lp (a:ByteArray):Bx a a=ϝ:=GE _
def My (ss:List ByteArray):Prop:=∀ (i j:Nat) a b,i<j->ss[i]?=ς a->ss[j]?=ς b->Bx a b=ϑ
def CM (a b:ByteArray):Bool:=a.toList == b.toList
def Dn (ss:List ByteArray) (s:ByteArray):Bool:=ss.any λa=>CM a s
def Lo (h:CM a s=ϑ):Bx a s=Bx s s/\∀ b,Bx b a=Bx b s:=by
 unfold CM at h;simp at h;unfold Bx;rw [h];exact ⟨rfl,λ_=>rfl⟩
def SI {c:List ByteArray} {b:Nat} (d:My c) (e:Bx s s=ϝ) (hl:∀ t a,t<b->c[t]?=ς a->Bx a s=ϑ) (l:∀ t a,b<=t->c[t]?=ς a->Bx a s=ϝ) :
  Dn c s=match c[b]? with|some a=>CM a s|none=>ϝ:=by
 rw [Bool.eq_iff_iff];constructor
 .intro h
  unfold Dn at h;rw [List.any_eq_true] at h;obtain ⟨x,f,i⟩:=h;obtain ⟨k,m,rfl⟩:=List.getElem_of_mem f;have g:=Lg m;by_cases j:k<b
  .have:=hl k _ j g
   rw [(Lo i).1,e] at this;cases this
  .by_cases h2:k=b
   .subst h2;rw [g];exact i
   .have h3:b<c.length:=ω
    have:=d b k _ _ ω (Lg h3) g;rw [(Lo i).2,l b _ (Nr _) (Lg h3)] at this;cases this
 .intro h
  cases f:c[b]? with
  | none=>rw [f] at h;cases h
  | some a=>rw [f] at h;exact List.any_eq_true.2 ⟨a,Lm f,h⟩
def VT (b:Bool) (w:Ϣ) (e:Ending) (w':Ϣ):Prop:=∃ i:Int,e=.returned (.tuple #[ι i,.bool b])/\w=w'
def Jd (d:List ByteArray) (s:ByteArray) (v:ϒ) (B:Nat) (w:Ϣ) (z:AE B w 1 M8 v d) (m:My d) (n:Bx s s=ϝ) :
  ϙ prog 172 #[v,.string s] w (VT (Dn d s) w):=by
 obtain ⟨a,M,rfl,S,O,P,z⟩:=z;have G:=Lh z;have A:=Lh m;have K:=Lh n;clear z m n;go_enter func172,ntmps172;go_wp2
 go_loop [7,8] (λi j=>∃ c f:Nat,c<=f/\f<=d.length/\i=ι c/\j=ι f/\Hid (∀ t a,t<c->d[t]?=ς a->Bx a s=ϑ)/\Hid (∀ t a,f<=t->d[t]?=ς a->Bx a s=ϝ)) (λi j=>(intOf j).toNat - (intOf i).toNat)
 case atStart=>exact ⟨0,d.length,Nat.zero_le _,Nr _,rfl,rfl,λt a h=>by omega,λt a h E=>by rw [List.getElem?_eq_none h] at E;cases E⟩
 case round=>
  obtain ⟨c,f,R,E,rfl,rfl,I,H⟩:=hrel;by_cases Q:c<f
  .have F:(c+f) / 2<d.length:=ω
   obtain ⟨x,k⟩:∃ x,d[(c+f) / 2]?=ς x:=⟨_,Lg F⟩
   rcases G.o with h|⟨b,o,rfl,L,g⟩
   .subst h;simp at k
   have g:=g _ x k;unfold M8 at g;rw [Nat.mul_one] at g;have r:=Lh k;clear k;go_wp2_with fail;refine (OJ _ _ _).mono ?_;rintro e w' ⟨rfl,rfl⟩;cases p:Bx x s with
   | true=>
    have C:Hid (∀ t a,t<(c+f) / 2+1->d[t]?=ς a->Bx a s=ϑ):=by
     intro t y N q;by_cases D:t=(c+f) / 2
     .subst D;have:=r.o.symm.trans q;simp at this;rw [<-this];exact p
     .exact IH (A.o _ _ _ _ ω q r.o) p
    clear p;go_wp2;go_round
    case rel=>exact ⟨(c+f) / 2+1,f,ω,ω,by go_num,rfl,C,H⟩
    case measure=>simp [intOf];omega
   | false=>
    have C:Hid (∀ t a,(c+f) / 2<=t->d[t]?=ς a->Bx a s=ϝ):=by
     intro t y N q;by_cases D:t=(c+f) / 2
     .subst D;have:=r.o.symm.trans q;simp at this;rw [<-this];exact p
     .cases hc:Bx y s with
      | false=>rfl
      | true=>rw [IH (A.o _ _ _ _ ω r.o q) hc] at p;cases p
    clear p;go_wp2;go_round
    case rel=>exact ⟨c,(c+f) / 2,ω,ω,rfl,by go_num,I,C⟩
    case measure=>simp [intOf];omega
  .obtain rfl:c=f:=ω
   have u:=Lh (SI A.o K.o I H);by_cases F:c<d.length
   .obtain ⟨x,k⟩:∃ x,d[c]?=ς x:=⟨_,Lg F⟩
    rcases G.o with h|⟨b,o,rfl,L,g⟩
    .subst h;simp at k
    have g:=g _ x k;unfold M8 at g;rw [Nat.mul_one] at g;have l:Hid (Dn d s=CM x s):=by rw [u.o,k];rfl
    clear k u;cases J:(x.toList == s.toList)
    .have l:Hid (Dn d s=ϝ):=by rw [l.o];exact J
     go_wp2_with (go_at_call 202;refine (SO _ _).mono ?_;rintro e w' ⟨rfl,rfl⟩)
     go_ret2
     exact ⟨_,by rw [l.o];rfl,rfl⟩
    .have l:Hid (Dn d s=ϑ):=by rw [l.o];exact J
     go_wp2
     go_ret2
     exact ⟨_,by rw [l.o];rfl,rfl⟩
   .have l:Hid (Dn d s=ϝ):=by rw [u.o,List.getElem?_eq_none ω];rfl
    clear u;go_wp2
    go_ret2
    exact ⟨_,by rw [l.o];rfl,rfl⟩
def NR:List UInt8:=[97,110,100,32,98,111,111,108,32,98,111,117,110,100,32,100,101,115,99,32,101,108,115,101,32,102,97,108,115,101,32,105,102,32,105,110,116,32,105,110,118,97,114,105,97,110,116,32,108,111,99,97,108,32,108,111,103,32,109,97,120,32,109,101,97,115,117,114,101,32,109,105,110,32,110,101,119,32,110,105,108,32,110,111,116,32,111,112,32,111,114,32,112,111,116,101,110,116,105,97,108,32,112,114,111,99,32,114,101,116,117,114,110,32,114,117,108,101,32,115,99,114,105,112,116,32,115,111,114,116,32,115,112,101,99,32,116,104,105,115,32,116,114,117,101,32,116,121,112,101,32,118,97,114,32,119,104,105,108,101]
def Fu:List (List UInt8):=Lib.fields NR
def NS:∀ (j:Nat) (b:UInt8),NR[j]?=ς b->b.toNat<128:=by
 intro j b h;have a:∀ b∈NR,b.toNat<128:=by decide +kernel
 exact a b (Lm h)
def D5:List ByteArray:=Fu.map λl=>⟨l.toArray⟩
structure C8 (w:Ϣ):Prop where
 space:Lib.TabIs prog w "strings.asciiSpace" .u8 Lib.asciiSpaceTab
 tz:TabAt 0 Lib.deBruijn64tab w
def S6 {n:String} {k:IntKind} {c:List Int} (h:Lib.TabIs prog w n k c) (d:ϐ w w w'):Lib.TabIs prog w' n k c:=by
 unfold Lib.TabIs World.var? at *
 cases a:prog.globalNamed n with
 | none=>rw [a] at h;cases h
 | some g=>
  rw [a] at h;simp only [Option.bind_some] at h ⊢;cases b:w.heap[g]? with
  | none=>rw [b] at h;cases h
  | some o=>rw [d.block g (La b)];exact h
def C8.below (h:C8 w) (a:ϐ w w w'):C8 w':=⟨S6 h.space a,λj b=>AB a (h.tz j b)⟩
def NQ (w:Ϣ) (a:C8 w) :
  ϙ prog 173 #[] w λe w'=>e=.returned (σ (ς (π w 0)) D5 D5.length)/\w'=w.alloc (χ (D5.map .string).toArray 9):=by
 have c:=Lh a;clear a;go_enter func173,ntmps173;go_wp2_with fail;refine (strings_Fields_laid ⟨NR.toArray⟩ _ δ (λj b h=>NS j b h) c.o.space).mono ?_;rintro e w' ⟨rfl,rfl⟩;go_wp2;go_ret;exact ⟨by simp [D5,Fu],by simp [D5,Fu];rfl⟩
def QE:My D5:=by
 have h:∀ i,i<32->∀ j,j<32->i<j->(match Fu[i]?,Fu[j]? with|some a,some b=>Op.bytesLess a b|_,_=>ϑ)=ϑ:=by decide +kernel
 have m:Fu.length=31:=by decide +kernel
 intro i j a b g c d;unfold D5 at c d;rw [List.getElem?_map] at c d;cases e:Fu[i]? with
 | none=>rw [e] at c;cases c
 | some x=>
  cases f:Fu[j]? with
  | none=>rw [f] at d;cases d
  | some y=>
   rw [e] at c;rw [f] at d;simp at c d;subst c d;have k:=(Ll e)
   have l:=(Ll f)
   have:=h i ω j ω g;rw [e,f] at this;unfold Bx;rw [ByteArray.toList_eq,ByteArray.toList_eq];simpa using this
def Oa (s:ByteArray):Bool:=Dn D5 s
def ID (s:ByteArray) (w:Ϣ) (a:C8 w) :
  ϙ prog 153 #[.string s] w λe w'=>e=.returned (.bool (Oa s))/\ϐ w w w':=by
 have c:=Lh a;clear a;have b:∀ W:Ϣ,AE (W+1) (W.alloc (χ (D5.map .string).toArray 9)) 1 M8 (σ (ς (π W 0)) D5 D5.length) D5:=by intro W;refine ⟨_,_,rfl,by decide +kernel,Nr _,by decide +kernel,.inr ⟨_,_,rfl,ω,λi x f=>?_⟩⟩;unfold M8;rw [cell_of_row _ _ _ _ _ _ (Hn _ _)];simp [f]
 have d:=Lh b;clear b;go_enter func153,ntmps153;go_wp2_with fail;refine (NQ _ c.o).mono ?_;rintro e w' ⟨rfl,rfl⟩;go_wp2_with fail;refine (Jd D5 s _ _ _ (d.o w) QE (Lp s)).mono ?_;rintro e w' ⟨i,rfl,rfl⟩;go_wp2;go_ret;exact ⟨rfl,Br.alloc (Nr _) _⟩
def Gi (s:ByteArray):Bool:=
 decide (0<s.size) && decide (s.size<=40) && decide (Az ((s.toList.headD 0).toNat:Int)=2) && !Oa s && s.toList.all λc=>decide (2<=Az (c.toNat:Int))
def Ie (s:ByteArray):s.toList.length=s.size:=by rw [ByteArray.toList_eq];simp
def Jq (s:ByteArray) (k:Nat) (h:k<s.size):s.toList[k]?=ς s[k]:=by
 rw [ByteArray.toList_eq];have:k<s.data.toList.length:=by simpa using h
 rw [Lg this];rfl
def Ob (h:¬0<s.size):Gi s=ϝ:=by unfold Gi;simp [h]
def Oc (h:¬s.size<=40):Gi s=ϝ:=by unfold Gi;simp [h]
def RP (c:0<s.size):s.toList.headD 0=s[0]:=by
 have:=Jq s 0 c;cases b:s.toList with
 | nil=>rw [b] at this;cases this
 | cons a l=>rw [b] at this;simpa using this
def Od (a:0<s.size) (h:¬Az (s[0].toNat:Int)=2):Gi s=ϝ:=by unfold Gi;rw [RP a];simp [h]
def Oe (h:Oa s=ϑ):Gi s=ϝ:=by unfold Gi;simp [h]
def Of (k:Nat) (a:k<s.size) (h:Az (s[k].toNat:Int)<2):Gi s=ϝ:=by
 unfold Gi;have:(s.toList.all λc=>decide (2<=Az (c.toNat:Int)))=ϝ:=by rw [List.all_eq_false];exact ⟨s[k],Lm (Jq s k a),by simp;omega⟩
 rw [this,Bool.and_false]
def Og (d:0<s.size) (e:s.size<=40) (f:Az (s[0].toNat:Int)=2) (g:Oa s=ϝ) (h:∀ k (a:k<s.size),2<=Az (s[k].toNat:Int)):Gi s=ϑ:=by
 unfold Gi;have:(s.toList.all λc=>decide (2<=Az (c.toNat:Int)))=ϑ:=by
  rw [List.all_eq_true];intro c i;obtain ⟨k,a,rfl⟩:=List.getElem_of_mem i;have b:k<s.size:=by rw [Ie] at a;exact a
  have:=Jq s k b;rw [Lg a] at this;simp at this;rw [this];simpa using h k b
 rw [this,RP d];simp [d,e,f,g]
def QD (s:ByteArray) (w:Ϣ) (q:C8 w) (hs:s.size<=140737488355328) :
  ϙ prog 122 #[.string s] w λe w'=>e=.returned (.bool (Gi s))/\ϐ w w w':=by
 have n:=Lh q;clear q;by_cases l:0<s.size
 .have e0:s.toList.isEmpty=ϝ:=by have:=Ie s;cases m:s.toList with|nil=>rw [m] at this;simp at this;omega|cons _ _=>rfl
  by_cases p:s.size<=40
  .have e1:=θ (40<(s.size:Int))
   by_cases b:Az (s[0].toNat:Int)=2
   .have e2:(Az (s[0].toNat:Int) != 2)=ϝ:=by simp [b]
    have r:=Lh b;clear b;cases c:Oa s with
    | true=>have a:=Lh (Oe c);have f:=Lh c;clear c;go_enter func122,ntmps122;go_wp2_with fail;refine (Hg _ _).mono ?_;rintro e w' ⟨rfl,rfl⟩;go_wp2_with fail;refine (ID _ _ n.o).mono ?_;rintro e w' ⟨rfl,g⟩;rw [f.o];go_wp2;go_ret;exact ⟨by rw [a.o];rfl,g⟩
    | false=>
     have f:=Lh c;clear c;go_enter func122,ntmps122;go_wp2_with fail;refine (Hg _ _).mono ?_;rintro e w' ⟨rfl,rfl⟩;go_wp2_with fail;refine (ID _ _ n.o).mono ?_;rintro e w' ⟨rfl,g⟩;rw [f.o];go_wp2_with fail
     go_loop [23] (λi=>∃ k:Nat,k<=s.size/\i=ι k/\Hid (∀ j (d:j<s.size),j<k->2<=Az (s[j].toNat:Int))) (λi=>s.size - (intOf i).toNat)
     case atStart=>exact ⟨0,Nat.zero_le _,rfl,λj d h=>by omega⟩
     case round=>
      obtain ⟨k,y,rfl,o⟩:=hrel;by_cases u:k<s.size
      .go_wp2_with fail
       refine (Hg _ _).mono ?_;rintro e x ⟨rfl,rfl⟩;by_cases v:Az (s[k].toNat:Int)<2
       .have a:=Lh (Of k u v)
        go_wp2;go_ret;exact ⟨by rw [a.o];rfl,g⟩
       .go_wp2
        go_round
        case rel=>exact ⟨k+1,ω,by go_num,λj d h=>by
         by_cases t:j=k
         .subst t;omega
         .exact o j d ω⟩
        case measure=>simp [intOf];omega
      .have a:=Lh (Og l p r.o f.o (λj d=>o j d ω))
       go_wp2;go_ret;exact ⟨by rw [a.o];rfl,g⟩
   .have e2:(Az (s[0].toNat:Int) != 2)=ϑ:=by simp [b]
    have a:=Lh (Od l b);go_enter func122,ntmps122;go_wp2_with fail;refine (Hg _ _).mono ?_;rintro e w' ⟨rfl,rfl⟩;go_wp2;go_ret;exact ⟨by rw [a.o];rfl,Below.refl _ _⟩
  .have a:=Lh (Oc p)
   go_enter func122,ntmps122;go_wp2;go_ret;exact ⟨by rw [a.o];rfl,Below.refl _ _⟩
 .have e0:s.toList.isEmpty=ϑ:=by have:=Ie s;cases m:s.toList with|nil=>rfl|cons _ _=>rw [m] at this;simp at this;omega
  have a:=Lh (Ob l);go_enter func122,ntmps122;go_wp2;go_ret;exact ⟨by rw [a.o];rfl,Below.refl _ _⟩
def I9:An 121:=λ_ _=>by kernel_rfl
def NJ:An 124:=λ_ _=>by kernel_rfl
def SL (n:Int) (w:Ϣ) :
  ϙ prog 121 #[ι n] w λe w'=>e=.returned (.bool (decide (n<0\/12<n)))/\w=w':=by
 go_enter func121,ntmps121;go_wp2;all_goals (go_ret;exact ⟨Ca (by simp;try omega),rfl⟩)
def SM (d a:ByteArray) (p l r c:ϒ) (b:Nat) (w:Ϣ) (f:b<w) (h:w.cell? (π b 0)=ς (.string a)) :
  ϙ prog 124 #[.agg #[.string d,p,l,r,c],.pointer (ς (π b 0))] w λe w'=>e=.returned (.bool (CM d a))/\ϐ w w w':=by
 have g:(w.alloc (χ #[.string d,p,l,r,c] 70)).cell? (π b 0)=ς (.string a):=by rw [World.cell?_alloc_past _ _ _ f];exact h
 go_enter func124,ntmps124;go_wp2;go_ret;exact ⟨rfl,Br.alloc (Nr _) _⟩
def CX (x:BK):Prop:=0<=x.params/\x.params<=6/\x.params<=x.L/\x.L<=100/\1<=x.code.length/\x.code.length<=1048576
def Ir (c:AQ) (i:Nat) (x:BK):Prop:=Gi x.name=ϑ/\CX x/\(c.funcs.take i).any (λg=>CM g.name x.name)=ϝ
def Jy (c:AQ):Prop:=c.H.length<=12/\c.H.any (λn=>decide (n<0\/12<n))=ϝ/\0<=c.G/\c.G<=8/\c.funcs.length<=40/\∀ i x,c.funcs[i]?=ς x->Ir c i x
noncomputable def GX (c:AQ):Bool:=@decide (Jy c) (Classical.propDecidable _)
def FP (h:Jy c):GX c=ϑ:=by unfold GX;exact @decide_eq_true _ (Classical.propDecidable _) h
def Bs (h:¬Jy c):GX c=ϝ:=by unfold GX;exact @decide_eq_false _ (Classical.propDecidable _) h
def OZ (w:Ϣ):∀ (x:Int) (a:Ϣ) (b:ϒ),ϐ w w a->Ny 0 a b x->ϙ prog 121 (#[b]++#[]) a (λe c=>e=.returned (.bool (decide (x<0\/12<x)))/\ϐ a a c):=by
 rintro x a b _ ⟨rfl,_⟩;exact (SL x a).mono λe c ⟨d,f⟩=>⟨d,f▸Below.refl _ _⟩
def UE (d:ByteArray) (b:Nat) (B:Nat) (w:Ϣ) (g:b<w) (h:w.cell? (π b 0)=ς (.string d)):∀ (x:BK) (a:Ϣ) (c:ϒ),ϐ w w a->EI B a c x->ϙ prog 124 (#[c]++#[.pointer (ς (π b 0))]) a (λe i=>e=.returned (.bool (CM x.name d))/\ϐ a a i):=by
 rintro x a c f ⟨j,rfl,_⟩;exact SM x.name d _ _ _ _ b a (by have:=f.size;omega) (by rw [f.cell (p:=(π b 0)) g];exact h)
def LH (c:AQ) (N:ϒ) (B:Nat) (w:Ϣ) (P:C8 w) (A:B<=w) (hc:BF B w N c) :
  ϙ prog 84 #[N] w λe w'=>e=.returned (.bool (GX c))/\ϐ w w w':=by
 obtain ⟨fv,gv,rfl,Q,hg,aY⟩:=hc;have W:=Lh P;have u:=Lh Q;obtain ⟨fa,Z,rfl,bF,_,_,_⟩:=Q;obtain ⟨ga,H,rfl,aM,aN,aO,L⟩:=hg;have aU:=Lh L;clear P L;unfold in64 at aY;by_cases O:c.H.length<=12
 .have aW:ϐ B w (w.alloc (χ (Bc fa Z ga H c) 25)):=Br.alloc A _
  have u:=Lh (u.o.ints aW);cases p:c.H.any (λn=>decide (n<0\/12<n)) with
  | true=>have a:=Lh (Bs (c:=c) (λh=>by rw [h.2.1] at p;cases p));have t:=Lh p;clear p;go_enter func84,ntmps84;go_wp2_with fail;refine (BT 121 #[] _ c.H _ B _ I9 φ u.o (OZ _)).mono ?_;rintro e w' ⟨rfl,g⟩;rw [t.o];go_wp2;go_ret;exact ⟨by rw [a.o];rfl,As g⟩
  | false=>
   have t:=Lh p;clear p;have bB:Hid (¬(0<=c.G/\c.G<=8/\c.funcs.length<=40)->GX c=ϝ):=λh=>Bs (c:=c) (λG=>h ⟨G.2.2.1,G.2.2.2.1,G.2.2.2.2.1⟩);go_enter func84,ntmps84;go_wp2_with fail;refine (BT 121 #[] _ c.H _ B _ I9 φ u.o (OZ _)).mono ?_;rintro e w' ⟨rfl,g⟩;rw [t.o];have R:=Cc g 1 _ rfl;have S:=Cc g 2 _ rfl;by_cases h3:0<=c.G/\c.G<=8/\c.funcs.length<=40
   .obtain ⟨h4,h5,h6⟩:=h3
    have e1:=θ (c.G<0);have e2:=θ (8<c.G);have e3:=θ (40<(c.funcs:Int));go_wp2_with fail;go_loopw [33] (λi wr=>∃ k:Nat,k<=c.funcs.length/\i=ι k/\ϐ w' w' wr/\Hid (∀ j x,j<k->c.funcs[j]?=ς x->Ir c j x)) (λi _=>c.funcs.length - (intOf i).toNat)
    case atStart=>exact ⟨0,Nat.zero_le _,rfl,Below.refl _ _,λj x hj=>by omega⟩
    case round=>
     obtain ⟨k,hk,rfl,q,I⟩:=hrel;have m:=(As g).trans (q.mono (As g).size);have bC:=AB q R;have M:=AB q S;by_cases bA:k<c.funcs.length
     .obtain ⟨x,d⟩:∃ x,c.funcs[k]?=ς x:=⟨_,Lg bA⟩
      rcases aU.o with h|⟨b,o,rfl,F,C⟩
      .rw [h] at d;simp at d
      have V:=Lh C;have C:=(C k x d).below (m.mono A) F;obtain ⟨g1,g2,g3,g4,⟨xv,g5,g6⟩,g7,g8,g9⟩:=C;obtain ⟨xa,bD,rfl,bE,_,_,_⟩:=g6;have v:=Lh d;clear d;unfold in64 at g8 g9;clear R S;go_wp2_with fail;refine (QD _ _ (W.o.below (m.trans ((Br.alloc (Nr _) _).mono m.size))) g7).mono ?_;rintro e w2 ⟨rfl,f⟩;have l:=m.trans ((As f).mono m.size);have J:=q.trans ((As f).mono q.size);have U:=Cc f 0 _ rfl;have q1:=Cc f 1 _ rfl;have q2:=Cc f 2 _ rfl;have q4:=Cc f 4 _ rfl;have T:=keepA f M;clear bC M g1 g2 g3 g4 g5;cases s:Gi x.name with
      | false=>have a:=Lh (Bs (c:=c) (λh=>by rw [(h.2.2.2.2.2 k x v.o).1] at s;cases s));clear s;go_wp2;go_ret;exact ⟨by rw [a.o];rfl,l⟩
      | true=>
       have X:=Lh s;clear s;by_cases z:CX x
       .have aV:=Lh z
        obtain ⟨o1,o2,o3,o4,o5,o6⟩:=z;have d1:=θ (x.params<0);have d2:=θ (6<x.params);have d3:=θ (x.L<x.params);have d4:=θ (100<x.L);have d5:=θ ((x.code:Int)<1);have d6:=θ (1048576<(x.code:Int));have Y:=Lh (AE.take (cap:=H) (E:=CW B) k hk aM aN aO F (λi y D=>(V.o i y D).below (l.mono A) F));go_wp2_with fail;refine (Fc 124 #[_] _ _ _ B _ NJ (Nt A l.size) Y.o (UE x.name wr B _ (Bl U) U)).mono ?_;rintro e w4 ⟨rfl,K⟩;have aX:=l.trans (K.mono l.size);have aL:=J.trans (K.mono J.size);cases r:(c.funcs.take k).any (λy=>CM y.name x.name) with
        | true=>have a:=Lh (Bs (c:=c) (λh=>by rw [(h.2.2.2.2.2 k x v.o).2.2] at r;cases r));clear r;go_wp2;go_ret;exact ⟨by rw [a.o];rfl,aX⟩
        | false=>
         have aP:Hid (∀ j y,j<k+1->c.funcs[j]?=ς y->Ir c j y):=by
          intro j y hj D;by_cases aZ:j=k
          .subst aZ;obtain rfl:x=y:=by simpa using v.o.symm.trans D
           exact ⟨X.o,aV.o,r⟩
          .exact I j y ω D
         clear r;go_wp2;go_roundw
         case rel=>exact ⟨k+1,ω,by go_num,aL,aP⟩
         case measure=>simp [intOf];omega
       .have aQ:=Lh (Bs (c:=c) (λh=>z (h.2.2.2.2.2 k x v.o).2.1))
        go_wp2_with fail;all_goals first
         | (exfalso;apply z;unfold CX;omega)
         | (go_ret;exact ⟨by rw [aQ.o];rfl,l⟩)
     .have a:=Lh (FP (c:=c) ⟨O,t.o,h4,h5,h6,λi x d=>I i x (by have:=(Ll d);omega) d⟩)
      go_wp2;go_ret;exact ⟨by rw [a.o];rfl,m⟩
   .go_wp2_with fail
    all_goals
     go_ret;exact ⟨by rw [bB.o ω];rfl,As g⟩
 .have a:=Lh (Bs (c:=c) (λh=>O h.1))
  go_enter func84,ntmps84;go_wp2;go_ret;exact ⟨by rw [a.o];rfl,Br.alloc (Nr _) _⟩
def Ey (c:AQ) (f:BK) (op:Int):Option Int:=if op=2 then ς f.L else if op=3 then ς f.L else if op=4 then ς c.G else if op=5 then ς c.G else if op=6 then ς 12 else if op=7 then ς 12 else if op=8 then ς (c.H:Int) else if op=9 then ς (c.funcs:Int) else if op=11 then ς (f.code:Int) else if op=12 then ς (f.code:Int) else none
def Ct (c:AQ) (f:BK) (x:Cd):Bool:=
 if x.op<1\/31<x.op then ϝ else match Ey c f x.op with
 | some n=>decide (0<=x.a/\x.a<n)
 | none=>if x.op=1 then decide (-1099511627776<=x.a/\x.a<=1099511627776) else decide (x.a=0)
def X8 (w:Ϣ) (A:Array ϒ) (T:TypeId) (B C:Obj) (j:Nat):(((w.alloc (χ A T)).alloc B).alloc C).cell? (π w j)=A[j]?:=by
 rw [World.cell?_alloc_past,World.cell?_alloc_past,B6]<;>(simp;try omega)
def YM (w:Ϣ) (A:Obj) (B:Array ϒ) (T:TypeId) (C:Obj) (j:Nat):(((w.alloc A).alloc (χ B T)).alloc C).cell? (π (w+1) j)=B[j]?:=by
 rw [World.cell?_alloc_past,World.cell?_alloc_at]<;>simp
def X0 (w:Ϣ) (A B:Obj) (C:Array ϒ) (T:TypeId) (j:Nat):(((w.alloc A).alloc B).alloc (χ C T)).cell? (π (w+1+1) j)=C[j]?:=by
 rw [World.cell?_alloc_at];simp
def Ef (W:Ϣ) (b:Array MapEntry) (a:Nat) (k:Int) (v:ϒ) (h:Instr.findNow (.int .i64) (ι k) b.toList 0=ς none) :
  (Instr.mapUpdate 204 (.map (ς (W:Nat))) (ι k) v).run prog (W.alloc (.map b a))=.ok () (W.alloc (.map (b.push ⟨ι k,v,a⟩) (a+1))):=by
 have d:(W.alloc (.map b a)).heap[(W:Nat)]?=ς (.map b a):=Hn _ _;have e:∀ o,({ W.alloc (.map b a) with heap:=(W.alloc (.map b a)).heap.setIfInBounds (W:Nat) o }:Ϣ)=W.alloc o:=by
  intro o;have:(W.heap.push (.map b a)).setIfInBounds (W:Nat) o=W.heap.push o:=by
   apply Array.ext_getElem?;intro i;rw [Array.getElem?_setIfInBounds,Array.getElem?_push,Array.getElem?_push];by_cases c:(W:Nat)=i
   .subst c;simp
   .rw [if_neg c,if_neg (λh=>c h.symm),if_neg (λh=>c h.symm)]
  show ({ W with heap:=(W.heap.push (.map b a)).setIfInBounds (W:Nat) o }:Ϣ)=_;rw [this];rfl
 simp [Instr.mapUpdate,run_underlying underlying204,MapKept.run_getObj_map d,MapKept.run_checkKey underlying3 (k:=ι k) rfl,MapKept.run_findKey underlying3 h,MapKept.run_setObj_map _ d,Result.andThen];exact e _
def XJ (W:Ϣ) (b:Array MapEntry) (a:Nat) (k:Int) (r:Option (Nat×ϒ)) (h:Instr.findNow (.int .i64) (ι k) b.toList 0=ς r) :
  (Instr.lookup 204 (.map (ς (W:Nat))) (ι k) ϑ).run prog (W.alloc (.map b a))=.ok (.tuple #[match r with|some (_,v)=>v|none=>ι 0,.bool r.isSome]) (W.alloc (.map b a)):=by
 have c:(W.alloc (.map b a)).heap[(W:Nat)]?=ς (.map b a):=Hn _ _;cases r with
 | none=>simp [Instr.lookup,run_underlying underlying204,MapKept.run_getObj_map c,MapKept.run_checkKey underlying3 (k:=ι k) rfl,MapKept.run_findKey underlying3 h,Result.andThen,zeroValue3]
 | some r=>simp [Instr.lookup,run_underlying underlying204,MapKept.run_getObj_map c,MapKept.run_checkKey underlying3 (k:=ι k) rfl,MapKept.run_findKey underlying3 h,Result.andThen]
def Ji (c:AQ) (f:BK):Array MapEntry:=#[⟨ι 2,ι f.L,0⟩,⟨ι 3,ι f.L,1⟩,⟨ι 4,ι c.G,2⟩,⟨ι 5,ι c.G,3⟩,⟨ι 6,ι 12,4⟩,⟨ι 7,ι 12,5⟩,⟨ι 8,ι (c.H:Int),6⟩,⟨ι 9,ι (c.funcs:Int),7⟩,⟨ι 11,ι (f.code:Int),8⟩,⟨ι 12,ι (f.code:Int),9⟩]
def UJ (c:AQ) (f:BK) (a:Int):∃ r,Instr.findNow (.int .i64) (ι a) (Ji c f).toList 0=ς r/\r.map (·.2)=(Ey c f a).map (.int .i64):=by
 simp only [Ji,Instr.findNow,Instr.sameNow];unfold Ey;by_cases e:a=2
 .subst e;simp
 by_cases g:a=3
 .subst g;simp
 by_cases i:a=4
 .subst i;simp
 by_cases j:a=5
 .subst j;simp
 by_cases k:a=6
 .subst k;simp
 by_cases l:a=7
 .subst l;simp
 by_cases m:a=8
 .subst m;simp
 by_cases o:a=9
 .subst o;simp
 by_cases b:a=11
 .subst b;simp
 by_cases d:a=12
 .subst d;simp
 have:∀ n,a≠n->(a == n)=ϝ:=λn h=>by simpa using h
 simp [this _ e,e,this _ g,g,this _ i,i,this _ j,j,this _ k,k,this _ l,l,this _ m,m,this _ o,o,this _ b,b,this _ d,d]
def Ol (W:Ϣ):(Instr.makeMap 204 none).run prog W=.ok (.map (ς (W:Nat))) (W.alloc (.map #[] 0)):=by simp [Instr.makeMap]
def Vt (c:AQ) (f:BK) (b:Int) (W:Ϣ) :
  (Instr.lookup 204 (.map (ς (W:Nat))) (ι b) ϑ).run prog (W.alloc (.map (Ji c f) 10)) =
   .ok (.tuple #[ι ((Ey c f b).getD 0),.bool (Ey c f b).isSome]) (W.alloc (.map (Ji c f) 10)):=by
 obtain ⟨r,h,a⟩:=UJ c f b;rw [XJ W (Ji c f) 10 b r h];cases r with
 | none=>cases d:Ey c f b with
  | none=>rfl
  | some n=>rw [d] at a;cases a
 | some r=>cases d:Ey c f b with
  | none=>rw [d] at a;cases a
  | some n=>rw [d] at a;simp at a;simp [a]
def Ow (c:AQ) (l:ϒ) (f:BK) (fv:ϒ) (x:Cd) (s:ϒ) (B:Nat) (w:Ϣ) (E:BF B w l c) (F:EI B w fv f) (H:IV B w s x) :
  ϙ prog 127 #[l,fv,s] w λe w'=>e=.returned (.bool (Ct c f x))/\ϐ w w w':=by
 obtain ⟨fv,S,rfl,t,u,O⟩:=E;obtain ⟨X,rfl,G,U,V,Q⟩:=F;obtain ⟨rfl,R,T⟩:=H;obtain ⟨m,b,rfl,N,-,-,-⟩:=t;obtain ⟨p,d,rfl,K,L,M,v⟩:=u;obtain ⟨r,g,rfl,P,-,-,-⟩:=G;clear v;unfold in64 at *
 go_enter func127,ntmps127;go_wp2_with fail;obtain ⟨W,a⟩:=ε ((((w.alloc (χ (Bc m b p d c) 25)).alloc (χ #[.string f.name,ι f.params,ι f.L,.bool f.result,σ r f.code g] 70)).alloc (χ #[ι x.op,ι x.a] 96)));have h:ϐ w w W:=by rw [a];exact ((Br.alloc (Nr _) _).alloc ψ _).alloc φ _
 have y:∀ o,(W.alloc o).cell? (π w 0)=ς (σ m c.H b):=λo=>by rw [World.cell?_alloc_past];(· rw [a,X8];rfl);(· rw [a];simp;try omega)
 have z:∀ o,(W.alloc o).cell? (π w 1)=ς (ι c.G):=λo=>by rw [World.cell?_alloc_past];(· rw [a,X8];rfl);(· rw [a];simp;try omega)
 have A:∀ o,(W.alloc o).cell? (π w 2)=ς (σ p c.funcs d):=λo=>by rw [World.cell?_alloc_past];(· rw [a,X8];rfl);(· rw [a];simp;try omega)
 have C:∀ o,(W.alloc o).cell? (π (w+1) 2)=ς (ι f.L):=λo=>by rw [World.cell?_alloc_past];(· rw [a,YM];rfl);(· rw [a];simp;try omega)
 have D:∀ o,(W.alloc o).cell? (π (w+1) 4)=ς (σ r f.code g):=λo=>by rw [World.cell?_alloc_past];(· rw [a,YM];rfl);(· rw [a];simp;try omega)
 have I:∀ o,(W.alloc o).cell? (π (w+1+1) 0)=ς (ι x.op):=λo=>by rw [World.cell?_alloc_past];(· rw [a,X0];rfl);(· rw [a];simp;try omega)
 have J:∀ o,(W.alloc o).cell? (π (w+1+1) 1)=ς (ι x.a):=λo=>by rw [World.cell?_alloc_past];(· rw [a,X0];rfl);(· rw [a];simp;try omega)
 rw [<-a];clear a;have u2:=Ef W #[] 0 2 (ι f.L) (by simp [Instr.findNow,Instr.sameNow]);simp only [List.push_toArray,List.cons_append,List.nil_append,Nat.reduceAdd] at u2;have u3:=Ef W #[⟨ι 2,ι f.L,0⟩] 1 3 (ι f.L) (by simp [Instr.findNow,Instr.sameNow]);simp only [List.push_toArray,List.cons_append,List.nil_append,Nat.reduceAdd] at u3;have u4:=Ef W #[⟨ι 2,ι f.L,0⟩,⟨ι 3,ι f.L,1⟩] 2 4 (ι c.G) (by simp [Instr.findNow,Instr.sameNow]);simp only [List.push_toArray,List.cons_append,List.nil_append,Nat.reduceAdd] at u4;have u5:=Ef W #[⟨ι 2,ι f.L,0⟩,⟨ι 3,ι f.L,1⟩,⟨ι 4,ι c.G,2⟩] 3 5 (ι c.G) (by simp [Instr.findNow,Instr.sameNow]);simp only [List.push_toArray,List.cons_append,List.nil_append,Nat.reduceAdd] at u5;have u6:=Ef W #[⟨ι 2,ι f.L,0⟩,⟨ι 3,ι f.L,1⟩,⟨ι 4,ι c.G,2⟩,⟨ι 5,ι c.G,3⟩] 4 6 (ι 12) (by simp [Instr.findNow,Instr.sameNow]);simp only [List.push_toArray,List.cons_append,List.nil_append,Nat.reduceAdd] at u6;have u7:=Ef W #[⟨ι 2,ι f.L,0⟩,⟨ι 3,ι f.L,1⟩,⟨ι 4,ι c.G,2⟩,⟨ι 5,ι c.G,3⟩,⟨ι 6,ι 12,4⟩] 5 7 (ι 12) (by simp [Instr.findNow,Instr.sameNow]);simp only [List.push_toArray,List.cons_append,List.nil_append,Nat.reduceAdd] at u7;have u8:=Ef W #[⟨ι 2,ι f.L,0⟩,⟨ι 3,ι f.L,1⟩,⟨ι 4,ι c.G,2⟩,⟨ι 5,ι c.G,3⟩,⟨ι 6,ι 12,4⟩,⟨ι 7,ι 12,5⟩] 6 8 (ι (c.H:Int)) (by simp [Instr.findNow,Instr.sameNow]);simp only [List.push_toArray,List.cons_append,List.nil_append,Nat.reduceAdd] at u8;have u9:=Ef W #[⟨ι 2,ι f.L,0⟩,⟨ι 3,ι f.L,1⟩,⟨ι 4,ι c.G,2⟩,⟨ι 5,ι c.G,3⟩,⟨ι 6,ι 12,4⟩,⟨ι 7,ι 12,5⟩,⟨ι 8,ι (c.H:Int),6⟩] 7 9 (ι (c.funcs:Int)) (by simp [Instr.findNow,Instr.sameNow]);simp only [List.push_toArray,List.cons_append,List.nil_append,Nat.reduceAdd] at u9;have j:=Ef W #[⟨ι 2,ι f.L,0⟩,⟨ι 3,ι f.L,1⟩,⟨ι 4,ι c.G,2⟩,⟨ι 5,ι c.G,3⟩,⟨ι 6,ι 12,4⟩,⟨ι 7,ι 12,5⟩,⟨ι 8,ι (c.H:Int),6⟩,⟨ι 9,ι (c.funcs:Int),7⟩] 8 11 (ι (f.code:Int)) (by simp [Instr.findNow,Instr.sameNow]);simp only [List.push_toArray,List.cons_append,List.nil_append,Nat.reduceAdd] at j;have k:=Ef W #[⟨ι 2,ι f.L,0⟩,⟨ι 3,ι f.L,1⟩,⟨ι 4,ι c.G,2⟩,⟨ι 5,ι c.G,3⟩,⟨ι 6,ι 12,4⟩,⟨ι 7,ι 12,5⟩,⟨ι 8,ι (c.H:Int),6⟩,⟨ι 9,ι (c.funcs:Int),7⟩,⟨ι 11,ι (f.code:Int),8⟩] 9 12 (ι (f.code:Int)) (by simp [Instr.findNow,Instr.sameNow]);simp only [List.push_toArray,List.cons_append,List.nil_append,Nat.reduceAdd] at k;have mk:=Ol W;have i:=Vt c f x.op W;unfold Ji at i;rw [mk];simp only [Result.andThen_ok,Oper.upon_value];go_wp2_with fail;all_goals
  clear i mk u2 u3 u4 u5 u6 u7 u8 u9 j k y z A C D I J;go_ret;refine ⟨Ca ?_,h.trans ((Br.alloc (Nr _) _).mono h.size)⟩;unfold Ct;first
   | (rw [if_pos ω])
   | (
    rw [if_neg ω];try simp only [beq_iff_eq,beq_eq_false_iff_ne] at *
    cases q:Ey c f x.op with
    | none=>
     simp only [q] at *
     first
      | (exfalso;simp at *;done)
      | (rw [if_pos (by assumption)];rw [Bool.eq_iff_iff];simp;try omega)
      | (rw [if_neg (by assumption)];rw [Bool.eq_iff_iff];simp;try omega)
    | some n=>
     simp only [q] at *
     first
      | (exfalso;simp at *;done)
      | (rw [Bool.eq_iff_iff];simp;try omega))
def L3:An 126:=λ_ _=>by kernel_rfl
def Qs (c:AQ) (f:BK) (x:Cd) (d fs:List ϒ) (o:ϒ) (j k B:Nat) (w:Ϣ) (b:AR w j d) (a:AR w k fs) (m:BF B w (.agg d.toArray) c) (n:EI B w (.agg fs.toArray) f) (y:IV B w o x) (l:B<=w) :
  ϙ prog 126 #[o,.pointer (ς (π j 0)),.pointer (ς (π k 0))] w λe w'=>e=.returned (.bool (!Ct c f x))/\ϐ w w w':=by
 have i:=AA w (χ #[ι x.op,ι x.a] 96);have p:=Lh (m.below (i.mono l));have q:=Lh (n.below (i.mono l));obtain ⟨rfl,r,u⟩:=y;obtain ⟨s,t,g,-⟩:=m;obtain ⟨z,h,-⟩:=n;simp only [Value.agg.injEq] at g h;obtain rfl:d=[s,ι c.G,t]:=by simpa using congrArg Array.toList g
 obtain rfl:fs=[.string f.name,ι f.params,ι f.L,.bool f.result,z]:=by simpa using congrArg Array.toList h
 clear g h;have A:=b.alloc (χ #[ι x.op,ι x.a] 96) 0 _ rfl;have C:=b.alloc (χ #[ι x.op,ι x.a] 96) 1 _ rfl;have D:=b.alloc (χ #[ι x.op,ι x.a] 96) 2 _ rfl;have E:=a.alloc (χ #[ι x.op,ι x.a] 96) 0 _ rfl;have F:=a.alloc (χ #[ι x.op,ι x.a] 96) 1 _ rfl;have G:=a.alloc (χ #[ι x.op,ι x.a] 96) 2 _ rfl;have H:=a.alloc (χ #[ι x.op,ι x.a] 96) 3 _ rfl;have I:=a.alloc (χ #[ι x.op,ι x.a] 96) 4 _ rfl;clear b a;go_enter func126,ntmps126;go_wp2_with fail;refine (Ow c _ f _ x _ B _ p.o q.o ⟨rfl,r,u⟩).mono ?_;rintro e w' ⟨rfl,v⟩;go_wp2;go_ret;exact ⟨rfl,As v⟩
def Dl (c:AQ):Bool:=c.funcs.any λf=>f.code.any λx=>!Ct c f x
def RD (b:Bool) (w:Ϣ) (e:Ending) (w':Ϣ):Prop:=∃ i k:Int,e=.returned (.tuple #[ι i,ι k,.bool b])/\ϐ w w w'
def Mj {k:Nat} {x:BK} (a:c.funcs[k]?=ς x) (h:(x.code.any λy=>!Ct c x y)=ϑ):Dl c=ϑ:=
 List.any_eq_true.2 ⟨x,Lm a,h⟩
def KK (h:∀ (j:Nat) x,j<c.funcs.length->c.funcs[j]?=ς x->(x.code.any λy=>!Ct c x y)=ϝ):Dl c=ϝ:=by
 unfold Dl;rw [List.any_eq_false];intro x b;obtain ⟨i,a,rfl⟩:=List.getElem_of_mem b;rw [h i _ a (Lg a)];simp
def XH (h:l.any p=ϑ):0<=Cz p l:=by have:=Ci p l;rw [h] at this;simpa using this
def XG (h:l.any p=ϝ):Cz p l<0:=by have:=Ci p l;rw [h] at this;simpa using this
def Mk (c:AQ) (E:ϒ) (B:Nat) (w:Ϣ) (f:B<=w) (I:BF B w E c) :
  ϙ prog 85 #[E] w (RD (Dl c) w):=by
 have L:=Lh I;obtain ⟨F,gv,rfl,-,V,-⟩:=I;obtain ⟨H,u,rfl,X,Y,Z,D⟩:=V;have O:=Lh D;clear D;go_enter func85,ntmps85;go_wp2_with fail;go_loopw [11] (λi wr=>∃ k:Nat,k<=c.funcs.length/\i=ι k/\ϐ (w.alloc (χ #[F,ι c.G,σ H c.funcs u] 25)).heap.size (w.alloc (χ #[F,ι c.G,σ H c.funcs u] 25)) wr/\Hid (∀ (j:Nat) x,j<k->c.funcs[j]?=ς x->(x.code.any λy=>!Ct c x y)=ϝ)) (λi _=>c.funcs.length - (intOf i).toNat)
 case atStart=>exact ⟨0,Nat.zero_le _,rfl,Below.refl _ _,λj x J=>by omega⟩
 case round=>
  obtain ⟨k,hk,rfl,q,v⟩:=hrel;have l:=As q;by_cases R:k<c.funcs.length
  .obtain ⟨x,d⟩:∃ x,c.funcs[k]?=ς x:=⟨_,Lg R⟩
   rcases O.o with h|⟨b,o,rfl,P,r⟩
   .rw [h] at d;simp at d
   have r:=(r k x d).below (l.mono f) P;obtain ⟨g1,g2,g3,g4,⟨xv,g5,G⟩,S,T,U⟩:=r;have t:=Lh d;have s:=Lh G;obtain ⟨K,A,rfl,-,-,-,-⟩:=G;clear d;have m:=l.th (AA wr (χ #[.string x.name,ι x.params,ι x.L,.bool x.result,σ K x.code A] 70));have C:=(Je q).alloc (χ #[.string x.name,ι x.params,ι x.L,.bool x.result,σ K x.code A] 70);have N:=Lh C;clear C;go_wp2_with fail;refine (KP 126 #[_,_] (λy=>!Ct c x y) x.code _ B _ L3 (Nt f m.size) (s.o.inss ((AA _ _).mono (Nt f l.size))) ?_).mono ?_
   .intro y w1 av a n
    exact Qs c x y _ _ av _ _ B w1 (N.o.kp a) (Je a) (L.o.below ((m.th a).mono f)) ⟨_,rfl,(s.o.inss ((As a).mono (Nt f l.size))),S,T,U⟩ n (Nt f (m.th a).size)
   rintro e w2 ⟨rfl,a⟩;cases g:x.code.any (λy=>!Ct c x y) with
   | true=>
    have p:=Lh (Mj t.o g);have W:=XH g;clear g;go_wp2_with fail
    go_ret3
    exact ⟨_,_,by rw [p.o];rfl,m.th a⟩
   | false=>
    have M:Hid (∀ (j:Nat) y,j<k+1->c.funcs[j]?=ς y->(y.code.any λz=>!Ct c y z)=ϝ):=by
     intro j y J n;by_cases Q:j=k
     .subst Q;obtain rfl:x=y:=by simpa using t.o.symm.trans n
      exact g
     .exact v j y ω n
    have W:=XG g;clear g;go_wp2;go_roundw
    case rel=>exact ⟨k+1,ω,by go_num,q.thenA a,M⟩
    case measure=>simp [intOf];omega
  .have p:=Lh (KK (c:=c) (λj x J d=>v j x ω d))
   go_wp2_with fail
   go_ret3
   exact ⟨_,_,by rw [p.o];rfl,l⟩
noncomputable def FO (c:AQ):Bool:=GX c && !Dl c
def Py (c:AQ) (h:ϒ) (B:Nat) (w:Ϣ) (j:C8 w) (f:B<=w) (l:BF B w h c) :
  ϙ prog 165 #[h] w λe w'=>e=.returned (.bool (FO c))/\ϐ w w w':=by
 have g:=Lh l;have m:=Lh j;obtain ⟨o,p,rfl,-,-,-⟩:=l;clear j;go_enter func165,ntmps165;go_wp2_with fail;refine (LH c _ B _ (m.o.below (AA _ _)) φ (g.o.below ((AA _ _).mono f))).mono ?_;rintro e w' ⟨rfl,a⟩;have q:=Cc a 0 _ rfl;have r:=Cc a 1 _ rfl;have s:=Cc a 2 _ rfl;cases b:GX c with
 | false=>
  have d:Hid (FO c=ϝ):=by show _=_;unfold FO;rw [b];rfl
  clear b;go_wp2;go_ret;exact ⟨by rw [d.o];rfl,As a⟩
 | true=>
  have d:Hid (FO c=!Dl c):=by show _=_;unfold FO;rw [b];rfl
  clear b;go_wp2_with fail;refine (Mk c _ B _ (Nt f (As a).size) (g.o.below ((As a).mono f))).mono ?_;rintro e t ⟨i,k,rfl,n⟩;go_wp2;go_ret;exact ⟨by rw [d.o];rfl,(As a).th n⟩
def AG {B:Nat} {a:Ϣ} (h:ϐ B a w) (n:Nat):ϐ B a (w.drewN n):=h.trans ⟨rfl,rfl,rfl,Nr _,λ_ _=>rfl⟩
def D0 (b:Bool):Int:=if b then 1 else 0
def RT (b:Bool) (w:Ϣ) :
  ϙ prog 156 #[.bool b] w λe w'=>e=.returned (ι (D0 b))/\w'=w:=by
 cases b
 .go_enter func156,ntmps156
  go_wp2;go_ret;exact ⟨rfl,rfl⟩
 .go_enter func156,ntmps156
  go_wp2;go_ret;exact ⟨rfl,rfl⟩
def BB (op:Int):Prop:=15<=op/\op<=25\/op=27\/op=28
instance (op:Int):Decidable (BB op):=by unfold BB;exact inferInstance
def Bk (op:Int):Int:=if op=3\/op=5\/op=12\/op=30\/op=6\/op=14\/op=26\/op=29\/op=31 then 1 else if op=7 then 2 else 0
def DI (op:Int):Int:=if op=1\/op=2\/op=4\/op=8\/op=6\/op=14\/op=26\/op=29 then 1 else if op=31 then 2 else 0
def QI:List Int:=[0,0,0,1,0,1,1,0,0,1,1,0,1,1,2,0,0,1,0,0,0,0,0,0,1,0,0,0,1,1,0,0,0,0,0,0,0,0,0,0,0,0,0,0,0,0,0,0,0,0,0,0,1,1,0,0,0,0,1,1,1,0,1,2]
def EO:Array ϒ:=(QI.map (Value.int .i64)).toArray
def SV:∀ k:Nat,k<32->QI[k*2]?=ς (Bk k)/\QI[k*2+1]?=ς (DI k):=δ
def SU (a:Int) (b:0<=a) (e:a<=31):EO[a.toNat*2]?=ς (ι (Bk a))/\EO[a.toNat*2+1]?=ς (ι (DI a)):=by
 obtain ⟨k,rfl⟩:=Int.eq_ofNat_of_zero_le b;obtain ⟨c,d⟩:=SV k ω;unfold EO;simp only [Int.toNat_natCast,List.getElem?_toArray,List.getElem?_map,c,d,Option.map_some];trivial
def Dy {P:Program} {d:Array Oper} {rest:List Oper} {o:Oper} {a:Act} {Q:Exit->Act->Ϣ->Prop} (f:o.guard=none) (t:TypeId) (b:Array (Nat×Operand)) (g:o.op=.build t b)
  (c:Array ϒ) (e:P.built t (b.map λ(i,x)=>(i,a.eval x)).toList=ς c)
  (h:wpList P d Q rest (a.put o.dst (.agg c)) w):wpList P d Q (o::rest) a w:=by
 refine wpList_build f t b g (by rw [e];rfl) ?_;rw [e];exact h
def Hm (W:Ϣ) (n:Nat) (c:Array ϒ) (b:n=(W:Nat)) (a:c.size=64):(storeCells (π n 0) EO.toList 0).run prog (W.alloc (χ c 210))=.ok () (W.alloc (χ EO 210)):=by
 subst b;exact run_storeCells_new W 210 c EO κ (by rw [a];rfl) κ
def Dt (c:AQ) (a:Int):Option BK:=c.funcs[a.toNat]?
def AM (c:AQ) (f:BK) (x:Cd):Int:=
 if x.op=9 then (match Dt c x.a with|some g=>g.params|none=>0) else if x.op=10 then D0 f.result else if BB x.op then 2 else Bk x.op
def AK (c:AQ) (f:BK) (x:Cd):Int:=
 if x.op=9 then (match Dt c x.a with|some g=>D0 g.result|none=>0) else if x.op=10 then 0 else if BB x.op then 1 else DI x.op
def SX (c:AQ) (d:ϒ) (f:BK) (fv:ϒ) (x:Cd) (g:ϒ) (B:Nat) (w:Ϣ) (K:B<=w) (k:BF B w d c) (l:EI B w fv f) (n:IV B w g x) (I:1<=x.op) (J:x.op<=31) (a:x.op=10) :
  ϙ prog 131 #[d,fv,g] w λe w'=>e=.returned (.tuple #[ι (AM c f x),ι (AK c f x)])/\ϐ w w w':=by
 obtain ⟨fv,H,rfl,h,i,y⟩:=k;obtain ⟨P,rfl,m,M,N,A⟩:=l;obtain ⟨rfl,C,L⟩:=n;obtain ⟨F,p,rfl,v,-,-,-⟩:=h;obtain ⟨G,q,rfl,r,s,t,j⟩:=i;obtain ⟨O,u,rfl,z,-,-,-⟩:=m;clear j;unfold in64 at *
 have D:(x.op == 9)=ϝ:=by rw [a];rfl
 have E:(x.op == 10)=ϑ:=by rw [a];rfl
 have b:Hid (AM c f x=D0 f.result/\AK c f x=0):=by
  constructor
  .unfold AM;rw [if_neg ω,if_pos a]
  .unfold AK;rw [if_neg ω,if_pos a]
 clear a;go_enter func131,ntmps131;go_wp2_with (with_reducible refine Dy (o:=⟨ς 25,_,_,_,_,_⟩) rfl 210 _ rfl EO κ ?_);rw [Hm];rotate_left
 .simp
 .rfl
 simp only [Result.andThen_ok,Oper.upon_skip];go_wp2_with fail;refine (RT _ _).mono ?_;rintro e w' ⟨rfl,rfl⟩;go_wp2_with fail
 go_ret2
 exact ⟨by rw [b.o.1,b.o.2];rfl,(((Br.alloc (Nr _) _).alloc ψ _).alloc φ _).alloc φ _⟩
def SZ (c:AQ) (d:ϒ) (f:BK) (fv:ϒ) (x:Cd) (g:ϒ) (B:Nat) (w:Ϣ) (K:B<=w) (k:BF B w d c) (l:EI B w fv f) (n:IV B w g x) (I:1<=x.op) (J:x.op<=31) (a:BB x.op) :
  ϙ prog 131 #[d,fv,g] w λe w'=>e=.returned (.tuple #[ι (AM c f x),ι (AK c f x)])/\ϐ w w w':=by
 obtain ⟨fv,H,rfl,h,i,y⟩:=k;obtain ⟨P,rfl,m,M,N,A⟩:=l;obtain ⟨rfl,C,L⟩:=n;obtain ⟨F,p,rfl,v,-,-,-⟩:=h;obtain ⟨G,q,rfl,r,s,t,j⟩:=i;obtain ⟨O,u,rfl,z,-,-,-⟩:=m;clear j;unfold in64 at *
 unfold BB at a;have D:=ξ x.op 9;have E:=ξ x.op 10;have b:Hid (AM c f x=2/\AK c f x=1):=by
  constructor
  .unfold AM;rw [if_neg ω,if_neg ω,if_pos (by unfold BB;exact a)]
  .unfold AK;rw [if_neg ω,if_neg ω,if_pos (by unfold BB;exact a)]
 go_enter func131,ntmps131;go_wp2_with (with_reducible refine Dy (o:=⟨ς 25,_,_,_,_,_⟩) rfl 210 _ rfl EO κ ?_);rw [Hm];rotate_left
 .simp
 .rfl
 simp only [Result.andThen_ok,Oper.upon_skip];go_wp2_with fail;all_goals first
  | (exfalso;simp only [beq_iff_eq,beq_eq_false_iff_ne] at *;omega)
  | (go_ret2;exact ⟨by rw [b.o.1,b.o.2];rfl,(((Br.alloc (Nr _) _).alloc ψ _).alloc φ _).alloc φ _⟩)
def SY (c:AQ) (n:ϒ) (f:BK) (fv:ϒ) (x:Cd) (r:ϒ) (B:Nat) (w:Ϣ) (Z:B<=w) (F:BF B w n c) (G:EI B w fv f) (I:IV B w r x) (Y:1<=x.op) (E:x.op<=31) (l:¬BB x.op) (b:x.op≠9) (d:x.op≠10) :
  ϙ prog 131 #[n,fv,r] w λe w'=>e=.returned (.tuple #[ι (AM c f x),ι (AK c f x)])/\ϐ w w w':=by
 obtain ⟨fv,X,rfl,y,z,O⟩:=F;obtain ⟨kv,rfl,H,hn,hp,Q⟩:=G;obtain ⟨rfl,R,ha⟩:=I;obtain ⟨C,s,rfl,N,-,-,-⟩:=y;obtain ⟨D,t,rfl,K,L,M,A⟩:=z;obtain ⟨J,u,rfl,P,-,-,-⟩:=H;clear A;unfold in64 at *
 have g:Hid (AM c f x=Bk x.op/\AK c f x=DI x.op):=by
  constructor
  .unfold AM;rw [if_neg b,if_neg d,if_neg l]
  .unfold AK;rw [if_neg b,if_neg d,if_neg l]
 unfold BB at l;have S:=ξ x.op 9;have T:=ξ x.op 10;have U:=ξ x.op 27;have V:=ξ x.op 28;have k:=SU x.op ω E;obtain ⟨p,i⟩:∃ p,Bk x.op=p:=⟨_,rfl⟩
 obtain ⟨q,j⟩:∃ q,DI x.op=q:=⟨_,rfl⟩
 have g:Hid (AM c f x=p/\AK c f x=q):=by rw [<-i,<- j];exact g
 rw [i,j] at k;have m:=Lh k;clear k i j;go_enter func131,ntmps131;go_wp2_with (with_reducible refine Dy (o:=⟨ς 25,_,_,_,_,_⟩) rfl 210 _ rfl EO κ ?_);rw [Hm];rotate_left
 .simp
 .rfl
 simp only [Result.andThen_ok,Oper.upon_skip];obtain ⟨W,a⟩:=ε ((((w.alloc (χ (Bc C s D t c) 25)).alloc (χ #[.string f.name,ι f.params,ι f.L,.bool f.result,σ J f.code u] 70)).alloc (χ #[ι x.op,ι x.a] 96)));have h:(W:Nat)=(w:Nat)+1+1+1:=by rw [a];simp
 have v:ϐ w w W:=by rw [a];exact ((Br.alloc (Nr _) _).alloc ψ _).alloc φ _
 have x0:(W.alloc (χ EO 210)).cell? (π (w+1+1) 0)=ς (ι x.op):=by
  rw [World.cell?_alloc_past]
  .rw [a,X0];rfl
  .omega
 have t0:(W.alloc (χ EO 210)).cell? (π (w+1+1+1) (x.op.toNat*2))=ς (ι p):=by rw [World.cell?_alloc_at _ _ _ _ h.symm];exact m.o.1
 have t1:(W.alloc (χ EO 210)).cell? (π (w+1+1+1) (x.op.toNat*2+1))=ς (ι q):=by rw [World.cell?_alloc_at _ _ _ _ h.symm];exact m.o.2
 rw [<-a];clear a h;go_wp2_with fail;all_goals first
  | (exfalso;simp only [beq_iff_eq,beq_eq_false_iff_ne] at *;omega)
  | skip
 all_goals go_quiet (fail)
 all_goals (go_wp2_with fail)
 all_goals
  go_ret2
  exact ⟨by rw [g.o.1,g.o.2];rfl,AG (v.th (AA _ _)) _⟩
def QJ (c:AQ) (u:ϒ) (f:BK) (fv:ϒ) (x:Cd) (v:ϒ) (B:Nat) (w:Ϣ) (G:B<=w) (H:BF B w u c) (I:EI B w fv f) (L:IV B w v x) (h1:1<=x.op) (h2:x.op<=31) (j:x.op=9) (k:0<=x.a) (K:x.a<c.funcs.length) :
  ϙ prog 131 #[u,fv,v] w λe w'=>e=.returned (.tuple #[ι (AM c f x),ι (AK c f x)])/\ϐ w w w':=by
 obtain ⟨fv,Z,rfl,C,D,R⟩:=H;obtain ⟨kv,rfl,J,hn,hp,T⟩:=I;obtain ⟨rfl,U,ha⟩:=L;obtain ⟨F,y,rfl,Q,-,-,-⟩:=C;obtain ⟨Y,l,rfl,N,O,P,r⟩:=D;obtain ⟨M,z,rfl,S,-,-,-⟩:=J;have A:=Lh r;clear r;unfold in64 at *
 obtain ⟨n,s⟩:=Int.eq_ofNat_of_zero_le k;have E:n<c.funcs.length:=ω;obtain ⟨g,d⟩:∃ g,c.funcs[n]?=ς g:=⟨_,Lg E⟩
 have m:Hid (AM c f x=g.params/\AK c f x=D0 g.result):=by
  have:Dt c x.a=ς g:=by unfold Dt;rw [s];exact d
  constructor
  .unfold AM;rw [if_pos j,this]
  .unfold AK;rw [if_pos j,this]
 rcases A.o with h|⟨b,o,rfl,q,i⟩
 .rw [h] at d;simp at d
 have i:=(i n g d).below ((Below.refl B w)) q;have X:(x.op == 9)=ϑ:=by rw [j];rfl
 obtain ⟨t,xa⟩:=x;simp only at *
 subst s;clear j;go_enter func131,ntmps131;go_wp2_with (with_reducible refine Dy (o:=⟨ς 25,_,_,_,_,_⟩) rfl 210 _ rfl EO κ ?_);rw [Hm];rotate_left
 .simp
 .rfl
 simp only [Result.andThen_ok,Oper.upon_skip];obtain ⟨W,a⟩:=ε (((((w.alloc (χ #[σ F c.H y,ι c.G,σ (ς (π b o)) c.funcs l] 25)).alloc (χ #[.string f.name,ι f.params,ι f.L,.bool f.result,σ M f.code z] 70)).alloc (χ #[ι t,ι (n:Int)] 96)).alloc (χ EO 210)));have p:ϐ w w W:=by rw [a];exact (((Br.alloc (Nr _) _).alloc ψ _).alloc φ _).alloc φ _
 obtain ⟨-,q1,-,q3,-⟩:=i.below (p.mono G) q;have x0:W.cell? (π (w+1+1) 0)=ς (ι t):=by
  rw [a,World.cell?_alloc_past]
  .rw [X0];rfl
  .simp
 have x1:W.cell? (π (w+1+1) 1)=ς (ι (n:Int)):=by
  rw [a,World.cell?_alloc_past]
  .rw [X0];rfl
  .simp
 have V:W.cell? (π w 2)=ς (σ (ς (π b o)) c.funcs l):=by
  rw [a,World.cell?_alloc_past]
  .rw [X8];rfl
  .simp;omega
 rw [<-a];clear a i d;go_wp2_with fail;go_quiet ((go_at_call 156;exact Calls.quiet_of_same (RT _ _)));go_wp2_with fail
 go_ret2
 exact ⟨by rw [m.o.1,m.o.2];rfl,AG p _⟩
def SW (c:AQ) (b:ϒ) (f:BK) (fv:ϒ) (x:Cd) (d:ϒ) (B:Nat) (w:Ϣ) (j:B<=w) (k:BF B w b c) (l:EI B w fv f) (m:IV B w d x) (g:1<=x.op) (h:x.op<=31) (a:x.op=9->0<=x.a/\x.a<c.funcs.length) :
  ϙ prog 131 #[b,fv,d] w λe w'=>e=.returned (.tuple #[ι (AM c f x),ι (AK c f x)])/\ϐ w w w':=by
 by_cases i:x.op=9
 .exact QJ c b f fv x d B w j k l m g h i (a i).1 (a i).2
 .by_cases aA:x.op=10
  .exact SX c b f fv x d B w j k l m g h aA
  .by_cases ht:BB x.op
   .exact SZ c b f fv x d B w j k l m g h ht
   .exact SY c b f fv x d B w j k l m g h ht i aA
