import Derived.Test.YtigbfkiddlhhjaaGreatDoorSlFunc
import Derived.Test.YtigbfkiddlhhjaaGreatDoorShelf
import Derived.Shelf.Spec.TrailingZeros
import Derived.Deep.QuietTactic
import Derived.BigQuiet
import Derived.WalkSmall
import Derived.Deep.WholeRow
set_option maxHeartbeats 1000000
set_option maxRecDepth 100000
set_option linter.all false
open Go renaming World→Ϣ,Value→ϒ,Calls→ϙ
open Go.RowKit renaming Below→ϐ
open Option renaming some→X
open Bool renaming false→ϝ,true→ϑ
open Go.Value renaming slice→K
open Go.Obj renaming cells→H
namespace Go.Proofs.YtigbfkiddlhhjaaGreatDoor
open Go.RowKit Proofs.Tryz
open Go.RowKit renaming ι→O,ω→D,π→U
variable{α:Type}{a s:ByteArray}{c:AQ}{w w':Ϣ}{p:α->Bool}{l:List α}
def M8(w:Ϣ)(b o:Nat)(s:ByteArray):Prop:=w.cell? (U b o)=X (.string s)
def Bx(a b:ByteArray):Bool:=Op.bytesLess a.toList b.toList
def OJ(a b:ByteArray)(w:Ϣ) :
  ϙ prog 201 #[.string a,.string b] w λc w'=>c=.returned (.bool (Bx a b))/\w=w':=by
 go_in;go_wp2;go_ret;exact⟨rfl,rfl⟩
def SO(a:ByteArray)(w:Ϣ) :
  ϙ prog 202 #[.string a] w λb w'=>b=.returned (.bool ϝ)/\w=w':=by
 go_in;go_wp2;go_ret;exact⟨ψ,rfl⟩
def Az(c:Int):Int:=
 if c=32\/c=9\/c=13\/c=10 then 1
 else if 97<=c/\c<=122\/65<=c/\c<=90 then 2
 else if 48<=c/\c<=57 then 3
 else if c=95 then 4 else 0
def Hg(c:Int)(w:Ϣ) :
  ϙ prog 152 #[.int .u8 c] w λa w'=>a=.returned (O (Az c))/\w=w':=by
 go_in;go_wp2;all_goals
  go_ret;refine⟨E8 ?_,rfl⟩;simp only[beq_iff_eq,beq_eq_false_iff_ne]at *;unfold Az;first|rw[if_pos D]|(rw[if_neg D];first|rw[if_pos D]|(rw[if_neg D];first|rw[if_pos D]|(rw[if_neg D];first|rw[if_pos D]|rw[if_neg D])))
def Gf:∀{a b c:List UInt8},Op.bytesLess a b=ϑ->Op.bytesLess b c=ϑ->Op.bytesLess a c=ϑ
 |[],[],_,d,_=>by simp[Op.bytesLess]at d
 |[],_::_,[],_,d=>by simp[Op.bytesLess]at d
 |[],_::_,_::_,_,_=>by simp[Op.bytesLess]
 |_::_,[],_,d,_=>by simp[Op.bytesLess]at d
 |_::_,_::_,[],_,d=>by simp[Op.bytesLess]at d
 |x::a,y::b,z::c,d,e=>by
  simp only[Op.bytesLess,Bool.or_eq_true,Bool.and_eq_true,decide_eq_true_eq,beq_iff_eq]at *;rcases d with d|⟨rfl,d⟩
  .rcases e with e|⟨rfl,e⟩
   .exact .inl (UInt8.lt_trans d e)
   exact .inl d
  rcases e with e|⟨rfl,e⟩
  .exact .inl e
  exact .inr ⟨rfl,Gf d e⟩
def GE:∀(a:List UInt8),Op.bytesLess a a=ϝ
 |[]=>rfl
 |x::a=>by simp[Op.bytesLess,GE a]
def IH{b c:ByteArray}(d:Bx a b=ϑ)(k:Bx b c=ϑ):Bx a c=ϑ:=Gf d k
def Lp(a:ByteArray):Bx a a=ϝ:=GE _
def My(ss:List ByteArray):Prop:=∀(i j:Nat) a b,i<j->ss[i]?=X a->ss[j]?=X b->Bx a b=ϑ
def CM(a b:ByteArray):Bool:=a.toList==b.toList
def Dn(ss:List ByteArray)(s:ByteArray):Bool:=ss.any λa=>CM a s
def Lo(b:CM a s=ϑ):Bx a s=Bx s s/\∀c,Bx c a=Bx c s:=by
 unfold CM at b;simp at b;unfold Bx;rw[b];exact⟨rfl,λ_=>rfl⟩
def SI{d:List ByteArray}{b:Nat}(p:My d)(n:Bx s s=ϝ)(hl:∀c a,c<b->d[c]?=X a->Bx a s=ϑ)(o:∀c a,b<=c->d[c]?=X a->Bx a s=ϝ) :
  Dn d s=match d[b]? with|some a=>CM a s|none=>ϝ:=by
 rw[Bool.eq_iff_iff];constructor
 .intro c
  unfold Dn at c;rw[List.any_eq_true]at c;let⟨_,l,i⟩:=c;obtain⟨g,m,rfl⟩:=List.getElem_of_mem l;have h:=Lg m;by_cases k:g<b
  .have:=hl g _ k h
   rw[(Lo i).1,n]at this;cases this
  by_cases j:g=b
  .subst j;rw[h];exact i
  have c:b<d.length:=D;have:=p b g _ _ D (Lg c) h;rw[(Lo i).2,o b _ (Nr _) (Lg c)]at this;cases this
 intro f;cases e:d[b]? with
 |none=>rw[e]at f;cases f
 |some a=>rw[e]at f;exact List.any_eq_true.2 ⟨a,Lm e,f⟩
def VT(b:Bool)(w:Ϣ)(e:Ending)(w':Ϣ):Prop:=∃i:Int,e=.returned (.tuple #[O i,.bool b])/\w=w'
def Jd(c:List ByteArray)(s:ByteArray)(v:ϒ)(B:Nat)(w:Ϣ)(e:AE B w 1 M8 v c)(i:My c)(j:Bx s s=ϝ) :
  ϙ prog 172 #[v,.string s] w (VT (Dn c s) w):=by
 obtain⟨a,_,rfl,_,_,_,e⟩:=e;have P:=Lh e;have C:=Lh i;have Y:=Lh j;go_in;go_wp2;go_loop[7,8] (λm l=>∃j i:Nat,j<=i/\i<=c.length/\m=O j/\l=O i/\Hid (∀e a,e<j->c[e]?=X a->Bx a s=ϑ)/\Hid (∀e a,i<=e->c[e]?=X a->Bx a s=ϝ)) (λm l=>(intOf l).toNat-(intOf m).toNat);exact⟨0,c.length,Nat.zero_le _,Nr _,rfl,rfl,λe a p=>by omega,λe a p k=>by rw[List.getElem?_eq_none p]at k;cases k⟩;obtain⟨b,f,_,k,rfl,rfl,M,L⟩:=hrel;by_cases aK:b<f
 .have Q:(b+f)/2<c.length:=D
  let⟨g,n⟩:=Ϡ c ((b+f)/2) Q;rcases P.o with p|⟨V,W,rfl,T,h⟩
  .subst p;simp at n
  have h:=h _ g n;unfold M8 at h;rw[Nat.mul_one]at h;have r:=Lh n;go_wp2_with fail;refine(OJ _ _ _).mono ?_;rintro R w'⟨rfl,rfl⟩;cases q:Bx g s with
  |true=>
   have F:Hid (∀e a,e<(b+f)/2+1->c[e]?=X a->Bx a s=ϑ):=by
    intro e i i u;by_cases N:e=(b+f)/2
    .subst N;have:=r.o.symm.trans u;simp at this;rw[<-this];exact q
    exact IH (C.o _ _ _ _ D u r.o) q
   go_wp2;go_round;exact⟨(b+f)/2+1,f,D,D,by go_num,rfl,F,L⟩;simp[intOf];omega
  |false=>
   have J:Hid (∀e a,(b+f)/2<=e->c[e]?=X a->Bx a s=ϝ):=by
    intro e z i x;by_cases G:e=(b+f)/2
    .subst G;have:=r.o.symm.trans x;simp at this;rw[<-this];exact q
    cases E:Bx z s with
    |false=>rfl
    |true=>rw[IH (C.o _ _ _ _ D r.o x) E]at q;cases q
   go_wp2;go_round;exact⟨b,(b+f)/2,D,D,rfl,by go_num,M,J⟩;simp[intOf];omega
 obtain rfl:b=f:=D;have y:=Lh (SI C.o Y.o M L);by_cases A:b<c.length
 .obtain ⟨g,o⟩:=Ϡ c b A
  rcases P.o with p|⟨V,W,rfl,T,h⟩
  .subst p;simp at o
  have h:=h _ g o;unfold M8 at h;rw[Nat.mul_one]at h;have d:Hid (Dn c s=CM g s):=by rw[y.o,o];rfl
  cases t:(g.toList==s.toList)
  .have d:Hid (Dn c s=ϝ):=by rw[d.o];exact t
   go_wp2_with(go_at_call 202;refine(SO _ _).mono ?_;rintro S w'⟨rfl,rfl⟩);go_ret2;exact⟨_,by rw[d.o];rfl,rfl⟩
  have d:Hid (Dn c s=ϑ):=by rw[d.o];exact t
  go_wp2;go_ret2;exact⟨_,by rw[d.o];rfl,rfl⟩
 have d:Hid (Dn c s=ϝ):=by rw[y.o,List.getElem?_eq_none D];rfl
 go_wp2;go_ret2;exact⟨_,by rw[d.o];rfl,rfl⟩
def NR:List UInt8:=[97,110,100,32,98,111,111,108,32,98,111,117,110,100,32,100,101,115,99,32,101,108,115,101,32,102,97,108,115,101,32,105,102,32,105,110,116,32,105,110,118,97,114,105,97,110,116,32,108,111,99,97,108,32,108,111,103,32,109,97,120,32,109,101,97,115,117,114,101,32,109,105,110,32,110,101,119,32,110,105,108,32,110,111,116,32,111,112,32,111,114,32,112,111,116,101,110,116,105,97,108,32,112,114,111,99,32,114,101,116,117,114,110,32,114,117,108,101,32,115,99,114,105,112,116,32,115,111,114,116,32,115,112,101,99,32,116,104,105,115,32,116,114,117,101,32,116,121,112,101,32,118,97,114,32,119,104,105,108,101]
def Fu:List (List UInt8):=Lib.fields NR
def NS:∀(j:Nat)(b:UInt8),NR[j]?=X b->b.toNat<128:=by
 intro j b c;have a:∀b∈NR,b.toNat<128:=by decide +kernel
 exact a b (Lm c)
def D5:List ByteArray:=Fu.map λl=>⟨l.toArray⟩
structure C8(w:Ϣ):Prop where
 space:Lib.TabIs prog w "strings.asciiSpace" .u8 Lib.asciiSpaceTab
 tz:TabAt 0 Lib.deBruijn64tab w
def S6{n:String}{k:IntKind}{d:List Int}(a:Lib.TabIs prog w n k d)(f:ϐ w w w'):Lib.TabIs prog w' n k d:=by
 unfold Lib.TabIs World.var? at *;cases c:prog.globalNamed n with
 |none=>rw[c]at a;cases a
 |some e=>
  rw[c]at a;simp only[Option.bind_some]at a ⊢;cases b:w.heap[e]? with
  |none=>rw[b]at a;cases a
  |some d=>rw[f.block e (La b)];exact a
def C8.below(b:C8 w)(a:ϐ w w w'):C8 w':=⟨S6 b.space a,λd c=>AB a (b.tz d c)⟩
def NQ(w:Ϣ)(b:C8 w) :
  ϙ prog 173 #[] w λa w'=>a=.returned (K (X (U w 0)) D5 D5.length)/\w'=w.alloc (H (D5.map .string).toArray 9):=by
 have d:=Lh b;go_in;go_wp2_with fail;refine(strings_Fields_laid ⟨NR.toArray⟩ _ δ (λc a b=>NS c a b) d.o.space).mono ?_;rintro e w'⟨rfl,rfl⟩;go_wp2;go_ret;exact⟨by simp[D5,Fu],by simp[D5,Fu];rfl⟩
def QE:My D5:=by
 have k:∀g,g<32->∀f,f<32->g<f->(match Fu[g]?,Fu[f]? with|some a,some f=>Op.bytesLess a f|_,_=>ϑ)=ϑ:=by decide +kernel
 have:Fu.length=31:=by decide +kernel
 intro h i a f j b c;unfold D5 at b c;rw[List.getElem?_map]at b c;cases e:Fu[h]? with
 |none=>rw[e]at b;cases b
 |some f=>
  cases d:Fu[i]? with
  |none=>rw[d]at c;cases c
  |some f=>
   rw[e]at b;rw[d]at c;simp at b c;subst b c;have:=(Ll e);have:=(Ll d);have:=k h D i D j;rw[e,d]at this;unfold Bx;rw[ByteArray.toList_eq,ByteArray.toList_eq];simpa using this
def Oa(s:ByteArray):Bool:=Dn D5 s
def ID(s:ByteArray)(w:Ϣ)(b:C8 w) :
  ϙ prog 153 #[.string s] w λa w'=>a=.returned (.bool (Oa s))/\ϐ w w w':=by
 have d:=Lh b;have b:∀a:Ϣ,AE (a+1) (a.alloc (H (D5.map .string).toArray 9)) 1 M8 (K (X (U a 0)) D5 D5.length) D5:=by intro a;refine⟨_,_,rfl,by decide +kernel,Nr _,by decide +kernel,.inr ⟨_,_,rfl,D,λg h a=>?_⟩⟩;unfold M8;rw[cell_of_row _ _ _ _ _ _ (Hn _ _)];simp[a]
 have c:=Lh b;go_in;go_wp2_with fail;refine(NQ _ d.o).mono ?_;rintro e w'⟨rfl,rfl⟩;go_wp2_with fail;refine(Jd D5 s _ _ _ (c.o w) QE (Lp s)).mono ?_;rintro f w'⟨_,rfl,rfl⟩;go_wp2;go_ret;exact⟨rfl,Br.alloc (Nr _) _⟩
def Gi(s:ByteArray):Bool:=
 decide (0<s.size)&&decide (s.size<=40)&&decide (Az ((s.toList.headD 0).toNat:Int)=2) && !Oa s&&s.toList.all λc=>decide (2<=Az (c.toNat:Int))
def Ie(s:ByteArray):s.toList.length=s.size:=by rw[ByteArray.toList_eq];simp
def Jq(s:ByteArray)(k:Nat)(a:k<s.size):s.toList[k]?=X s[k]:=by
 rw[ByteArray.toList_eq];have:k<s.data.toList.length:=by simpa using a
 rw[Lg this];rfl
def Ob(a:¬0<s.size):Gi s=ϝ:=by unfold Gi;simp[a]
def Oc(a:¬s.size<=40):Gi s=ϝ:=by unfold Gi;simp[a]
def RP(c:0<s.size):s.toList.headD 0=s[0]:=by
 have:=Jq s 0 c;cases b:s.toList with
 |nil=>rw[b]at this;cases this
 |cons a l=>rw[b]at this;simpa using this
def Od(b:0<s.size)(a:¬Az (s[0].toNat:Int)=2):Gi s=ϝ:=by unfold Gi;rw[RP b];simp[a]
def Oe(a:Oa s=ϑ):Gi s=ϝ:=by unfold Gi;simp[a]
def Of(k:Nat)(a:k<s.size)(b:Az (s[k].toNat:Int)<2):Gi s=ϝ:=by
 unfold Gi;have:(s.toList.all λc=>decide (2<=Az (c.toNat:Int)))=ϝ:=by rw[List.all_eq_false];exact⟨s[k],Lm (Jq s k a),by simp;omega⟩
 rw[this,Bool.and_false]
def Og(e:0<s.size)(j:s.size<=40)(i:Az (s[0].toNat:Int)=2)(h:Oa s=ϝ)(g:∀d (k:d<s.size),2<=Az (s[d].toNat:Int)):Gi s=ϑ:=by
 unfold Gi;have:(s.toList.all λc=>decide (2<=Az (c.toNat:Int)))=ϑ:=by
  rw[List.all_eq_true];intro c f;obtain⟨b,a,rfl⟩:=List.getElem_of_mem f;have d:b<s.size:=by rw[Ie]at a;exact a
  have:=Jq s b d;rw[Lg a]at this;simp at this;rw[this];simpa using g b d
 rw[this,RP e];simp[e,j,i,h]
def QD(s:ByteArray)(w:Ϣ)(d:C8 w)(hs:s.size<=140737488355328) :
  ϙ prog 122 #[.string s] w λb w'=>b=.returned (.bool (Gi s))/\ϐ w w w':=by
 have t:=Lh d;by_cases o:0<s.size
 .have:s.toList.isEmpty=ϝ:=by have:=Ie s;cases B:s.toList with|nil=>rw[B]at this;simp at this;omega|cons _ _=>rfl
  by_cases z:s.size<=40
  .have:=θ (40<(s.size:Int))
   by_cases g:Az (s[0].toNat:Int)=2
   .have:(Az (s[0].toNat:Int) !=2)=ϝ:=by simp[g]
    have L:=Lh g;cases k:Oa s with
    |true=>have x:=Lh (Oe k);have r:=Lh k;go_in;go_wp2_with fail;refine(Hg _ _).mono ?_;rintro C w'⟨rfl,rfl⟩;go_wp2_with fail;refine(ID _ _ t.o).mono ?_;rintro b w'⟨rfl,c⟩;rw[r.o];go_wp2;go_ret;exact⟨by rw[x.o];rfl,c⟩
    |false=>
     have v:=Lh k;go_in;go_wp2_with fail;refine(Hg _ _).mono ?_;rintro E w'⟨rfl,rfl⟩;go_wp2_with fail;refine(ID _ _ t.o).mono ?_;rintro b w'⟨rfl,u⟩;rw[v.o];go_wp2_with fail;go_loop[23] (λd=>∃c:Nat,c<=s.size/\d=O c/\Hid (∀b (r:b<s.size),b<c->2<=Az (s[b].toNat:Int))) (λd=>s.size-(intOf d).toNat);exact⟨0,Nat.zero_le _,rfl,λd c b=>by omega⟩;obtain⟨a,_,rfl,h⟩:=hrel;by_cases A:a<s.size
     .go_wp2_with fail
      refine(Hg _ _).mono ?_;rintro F J⟨rfl,rfl⟩;by_cases y:Az (s[a].toNat:Int)<2
      .have i:=Lh (Of a A y)
       go_wp2;go_ret;exact⟨by rw[i.o];rfl,u⟩
      go_wp2;go_round;exact⟨a+1,D,by go_num,λe j b=>by
       by_cases q:e=a
       .subst q;omega
       exact h e j D⟩
      simp[intOf];omega
     have n:=Lh (Og o z L.o v.o (λb a=>h b a D));go_wp2;go_ret;exact⟨by rw[n.o];rfl,u⟩
   have:(Az (s[0].toNat:Int) !=2)=ϑ:=by simp[g]
   have p:=Lh (Od o g);go_in;go_wp2_with fail;refine(Hg _ _).mono ?_;rintro G w'⟨rfl,rfl⟩;go_wp2;go_ret;exact⟨by rw[p.o];rfl,Below.refl _ _⟩
  have m:=Lh (Oc z);go_in;go_wp2;go_ret;exact⟨by rw[m.o];rfl,Below.refl _ _⟩
 have:s.toList.isEmpty=ϑ:=by have:=Ie s;cases f:s.toList with|nil=>rfl|cons _ _=>rw[f]at this;simp at this;omega
 have l:=Lh (Ob o);go_in;go_wp2;go_ret;exact⟨by rw[l.o];rfl,Below.refl _ _⟩
def I9:An 121:=λ_ _=>by kernel_rfl
def NJ:An 124:=λ_ _=>by kernel_rfl
def SL(n:Int)(w:Ϣ) :
  ϙ prog 121 #[O n] w λa w'=>a=.returned (.bool (decide (n<0\/12<n)))/\w=w':=by
 go_in;go_wp2;all_goals (go_ret;exact⟨Ca (by simp;try omega),rfl⟩)
def SM(a d:ByteArray)(p l r c:ϒ)(b:Nat)(w:Ϣ)(f:b<w)(g:w.cell? (U b 0)=X (.string d)) :
  ϙ prog 124 #[.agg #[.string a,p,l,r,c],.pointer (X (U b 0))] w λe w'=>e=.returned (.bool (CM a d))/\ϐ w w w':=by
 have:(w.alloc (H #[.string a,p,l,r,c] 70)).cell? (U b 0)=X (.string d):=by rw[World.cell?_alloc_past _ _ _ f];exact g
 go_in;go_wp2;go_ret;exact⟨rfl,Br.alloc (Nr _) _⟩
def CX(x:BK):Prop:=0<=x.params/\x.params<=6/\x.params<=x.L/\x.L<=100/\1<=x.q9.length/\x.q9.length<=1048576
def Ir(c:AQ)(i:Nat)(x:BK):Prop:=Gi x.name=ϑ/\CX x/\(c.q0.take i).any (λg=>CM g.name x.name)=ϝ
def Jy(c:AQ):Prop:=c.H.length<=12/\c.H.any (λn=>decide (n<0\/12<n))=ϝ/\0<=c.G/\c.G<=8/\c.q0.length<=40/\∀i x,c.q0[i]?=X x->Ir c i x
noncomputable def GX(c:AQ):Bool:=@decide (Jy c) (Classical.propDecidable _)
def FP(a:Jy c):GX c=ϑ:=by unfold GX;exact @decide_eq_true _ (Classical.propDecidable _) a
def Bs(a:¬Jy c):GX c=ϝ:=by unfold GX;exact @decide_eq_false _ (Classical.propDecidable _) a
def OZ(w:Ϣ):∀(x:Int)(a:Ϣ)(b:ϒ),ϐ w w a->Ny 0 a b x->ϙ prog 121 (#[b]++#[]) a (λb d=>b=.returned (.bool (decide (x<0\/12<x)))/\ϐ a a d):=by
 rintro x c e _⟨rfl,_⟩;exact(SL x c).mono λc d ⟨a,b⟩=>⟨a,b▸Below.refl _ _⟩
def UE(c:ByteArray)(b:Nat)(B:Nat)(w:Ϣ)(h:b<w)(i:w.cell? (U b 0)=X (.string c)):∀(x:BK)(a:Ϣ)(d:ϒ),ϐ w w a->EI B a d x->ϙ prog 124 (#[d]++#[.pointer (X (U b 0))]) a (λd g=>d=.returned (.bool (CM x.name c))/\ϐ a a g):=by
 rintro x f j e⟨_,rfl,_⟩;exact SM x.name c _ _ _ _ b f (by have:=e.size;omega) (by rw[e.cell (p:=(U b 0)) h];exact i)
def LH(c:AQ)(h:ϒ)(B:Nat)(w:Ϣ)(T:C8 w)(bJ:B<=w)(L:BF B w h c) :
  ϙ prog 84 #[h] w λh w'=>h=.returned (.bool (GX c))/\ϐ w w w':=by
 obtain⟨_,_,rfl,f,C,P⟩:=L;have cD:=Lh T;have j:=Lh f;obtain⟨S,R,rfl,_,_,_,_⟩:=f;obtain⟨N,bV,rfl,cE,cF,cG,r⟩:=C;have cC:=Lh r;unfold in64 at P;by_cases bS:c.H.length<=12
 .have f:ϐ B w (w.alloc (H (Bc S R N bV c) 25)):=Br.alloc bJ _
  have j:=Lh (j.o.ints f);cases Y:c.H.any (λf=>decide (f<0\/12<f))with
  |true=>have bK:=Lh (Bs (c:=c) (λg=>by rw[g.2.1]at Y;cases Y));have Q:=Lh Y;go_in;go_wp2_with fail;refine(BT 121 #[] _ c.H _ B _ I9 φ j.o (OZ _)).mono ?_;rintro f w'⟨rfl,t⟩;rw[Q.o];go_wp2;go_ret;exact⟨by rw[bK.o];rfl,As t⟩
  |false=>
   have cA:=Lh Y;have cK:Hid (¬(0<=c.G/\c.G<=8/\c.q0.length<=40)->GX c=ϝ):=λg=>Bs (c:=c) (λf=>g ⟨f.2.2.1,f.2.2.2.1,f.2.2.2.2.1⟩);go_in;go_wp2_with fail;refine(BT 121 #[] _ c.H _ B _ I9 φ j.o (OZ _)).mono ?_;rintro f w'⟨rfl,F⟩;rw[cA.o];have bP:=Cc F 1 _ rfl;have bO:=Cc F 2 _ rfl;by_cases bZ:0<=c.G/\c.G<=8/\c.q0.length<=40
   .obtain ⟨cH,cI,cJ⟩:=bZ
    have:=θ (c.G<0);have:=θ (8<c.G);have:=θ (40<(c.q0:Int));go_wp2_with fail;go_loopw[33] (λj wr=>∃h:Nat,h<=c.q0.length/\j=O h/\ϐ w' w' wr/\Hid (∀f a,f<h->c.q0[f]?=X a->Ir c f a)) (λj _=>c.q0.length-(intOf j).toNat);exact⟨0,Nat.zero_le _,rfl,Below.refl _ _,λh a f=>by omega⟩;obtain⟨e,cB,rfl,k,bT⟩:=hrel;have q:=(As F).trans (k.mono (As F).size);have:=AB k bP;have bR:=AB k bO;by_cases bW:e<c.q0.length
    .obtain ⟨a,i⟩:=Ϡ c.q0 e bW
     rcases cC.o with g|⟨_,_,rfl,z,b⟩
     .rw [g]at i;simp at i
     have bY:=Lh b;have b:=(b e a i).below (q.mono bJ) z;let⟨_,_,_,_,⟨_,_,s⟩,bG,x,y⟩:=b;obtain⟨_,_,rfl,_,_,_,_⟩:=s;have u:=Lh i;unfold in64 at x y;go_wp2_with fail;refine(QD _ _ (cD.o.below (q.trans ((Br.alloc (Nr _) _).mono q.size))) bG).mono ?_;rintro f h⟨rfl,b⟩;have l:=q.trans ((As b).mono q.size);have bL:=k.trans ((As b).mono k.size);have bI:=Cc b 0 _ rfl;have:=Cc b 1 _ rfl;have:=Cc b 2 _ rfl;have:=Cc b 4 _ rfl;have:=keepA b bR;cases v:Gi a.name with
     |false=>have G:=Lh (Bs (c:=c) (λg=>by rw[(g.2.2.2.2.2 e a u.o).1]at v;cases v));go_wp2;go_ret;exact⟨by rw[G.o];rfl,l⟩
     |true=>
      have bX:=Lh v;by_cases o:CX a
      .have bU:=Lh o
       let⟨_,_,_,_,_,_⟩:=o;have:=θ (a.params<0);have:=θ (6<a.params);have:=θ (a.L<a.params);have:=θ (100<a.L);have:=θ ((a.q9:Int)<1);have:=θ (1048576<(a.q9:Int));have V:=Lh (AE.take (cap:=bV) (E:=CW B) e cB cE cF cG z (λf d b=>(bY.o f d b).below (l.mono bJ) z));go_wp2_with fail;refine(Fc 124 #[_] _ _ _ B _ NJ (Nt bJ l.size) V.o (UE a.name wr B _ (Bl bI) bI)).mono ?_;rintro f h⟨rfl,b⟩;have bN:=l.trans (b.mono l.size);have bQ:=bL.trans (b.mono bL.size);cases p:(c.q0.take e).any (λd=>CM d.name a.name)with
       |true=>have M:=Lh (Bs (c:=c) (λg=>by rw[(g.2.2.2.2.2 e a u.o).2.2]at p;cases p));go_wp2;go_ret;exact⟨by rw[M.o];rfl,bN⟩
       |false=>
        have bM:Hid (∀b d,b<e+1->c.q0[b]?=X d->Ir c b d):=by
         intro n d b m;by_cases bH:n=e
         .subst bH;obtain rfl:a=d:=by simpa using u.o.symm.trans m
          exact⟨bX.o,bU.o,p⟩
         exact bT n d D m
        go_wp2;go_roundw;exact⟨e+1,D,by go_num,bQ,bM⟩;simp[intOf];omega
      have W:=Lh (Bs (c:=c) (λg=>o (g.2.2.2.2.2 e a u.o).2.1));go_wp2_with fail;all_goals first
       |(exfalso;apply o;unfold CX;omega)
       |(go_ret;exact⟨by rw[W.o];rfl,l⟩)
    have J:=Lh (FP (c:=c) ⟨bS,cA.o,cH,cI,cJ,λd a b=>bT d a (by have:=(Ll b);omega) b⟩);go_wp2;go_ret;exact⟨by rw[J.o];rfl,q⟩
   go_wp2_with fail;all_goals
    go_ret;exact⟨by rw[cK.o D];rfl,As F⟩
 have A:=Lh (Bs (c:=c) (λg=>bS g.1));go_in;go_wp2;go_ret;exact⟨by rw[A.o];rfl,Br.alloc (Nr _) _⟩
def Ey(c:AQ)(f:BK)(op:Int):Option Int:=if op=2 then X f.L else if op=3 then X f.L else if op=4 then X c.G else if op=5 then X c.G else if op=6 then X 12 else if op=7 then X 12 else if op=8 then X (c.H:Int)else if op=9 then X (c.q0:Int)else if op=11 then X (f.q9:Int)else if op=12 then X (f.q9:Int)else none
def Ct(c:AQ)(f:BK)(x:Cd):Bool:=
 if x.op<1\/31<x.op then ϝ else match Ey c f x.op with
 |some n=>decide (0<=x.a/\x.a<n)
 |none=>if x.op=1 then decide (-1099511627776<=x.a/\x.a<=1099511627776)else decide (x.a=0)
def X8(w:Ϣ)(a:Array ϒ)(T:TypeId)(B C:Obj)(j:Nat):(((w.alloc (H a T)).alloc B).alloc C).cell? (U w j)=a[j]?:=by
 rw[World.cell?_alloc_past,World.cell?_alloc_past,B6]<;>(simp;try omega)
def YM(w:Ϣ)(a:Obj)(B:Array ϒ)(T:TypeId)(C:Obj)(j:Nat):(((w.alloc a).alloc (H B T)).alloc C).cell? (U (w+1) j)=B[j]?:=by
 rw[World.cell?_alloc_past,World.cell?_alloc_at]<;>simp
def X0(w:Ϣ)(a B:Obj)(C:Array ϒ)(T:TypeId)(j:Nat):(((w.alloc a).alloc B).alloc (H C T)).cell? (U (w+1+1) j)=C[j]?:=by
 rw[World.cell?_alloc_at];simp
def Ef(W:Ϣ)(b:Array MapEntry)(a:Nat)(k:Int)(v:ϒ)(d:Instr.findNow (.int .i64) (O k) b.toList 0=X none) :
  (Instr.mapUpdate 204 (.map (X (W:Nat))) (O k) v).run prog (W.alloc (.map b a))=.ok () (W.alloc (.map (b.push ⟨O k,v,a⟩) (a+1))):=by
 have g:(W.alloc (.map b a)).heap[(W:Nat)]?=X (.map b a):=Hn _ _;have h:∀f,({W.alloc (.map b a)with heap:=(W.alloc (.map b a)).heap.setIfInBounds (W:Nat) f}:Ϣ)=W.alloc f:=by
  intro e;have:(W.heap.push (.map b a)).setIfInBounds (W:Nat) e=W.heap.push e:=by
   apply Array.ext_getElem?;intro f;rw[Array.getElem?_setIfInBounds,Array.getElem?_push,Array.getElem?_push];by_cases c:(W:Nat)=f
   .subst c;simp
   rw[if_neg c,if_neg (λd=>c d.symm),if_neg (λd=>c d.symm)]
  show({W with heap:=(W.heap.push (.map b a)).setIfInBounds (W:Nat) e}:Ϣ)=_;rw[this];rfl
 simp[Instr.mapUpdate,run_underlying underlying204,MapKept.run_getObj_map g,MapKept.run_checkKey underlying3 (k:=O k) rfl,MapKept.run_findKey underlying3 d,MapKept.run_setObj_map _ g,Result.andThen];exact h _
def XJ(W:Ϣ)(a:Array MapEntry)(b:Nat)(k:Int)(r:Option (Nat×ϒ))(d:Instr.findNow (.int .i64) (O k) a.toList 0=X r) :
  (Instr.lookup 204 (.map (X (W:Nat))) (O k) ϑ).run prog (W.alloc (.map a b))=.ok (.tuple #[match r with|some (_,v)=>v|none=>O 0,.bool r.isSome]) (W.alloc (.map a b)):=by
 have c:(W.alloc (.map a b)).heap[(W:Nat)]?=X (.map a b):=Hn _ _;cases r with
 |none=>simp[Instr.lookup,run_underlying underlying204,MapKept.run_getObj_map c,MapKept.run_checkKey underlying3 (k:=O k) rfl,MapKept.run_findKey underlying3 d,Result.andThen,zeroValue3]
 |some r=>simp[Instr.lookup,run_underlying underlying204,MapKept.run_getObj_map c,MapKept.run_checkKey underlying3 (k:=O k) rfl,MapKept.run_findKey underlying3 d,Result.andThen]
def Ji(c:AQ)(f:BK):Array MapEntry:=#[⟨O 2,O f.L,0⟩,⟨O 3,O f.L,1⟩,⟨O 4,O c.G,2⟩,⟨O 5,O c.G,3⟩,⟨O 6,O 12,4⟩,⟨O 7,O 12,5⟩,⟨O 8,O (c.H:Int),6⟩,⟨O 9,O (c.q0:Int),7⟩,⟨O 11,O (f.q9:Int),8⟩,⟨O 12,O (f.q9:Int),9⟩]
def UJ(c:AQ)(f:BK)(a:Int):∃b,Instr.findNow (.int .i64) (O a) (Ji c f).toList 0=X b/\b.map (·.2)=(Ey c f a).map (.int .i64):=by
 simp only[Ji,Instr.findNow,Instr.sameNow];unfold Ey;by_cases n:a=2
 .subst n;simp
 by_cases m:a=3
 .subst m;simp
 by_cases l:a=4
 .subst l;simp
 by_cases k:a=5
 .subst k;simp
 by_cases j:a=6
 .subst j;simp
 by_cases i:a=7
 .subst i;simp
 by_cases h:a=8
 .subst h;simp
 by_cases g:a=9
 .subst g;simp
 by_cases e:a=11
 .subst e;simp
 by_cases d:a=12
 .subst d;simp
 have:∀b,a≠b->(a==b)=ϝ:=λb a=>by simpa using a
 simp[this _ n,n,this _ m,m,this _ l,l,this _ k,k,this _ j,j,this _ i,i,this _ h,h,this _ g,g,this _ e,e,this _ d,d]
def Ol(W:Ϣ):(Instr.makeMap 204 none).run prog W=.ok (.map (X (W:Nat))) (W.alloc (.map #[] 0)):=by simp[Instr.makeMap]
def Vt(c:AQ)(f:BK)(b:Int)(W:Ϣ) :
  (Instr.lookup 204 (.map (X (W:Nat))) (O b) ϑ).run prog (W.alloc (.map (Ji c f) 10)) =
   .ok (.tuple #[O ((Ey c f b).getD 0),.bool (Ey c f b).isSome]) (W.alloc (.map (Ji c f) 10)):=by
 let⟨e,h,a⟩:=UJ c f b;rw[XJ W (Ji c f) 10 b e h];cases e with
 |none=>cases g:Ey c f b with
  |none=>rfl
  |some e=>rw[g]at a;cases a
 |some i=>cases d:Ey c f b with
  |none=>rw[d]at a;cases a
  |some b=>rw[d]at a;simp at a;simp[a]
def Ow(c:AQ)(d:ϒ)(f:BK)(fv:ϒ)(x:Cd)(a:ϒ)(B:Nat)(w:Ϣ)(m:BF B w d c)(n:EI B w fv f)(o:IV B w a x) :
  ϙ prog 127 #[d,fv,a] w λa w'=>a=.returned (.bool (Ct c f x))/\ϐ w w w':=by
 obtain⟨fv,_,rfl,h,i,_⟩:=m;obtain⟨_,rfl,j,_,_,_⟩:=n;obtain⟨rfl,_,_⟩:=o;obtain⟨e,g,rfl,_,-,-,-⟩:=h;obtain⟨k,l,rfl,_,_,_,_⟩:=i;obtain⟨p,q,rfl,_,-,-,-⟩:=j;unfold in64 at *;go_in;go_wp2_with fail;let⟨d,b⟩:=ε ((((w.alloc (H (Bc e g k l c) 25)).alloc (H #[.string f.name,O f.params,O f.L,.bool f.result,K p f.q9 q] 70)).alloc (H #[O x.op,O x.a] 96)));have r:ϐ w w d:=by rw[b];exact((Br.alloc (Nr _) _).alloc ψ _).alloc φ _
 have:∀a,(d.alloc a).cell? (U w 0)=X (K e c.H g):=λa=>by rw[World.cell?_alloc_past];(· rw[b,X8];rfl);(· rw[b];simp;try omega)
 have:∀a,(d.alloc a).cell? (U w 1)=X (O c.G):=λa=>by rw[World.cell?_alloc_past];(· rw[b,X8];rfl);(· rw[b];simp;try omega)
 have:∀a,(d.alloc a).cell? (U w 2)=X (K k c.q0 l):=λa=>by rw[World.cell?_alloc_past];(· rw[b,X8];rfl);(· rw[b];simp;try omega)
 have:∀a,(d.alloc a).cell? (U (w+1) 2)=X (O f.L):=λa=>by rw[World.cell?_alloc_past];(· rw[b,YM];rfl);(· rw[b];simp;try omega)
 have:∀a,(d.alloc a).cell? (U (w+1) 4)=X (K p f.q9 q):=λa=>by rw[World.cell?_alloc_past];(· rw[b,YM];rfl);(· rw[b];simp;try omega)
 have:∀a,(d.alloc a).cell? (U (w+1+1) 0)=X (O x.op):=λa=>by rw[World.cell?_alloc_past];(· rw[b,X0];rfl);(· rw[b];simp;try omega)
 have:∀a,(d.alloc a).cell? (U (w+1+1) 1)=X (O x.a):=λa=>by rw[World.cell?_alloc_past];(· rw[b,X0];rfl);(· rw[b];simp;try omega)
 rw[<-b];clear b;have u2:=Ef d #[] 0 2 (O f.L) (by simp[Instr.findNow,Instr.sameNow]);simp only[List.push_toArray,List.cons_append,List.nil_append,Nat.reduceAdd]at u2;have u3:=Ef d #[⟨O 2,O f.L,0⟩] 1 3 (O f.L) (by simp[Instr.findNow,Instr.sameNow]);simp only[List.push_toArray,List.cons_append,List.nil_append,Nat.reduceAdd]at u3;have u4:=Ef d #[⟨O 2,O f.L,0⟩,⟨O 3,O f.L,1⟩] 2 4 (O c.G) (by simp[Instr.findNow,Instr.sameNow]);simp only[List.push_toArray,List.cons_append,List.nil_append,Nat.reduceAdd]at u4;have u5:=Ef d #[⟨O 2,O f.L,0⟩,⟨O 3,O f.L,1⟩,⟨O 4,O c.G,2⟩] 3 5 (O c.G) (by simp[Instr.findNow,Instr.sameNow]);simp only[List.push_toArray,List.cons_append,List.nil_append,Nat.reduceAdd]at u5;have u6:=Ef d #[⟨O 2,O f.L,0⟩,⟨O 3,O f.L,1⟩,⟨O 4,O c.G,2⟩,⟨O 5,O c.G,3⟩] 4 6 (O 12) (by simp[Instr.findNow,Instr.sameNow]);simp only[List.push_toArray,List.cons_append,List.nil_append,Nat.reduceAdd]at u6;have u7:=Ef d #[⟨O 2,O f.L,0⟩,⟨O 3,O f.L,1⟩,⟨O 4,O c.G,2⟩,⟨O 5,O c.G,3⟩,⟨O 6,O 12,4⟩] 5 7 (O 12) (by simp[Instr.findNow,Instr.sameNow]);simp only[List.push_toArray,List.cons_append,List.nil_append,Nat.reduceAdd]at u7;have u8:=Ef d #[⟨O 2,O f.L,0⟩,⟨O 3,O f.L,1⟩,⟨O 4,O c.G,2⟩,⟨O 5,O c.G,3⟩,⟨O 6,O 12,4⟩,⟨O 7,O 12,5⟩] 6 8 (O (c.H:Int)) (by simp[Instr.findNow,Instr.sameNow]);simp only[List.push_toArray,List.cons_append,List.nil_append,Nat.reduceAdd]at u8;have u9:=Ef d #[⟨O 2,O f.L,0⟩,⟨O 3,O f.L,1⟩,⟨O 4,O c.G,2⟩,⟨O 5,O c.G,3⟩,⟨O 6,O 12,4⟩,⟨O 7,O 12,5⟩,⟨O 8,O (c.H:Int),6⟩] 7 9 (O (c.q0:Int)) (by simp[Instr.findNow,Instr.sameNow]);simp only[List.push_toArray,List.cons_append,List.nil_append,Nat.reduceAdd]at u9;have a:=Ef d #[⟨O 2,O f.L,0⟩,⟨O 3,O f.L,1⟩,⟨O 4,O c.G,2⟩,⟨O 5,O c.G,3⟩,⟨O 6,O 12,4⟩,⟨O 7,O 12,5⟩,⟨O 8,O (c.H:Int),6⟩,⟨O 9,O (c.q0:Int),7⟩] 8 11 (O (f.q9:Int)) (by simp[Instr.findNow,Instr.sameNow]);simp only[List.push_toArray,List.cons_append,List.nil_append,Nat.reduceAdd]at a;have a:=Ef d #[⟨O 2,O f.L,0⟩,⟨O 3,O f.L,1⟩,⟨O 4,O c.G,2⟩,⟨O 5,O c.G,3⟩,⟨O 6,O 12,4⟩,⟨O 7,O 12,5⟩,⟨O 8,O (c.H:Int),6⟩,⟨O 9,O (c.q0:Int),7⟩,⟨O 11,O (f.q9:Int),8⟩] 9 12 (O (f.q9:Int)) (by simp[Instr.findNow,Instr.sameNow]);simp only[List.push_toArray,List.cons_append,List.nil_append,Nat.reduceAdd]at a;have mk:=Ol d;have a:=Vt c f x.op d;unfold Ji at a;rw[mk];simp only[Result.andThen_ok,Oper.upon_value];go_wp2_with fail;all_goals
  go_ret;refine⟨Ca ?_,r.trans ((Br.alloc (Nr _) _).mono r.size)⟩;unfold Ct;first
   |(rw[if_pos D])
   |(
    rw[if_neg D];try simp only[beq_iff_eq,beq_eq_false_iff_ne]at *
    cases b:Ey c f x.op with
    |none=>
     simp only[b]at *;first
      |(exfalso;simp at *;done)
      |(rw[if_pos (by assumption)];rw[Bool.eq_iff_iff];simp;try omega)
      |(rw[if_neg (by assumption)];rw[Bool.eq_iff_iff];simp;try omega)
    |some a=>
     simp only[b]at *;first
      |(exfalso;simp at *;done)
      |(rw[Bool.eq_iff_iff];simp;try omega))
def L3:An 126:=λ_ _=>by kernel_rfl
def Qs(c:AQ)(f:BK)(x:Cd)(e fs:List ϒ)(b:ϒ)(g h B:Nat)(w:Ϣ)(k:AR w g e)(a:AR w h fs)(m:BF B w (.agg e.toArray) c)(l:EI B w (.agg fs.toArray) f)(r:IV B w b x)(j:B<=w) :
  ϙ prog 126 #[b,.pointer (X (U g 0)),.pointer (X (U h 0))] w λb w'=>b=.returned (.bool (!Ct c f x))/\ϐ w w w':=by
 have b:=AA w (H #[O x.op,O x.a] 96);have v:=Lh (m.below (b.mono j));have u:=Lh (l.below (b.mono j));obtain⟨rfl,s,t⟩:=r;obtain⟨o,p,d,-⟩:=m;obtain⟨q,i,-⟩:=l;simp only[Value.agg.injEq]at d i;obtain rfl:e=[o,O c.G,p]:=by simpa using congrArg Array.toList d
 obtain rfl:fs=[.string f.name,O f.params,O f.L,.bool f.result,q]:=by simpa using congrArg Array.toList i
 have:=k.alloc (H #[O x.op,O x.a] 96) 0 _ rfl;have:=k.alloc (H #[O x.op,O x.a] 96) 1 _ rfl;have:=k.alloc (H #[O x.op,O x.a] 96) 2 _ rfl;have:=a.alloc (H #[O x.op,O x.a] 96) 0 _ rfl;have:=a.alloc (H #[O x.op,O x.a] 96) 1 _ rfl;have:=a.alloc (H #[O x.op,O x.a] 96) 2 _ rfl;have:=a.alloc (H #[O x.op,O x.a] 96) 3 _ rfl;have:=a.alloc (H #[O x.op,O x.a] 96) 4 _ rfl;go_in;go_wp2_with fail;refine(Ow c _ f _ x _ B _ v.o u.o ⟨rfl,s,t⟩).mono ?_;rintro a w'⟨rfl,n⟩;go_wp2;go_ret;exact⟨rfl,As n⟩
def Dl(c:AQ):Bool:=c.q0.any λf=>f.q9.any λx=>!Ct c f x
def RD(b:Bool)(w:Ϣ)(e:Ending)(w':Ϣ):Prop:=∃i k:Int,e=.returned (.tuple #[O i,O k,.bool b])/\ϐ w w w'
def Mj{k:Nat}{x:BK}(d:c.q0[k]?=X x)(b:(x.q9.any λa=>!Ct c x a)=ϑ):Dl c=ϑ:=
 List.any_eq_true.2 ⟨x,Lm d,b⟩
def KK(g:∀(j:Nat) a,j<c.q0.length->c.q0[j]?=X a->(a.q9.any λd=>!Ct c a d)=ϝ):Dl c=ϝ:=by
 unfold Dl;rw[List.any_eq_false];intro a f;obtain⟨e,b,rfl⟩:=List.getElem_of_mem f;rw[g e _ b (Lg b)];simp
def XH(a:l.any p=ϑ):0<=Cz p l:=by have:=Ci p l;rw[a]at this;simpa using this
def XG(a:l.any p=ϝ):Cz p l<0:=by have:=Ci p l;rw[a]at this;simpa using this
def Mk(c:AQ)(g:ϒ)(B:Nat)(w:Ϣ)(k:B<=w)(h:BF B w g c) :
  ϙ prog 85 #[g] w (RD (Dl c) w):=by
 have V:=Lh h;obtain⟨u,_,rfl,-,y,-⟩:=h;obtain⟨s,t,rfl,_,_,_,i⟩:=y;have Q:=Lh i;go_in;go_wp2_with fail;go_loopw[11] (λi wr=>∃g:Nat,g<=c.q0.length/\i=O g/\ϐ (w.alloc (H #[u,O c.G,K s c.q0 t] 25)).heap.size (w.alloc (H #[u,O c.G,K s c.q0 t] 25)) wr/\Hid (∀(h:Nat) a,h<g->c.q0[h]?=X a->(a.q9.any λb=>!Ct c a b)=ϝ)) (λi _=>c.q0.length-(intOf i).toNat);exact⟨0,Nat.zero_le _,rfl,Below.refl _ _,λh a g=>by omega⟩;obtain⟨j,_,rfl,G,N⟩:=hrel;have p:=As G;by_cases P:j<c.q0.length
 .obtain ⟨a,d⟩:=Ϡ c.q0 j P
  rcases Q.o with x|⟨_,_,rfl,C,e⟩
  .rw [x]at d;simp at d
  have e:=(e j a d).below (p.mono k) C;let⟨_,_,_,_,⟨_,_,l⟩,R,S,T⟩:=e;have L:=Lh d;have A:=Lh l;obtain⟨q,r,rfl,-,-,-,-⟩:=l;have m:=p.th (AA wr (H #[.string a.name,O a.params,O a.L,.bool a.result,K q a.q9 r] 70));have d:=(Je G).alloc (H #[.string a.name,O a.params,O a.L,.bool a.result,K q a.q9 r] 70);have J:=Lh d;go_wp2_with fail;refine(KP 126 #[_,_] (λb=>!Ct c a b) a.q9 _ B _ L3 (Nt k m.size) (A.o.inss ((AA _ _).mono (Nt k p.size))) ?_).mono ?_
  .intro b g e d h
   exact Qs c a b _ _ e _ _ B g (J.o.kp d) (Je d) (V.o.below ((m.th d).mono k)) ⟨_,rfl,(A.o.inss ((As d).mono (Nt k p.size))),R,S,T⟩ h (Nt k (m.th d).size)
  rintro d e⟨rfl,z⟩;cases f:a.q9.any (λb=>!Ct c a b)with
  |true=>
   have E:=Lh (Mj L.o f);have:=XH f;go_wp2_with fail;go_ret3;exact⟨_,_,by rw[E.o];rfl,m.th z⟩
  |false=>
   have M:Hid (∀(d:Nat) b,d<j+1->c.q0[d]?=X b->(b.q9.any λd=>!Ct c b d)=ϝ):=by
    intro o b d n;by_cases v:o=j
    .subst v;obtain rfl:a=b:=by simpa using L.o.symm.trans n
     exact f
    exact N o b D n
   have:=XG f;go_wp2;go_roundw;exact⟨j+1,D,by go_num,G.thenA z,M⟩;simp[intOf];omega
 have F:=Lh (KK (c:=c) (λd a e b=>N d a D b));go_wp2_with fail;go_ret3;exact⟨_,_,by rw[F.o];rfl,p⟩
noncomputable def FO(c:AQ):Bool:=GX c && !Dl c
def Py(c:AQ)(b:ϒ)(B:Nat)(w:Ϣ)(k:C8 w)(f:B<=w)(e:BF B w b c) :
  ϙ prog 165 #[b] w λb w'=>b=.returned (.bool (FO c))/\ϐ w w w':=by
 have h:=Lh e;have j:=Lh k;obtain⟨_,_,rfl,-,-,-⟩:=e;go_in;go_wp2_with fail;refine(LH c _ B _ (j.o.below (AA _ _)) φ (h.o.below ((AA _ _).mono f))).mono ?_;rintro b w'⟨rfl,a⟩;have:=Cc a 0 _ rfl;have:=Cc a 1 _ rfl;have:=Cc a 2 _ rfl;cases d:GX c with
 |false=>
  have i:Hid (FO c=ϝ):=by show _=_;unfold FO;rw[d];rfl
  go_wp2;go_ret;exact⟨by rw[i.o];rfl,As a⟩
 |true=>
  have l:Hid (FO c=!Dl c):=by show _=_;unfold FO;rw[d];rfl
  go_wp2_with fail;refine(Mk c _ B _ (Nt f (As a).size) (h.o.below ((As a).mono f))).mono ?_;rintro m n⟨_,_,rfl,g⟩;go_wp2;go_ret;exact⟨by rw[l.o];rfl,(As a).th g⟩
def AG{B:Nat}{a:Ϣ}(b:ϐ B a w)(n:Nat):ϐ B a (w.drewN n):=b.trans ⟨rfl,rfl,rfl,Nr _,λ_ _=>rfl⟩
def D0(b:Bool):Int:=if b then 1 else 0
def RT(b:Bool)(w:Ϣ) :
  ϙ prog 156 #[.bool b] w λa w'=>a=.returned (O (D0 b))/\w'=w:=by
 cases b
 .go_in
  go_wp2;go_ret;exact⟨rfl,rfl⟩
 go_in;go_wp2;go_ret;exact⟨rfl,rfl⟩
def BB(op:Int):Prop:=15<=op/\op<=25\/op=27\/op=28
instance(op:Int):Decidable (BB op):=by unfold BB;exact inferInstance
def Bk(op:Int):Int:=if op=3\/op=5\/op=12\/op=30\/op=6\/op=14\/op=26\/op=29\/op=31 then 1 else if op=7 then 2 else 0
def DI(op:Int):Int:=if op=1\/op=2\/op=4\/op=8\/op=6\/op=14\/op=26\/op=29 then 1 else if op=31 then 2 else 0
def QI:List Int:=[0,0,0,1,0,1,1,0,0,1,1,0,1,1,2,0,0,1,0,0,0,0,0,0,1,0,0,0,1,1,0,0,0,0,0,0,0,0,0,0,0,0,0,0,0,0,0,0,0,0,0,0,1,1,0,0,0,0,1,1,1,0,1,2]
def EO:Array ϒ:=(QI.map (Value.int .i64)).toArray
def SV:∀a:Nat,a<32->QI[a*2]?=X (Bk a)/\QI[a*2+1]?=X (DI a):=δ
def SU(a:Int)(c:0<=a)(d:a<=31):EO[a.toNat*2]?=X (O (Bk a))/\EO[a.toNat*2+1]?=X (O (DI a)):=by
 obtain⟨b,rfl⟩:=Int.eq_ofNat_of_zero_le c;let⟨a,c⟩:=SV b D;unfold EO;simp only[Int.toNat_natCast,List.getElem?_toArray,List.getElem?_map,a,c,Option.map_some];trivial
def Dy{P:Program}{f:Array Oper}{rest:List Oper}{o:Oper}{a:Act}{e:Exit->Act->Ϣ->Prop}(j:o.guard=none)(t:TypeId)(b:Array (Nat×Operand))(i:o.op=.build t b)
  (c:Array ϒ) (d:P.built t (b.map λ(g,h)=>(g,a.eval h)).toList=X c)
  (g:wpList P f e rest (a.put o.dst (.agg c)) w):wpList P f e (o::rest) a w:=by
 refine wpList_build j t b i (by rw[d];rfl) ?_;rw[d];exact g
def Hm(W:Ϣ)(n:Nat)(c:Array ϒ)(a:n=(W:Nat))(b:c.size=64):(storeCells (U n 0) EO.toList 0).run prog (W.alloc (H c 210))=.ok () (W.alloc (H EO 210)):=by
 subst a;exact run_storeCells_new W 210 c EO κ (by rw[b];rfl) κ
def Dt(c:AQ)(a:Int):Option BK:=c.q0[a.toNat]?
def AM(c:AQ)(f:BK)(x:Cd):Int:=
 if x.op=9 then(match Dt c x.a with|some g=>g.params|none=>0)else if x.op=10 then D0 f.result else if BB x.op then 2 else Bk x.op
def AK(c:AQ)(f:BK)(x:Cd):Int:=
 if x.op=9 then(match Dt c x.a with|some g=>D0 g.result|none=>0)else if x.op=10 then 0 else if BB x.op then 1 else DI x.op
def SX(c:AQ)(d:ϒ)(f:BK)(fv:ϒ)(x:Cd)(b:ϒ)(B:Nat)(w:Ϣ)(n:B<=w)(j:BF B w d c)(k:EI B w fv f)(l:IV B w b x)(n:1<=x.op)(n:x.op<=31)(a:x.op=10) :
  ϙ prog 131 #[d,fv,b] w λb w'=>b=.returned (.tuple #[O (AM c f x),O (AK c f x)])/\ϐ w w w':=by
 obtain⟨fv,_,rfl,g,h,_⟩:=j;obtain⟨_,rfl,i,_,_,_⟩:=k;obtain⟨rfl,_,_⟩:=l;obtain⟨_,_,rfl,_,-,-,-⟩:=g;obtain⟨_,_,rfl,_,_,_,_⟩:=h;obtain⟨_,_,rfl,_,-,-,-⟩:=i;unfold in64 at *;have:(x.op==9)=ϝ:=by rw[a];rfl
 have:(x.op==10)=ϑ:=by rw[a];rfl
 have e:Hid (AM c f x=D0 f.result/\AK c f x=0):=by
  constructor
  .unfold AM;rw[if_neg D,if_pos a]
  unfold AK;rw[if_neg D,if_pos a]
 go_in;go_wp2_with(with_reducible refine Dy (o:=⟨X 25,_,_,_,_,_⟩) rfl 210 _ rfl EO κ ?_);rw[Hm];rotate_left
 .simp
 .rfl
 simp only[Result.andThen_ok,Oper.upon_skip];go_wp2_with fail;refine(RT _ _).mono ?_;rintro m w'⟨rfl,rfl⟩;go_wp2_with fail;go_ret2;exact⟨by rw[e.o.1,e.o.2];rfl,(((Br.alloc (Nr _) _).alloc ψ _).alloc φ _).alloc φ _⟩
def SZ(c:AQ)(b:ϒ)(f:BK)(fv:ϒ)(x:Cd)(a:ϒ)(B:Nat)(w:Ϣ)(m:B<=w)(j:BF B w b c)(k:EI B w fv f)(l:IV B w a x)(m:1<=x.op)(m:x.op<=31)(d:BB x.op) :
  ϙ prog 131 #[b,fv,a] w λa w'=>a=.returned (.tuple #[O (AM c f x),O (AK c f x)])/\ϐ w w w':=by
 obtain⟨fv,_,rfl,g,h,_⟩:=j;obtain⟨_,rfl,i,_,_,_⟩:=k;obtain⟨rfl,_,_⟩:=l;obtain⟨_,_,rfl,_,-,-,-⟩:=g;obtain⟨_,_,rfl,_,_,_,_⟩:=h;obtain⟨_,_,rfl,_,-,-,-⟩:=i;unfold in64 at *;unfold BB at d;have:=ξ x.op 9;have:=ξ x.op 10;have e:Hid (AM c f x=2/\AK c f x=1):=by
  constructor
  .unfold AM;rw[if_neg D,if_neg D,if_pos (by unfold BB;exact d)]
  unfold AK;rw[if_neg D,if_neg D,if_pos (by unfold BB;exact d)]
 go_in;go_wp2_with(with_reducible refine Dy (o:=⟨X 25,_,_,_,_,_⟩) rfl 210 _ rfl EO κ ?_);rw[Hm];rotate_left
 .simp
 .rfl
 simp only[Result.andThen_ok,Oper.upon_skip];go_wp2_with fail;all_goals first
  |(exfalso;simp only[beq_iff_eq,beq_eq_false_iff_ne]at *;omega)
  |(go_ret2;exact⟨by rw[e.o.1,e.o.2];rfl,(((Br.alloc (Nr _) _).alloc ψ _).alloc φ _).alloc φ _⟩)
def SY(c:AQ)(e:ϒ)(f:BK)(fv:ϒ)(x:Cd)(b:ϒ)(B:Nat)(w:Ϣ)(E:B<=w)(n:BF B w e c)(q:EI B w fv f)(r:IV B w b x)(E:1<=x.op)(s:x.op<=31)(a:¬BB x.op)(i:x.op≠9)(h:x.op≠10) :
  ϙ prog 131 #[e,fv,b] w λb w'=>b=.returned (.tuple #[O (AM c f x),O (AK c f x)])/\ϐ w w w':=by
 obtain⟨fv,_,rfl,j,k,_⟩:=n;obtain⟨_,rfl,l,_,_,_⟩:=q;obtain⟨rfl,_,_⟩:=r;obtain⟨z,y,rfl,_,-,-,-⟩:=j;obtain⟨v,u,rfl,_,_,_,_⟩:=k;obtain⟨A,C,rfl,_,-,-,-⟩:=l;unfold in64 at *;have g:Hid (AM c f x=Bk x.op/\AK c f x=DI x.op):=by
  constructor
  .unfold AM;rw[if_neg i,if_neg h,if_neg a]
  unfold AK;rw[if_neg i,if_neg h,if_neg a]
 unfold BB at a;have:=ξ x.op 9;have:=ξ x.op 10;have:=ξ x.op 27;have:=ξ x.op 28;have e:=SU x.op D s;let⟨p,b⟩:∃p,Bk x.op=p:=⟨_,rfl⟩;let⟨d,a⟩:∃d,DI x.op=d:=⟨_,rfl⟩;have g:Hid (AM c f x=p/\AK c f x=d):=by rw[<-b,<- a];exact g
 rw[b,a]at e;have m:=Lh e;go_in;go_wp2_with(with_reducible refine Dy (o:=⟨X 25,_,_,_,_,_⟩) rfl 210 _ rfl EO κ ?_);rw[Hm];rotate_left
 .simp
 .rfl
 simp only[Result.andThen_ok,Oper.upon_skip];let⟨a,b⟩:=ε ((((w.alloc (H (Bc z y v u c) 25)).alloc (H #[.string f.name,O f.params,O f.L,.bool f.result,K A f.q9 C] 70)).alloc (H #[O x.op,O x.a] 96)));have e:(a:Nat)=(w:Nat)+1+1+1:=by rw[b];simp
 have t:ϐ w w a:=by rw[b];exact((Br.alloc (Nr _) _).alloc ψ _).alloc φ _
 have:(a.alloc (H EO 210)).cell? (U (w+1+1) 0)=X (O x.op):=by
  rw[World.cell?_alloc_past]
  .rw [b,X0];rfl
  omega
 have:(a.alloc (H EO 210)).cell? (U (w+1+1+1) (x.op.toNat*2))=X (O p):=by rw[World.cell?_alloc_at _ _ _ _ e.symm];exact m.o.1
 have:(a.alloc (H EO 210)).cell? (U (w+1+1+1) (x.op.toNat*2+1))=X (O d):=by rw[World.cell?_alloc_at _ _ _ _ e.symm];exact m.o.2
 rw[<-b];clear b;go_wp2_with fail;all_goals first
  |(exfalso;simp only[beq_iff_eq,beq_eq_false_iff_ne]at *;omega)
  |skip
 all_goals go_quiet(fail)
 all_goals (go_wp2_with fail)
 all_goals
  go_ret2;exact⟨by rw[g.o.1,g.o.2];rfl,AG (t.th (AA _ _)) _⟩
def QJ(c:AQ)(i:ϒ)(f:BK)(fv:ϒ)(x:Cd)(g:ϒ)(B:Nat)(w:Ϣ)(M:B<=w)(s:BF B w i c)(u:EI B w fv f)(v:IV B w g x)(E:1<=x.op)(E:x.op<=31)(b:x.op=9)(z:0<=x.a)(E:x.a<c.q0.length) :
  ϙ prog 131 #[i,fv,g] w λg w'=>g=.returned (.tuple #[O (AM c f x),O (AK c f x)])/\ϐ w w w':=by
 obtain⟨fv,_,rfl,l,p,_⟩:=s;obtain⟨_,rfl,q,_,_,_⟩:=u;obtain⟨rfl,_,_⟩:=v;obtain⟨F,G,rfl,_,-,-,-⟩:=l;obtain⟨_,C,rfl,_,_,_,a⟩:=p;obtain⟨J,L,rfl,_,-,-,-⟩:=q;have y:=Lh a;clear a;unfold in64 at *;let⟨d,k⟩:=Int.eq_ofNat_of_zero_le z;have g:d<c.q0.length:=D;let⟨a,e⟩:=Ϡ c.q0 d g;have A:Hid (AM c f x=a.params/\AK c f x=D0 a.result):=by
  have:Dt c x.a=X a:=by unfold Dt;rw[k];exact e
  constructor
  .unfold AM;rw[if_pos b,this]
  unfold AK;rw[if_pos b,this]
 rcases y.o with j|⟨t,o,rfl,r,h⟩
 .rw [j]at e;simp at e
 have h:=(h d a e).below ((Below.refl B w)) r;have:(x.op==9)=ϑ:=by rw[b];rfl
 let⟨n,_⟩:=x;simp only at *;subst k;clear b;go_in;go_wp2_with(with_reducible refine Dy (o:=⟨X 25,_,_,_,_,_⟩) rfl 210 _ rfl EO κ ?_);rw[Hm];rotate_left
 .simp
 .rfl
 simp only[Result.andThen_ok,Oper.upon_skip];let⟨b,a⟩:=ε (((((w.alloc (H #[K F c.H G,O c.G,K (X (U t o)) c.q0 C] 25)).alloc (H #[.string f.name,O f.params,O f.L,.bool f.result,K J f.q9 L] 70)).alloc (H #[O n,O (d:Int)] 96)).alloc (H EO 210)));have m:ϐ w w b:=by rw[a];exact(((Br.alloc (Nr _) _).alloc ψ _).alloc φ _).alloc φ _
 obtain⟨-,_,-,_,-⟩:=h.below (m.mono M) r;have:b.cell? (U (w+1+1) 0)=X (O n):=by
  rw[a,World.cell?_alloc_past]
  .rw [X0];rfl
  simp
 have:b.cell? (U (w+1+1) 1)=X (O (d:Int)):=by
  rw[a,World.cell?_alloc_past]
  .rw [X0];rfl
  simp
 have:b.cell? (U w 2)=X (K (X (U t o)) c.q0 C):=by
  rw[a,World.cell?_alloc_past]
  .rw [X8];rfl
  simp;omega
 rw[<-a];clear a h e;go_wp2_with fail;go_quiet((go_at_call 156;exact Calls.quiet_of_same (RT _ _)));go_wp2_with fail;go_ret2;exact⟨by rw[A.o.1,A.o.2];rfl,AG m _⟩
def SW(c:AQ)(d:ϒ)(f:BK)(fv:ϒ)(x:Cd)(b:ϒ)(B:Nat)(w:Ϣ)(m:B<=w)(l:BF B w d c)(k:EI B w fv f)(j:IV B w b x)(h:1<=x.op)(g:x.op<=31)(e:x.op=9->0<=x.a/\x.a<c.q0.length) :
  ϙ prog 131 #[d,fv,b] w λa w'=>a=.returned (.tuple #[O (AM c f x),O (AK c f x)])/\ϐ w w w':=by
 by_cases a:x.op=9
 .exact QJ c d f fv x b B w m l k j h g a (e a).1 (e a).2
 by_cases i:x.op=10
 .exact SX c d f fv x b B w m l k j h g i
 by_cases e:BB x.op
 .exact SZ c d f fv x b B w m l k j h g e
 exact SY c d f fv x b B w m l k j h g e a i
