import Derived.Test.YtigbfkiddlhhjaaGreatDoorStep0
import Derived.Laws.ResultCell
import Derived.Laws.AppendOwn
import Derived.Outline
set_option maxHeartbeats 8000000
set_option maxRecDepth 100000
set_option linter.all false
open Go renaming World→Ϣ,Value→ϒ,Calls→ϙ,heap_setCell_same→ϡ
open Option renaming some→O
open Bool renaming false→ϝ,true→ϑ
open List renaming replicate→ϱ,mem_cons→ϰ
open Go.Value renaming slice→σ
open Go.Obj renaming cells→χ
namespace Go.Proofs.YtigbfkiddlhhjaaGreatDoor
open Go.RowKit Proofs.Tryz
open Go.RowKit renaming ι→X,π→D,ω→Z
variable{α:Type}{n op a b:Int}{st:List Int}{c:AQ}{y:BK}{k p i bm R bk clock A:Nat}{x:Cd}{f f':AY}{m m1:AV}{fs fr:List AY}{l F:List Nat}{r:Rq}{w w' W:Ϣ}{fv v:ϒ}{fn:Func}{es:Array MapEntry}{o:Obj}
def BP(n:Int):Prop:=-1099511627776<=n/\n<=1099511627776
def Aq:Af n=ϑ↔BP n:=by unfold Af BP;simp
def BP.in64(a:BP n):in64 n:=by unfold BP at a;unfold Go.Proofs.YtigbfkiddlhhjaaGreatDoor.in64;omega
def EA(v:Int):Int:=(Lib.bitLen (max 1 v).toNat:Int)-1
def Df(c:AQ)(m:AV)(fs:List AY)(f:AY)(y:BK)(x:Cd):KM:=
 let l:=f.S.dropLast;let v:=f.S.getLastD 0;let l2:=l.dropLast;let u:=l.getLastD 0
 if x.op=1 then .go {m with I:=m.I+1,J:=fs++[{f with pc:=f.pc+1,S:=f.S++[x.a]}]}
 else if x.op=2 then .go {m with I:=m.I+1,J:=fs++[{f with pc:=f.pc+1,S:=f.S++[f.L.getD x.a.toNat 0]}]}
 else if x.op=3 then .go {m with I:=m.I+1,J:=fs++[{f with pc:=f.pc+1,L:=f.L.set x.a.toNat v,S:=l}]}
 else if x.op=4 then .stop ⟨1,0,x.a,0,0⟩ {m with I:=m.I+1,J:=fs++[{f with pc:=f.pc+1}]}
 else if x.op=5 then .stop ⟨2,0,x.a,v,0⟩ {m with I:=m.I+1,J:=fs++[{f with pc:=f.pc+1,S:=l}]}
 else if x.op=6 then(if v<1 then .stop (Ah 17) {m with I:=m.I+1,J:=fs++[{f with pc:=f.pc+1,S:=l}]}else .stop ⟨1,v,x.a,0,0⟩ {m with I:=m.I+1,J:=fs++[{f with pc:=f.pc+1,S:=l}]})
 else if x.op=7 then(if u<1 then .stop (Ah 17) {m with I:=m.I+1,J:=fs++[{f with pc:=f.pc+1,S:=l2}]}else .stop ⟨2,u,x.a,v,0⟩ {m with I:=m.I+1,J:=fs++[{f with pc:=f.pc+1,S:=l2}]})
 else if x.op=8 then .stop ⟨3,0,x.a,0,0⟩ {m with I:=m.I+1,J:=fs++[{f with pc:=f.pc+1}]}
 else if x.op=9 then(match Dt c x.a with
  |none=>.stop (Ah 0) m
  |some z=>
   let n:=f.S.length-z.params.toNat
   if fs.length+1<200 then .go {m with I:=m.I+1,J:=fs++[{f with pc:=f.pc+1,S:=f.S.take n}]++[⟨x.a,0,f.S.drop n++ϱ (z.L-z.params).toNat 0,[]⟩]}
   else .stop (Ah 19) {m with I:=m.I+1,J:=fs++[{f with pc:=f.pc+1,S:=f.S.take n}]})
 else if x.op=10 then(match fs.getLast? with
  |none=>.stop (EE (if y.result then v else 0)) {m with I:=m.I+1,J:=[]}
  |some f'=>.go {m with I:=m.I+1,J:=fs.dropLast++[Sh f' y.result (if y.result then v else 0)]})
 else if x.op=11 then .go {m with I:=m.I+1,J:=fs++[{f with pc:=x.a}]}
 else if x.op=12 then(if v=0 then .go {m with I:=m.I+1,J:=fs++[{f with pc:=x.a,S:=l}]}else .go {m with I:=m.I+1,J:=fs++[{f with pc:=f.pc+1,S:=l}]})
 else if x.op=13 then(if m.Y=0 then .stop (Ah 20) {m with I:=m.I+1,J:=fs++[{f with pc:=f.pc+1}]}else .go {m with Y:=m.Y-1,I:=0,J:=fs++[{f with pc:=f.pc+1}]})
 else if x.op=14 then .go {m with I:=m.I+1,J:=fs++[{f with pc:=f.pc+1,S:=l++[-v]}]}
 else if x.op=26 then .go {m with I:=m.I+1,J:=fs++[{f with pc:=f.pc+1,S:=l++[D0 (v==0)]}]}
 else if x.op=29 then .go {m with I:=m.I+1,J:=fs++[{f with pc:=f.pc+1,S:=l++[EA v]}]}
 else if x.op=30 then .go {m with I:=m.I+1,J:=fs++[{f with pc:=f.pc+1,S:=l}]}
 else if x.op=31 then .go {m with I:=m.I+1,J:=fs++[{f with pc:=f.pc+1,S:=l++[v]++[v]}]}
 else if BG x.op u v=0 then .go {m with I:=m.I+1,C:=m.C+DS x.op,J:=fs++[{f with pc:=f.pc+1,S:=l2++[Du x.op u v]}]}
 else .stop (Ah (BG x.op u v)) {m with I:=m.I+1,C:=m.C+DS x.op,J:=fs++[{f with pc:=f.pc+1,S:=l2}]}
def stepP(c:AQ)(m:AV):KM:=
 if 100000<=m.I then .stop (Ah 6) m else match m.J.getLast? with
 |none=>.stop (Ah 0) m
 |some f=>match c.q0[f.fn.toNat]? with
  |none=>.stop (Ah 0) m
  |some y=>match y.q9[f.pc.toNat]? with
   |none=>.stop (Ah 0) m
   |some x=>Df c m m.J.dropLast f y x
structure Gr(c:AQ)(f:AY)(y:BK):Prop where
 fn0:0<=f.fn
 fn:c.q0[f.fn.toNat]?=O y
 pc0:0<=f.pc
 loc:(f.L:Int)=y.L
 lv:∀n∈f.L,BP n
 sv:∀n∈f.S,BP n
def D8(c:AQ)(f:AY):Prop:=∃y,Gr c f y/\Reach c y f.pc.toNat f.S.length
def DL(c:AQ)(g:AY)(P:Cd->Prop):Prop:=
 ∃y x h,Gr c g y/\1<=g.pc/\y.q9[(g.pc-1).toNat]?=O x/\P x/\Reach c y (g.pc-1).toNat h/\(g.S:Int)=h-AM c y x
def Ge(c:AQ):List AY->Int->Prop
 |[],_=>True
 |g::r,k=>DL c g (λx=>x.op=9/\x.a=k)/\Ge c r g.fn
def Co(m:AV):Int:=m.Y*100001+(100000-m.I)
structure EB(m:AV):Prop where
 Y:0<=m.Y
 idle0:0<=m.I
 idle1:m.I<=100000
 cmp0:0<=m.C
 potle:m.C+Co m<=4611686018427387904
structure Dr(c:AQ)(m:AV)(fs:List AY)(f:AY):Prop where
 fr:m.J=fs++[f]
 top:D8 c f
 low:Ge c fs.reverse f.fn
 len:fs.length<200
 nums:EB m
def Ko(x:Cd)(r:Rq):Prop:=
 (x.op=4/\r=⟨1,0,x.a,0,0⟩)\/(∃v,x.op=5/\BP v/\r=⟨2,0,x.a,v,0⟩)\/(∃n,x.op=6/\1<=n/\BP n/\r=⟨1,n,x.a,0,0⟩)\/(∃n v,x.op=7/\1<=n/\BP n/\BP v/\r=⟨2,n,x.a,v,0⟩)\/(x.op=8/\r=⟨3,0,x.a,0,0⟩)
structure C9(c:AQ)(m:AV)(r:Rq)(fs:List AY)(f:AY):Prop where
 fr:m.J=fs++[f]
 top:DL c f (λx=>Ko x r)
 low:Ge c fs.reverse f.fn
 len:fs.length<200
def IW(c:AQ)(r:Rq)(m:AV):Prop:=
 EB m/\((∃e,(e=5\/e=6\/e=17\/e=18\/e=19\/e=20)/\r=Ah e)\/(∃v,BP v/\r=EE v/\m.J=[])\/∃fs f,C9 c m r fs f)
def Bq(a:1<=st.length):st=st.dropLast++[st.getLastD 0]:=by
 have b:st≠[]:=λc=>by rw[c]at a;simp at a
 rw[List.getLastD_eq_getLast?,List.getLast?_eq_some_getLast b];exact(List.dropLast_concat_getLast b).symm
def FL(a:2<=st.length):st=st.dropLast.dropLast++[st.dropLast.getLastD 0]++[st.getLastD 0]:=by
 have b:=Bq (st:=st) Z;have a:=Bq (st:=st.dropLast) φ;rw[<-a];exact b
def AU.wf(a:AU c)(b:c.q0[k]?=O y):Pg c y:=Qr a.1 a.2.1 (Lm b)
def AU.snd(a:AU c)(b:c.q0[k]?=O y):CQ c y:=a.2.2 y (Lm b)
def AU.ins(b:AU c)(d:c.q0[k]?=O y)(a:y.q9[p]?=O x):Ct c y x=ϑ:=LN b.2.1 (Lm d) (Lm a)
def AU.lim(d:AU c)(b:c.q0[k]?=O y)(a:y.q9[p]?=O x)(e:Ey c y x.op=O n):0<=x.a/\x.a<n:=by
 have:=d.ins b a;have f:=(d.wf b).op x (Lm a);unfold Ct at this;rw[if_neg Z,e]at this;simpa using this
def AU.fok(b:AU c)(a:c.q0[k]?=O y):CX y:=NM b.1 (Lm a)
def D8.U(a:Gr c f y)(l:Reach c y f.pc.toNat f.S.length)(k:y.q9[f.pc.toNat]?=O x)
  (b:f'.fn=f.fn) (i:0<=f'.pc) (j:f'.pc.toNat∈Am x f.pc.toNat) (h:(f'.S:Int)=f.S.length-AM c y x+AK c y x)
  (g:f'.L.length=f.L.length) (e:∀n∈f'.L,BP n) (d:∀n∈f'.S,BP n):D8 c f':=
 ⟨y,⟨by rw[b];exact a.fn0,by rw[b];exact a.fn,i,by rw[g];exact a.loc,e,d⟩,by rw[h];exact l.next k j⟩
def JQ(a:x.op≠10/\x.op≠11):i+1∈Am x i:=by
 unfold Am;rw[if_neg Z];simp
def Oh(a:x.op=11\/x.op=12):x.a.toNat∈Am x i:=by
 unfold Am;rw[if_pos a];simp
def BN(a:x.op≠9/\x.op≠10/\¬BB x.op):AM c y x=Bk x.op/\AK c y x=DI x.op:=by
 unfold AM AK;rw[if_neg a.1,if_neg a.2.1,if_neg a.2.2,if_neg a.1,if_neg a.2.1,if_neg a.2.2];exact⟨rfl,rfl⟩
def JH(a:BB x.op):AM c y x=2/\AK c y x=1:=by
 unfold AM AK;have d:x.op≠9:=by unfold BB at a;omega
 have b:x.op≠10:=by unfold BB at a;omega
 rw[if_neg d,if_neg b,if_pos a,if_neg d,if_neg b,if_pos a];exact⟨rfl,rfl⟩
def Qn(a:1<=op)(a:op<=31)(a:op≠1/\op≠2/\op≠3/\op≠4/\op≠5/\op≠6/\op≠7/\op≠8/\op≠9/\op≠10/\op≠11/\op≠12/\op≠13/\op≠14/\op≠26/\op≠29/\op≠30/\op≠31):BB op:=by
 unfold BB;omega
def Dr.stepP(d:Dr c m fs f)(b:c.q0[f.fn.toNat]?=O y)(a:y.q9[f.pc.toNat]?=O x)(e:m.I<100000):stepP c m=Df c m fs f y x:=by
 unfold Go.Proofs.YtigbfkiddlhhjaaGreatDoor.stepP;rw[if_neg Z,d.fr];simp[b,a]
def Dr.at_(hs:AU c)(d:Dr c m fs f):∃y x,Gr c f y/\Reach c y f.pc.toNat f.S.length/\y.q9[f.pc.toNat]?=O x/\AM c y x<=f.S.length/\(x.op=10->(f.S:Int)=AM c y x):=by
 let⟨y,a,b⟩:=d.top;let⟨x,e,d,g,_⟩:=(hs.snd a.fn).1 _ _ b;exact⟨y,x,a,b,e,d,λa=>by have:=g a;omega⟩
def K9(f:BB op)(l:BP a)(k:BP b)(c:BG op a b=0):BP (Du op a b):=by
 have e:∀d,BP (D0 d):=λd=>by cases d<;>(unfold D0 BP;simp)
 unfold BG at c;unfold Du;unfold BB at f;by_cases i:op=15
 .rw [if_pos i]at c ⊢
  by_cases h:Af (a+b)=ϑ
  .exact Aq.1 h
  rw[if_neg h]at c;omega
 rw[if_neg i]at c ⊢;by_cases g:op=16
 .rw [if_pos g]at c ⊢
  by_cases f:Af (a-b)=ϑ
  .exact Aq.1 f
  rw[if_neg f]at c;omega
 rw[if_neg g]at c ⊢;by_cases d:op=17
 .rw [if_pos d]at c ⊢
  by_cases j:a.natAbs*b.natAbs<=1099511627776
  .have:=Int.natAbs_mul a b
   unfold BP;omega
  rw[if_neg j]at c;omega
 rw[if_neg d]at c ⊢;have:(a.tdiv b).natAbs<=a.natAbs:=by rw[Int.natAbs_tdiv];exact Nat.div_le_self _ _
 have:(a.tmod b).natAbs<=a.natAbs:=by rw[Int.natAbs_tmod];exact Nat.mod_le _ _
 unfold BP at l k;split
 .unfold BP;omega
 split
 .unfold BP;omega
 split
 .exact e _
 split
 .exact e _
 split
 .exact e _
 split
 .exact e _
 split<;>(unfold BP;omega)
def MX(v:Int):BP (EA v):=by
 unfold EA BP Lib.bitLen;have:=E6 64 (max 1 v).toNat;omega
def D8.next{c:AQ}{f:AY}{y:BK}{x:Cd}(b:Gr c f y)(j:Reach c y f.pc.toNat f.S.length)(i:y.q9[f.pc.toNat]?=O x)(k:x.op≠10/\x.op≠11)(a st:List Int)
  (h:(st:Int)=f.S.length-AM c y x+AK c y x) (g:a.length=f.L.length) (e:∀n∈a,BP n) (d:∀n∈st,BP n):D8 c {f with pc:=f.pc+1,L:=a,S:=st}:=by
 have:=b.pc0;refine D8.U b j i rfl (by show 0<=f.pc+1;omega) ?_ h g e d;have a:(f.pc+1).toNat=f.pc.toNat+1:=Z;show(f.pc+1).toNat∈_;rw[a];exact JQ k
def DL.next{c:AQ}{f:AY}{y:BK}{x:Cd}{P:Cd->Prop}(a:Gr c f y)(i:Reach c y f.pc.toNat f.S.length)(g:y.q9[f.pc.toNat]?=O x)(e:P x)(st:List Int)
  (h:(st:Int)=f.S.length-AM c y x) (d:∀n∈st,BP n):DL c {f with pc:=f.pc+1,S:=st} P:=by
 have:=a.pc0;have b:(f.pc+1-1).toNat=f.pc.toNat:=Z;exact⟨y,x,f.S.length,⟨a.fn0,a.fn,by show 0<=f.pc+1;omega,a.loc,a.lv,d⟩,by show 1<=f.pc+1;omega,by show y.q9[(f.pc+1-1).toNat]?=O x;rw[b];exact g,e,by show Reach c y (f.pc+1-1).toNat _;rw[b];exact i,h⟩
def EB.tick(b:EB m)(a:m.I<100000)(d:Int)(a:0<=d/\d<=1)(l:List AY):EB {m with I:=m.I+1,C:=m.C+d,J:=l}/\Co {m with I:=m.I+1,C:=m.C+d,J:=l}<Co m:=by
 let⟨a,_,_,_,_⟩:=b;unfold Co at *;exact⟨⟨a,by show 0<=m.I+1;omega,by show m.I+1<=100000;omega,by show 0<=m.C+d;omega,by show m.C+d+(m.Y*100001+(100000-(m.I+1)))<=_;omega⟩,by show m.Y*100001+(100000-(m.I+1))<_;omega⟩
def EB.tick0(b:EB m)(a:m.I<100000)(l:List AY):EB {m with I:=m.I+1,J:=l}/\Co {m with I:=m.I+1,J:=l}<Co m:=by
 have:=b.tick a 0 Z l;rw[show m.C+0=m.C by omega]at this;exact this
def getD_some{l:List Int}(a:i<l.length):l[i]?=O (l.getD i 0):=by rw[List.getD_eq_getElem?_getD,Lg a];rfl
def KV(op:Int):0<=DS op/\DS op<=1:=by unfold DS;split<;>omega
def M6(c:AQ)(m:AV):KM->Prop
 |.go m'=>(∃fs f,Dr c m' fs f)/\Co m'<Co m
 |.stop r m'=>IW c r m'
def Dr.go(a:Dr c m fs f)(b:m.I<100000)(e:D8 c f')(d:f'.fn=f.fn):M6 c m (.go {m with I:=m.I+1,J:=fs++[f']}):=
 ⟨⟨fs,f',rfl,e,by rw[d];exact a.low,a.len,(a.nums.tick0 b _).1⟩,(a.nums.tick0 b _).2⟩
def Dr.fails(d:Dr c m fs f)(b:m.I<100000)(e:Int)(a:e=5\/e=6\/e=17\/e=18\/e=19\/e=20)(l:List AY):M6 c m (.stop (Ah e) {m with I:=m.I+1,J:=l}):=
 ⟨(d.nums.tick0 b _).1,.inl ⟨e,a,rfl⟩⟩
def Dr.asks(a:Dr c m fs f)(d:m.I<100000)(e:DL c f' (λx=>Ko x r))(b:f'.fn=f.fn):M6 c m (.stop r {m with I:=m.I+1,J:=fs++[f']}):=
 ⟨(a.nums.tick0 d _).1,.inr (.inr ⟨fs,f',rfl,e,by rw[b];exact a.low,a.len⟩)⟩
def Tx(h:¬BG op a b=0):BG op a b=5\/BG op a b=6\/BG op a b=17\/BG op a b=18\/BG op a b=19\/BG op a b=20:=by
 unfold BG at *;split
 .rename_i e;rw[if_pos e]at h;split<;>simp_all
 rename_i e;rw[if_neg e]at h;split
 .rename_i e;rw[if_pos e]at h;split<;>simp_all
 rename_i e;rw[if_neg e]at h;split
 .rename_i e;rw[if_pos e]at h;split<;>simp_all
 rename_i e;rw[if_neg e]at h;split
 .rename_i e;rw[if_pos e]at h;split<;>simp_all
 rename_i e;rw[if_neg e]at h;omega
def GA(hs:AU c)(h:Dr c m fs f):M6 c m (stepP c m):=by
 by_cases d:100000<=m.I
 .unfold stepP
  rw[if_pos d];exact⟨h.nums,.inl ⟨6,Z,rfl⟩⟩
 have d:m.I<100000:=Z;let⟨y,x,j,q,k,o,aY⟩:=h.at_ hs;rw[h.stepP j.fn k d];have bB:=(hs.wf j.fn).op x (Lm k);have v:=j.sv;have r:=j.lv;have s:=λn p=>v n (List.dropLast_subset _ p);have aT:=λn p=>s n (List.dropLast_subset _ p);have u:f.S.dropLast.length=f.S.length-1:=List.length_dropLast;have aZ:f.S.dropLast.dropLast.length=f.S.length-1-1:=by rw[List.length_dropLast,u]
 have A:1<=f.S.length->BP (f.S.getLastD 0):=λh1=>v _ (by rw[Bq h1];simp);have hu:2<=f.S.length->BP (f.S.dropLast.getLastD 0):=λh1=>v _ (by rw[FL h1];simp);have B:∀{l:List Int}{n:Int},(∀a∈l,BP a)->BP n->∀a∈l++[n],BP a:=λh1 h2 a ha=>by
  rw[List.mem_append,List.mem_singleton]at ha;rcases ha with ha|rfl
  .exact h1 a ha
  exact h2
 have b2:∀t,BP (D0 t):=λt=>by cases t<;>(unfold D0 BP;simp)
 unfold Df;simp only[];by_cases e:x.op=1
 .rw [if_pos e]
  have b:=BN (c:=c) (y:=y) (x:=x) (by rw[e];decide);rw[e]at b;rw[b.1]at o;have hi:=hs.ins j.fn k;unfold Ct Ey at hi;rw[e]at hi;simp at hi;exact h.go d (D8.next j q k (by rw[e];decide) _ _ (by rw[b.1,b.2,List.length_append];simp[Bk,DI]) rfl r (B v hi)) rfl
 rw[if_neg e];by_cases F:x.op=2
 .rw [if_pos F]
  have b:=BN (c:=c) (y:=y) (x:=x) (by rw[F];decide);rw[F]at b;rw[b.1]at o;have aU:=hs.lim j.fn k (n:=y.L) (by rw[F];rfl);have bF:=j.loc;exact h.go d (D8.next j q k (by rw[F];decide) _ _ (by rw[b.1,b.2,List.length_append];simp[Bk,DI]) rfl r (B v (r _ (Lm (getD_some Z))))) rfl
 rw[if_neg F];by_cases S:x.op=3
 .rw [if_pos S]
  have b:=BN (c:=c) (y:=y) (x:=x) (by rw[S];decide);rw[S]at b;rw[b.1]at o;simp[Bk]at o;refine h.go d (D8.next j q k (by rw[S];decide) _ _ (by rw[b.1,b.2,u];simp[Bk,DI];omega) ψ (λn p=>?_) s) rfl;rcases List.mem_or_eq_of_mem_set p with p|p
  .exact r n p
  rw[p];exact A Z
 rw[if_neg S];by_cases T:x.op=4
 .rw [if_pos T]
  have b:=BN (c:=c) (y:=y) (x:=x) (by rw[T];decide);rw[T]at b;exact h.asks d (DL.next j q k (.inl ⟨T,rfl⟩) _ (by rw[b.1];simp[Bk]) v) rfl
 rw[if_neg T];by_cases V:x.op=5
 .rw [if_pos V]
  have b:=BN (c:=c) (y:=y) (x:=x) (by rw[V];decide);rw[V]at b;rw[b.1]at o;simp[Bk]at o;exact h.asks d (DL.next j q k (.inr (.inl ⟨_,V,A Z,rfl⟩)) _ (by rw[b.1,u];simp[Bk];omega) s) rfl
 rw[if_neg V];by_cases W:x.op=6
 .rw [if_pos W]
  have b:=BN (c:=c) (y:=y) (x:=x) (by rw[W];decide);rw[W]at b;rw[b.1]at o;simp[Bk]at o;split
  .exact h.fails d 17 Z _
  exact h.asks d (DL.next j q k (.inr (.inr (.inl ⟨_,W,Z,A Z,rfl⟩))) _ (by rw[b.1,u];simp[Bk];omega) s) rfl
 rw[if_neg W];by_cases Y:x.op=7
 .rw [if_pos Y]
  have b:=BN (c:=c) (y:=y) (x:=x) (by rw[Y];decide);rw[Y]at b;rw[b.1]at o;simp[Bk]at o;split
  .exact h.fails d 17 Z _
  exact h.asks d (DL.next j q k (.inr (.inr (.inr (.inl ⟨_,_,Y,Z,hu Z,A Z,rfl⟩)))) _ (by rw[b.1,aZ];simp[Bk];omega) aT) rfl
 rw[if_neg Y];by_cases e8:x.op=8
 .rw [if_pos e8]
  have b:=BN (c:=c) (y:=y) (x:=x) (by rw[e8];decide);rw[e8]at b;exact h.asks d (DL.next j q k (.inr (.inr (.inr (.inr ⟨e8,rfl⟩)))) _ (by rw[b.1];simp[Bk]) v) rfl
 rw[if_neg e8];by_cases e9:x.op=9
 .rw [if_pos e9]
  have aU:=hs.lim j.fn k (n:=c.q0.length) (by rw[e9];rfl);let⟨z,hz⟩:=Ϡ c.q0 x.a.toNat;have bC:Dt c x.a=O z:=hz;have b:AM c y x=z.params:=by unfold AM;rw[if_pos e9,bC]
  rw[b]at o;have bL:=hs.fok hz;unfold CX at bL;rw[bC];simp only[];have bJ:∀n∈f.S.take (f.S.length-z.params.toNat),BP n:=λn p=>v n (List.mem_of_mem_take p);split
  .rename_i hd
   have hw:DL c {f with pc:=f.pc+1,S:=f.S.take (f.S.length-z.params.toNat)} (λx'=>x'.op=9/\x'.a=x.a):=DL.next j q k ⟨e9,rfl⟩ _ (by rw[b,List.length_take];omega) bJ;refine⟨⟨_,_,rfl,⟨z,⟨by show 0<=x.a;omega,hz,by show(0:Int)<=0;omega,?_,?_,ψ⟩,Reach.zero c z⟩,?_,by simp;omega,(h.nums.tick0 d _).1⟩,(h.nums.tick0 d _).2⟩
   .show ((f.S.drop _++ϱ _ 0).length:Int)=_
    rw[List.length_append,List.length_drop,List.length_replicate];omega
   .intro n p
    simp only[List.mem_append,List.mem_replicate]at p;rcases p with p|p
    .exact v n (List.mem_of_mem_drop p)
    rw[p.2];unfold BP;omega
   rw[List.reverse_append];exact⟨hw,h.low⟩
  exact h.fails d 19 Z _
 rw[if_neg e9];by_cases G:x.op=10
 .rw [if_pos G]
  have b:AM c y x=D0 y.result:=by unfold AM;rw[if_neg Z,if_pos G]
  have p:=aY G;rw[b]at p;have aV:BP (if y.result=ϑ then f.S.getLastD 0 else 0):=by
   split
   .rename_i q;rw[q]at p;simp[D0]at p;exact A Z
   unfold BP;omega
  cases hg:fs.getLast? with
  |none=>exact⟨(h.nums.tick0 d _).1,.inr (.inl ⟨_,aV,rfl,rfl⟩)⟩
  |some f'=>
   obtain⟨aW,rfl⟩:∃aW,fs=aW++[f']:=by let⟨bN,bE⟩:=List.getLast?_eq_some_iff.1 hg;exact⟨_,bE⟩
   have aG:=h.low;rw[List.reverse_append]at aG;let⟨⟨y',x',h',R,bO,bK,⟨bG,bD⟩,bI,bM⟩,aG⟩:=aG;have aX:=h.len;simp only[List.dropLast_concat];have bH:AK c y' x'=D0 y.result:=by unfold AK;rw[if_pos bG,bD];show(match c.q0[f.fn.toNat]? with|some g=>D0 g.result|none=>0)=_;rw[j.fn]
   have bA:=bI.next bK (JQ (x:=x') (i:=(f'.pc-1).toNat) Z);have e1:(f'.pc-1).toNat+1=f'.pc.toNat:=Z;rw[e1,bH]at bA;refine⟨⟨aW,Sh f' y.result (if y.result=ϑ then f.S.getLastD 0 else 0),rfl,⟨y',⟨R.fn0,R.fn,R.pc0,R.loc,R.lv,?_⟩,?_⟩,aG,by simp at aX;omega,(h.nums.tick0 d _).1⟩,(h.nums.tick0 d _).2⟩
   .unfold Sh
    intro n w;simp only[List.mem_append]at w;rcases w with w|w
    .exact R.sv n w
    cases aK:y.result with
    |true=>rw[aK]at w aV;simp at w aV;rw[w];exact aV
    |false=>rw[aK]at w;simp at w
   show Reach c y' f'.pc.toNat ((f'.S++(if y.result=ϑ then [_]else [])).length:Nat);have:(((f'.S++(if y.result=ϑ then [if y.result=ϑ then f.S.getLastD 0 else 0]else [])).length:Nat):Int)=h'-AM c y' x'+D0 y.result:=by rw[List.length_append];cases aK:y.result<;>simp[D0]<;>omega
   rw[this];exact bA
 rw[if_neg G];by_cases C:x.op=11
 .rw [if_pos C]
  have b:=BN (c:=c) (y:=y) (x:=x) (by rw[C];decide);rw[C]at b;have aU:=hs.lim j.fn k (n:=y.q9.length) (by rw[C];rfl);exact h.go d (D8.U (f':={f with pc:=x.a}) j q k rfl aU.1 (Oh (.inl C)) (by rw[b.1,b.2];simp[Bk,DI]) rfl r v) rfl
 rw[if_neg C];by_cases E:x.op=12
 .rw [if_pos E]
  have b:=BN (c:=c) (y:=y) (x:=x) (by rw[E];decide);rw[E]at b;rw[b.1]at o;simp[Bk]at o;have aU:=hs.lim j.fn k (n:=y.q9.length) (by rw[E];rfl);split
  .exact h.go d (D8.U (f':={f with pc:=x.a,S:=f.S.dropLast}) j q k rfl aU.1 (Oh (.inr E)) (by rw[b.1,b.2];show((f.S.dropLast.length:Nat):Int)=_;rw[u];simp[Bk,DI];omega) rfl r s) rfl
  exact h.go d (D8.next j q k (by rw[E];decide) _ _ (by rw[b.1,b.2,u];simp[Bk,DI];omega) rfl r s) rfl
 rw[if_neg E];by_cases J:x.op=13
 .rw [if_pos J]
  have b:=BN (c:=c) (y:=y) (x:=x) (by rw[J];decide);rw[J]at b;split
  .exact h.fails d 20 Z _
  rename_i bQ;have ht:=D8.next j q k (by rw[J];decide) f.L f.S (by rw[b.1,b.2];simp[Bk,DI]) rfl r v;let⟨n1,n2,n3,n4,n5⟩:=h.nums;unfold Co at n5;refine⟨⟨fs,_,rfl,ht,h.low,h.len,?_⟩,?_⟩
  .exact ⟨by show 0<=m.Y-1;omega,by show(0:Int)<=0;omega,by show(0:Int)<=100000;omega,n4,by show m.C+((m.Y-1)*100001+(100000-0))<=_;omega⟩
  show(m.Y-1)*100001+(100000-0)<m.Y*100001+(100000-m.I);omega
 rw[if_neg J];by_cases L:x.op=14
 .rw [if_pos L]
  have b:=BN (c:=c) (y:=y) (x:=x) (by rw[L];decide);rw[L]at b;rw[b.1]at o;simp[Bk]at o;have bP:=A Z;exact h.go d (D8.next j q k (by rw[L];decide) _ _ (by rw[b.1,b.2,List.length_append,u];simp[Bk,DI];omega) rfl r (B s (by unfold BP at *;omega))) rfl
 rw[if_neg L];by_cases M:x.op=26
 .rw [if_pos M]
  have b:=BN (c:=c) (y:=y) (x:=x) (by rw[M];decide);rw[M]at b;rw[b.1]at o;simp[Bk]at o;exact h.go d (D8.next j q k (by rw[M];decide) _ _ (by rw[b.1,b.2,List.length_append,u];simp[Bk,DI];omega) rfl r (B s (b2 _))) rfl
 rw[if_neg M];by_cases N:x.op=29
 .rw [if_pos N]
  have b:=BN (c:=c) (y:=y) (x:=x) (by rw[N];decide);rw[N]at b;rw[b.1]at o;simp[Bk]at o;exact h.go d (D8.next j q k (by rw[N];decide) _ _ (by rw[b.1,b.2,List.length_append,u];simp[Bk,DI];omega) rfl r (B s (MX _))) rfl
 rw[if_neg N];by_cases P:x.op=30
 .rw [if_pos P]
  have b:=BN (c:=c) (y:=y) (x:=x) (by rw[P];decide);rw[P]at b;rw[b.1]at o;simp[Bk]at o;exact h.go d (D8.next j q k (by rw[P];decide) _ _ (by rw[b.1,b.2,u];simp[Bk,DI];omega) rfl r s) rfl
 rw[if_neg P];by_cases Q:x.op=31
 .rw [if_pos Q]
  have b:=BN (c:=c) (y:=y) (x:=x) (by rw[Q];decide);rw[Q]at b;rw[b.1]at o;simp[Bk]at o;exact h.go d (D8.next j q k (by rw[Q];decide) _ _ (by rw[b.1,b.2,List.length_append,List.length_append,u];simp[Bk,DI];omega) rfl r (B (B s (A Z)) (A Z))) rfl
 rw[if_neg Q];have h2:=Qn bB.1 bB.2 ⟨e,F,S,T,V,W,Y,e8,e9,G,C,E,J,L,M,N,P,Q⟩;have b:=JH (c:=c) (y:=y) h2;rw[b.1]at o;split
 .rename_i hE
  have ht:=D8.next j q k ⟨G,C⟩ f.L (f.S.dropLast.dropLast++[Du x.op (f.S.dropLast.getLastD 0) (f.S.getLastD 0)]) (by rw[b.1,b.2,List.length_append,aZ];simp;omega) rfl r (B aT (K9 h2 (hu Z) (A Z) hE));exact⟨⟨fs,_,rfl,ht,h.low,h.len,(h.nums.tick d _ (KV _) _).1⟩,(h.nums.tick d _ (KV _) _).2⟩
 rename_i hE;exact⟨(h.nums.tick d _ (KV _) _).1,.inl ⟨_,Tx hE,rfl⟩⟩
def UD{f:BK}(e:Pg c f)(b:x∈f.q9):- AM c f x+AK c f x<=1:=by
 have:=e.pops x b;by_cases d:x.op=9
 .have a:AK c f x<=1:=by
   unfold AK;rw[if_pos d];cases Dt c x.a with
   |none=>simp
   |some b=>have:=Pm b.result;simp only[];omega
  omega
 by_cases e:x.op=10
 .have a:AK c f x=0:=by unfold AK;rw[if_neg d,if_pos e]
  omega
 by_cases b:BB x.op
 .have:=JH (c:=c) (y:=f) b;omega
 have:=BN (c:=c) (y:=f) (x:=x) ⟨d,e,b⟩;rw[this.1,this.2];unfold Bk DI;repeat' split
 all_goals omega
inductive Fq(m:AV):KM->Prop
 |go (m1:AV):Fq m (.go m1)
 |stop (r:Rq) (m1:AV):m1.Y=m.Y/\(m1.I=m.I+1\/m1.I=m.I)->Fq m (.stop r m1)
def Fq.ite{p:Prop}[Decidable p]{a b:KM}(c:Fq m a)(c:Fq m b):Fq m (if p then a else b):=by split<;>assumption
def Sv(c:AQ)(m:AV)(fs:List AY)(f:AY)(y:BK)(x:Cd):Fq m (Df c m fs f y x):=by
 unfold Df;simp only[];repeat' apply Fq.ite
 all_goals first|exact .go _|exact .stop _ _ ⟨rfl,.inl rfl⟩|exact .stop _ _ ⟨rfl,.inr rfl⟩|skip
 .cases Dt c x.a with
  |none=>exact .stop _ _ ⟨rfl,.inr rfl⟩
  |some a=>
   simp only[];apply Fq.ite
   .exact .go _
   exact .stop _ _ ⟨rfl,.inl rfl⟩
 cases fs.getLast? with
 |none=>exact .stop _ _ ⟨rfl,.inl rfl⟩
 |some a=>exact .go _
def U0(hs:AU c)(d:Dr c m fs f)(a:stepP c m=.stop r m1):Co m1<=Co m:=by
 by_cases g:100000<=m.I
 .unfold stepP at a
  rw[if_pos g]at a;cases a;exact Int.le_refl _
 have e:m.I<100000:=Z;let⟨y,x,h,_,i,_,_⟩:=d.at_ hs;rw[d.stepP h.fn i e]at a;have b:Fq m (.stop r m1):=by rw[<-a];exact Sv c m fs f y x
 let⟨_,_⟩:m1.Y=m.Y/\(m1.I=m.I+1\/m1.I=m.I):=by cases b with|stop _ _ b=>exact b
 unfold Co;omega
def EG(r:Rq)(m:AV):AV:={m with Q:=r,J:=if r.K=4\/r.K=5 then []else m.J}
inductive Cf(c:AQ):AV->AV->Prop
 |stop {m:AV} {r:Rq} {m1:AV}:stepP c m=.stop r m1->Cf c m (EG r m1)
 |go {m m1 m2:AV}:stepP c m=.go m1->Cf c m1 m2->Cf c m m2
def DQ(c:AQ)(m:AV):Prop:=
 EB m/\((∃e,(e=5\/e=6\/e=17\/e=18\/e=19\/e=20)/\m.Q=Ah e/\m.J=[])\/(∃v,BP v/\m.Q=EE v/\m.J=[])\/∃fs f,C9 c m m.Q fs f)
def EW(a:Ko x r):r.K=1\/r.K=2\/r.K=3:=by
 rcases a with ⟨_,rfl⟩|⟨v,_,_,rfl⟩|⟨n,_,_,_,rfl⟩|⟨n,v,_,_,_,_,rfl⟩|⟨_,rfl⟩<;>simp
def IW.P(d:IW c r m):DQ c (EG r m):=by
 let⟨a,d⟩:=d;refine⟨⟨a.Y,a.idle0,a.idle1,a.cmp0,a.potle⟩,?_⟩;rcases d with ⟨e,g,rfl⟩|⟨v,h,rfl,_⟩|⟨fs,f,b⟩
 .exact .inl ⟨e,g,rfl,rfl⟩
 .exact .inr (.inl ⟨v,h,rfl,rfl⟩)
 right;right;let⟨y,x,_,_,_,_,a,_⟩:=b.top;have:=EW a;have a:EG r m={m with Q:=r}:=by unfold EG;rw[if_neg Z]
 rw[a];exact⟨fs,f,b.fr,b.top,b.low,b.len⟩
def Kb{a:AV}(k:Cf c m m1)(i:Cf c m a):m1=a:=by
 induction k generalizing a with
 |stop g=>
  cases i with
  |stop b=>rw[g]at b;cases b;rfl
  |go e _=>rw[g]at e;cases e
 |go h _ l=>
  cases i with
  |stop d=>rw[h]at d;cases d
  |go f j=>rw[h]at f;cases f;exact l j
def Md(hs:AU c){m':AV}(h:Cf c m m'):∀fs f,Dr c m fs f->DQ c m'/\Co m'<=Co m:=by
 induction h with
 |stop a=>intro fs f b;have:=GA hs b;rw[a]at this;refine⟨IW.P this,?_⟩;rename_i m r m1;show Co m1<=Co m;exact U0 hs b a
 |go a _ i=>intro fs f b;have:=GA hs b;rw[a]at this;let⟨⟨d,f',e⟩,k⟩:=this;let⟨g,j⟩:=i d f' e;exact⟨g,Z⟩
def C9.push(e:C9 c m r fs f)(d:EB m)(p:r.K=1\/r.K=3)(n:Int)(k:BP n)(q:Rq) :
  Dr c {m with Q:=q,J:=fs++[{f with S:=f.S++[n]}]} fs {f with S:=f.S++[n]}:=by
 let⟨y,x,s,b,_,o,j,l,_⟩:=e.top;refine⟨rfl,⟨y,⟨b.fn0,b.fn,b.pc0,b.loc,b.lv,λa h=>?_⟩,?_⟩,e.low,e.len,⟨d.Y,d.idle0,d.idle1,d.cmp0,d.potle⟩⟩
 .rw [List.mem_append,List.mem_singleton]at h
  rcases h with g|g
  .exact b.sv a g
  rw[g];exact k
 have:(x.op=4\/x.op=6\/x.op=8):=by rcases j with ⟨e,rfl⟩|⟨v,_,_,rfl⟩|⟨n,e,_,_,rfl⟩|⟨n,v,_,_,_,_,rfl⟩|⟨e,rfl⟩<;>simp at p<;>omega
 have b:=BN (c:=c) (y:=y) (x:=x) (by unfold BB;omega);have d:AK c y x=1:=by rw[b.2];unfold DI;rw[if_pos Z]
 have b:=l.next o (JQ (x:=x) (i:=(f.pc-1).toNat) Z);rw[d,show(f.pc-1).toNat+1=f.pc.toNat by omega]at b;show Reach c y f.pc.toNat ((f.S++[n]).length:Nat);rw[List.length_append];simp only[List.length_singleton];rw[show((f.S.length+1:Nat):Int)=s-AM c y x+1 by omega];exact b
def C9.goOn(a:C9 c m r fs f)(b:EB m)(g:r.K=2)(q:Rq):Dr c {m with Q:=q} fs f:=by
 let⟨y,x,k,d,_,j,e,h,_⟩:=a.top;refine⟨a.fr,⟨y,d,?_⟩,a.low,a.len,⟨b.Y,b.idle0,b.idle1,b.cmp0,b.potle⟩⟩;have:(x.op=5\/x.op=7):=by rcases e with ⟨a,rfl⟩|⟨v,a,_,rfl⟩|⟨n,a,_,_,rfl⟩|⟨n,v,a,_,_,_,rfl⟩|⟨a,rfl⟩<;>simp at g<;>omega
 have a:=BN (c:=c) (y:=y) (x:=x) (by unfold BB;omega);have b:AK c y x=0:=by rw[a.2];unfold DI;rw[if_neg Z,if_neg Z]
 have a:=h.next j (JQ (x:=x) (i:=(f.pc-1).toNat) Z);rw[b,show(f.pc-1).toNat+1=f.pc.toNat by omega]at a;rw[show((f.S.length:Nat):Int)=k-AM c y x+0 by omega];exact a
inductive R7(c:AQ)(f:BK):List Nat->Nat->Int->Prop
 |zero:R7 c f [] 0 0
 |next {l:List Nat} {i k:Nat} {n:Int} {x:Cd}:R7 c f l i n->i∉l->f.q9[i]?=O x->k∈Am x i->R7 c f (i::l) k (n-AM c f x+AK c f x)
def R7.reach{f:BK}(a:R7 c f l i n):Reach c f i n:=by
 induction a with
 |zero=>exact Reach.zero c f
 |next _ _ d b a=>exact a.next d b
def R7.cut{f:BK}(hs:CQ c f)(d:R7 c f l i n)(a:k∈l):∃b m,R7 c f b k m/\k∉b:=by
 induction d with
 |zero=>simp at a
 |next g e b _ h=>
  rw[ϰ]at a;rcases a with rfl|a
  .exact ⟨_,_,g,e⟩
  exact h a
def XW{f:BK}(hs:CQ c f)(a:Reach c f i n):∃l,R7 c f l i n/\i∉l:=by
 have:=a (λi n=>∃l,R7 c f l i n/\i∉l) ⟨[],.zero,ψ⟩ (λi n x k ⟨l,g,e⟩ b a=>by
  have d:=R7.next g e b a;by_cases b:k∈i::l
  .obtain ⟨h,m,a,g⟩:=d.cut hs b
   have e:=hs.2 k _ _ a.reach d.reach;rw[e]at a;exact⟨h,a,g⟩
  exact⟨_,d,b⟩)
 exact this
def R7.low{f:BK}(p:Pg c f)(h:R7 c f l i n):n<=l.length/\l.Nodup/\∀g∈l,g<f.q9.length:=by
 induction h with
 |zero=>simp
 |@next l i k n x q m e g h=>
  have g:=Lm e;have:=UD p g;let⟨a,b,o⟩:=h;refine⟨by simp;omega,List.nodup_cons.2 ⟨m,b⟩,λj d=>?_⟩;rw[ϰ]at d;rcases d with rfl|d
  .exact (Ll e)
  exact o j d
def Ou:∀(n:Nat)(l:List Nat),l.Nodup->(∀b∈l,b<n)->l.length<=n
 |0,l,_,c=>by
  cases l with
  |nil=>simp
  |cons a l=>have:=c a ψ;omega
 |n+1,l,b,g=>by
  have c:=Ou n (l.erase n) (b.erase n) (λf d=>by
   have e:=b.mem_erase_iff.1 d;have:=g f e.2;omega)
  by_cases b:n∈l
  .rw [List.length_erase_of_mem b]at c;omega
  rw[List.erase_of_not_mem b]at c;omega
def DJ{f:BK}(e:Pg c f)(hs:CQ c f)(b:Reach c f i n):n<=f.q9.length:=by
 let⟨l,a,_⟩:=XW hs b;let⟨_,b,d⟩:=a.low e;have:l.length<=f.q9.length:=by exact Ou _ _ b d
 omega
def Cv(w:Ϣ)(fv:ϒ)(fs:List AY)(F:List Nat):Prop:=
 ∃cells Fr,w.ownsRow 0 150 4 fv fs.length cells/\BJ w cells fs Fr/\F=fv.ownBlock.toList++Fr/\F.Nodup
def Ab:Ak w bm m F↔∃fv a,w.heap[bm]?=O (χ (AC fv m) 59 (0,0))/\Cv w fv m.J a/\F=bm::a/\bm∉a:=by
 constructor
 .rintro ⟨fv,o,n,i,k,l,rfl,b⟩
  rw[List.nodup_cons]at b;exact⟨fv,_,i,⟨o,n,k,l,rfl,b.2⟩,rfl,b.1⟩
 rintro⟨fv,_,g,⟨d,c,e,f,rfl,j⟩,rfl,h⟩;exact⟨fv,d,c,g,e,f,rfl,List.nodup_cons.2 ⟨h,j⟩⟩
def Cv.kp(a:Cv w fv fs F)(e:∀b∈F,w'.heap[b]?=w.heap[b]?):Cv w' fv fs F:=by
 obtain⟨g,f,d,h,rfl,l⟩:=a;refine⟨g,f,⟨d.1,?_⟩,h.kp (λb a=>e b (by simp[a])),rfl,l⟩;rcases d.2 with a|⟨c,j,i,rfl,k,m,n⟩
 .exact .inl a
 exact .inr ⟨c,j,i,rfl,k,by rw[e c (by simp[Value.ownBlock])];exact m,n⟩
def Cv.lt(d:Cv w fv fs F):∀b∈F,b<(w:Nat):=by
 obtain⟨_,_,e,g,rfl,_⟩:=d;intro b a;rw[List.mem_append]at a;rcases a with a|a
 .rcases e.2 with ⟨c,_⟩|⟨_,_,_,rfl,_,f,_⟩
  .rw [c]at a;simp[Value.ownBlock]at a
  simp[Value.ownBlock]at a;subst a;exact(La f)
 exact g.lt b a
def Ak.lt(c:Ak w bm m F):∀b∈F,b<(w:Nat):=by
 obtain⟨fv,_,d,e,rfl,_⟩:=Ab.1 c;intro b a;rw[ϰ]at a;rcases a with rfl|a
 .exact (La d)
 exact e.lt b a
def Cv.u1(f:Cv w fv fs F):∃a c,fv=σ a fs c:=by
 let⟨_,_,d,_⟩:=f;rcases d.2 with ⟨b,e⟩|⟨_,c,_,b,_⟩
 .exact ⟨none,0,by rw[b,e]⟩
 exact⟨_,_,b⟩
def Ds(w:Ϣ):Cv w ν [] []:=⟨[],[],⟨rfl,.inl ⟨rfl,rfl⟩⟩,⟨rfl,rfl⟩,rfl,List.nodup_nil⟩
def BO(w:Ϣ)(bm:Nat)(r:Rq):Ϣ:=((((w.setCell (D bm 1) (X r.K)).setCell (D bm 2) (X r.O)).setCell (D bm 3) (X r.D)).setCell (D bm 4) (X r.V)).setCell (D bm 5) (X r.X)
def BX{j:Nat}:AW [bm] [bm] w (w.setCell (D bm j) v):=⟨rfl,rfl,rfl,ψ,λk a hF=>heap_setCell_other _ _ _ _ (λa=>hF (by simp[a])),λ_ a=>.inl a⟩
def L7(fv:ϒ)(m:AV)(r:Rq):((((((AC fv m).setIfInBounds 1 (X r.K)).setIfInBounds 2 (X r.O)).setIfInBounds 3 (X r.D)).setIfInBounds 4 (X r.V)).setIfInBounds 5 (X r.X))=AC fv {m with Q:=r}:=by kernel_rfl
def CY(fv v:ϒ)(m:AV):(AC fv m).setIfInBounds 0 v=AC v m:=by kernel_rfl
def EP(b:w.heap[bm]?=O (χ (AC fv m) 59 (0,0)))(r:Rq) :
  (BO w bm r).heap[bm]?=O (χ (AC fv {m with Q:=r}) 59 (0,0))/\AW [bm] [bm] w (BO w bm r):=by
 unfold BO;have a:=ϡ _ bm 1 _ _ (X r.K) b;have b:=ϡ _ bm 2 _ _ (X r.O) a;have a:=ϡ _ bm 3 _ _ (X r.D) b;have b:=ϡ _ bm 4 _ _ (X r.V) a;have a:=ϡ _ bm 5 _ _ (X r.X) b;rw[L7]at a;exact⟨a,(((BX.trans BX).trans BX).trans BX).trans BX⟩
def AJ(fv:ϒ)(m:AV):ϒ:=.agg (AC fv m)
def AI:AV:=⟨[],⟨0,0,0,0,0⟩,0,0,0⟩
def CE(w:Ϣ)(fv:ϒ)(m:AV)(w':Ϣ):Prop:=∃F,Cv w' fv m.J F/\(∀b∈F,(w:Nat)<=b)/\Below w w w'
def Ai(W:Ϣ)(R:Nat)(fv:ϒ)(m:AV):Ϣ:=((((((((W.setCell (D R 0) fv).setCell (D R 1) (X m.Q.K)).setCell (D R 2) (X m.Q.O)).setCell (D R 3) (X m.Q.D)).setCell (D R 4) (X m.Q.V)).setCell (D R 5) (X m.Q.X)).setCell (D R 6) (X m.Y)).setCell (D R 7) (X m.C)).setCell (D R 8) (X m.I)
def L6(fv0 fv:ϒ)(m0 m:AV):(((((((((AC fv0 m0).setIfInBounds 0 fv).setIfInBounds 1 (X m.Q.K)).setIfInBounds 2 (X m.Q.O)).setIfInBounds 3 (X m.Q.D)).setIfInBounds 4 (X m.Q.V)).setIfInBounds 5 (X m.Q.X)).setIfInBounds 6 (X m.Y)).setIfInBounds 7 (X m.C)).setIfInBounds 8 (X m.I)=AC fv m:=by kernel_rfl
def AZ{fv0:ϒ}{m0:AV}(b:W.heap[R]?=O (χ (AC fv0 m0) 59 (0,0)))(fv:ϒ)(m:AV) :
  (Ai W R fv m).heap[R]?=O (χ (AC fv m) 59 (0,0))/\AW [R] [R] W (Ai W R fv m):=by
 unfold Ai;have a:=ϡ _ R 0 _ _ fv b;have b:=ϡ _ R 1 _ _ (X m.Q.K) a;have a:=ϡ _ R 2 _ _ (X m.Q.O) b;have b:=ϡ _ R 3 _ _ (X m.Q.D) a;have a:=ϡ _ R 4 _ _ (X m.Q.V) b;have b:=ϡ _ R 5 _ _ (X m.Q.X) a;have a:=ϡ _ R 6 _ _ (X m.Y) b;have b:=ϡ _ R 7 _ _ (X m.C) a;have a:=ϡ _ R 8 _ _ (X m.I) b;rw[L6]at a;exact⟨a,(((((((BX.trans BX).trans BX).trans BX).trans BX).trans BX).trans BX).trans BX).trans BX⟩
def AD(b:W.heap[R]?=O (χ (AC fv m) 59 (0,0)))(j:Nat)(v:ϒ)(a:(AC fv m)[j]?=O v):W.cell? (D R j)=O v:=by
 rw[cell_of_row _ _ _ _ _ _ b];exact a
def AO(a:W.heap[R]?=O (χ (AC fv m) 59 (0,0))) :
  W.cell? (D R 0)=O fv/\W.cell? (D R 1)=O (X m.Q.K)/\W.cell? (D R 2)=O (X m.Q.O)/\W.cell? (D R 3)=O (X m.Q.D)/\W.cell? (D R 4)=O (X m.Q.V)/\W.cell? (D R 5)=O (X m.Q.X)/\W.cell? (D R 6)=O (X m.Y)/\W.cell? (D R 7)=O (X m.C)/\W.cell? (D R 8)=O (X m.I):=
 ⟨AD a 0 _ rfl,AD a 1 _ rfl,AD a 2 _ rfl,AD a 3 _ rfl,AD a 4 _ rfl,AD a 5 _ rfl,AD a 6 _ rfl,AD a 7 _ rfl,AD a 8 _ rfl⟩
def AX{c:Array ϒ}{T:TypeId}(a:W.heap[R]?=O (χ c T (0,0))) :
  W.frozen? (D R 0)=ϝ/\W.frozen? (D R 1)=ϝ/\W.frozen? (D R 2)=ϝ/\W.frozen? (D R 3)=ϝ/\W.frozen? (D R 4)=ϝ/\W.frozen? (D R 5)=ϝ/\W.frozen? (D R 6)=ϝ/\W.frozen? (D R 7)=ϝ/\W.frozen? (D R 8)=ϝ:=
 ⟨Fz a,Fz a,Fz a,Fz a,Fz a,Fz a,Fz a,Fz a,Fz a⟩
def MW(a:W.heap[R]?=O (χ (AC fv m) 59 (0,0))):(loadVar 59 (D R 0)).run prog W=.ok (AJ fv m) W:=by
 have j:=AD a 0 fv rfl;have i:=AD a 1 (X m.Q.K) rfl;have h:=AD a 2 (X m.Q.O) rfl;have g:=AD a 3 (X m.Q.D) rfl;have f:=AD a 4 (X m.Q.V) rfl;have e:=AD a 5 (X m.Q.X) rfl;have d:=AD a 6 (X m.Y) rfl;have c:=AD a 7 (X m.C) rfl;have b:=AD a 8 (X m.I) rfl;simp[go_sem,AJ,AC,j,i,h,g,f,e,d,c,b]
def Bp{p u:Tmp}(f:fn.results=#[.cell p 59,.tmp u])(d:W.heap[R]?=O (χ (AC fv m) 59 (0,0)))(a:Array ϒ)(e:ϒ)(c:a.getD p undef=.pointer (O (D R 0)))(b:a.getD u undef=e) :
  (results fn a).run prog W=.ok (.tuple #[AJ fv m,e]) W:=by
 rw[results_cell_tmp f,c,b];simp[asAddr,MW d,Result.andThen]
def AL{p:Tmp}(c:fn.results=#[.cell p 59])(d:W.heap[R]?=O (χ (AC fv m) 59 (0,0)))(a:Array ϒ)(b:a.getD p undef=.pointer (O (D R 0))) :
  (results fn a).run prog W=.ok (AJ fv m) W:=by
 simp only[results,c];rw[Array.getD_eq_getD_getElem?]at b;simp[b,asAddr,MW d,Result.andThen,Sem.run_bind]
def XZ(r:Rq):ϒ:=.agg #[X r.K,X r.O,X r.D,X r.V,X r.X]
def Eg:Rq:=⟨0,0,0,0,0⟩
def CE.later{a:Ϣ}(f:CE a fv m w')(c:Below w w a):CE w fv m w':=by
 let⟨F,a,d,e⟩:=f;exact⟨F,a,λb a=>Nt c.size (d b a),c.th e⟩
def Bv(c:AQ):Prop:=∀y∈c.q0,y.q9.length<=100000
def Ge.small(hs:AU c)(d:Bv c):∀{l:List AY}{k:Int},Ge c l k->∀f∈l,f.S.length<=100000
 |[],_,_,f,a=>by simp at a
 |g::r,k,h,f,a=>by
  rw[ϰ]at a;rcases a with rfl|a
  .obtain ⟨y,x,_,b,_,i,_,e,_⟩:=h.1
   have:=DJ (hs.wf b.fn) (hs.snd b.fn) e;have:=d y (Lm b.fn);have:=((hs.wf b.fn).pops x (Lm i)).1;omega
  exact Ge.small hs d h.2 f a
def Dh(c:AQ)(nm:ByteArray):Int:=Cz (λf=>CM f.name nm) c.q0
def AS(c:AQ)(x:Bi)(fuel:Int):Int:=
 if fuel<0\/1048576<fuel then 2 else match c.q0[(Dh c x.proc).toNat]? with
 |none=>9
 |some y=>if Dh c x.proc<0 then 9 else if(x.args:Int)≠y.params then 3 else if x.args.any (λn=>!Af n)then 11 else 0
def CF(c:AQ)(x:Bi)(fuel:Int):AV:=
 ⟨[⟨Dh c x.proc,0,x.args++ϱ (((c.q0[(Dh c x.proc).toNat]?).map (λy=>(y.L-y.params).toNat)).getD 0) 0,[]⟩],⟨0,0,0,0,0⟩,fuel,0,0⟩
def G1(p:α->Bool)(l:List α):Cz p l = -1\/∃i:Nat,i<l.length/\Cz p l=i:=by
 unfold Cz;cases a:l.findIdx? p with
 |none=>exact .inl rfl
 |some i=>exact .inr ⟨i,(List.findIdx?_eq_some_iff_getElem.1 a).1,rfl⟩
def AE.u1{B:Nat}{sz:Nat}{E:Ϣ->Nat->Nat->α->Prop}{l:List α}(c:AE B w sz E v l):∃a b,v=σ a l b:=by
 obtain⟨a,b,rfl,_⟩:=c;exact⟨a,b,rfl⟩
def Bj(r:Rq)(n:Int):Bool:=if r.K=1 then Af n else if r.K=3 then decide (0<=n/\n<=1099511627776)else ϑ
def ED(c:AQ)(m:AV)(n:Int)(m':AV):Prop:=
 (m.Q.K=3/\n=0/\m'={m with J:=[],Q:=Ah 21})\/
 ((m.Q.K=1\/m.Q.K=3/\n≠0)/\∃fs f,m.J=fs++[f]/\Cf c {m with Q:=Eg,J:=fs++[{f with S:=f.S++[n]}]} m')\/
 (m.Q.K=2/\Cf c {m with Q:=Eg} m')
def IC:An 143:=λ_ _=>by kernel_rfl
def Qo(n:Int)(w:Ϣ) :
  ϙ prog 143 #[X n] w λa w'=>a=.returned (.bool (!Af n))/\w=w':=by
 go_in;go_wp2_with(go_at_call 141;refine(Bh n _).mono ?_;rintro b w'⟨rfl,rfl⟩);go_ret;exact⟨rfl,rfl⟩
def Mi(w:Ϣ):∀(x:Int)(a:Ϣ)(b:ϒ),Below w w a->Ny 0 a b x->ϙ prog 143 (#[b]++#[]) a (λb d=>b=.returned (.bool (!Af x))/\Below a a d):=by
 rintro x c e _⟨rfl,_⟩;exact(Qo x c).mono λc d ⟨a,b⟩=>⟨a,b▸Below.refl _ _⟩
def C7(c:AQ)(x:Cd):Int:=if x.op=5\/x.op=6 then 1 else if x.op=7 then 2 else if x.op=9 then(match Dt c x.a with|some z=>z.params|none=>0)else 0
def Oz(c:AQ)(h:ϒ)(x:Cd)(B:Nat)(w:Ϣ)(F:B<=w)(A:BF B w h c)(J:x.op=9->0<=x.a/\x.a<c.q0.length) :
  ϙ prog 145 #[h,.agg #[X x.op,X x.a]] w λh w'=>h=.returned (X (C7 c x))/\Below w w w':=by
 obtain⟨fv,y,rfl,p,i,_⟩:=A;obtain⟨s,u,rfl⟩:=p.u1;have L:=Lh (i.funs (((AA w (χ #[σ s c.H u,X c.G,y] 25)).th (AA _ (χ #[X x.op,X x.a] 96))).mono F));obtain⟨C,E,rfl⟩:=i.u1;let⟨op,a⟩:=x;by_cases l:op=9
 .subst l
  let⟨t,m⟩:=J rfl;obtain⟨n,rfl⟩:=Int.eq_ofNat_of_zero_le t;let⟨d,b⟩:=Ϡ c.q0 n (by simp at m;omega);have G:=@Lh (C7 c ⟨9,n⟩=d.params) (by unfold C7;simp[Dt,b]);let⟨q,r,v,_,_,_,e⟩:=L.o;obtain⟨rfl,rfl⟩:C=q/\E=r:=by simpa using v
  rcases e with o|⟨_,_,rfl,_,e⟩
  .rw [o]at b;simp at b
  have:=(e n d b).2.1;have:=In n;have:(n:Int)<(c.q0:Int):=m;go_in;go_wp2;go_ret;exact⟨by rw[G.o];rfl,(AA _ _).th (AA _ _)⟩
 have g:=@Lh (C7 c ⟨op,a⟩=if op=5\/op=6 then 1 else if op=7 then 2 else 0) (by unfold C7;simp[l]);have:(op==9)=ϝ:=by simp[l]
 by_cases k:op=5
 .subst k
  go_in;go_wp2;go_ret;exact⟨by rw[g.o];rfl,(AA _ _).th (AA _ _)⟩
 by_cases j:op=6
 .subst j
  go_in;go_wp2;go_ret;exact⟨by rw[g.o];rfl,(AA _ _).th (AA _ _)⟩
 by_cases f:op=7
 .subst f
  go_in;go_wp2;go_ret;exact⟨by rw[g.o];rfl,(AA _ _).th (AA _ _)⟩
 have:(op==5)=ϝ:=by simp[k]
 have:(op==6)=ϝ:=by simp[j]
 have:(op==7)=ϝ:=by simp[f]
 have z:=@Lh (C7 c ⟨op,a⟩=0) (by rw[g.o,if_neg Z,if_neg f]);go_in;go_wp2;go_ret;exact⟨by rw[z.o];rfl,(AA _ _).th (AA _ _)⟩
def NP(n:Int)(l:List Int)(b cap:Nat)(w:Ϣ)(hl:l.length<=1000)(d:∀(j:Nat) c,l[j]?=O c->w.cell? (D b j)=O (X c)) :
  ϙ prog 164 #[σ (O (D b 0)) l cap,X n] w λr w'=>r=.returned (X (Cz (λa=>n==a) l))/\w=w':=by
 have s:=Lh d;clear d;go_in;go_wp2_with fail;go_loop[8] (λi=>∃k:Nat,k<=l.length/\i=X k/\Hid (∀(j:Nat) c,j<k->l[j]?=O c->(n==c)=ϝ)) (λi=>l.length-(intOf i).toNat);exact⟨0,Nat.zero_le _,rfl,Lh (λj c m=>by omega)⟩;obtain⟨k,_,rfl,g⟩:=hrel;by_cases q:k<l.length
 .obtain ⟨c,d⟩:=Ϡ l k q
  have m:=s.o k c d;have:=Bl m;have:=In k;have:(k:Int)<(l:Int):=Z;have h:=Lh d;clear d;cases e:n==c with
  |true=>
   have o:n=c:=by simpa using e
   subst o;clear e;go_wp2;go_ret;exact⟨E8 (by rw[DO h.o ψ (λj y c m=>g.o j y c m)]),rfl⟩
  |false=>
   go_wp2_with fail;have p:=Lh e;go_round;exact⟨k+1,Z,by go_num,Lh (λj y c d=>by
    by_cases f:j=k
    .subst f;rw[h.o]at d;cases d;exact p.o
    exact g.o j y Z d)⟩
   simp[intOf];omega
 go_wp2;go_ret;exact⟨E8 (by rw[CR (λj y d c=>g.o j y Z c)]),rfl⟩
def DN(n:Int)(l:List Int)(b cap:Nat)(w:Ϣ)(hl:l.length<=1000)(e:∀(j:Nat) u,l[j]?=O u->w.cell? (D b j)=O (X u)) :
  ϙ prog 142 #[σ (O (D b 0)) l cap,X n] w λc w'=>c=.returned (.bool (l.any (λa=>n==a)))/\w=w':=by
 have d:=Lh e;go_in;go_wp2_with(go_at_call 164;refine(NP n l b cap w hl d.o).mono ?_;rintro f w'⟨rfl,rfl⟩);go_ret;exact⟨Ca (Ci _ l),rfl⟩
def Aa(op:Int):Int:=if op=4\/op=6 then 1 else if op=5\/op=7 then 2 else if op=8 then 3 else 0
def Ag(op n:Int):Bool:=if op=6\/op=7 then decide (1<=n/\n<=1099511627776)else n==0
def AP(x:Cd)(r:Rq):Bool:=!(Aa x.op==0)&&(r.K==Aa x.op)&&Ag x.op r.O&&(r.D==x.a)&&(r.X==0)&&(r.V==0||(Aa x.op==2&&Af r.V))
def N0(c:AQ)(y:BK)(w:Ϣ)(e:Ending)(w':Ϣ):Prop:=
 ∃g hs,e=.returned (.tuple #[σ (O (D g 0)) y.q9 y.q9.length,X 0])/\(w:Nat)<=g/\w'.heap[g]?=O (χ (Ad hs) 3 (0,0))/\DB c y hs/\Below w w w'
def N1(c:AQ)(s:ϒ)(k:Nat)(y:BK)(B:Nat)(w:Ϣ)(bU:C8 w)(m:B<=w)(u:BF B w s c)(hs:AU c)(i:c.q0[k]?=O y) :
  ϙ prog 144 #[s,X (k:Int)] w (N0 c y w):=by
 have bD:=Lh u;have cB:=Lh (hs.wf i);obtain⟨fv,_,rfl,F,v,_⟩:=u;obtain⟨bF,bG,rfl⟩:=F.u1;obtain⟨t,J,rfl⟩:=v.u1;have:=(Ll i);obtain⟨b,d,rfl,M,f⟩:∃b d,t=O (D b d)/\b<B/\CW B w b (d+k*5) y:=by
  let⟨G,L,P,_,_,_,f⟩:=v;obtain⟨rfl,rfl⟩:t=G/\J=L:=by simpa using P
  rcases f with E|⟨b,d,rfl,M,f⟩
  .rw [E]at i;simp at i
  exact⟨b,d,rfl,M,f k y i⟩
 have bW:=Lh f;let⟨W,a⟩:=ε (w.alloc (χ #[σ bF c.H bG,X c.G,σ (O (D b d)) c.q0 J] 25));let⟨j,f,A,C⟩:=Λ4 (bl1 a) (Xbq a) bU (FP hs.1);have bS:=@Lh (FO c=ϑ) (by unfold FO;rw[C.o,hs.2.1];rfl);let⟨n,o,p⟩:=Γ3 f.o;have cA:=Lh i;have bZ:=Lh hs;go_in;go_upto_region 1 with fail;rw[<-a];clear a;go_wp2_with fail;refine(LH c _ B W (A.o.below j.o) (Nt m j.o.size) (bD.o.below (j.o.mono m))).mono ?_;rintro bE bC⟨rfl,f⟩;rw[C.o];have h:=Lh (j.o.th f);let⟨n,o,p⟩:=Δ3 f n o p;go_wp2_with fail;refine(Py c _ B bC (A.o.below h.o) (Nt m h.o.size) (bD.o.below (h.o.mono m))).mono ?_;rintro bE l⟨rfl,f⟩;rw[bS.o];have q:=Lh (h.o.th f);let⟨n,o,p⟩:=Δ3 f n o p;let⟨bJ,bK,bL,bM,⟨_,bN,r⟩,bP,bQ,bR⟩:=bW.o.below (q.o.mono m) M;have bO:=Lh r;obtain⟨bH,bI,rfl⟩:=r.u1;have:=In k;have:(k:Int)<(c.q0:Int):=Z;have:=θ ((k:Int)<0);have:=θ (c.q0.length<=k);have bY:=@Lh (C8 l.drew) (A.o.below (AG q.o 1));have bX:=@Lh (BF B l.drew (.agg #[σ bF c.H bG,X c.G,σ (O (D b d)) c.q0 J]) c) (bD.o.below ((AG q.o 1).mono m));have bV:Hid (EI B l.drew (.agg #[.string y.name,X y.params,X y.L,.bool y.result,σ bH y.q9 bI]) y):=Lh ⟨_,rfl,bO.o.inss (AG Br 1),bP,bQ,bR⟩;have bT:B<=l.drew.heap.size:=Nt m q.o.size;go_upto_region 7 with fail;go_region_held3 (λa=>a.cell? (D w 0)=O (σ bF c.H bG)/\a.cell? (D w 1)=O (X c.G)/\a.cell? (D w 2)=O (σ (O (D b d)) c.q0 J)/\a.cell? (D b (d+k*5))=O (.string y.name)/\a.cell? (D b (d+k*5+1))=O (X y.params)/\a.cell? (D b (d+k*5+2))=O (X y.L)/\a.cell? (D b (d+k*5+3))=O (.bool y.result)/\a.cell? (D b (d+k*5+4))=O (σ bH y.q9 bI))
  (first|exact⟨n,o,p,bJ,bK,bL,bM,bN⟩|exact⟨AB hb3 n,AB hb3 o,AB hb3 p,AB hb3 bJ,AB hb3 bK,AB hb3 bL,AB hb3 bM,AB hb3 bN⟩)
  (first|(go_at_call 86;refine(KA c _ y _ B _ bY.o bT bX.o bV.o cB.o).mono ?_;rintro bE x z;obtain⟨e,g,rfl,hg3,hh3,hA3,hb3⟩:∃e g,bE=.returned (.tuple #[σ (O (D e 0)) y.q9 y.q9.length,X 0,X 0])/\l.drew.heap.size<=e/\Hid (x.heap[e]?=O (χ (Ad g) 3 (0,0)))/\DB c y g/\Below l.drew.heap.size l.drew x:=(by rcases z with ⟨_,_,_,_,_,Q,_⟩|⟨e,g,R,S,Y,_,T,V⟩;exact absurd (bZ.o.2.2 y (Lm cA.o)) Q;exact⟨e,g,R,S,Lh Y,T,V⟩);clear z))
 have bB:=Lh ((AG q.o 1).th hb3);have N:=Nt q.o.size hg3;go_wp2_with fail;go_ret2;exact⟨e,g,rfl,N,hh3.o,hA3,bB.o⟩
def J5(k:Int):∀(l:List MapEntry)(i:Nat),(∀e∈l,∃n:Int,e.key=X n)->
  ∃r,Instr.findNow (.int .i64) (X k) l i=O r/\∀d v,r=O (d,v)->∃e∈l,e.key=X k/\e.val=v
 |[],i,_=>⟨none,by simp[Instr.findNow],ψ⟩
 |e::l,i,h=>by
  let⟨n,c⟩:=h e ψ;let⟨r,g,j⟩:=J5 k l (i+1) (λe a=>h e (by simp[a]));by_cases b:k=n
  .subst b
   exact⟨O (i,e.val),by simp[Instr.findNow,Instr.sameNow,c],λd v a=>by simp at a;exact⟨e,ψ,c,a.2⟩⟩
  have f:(n==k)=ϝ:=by simp;exact λe=>b e.symm
  have d:(k==n)=ϝ:=by simp[b]
  refine⟨r,by simp[Instr.findNow,Instr.sameNow,c,f,d,g],λd v a=>?_⟩;let⟨c,f,g⟩:=j d v a;exact⟨c,by simp[f],g⟩
def RQ(a:w.heap[bk]?=O (.map es clock))(k:Int)(r:Option (Nat×ϒ))(b:Instr.findNow (.int .i64) (X k) es.toList 0=O r) :
  (Instr.lookup 192 (.map (O bk)) (X k) ϑ).run prog w=.ok (.tuple #[match r with|some (_,v)=>v|none=>ν,.bool r.isSome]) w:=by
 have c:∀w:Ϣ,(zeroValue 22).run prog w=.ok ν w:=λw=>by kernel_rfl
 cases r with
 |none=>simp[Instr.lookup,run_underlying underlying192,MapKept.run_getObj_map a,MapKept.run_checkKey underlying3 (k:=X k) rfl,MapKept.run_findKey underlying3 b,Result.andThen,c]
 |some r=>simp[Instr.lookup,run_underlying underlying192,MapKept.run_getObj_map a,MapKept.run_checkKey underlying3 (k:=X k) rfl,MapKept.run_findKey underlying3 b,Result.andThen]
def Ew(w:Ϣ)(bk:Nat)(o:Obj):Ϣ:={w with heap:=w.heap.setIfInBounds bk o}
def U8(a:w.heap[bk]?=O (.map es clock))(k:Int)(v:ϒ)(b:Instr.findNow (.int .i64) (X k) es.toList 0=O none) :
  (Instr.mapUpdate 192 (.map (O bk)) (X k) v).run prog w=.ok () (Ew w bk (.map (es.push ⟨X k,v,clock⟩) (clock+1))):=by
 simp[Instr.mapUpdate,run_underlying underlying192,MapKept.run_getObj_map a,MapKept.run_checkKey underlying3 (k:=X k) rfl,MapKept.run_findKey underlying3 b,MapKept.run_setObj_map _ a,Result.andThen,Ew]
def On(a:bk<w):(Ew w bk o).heap[bk]?=O o:=by
 unfold Ew;simp[Array.getElem?_setIfInBounds,a]
def GY(b:k≠bk):(Ew w bk o).heap[k]?=w.heap[k]?:=by
 unfold Ew;simp only[];rw[Array.getElem?_setIfInBounds,if_neg (λa=>b a.symm)]
def Oo:(Ew w bk o).heap.size=(w:Nat):=by unfold Ew;simp
def Om:AW [bk] [bk] w (Ew w bk o):=⟨rfl,rfl,rfl,by rw[Oo];exact Nr _,λk _ hF=>GY (λa=>hF (by simp[a])),λ_ a=>.inl a⟩
structure Gv(c:AQ)(A:Nat)(w:Ϣ)(bk:Nat)(es:Array MapEntry)(clock:Nat):Prop where
 map:w.heap[bk]?=O (.map es clock)
 ent:∀e∈es.toList,∃(k:Nat)(y:BK)(g:Nat)(hs:List Int),e.key=X k/\c.q0[k]?=O y/\e.val=σ (O (D g 0)) y.q9 y.q9.length/\w.heap[g]?=O (χ (Ad hs) 3 (0,0))/\DB c y hs/\A<=g/\g≠bk
def Gv.kp(a:Gv c A w bk es clock)(d:Below w w w'):Gv c A w' bk es clock:=
 ⟨by rw[d.block _ (La a.map)];exact a.map,λj l=>by
  let⟨k,y,e,i,f,g,h,b,m,n⟩:=a.ent j l;exact⟨k,y,e,i,f,g,h,by rw[d.block _ (La b)];exact b,m,n⟩⟩
def Gv.find(m:Gv c A w bk es clock)(k:Nat)(y:BK)(z:c.q0[k]?=O y) :
  Instr.findNow (.int .i64) (X k) es.toList 0=O none\/∃l e g,Instr.findNow (.int .i64) (X k) es.toList 0=O (O (l,σ (O (D e 0)) y.q9 y.q9.length))/\w.heap[e]?=O (χ (Ad g) 3 (0,0))/\DB c y g:=by
 let⟨r,j,x⟩:=J5 k es.toList 0 (λb d=>by let⟨n,_,_,_,a,_⟩:=m.ent b d;exact⟨n,a⟩);cases r with
 |none=>exact .inl j
 |some p=>
  let⟨i,v⟩:=p;let⟨b,d,a,h⟩:=x i v rfl;let⟨g,_,t,u,e,f,o,q,s,_⟩:=m.ent b d;rw[a]at e;have:k=g:=by simp at e;omega
  subst this;rw[z]at f;cases f;rw[o]at h;subst h;exact .inr ⟨i,t,u,j,q,s⟩
def Gv.add(n:Gv c A w bk es clock)(k:Nat)(y:BK)(v:c.q0[k]?=O y)(g:Nat)(hs:List Int)(u:w.heap[g]?=O (χ (Ad hs) 3 (0,0)))(t:DB c y hs)(s:A<=g)(m:g≠bk) :
  Gv c A (Ew w bk (.map (es.push ⟨X k,σ (O (D g 0)) y.q9 y.q9.length,clock⟩) (clock+1))) bk (es.push ⟨X k,σ (O (D g 0)) y.q9 y.q9.length,clock⟩) (clock+1):=by
 have b:=(La n.map);refine⟨On b,λr a=>?_⟩;rw[Array.toList_push,List.mem_append,List.mem_singleton]at a;rcases a with a|a
 .obtain ⟨j,l,e,d,f,h,i,o,p,q,b⟩:=n.ent r a
  exact⟨j,l,e,d,f,h,i,by rw[GY b];exact o,p,q,b⟩
 subst a;exact⟨k,y,g,hs,rfl,v,rfl,by rw[GY m];exact u,t,s,m⟩
def BU(c:AQ)(fr:List AY)(r:Rq)(k:Nat)(f:AY):Prop:=
 DL c f (λx=>if k+1=fr.length then AP x r=ϑ else x.op=9/\∃g,fr[k+1]?=O g/\x.a=g.fn)
def I6(a:AP x r=ϑ):x.op=4\/x.op=5\/x.op=6\/x.op=7\/x.op=8:=by
 unfold AP Aa at a;by_cases d:x.op=4\/x.op=6
 .omega
 rw[if_neg d]at a;by_cases c:x.op=5\/x.op=7
 .omega
 rw[if_neg c]at a;by_cases b:x.op=8
 .omega
 rw[if_neg b]at a;simp at a
def Oy(a:x.op=4\/x.op=5\/x.op=6\/x.op=7\/x.op=8\/x.op=9):C7 c x=AM c y x:=by
 unfold C7 AM Bk BB;rcases a with a|a|a|a|a|a<;>simp[a]
 cases Dt c x.a<;>rfl
def IE(b:if k+1=fr.length then AP x r=ϑ else x.op=9/\∃a,fr[k+1]?=O a/\x.a=a.fn):x.op=4\/x.op=5\/x.op=6\/x.op=7\/x.op=8\/x.op=9:=by
 split at b
 .have:=I6 b;omega
 omega
structure Gs(c:AQ)(f:AY)(y:BK)(x:Cd)(v:Int):Prop where
 base:Gr c f y
 pc1:1<=f.pc
 at_:y.q9[(f.pc-1).toNat]?=O x
 hv:(v = -1/\∀n,¬Reach c y (f.pc-1).toNat n)\/(0<=v/\Reach c y (f.pc-1).toNat v)
def Gs.neg{v:Int}(a:Gs c f y x v)(d:v<0):¬BU c fr r k f:=by
 rintro⟨d,_,_,e,_,_,_,g,_⟩;have:d=y:=by have:=e.fn;rw[a.base.fn]at this;cases this;rfl
 subst this;rcases a.hv with ⟨_,b⟩|⟨_,_⟩
 .exact b _ g
 omega
def Gs.ht(hs:AU c){v:Int}(b:Gs c f y x v)(o:BU c fr r k f):(f.S:Int)=v-C7 c x/\(if k+1=fr.length then AP x r=ϑ else x.op=9/\∃a,fr[k+1]?=O a/\x.a=a.fn):=by
 let⟨g,m,_,d,_,n,h,e,p⟩:=o;have:g=y:=by have:=d.fn;rw[b.base.fn]at this;cases this;rfl
 subst this;have j:m=x:=by have:=b.at_;rw[n]at this;cases this;rfl
 subst j;rcases b.hv with ⟨_,i⟩|⟨_,l⟩
 .exact absurd e (i _)
 have:=(hs.snd d.fn).2 _ _ _ e l;subst this;exact⟨by rw[Oy (y:=g) (IE h)];exact p,h⟩
def FN(e:Int):Bool:=[17,18,19,20,5,21,6].any (λa=>e==a)
def DT(r:Rq):Bool:=if r.K=4 then Af r.V&&(r.O==0&&r.D==0&&r.X==0)else if r.K=5 then FN r.X&&(r.O==0&&r.D==0&&r.V==0)else ϝ
def GH(W:Ϣ)(T:TypeId)(b:Nat)(d:b=(W:Nat)):∀(j:Nat)(u:Int),([17,18,19,20,5,21,6]:List Int)[j]?=O u->(W.alloc (χ #[X 17,X 18,X 19,X 20,X 5,X 21,X 6] T)).cell? (D b j)=O (X u):=λj u a=>by
 subst d;rw[B6];have:j<7:=(Ll a);have c:j=0\/j=1\/j=2\/j=3\/j=4\/j=5\/j=6:=Z;rcases c with rfl|rfl|rfl|rfl|rfl|rfl|rfl<;>simp at a<;>subst a<;>rfl
def NU(W:Ϣ):(Instr.makeMap 192 none).run prog W=.ok (.map (O (W:Nat))) (W.alloc (.map #[] 0)):=by simp[Instr.makeMap]
noncomputable def Xb{w:Ϣ}{bm j cap:Nat}{bB:Array ϒ}{cs:List ϒ}{fs:List AY}{f:AY}{lv sv:ϒ}{m:AV}{P Fl Fs:List Nat}(fa:Option Addr)(b o:Nat)(fn fc E:Nat)(g:Int)(H:Hid (AN w bm j cap bB cs fs f lv sv m P Fl Fs))(hn:fs.length<200)
  (B:Nat) (HB:Hid (∀b∈bm::j::(P++(Fl++Fs)),B<=b)) (a:List BK) (bR:a.length<=1000000) (aY:Hid (AE B w 5 (CW B) (σ (O (D b o)) a E) a)) (k:Nat) (HK:Hid (f.fn=k)) (y:BK) (hy:a[k]?=O y) (p:Nat) (HP:Hid (f.pc=p)) (N xa:Int) (hx:y.q9[p]?=O ⟨N,xa⟩) (bQ:y.q9.length<=1000000)
  (bS:0<=m.I/\m.I<100000) (oo:KM) :
  Σ' T:Prop,(Hid T->ϙ prog 168 #[DH (σ fa fn fc) (σ (O (D b o)) a E) g bm] w (EM w bm (bm::j::(P++(Fl++Fs))) oo)):=by
 refine'⟨?_,λaC=>?_⟩;rotate_left;have h:=H.o;have hB:=HB.o;obtain⟨a0,aD,aN,bT,bU,bV,hE⟩:=aY.o;obtain⟨e0,rfl⟩:O (D b o)=a0/\E=aD:=by simpa using aN
 have bM:k<a.length:=(Ll hy);rcases hE with h0|⟨b',o',e1,bF,hE⟩
 .rw [h0]at hy;simp at hy
 obtain⟨rfl,rfl⟩:b=b'/\o=o':=by simpa using e0.trans e1
 clear e0 e1;have F:=Lh (hE k y hy);obtain⟨yv,q4,bO⟩:=F.o.2.2.2.2.1;obtain⟨ya,aW,rfl,bP,aU,aV,v⟩:=bO;have bN:p<y.q9.length:=(Ll hx);rcases v with h0|⟨yb,yo,rfl,s,v⟩
 .rw [h0]at hx;simp at hx
 obtain⟨Q,i1,C,q⟩:=v p _ hx;dsimp only at Q i1 C q;obtain⟨WA,n⟩:=ε (w.alloc (χ #[σ fa fn fc,X g,σ (O (D b o)) a E,.pointer (O (D bm 0))] 199));have A:=Lh (Xbq n);have i:=bl1 n;have bE:=sz1 n;have M:=Lh h.lt;have r:(w:Nat)∉bm::j::(P++(Fl++Fs)):=λe=>by have:=M.o _ e;omega
 obtain⟨h2,G⟩:=KD (m':={m with I:=m.I+1}) h i 8 (X (m.I+1)) rfl;obtain⟨W2,d⟩:=ε (WA.setCell (D bm 8) (X (m.I+1)));rw[<-d]at h2 G;have H2:=Lh h2;have Y:=Lh G;have hA:=h.kp i;have c8:=hA.cIdle;have f8:=hA.frm 8;have R:=Γ4 A.o;have bG:¬(w:Nat)=bm:=λe=>r (by simp[e]);have aJ:bm<w:=h.lt bm ψ;have bH:j<w:=h.lt j ψ;obtain⟨aB,V,W,aA⟩:=Λ4 i Q i1 q4;clear h hB aN hE v h2 G hA Q i1 q4 i;unfold DH;go_in;go_upto_region 1 with fail;rw[<-n];clear n;go_upto_region 4 with fail;rw[<-d];have aG:Hid (Below w WA W2->True):=λ_=>trivial;have R:W2.cell? (D w 0)=O (σ fa fn fc):=by rw[d];go_simp
 have k1:W2.cell? (D w 1)=O (X g):=by rw[d];go_simp
 have k2:W2.cell? (D w 2)=O (σ (O (D b o)) a E):=by rw[d];go_simp
 have k3:W2.cell? (D w 3)=O (.pointer (O (D bm 0))):=by rw[d];go_simp
 have bA:=Lh d;clear d c8 f8 aG;go_wp2_with fail;refine(KX fa (O (D b o)) fn fc a.length E g H2.o Z).mono ?_;rintro e t⟨rfl,x⟩;have S:=Lh (H2.o.kp x);have l:=Lh (Y.o.trans (AW.ob x));have bD:B<=w:=Nat.le_of_lt (Nat.lt_of_le_of_lt (HB.o bm ψ) aJ);have z:∀bb,bb<B->bb∉bm::j::(P++(Fl++Fs)):=λbb hb e=>by have:=HB.o bb e;omega
 have R:=Δ4 x R k1 k2 k3;have Q:=l.o.cell V.o (z _ s);have i1:=l.o.cell W.o (z _ s);have q4:=l.o.cell aA.o (z _ bF);have aE:=S.o.cFn;have aF:=S.o.cPc;rw[HK.o]at aE;rw[HP.o]at aF;have bC:=S.o.frf (fs.length*4+1);have aR:(w:Nat)<t:=Bl R.1;have aO:j<t:=Z;have aK:bm<t:=Z;have bI:=In k;have bJ:(k:Int)<(a:Int):=Z;have bK:=In p;have bL:(p:Int)<(y.q9:Int):=Z;have aT:=Bl Q;have aI:=Bl q4;clear x;go_wp2_with fail;go_region;go_upto_region 7 with fail;obtain⟨h4,aH⟩:=Jl S.o ((p:Int)+1) ⟨Z,Z⟩;obtain⟨u,c⟩:=ε (((t.setCell ⟨j,fs.length*4+1,(none)⟩ (X ((p:Int)+1))).alloc (χ #[X N,X xa] 96)).drew);have J:Below (t.setCell ⟨j,fs.length*4+1,(none)⟩ (X ((p:Int)+1))).heap.size (t.setCell ⟨j,fs.length*4+1,(none)⟩ (X ((p:Int)+1))) u:=by rw[c];exact AG (AA _ _) 1
 have H4:=Lh (h4.kp J);have aZ:=Lh ((l.o.trans aH).trans (AW.ob J));have d0:u.cell? (D t 0)=O (X N):=by rw[c];go_simp
 have d1:u.cell? (D t 1)=O (X xa):=by rw[c];go_simp
 have aQ:¬(w:Nat)=j:=λe=>r (by simp[e]);have R:u.cell? ⟨(w:Nat),0,(none)⟩=O (σ fa fn fc):=by rw[c];go_simp
 have k1:u.cell? ⟨(w:Nat),1,(none)⟩=O (X g):=by rw[c];go_simp
 have k2:u.cell? ⟨(w:Nat),2,(none)⟩=O (σ (O ⟨b,o,(none)⟩) a E):=by rw[c];go_simp
 have k3:u.cell? ⟨(w:Nat),3,(none)⟩=O (.pointer (O ⟨bm,0,(none)⟩)):=by rw[c];go_simp
 have aM:(t:Nat)<u:=Bl d0;have aL:(t:Nat)∉bm::j::(P++(Fl++Fs)):=λe=>by have:=M.o _ e;omega
 have bW:=H.o.nodup;rw[<-c];obtain⟨ib,L⟩:=ε (t:Nat);rw[<-L];rw[<-L]at d0 d1 aM aL;have aS:(w:Nat)<u:=Z;have aP:(w:Nat)<ib:=Z;have aX:=Lh F.o;clear c L S l H2 Y bA J h4 aH Q i1 q4 aE aF bC aO aK aT aI aR V W aA A aB bE F;rename_i K hK;clear aU aV s;revert aW yb yo bM bN C q M r bG aJ bH bD z bI bJ bK bL K hK u H4 aZ d0 d1 aQ R k1 k2 k3 aM aL ib aS aP aX;exact aC.o
