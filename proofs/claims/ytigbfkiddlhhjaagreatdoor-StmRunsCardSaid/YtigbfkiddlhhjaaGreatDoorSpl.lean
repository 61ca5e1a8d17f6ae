import Derived.Test.YtigbfkiddlhhjaaGreatDoorThp
set_option maxHeartbeats 8000000
set_option maxRecDepth 1000000
set_option linter.all false
open Go renaming World→Ϣ,Value→ϒ,Calls→ϙ
open Go.RowKit renaming Below→ϐ
open Option renaming some→H
open Bool renaming false→ϝ,true→ϑ
open And renaming intro→ϟ
open List renaming replicate→ϱ,mem_cons→ϰ
open Go.Value renaming slice→σ
open Go.Obj renaming cells→χ
namespace Go.Proofs.YtigbfkiddlhhjaaGreatDoor
open Go.RowKit Proofs.Tryz
open Go.RowKit renaming ι→I
variable{α:Type}{c:AQ}{m:AV}{l:List (Int×Int)}{t u i:Nat}{f v k k' n n':Int}{x y:Trx}{vs ends:List (List Int)}{m':Mm}{e:List Int}{s s':Tra}{fr:Bool}
structure Xcx(c:AQ)(m:AV):Prop where
 P:DQ c m\/(m.J=[]/\m.Q=Ah 21/\EB m)
 Y:m.Y<=1048576
 cmp:m.C+Co m<=1000000000000
def Xbj(m:AV):Bool:=decide (m.Q.K=4)||decide (m.Q.K=5)
def Xcx.nums(a:Xcx c m):EB m:=by
 rcases a.P with a|a
 .exact a.1
 exact a.2.2
def Xcx.K(a:Xcx c m):m.Q.K=1\/m.Q.K=2\/m.Q.K=3\/m.Q.K=4\/m.Q.K=5:=by
 rcases a.P with ⟨_,⟨e,_,a,_⟩|⟨v,_,a,_⟩|⟨_,f,d⟩⟩|⟨_,a,_⟩
 .rw [a];simp[Ah]
 .rw [a];simp[EE]
 .obtain ⟨_,x,_,_,_,_,b,_⟩:=d.top
  have:=EW b;omega
 rw[a];simp[Ah]
def Xcx.asks(a:Xcx c m)(b:Xbj m=ϝ):Cs m=ϑ:=by
 have:=a.K;simp[Xbj]at b;unfold Cs;simp;omega
def Xcx.run(a:Xcx c m)(b:Xbj m=ϝ):Iv c m:=by
 have e:=a.asks b;rcases a.P with d|⟨_,f,_⟩
 .exact Kn d e a.Y a.cmp
 rw[show Xbj m=ϑ by unfold Xbj;rw[f];rfl]at b;cases b
def Xcx.valid(hs:AU c)(g:Xcx c m):Ax c m:=by
 cases i:Xbj m with
 |false=>exact(g.run i).valid hs
 |true=>
  have d:=g.nums;have n:m.C<=1099511627776:=by have h:=d.Y;have a:=d.idle1;have b:=g.cmp;unfold Co at b;omega
  have j:m.J=[]/\DT m.Q=ϑ:=by
   rcases g.P with ⟨_,⟨e,h,a,b⟩|⟨v,k,a,b⟩|⟨_,f,l⟩⟩|⟨h,a,_⟩
   .refine ⟨b,?_⟩
    rw[a];rcases h with rfl|rfl|rfl|rfl|rfl|rfl<;>rfl
   .refine ⟨b,?_⟩
    rw[a];unfold DT EE;simp[Aq.2 k]
   .obtain ⟨_,x,_,_,_,_,b,_⟩:=l.top
    have:=EW b;simp[Xbj]at i;omega
   refine⟨h,?_⟩;rw[a];rfl
  exact⟨hs,⟨d.Y,g.Y⟩,⟨d.cmp0,n⟩,⟨d.idle0,d.idle1⟩,by rw[j.1];simp,.inl j⟩
def Xds(s:Tra)(r:Int×Int):Int:=(s.q6.getD r.1.toNat []).getD r.2.toNat 0
def stale(s:Tra)(x:Trx):Bool:=x.q4.any λr=>decide (x.q8<Xds s r)
def Xaw(a f:Int):Rq:=⟨1,a,f,0,0⟩
def Xf3(k:Int)(p:Mm×List (List Int))(w:Int×Int×Int):Mm×List (List Int):=(Xb9 p.1 (Xaw w.1 w.2.1) w.2.2,p.2.modify w.1.toNat (·.set w.2.1.toNat k))
def Xb2(s:Tra)(x:Trx)(f:Int):Tra:=if f=0/\x.q2≠[]then {s with q3:=s.q3+1,M:=(x.q2.foldl (Xf3 (s.q3+1)) (s.M,s.q6)).1,q6:=(x.q2.foldl (Xf3 (s.q3+1)) (s.M,s.q6)).2}else s
def Xco(s:Tra)(i:Nat)(x:Trx)(f v:Int):Tra:=
 {Xb2 s x f with q7:=s.q7++[((i:Int),((s.results.getD i []).length:Int))],results:=s.results.modify i (·++[⟨f,v,x.run.C,x.N,0⟩]),P:=s.P.modify i (·++[s.U]),A:=s.A.modify i List.tail,q1:=s.q1.set i Xat}
def Xg6(c:AQ)(s:Tra)(i:Nat)(x:Trx):Prop:=∃cl l m,s.A[i]?=H (cl::l)/\Cf c (CF c cl s.Y) m/\x=⟨m,s.q3,0,[],[]⟩
def Xbc(c:AQ)(s:Tra)(i:Nat)(x:Trx)(f v:Int)(s':Tra):Prop:=
 (stale s x=ϑ/\∃y,Xg6 c s i y/\s'={s with q5:=s.q5+1,q1:=s.q1.set i y})\/(stale s x=ϝ/\s'=Xco s i x f v)
def Xcv(r:Rq)(w:Int×Int×Int):Bool:=w.1==r.O&&w.2.1==r.D
def Xbn(s:Tra)(x0:Trx)(r:Rq):Trx×Int:=
 let x:Trx:=if 0<r.O then {x0 with N:=x0.N+1}else x0
 match x0.q2.findIdx? (Xcv r)with
 |some k=>if r.K=2 then({x with q2:=x0.q2.modify k (λw=>(w.1,w.2.1,r.V))},0)else(x,((x0.q2[k]?).map (·.2.2)).getD 0)
 |none=>if r.K=2 then({x with q2:=x0.q2++[(r.O,r.D,r.V)]},0)else(if(r.O,r.D)∈x0.q4 then x else {x with q4:=x0.q4++[(r.O,r.D)]},(Bd s.M r).getD r.D.toNat 0)
def Xfu(c:AQ)(s:Tra)(r:Rq):Tra:={s with M:={s.M with N:=s.M.N++[⟨r.D,ϱ (c.H.getD r.D.toNat 0).toNat 0⟩]},q6:=s.q6++[ϱ (c.H.getD r.D.toNat 0).toNat 0]}
def setX(s:Tra)(i:Nat)(x:Trx)(m:AV):Tra:={s with q1:=s.q1.set i {x with run:=m}}
def DoS(c:AQ)(s:Tra)(i:Nat)(x:Trx)(s':Tra):Prop:=
 (x.run.Q.K=3/\s.M.N.length<4096/\∃m',ED c x.run ((s.M.N:Int)+1) m'/\s'=setX (Xfu c s x.run.Q) i {x with N:=x.N+1} m')\/
 (x.run.Q.K=3/\¬s.M.N.length<4096/\∃m',ED c x.run 0 m'/\s'=setX s i x m')\/
 (x.run.Q.K≠3/\x.run.Q.D<((Bd s.M x.run.Q).length:Int)/\∃m',ED c x.run (Xbn s x x.run.Q).2 m'/\s'=setX s i (Xbn s x x.run.Q).1 m')\/
 (x.run.Q.K≠3/\¬x.run.Q.D<((Bd s.M x.run.Q).length:Int)/\Xbc c s i x 11 0 s')
def Xb3(s:Tra):Tra:={s with U:=s.U+1}
def Xc8(s:Tra)(i:Nat)(y:Trx):Tra:={s with Z:=s.Z.modify i (·++[s.U]),q1:=s.q1.set i y}
def GoS(c:AQ)(s:Tra)(i:Nat)(x:Trx)(fresh:Bool)(s':Tra):Prop:=
 (Xbj x.run=ϑ/\fresh=ϑ/\s'=s)\/(Xbj x.run=ϑ/\fresh=ϝ/\Xbc c s i x x.run.Q.X x.run.Q.V s')\/(Xbj x.run=ϝ/\DoS c s i x s')
def gw(c:AQ)(s:Tra)(i:Nat)(s':Tra):Prop:=∃x s2,s.q1[i]?=H x/\s'=Xb3 s2/\
 ((x.run.Q.K=0/\∃y,Xg6 c s i y/\GoS c (Xc8 s i y) i y ϑ s2)\/(x.run.Q.K≠0/\GoS c s i x ϝ s2))
def Xas(m:Mm)(a f:Int):Prop:=0<=a/\0<=f/\f<((Bd m (Xaw a f)).length:Int)
structure Xcl(c:AQ)(m:Mm)(clock step:Int)(x:Trx):Prop where
 u2:Xcx c x.run
 q8:0<=x.q8/\x.q8<=clock
 N:0<=x.N/\x.N<=step
 q4:x.q4.Nodup
 readsP:∀r∈x.q4,Xas m r.1 r.2
 q2:(x.q2.map λw=>(w.1,w.2.1)).Nodup
 writesP:∀w∈x.q2,Xas m w.1 w.2.1/\BP w.2.2
 count:(x.q4:Int)<=step/\(x.q2:Int)<=step
def Xax:List Int->List Int->Int->Int->Bool
 |[],_,_,_=>ϑ
 |b::bs,[],last,step=>decide (last<b)&&(decide (b<step)&&Xax bs [] b step)
 |b::bs,e::es,last,step=>decide (last<b)&&(decide (b<step)&&(decide (b<=e)&&(decide (e<step)&&Xax bs es e step)))
structure ThS(c:AQ)(m:Mm)(clock step:Int)(x:Trx)(l:List Bi)(r:List CD)(b e:List Int):Prop where
 act:(x=Xat/\b.length=r.length)\/(Xcl c m clock step x/\l≠[]/\b.length=r.length+1)
 right:∀y∈l,AS c y 0=0
 P:e.length=r.length
 ops:l.length+r.length<=2000
 times:Xax b e (-1) step=ϑ
structure Xa4(m:Mm)(vers:List (List Int))(clock:Int):Prop where
 len:vers.length=m.N.length+1
 zero:(vers.getD 0 []).length=m.G.length
 O:∀(k:Nat) x,m.N[k]?=H x->(vers.getD (k+1) []).length=x.f.length
 vals:∀l∈vers,∀v∈l,0<=v/\v<=clock
def Xbp(ends:List (List Int))(l:List (Int×Int)):Int:=match l.getLast? with|none=>-1|some o=>(ends.getD o.1.toNat []).getD o.2.toNat 0
structure Xel(ends:List (List Int))(order:List (Int×Int)):Prop where
 at_:∀(k:Nat) o,order[k]?=H o->0<=o.1/\o.1.toNat<ends.length/\o.2=(((order.take k).countP λp=>p.1==o.1:Nat):Int)/\o.2.toNat<(ends.getD o.1.toNat []).length/\Xbp ends (order.take k)<(ends.getD o.1.toNat []).getD o.2.toNat 0
 all:∀(t:Nat) e,ends[t]?=H e->((order.countP λp=>p.1==(t:Int):Nat):Int)=e.length
structure AtS(s:Tra)(t:Nat)(x:Trx)(l:List Bi)(r:List CD)(b e:List Int):Prop where
 x:s.q1[t]?=H x
 l:s.A[t]?=H l
 r:s.results[t]?=H r
 b:s.Z[t]?=H b
 e:s.P[t]?=H e
structure Xb7(c:AQ)(s:Tra)(k:Int):Prop where
 sound:AU c
 M:Dp c s.M
 Y:0<=s.Y/\s.Y<=1048576
 q3:0<=s.q3/\s.q3<=k
 q5:0<=s.q5/\s.q5<=k
 q6:Xa4 s.M s.q6 s.q3
 A:s.A.length=s.q1.length
 results:s.results.length=s.q1.length
 Z:s.Z.length=s.q1.length
 P:s.P.length=s.q1.length
 all:∀(t:Nat) x l r b e,AtS s t x l r b e->ThS c s.M s.q3 k x l r b e
 q7:Xel s.P s.q7
def Xbh(c:AQ)(s:Tra):Prop:=Xb7 c s s.U
structure Xb1(c:AQ)(s:Tra)(i:Nat)(x:Trx):Prop where
 inv:Xb7 c s (s.U+1)
 q3:s.q3<=s.U
 q5:s.q5<=s.U
 endsLt:∀e∈s.P,∀v∈e,v<s.U
 hx:s.q1[i]?=H x
 ok:Xcl c s.M s.q3 s.U x
def Xd1:∀{b e:List Int}{last k k':Int},Xax b e last k=ϑ->k<=k'->Xax b e last k'=ϑ
 |[],_,_,_,_,_,_=>rfl
 |b::bs,[],last,k,k',h,hk=>by unfold Xax at h ⊢;simp only[Bool.and_eq_true,decide_eq_true_eq]at h ⊢;exact⟨h.1,ω,Xd1 h.2.2 hk⟩
 |b::bs,e::es,last,k,k',h,hk=>by unfold Xax at h ⊢;simp only[Bool.and_eq_true,decide_eq_true_eq]at h ⊢;exact⟨h.1,ω,h.2.2.1,ω,Xd1 h.2.2.2.2 hk⟩
def Xh2:∀{b e:List Int}{last k:Int},Xax b e last k=ϑ->e.length<=b.length->∀v∈e,v<k
 |[],[],_,_,_,_=>λv a=>by simp at a
 |[],e::es,_,_,_,hl=>by simp at hl
 |b::bs,[],_,_,_,_=>λv a=>by simp at a
 |b::bs,e::es,last,k,h,hl=>λv a=>by
  unfold Xax at h;simp only[Bool.and_eq_true,decide_eq_true_eq]at h;rcases ϰ.1 a with rfl|a
  .exact h.2.2.2.1
  exact Xh2 h.2.2.2.2 (by simpa using hl) v a
def Xe4:∀{b e:List Int}{last k:Int},Xax b e last k=ϑ->b.length=e.length->last<k->Xax (b++[k]) e last (k+1)=ϑ
 |[],[],last,k,_,_,hk=>by simp[Xax,hk];omega
 |[],e::es,_,_,_,hl,_=>by simp at hl
 |b::bs,[],_,_,_,hl,_=>by simp at hl
 |b::bs,e::es,last,k,h,hl,hk=>by rw[List.cons_append];unfold Xax at h ⊢;simp only[Bool.and_eq_true,decide_eq_true_eq]at h ⊢;exact⟨h.1,ω,h.2.2.1,ω,Xe4 h.2.2.2.2 (by simpa using hl) h.2.2.2.1⟩
def Xg8:∀{b e:List Int}{last k:Int},Xax b e last (k+1)=ϑ->b.length=e.length+1->Xax b (e++[k]) last (k+1)=ϑ
 |[],_,_,_,_,hl=>by simp at hl
 |b::bs,[],last,k,h,hl=>by obtain rfl:bs=[]:=List.eq_nil_of_length_eq_zero (by simpa using hl);unfold Xax at h;simp only[Bool.and_eq_true,decide_eq_true_eq]at h;show Xax [b] [k] last (k+1)=ϑ;unfold Xax;simp only[Bool.and_eq_true,decide_eq_true_eq];exact⟨h.1,h.2.1,ω,ω,rfl⟩
 |b::bs,e::es,last,k,h,hl=>by rw[List.cons_append];unfold Xax at h ⊢;simp only[Bool.and_eq_true,decide_eq_true_eq]at h ⊢;exact⟨h.1,h.2.1,h.2.2.1,h.2.2.2.1,Xg8 h.2.2.2.2 (by simpa using hl)⟩
def Xbm{l:List α}{f:α->α}{x:α}(a:(l.modify t f)[u]?=H x):∃y,l[u]?=H y/\x=if u=t then f y else y:=by
 rw[List.getElem?_modify]at a;cases b:l[u]? with
 |none=>rw[b]at a;simp at a
 |some y=>rw[b]at a;refine⟨y,rfl,?_⟩;simp at a;rw[<-a];by_cases e:t=u<;>simp[e,eq_comm]
def Xjy(m:Mm)(q:Rq)(v a f:Int):(Bd (Xb9 m q v) (Xaw a f)).length=(Bd m (Xaw a f)).length:=by
 unfold Xb9 Bd Xaw;by_cases b:0<q.O
 .rw [if_pos b]
  simp only[List.length_modify];split
  .rfl
  split
  .rw [List.getElem?_modify]
   cases m.N[(a-1).toNat]? with
   |none=>rfl
   |some y=>simp only[Option.map_some,Option.getD_some];split<;>simp[Nm]
  rfl
 rw[if_neg b];simp only;split
 .rfl
 split
 .rfl
 simp
def Xkn(m:Mm)(q:Rq)(v:Int):(Xb9 m q v).N.length=m.N.length:=by
 unfold Xb9;split<;>simp
def Xou{m:Mm}(b:Dp c m)(q:Rq)(h:BP v):Dp c (Xb9 m q v):=by
 unfold Xb9;split
 .refine ⟨b.gl,b.gv,by simpa using b.len,λx f=>?_⟩
  let⟨i,g⟩:=List.mem_iff_getElem?.1 f;obtain⟨y,e,rfl⟩:=Xbm g;have d:=b.N y (Lm e);split
  .refine ⟨d.1,by simpa[Nm]using d.2.1,λn a=>?_⟩
   rcases List.mem_or_eq_of_mem_set a with a|rfl
   .exact d.2.2 n a
   exact h
  exact d
 refine⟨by simpa using b.gl,λn a=>?_,b.len,b.N⟩;rcases List.mem_or_eq_of_mem_set a with a|rfl
 .exact b.gv n a
 exact h
def Xlw{m:Mm}{q:Rq}{k:Nat}{x:Gl}(a:(Xb9 m q v).N[k]?=H x):∃y,m.N[k]?=H y/\x.f.length=y.f.length:=by
 unfold Xb9 at a;split at a
 .obtain ⟨y,b,rfl⟩:=Xbm a
  refine⟨y,b,?_⟩;split<;>simp[Nm]
 exact⟨x,a,rfl⟩
def Xlb(m:Mm)(q:Rq)(v:Int):(Xb9 m q v).G.length=m.G.length:=by
 unfold Xb9;split<;>simp
def Xj1(l:List (List Int))(a k f:Nat)(v:Int):((l.modify a (·.set f v)).getD k []).length=(l.getD k []).length:=by
 rw[List.getD_eq_getElem?_getD,List.getD_eq_getElem?_getD,List.getElem?_modify];cases l[k]? with
 |none=>rfl
 |some y=>simp only[Option.map_some,Option.getD_some];split<;>simp
def Xa4.put{m:Mm}(a:Xa4 m vs k)(o:0<=k)(w:Int×Int×Int):Xa4 (Xf3 k (m,vs) w).1 (Xf3 k (m,vs) w).2 k:=by
 refine⟨?_,?_,λe x n=>?_,λl b v d=>?_⟩
 .show (vs.modify _ _).length=(Xb9 m _ _).N.length+1
  rw[List.length_modify,Xkn];exact a.len
 .show ((vs.modify _ _).getD 0 []).length=(Xb9 m _ _).G.length
  rw[Xj1,Xlb];exact a.zero
 .obtain ⟨y,j,b⟩:=Xlw n
  show((vs.modify _ _).getD (e+1) []).length=x.f.length;rw[Xj1,b];exact a.O e y j
 obtain⟨i,h⟩:=List.mem_iff_getElem?.1 b;obtain⟨y,g,rfl⟩:=Xbm h;have c:=a.vals y (Lm g);split at d
 .rcases List.mem_or_eq_of_mem_set d with f|rfl
  .exact c v f
  exact⟨o,Int.le_refl _⟩
 exact c v d
def Xd9(b:0<=k):∀(ws:List (Int×Int×Int))(m:Mm)(vs:List (List Int)),Dp c m->Xa4 m vs k->(∀w∈ws,BP w.2.2)->
  Dp c (ws.foldl (Xf3 k) (m,vs)).1/\Xa4 (ws.foldl (Xf3 k) (m,vs)).1 (ws.foldl (Xf3 k) (m,vs)).2 k/\∀a f,(Bd (ws.foldl (Xf3 k) (m,vs)).1 (Xaw a f)).length=(Bd m (Xaw a f)).length
 |[],m,vs,hm,hv,_=>⟨hm,hv,λ_ _=>rfl⟩
 |w::ws,m,vs,hm,hv,hw=>by have a:=Xd9 b ws (Xf3 k (m,vs) w).1 (Xf3 k (m,vs) w).2 (Xou hm _ (hw w (List.mem_cons_self ..))) (hv.put b w) (λx b=>hw x (List.mem_cons_of_mem _ b));exact⟨a.1,a.2.1,λb f=>(a.2.2 b f).trans (Xjy m _ _ b f)⟩
def Xcl.mono{m:Mm}(a:Xcl c m k n x)(e:∀b f,Xas m b f->Xas m' b f)(b:k<=k')(b:n<=n'):Xcl c m' k' n' x:=
 ⟨a.u2,⟨a.q8.1,by have:=a.q8.2;omega⟩,⟨a.N.1,by have:=a.N.2;omega⟩,a.q4,λd b=>e _ _ (a.readsP d b),a.q2,λd b=>⟨e _ _ (a.writesP d b).1,(a.writesP d b).2⟩,by have:=a.count;omega,by have:=a.count;omega⟩
def ThS.mono{m:Mm}{l:List Bi}{r:List CD}{b:List Int}(a:ThS c m k n x l r b e)(j:∀d f,Xas m d f->Xas m' d f)(i:k<=k')(d:n<=n'):ThS c m' k' n' x l r b e:=
 ⟨a.act.imp id (λ⟨g,h⟩=>⟨g.mono j i d,h⟩),a.right,a.P,a.ops,Xd1 a.times d⟩
def Xa4.mono{m:Mm}(a:Xa4 m vs k)(b:k<=k'):Xa4 m vs k':=⟨a.len,a.zero,a.O,λl b v c=>by have:=a.vals l b v c;omega⟩
def Xb7.mono(a:Xb7 c s k)(g:k<=k'):Xb7 c s k':=
 ⟨a.sound,a.M,a.Y,⟨a.q3.1,by have:=a.q3.2;omega⟩,⟨a.q5.1,by have:=a.q5.2;omega⟩,a.q6,a.A,a.results,a.Z,a.P,λt x l f b e d=>(a.all t x l f b e d).mono (λ_ _ b=>b) (Int.le_refl _) g,a.q7⟩
def Xcc{x:Bi}(a:0<=k/\k<=1048576)(a:AS c x 0=0):AS c x k=0:=by
 unfold AS at a ⊢;rw[if_neg ω]at a ⊢;exact a
def Xi0(a:Xb7 c s k)(b:Xg6 c s i y)(h:0<=n):Xcl c s.M s.q3 n y:=by
 obtain⟨r,l,m,f,t,rfl⟩:=b;let⟨x,d⟩:=Ϡ s.q1 i (by rw[<-a.A];exact(Ll f));have b:=(Ll d);let⟨p,q⟩:=Ϡ s.results i (by rw[a.results];exact b);let⟨j,o⟩:=Ϡ s.Z i (by rw[a.Z];exact b);let⟨e,g⟩:=Ϡ s.P i (by rw[a.P];exact b);have b:=a.all i x _ p j e ⟨d,f,q,o,g⟩;have d:=Xcc a.Y (b.right r (List.mem_cons_self ..));have b:=Jn a.sound d t;exact⟨⟨.inl b.1,b.2.1,b.2.2⟩,⟨a.q3.1,Int.le_refl _⟩,⟨Int.le_refl _,h⟩,List.nodup_nil,λb a=>by simp at a,ψ,λb a=>by simp at a,by simpa using h⟩
def Xb7.row(b:Xb7 c s k)(d:s.q1[i]?=H x):∃l f a e,AtS s i x l f a e:=by
 have a:=(Ll d);exact⟨_,_,_,_,d,Lg (by rw[b.A];exact a),Lg (by rw[b.results];exact a),Lg (by rw[b.Z];exact a),Lg (by rw[b.P];exact a)⟩
def Xbh.endsLt(b:Xbh c s):∀e∈s.P,∀v∈e,v<s.U:=λe h v j=>by
 let⟨t,f⟩:=List.mem_iff_getElem?.1 h;have h:=(Ll f);let⟨x,i⟩:=Ϡ s.q1 t (by rw[<-b.P];exact h);let⟨l,_,_,g,d⟩:=b.row i;obtain rfl:g=e:=by simpa using d.e.symm.trans f
 have a:=b.all _ _ _ _ _ _ d;refine Xh2 a.times ?_ v j;rw[a.P];rcases a.act with ⟨_,a⟩|⟨_,_,a⟩<;>omega
def Xcu:Xat.run.Q.K=0:=rfl
def Xdf(a:Xcx c m):m.Q.K≠0:=by have:=a.K;omega
def Xbh.goes(a:Xbh c s)(b:s.q1[i]?=H x)(g:x.run.Q.K≠0):Xb1 c s i x:=by
 let⟨l,_,_,e,d⟩:=a.row b;rcases(a.all _ _ _ _ _ _ d).act with ⟨rfl,_⟩|⟨f,_⟩
 .exact absurd Xcu g
 exact⟨Xb7.mono a ω,a.q3.2,a.q5.2,a.endsLt,b,f⟩
def Xge{l:List α}{x y:α}(a:(l.set t y)[u]?=H x):(u=t/\x=y)\/(u≠t/\l[u]?=H x):=by
 rcases Xbt a with ⟨b,c,_⟩|a
 .exact .inl ⟨b,c⟩
 exact .inr a
def Xbh.begins_(a:Xbh c s)(A:s.q1[i]?=H x)(L:x.run.Q.K=0)(f:Xg6 c s i y):Xb1 c (Xc8 s i y) i y:=by
 have o:=Int.le_trans a.q3.1 a.q3.2;have B:=Xi0 a f o;have o:=(Ll A);let⟨F,G,m,J,_,_⟩:=f;refine⟨⟨a.sound,a.M,a.Y,⟨a.q3.1,by have:=a.q3.2;show s.q3<=s.U+1;omega⟩,⟨a.q5.1,by have:=a.q5.2;show s.q5<=s.U+1;omega⟩,a.q6,by simpa[Xc8]using a.A,by simpa[Xc8]using a.results,by simpa[Xc8]using a.Z,by simpa[Xc8]using a.P,λt w l j z e f=>?_,a.q7⟩,a.q3.2,a.q5.2,a.endsLt,List.getElem?_set_self o,B⟩;let⟨v,h,r,p,u⟩:=f;obtain⟨g,q,rfl⟩:=Xbm (show(s.Z.modify i (·++[s.U]))[t]?=H z from p);have n:(s.q1.set i y)[t]?=H w:=v;rcases Xge n with ⟨rfl,rfl⟩|⟨C,E⟩
 .have b:=a.all t x l j g e ⟨A,h,r,q,u⟩
  rw[if_pos rfl];have k:g.length=j.length:=by
   rcases b.act with ⟨_,d⟩|⟨d,_⟩
   .exact d
   exact absurd L (Xdf d.u2)
  have f:l=F::G:=by simpa using h.symm.trans J
  refine⟨.inr ⟨B.mono (λ_ _ d=>d) (Int.le_refl _) (by show s.U<=s.U+1;omega),by rw[f];simp,by simp[k]⟩,b.right,b.P,b.ops,Xe4 b.times (by rw[k,b.P]) ω⟩
 rw[if_neg C];exact(a.all t w l j g e ⟨E,h,r,q,u⟩).mono (λ_ _ a=>a) (Int.le_refl _) (by show s.U<=s.U+1;omega)
def Xb7.tick(a:Xb7 c s (s.U+1)):Xbh c (Xb3 s):=⟨a.sound,a.M,a.Y,a.q3,a.q5,a.q6,a.A,a.results,a.Z,a.P,λt x l f d e b=>a.all t x l f d e ⟨b.x,b.l,b.r,b.b,b.e⟩,a.q7⟩
def Xb7.setA(a:Xb7 c s k)(M:s.q1[i]?=H x)(P:x.run.Q.K≠0)(N:Xcl c s'.M s'.q3 k y)(F:Dp c s'.M)(J:Xa4 s'.M s'.q6 s'.q3)(r:s.q3<=s'.q3/\s'.q3<=k)(E:0<=s'.q5/\s'.q5<=k)
  (L:∀d f,Xas s.M d f->Xas s'.M d f) (d:s'.q1=s.q1.set i y) (w:s'.A=s.A) (v:s'.results=s.results) (u:s'.Z=s.Z) (o:s'.P=s.P) (C:s'.q7=s.q7) (A:s'.Y=s.Y):Xb7 c s' k:=by
 refine⟨a.sound,F,by rw[A];exact a.Y,⟨Int.le_trans a.q3.1 r.1,r.2⟩,E,J,by rw[d,w];simpa using a.A,by rw[d,v];simpa using a.results,by rw[d,u];simpa using a.Z,by rw[d,o];simpa using a.P,λt G l q p e A=>?_,by rw[o,C];exact a.q7⟩;let⟨n,g,h,j,m⟩:=A;rw[d]at n;rw[w]at g;rw[v]at h;rw[u]at j;rw[o]at m;rcases Xge n with ⟨rfl,rfl⟩|⟨_,B⟩
 .have b:=a.all t x l q p e ⟨M,g,h,j,m⟩
  rcases b.act with ⟨rfl,_⟩|⟨_,z⟩
  .exact absurd Xcu P
  exact⟨.inr ⟨N,z⟩,b.right,b.P,b.ops,b.times⟩
 exact(a.all t G l q p e ⟨B,g,h,j,m⟩).mono L r.1 (Int.le_refl _)
def Xb1.setA(b:Xb1 c s i x)(q:Xcl c s'.M s'.q3 (s.U+1) y)(p:Dp c s'.M)(o:Xa4 s'.M s'.q6 s'.q3)(n:s.q3<=s'.q3/\s'.q3<=s.U+1)(m:0<=s'.q5/\s'.q5<=s.U+1)
  (l:∀a f,Xas s.M a f->Xas s'.M a f) (k:s'.q1=s.q1.set i y) (j:s'.A=s.A) (h:s'.results=s.results) (g:s'.Z=s.Z) (e:s'.P=s.P) (d:s'.q7=s.q7) (a:s'.Y=s.Y):Xb7 c s' (s.U+1):=
 b.inv.setA b.hx (Xdf b.ok.u2) q p o n m l k j h g e d a
def Xb1.stale(a:Xb1 c s i x)(d:Xg6 c s i y):Xb7 c {s with q5:=s.q5+1,q1:=s.q1.set i y} (s.U+1):=by
 have:=Int.le_trans a.inv.q3.1 a.q3;have b:Xcl c s.M s.q3 (s.U+1) y:=Xi0 a.inv d ω;exact a.setA b a.inv.M a.inv.q6 ⟨Int.le_refl _,a.inv.q3.2⟩ ⟨by have:=a.inv.q5.1;show 0<=s.q5+1;omega,by have:=a.q5;show s.q5+1<=s.U+1;omega⟩ (λ_ _ a=>a) rfl rfl rfl rfl rfl rfl rfl
structure Xpf(c:AQ)(s D:Tra):Prop where
 M:Dp c D.M
 q6:Xa4 D.M D.q6 D.q3
 q3:s.q3<=D.q3/\D.q3<=s.q3+1
 place:∀a f,Xas s.M a f->Xas D.M a f
 A:D.A=s.A
 results:D.results=s.results
 Z:D.Z=s.Z
 P:D.P=s.P
 q7:D.q7=s.q7
 Y:D.Y=s.Y
 q5:D.q5=s.q5
 U:D.U=s.U
 q1:D.q1=s.q1
def Xfb(d:Dp c s.M)(b:Xa4 s.M s.q6 s.q3)(a:0<=s.q3)(e:∀a∈x.q2,BP a.2.2)(f:Int):Xpf c s (Xb2 s x f):=by
 unfold Xb2;split
 .have hF:=Xd9 (c:=c) (k:=s.q3+1) ω x.q2 s.M s.q6 d (b.mono ω) e
  exact⟨hF.1,hF.2.1,⟨by show s.q3<=s.q3+1;omega,Int.le_refl _⟩,λe f a=>⟨a.1,a.2.1,by rw[hF.2.2];exact a.2.2⟩,rfl,rfl,rfl,rfl,rfl,rfl,rfl,rfl,rfl⟩
 exact⟨d,b,⟨Int.le_refl _,ω⟩,λ_ _ a=>a,rfl,rfl,rfl,rfl,rfl,rfl,rfl,rfl,rfl⟩
def Xau{l:List α}{x d:α}(a:l[i]?=H x):l.getD i d=x:=by rw[List.getD_eq_getElem?_getD,a];rfl
def Xjo{j:Nat}(a:j<(ends.getD t []).length):((ends.modify i (·++[v])).getD t []).getD j 0=(ends.getD t []).getD j 0/\j<((ends.modify i (·++[v])).getD t []).length:=by
 rw[List.getD_eq_getElem?_getD (l:=ends)]at a ⊢;rw[List.getD_eq_getElem?_getD (l:=ends.modify _ _),List.getElem?_modify];cases c:ends[t]? with
 |none=>rw[c]at a;simp at a
 |some y=>
  rw[c]at a;simp only[Option.getD_some]at a;show((if i=t then y++[v]else y).getD j 0)=y.getD j 0/\j<(if i=t then y++[v]else y).length;by_cases b:i=t
  .rw [if_pos b]
   refine⟨?_,?_⟩
   .show (y++[v]).getD j 0=y.getD j 0
    rw[List.getD_eq_getElem?_getD,List.getD_eq_getElem?_getD,Al a]
   show j<(y++[v]).length;rw[List.length_append];omega
  rw[if_neg b];exact⟨rfl,a⟩
def Xgt(c:∀a∈l,a.2.toNat<(ends.getD a.1.toNat []).length):Xbp (ends.modify i (·++[v])) l=Xbp ends l:=by
 unfold Xbp;cases b:l.getLast? with
 |none=>rfl
 |some a=>exact(Xjo (c a (List.mem_of_getLast? b))).1
def Xhr(h:∀c∈l,c.2.toNat<(ends.getD c.1.toNat []).length)(g:-1<k)(i:∀e∈ends,∀v∈e,v<k):Xbp ends l<k:=by
 unfold Xbp;cases f:l.getLast? with
 |none=>exact g
 |some d=>
  have a:=h d (List.mem_of_getLast? f);simp only;rw[List.getD_eq_getElem?_getD (l:=ends)]at a ⊢;cases b:ends[d.1.toNat]? with
  |none=>rw[b]at a;simp at a
  |some y=>rw[b]at a;simp only[Option.getD_some]at a ⊢;rw[List.getD_eq_getElem?_getD,Lg a];exact i y (Lm b) _ (List.getElem_mem a)
def Xel.M(d:Xel ends l):∀a∈l,a.2.toNat<(ends.getD a.1.toNat []).length:=λa b=>by
 let⟨k,c⟩:=List.mem_iff_getElem?.1 b;exact(d.at_ k a c).2.2.2.1
def Xel.add(h:Xel ends l)(m:ends[i]?=H e)(b:0<=k)(s:∀e∈ends,∀v∈e,v<k):Xel (ends.modify i (·++[k])) (l++[((i:Int),(e:Int))]):=by
 have j:=h.M;refine⟨λf d a=>?_,λt b r=>?_⟩
 .by_cases q:f<l.length
  .rw [Al q]at a
   have b:=h.at_ f d a;have g:=Xjo (i:=i) (v:=k) b.2.2.2.1;rw[List.take_append_of_le_length ω,Xgt (λd a=>j d (List.mem_of_mem_take a)),g.1];exact⟨b.1,by simpa using b.2.1,b.2.2.1,g.2,b.2.2.2.2⟩
  have o:f=l.length:=by
   have:=(Ll a);simp at this;omega
  subst o;rw[Ar (Nr _),Nat.sub_self]at a;obtain rfl:((i:Int),(e:Int))=d:=by simpa using a
  have a:(ends.modify i (·++[k])).getD i []=e++[k]:=by rw[List.getD_eq_getElem?_getD,List.getElem?_modify,m];simp
  simp only[Int.toNat_natCast];rw[List.take_left' rfl,Xgt j,a];refine⟨ω,by simpa using(Ll m),(h.all i e m).symm,ψ,?_⟩;rw[List.getD_eq_getElem?_getD,Ar (Nr _),Nat.sub_self];show Xbp ends l<k;exact Xhr j ω s
 obtain⟨y,n,rfl⟩:=Xbm r;have p:=h.all t y n;rw[List.countP_append,List.countP_singleton];by_cases c:t=i
 .subst c
  simp only[if_true,beq_self_eq_true,List.length_append,List.length_singleton];omega
 rw[if_neg c,if_neg φ];simpa using p
def Xb1.done(a:Xb1 c s i x)(f v:Int):Xb7 c (Xco s i x f v) (s.U+1):=by
 have P:=Int.le_trans a.inv.q3.1 a.q3;have b:=Xfb a.inv.M a.inv.q6 a.inv.q3.1 (λk g=>(a.ok.writesP k g).2) f;let⟨_,M,_,_,w⟩:=a.inv.row a.hx;have N:=a.inv.all _ _ _ _ _ _ w;let⟨g,k⟩:=ε (Xb2 s x f);unfold Xco;rw[<-k]at b ⊢;refine⟨a.inv.sound,b.M,by show 0<=g.Y/\_;rw[b.Y];exact a.inv.Y,⟨by have:=b.q3.1;have:=a.inv.q3.1;show 0<=g.q3;omega,by have:=b.q3.2;have:=a.q3;show g.q3<=s.U+1;omega⟩,by show 0<=g.q5/\_;rw[b.q5];exact a.inv.q5,b.q6,
  by simpa using a.inv.A,by simpa using a.inv.results,by show g.Z.length=_;rw[b.Z];simpa using a.inv.Z,by simpa using a.inv.P,λt E l C j e g=>?_,?_⟩
 .obtain ⟨J,o,z,G,F⟩:=g
  obtain⟨A,B,rfl⟩:=Xbm (show(s.A.modify i List.tail)[t]?=H l from o);obtain⟨r,u,rfl⟩:=Xbm (show(s.results.modify i (·++[⟨f,v,x.run.C,x.N,0⟩]))[t]?=H C from z);obtain⟨p,q,rfl⟩:=Xbm (show(s.P.modify i (·++[s.U]))[t]?=H e from F);have n:s.Z[t]?=H j:=by rw[<-b.Z];exact G
  rcases Xge (show(s.q1.set i Xat)[t]?=H E from J)with ⟨rfl,rfl⟩|⟨h,L⟩
  .have d:=a.inv.all t x A r j p ⟨a.hx,B,u,n,q⟩
   simp only[if_true];rcases d.act with ⟨rfl,_⟩|⟨_,m,_⟩
   .exact absurd Xcu (Xdf a.ok.u2)
   have:=List.length_pos_iff.2 m;have:=d.ops;have:=d.P;exact⟨.inl ⟨rfl,by simp;omega⟩,λy g=>d.right y (List.mem_of_mem_tail g),by simp;omega,by simp;omega,Xg8 d.times ω⟩
  rw[if_neg h,if_neg h,if_neg h];exact(a.inv.all t E A r j p ⟨L,B,u,n,q⟩).mono b.place b.q3.1 (Int.le_refl _)
 have b:s.results.getD i []=M:=Xau w.r;show Xel (s.P.modify i (·++[s.U])) (s.q7++[((i:Int),((s.results.getD i []).length:Int))]);rw[b,<- N.P];exact a.inv.q7.add w.e P a.endsLt
def Xb1.commit(a:Xb1 c s i x)(d:Xbc c s i x f v s'):Xb7 c s' (s.U+1)/\s'.U=s.U:=by
 rcases d with ⟨_,y,b,rfl⟩|⟨_,rfl⟩
 .exact ⟨a.stale b,rfl⟩
 refine⟨a.done f v,?_⟩;exact(Xfb a.inv.M a.inv.q6 a.inv.q3.1 (λd b=>(a.ok.writesP d b).2) f).U
def Xkd(m:Mm)(x:Gl)(a f:Int)(h:Xas m a f):Xas {m with N:=m.N++[x]} a f:=by
 refine⟨h.1,h.2.1,?_⟩;have b:=h.2.2;unfold Bd Xaw at b ⊢;dsimp only at b ⊢;split at b
 .simp at b;have:=h.2.1;omega
 rename_i d;rw[if_neg (by rw[List.length_append];simp;omega)];split at b
 .rename_i c
  rw[if_pos c,Al ω];exact b
 rename_i c;rw[if_neg c];exact b
def Xoi(e:Dp c s.M)(b:Xa4 s.M s.q6 s.q3)(o:0<=s.q3){r:Rq}(g:Fy c r)(i:r.K=3)(hl:s.M.N.length<4096):Dp c (Xfu c s r).M/\Xa4 (Xfu c s r).M (Xfu c s r).q6 s.q3:=by
 let⟨n,f,_,_⟩:=g.alloc i;have i:(c.H.getD r.D.toNat 0).toNat=n.toNat:=by rw[Xau f]
 unfold Xfu;rw[i];refine⟨⟨e.gl,e.gv,by simp;omega,λx a=>?_⟩,⟨by simp[b.len],?_,λk x a=>?_,λl hl v m=>?_⟩⟩
 .rcases List.mem_append.1 a with a|a
  .exact e.N x a
  obtain rfl:x=_:=by simpa using a
  refine⟨g.D,by rw[f];simp;omega,λv b=>?_⟩;rw[(List.mem_replicate.1 b).2];unfold BP;omega
 .rw [List.getD_eq_getElem?_getD,Al (by rw[b.len];omega),<- List.getD_eq_getElem?_getD]
  exact b.zero
 .have d:(s.M.N++[⟨r.D,ϱ n.toNat 0⟩])[k]?=H x:=a
  by_cases j:k<s.M.N.length
  .rw [Al j]at d
   rw[List.getD_eq_getElem?_getD,Al (by rw[b.len];omega),<- List.getD_eq_getElem?_getD];exact b.O k x d
  have h:k=s.M.N.length:=by
   have:=(Ll d);simp at this;omega
  subst h;rw[Ar (Nr _),Nat.sub_self]at d;obtain rfl:(⟨r.D,ϱ n.toNat 0⟩:Gl)=x:=by simpa using d
  rw[List.getD_eq_getElem?_getD,Ar (by rw[b.len];omega),b.len,Nat.sub_self];rfl
 rcases List.mem_append.1 hl with hl|hl
 .exact b.vals l hl v m
 obtain rfl:l=_:=by simpa using hl
 rw[(List.mem_replicate.1 m).2];exact⟨Int.le_refl _,o⟩
def Xok(l:List (Int×Int×Int))(k:Nat)(v:Int):(l.modify k (λa=>(a.1,a.2.1,v))).map (λa=>(a.1,a.2.1))=l.map λa=>(a.1,a.2.1):=by
 apply List.ext_getElem?;intro b;rw[List.getElem?_map,List.getElem?_map,List.getElem?_modify];cases l[b]? with
 |none=>rfl
 |some y=>simp only[Option.map_some,Option.map_eq_map];split<;>rfl
def Xkc(T:Dp c s.M)(h:Xcl c s.M s.q3 n x)(f:Fy c x.run.Q)(hk:x.run.Q.K≠3)(hl:x.run.Q.D<((Bd s.M x.run.Q).length:Int))(R:Xcx c m) :
  Xcl c s.M s.q3 (n+1) {(Xbn s x x.run.Q).1 with run:=m}/\Bj x.run.Q (Xbn s x x.run.Q).2=ϑ:=by
 let⟨r,aG⟩:=ε x.run.Q;rw[<-aG]at f hk hl ⊢;have S:Xas s.M r.O r.D:=⟨f.O,f.D,hl⟩;have A:∀(C:List (Int×Int×Int))(B:List (Int×Int)),(C.map λw=>(w.1,w.2.1)).Nodup->(∀w∈C,Xas s.M w.1 w.2.1/\BP w.2.2)->B.Nodup->(∀p∈B,Xas s.M p.1 p.2)->(B:Int)<=n+1->(C:Int)<=n+1->
   Xcl c s.M s.q3 (n+1) {(if 0<r.O then {x with N:=x.N+1}else x)with run:=m,q2:=C,q4:=B}:=λC B o q M N P Q=>by
  have h7:=h.N;split
  .exact ⟨R,h.q8,⟨by show 0<=x.N+1;omega,by show x.N+1<=n+1;omega⟩,M,N,o,q,P,Q⟩
  exact⟨R,h.q8,⟨h7.1,by show x.N<=n+1;omega⟩,M,N,o,q,P,Q⟩
 have aH:=h.count.1;have aI:=h.count.2;have ew:∀(b:Bool)(y:Trx),y=(if 0<r.O then {x with N:=x.N+1}else x)->y.q2=x.q2/\y.q4=x.q4:=λ_ y e=>by subst e;split<;>exact⟨rfl,rfl⟩
 have t:=A x.q2 x.q4 h.q2 h.writesP h.q4 h.readsP ω ω;let⟨y,W⟩:=ε (if 0<r.O then {x with N:=x.N+1}else x:Trx);have i:=ew ϑ y W;unfold Xbn;simp only;rw[<-W]at A t ⊢;cases E:x.q2.findIdx? (Xcv r)with
 |some k=>
  rw[List.findIdx?_eq_some_iff_getElem]at E;let⟨l,aJ,_⟩:=E;simp only;split
  .rename_i q
   refine⟨?_,by unfold Bj;rw[if_neg ω,if_neg ω]⟩;have:=A (x.q2.modify k λw=>(w.1,w.2.1,r.V)) x.q4 (by rw[Xok];exact h.q2) (λw d=>by
    let⟨j,hj⟩:=List.mem_iff_getElem?.1 d;obtain⟨z,hz,rfl⟩:=Xbm hj;have:=h.writesP z (Lm hz);split
    .exact ⟨this.1,f.V⟩
    exact this) h.q4 h.readsP ω (by rw[List.length_modify];omega)
   rw[<-i.2]at this;exact this
  rename_i q;have d:=h.writesP _ (List.getElem_mem l);refine⟨?_,?_⟩
  .rw [<-i.1,<- i.2]at t
   exact t
  rw[Lg l];unfold Bj;have o:r.K=1:=by have:=f.K;omega
  rw[if_pos o];exact Aq.2 d.2
 |none=>
  rw[List.findIdx?_eq_none_iff]at E;simp only;split
  .rename_i q
   refine⟨?_,by unfold Bj;rw[if_neg ω,if_neg ω]⟩;have:=A (x.q2++[(r.O,r.D,r.V)]) x.q4 (by
    rw[List.map_append,List.nodup_append];refine⟨h.q2,ψ,λa G b J e=>?_⟩;obtain⟨w,d,rfl⟩:=List.mem_map.1 G;obtain rfl:b=(r.O,r.D):=by simpa using J
    have:=E w d;unfold Xcv at this;rw[(Prod.mk.inj e).1,(Prod.mk.inj e).2]at this;simp at this) (λw d=>by
    rcases List.mem_append.1 d with d|d
    .exact h.writesP w d
    obtain rfl:w=_:=by simpa using d
    exact⟨S,f.V⟩) h.q4 h.readsP ω (by rw[List.length_append];simp;omega)
   rw[<-i.2]at this;exact this
  rename_i q;have o:r.K=1:=by have:=f.K;omega
  refine⟨?_,?_⟩
  .split
   .rw [<-i.1,<- i.2]at t
    exact t
   rename_i L;have:=A x.q2 (x.q4++[(r.O,r.D)]) h.q2 h.writesP (by
    rw[List.nodup_append];exact⟨h.q4,ψ,λa G b J e=>by
     obtain rfl:b=(r.O,r.D):=by simpa using J
     exact L (e▸G)⟩) (λp u=>by
    rcases List.mem_append.1 u with u|u
    .exact h.readsP p u
    obtain rfl:p=_:=by simpa using u
    exact S) (by rw[List.length_append];simp;omega) ω
   rw[<-i.1]at this;exact this
  unfold Bj;rw[if_pos o];refine Aq.2 ?_;have l:r.D.toNat<(Bd s.M r).length:=by have:=f.D;omega
  rw[List.getD_eq_getElem?_getD,Lg l];have Y:=List.getElem_mem l;simp only[Option.getD_some];unfold Bd at Y l;let⟨v,V⟩:=ε ((Bd s.M r)[r.D.toNat]'(by have:=f.D;omega));have g:v∈Bd s.M r:=by rw[V];exact List.getElem_mem _
  show BP ((Bd s.M r)[r.D.toNat]'(by have:=f.D;omega));rw[<-V];unfold Bd at g;split at g
  .simp at g
  split at g
  .cases F:s.M.N[(r.O-1).toNat]? with
   |none=>rw[F]at g;simp at g
   |some z=>rw[F]at g;exact(T.N z (Lm F)).2.2 v g
  exact T.gv v g
def Xb1.doS(a:Xb1 c s i x)(d:Xbj x.run=ϝ)(k:DoS c s i x s'):Xb7 c s' (s.U+1)/\s'.U=s.U:=by
 have b:=a.ok.u2.run d;let⟨_,f,d⟩:=b.waits;have r:=d.Q a.inv.sound;have p:∀{n:Int}{m':AV},Bj x.run.Q n=ϑ->ED c x.run n m'->Xcx c m':=λd g=>by have:=TX a.inv.sound b d g;exact⟨this.1,this.2.1,this.2.2⟩
 have j:=a.inv.q3;have:=a.inv.M.len;have l:=a.inv.q5;rcases k with ⟨e,h,m',g,rfl⟩|⟨e,h,m',g,rfl⟩|⟨e,h,m',g,rfl⟩|⟨e,h,t⟩
 .have k:=Xoi a.inv.M a.inv.q6 j.1 r e h
  have d:∀b f,Xas s.M b f->Xas (Xfu c s x.run.Q).M b f:=λb f d=>Xkd _ _ b f d;have b:=a.ok.mono d (Int.le_refl _) (Int.le_refl _);have o:=p (by unfold Bj;rw[if_neg ω,if_pos e];simp;omega) g;have q:Xcl c (Xfu c s x.run.Q).M s.q3 (s.U+1) {x with N:=x.N+1,run:=m'}:=⟨o,b.q8,⟨by have:=b.N.1;show 0<=x.N+1;omega,by have:=b.N.2;show x.N+1<=s.U+1;omega⟩,b.q4,b.readsP,b.q2,b.writesP,by have:=b.count.1;show(x.q4:Int)<=s.U+1;omega,by have:=b.count.2;show(x.q2:Int)<=s.U+1;omega⟩;exact⟨a.setA (s':=setX (Xfu c s x.run.Q) i {x with N:=x.N+1} m') q k.1 k.2 ⟨Int.le_refl _,j.2⟩ l d rfl rfl rfl rfl rfl rfl rfl,rfl⟩
 .have b:=a.ok.mono (λ_ _ d=>d) (Int.le_refl _) (n':=s.U+1) ω
  have k:=p (by unfold Bj;rw[if_neg ω,if_pos e];simp) g;have o:Xcl c s.M s.q3 (s.U+1) {x with run:=m'}:=⟨k,b.q8,b.N,b.q4,b.readsP,b.q2,b.writesP,b.count⟩;exact⟨a.setA (s':=setX s i x m') o a.inv.M a.inv.q6 ⟨Int.le_refl _,j.2⟩ l (λ_ _ d=>d) rfl rfl rfl rfl rfl rfl rfl,rfl⟩
 .have b:=λ(m:AV) k=>Xkc (m:=m) a.inv.M a.ok r e h k
  have e:=p (b x.run a.ok.u2).2 g;exact⟨a.setA (s':=setX s i (Xbn s x x.run.Q).1 m') (b m' e).1 a.inv.M a.inv.q6 ⟨Int.le_refl _,j.2⟩ l (λ_ _ d=>d) rfl rfl rfl rfl rfl rfl rfl,rfl⟩
 exact a.commit t
def Xb1.goS(a:Xb1 c s i x)(f:GoS c s i x fr s'):Xb7 c s' (s.U+1)/\s'.U=s.U:=by
 rcases f with ⟨_,_,rfl⟩|⟨_,_,b⟩|⟨e,d⟩
 .exact ⟨a.inv,rfl⟩
 .exact a.commit b
 exact a.doS e d
def Xbh.stepS(e:Xbh c s)(hs:gw c s i s'):Xbh c s':=by
 obtain⟨x,_,d,rfl,⟨b,y,f,a⟩|⟨b,a⟩⟩:=hs
 .have:=(e.begins_ d b f).goS a
  exact Xb7.tick (by rw[this.2];exact this.1)
 have:=(e.goes d b).goS a;exact Xb7.tick (by rw[this.2];exact this.1)
def ff(m:Mm)(fuel:Int)(cs:List (List Bi)):Tra:=
 ⟨m,ϱ m.G.length 0::m.N.map (λx=>ϱ x.f.length 0),0,fuel,ϱ cs.length Xat,cs,ϱ cs.length [],ϱ cs.length [],ϱ cs.length [],[],0,0⟩
def Xde{n:Nat}{x y:α}(a:(ϱ n x)[t]?=H y):y=x:=by
 rw[List.getElem?_replicate]at a;split at a
 .simpa using a.symm
 cases a
def Xjn{m:Mm}{fuel:Int}{d:List (List Bi)}(hs:AU c)(g:Dp c m)(b:0<=fuel/\fuel<=1048576)(n:∀l∈d,∀x∈l,AS c x 0=0)(hl:∀l∈d,l.length<=2000):Xbh c (ff m fuel d):=by
 refine⟨hs,g,b,⟨Int.le_refl _,Int.le_refl _⟩,⟨Int.le_refl _,Int.le_refl _⟩,⟨by simp[ff],by simp[ff],λk x g=>?_,λl hl v f=>?_⟩,by simp[ff],by simp[ff],by simp[ff],by simp[ff],λt x l j b e a=>?_,⟨λk j b=>by simp[ff]at b,λt e i=>?_⟩⟩
 .show ((ϱ m.G.length 0::m.N.map (λx=>ϱ x.f.length (0:Int))).getD (k+1) []).length=x.f.length
  have b:m.N[k]?=H x:=g;rw[List.getD_eq_getElem?_getD,List.getElem?_cons_succ,List.getElem?_map,b];simp
 .have h:v=0:=by
   rcases ϰ.1 hl with rfl|hl
   .exact (List.mem_replicate.1 f).2
   obtain⟨x,_,rfl⟩:=List.mem_map.1 hl;exact(List.mem_replicate.1 f).2
  subst h;exact⟨Int.le_refl _,Int.le_refl _⟩
 .obtain rfl:=Xde a.x
  obtain rfl:=Xde a.r;obtain rfl:=Xde a.b;obtain rfl:=Xde a.e;have b:l∈d:=Lm a.l;exact⟨.inl ⟨rfl,rfl⟩,n l b,rfl,by have:=hl l b;simpa using this,rfl⟩
 obtain rfl:=Xde i;rfl
def Xa4.le{m:Mm}(e:Xa4 m vs k)(d:0<=k)(a f:Nat):(vs.getD a []).getD f 0<=k:=by
 rw[List.getD_eq_getElem?_getD];cases b:(vs.getD a [])[f]? with
 |none=>exact d
 |some v=>
  rw[List.getD_eq_getElem?_getD]at b;cases c:vs[a]? with
  |none=>rw[c]at b;simp at b
  |some l=>rw[c]at b;exact(e.vals l (Lm c) v (Lm b)).2
def Xi3(a:Xb7 c s k)(hs:stale s x=ϑ):x.q8<s.q3:=by
 unfold stale at hs;rw[List.any_eq_true]at hs;let⟨b,_,d⟩:=hs;have:Xds s b<=s.q3:=a.q6.le a.q3.1 _ _;have:=of_decide_eq_true d;omega
structure Xoo(s s':Tra)(i:Nat)(x:Trx):Prop where
 q3:s.q3<=s'.q3/\s'.q3<=s.q3+1
 q5:s'.q5=s.q5\/(s'.q5=s.q5+1/\stale s x=ϑ/\s'.q3=s.q3/\∃y,s'.q1[i]?=H y/\y.q8=s.q3)
 len:s'.q1.length=s.q1.length/\s'.results.length=s.results.length
  /-- the calls of the others stay; the own calls lose at most the first one -/
 A:∀u,u≠i->s'.A[u]?=s.A[u]?
 act:∀u,u≠i->s'.q1[u]?=s.q1[u]?
 own:∀y,s'.q1[i]?=H y->y=Xat\/((y.q8=x.q8\/y.q8=s.q3)/\s'.q3=s.q3)
def Xbc.ab(a:Xb1 c s i x)(j:Xbc c s i x f v s'):Xoo s s' i x:=by
 have h:=(Ll a.hx);rcases j with ⟨k,y,⟨_,l,m,_,_,rfl⟩,rfl⟩|⟨_,rfl⟩
 .exact ⟨⟨Int.le_refl _,by show s.q3<=s.q3+1;omega⟩,.inr ⟨rfl,k,rfl,_,List.getElem?_set_self h,rfl⟩,ψ,λu _=>rfl,λu b=>List.getElem?_set_ne (Ne.symm b),λy g=>by
   have e:(s.q1.set i ⟨m,s.q3,0,[],[]⟩)[i]?=H y:=g;rw[List.getElem?_set_self h]at e;cases e;exact .inr ⟨.inr rfl,rfl⟩⟩
 have e:=Xfb a.inv.M a.inv.q6 a.inv.q3.1 (λk j=>(a.ok.writesP k j).2) f;refine⟨e.q3,.inl e.q5,by simp[Xco],λu b=>?_,λu b=>List.getElem?_set_ne (Ne.symm b),λy g=>?_⟩
 .show (s.A.modify i List.tail)[u]?=_
  rw[List.getElem?_modify];cases s.A[u]? with
  |none=>rfl
  |some l=>simp[Ne.symm b]
 have d:(s.q1.set i Xat)[i]?=H y:=g;rw[List.getElem?_set_self h]at d;cases d;exact .inl rfl
def Xmg(s:Tra)(x:Trx)(r:Rq):(Xbn s x r).1.q8=x.q8:=by
 unfold Xbn;simp only;split
 .split<;>(split<;>rfl)
 split
 .split<;>rfl
 split<;>(split<;>rfl)
def setX.ab(d:s.q1[i]?=H x)(l:y.q8=x.q8)(e:s'=setX s i y m\/∃c a,s'=setX (Xfu c s a) i y m):Xoo s s' i x:=by
 have k:=(Ll d);have h:s'.q3=s.q3/\s'.q5=s.q5/\s'.q1=s.q1.set i {y with run:=m}/\s'.results=s.results/\s'.A=s.A:=by rcases e with rfl|⟨c,a,rfl⟩<;>exact⟨rfl,rfl,rfl,rfl,rfl⟩
 let⟨j,d,a,f,g⟩:=h;refine⟨ω,.inl d,by rw[a,f];simp,λu _=>by rw[g],λu d=>by rw[a];exact List.getElem?_set_ne (Ne.symm d),λd b=>?_⟩;rw[a,List.getElem?_set_self k]at b;cases b;exact .inr ⟨.inl l,j⟩
def DoS.ab(a:Xb1 c s i x)(b:DoS c s i x s'):Xoo s s' i x:=by
 rcases b with ⟨_,_,m',_,rfl⟩|⟨_,_,m',_,rfl⟩|⟨_,_,m',_,rfl⟩|⟨_,_,d⟩
 .exact setX.ab a.hx (y:={x with N:=x.N+1}) rfl (.inr ⟨_,_,rfl⟩)
 .exact setX.ab a.hx rfl (.inl rfl)
 .exact setX.ab a.hx (Xmg _ _ _) (.inl rfl)
 exact d.ab a
def GoS.ab(a:Xb1 c s i x)(b:GoS c s i x fr s'):Xoo s s' i x:=by
 rcases b with ⟨_,_,rfl⟩|⟨_,_,d⟩|⟨_,e⟩
 .have:=(Ll a.hx)
  exact⟨ω,.inl rfl,⟨rfl,rfl⟩,λ_ _=>rfl,λ_ _=>rfl,λy b=>by
   have:y=x:=by simpa using b.symm.trans a.hx
   subst this;exact .inr ⟨.inl rfl,rfl⟩⟩
 .exact d.ab a
 exact e.ab a
structure Xpt(s s':Tra)(i:Nat):Prop where
 len:s'.q1.length=s.q1.length/\s'.results.length=s.results.length
 U:s'.U=s.U+1
 q3:s.q3<=s'.q3/\s'.q3<=s.q3+1
 q5:s'.q5=s.q5\/(s'.q5=s.q5+1/\s'.q3=s.q3/\∃x y,s.q1[i]?=H x/\x.run.Q.K≠0/\x.q8<s.q3/\s'.q1[i]?=H y/\y.q8=s.q3)
def gw.law(o:Xbh c s)(hs:gw c s i s'):Xpt s s' i:=by
 obtain⟨x,p,k,rfl,⟨h,y,n,d⟩|⟨h,d⟩⟩:=hs
 .have j:=o.begins_ k h n
  have b:=d.ab j;have e:=(j.goS d).2;refine⟨⟨b.len.1.trans (by simp[Xc8]),b.len.2⟩,by show p.U+1=s.U+1;rw[e];rfl,b.q3,?_⟩;rcases b.q5 with a|⟨_,a,_⟩
  .exact .inl a
  obtain⟨_,l,m,_,_,rfl⟩:=n;cases a
 have g:=o.goes k h;have f:=d.ab g;have e:=(g.goS d).2;refine⟨f.len,by show p.U+1=s.U+1;rw[e],f.q3,?_⟩;rcases f.q5 with a|⟨a,u,q,y,r,t⟩
 .exact .inl a
 exact .inr ⟨a,q,x,y,k,h,Xi3 g.inv u,r,t⟩
inductive Xbd(c:AQ):Tra->Tra->Prop
 |nil (s:Tra):Xbd c s s
 |step {s s1 s2:Tra} {i:Nat} (hf:∀u,u<i->s.A[u]?=H []) (hs:gw c s i s1) (h:Xbd c s1 s2):Xbd c s s2
def asked_yes(x:Cd)(r:Rq)(w:Ϣ)(d:AP x r=ϑ):ϙ prog 146 #[.agg #[I x.op,I x.a],XZ r] w λe j=>e=.returned (.bool ϑ)/\ϐ w w j:=by
 have h:=I6 d;let⟨_,_⟩:=x;let⟨_,b,_,c,_⟩:=r;unfold AP at d;simp only[Bool.and_eq_true,beq_iff_eq,Bool.not_eq_true',beq_eq_false_iff_ne,ne_eq,Bool.or_eq_true]at d;obtain⟨⟨⟨⟨⟨-,rfl⟩,g⟩,rfl⟩,rfl⟩,a⟩:=d;unfold XZ;dsimp only at h g a ⊢;rcases h with rfl|rfl|rfl|rfl|rfl
 .have d:Aa 4=1:=by simp[Aa]
  rw[d]at a ⊢;obtain rfl:b=0:=by simpa[Ag]using g
  obtain rfl:c=0:=by simpa using a
  go_in;go_wp2;go_ret;exact⟨rfl,(AA _ _).th (AA _ _)⟩
 .have d:Aa 5=2:=by simp[Aa]
  rw[d]at a ⊢;obtain rfl:b=0:=by simpa[Ag]using g
  by_cases i:c=0
  .subst i
   go_in;go_wp2;go_ret;exact⟨rfl,(AA _ _).th (AA _ _)⟩
  have:(c==0)=ϝ:=by simp[i]
  have:Af c=ϑ:=by simpa[i]using a
  go_in;go_wp2_with(go_at_call 141;refine(Bh _ _).mono ?_;rintro e k⟨rfl,rfl⟩);go_ret;exact⟨rfl,(AA _ _).th (AA _ _)⟩
 .have d:Aa 6=1:=by simp[Aa]
  rw[d]at a ⊢;let⟨d,h⟩:1<=b/\b<=1099511627776:=by simpa[Ag]using g
  have:decide (1<=b)=ϑ:=by simp[d]
  have:decide (b<=1099511627776)=ϑ:=by simp[h]
  obtain rfl:c=0:=by simpa using a
  go_in;go_wp2_with fail;go_quiet(fail);go_wp2;go_ret;exact⟨rfl,AG ((AA _ _).th (AA _ _)) _⟩
 .have d:Aa 7=2:=by simp[Aa]
  rw[d]at a ⊢;let⟨d,h⟩:1<=b/\b<=1099511627776:=by simpa[Ag]using g
  have:decide (1<=b)=ϑ:=by simp[d]
  have:decide (b<=1099511627776)=ϑ:=by simp[h]
  by_cases f:c=0
  .subst f
   go_in;go_wp2_with fail;go_quiet(fail);go_wp2;go_ret;exact⟨rfl,AG ((AA _ _).th (AA _ _)) _⟩
  have:(c==0)=ϝ:=by simp[f]
  have:Af c=ϑ:=by simpa[f]using a
  go_in;go_wp2_with(go_at_call 141;refine(Bh _ _).mono ?_;rintro e l⟨rfl,rfl⟩);go_quiet(fail);go_wp2_with(go_at_call 141;refine(Bh _ _).mono ?_;rintro e m⟨rfl,rfl⟩);go_ret;exact⟨rfl,AG ((AA _ _).th (AA _ _)) _⟩
 have d:Aa 8=3:=by simp[Aa]
 rw[d]at a ⊢;obtain rfl:b=0:=by simpa[Ag]using g
 obtain rfl:c=0:=by simpa using a
 go_in;go_wp2;go_ret;exact⟨rfl,(AA _ _).th (AA _ _)⟩
def Valid_yes(c:AQ)(cv:ϒ)(m:AV)(fv:ϒ)(B:Nat)(w:Ϣ)(hL:C8 w)(t:B<=w)(hc:BF B w cv c)(hm:AE B w 4 (CK B) fv m.J)(fS:Bv c)(C:Ax c m):ϙ prog 110 #[cv,AJ fv m] w λe w'=>e=.returned (.bool ϑ)/\ϐ w w w':=by
 obtain⟨cf,cg,rfl,dC,dD,cD⟩:=id hc;obtain⟨fa,fc,rfl⟩:=dC.u1;obtain⟨ga,gc,rfl⟩:=dD.u1;obtain⟨ma,mc,rfl⟩:=hm.u1;obtain⟨r,⟨fQ,fR,N,T,q⟩,P,o,S⟩:=m;unfold AJ AC;obtain⟨hs,⟨k1,k2⟩,⟨k3,k4⟩,⟨k5,k6⟩,k7,aG⟩:=C;dsimp only at *;have d0:=θ (P<0);have d1:=θ (1048576<P);have d2:=θ (o<0);have d3:=θ (1099511627776<o);have d4:=θ (S<0);have d5:=θ (100000<S);have d6:=θ ((200:Int)<(r:Int));obtain⟨HM,HC,HL,cN⟩:=Λ4 hm hc hL aG;obtain⟨W,hW⟩:=ε ((w.alloc (χ (Bc fa fc ga gc c) 25)).alloc (χ #[σ ma r mc,I fQ,I fR,I N,I T,I q,I P,I o,I S] 59));have bD:=Lh (bl2 hW);have dM:=sz2 hW;have q0:=Xct hW;have q1:=Xcm hW;have HR:=Lh (λV (h:ϐ W W V)=>ϟ (ϵ ((h.block (w:Nat) ω).trans q0)) (ϵ ((h.block ((w:Nat)+1) ω).trans q1)));have eF:B<=W:=ω;have R:=HR.o W Br;have Q0:=Lh (ϟ q0 q1);clear hc hL hm aG dC dD cD k1 k2 k3 k4 k5 k6 q0 q1;go_in;go_upto_region 1 with fail;rw[<-hW];clear hW;go_wp2_with fail;refine(Hc c _ B W (HL.o.below bD.o) eF (HC.o.below (bD.o.mono t))).mono ?_;rintro e w1⟨rfl,bE⟩;rw[CZ hs];have R1:=HR.o w1 bE;have cL:=Lh (bD.o.th bE);have bV:=Lh bE;clear R bE;by_cases aK:r=[]
 .subst aK
  rcases cN.o with ⟨-,he⟩|⟨h,-⟩
  rotate_left
  .exact absurd rfl h
  unfold DT at he;dsimp only at he;split at he
  .rename_i h4
   subst h4;simp only[Bool.and_eq_true,beq_iff_eq]at he;obtain⟨C,⟨rfl,rfl⟩,rfl⟩:=he;have HV:=Lh C;clear C;go_wp2_with(go_at_call 141;refine(Bh _ _).mono ?_;rintro e w2⟨rfl,rfl⟩;rw[HV.o]);go_ret;exact⟨rfl,cL.o.th (AA _ _)⟩
  split at he
  .rename_i h5
   subst h5;simp only[Bool.and_eq_true,beq_iff_eq]at he;obtain⟨C,⟨rfl,rfl⟩,rfl⟩:=he;have HV:=Lh C;clear C;go_wp2_with(go_at_call 142;refine(DN q [17,18,19,20,5,21,6] _ 7 _ δ (λj u hu=>?_)).mono ?_;(exact GH _ _ _ ψ j u hu);rintro e w2⟨rfl,rfl⟩;rw[show [17,18,19,20,5,21,6].any (λa=>q==a)=FN q from rfl,HV.o]);go_ret;exact⟨rfl,cL.o.th ((AA _ _).th (AA _ _))⟩
  cases he
 have C:=cN.o.resolve_left (λh=>aK h.1);have HV:=Lh C.2;have aK:0<r.length:=List.length_pos_iff.2 aK;have fO:=ξ (r:Int) 0;clear C;have fE:=NU;obtain⟨mb,mo,rfl,aU,dB⟩:∃mb mo,ma=H (π mb mo)/\mb<B/\∀(i:Nat) f,r[i]?=H f->CK B w mb (mo+i*4) f:=by
  obtain⟨a0,aD,aS,eL,eM,eN,Q⟩:=HM.o;obtain⟨rfl,rfl⟩:ma=a0/\mc=aD:=by simpa using aS
  rcases Q with h0|⟨mb,mo,rfl,L,Q⟩
  .rw [h0]at aK;simp at aK
  exact⟨mb,mo,rfl,L,Q⟩
 have cT:=Lh dB;clear dB;obtain⟨d,bZ⟩:=ε (w1:Nat);obtain⟨W1,aO⟩:=ε (w1.alloc (.map #[] 0));have eE:Hid (Gv c d W1 d #[] 0):=Lh ⟨by rw[aO,bZ];exact Hn _ _,ψ⟩;have bW:=Lh (bV.o.th (bl1 aO));have z1:(w:Nat)+1<w1:=by have:=bV.o.size;omega
 have cH:(w:Nat)+1<d:=by have:=bV.o.size;omega
 have cA:d<W1:=by rw[aO];simp;omega
 have cY:=Lh (bD.o.th bW.o);have HQ:=Lh (λV (h:AW [d] [d] W1 V)=>ϟ (ϵ ((h.block (w:Nat) ω φ).trans ((bW.o.block (w:Nat) ω).trans Q0.o.1))) (ϵ ((h.block ((w:Nat)+1) ω φ).trans ((bW.o.block ((w:Nat)+1) ω).trans Q0.o.2))));have bA:=Lh (λV (h:AW [d] [d] W1 V)=>cY.o.trans (h.below (λb L=>by simp at L;omega) cY.o.size));have eS:=Lh (ϟ cH (ϟ cA dM));go_wp2_with fail;rw[<-aO,<- bZ];clear aO bZ R1 dM;go_loopg[91] (r.length+1) (λgk i wr=>∃k:Nat,k<=r.length/\i=I k/\r.length-k<gk/\Hid (AW [d] [d] W1 wr)/\Hid (∃E aA,Gv c d wr d E aA));exact⟨0,Nat.zero_le _,rfl,ω,Lh AW.self,Lh ⟨_,_,eE.o⟩⟩;obtain⟨k,hk,rfl,cE,aM,dI⟩:=hrel;have R:=HQ.o wr aM.o;by_cases eO:k<r.length
 .obtain ⟨f,hf⟩:=Ϡ r k eO
  have bM:=Lh (HV.o k f hf);obtain⟨y,x,hh,L,h1,hx,-,-,-⟩:=bM.o;have aF:=Lh (bA.o wr aM.o);obtain⟨q0,q1,⟨lv,q2,cJ⟩,⟨sv,q3,bJ⟩,fP,eR⟩:=(cT.o k f hf).below (aF.o.mono t) aU;obtain⟨la,lc,rfl⟩:=cJ.u1;obtain⟨sa,sc,rfl⟩:=bJ.u1;obtain⟨n,hn⟩:∃n:Nat,f.fn=n:=⟨f.fn.toNat,by have:=L.fn0;omega⟩;obtain⟨p,hp⟩:∃p:Nat,f.pc=(p:Int)+1:=⟨(f.pc-1).toNat,ω⟩;have hy:c.q0[n]?=H y:=by have:=L.fn;rw[hn,Int.toNat_natCast]at this;exact this
  rw[hp,show((p:Int)+1-1).toNat=p by omega]at hx;have fG:=(Ll hy);have dK:=(Ll hx);obtain⟨yb,yo,eH,aJ,dA⟩:∃yb yo,ga=H (π yb yo)/\yb<B/\CW B w yb (yo+n*5) y:=by
   obtain⟨fT,fA,dE,_,hg,_⟩:=HC.o;simp only[Value.agg.injEq,Array.mk.injEq,List.cons.injEq,and_true]at dE;obtain⟨_,_,rfl⟩:=dE;obtain⟨a0,aD,aS,eL,eM,eN,Q⟩:=hg;obtain⟨rfl,rfl⟩:ga=a0/\gc=aD:=by simpa using aS
   rcases Q with h0|⟨yb,yo,rfl,aJ,Q⟩
   .rw [h0]at hy;simp at hy
   exact⟨yb,yo,rfl,aJ,Q n y hy⟩
  subst eH;obtain⟨g1,g2,g3,g4,⟨xv,g5,g6⟩,g7,g8,g9⟩:=dA.below (aF.o.mono t) aJ;obtain⟨ca,cc,rfl⟩:=g6.u1;obtain⟨cb,co,rfl,cB,eD⟩:∃cb co,ca=H (π cb co)/\cb<B/\JW wr cb (co+p*2) x:=by
   obtain⟨a0,aD,aS,_,_,_,Q⟩:=g6;obtain⟨rfl,rfl⟩:ca=a0/\cc=aD:=by simpa using aS
   rcases Q with h0|⟨cb,co,rfl,L,Q⟩
   .rw [h0]at dK;simp at dK
   exact⟨cb,co,rfl,L,Q p x hx⟩
  obtain⟨x0,x1,-,dN⟩:=eD;have fC:=In k;have fD:(k:Int)<(r:Int):=ω;have fF:=In n;have fH:(n:Int)<(c.q0:Int):=ω;have fI:=In p;have fJ:(p:Int)<(y.q9:Int):=ω;have fK:(p:Int)+1<=9223372036854775807:=by unfold in64 at eR;omega
  have dn:=θ ((n:Int)<0);have eX:=θ (c.q0.length<=n);have dp:=θ ((p:Int)+1<1);have eY:=θ ((y.q9:Int)<(p:Int)+1);have A:=Lh (ϟ hf (ϟ hy (ϟ hx (ϟ hn (ϟ hp L)))));have dU:=Lh cJ;have dY:=Lh bJ;have dJ:=L.loc;rw[hn]at q0;rw[hp]at q1;rw[<-dJ]at g3;have fM:f.S.length<=140737488355328:=by obtain⟨_,_,_,h,_⟩:=bJ;exact h
  have eC:=hs.fok hy;unfold CX at eC;obtain⟨W2,aP⟩:=ε (wr.alloc (χ #[I (n:Int),I ((p:Int)+1),σ la f.L lc,σ sa f.S sc] 150));have u2:=Xao aP;have Y:=Lh (bl1 aP);obtain⟨eZ,eT,dG⟩:=dI.o;have e1:d<wr:=(La dG.map);obtain⟨ib,bI⟩:=ε (wr:Nat);rw[<-bI]at u2 e1;have dZ:=Lh u2;have cU:=Lh (aM.o.trans (AW.ob Y.o));have e3:(W2:Nat)=ib+1:=by rw[bI,aP];simp
  have E3:=Lh e3;have cW:=Lh (λV (h:AW [d] [d] W2 V)=>ϟ (HQ.o V (cU.o.trans h)) (ϵ ((h.block ib (by have:=E3.o;omega) φ).trans dZ.o)));have g1:=Δ5 Y.o g1 g2 g3 g4 g5;have HX:=Lh (ϟ x0 (ϟ x1 cB));clear hf hy hx L hn hp h1 cJ bJ g6 g7 g8 g9 dA u2 x0 x1 dG dJ;have cO:=Lh (ϟ aP bI);clear aP bI e3;go_upto_region 16 with fail;rw[<-cO.o.1,<- cO.o.2];clear R q0 q1 q2 q3;have R:=cW.o W2 AW.self;obtain⟨W3,aQ⟩:=ε (W2.alloc (χ #[.string y.name,I y.params,I f.L.length,.bool y.result,σ (H (π cb co)) y.q9 cc] 70));have u3:=Xao aQ;have aN:=Lh (bl1 aQ);obtain⟨yc,aW⟩:=ε (W2:Nat);rw[<-aW]at u3;have e5:=E3.o;rw[<-aW]at e5;have e6:d<yc:=ω;have eA:=Lh u3;have E4:=Lh (show(W3:Nat)=yc+1 by rw[aW,aQ];simp);have bB:=Lh (AW.ob (F:=[d]) aN.o);have aI:=Lh (λV (h:AW [d] [d] W3 V)=>ϟ (cW.o V (bB.o.trans h)) (ϵ ((h.block yc (by have:=E4.o;omega) φ).trans eA.o)));have HI:=Lh (λV (h:AW [d] [d] W3 V)=>(λk:ϐ B wr V=>ϟ (k.cell (p:=(π cb (co+p*2))) HX.o.2.2 |>.trans HX.o.1) (k.cell (p:=(π cb (co+p*2+1))) HX.o.2.2 |>.trans HX.o.2.1)) (((AW.ob Y.o).trans (bB.o.trans h)).below (λb L=>by simp at L;omega) (Nt t aF.o.size)));have dR:=Lh (dI.o.imp λE h=>h.imp λcl h=>(h.kp Y.o).kp aN.o);have aX:=Lh ((aF.o.th Y.o).th aN.o);have bP:=Lh ((dU.o.ints (Y.o.mono (Nt t aF.o.size))).ints (aN.o.mono (Nt t (aF.o.th Y.o).size)));have bU:=Lh ((dY.o.ints (Y.o.mono (Nt t aF.o.size))).ints (aN.o.mono (Nt t (aF.o.th Y.o).size)));have cZ:=Lh (ϟ aQ aW);clear u3 e5 aQ aW;go_upto_region 19 with fail;rw[<-cZ.o.1,<- cZ.o.2];clear R g1;have R:=aI.o W3 AW.self;go_wp2_with fail;refine(BT 143 #[] (λn=>!Af n) f.L _ B W3 IC (Nt t aX.o.size) bP.o (Mi _)).mono ?_;rintro e W4⟨rfl,bX⟩;rw[show f.L.any (λn=>!Af n)=ϝ by rw[List.any_eq_false];intro n hn;simp[Aq.2 (A.o.2.2.2.2.2.lv n hn)]];have cR:=Lh (AW.ob (F:=[d]) bX);have aY:=Lh bX;clear R bX;have R:=aI.o W4 cR.o;go_wp2_with fail;refine(BT 143 #[] (λn=>!Af n) f.S _ B W4 IC (Nt t (aX.o.th aY.o).size) (bU.o.ints (aY.o.mono (Nt t aX.o.size))) (Mi _)).mono ?_;rintro e W5⟨rfl,bF⟩;rw[show f.S.any (λn=>!Af n)=ϝ by rw[List.any_eq_false];intro n hn;simp[Aq.2 (A.o.2.2.2.2.2.sv n hn)]];have aZ:=Lh (cR.o.trans (AW.ob bF));have bK:=Lh ((aX.o.th aY.o).th bF);have cP:=Lh (dR.o.imp λE h=>h.imp λcl h=>(h.kp aY.o).kp bF);clear R bF;have R:=aI.o W5 aZ.o;obtain⟨E,aA,aT⟩:=cP.o;have bO:=Lh aT;obtain⟨cK,b,cG,aH⟩:∃cK b,(Instr.lookup 192 (.map (H d)) (I (n:Int)) ϑ).run prog W5=.ok (.tuple #[cK,.bool b]) W5/\((b=ϝ/\Instr.findNow (.int .i64) (I (n:Int)) E.toList 0=H none)\/(b=ϑ/\∃g l,cK=σ (H (π g 0)) y.q9 y.q9.length/\W5.heap[g]?=H (χ (Ad l) 3 (0,0))/\DB c y l)):=by
   rcases aT.find n y A.o.2.1 with aV|⟨jf,g,l,eG,M,J⟩
   .exact ⟨_,ϝ,RQ aT.map n none aV,.inl ⟨rfl,aV⟩⟩
   exact⟨_,ϑ,RQ aT.map n _ eG,.inr ⟨rfl,g,l,rfl,M,J⟩⟩
  have dQ:=Lh aH;clear aT aH;go_upto_if 155 with fail;go_cut[12] (λs wx=>∃g l,s=σ (H (π g 0)) y.q9 y.q9.length/\Hid (AW [d] [d] W3 wx/\wx.heap[g]?=H (χ (Ad l) 3 (0,0))/\DB c y l/\∃E aA,Gv c d wx d E aA))
  .rcases dQ.o with ⟨rfl,aV⟩|⟨rfl,g,l,rfl,M,J⟩
   .have dX:=Lh aV
    clear aV cG;simp only[Bool.not_false];go_wp2_with fail;refine(N1 c _ n y B W5 (HL.o.below bK.o) (Nt t bK.o.size) (HC.o.below (bK.o.mono t)) hs A.o.2.1).mono ?_;rintro e W6⟨g,l,rfl,fB,M,J,bG⟩;have cF:=bO.o.kp bG;have cE:g≠d:=by have:=(La bO.o.map);omega
    have eP:=U8 cF.map n (σ (H (π g 0)) y.q9 y.q9.length) dX.o;obtain⟨WY,aR⟩:=ε (Ew W6 d (.map (E.push ⟨I n,σ (H (π g 0)) y.q9 y.q9.length,aA⟩) (aA+1)));rw[<-aR]at eP;have dW:=@Lh (AW [d] [d] W3 WY) (by rw[aR];exact aZ.o.trans ((AW.ob bG).trans Om));have HD:=Lh (show WY.heap[g]?=H (χ (Ad l) 3 (0,0))/\DB c y l/\∃E aA,Gv c d WY d E aA from⟨by rw[aR,GY cE];exact M,J,_,_,by rw[aR];exact cF.add n y A.o.2.1 g l M J (by have:=(La bO.o.map);omega) cE⟩);have bQ:=Lh (aZ.o.trans (AW.ob (F:=[d]) bG));clear R M J bG cF aR;have R:=aI.o W6 bQ.o;go_wp2;go_meet;exact⟨g,l,rfl,Lh ⟨dW.o,HD.o⟩⟩
   have HD:=Lh (ϟ M J);clear M J cG;simp only[Bool.not_true];go_wp2;go_meet;exact⟨g,l,rfl,Lh ⟨aZ.o,HD.o.1,HD.o.2,cP.o⟩⟩
  obtain⟨g,l,rfl,hc⟩:=hcut;clear R cG;obtain⟨h6,M,J,dH⟩:=hc.o;have dV:=Lh h6;have dS:=Lh dH;have R:=aI.o wc h6;obtain⟨x0,x1⟩:=HI.o wc h6;obtain⟨v,C⟩:=Ϡ l p (by rw[J.1];omega);have r0:wc.cell? (π g p)=H (I v):=by rw[cell_of_row _ _ _ _ _ _ M];exact DC C
  have hT:Gs c f y x v:=⟨A.o.2.2.2.2.2,by rw[A.o.2.2.2.2.1];omega,by rw[A.o.2.2.2.2.1,show((p:Int)+1-1).toNat=p by omega];exact A.o.2.2.1,by rw[A.o.2.2.2.2.1,show((p:Int)+1-1).toNat=p by omega];exact J.2 p v C⟩;have c8:¬v<0:=λh=>hT.neg h bM.o;have d8:=θ (v<0);have fN:v<=100000:=by
   rcases J.2 p v C with ⟨h,_⟩|⟨h,hr⟩
   .omega
   have:=DJ (hs.wf A.o.2.1) (hs.snd A.o.2.1) hr;have:=fS y (Lm A.o.2.1);omega
  obtain⟨dL,hP⟩:=hT.ht hs bM.o;have cV:=Lh hP;have h9:=@Lh (x.op=9->0<=x.a/\x.a<c.q0.length) (λe=>hs.lim A.o.2.1 A.o.2.2.1 (by rw[e];rfl));have fL:0<=C7 c x/\C7 c x<=6:=by
   unfold C7;split
   .omega
   split
   .omega
   split
   .rename_i e _ e9
    have:=h9.o e9;cases hg:Dt c x.a with
    |none=>simp
    |some z=>have:=hs.fok (show c.q0[x.a.toNat]?=H z from hg);unfold CX at this;simp only[];omega
   omega
  have hw:IntKind.i64.wrap (v-C7 c x)=v-C7 c x:=by rw[IntKind.wrap_i64];omega
  have d9:((f.S:Int)==v-C7 c x)=ϑ:=by simp[dL]
  have eW:((f.S:Int) !=v-C7 c x)=ϝ:=by simp[dL]
  obtain⟨aL,xa⟩:=x;dsimp only at x0 x1;obtain⟨G,bC⟩:=ε (wc.alloc (χ #[I aL,I xa] 96));have bH:=bl1 bC;have u7:=Xao bC;obtain⟨xb,cI⟩:=ε (wc:Nat);rw[<-cI]at u7;clear J C M hT hc dH h6 hP;go_upto_region 27 with fail;rw[<-bC,<- cI];clear R x0 x1 bC cI;have bR:=Lh (dV.o.trans (AW.ob bH));have R:=aI.o G bR.o;have r0:=AB bH r0;have x0:G.cell? (π xb 0)=H (I aL):=ϵ u7 0;have x1:G.cell? (π xb 1)=H (I xa):=ϵ u7 1;have n3:G.cell? (π ib 3)=H (σ sa f.S sc):=R.1.2 3;have i0:G.cell? (π w 0)=H (σ fa c.H fc):=R.1.1.1 0;have i1:G.cell? (π w 1)=H (I c.G):=R.1.1.1 1;have i2:G.cell? (π w 2)=H (σ (H (π yb yo)) c.q0 gc):=R.1.1.1 2;have dT:=Lh (dS.o.imp λE h=>h.imp λcl h=>h.kp bH);have cM:=Lh (bA.o G (cU.o.trans (bB.o.trans bR.o)));have eB:B<=G.drew.heap.size:=Nt t cM.o.size;have dO:=@Lh (BF B G.drew (.agg #[σ fa c.H fc,I c.G,σ (H (π yb yo)) c.q0 gc]) c) (HC.o.below ((AG cM.o 1).mono t));have cX:=Lh u7;clear R bH u7;go_region_held3 (λV=>V.cell? (π g p)=H (I v)/\V.cell? (π ib 3)=H (σ sa f.S sc)/\V.cell? (π w 0)=H (σ fa c.H fc)/\V.cell? (π w 1)=H (I c.G)/\V.cell? (π w 2)=H (σ (H (π yb yo)) c.q0 gc)/\V.cell? (π xb 0)=H (I aL)/\V.cell? (π xb 1)=H (I xa))
   (first|exact⟨r0,n3,i0,i1,i2,x0,x1⟩|exact⟨AB aE r0,AB aE n3,AB aE i0,AB aE i1,AB aE i2,AB aE x0,AB aE x1⟩)
   (first|(go_at_call 145;refine(Oz c _ ⟨aL,xa⟩ B G.drew eB dO.o h9.o).mono ?_;rintro e W8⟨rfl,aE⟩))
  have bL:=Lh ((AG (Below.refl (G:Nat) G) 1).th aE);have cS:=Lh (bR.o.trans (AW.ob bL.o));have R:=aI.o W8 cS.o;have X:=ϵ ((bL.o.block xb (La cX.o)).trans cX.o);have cQ:=Lh (dT.o.imp λE h=>h.imp λcl h=>h.kp bL.o);have bT:=Lh (aM.o.trans ((AW.ob Y.o).trans (bB.o.trans cS.o)));clear aE hw r0 n3 i0 i1 i2 x0 x1;by_cases cl:k+1=r.length
  .have dP:=Lh cl
   have dl:=ζ (k:Int) ((r:Int)-1);clear cl;go_wp2_with fail;refine(asked_yes ⟨aL,xa⟩ ⟨fQ,fR,N,T,q⟩ W8 (by have:=cV.o;rw[if_pos dP.o]at this;exact this)).mono ?_;rintro e W9⟨rfl,bY⟩;have bS:=Lh (bT.o.trans (AW.ob bY));have bN:=Lh (cQ.o.imp λE h=>h.imp λcl h=>h.kp bY);clear bY;go_wp2_with fail;go_roundg(gk-1);exact⟨k+1,ω,by go_num,ω,bS,bN⟩;omega
  have dl:=ξ (k:Int) ((r:Int)-1);obtain⟨f2,cC⟩:=Ϡ r (k+1);have q0:=((cT.o (k+1) f2 cC).below ((bA.o W8 bT.o).mono t) aU).1;have hP:=cV.o;rw[if_neg cl]at hP;obtain⟨e9,g',dF,ea⟩:=hP;rw[cC]at dF;cases dF;have eI:(0:Int)<=(k:Int)+1:=ω;have eJ:(k:Int)+1<(r:Int):=ω;have eK:((k:Int)+1).toNat=k+1:=ω;have eQ:IntKind.i64.wrap ((k:Int)+1)=(k:Int)+1:=by rw[IntKind.wrap_i64];omega
  have eU:(aL !=9)=ϝ:=by simp[e9]
  have eV:(xa !=f2.fn)=ϝ:=by simp[ea]
  clear cC cl e9 ea;go_upto_region 32 with fail;go_quiet(fail);have bS:=Lh (bT.o.trans (AW.ob (AG Br nq)));have bN:=Lh (cQ.o.imp λE h=>h.imp λcl h=>h.kp (AG Br nq));clear eK eQ;go_wp2_with fail;go_roundg(gk-1);exact⟨k+1,ω,by go_num,ω,bS,bN⟩;omega
 obtain rfl:k=r.length:=ω;go_wp2;go_ret;exact⟨rfl,bA.o wr aM.o⟩
def Next_yes(c:AQ)(Q:ϒ)(m:AV)(fv:ϒ)(n:Int)(B:Nat)(w:Ϣ)(dK:C8 w)(cN:B<=w)(Y:BF B w Q c)(cM:AE B w 4 (CK B) fv m.J)(eD:Bv c)(dT:Ax c m)(dU:¬(m.Q.K=4\/m.Q.K=5))(dS:Bj m.Q n=ϑ) :
  ϙ prog 77 #[Q,AJ fv m,I n] w λe Q=>∃m' fv,ED c m n m'/\e=.returned (.tuple #[AJ fv m',I 0])/\CE w fv m' Q:=by
 have eB:=Lh Y;have dF:=Lh cM;have eF:=Lh dK;obtain⟨_,cg,rfl,cO,d,_⟩:=Y;obtain⟨eK,eL,rfl⟩:=cO.u1;have eN:=Lh d;obtain⟨eI,eJ,rfl⟩:=d.u1;obtain⟨dN,dO,rfl⟩:=cM.u1;let⟨g,⟨k,C,A,E,z⟩,M,L,N⟩:=m;have cW:=Lh dT;have cZ:=Lh dU;have eH:=Lh dS;dsimp only at dF;unfold AJ AC;dsimp only;let⟨S,a⟩:=ε (((w.alloc (χ (Bc eK eL eI eJ c) 25)).alloc (χ #[σ dN g dO,I k,I C,I A,I E,I z,I M,I L,I N] 59)).alloc (χ #[ν,I 0,I 0,I 0,I 0,I 0,I 0,I 0,I 0] 59));let⟨s,T,d,dB,dY⟩:=Λ5 (bl3 a) (sz3 a) (Xf2 a) (Xcs a) (Xbs a);let⟨l,G,J⟩:=Γ3 d.o;have:=ϵ dB.o;have:(w:Nat)+1<S:=by have:=T.o;omega
 have dJ:B<=S:=ω;have dH:=Lh (eB.o.below (s.o.mono cN));have dG:=Lh (dF.o.fras (s.o.mono cN));go_in;go_upto_region 1 with fail;rw[<-a];have:=Lh a;clear a;go_wp2_with fail;refine(Valid_yes c _ ⟨g,⟨k,C,A,E,z⟩,M,L,N⟩ _ B S (eF.o.below s.o) dJ dH.o dG.o eD cW.o).mono ?_;rintro e dL⟨rfl,d⟩;let⟨l,G,J⟩:=Δ3 d l G J;have dP:=Lh (s.o.th d);have cL:=Lh ((d.block _ (by have:=T.o;omega)).trans dY.o);have i:=Lh ((d.block _ (by have:=T.o;omega)).trans dB.o);have:=ϵ i.o;have:=(La i.o);have:=cZ.o;have:=ξ k 4;have:=ξ k 5;go_wp2_with fail;refine(Pk ⟨k,C,A,E,z⟩ n dL).mono ?_;rintro e dZ⟨rfl,d⟩;let⟨l,G,J⟩:=Δ3 d l G J;have W:=Lh (dP.o.th d);have cK:=Lh ((d.block _ (La cL.o)).trans cL.o);have F:=Lh ((d.block _ (La i.o)).trans i.o);have:=ϵ F.o;have:=(La F.o);rw[eH.o];have eC:=cW.o.sound;let⟨_,_,d⟩:=cW.o.waits (λe=>cZ.o (.inl e)) (λe=>cZ.o (.inr e));have eM:=Lh d;have dM:=Lh (d.small eC eD);have:g.length<=200:=cW.o.len;have dI:0<g.length:=by have:=congrArg List.length d.fr;simp at this;omega
 have dC:=Lh (dF.o.fras (W.o.mono cN));have cV:=Nt cN W.o.size;go_wp2_with fail;refine(OM ⟨g,⟨k,C,A,E,z⟩,M,L,N⟩ dN dO B dZ cV dC.o (by show g.length<=1000;omega) (λf d=>by have:=dM.o f d;omega) dI).mono ?_;rintro e dW⟨cP,cR,rfl,V,x,cU,h⟩;dsimp only at x;have s:=Lh x;have dR:=Lh cU;have x:=Lh (W.o.th h);have l:=Δ3 h l G J;have G:=Lh ((h.block _ (La cK.o)).trans cK.o);have i:=Lh ((h.block _ (La F.o)).trans F.o);have:=ϵ i.o;have:=ϴ i.o;have:=(La i.o);have:=(La cK.o);have d:=Lh (AZ (fv0:=σ dN g dO) (m0:=⟨g,⟨k,C,A,E,z⟩,M,L,N⟩) i.o (σ cP g cR) ⟨g,⟨k,C,A,E,z⟩,M,L,N⟩);let⟨_,b⟩:=ε (Ai dW (w+1) (σ cP g cR) ⟨g,⟨k,C,A,E,z⟩,M,L,N⟩);rw[<-b]at d;have h:(w:Nat)+1∉V:=λe=>by have:=cU _ e;omega
 have eG:=Lh (Ab.2 ⟨_,V,d.o.1,s.o.kp (λg a=>d.o.2.block g (s.o.lt g a) (λe=>h (by rw[List.mem_singleton]at e;exact e▸a))),rfl,h⟩);have cI:=Lh (x.o.trans (d.o.2.below (λg a=>by simp at a;omega) x.o.size));have cT:=Lh ((d.o.2.block _ (La G.o) ψ).trans G.o);have:=d.o.2.cell l.1 ψ;have:=d.o.2.cell l.2.1 ψ;have:=d.o.2.cell l.2.2 ψ;have dX:=Lh (eN.o.funs (cI.o.mono cN));have cS:Hid (∀j∈((w:Nat)+1)::V,(w:Nat)<=j):=Lh (λj a=>by
  rw[ϰ]at a;rcases a with rfl|a
  .omega
  have:=dR.o j a;omega)
 have dQ:=Lh (λd a=>Nt cN (cS.o d a));have dA:(w:Nat)+1+1∉((w:Nat)+1)::V:=λe=>by
  rw[ϰ]at e;rcases e with e|e
  .omega
  have:=dR.o _ e;omega
 have dD:=Lh dA;unfold Ai at b;dsimp only at b;unfold AJ AC;dsimp only;go_upto_region 8 with fail;rw[<-b];clear b;go_wp2_with fail;refine(Rc eC eD eK eI c.H.length eL eJ c.G n eM.o cW.o.nums eG.o B dQ.o dX.o eH.o).mono ?_;rintro e cX⟨rfl,b,_,eE,d,t⟩;let⟨_,eA,cJ,y,dE,_⟩:=Ab.1 d;obtain⟨q,r,rfl⟩:=y.u1;let⟨o,d⟩:=ε b.J.length;rw[<-d]at cJ y;clear d;have d:=Lh ((t.block _ (La cT.o) dD.o).trans cT.o);have:=ϵ d.o;have rf:=ϴ d.o;have:=ϵ (show cX.heap[(w:Nat)+1]?=H (χ #[σ q o r,I b.Q.K,I b.Q.O,I b.Q.D,I b.Q.V,I b.Q.X,I b.Y,I b.C,I b.I] 59 (0,0))from cJ);have P:=Lh (AZ (R:=(w:Nat)+1+1) (fv0:=ν) (m0:=AI) d.o (σ q o r) b);have h:=t.notin (La cT.o) dD.o;have i:=t.ge cS.o cI.o.size;have g:=cI.o.trans (t.below cS.o cI.o.size);have dV:Hid (CE w (σ q o r) b (Ai cX (w+1+1) (σ q o r) b)):=Lh ⟨eA,y.kp (λd a=>P.o.2.block d (y.lt d a) (λe=>h (by rw[List.mem_singleton]at e;rw[dE];exact List.mem_cons_of_mem _ (e▸a)))),λd a=>i d (by rw[dE];exact List.mem_cons_of_mem _ a),g.trans (P.o.2.below (λd a=>by simp at a;omega) g.size)⟩;have cY:=Lh eE;go_wp2;exact bodyPost_ret (v:=.tuple #[AJ (σ q o r) b,I 0]) (Bp (p:=6) (u:=7) rfl P.o.1 _ _ rfl rfl) rfl ⟨b,_,cY.o,rfl,dV.o⟩
def Xku(n:Int)(w:Ϣ) :
  ϙ prog 88 #[I n] w λe a=>e=.returned (.bool (Af n))/\w=a:=by
 go_in;go_wp2;all_goals (go_ret;exact⟨by unfold Af;congr 2;simp;omega,rfl⟩)
def Xdl:An 50:=λ_ _=>by kernel_rfl
def Xhg:An 52:=λ_ _=>by kernel_rfl
def Xhc(n:Int)(w:Ϣ) :
  ϙ prog 50 #[I n] w λe a=>e=.returned (.bool (!Af n))/\w=a:=by
 go_in;go_wp2_with(go_at_call 88;refine(Xku n _).mono ?_;rintro e b⟨rfl,rfl⟩);go_ret;exact⟨rfl,rfl⟩
def Xfg(w:Ϣ):∀(x:Int)(a:Ϣ)(b:ϒ),ϐ w w a->Ny 0 a b x->ϙ prog 50 (#[b]++#[]) a (λe b=>e=.returned (.bool (!Af x))/\ϐ a a b):=by
 rintro x c d _⟨rfl,_⟩;exact(Xhc x c).mono λe c ⟨a,b⟩=>⟨a,b▸Below.refl _ _⟩
def Xgv(c:AQ)(d:ϒ)(B:Nat)(w:Ϣ)(a:C8 w)(s:B<=w)(f:BF B w d c) :
  ϙ prog 25 #[d] w λe d=>e=.returned (.bool (DW c))/\ϐ w w d:=by
 have r:=Lh f;have q:=Lh a;obtain⟨_,_,rfl,j,m,-⟩:=f;obtain⟨_,_,rfl,-,-,-,-⟩:=j;obtain⟨_,_,rfl,_,_,_,-⟩:=m;clear a;go_in;go_wp2_with fail;refine(MQ c _ B _ (q.o.below (AA _ _)) φ (r.o.below ((AA _ _).mono s))).mono ?_;rintro e t⟨i,k,l,rfl,b,h⟩;have g:=As h;by_cases a:l=0
 .have n:=Lh (CZ (b.1 a))
  subst a;clear b;go_wp2;go_ret;exact⟨by rw[n.o];rfl,g⟩
 have o:=Lh (FA (λd=>a (b.2 d)));have p:=beq_eq_false_iff_ne.2 a;clear b;go_wp2;go_ret;exact⟨by rw[o.o];exact congrArg (λb=>Ending.returned (.bool b)) (by first|exact p|rfl),g⟩
def Xkf(c:AQ)(n:Gl)(q o:Option Addr)(p F P B:Nat)(w:Ϣ)(m:B<=w)(V:AE B w 1 Aj (σ o c.H F) c.H)(S:AE B w 1 Aj (σ q n.f p) n.f)(T:in64 n.type)
  (E:w.cell? (π P 0)=H (σ o c.H F)) :
  ϙ prog 52 #[.agg #[I n.type,σ q n.f p],.pointer (H (π P 0))] w λe s=>e=.returned (.bool (BS c n))/\ϐ w w s:=by
 let⟨t,f⟩:=n;dsimp only at *;let⟨C,a⟩:=ε (w.alloc (χ #[I t,σ q f p] 72));have l:=Lh (bl1 a);have s:=Lh (Xbq a);have A:=Γ2 s.o;have E:=AB l.o E;have aN:=Lh (V.ints (l.o.mono m));have aP:=Lh (S.ints (l.o.mono m));unfold in64 at T;have aO:=Nt m l.o.size;by_cases N:t<0
 .have:decide (t<0)=ϑ:=by simp[N]
  have G:=@Lh (BS c ⟨t,f⟩=ϑ) (by unfold BS;simp[N]);go_in;go_upto_region 1 with fail;rw[<-a];clear a;go_quiet(fail);go_wp2;go_ret;exact⟨by rw[G.o];rfl,AG l.o _⟩
 obtain⟨n,rfl⟩:∃n:Nat,t=n:=⟨t.toNat,ω⟩;have:=θ ((n:Int)<0);by_cases M:c.H.length<=n
 .have:decide (c.H.length<=n)=ϑ:=by simp[M]
  have:=η ((c.H:Int)<=(n:Int));have L:=@Lh (BS c ⟨n,f⟩=ϑ) (by unfold BS;simp[List.getElem?_eq_none M]);go_in;go_upto_region 1 with fail;rw[<-a];clear a;go_quiet(fail);go_wp2;go_ret;exact⟨by rw[L.o];rfl,AG l.o _⟩
 let⟨k,j⟩:=Ϡ c.H n;obtain⟨d,g,rfl,_,Q⟩:∃d g,o=H (π d g)/\d<B/\C.cell? (π d (g+n))=H (I k):=by
  let⟨u,v,x,_,_,_,h⟩:=aN.o;obtain⟨rfl,rfl⟩:o=u/\F=v:=by simpa using x
  rcases h with r|⟨d,g,rfl,z,h⟩
  .rw [r]at j;simp at j
  have:=(h n k j).1;rw[Nat.mul_one]at this;exact⟨d,g,rfl,z,this⟩
 have:=In n;have:(n:Int)<(c.H:Int):=ω;by_cases i:(f:Int)=k;rotate_left
 .have:((f:Int)==k)=ϝ:=by simp[i]
  have:((f:Int) !=k)=ϑ:=by simp[i]
  have J:=@Lh (BS c ⟨n,f⟩=ϑ) (by unfold BS;simp[j,i]);go_in;go_upto_region 1 with fail;rw[<-a];clear a;go_quiet(fail);go_wp2;go_ret;exact⟨by rw[J.o];rfl,AG l.o _⟩
 have:((f:Int) !=k)=ϝ:=by simp[i]
 have Y:=@Lh (BS c ⟨n,f⟩=f.any (λn=>!Af n)) (by unfold BS;rw[if_neg ψ];simp only[Int.toNat_natCast,j];rw[if_neg (by simp[i])]);have W:=@Lh (AE B C.drew 1 Aj (σ q f p) f) (aP.o.ints (AG Br 1));have R:B<=C.drew.heap.size:=aO;go_in;go_upto_region 1 with fail;rw[<-a];clear a;go_region_held3 (λb=>b.cell? (π w 0)=H (I (n:Int))/\b.cell? (π w 1)=H (σ q f p)/\b.cell? (π P 0)=H (σ (H (π d g)) c.H F)/\b.cell? (π d (g+n))=H (I k))
  (first|exact⟨A.1,A.2,E,Q⟩|exact⟨AB a A.1,AB a A.2,AB a E,AB a Q⟩)
  (first|(go_at_call 49;refine(BT 50 #[] (λn=>!Af n) f _ B C.drew Xdl R W.o (Xfg _)).mono ?_;rintro e aM⟨rfl,a⟩))
 have y:=Lh ((AG l.o 1).th a);go_wp2;go_ret;exact⟨by rw[Y.o];rfl,y.o⟩
def Xl1(c:AQ)(h:Option Addr)(g f B:Nat)(w:Ϣ)(j:B<=w)(p:AE B w 1 Aj (σ h c.H g) c.H)(o:w.cell? (π f 0)=H (σ h c.H g)) :
  ∀(x:Gl)(a:Ϣ)(d:ϒ),ϐ w w a->Wk B a d x->ϙ prog 52 (#[d]++#[.pointer (H (π f 0))]) a (λe d=>e=.returned (.bool (BS c x))/\ϐ a a d):=by
 rintro x m q b⟨_,rfl,i,n⟩;obtain⟨k,l,rfl⟩:=i.u1;exact Xkf c x k h l g f B m (Nt j b.size) (p.ints (b.mono j)) i n (AB b o)
def Xhk(c:AQ)(h:ϒ)(m:Mm)(g:ϒ)(B:Nat)(w:Ϣ)(i:B<=w)(z:BF B w h c)(J:Lw B w g m) :
  ϙ prog 26 #[h,g] w λe g=>e=.returned (.bool (Bb c m))/\ϐ w w g:=by
 obtain⟨_,cg,rfl,b,q,_⟩:=z;have Y:=Lh b;obtain⟨M,N,rfl⟩:=b.u1;obtain⟨F,G,rfl⟩:=q.u1;obtain⟨_,_,rfl,d,f⟩:=J;have V:=Lh d;have W:=Lh f;obtain⟨v,x,rfl⟩:=d.u1;obtain⟨t,u,rfl⟩:=f.u1;let⟨T,a⟩:=ε ((w.alloc (χ (Bc M N F G c) 25)).alloc (χ (Bm v x t u m) 28));have j:=Lh (bl2 a);have b:=Lh (Xdu a);have d:=Lh (Xek a);let⟨A,S⟩:=Γ2 b.o;let⟨Q,R⟩:=Γ2 d.o;have P:=Nt i j.o.size;by_cases C:(m.G:Int)=c.G;rotate_left
 .have:=τ (m.G:Int) c.G
  have E:=@Lh (Bb c m=ϝ) (by unfold Bb;simp[C]);go_in;go_upto_region 1 with fail;rw[<-a];clear a;go_wp2;go_ret;exact⟨by rw[E.o];rfl,j.o⟩
 have:=ρ (m.G:Int) c.G;have o:=@Lh (Bb c m=(decide (m.N.length<=4096)&&(!(m.G.any (λn=>!Af n)) && !(m.N.any (BS c))))) (by unfold Bb;simp only[C,decide_true,Bool.true_and]);go_in;go_upto_region 1 with fail;rw[<-a];clear a;go_wp2_with fail;refine(BT 50 #[] (λn=>!Af n) m.G _ B T Xdl P (V.o.ints (j.o.mono i)) (Xfg _)).mono ?_;rintro e y⟨rfl,b⟩;have A:=Δ4 b A S Q R;have a:=Lh (j.o.th b);cases l:m.G.any (λn=>!Af n)with
 |true=>have r:=@Lh (Bb c m=ϝ) (by rw[o.o,l];simp);go_wp2;go_ret;exact⟨by rw[r.o];rfl,a.o⟩
 |false=>
  by_cases k:m.N.length<=4096;rotate_left
  .have:=η ((4096:Int)<(m.N:Int))
   have s:=@Lh (Bb c m=ϝ) (by rw[o.o];simp[k]);go_wp2;go_ret;exact⟨by rw[s.o];rfl,a.o⟩
  have:=θ ((4096:Int)<(m.N:Int));have L:=@Lh (Bb c m=!(m.N.any (BS c))) (by rw[o.o,l];simp[k]);go_wp2_with fail;refine(Ii 52 #[.pointer (H (π w 0))] (BS c) m.N _ B y Xhg (Nt i a.o.size) (W.o.nods (a.o.mono i)) (Xl1 c M N _ B y (Nt i a.o.size) (Y.o.ints (a.o.mono i)) A.1)).mono ?_;rintro e d⟨rfl,b⟩;have p:=Lh (a.o.th b);go_wp2;go_ret;exact⟨by rw[L.o];rfl,p.o⟩
def Xf7:An 54:=λ_ _=>by kernel_rfl
def Xju(a d:ByteArray)(p l r c:ϒ)(b:Nat)(w:Ϣ)(g:b<w)(h:w.cell? (π b 0)=H (.string d)) :
  ϙ prog 54 #[.agg #[.string a,p,l,r,c],.pointer (H (π b 0))] w λe f=>e=.returned (.bool (CM a d))/\ϐ w w f:=by
 have:(w.alloc (χ #[.string a,p,l,r,c] 70)).cell? (π b 0)=H (.string d):=by rw[World.cell?_alloc_past _ _ _ g];exact h
 go_in;go_wp2;go_ret;exact⟨rfl,Br.alloc (Nr _) _⟩
def Xkk(c:ByteArray)(b:Nat)(B:Nat)(w:Ϣ)(h:b<w)(i:w.cell? (π b 0)=H (.string c)):∀(x:BK)(a:Ϣ)(d:ϒ),ϐ w w a->EI B a d x->ϙ prog 54 (#[d]++#[.pointer (H (π b 0))]) a (λe d=>e=.returned (.bool (CM x.name c))/\ϐ a a d):=by
 rintro x g j f⟨_,rfl,_⟩;exact Xju x.name c _ _ _ _ b g (by have:=f.size;omega) (by rw[f.cell (p:=(π b 0)) h];exact i)
def Xjq(c:AQ)(x:Bi)(w:Ϣ)(e:Ending)(w':Ϣ):Prop:=e=.returned (I (AS c x 0))/\ϐ w w w'
def Xc1{x:Bi}{w w':Ϣ}(b:AS c x 0=n)(a:ϐ w w w'):Xjq c x w (.returned (I n)) w':=⟨by rw[b],a⟩
def Xlc{x:Bi}(a:Dh c x.proc = -1):AS c x 0=9:=by
 unfold AS;rw[if_neg ω];cases c.q0[(Dh c x.proc).toNat]? with
 |none=>rfl
 |some y=>simp only[];rw[if_pos ω]
def Xmc{x:Bi}{k:Nat}{y:BK}(a:Dh c x.proc=k)(b:c.q0[k]?=H y):AS c x 0=if(x.args:Int)≠y.params then 3 else if x.args.any (λn=>!Af n)then 11 else 0:=by
 unfold AS;rw[if_neg ω,a];simp only[Int.toNat_natCast,b];rw[if_neg ω]
def Xgr(c:AQ)(l:ϒ)(x:Bi)(b:ϒ)(B:Nat)(w:Ϣ)(L:B<=w)(S:BF B w l c)(bB:Gh B w b x) :
  ϙ prog 28 #[l,b] w (Xjq c x w):=by
 obtain⟨_,_,rfl,A,t,_⟩:=S;obtain⟨Y,bA,rfl⟩:=A.u1;obtain⟨bF,bG,rfl⟩:=t.u1;obtain⟨_,rfl,s,_⟩:=bB;obtain⟨P,R,rfl⟩:=s.u1;let⟨A,a⟩:=ε ((w.alloc (χ (Bc Y bA bF bG c) 25)).alloc (χ #[.string x.proc,σ P x.args R] 64));have i:=Lh (bl2 a);have b:=Lh (Xdu a);have l:=Lh (Xek a);have o:=b.o 2 _ rfl;let⟨m,bK⟩:=Γ2 l.o;have bH:(w:Nat)+1<A:=Bl m;have p:=Nt L i.o.size;have v:=Lh (t.funs (i.o.mono L));have bI:=Lh (s.ints (i.o.mono L));have bD:=Lh m;go_in;go_upto_region 1 with fail;rw[<-a];clear a;go_wp2_with fail;refine(FQ 54 #[.pointer (H (π (w+1) 0))] (λf=>CM f.name x.proc) c.q0 _ B _ Xf7 p v.o (Xkk x.proc _ B _ bH bD.o)).mono ?_;rintro e l⟨rfl,b⟩;have o:=Δ3 b o m bK;have:=Bl o.2.1;have u:=Lh (i.o.th b);have bE:=Lh (v.o.funs (b.mono p));have bL:=Lh (bI.o.ints (b.mono p));rcases G1 (λf=>CM f.name x.proc) c.q0 with a|⟨k,W,a⟩
 .have J:=Lh (Xlc a)
  rw[a];go_wp2;go_ret;exact Xc1 J.o u.o
 let⟨y,d⟩:=Ϡ c.q0 k W;have E:=Lh (Xmc a d);rw[a];let⟨C,F,M,_,_,_,h⟩:=bE.o;obtain⟨rfl,rfl⟩:bF=C/\bG=F:=by simpa using M
 rcases h with z|⟨_,_,rfl,_,h⟩
 .rw [z]at d;simp at d
 have bJ:=(h k y d).2.1;have:=In k;have:(k:Int)<(c.q0:Int):=ω;have:=θ ((k:Int)<0);by_cases g:(x.args:Int)=y.params;rotate_left
 .have bC:=@Lh (AS c x 0=3) (by rw[E.o,if_pos g])
  have:((x.args:Int) !=y.params)=ϑ:=by simp[g]
  go_wp2_with fail;go_quiet(fail);have G:=Lh (AG u.o nq);go_wp2;go_ret;exact Xc1 bC.o G.o
 have N:=Lh g;have:((x.args:Int) !=y.params)=ϝ:=by simp[g]
 rw[<-g]at bJ;go_wp2_with fail;go_quiet(fail);have q:=Lh (AG u.o nq);have T:=Lh (bL.o.ints (AG Br nq));go_wp2_with fail;refine(BT 50 #[] (λn=>!Af n) x.args _ B _ Xdl (Nt L q.o.size) T.o (Xfg _)).mono ?_;rintro e b⟨rfl,a⟩;have r:=Lh (q.o.th a);cases j:x.args.any (λn=>!Af n)with
 |true=>have Q:=@Lh (AS c x 0=11) (by rw[E.o,if_neg (by rw[N.o];simp),if_pos j]);go_wp2;go_ret;exact Xc1 Q.o r.o
 |false=>have V:=@Lh (AS c x 0=0) (by rw[E.o,if_neg (by rw[N.o];simp),if_neg (by rw[j];simp)]);go_wp2;go_ret;exact Xc1 V.o r.o
