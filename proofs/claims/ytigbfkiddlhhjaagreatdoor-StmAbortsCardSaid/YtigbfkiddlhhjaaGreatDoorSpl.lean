import Derived.Test.YtigbfkiddlhhjaaGreatDoorSdt
import Derived.Test.YtigbfkiddlhhjaaGreatDoorThp
set_option linter.all false
open Option renaming some→ς
open Bool renaming false→ϝ,true→ϑ
open List renaming replicate→ϱ,mem_cons→ϰ
open Go.Value renaming slice→σ
open Go.Obj renaming cells→χ
namespace Go.Proofs.YtigbfkiddlhhjaaGreatDoor
open Go.RowKit
variable {α:Type} {c:AQ} {m:AV} {l:List (Int×Int)} {t u i:Nat} {f v k k' n n':Int} {x y:Trx} {vs ends:List (List Int)} {m':Mm} {e:List Int} {s s':Tra} {fr:Bool}
structure MacS (c:AQ) (m:AV):Prop where
 P:DQ c m\/(m.J=[]/\m.Q=Ah 21/\EB m)
 Y:m.Y<=1048576
 cmp:m.C+Co m<=1000000000000
def endsB (m:AV):Bool:=decide (m.Q.K=4) || decide (m.Q.K=5)
def MacS.nums (h:MacS c m):EB m:=by
 rcases h.P with h|h
 .exact h.1
 .exact h.2.2
def MacS.K (h:MacS c m):m.Q.K=1\/m.Q.K=2\/m.Q.K=3\/m.Q.K=4\/m.Q.K=5:=by
 rcases h.P with ⟨_,⟨e,_,h,_⟩|⟨v,_,h,_⟩|⟨b,f,a⟩⟩|⟨_,h,_⟩
 .rw [h];simp [Ah]
 .rw [h];simp [EE]
 .obtain ⟨_,x,_,_,_,_,ha,_⟩:=a.top
  have:=EW ha;omega
 .rw [h];simp [Ah]
def MacS.asks (h:MacS c m) (a:endsB m=ϝ):Cs m=ϑ:=by
 have:=h.K;simp [endsB] at a;unfold Cs;simp;omega
def MacS.run (h:MacS c m) (a:endsB m=ϝ):Iv c m:=by
 have d:=h.asks a;rcases h.P with b|⟨_,e,_⟩
 .exact Kn b d h.Y h.cmp
 .rw [show endsB m=ϑ by unfold endsB;rw [e];rfl] at a;cases a
def MacS.valid (hs:AU c) (h:MacS c m):Ax c m:=by
 cases j:endsB m with
 | false=>exact (h.run j).valid hs
 | true=>
  have b:=h.nums;have k:m.C<=1099511627776:=by have g:=b.Y;have a:=b.idle1;have d:=h.cmp;unfold Co at d;omega
  have i:m.J=[]/\DT m.Q=ϑ:=by
   rcases h.P with ⟨_,⟨e,g,a,d⟩|⟨v,l,a,d⟩|⟨o,f,n⟩⟩|⟨g,a,_⟩
   .refine ⟨d,?_⟩
    rw [a];rcases g with rfl|rfl|rfl|rfl|rfl|rfl<;>rfl
   .refine ⟨d,?_⟩
    rw [a];unfold DT EE;simp [Aq.2 l]
   .obtain ⟨_,x,_,_,_,_,ha,_⟩:=n.top
    have:=EW ha;simp [endsB] at j;omega
   .refine ⟨g,?_⟩
    rw [a];rfl
  exact ⟨hs,⟨b.Y,h.Y⟩,⟨b.cmp0,k⟩,⟨b.idle0,b.idle1⟩,by rw [i.1];simp,.inl i⟩
def verAt (s:Tra) (r:Int×Int):Int:=(s.vers.getD r.1.toNat []).getD r.2.toNat 0
def stale (s:Tra) (x:Trx):Bool:=x.reads.any λr=>decide (x.start<verAt s r)
def plcR (a f:Int):Rq:=⟨1,a,f,0,0⟩
def putS (k:Int) (p:Mm×List (List Int)) (w:Int×Int×Int):Mm×List (List Int):=(setM p.1 (plcR w.1 w.2.1) w.2.2,p.2.modify w.1.toNat (·.set w.2.1.toNat k))
def doneS (s:Tra) (x:Trx) (f:Int):Tra:=if f=0/\x.writes≠[] then { s with clock:=s.clock+1,M:=(x.writes.foldl (putS (s.clock+1)) (s.M,s.vers)).1,vers:=(x.writes.foldl (putS (s.clock+1)) (s.M,s.vers)).2 } else s
def commitT (s:Tra) (i:Nat) (x:Trx) (f v:Int):Tra:=
 { doneS s x f with order:=s.order++[((i:Int),((s.results.getD i []).length:Int))],results:=s.results.modify i (·++[⟨f,v,x.run.C,x.N,0⟩]),P:=s.P.modify i (·++[s.U]),A:=s.A.modify i List.tail,active:=s.active.set i zeroX }
def BegS (c:AQ) (s:Tra) (i:Nat) (x:Trx):Prop:=∃ cl l m,s.A[i]?=ς (cl::l)/\Cf c (CF c cl s.Y) m/\x=⟨m,s.clock,0,[],[]⟩
def CommitS (c:AQ) (s:Tra) (i:Nat) (x:Trx) (f v:Int) (s':Tra):Prop:=
 (stale s x=ϑ/\∃ y,BegS c s i y/\s'={ s with aborts:=s.aborts+1,active:=s.active.set i y })\/(stale s x=ϝ/\s'=commitT s i x f v)
def wrAt (r:Rq) (w:Int×Int×Int):Bool:=w.1 == r.O && w.2.1 == r.D
def accX (s:Tra) (x0:Trx) (r:Rq):Trx×Int:=
 let x:Trx:=if 0<r.O then { x0 with N:=x0.N+1 } else x0
 match x0.writes.findIdx? (wrAt r) with
 | some k=>if r.K=2 then ({ x with writes:=x0.writes.modify k (λw=>(w.1,w.2.1,r.V)) },0) else (x,((x0.writes[k]?).map (·.2.2)).getD 0)
 | none=>if r.K=2 then ({ x with writes:=x0.writes++[(r.O,r.D,r.V)] },0) else (if (r.O,r.D)∈x0.reads then x else { x with reads:=x0.reads++[(r.O,r.D)] },(Bd s.M r).getD r.D.toNat 0)
def newN (c:AQ) (s:Tra) (r:Rq):Tra:={ s with M:={ s.M with N:=s.M.N++[⟨r.D,ϱ (c.H.getD r.D.toNat 0).toNat 0⟩] },vers:=s.vers++[ϱ (c.H.getD r.D.toNat 0).toNat 0] }
def setX (s:Tra) (i:Nat) (x:Trx) (m:AV):Tra:={ s with active:=s.active.set i { x with run:=m } }
def DoS (c:AQ) (s:Tra) (i:Nat) (x:Trx) (s':Tra):Prop:=
 (x.run.Q.K=3/\s.M.N.length<4096/\∃ m',ED c x.run ((s.M.N:Int)+1) m'/\s'=setX (newN c s x.run.Q) i { x with N:=x.N+1 } m')\/
 (x.run.Q.K=3/\¬s.M.N.length<4096/\∃ m',ED c x.run 0 m'/\s'=setX s i x m')\/
 (x.run.Q.K≠3/\x.run.Q.D<((Bd s.M x.run.Q).length:Int)/\∃ m',ED c x.run (accX s x x.run.Q).2 m'/\s'=setX s i (accX s x x.run.Q).1 m')\/
 (x.run.Q.K≠3/\¬x.run.Q.D<((Bd s.M x.run.Q).length:Int)/\CommitS c s i x 11 0 s')
def tickS (s:Tra):Tra:={ s with U:=s.U+1 }
def startS (s:Tra) (i:Nat) (y:Trx):Tra:={ s with Z:=s.Z.modify i (·++[s.U]),active:=s.active.set i y }
def GoS (c:AQ) (s:Tra) (i:Nat) (x:Trx) (fresh:Bool) (s':Tra):Prop:=
 (endsB x.run=ϑ/\fresh=ϑ/\s'=s)\/(endsB x.run=ϑ/\fresh=ϝ/\CommitS c s i x x.run.Q.X x.run.Q.V s')\/(endsB x.run=ϝ/\DoS c s i x s')
def gw (c:AQ) (s:Tra) (i:Nat) (s':Tra):Prop:=∃ x s2,s.active[i]?=ς x/\s'=tickS s2/\
 ((x.run.Q.K=0/\∃ y,BegS c s i y/\GoS c (startS s i y) i y ϑ s2)\/(x.run.Q.K≠0/\GoS c s i x ϝ s2))
def PlaceOk (m:Mm) (a f:Int):Prop:=0<=a/\0<=f/\f<((Bd m (plcR a f)).length:Int)
structure TrxOk (c:AQ) (m:Mm) (clock step:Int) (x:Trx):Prop where
 mach:MacS c x.run
 start:0<=x.start/\x.start<=clock
 N:0<=x.N/\x.N<=step
 reads:x.reads.Nodup
 readsP:∀ r∈x.reads,PlaceOk m r.1 r.2
 writes:(x.writes.map λw=>(w.1,w.2.1)).Nodup
 writesP:∀ w∈x.writes,PlaceOk m w.1 w.2.1/\BP w.2.2
 count:(x.reads:Int)<=step/\(x.writes:Int)<=step
def timesB:List Int->List Int->Int->Int->Bool
 | [],_,_,_=>ϑ
 | b::bs,[],last,step=>decide (last<b) && (decide (b<step) && timesB bs [] b step)
 | b::bs,e::es,last,step=>decide (last<b) && (decide (b<step) && (decide (b<=e) && (decide (e<step) && timesB bs es e step)))
structure ThS (c:AQ) (m:Mm) (clock step:Int) (x:Trx) (l:List Bi) (r:List CD) (b e:List Int):Prop where
 act:(x=zeroX/\b.length=r.length)\/(TrxOk c m clock step x/\l≠[]/\b.length=r.length+1)
 right:∀ y∈l,AS c y 0=0
 P:e.length=r.length
 ops:l.length+r.length<=2000
 times:timesB b e (-1) step=ϑ
structure VersOk (m:Mm) (vers:List (List Int)) (clock:Int):Prop where
 len:vers.length=m.N.length+1
 zero:(vers.getD 0 []).length=m.G.length
 O:∀ (k:Nat) x,m.N[k]?=ς x->(vers.getD (k+1) []).length=x.f.length
 vals:∀ l∈vers,∀ v∈l,0<=v/\v<=clock
def lastOf (ends:List (List Int)) (l:List (Int×Int)):Int:=match l.getLast? with|none=>-1|some o=>(ends.getD o.1.toNat []).getD o.2.toNat 0
structure OrdOk (ends:List (List Int)) (order:List (Int×Int)):Prop where
 at_:∀ (k:Nat) o,order[k]?=ς o->0<=o.1/\o.1.toNat<ends.length/\o.2=(((order.take k).countP λp=>p.1 == o.1:Nat):Int)/\o.2.toNat<(ends.getD o.1.toNat []).length/\lastOf ends (order.take k)<(ends.getD o.1.toNat []).getD o.2.toNat 0
 all:∀ (t:Nat) e,ends[t]?=ς e->((order.countP λp=>p.1 == (t:Int):Nat):Int)=e.length
structure AtS (s:Tra) (t:Nat) (x:Trx) (l:List Bi) (r:List CD) (b e:List Int):Prop where
 x:s.active[t]?=ς x
 l:s.A[t]?=ς l
 r:s.results[t]?=ς r
 b:s.Z[t]?=ς b
 e:s.P[t]?=ς e
structure InvK (c:AQ) (s:Tra) (k:Int):Prop where
 sound:AU c
 M:Dp c s.M
 Y:0<=s.Y/\s.Y<=1048576
 clock:0<=s.clock/\s.clock<=k
 aborts:0<=s.aborts/\s.aborts<=k
 vers:VersOk s.M s.vers s.clock
 A:s.A.length=s.active.length
 results:s.results.length=s.active.length
 Z:s.Z.length=s.active.length
 P:s.P.length=s.active.length
 all:∀ (t:Nat) x l r b e,AtS s t x l r b e->ThS c s.M s.clock k x l r b e
 order:OrdOk s.P s.order
def InvS (c:AQ) (s:Tra):Prop:=InvK c s s.U
structure MidS (c:AQ) (s:Tra) (i:Nat) (x:Trx):Prop where
 inv:InvK c s (s.U+1)
 clock:s.clock<=s.U
 aborts:s.aborts<=s.U
 endsLt:∀ e∈s.P,∀ v∈e,v<s.U
 hx:s.active[i]?=ς x
 ok:TrxOk c s.M s.clock s.U x
def timesB_mono:∀ {b e:List Int} {last k k':Int},timesB b e last k=ϑ->k<=k'->timesB b e last k'=ϑ
 | [],_,_,_,_,_,_=>rfl
 | b::bs,[],last,k,k',h,hk=>by unfold timesB at h ⊢;simp only [Bool.and_eq_true,decide_eq_true_eq] at h ⊢;exact ⟨h.1,ω,timesB_mono h.2.2 hk⟩
 | b::bs,e::es,last,k,k',h,hk=>by unfold timesB at h ⊢;simp only [Bool.and_eq_true,decide_eq_true_eq] at h ⊢;exact ⟨h.1,ω,h.2.2.1,ω,timesB_mono h.2.2.2.2 hk⟩
def timesB_lt:∀ {b e:List Int} {last k:Int},timesB b e last k=ϑ->e.length<=b.length->∀ v∈e,v<k
 | [],[],_,_,_,_=>λv a=>by simp at a
 | [],e::es,_,_,_,hl=>by simp at hl
 | b::bs,[],_,_,_,_=>λv a=>by simp at a
 | b::bs,e::es,last,k,h,hl=>λv a=>by
  unfold timesB at h;simp only [Bool.and_eq_true,decide_eq_true_eq] at h;rcases ϰ.1 a with rfl|a
  .exact h.2.2.2.1
  .exact timesB_lt h.2.2.2.2 (by simpa using hl) v a
def timesB_begin:∀ {b e:List Int} {last k:Int},timesB b e last k=ϑ->b.length=e.length->last<k->timesB (b++[k]) e last (k+1)=ϑ
 | [],[],last,k,_,_,hk=>by simp [timesB,hk];omega
 | [],e::es,_,_,_,hl,_=>by simp at hl
 | b::bs,[],_,_,_,hl,_=>by simp at hl
 | b::bs,e::es,last,k,h,hl,hk=>by rw [List.cons_append];unfold timesB at h ⊢;simp only [Bool.and_eq_true,decide_eq_true_eq] at h ⊢;exact ⟨h.1,ω,h.2.2.1,ω,timesB_begin h.2.2.2.2 (by simpa using hl) h.2.2.2.1⟩
def timesB_end:∀ {b e:List Int} {last k:Int},timesB b e last (k+1)=ϑ->b.length=e.length+1->timesB b (e++[k]) last (k+1)=ϑ
 | [],_,_,_,_,hl=>by simp at hl
 | b::bs,[],last,k,h,hl=>by obtain rfl:bs=[]:=List.eq_nil_of_length_eq_zero (by simpa using hl);unfold timesB at h;simp only [Bool.and_eq_true,decide_eq_true_eq] at h;show timesB [b] [k] last (k+1)=ϑ;unfold timesB;simp only [Bool.and_eq_true,decide_eq_true_eq];exact ⟨h.1,h.2.1,ω,ω,rfl⟩
 | b::bs,e::es,last,k,h,hl=>by rw [List.cons_append];unfold timesB at h ⊢;simp only [Bool.and_eq_true,decide_eq_true_eq] at h ⊢;exact ⟨h.1,h.2.1,h.2.2.1,h.2.2.2.1,timesB_end h.2.2.2.2 (by simpa using hl)⟩
def mod_some {l:List α} {f:α->α} {x:α} (h:(l.modify t f)[u]?=ς x):∃ y,l[u]?=ς y/\x=if u=t then f y else y:=by
 rw [List.getElem?_modify] at h;cases a:l[u]? with
 | none=>rw [a] at h;simp at h
 | some y=>rw [a] at h;refine ⟨y,rfl,?_⟩;simp at h;rw [<-h];by_cases e:t=u<;>simp [e,eq_comm]
def setM_len (m:Mm) (q:Rq) (v a f:Int):(Bd (setM m q v) (plcR a f)).length=(Bd m (plcR a f)).length:=by
 unfold setM Bd plcR;by_cases b:0<q.O
 .rw [if_pos b]
  simp only [List.length_modify];split
  .rfl
  .split
   .rw [List.getElem?_modify]
    cases m.N[(a - 1).toNat]? with
    | none=>rfl
    | some y=>simp only [Option.map_some,Option.getD_some];split<;>simp [Nm]
   .rfl
 .rw [if_neg b]
  simp only;split
  .rfl
  .split
   .rfl
   .simp
def setM_nodes (m:Mm) (q:Rq) (v:Int):(setM m q v).N.length=m.N.length:=by
 unfold setM;split<;>simp
def setM_ok {m:Mm} (h:Dp c m) (q:Rq) (d:BP v):Dp c (setM m q v):=by
 unfold setM;split
 .refine ⟨h.gl,h.gv,by simpa using h.len,λx f=>?_⟩
  obtain ⟨i,e⟩:=List.mem_iff_getElem?.1 f;obtain ⟨y,g,rfl⟩:=mod_some e;have b:=h.N y (Lm g);split
  .refine ⟨b.1,by simpa [Nm] using b.2.1,λn a=>?_⟩
   rcases List.mem_or_eq_of_mem_set a with a|rfl
   .exact b.2.2 n a
   .exact d
  .exact b
 .refine ⟨by simpa using h.gl,λn a=>?_,h.len,h.N⟩
  rcases List.mem_or_eq_of_mem_set a with a|rfl
  .exact h.gv n a
  .exact d
def setM_node {m:Mm} {q:Rq} {k:Nat} {x:Gl} (h:(setM m q v).N[k]?=ς x):∃ y,m.N[k]?=ς y/\x.f.length=y.f.length:=by
 unfold setM at h;split at h
 .obtain ⟨y,hy,rfl⟩:=mod_some h
  refine ⟨y,hy,?_⟩;split<;>simp [Nm]
 .exact ⟨x,h,rfl⟩
def setM_glob (m:Mm) (q:Rq) (v:Int):(setM m q v).G.length=m.G.length:=by
 unfold setM;split<;>simp
def getD_mod (l:List (List Int)) (a k f:Nat) (v:Int):((l.modify a (·.set f v)).getD k []).length=(l.getD k []).length:=by
 rw [List.getD_eq_getElem?_getD,List.getD_eq_getElem?_getD,List.getElem?_modify];cases l[k]? with
 | none=>rfl
 | some y=>simp only [Option.map_some,Option.getD_some];split<;>simp
def VersOk.put {m:Mm} (h:VersOk m vs k) (e:0<=k) (w:Int×Int×Int):VersOk (putS k (m,vs) w).1 (putS k (m,vs) w).2 k:=by
 refine ⟨?_,?_,λj x f=>?_,λl a v b=>?_⟩
 .show (vs.modify _ _).length=(setM m _ _).N.length+1
  rw [List.length_modify,setM_nodes];exact h.len
 .show ((vs.modify _ _).getD 0 []).length=(setM m _ _).G.length
  rw [getD_mod,setM_glob];exact h.zero
 .obtain ⟨y,c,a⟩:=setM_node f
  show ((vs.modify _ _).getD (j+1) []).length=x.f.length;rw [getD_mod,a];exact h.O j y c
 .obtain ⟨i,hi⟩:=List.mem_iff_getElem?.1 a
  obtain ⟨y,c,rfl⟩:=mod_some hi;have d:=h.vals y (Lm c);split at b
  .rcases List.mem_or_eq_of_mem_set b with hm|rfl
   .exact d v hm
   .exact ⟨e,Int.le_refl _⟩
  .exact d v b
def fold_put (e:0<=k):∀ (b:List (Int×Int×Int)) (m:Mm) (vs:List (List Int)),Dp c m->VersOk m vs k->(∀ w∈b,BP w.2.2)->
  Dp c (b.foldl (putS k) (m,vs)).1/\VersOk (b.foldl (putS k) (m,vs)).1 (b.foldl (putS k) (m,vs)).2 k/\∀ a f,(Bd (b.foldl (putS k) (m,vs)).1 (plcR a f)).length=(Bd m (plcR a f)).length
 | [],m,vs,hm,hv,_=>⟨hm,hv,λ_ _=>rfl⟩
 | w::b,m,vs,hm,hv,hw=>by have d:=fold_put e b (putS k (m,vs) w).1 (putS k (m,vs) w).2 (setM_ok hm _ (hw w (List.mem_cons_self ..))) (hv.put e w) (λx g=>hw x (List.mem_cons_of_mem _ g));exact ⟨d.1,d.2.1,λa f=>(d.2.2 a f).trans (setM_len m _ _ a f)⟩
def TrxOk.mono {m:Mm} (h:TrxOk c m k n x) (b:∀ a f,PlaceOk m a f->PlaceOk m' a f) (g:k<=k') (i:n<=n'):TrxOk c m' k' n' x:=
 ⟨h.mach,⟨h.start.1,by have:=h.start.2;omega⟩,⟨h.N.1,by have:=h.N.2;omega⟩,h.reads,λr e=>b _ _ (h.readsP r e),h.writes,λw d=>⟨b _ _ (h.writesP w d).1,(h.writesP w d).2⟩,by have:=h.count;omega,by have:=h.count;omega⟩
def ThS.mono {m:Mm} {l:List Bi} {r:List CD} {b:List Int} (h:ThS c m k n x l r b e) (o:∀ a f,PlaceOk m a f->PlaceOk m' a f) (j:k<=k') (d:n<=n'):ThS c m' k' n' x l r b e:=
 ⟨h.act.imp id (λ⟨g,i⟩=>⟨g.mono o j d,i⟩),h.right,h.P,h.ops,timesB_mono h.times d⟩
def VersOk.mono {m:Mm} (h:VersOk m vs k) (c:k<=k'):VersOk m vs k':=⟨h.len,h.zero,h.O,λl a v b=>by have:=h.vals l a v b;omega⟩
def InvK.mono (h:InvK c s k) (d:k<=k'):InvK c s k':=
 ⟨h.sound,h.M,h.Y,⟨h.clock.1,by have:=h.clock.2;omega⟩,⟨h.aborts.1,by have:=h.aborts.2;omega⟩,h.vers,h.A,h.results,h.Z,h.P,λt x l r b e a=>(h.all t x l r b e a).mono (λ_ _ f=>f) (Int.le_refl _) d,h.order⟩
def given_fuelS {x:Bi} (a:0<=k/\k<=1048576) (h:AS c x 0=0):AS c x k=0:=by
 unfold AS at h ⊢;rw [if_neg ω] at h ⊢;exact h
def begin_ok (h:InvK c s k) (f:BegS c s i y) (o:0<=n):TrxOk c s.M s.clock n y:=by
 obtain ⟨t,l,m,j,g,rfl⟩:=f;obtain ⟨x,p⟩:∃ x,s.active[i]?=ς x:=⟨_,Lg (by rw [<-h.A];exact (Ll j))⟩
 have a:=(Ll p)
 obtain ⟨r,q⟩:∃ x,s.results[i]?=ς x:=⟨_,Lg (by rw [h.results];exact a)⟩
 obtain ⟨b,f⟩:∃ x,s.Z[i]?=ς x:=⟨_,Lg (by rw [h.Z];exact a)⟩
 obtain ⟨e,v⟩:∃ x,s.P[i]?=ς x:=⟨_,Lg (by rw [h.P];exact a)⟩
 have u:=h.all i x _ r b e ⟨p,j,q,f,v⟩;have z:=given_fuelS h.Y (u.right t (List.mem_cons_self ..));have d:=Jn h.sound z g;exact ⟨⟨.inl d.1,d.2.1,d.2.2⟩,⟨h.clock.1,Int.le_refl _⟩,⟨Int.le_refl _,o⟩,List.nodup_nil,λr g=>by simp at g,ψ,λw A=>by simp at A,by simpa using o⟩
def InvK.row (h:InvK c s k) (d:s.active[i]?=ς x):∃ l r b e,AtS s i x l r b e:=by
 have a:=(Ll d)
 exact ⟨_,_,_,_,d,Lg (by rw [h.A];exact a),Lg (by rw [h.results];exact a),Lg (by rw [h.Z];exact a),Lg (by rw [h.P];exact a)⟩
def InvS.endsLt (h:InvS c s):∀ e∈s.P,∀ v∈e,v<s.U:=λe k v m=>by
 obtain ⟨t,f⟩:=List.mem_iff_getElem?.1 k;have g:=(Ll f)
 obtain ⟨x,n⟩:∃ x,s.active[t]?=ς x:=⟨_,Lg (by rw [<-h.P];exact g)⟩
 obtain ⟨l,r,b,i,d⟩:=h.row n;obtain rfl:i=e:=by simpa using d.e.symm.trans f
 have a:=h.all _ _ _ _ _ _ d;refine timesB_lt a.times ?_ v m;rw [a.P];rcases a.act with ⟨_,j⟩|⟨_,_,j⟩<;>omega
def zeroX_kind:zeroX.run.Q.K=0:=rfl
def mac_ne (h:MacS c m):m.Q.K≠0:=by have:=h.K;omega
def InvS.goes (h:InvS c s) (a:s.active[i]?=ς x) (f:x.run.Q.K≠0):MidS c s i x:=by
 obtain ⟨l,r,b,e,d⟩:=h.row a;rcases (h.all _ _ _ _ _ _ d).act with ⟨rfl,_⟩|⟨g,_⟩
 .exact absurd zeroX_kind f
 .exact ⟨InvK.mono h ω,h.clock.2,h.aborts.2,h.endsLt,a,g⟩
def set_some {l:List α} {x y:α} (h:(l.set t y)[u]?=ς x):(u=t/\x=y)\/(u≠t/\l[u]?=ς x):=by
 rcases get_set h with ⟨a,b,_⟩|h
 .exact .inl ⟨a,b⟩
 .exact .inr h
def InvS.begins_ (h:InvS c s) (u:s.active[i]?=ς x) (I:x.run.Q.K=0) (q:BegS c s i y):MidS c (startS s i y) i y:=by
 have G:0<=s.U:=Int.le_trans h.clock.1 h.clock.2;have p:TrxOk c s.M s.clock s.U y:=begin_ok h q G;have C:=(Ll u)
 obtain ⟨F,K,m,B,_,_⟩:=q;refine ⟨⟨h.sound,h.M,h.Y,⟨h.clock.1,by have:=h.clock.2;show s.clock<=s.U+1;omega⟩,⟨h.aborts.1,by have:=h.aborts.2;show s.aborts<=s.U+1;omega⟩,h.vers,by simpa [startS] using h.A,by simpa [startS] using h.results,by simpa [startS] using h.Z,by simpa [startS] using h.P,λt v l r b e H=>?_,h.order⟩,h.clock.2,h.aborts.2,h.endsLt,List.getElem?_set_self C,p⟩;obtain ⟨w,a,j,z,k⟩:=H;obtain ⟨d,n,rfl⟩:=mod_some (show (s.Z.modify i (·++[s.U]))[t]?=ς b from z);have A:(s.active.set i y)[t]?=ς v:=w;rcases set_some A with ⟨rfl,rfl⟩|⟨D,E⟩
 .have hT:=h.all t x l r d e ⟨u,a,j,n,k⟩
  rw [if_pos rfl];have o:d.length=r.length:=by
   rcases hT.act with ⟨_,f⟩|⟨f,_⟩
   .exact f
   .exact absurd I (mac_ne f.mach)
  have J:l=F::K:=by simpa using a.symm.trans B
  refine ⟨.inr ⟨p.mono (λ_ _ g=>g) (Int.le_refl _) (by show s.U<=s.U+1;omega),by rw [J];simp,by simp [o]⟩,hT.right,hT.P,hT.ops,timesB_begin hT.times (by rw [o,hT.P]) ω⟩
 .rw [if_neg D]
  exact (h.all t v l r d e ⟨E,a,j,n,k⟩).mono (λ_ _ g=>g) (Int.le_refl _) (by show s.U<=s.U+1;omega)
def InvK.tick (h:InvK c s (s.U+1)):InvS c (tickS s):=⟨h.sound,h.M,h.Y,h.clock,h.aborts,h.vers,h.A,h.results,h.Z,h.P,λt x l r b e a=>h.all t x l r b e ⟨a.x,a.l,a.r,a.b,a.e⟩,h.order⟩
def InvK.setA (h:InvK c s k) (J:s.active[i]?=ς x) (F:x.run.Q.K≠0) (K:TrxOk c s'.M s'.clock k y) (G:Dp c s'.M) (I:VersOk s'.M s'.vers s'.clock) (d:s.clock<=s'.clock/\s'.clock<=k) (q:0<=s'.aborts/\s'.aborts<=k)
  (H:∀ a f,PlaceOk s.M a f->PlaceOk s'.M a f) (g:s'.active=s.active.set i y) (v:s'.A=s.A) (w:s'.results=s.results) (z:s'.Z=s.Z) (p:s'.P=s.P) (B:s'.order=s.order) (C:s'.Y=s.Y):InvK c s' k:=by
 refine ⟨h.sound,G,by rw [C];exact h.Y,⟨Int.le_trans h.clock.1 d.1,d.2⟩,q,I,by rw [g,v];simpa using h.A,by rw [g,w];simpa using h.results,by rw [g,z];simpa using h.Z,by rw [g,p];simpa using h.P,λt L l r b e E=>?_,by rw [p,B];exact h.order⟩;obtain ⟨u,j,m,n,o⟩:=E;rw [g] at u;rw [v] at j;rw [w] at m;rw [z] at n;rw [p] at o;rcases set_some u with ⟨rfl,rfl⟩|⟨M,A⟩
 .have hT:=h.all t x l r b e ⟨J,j,m,n,o⟩
  rcases hT.act with ⟨rfl,_⟩|⟨_,D⟩
  .exact absurd zeroX_kind F
  .exact ⟨.inr ⟨K,D⟩,hT.right,hT.P,hT.ops,hT.times⟩
 .exact (h.all t L l r b e ⟨A,j,m,n,o⟩).mono H d.1 (Int.le_refl _)
def MidS.setA (h:MidS c s i x) (r:TrxOk c s'.M s'.clock (s.U+1) y) (o:Dp c s'.M) (q:VersOk s'.M s'.vers s'.clock) (d:s.clock<=s'.clock/\s'.clock<=s.U+1) (b:0<=s'.aborts/\s'.aborts<=s.U+1)
  (p:∀ a f,PlaceOk s.M a f->PlaceOk s'.M a f) (e:s'.active=s.active.set i y) (g:s'.A=s.A) (j:s'.results=s.results) (k:s'.Z=s.Z) (l:s'.P=s.P) (m:s'.order=s.order) (n:s'.Y=s.Y):InvK c s' (s.U+1):=
 h.inv.setA h.hx (mac_ne h.ok.mach) r o q d b p e g j k l m n
def MidS.stale (h:MidS c s i x) (a:BegS c s i y):InvK c { s with aborts:=s.aborts+1,active:=s.active.set i y } (s.U+1):=by
 have e:0<=s.U:=Int.le_trans h.inv.clock.1 h.clock;have b:TrxOk c s.M s.clock (s.U+1) y:=begin_ok h.inv a ω;exact h.setA b h.inv.M h.inv.vers ⟨Int.le_refl _,h.inv.clock.2⟩ ⟨by have:=h.inv.aborts.1;show 0<=s.aborts+1;omega,by have:=h.aborts;show s.aborts+1<=s.U+1;omega⟩ (λ_ _ d=>d) rfl rfl rfl rfl rfl rfl rfl
structure DoneOk (c:AQ) (s D:Tra):Prop where
 M:Dp c D.M
 vers:VersOk D.M D.vers D.clock
 clock:s.clock<=D.clock/\D.clock<=s.clock+1
 place:∀ a f,PlaceOk s.M a f->PlaceOk D.M a f
 A:D.A=s.A
 results:D.results=s.results
 Z:D.Z=s.Z
 P:D.P=s.P
 order:D.order=s.order
 Y:D.Y=s.Y
 aborts:D.aborts=s.aborts
 U:D.U=s.U
 active:D.active=s.active
def done_ok (d:Dp c s.M) (e:VersOk s.M s.vers s.clock) (h:0<=s.clock) (g:∀ w∈x.writes,BP w.2.2) (f:Int):DoneOk c s (doneS s x f):=by
 unfold doneS;split
 .have hF:=fold_put (c:=c) (k:=s.clock+1) ω x.writes s.M s.vers d (e.mono ω) g
  exact ⟨hF.1,hF.2.1,⟨by show s.clock<=s.clock+1;omega,Int.le_refl _⟩,λa f b=>⟨b.1,b.2.1,by rw [hF.2.2];exact b.2.2⟩,rfl,rfl,rfl,rfl,rfl,rfl,rfl,rfl,rfl⟩
 .exact ⟨d,e,⟨Int.le_refl _,ω⟩,λ_ _ b=>b,rfl,rfl,rfl,rfl,rfl,rfl,rfl,rfl,rfl⟩
def getD_at {l:List α} {x d:α} (h:l[i]?=ς x):l.getD i d=x:=by rw [List.getD_eq_getElem?_getD,h];rfl
def getD_app {j:Nat} (h:j<(ends.getD t []).length):((ends.modify i (·++[v])).getD t []).getD j 0=(ends.getD t []).getD j 0/\j<((ends.modify i (·++[v])).getD t []).length:=by
 rw [List.getD_eq_getElem?_getD (l:=ends)] at h ⊢;rw [List.getD_eq_getElem?_getD (l:=ends.modify _ _),List.getElem?_modify];cases b:ends[t]? with
 | none=>rw [b] at h;simp at h
 | some y=>
  rw [b] at h;simp only [Option.getD_some] at h;show ((if i=t then y++[v] else y).getD j 0)=y.getD j 0/\j<(if i=t then y++[v] else y).length;by_cases a:i=t
  .rw [if_pos a]
   refine ⟨?_,?_⟩
   .show (y++[v]).getD j 0=y.getD j 0
    rw [List.getD_eq_getElem?_getD,List.getD_eq_getElem?_getD,Al h]
   .show j<(y++[v]).length
    rw [List.length_append];omega
  .rw [if_neg a]
   exact ⟨rfl,h⟩
def lastOf_app (h:∀ o∈l,o.2.toNat<(ends.getD o.1.toNat []).length):lastOf (ends.modify i (·++[v])) l=lastOf ends l:=by
 unfold lastOf;cases a:l.getLast? with
 | none=>rfl
 | some o=>exact (getD_app (h o (List.mem_of_getLast? a))).1
def lastOf_lt (h:∀ o∈l,o.2.toNat<(ends.getD o.1.toNat []).length) (d:-1<k) (c:∀ e∈ends,∀ v∈e,v<k):lastOf ends l<k:=by
 unfold lastOf;cases f:l.getLast? with
 | none=>exact d
 | some o=>
  have a:=h o (List.mem_of_getLast? f);simp only;rw [List.getD_eq_getElem?_getD (l:=ends)] at a ⊢;cases b:ends[o.1.toNat]? with
  | none=>rw [b] at a;simp at a
  | some y=>rw [b] at a;simp only [Option.getD_some] at a ⊢;rw [List.getD_eq_getElem?_getD,Lg a];exact c y (Lm b) _ (List.getElem_mem a)
def OrdOk.M (h:OrdOk ends l):∀ o∈l,o.2.toNat<(ends.getD o.1.toNat []).length:=λo b=>by
 obtain ⟨k,a⟩:=List.mem_iff_getElem?.1 b;exact (h.at_ k o a).2.2.2.1
def OrdOk.add (h:OrdOk ends l) (c:ends[i]?=ς e) (r:0<=k) (d:∀ e∈ends,∀ v∈e,v<k):OrdOk (ends.modify i (·++[k])) (l++[((i:Int),(e:Int))]):=by
 have f:=h.M;refine ⟨λj o b=>?_,λt q n=>?_⟩
 .by_cases hj:j<l.length
  .rw [Al hj] at b
   have a:=h.at_ j o b;have g:=getD_app (i:=i) (v:=k) a.2.2.2.1;rw [List.take_append_of_le_length ω,lastOf_app (λo b=>f o (List.mem_of_mem_take b)),g.1];exact ⟨a.1,by simpa using a.2.1,a.2.2.1,g.2,a.2.2.2.2⟩
  .have aB:j=l.length:=by
    have:=(Ll b)
    simp at this;omega
   subst aB;rw [Ar (Nr _),Nat.sub_self] at b;obtain rfl:((i:Int),(e:Int))=o:=by simpa using b
   have p:(ends.modify i (·++[k])).getD i []=e++[k]:=by rw [List.getD_eq_getElem?_getD,List.getElem?_modify,c];simp
   simp only [Int.toNat_natCast];rw [List.take_left' rfl,lastOf_app f,p];refine ⟨ω,by simpa using (Ll c),(h.all i e c).symm,ψ,?_⟩;rw [List.getD_eq_getElem?_getD,Ar (Nr _),Nat.sub_self];show lastOf ends l<k;exact lastOf_lt f ω d
 .obtain ⟨y,hy,rfl⟩:=mod_some n
  have a:=h.all t y hy;rw [List.countP_append,List.countP_singleton];by_cases m:t=i
  .subst m
   simp only [if_true,beq_self_eq_true,List.length_append,List.length_singleton];omega
  .rw [if_neg m,if_neg φ]
   simpa using a
def MidS.done (h:MidS c s i x) (f v:Int):InvK c (commitT s i x f v) (s.U+1):=by
 have C:0<=s.U:=Int.le_trans h.inv.clock.1 h.clock;have a:=done_ok h.inv.M h.inv.vers h.inv.clock.1 (λw G=>(h.ok.writesP w G).2) f;obtain ⟨P,I,K,L,d⟩:=h.inv.row h.hx;have A:=h.inv.all _ _ _ _ _ _ d;obtain ⟨D,z⟩:=ε (doneS s x f);unfold commitT;rw [<-z] at a ⊢;refine ⟨h.inv.sound,a.M,by show 0<=D.Y/\_;rw [a.Y];exact h.inv.Y,⟨by have:=a.clock.1;have:=h.inv.clock.1;show 0<=D.clock;omega,by have:=a.clock.2;have:=h.clock;show D.clock<=s.U+1;omega⟩,by show 0<=D.aborts/\_;rw [a.aborts];exact h.inv.aborts,a.vers,
  by simpa using h.inv.A,by simpa using h.inv.results,by show D.Z.length=_;rw [a.Z];simpa using h.inv.Z,by simpa using h.inv.P,λt u l r b e E=>?_,?_⟩
 .obtain ⟨a1,a2,a3,a4,a5⟩:=E
  obtain ⟨j,n,rfl⟩:=mod_some (show (s.A.modify i List.tail)[t]?=ς l from a2);obtain ⟨q,o,rfl⟩:=mod_some (show (s.results.modify i (·++[⟨f,v,x.run.C,x.N,0⟩]))[t]?=ς r from a3);obtain ⟨p,m,rfl⟩:=mod_some (show (s.P.modify i (·++[s.U]))[t]?=ς e from a5);have k:s.Z[t]?=ς b:=by rw [<-a.Z];exact a4
  rcases set_some (show (s.active.set i zeroX)[t]?=ς u from a1) with ⟨rfl,rfl⟩|⟨g,B⟩
  .have hT:=h.inv.all t x j q b p ⟨h.hx,n,o,k,m⟩
   simp only [if_true];rcases hT.act with ⟨rfl,_⟩|⟨_,F,O⟩
   .exact absurd zeroX_kind (mac_ne h.ok.mach)
   have J:0<j.length:=List.length_pos_iff.2 F;have M:=hT.ops;have N:=hT.P;exact ⟨.inl ⟨rfl,by simp;omega⟩,λy H=>hT.right y (List.mem_of_mem_tail H),by simp;omega,by simp;omega,timesB_end hT.times ω⟩
  .rw [if_neg g,if_neg g,if_neg g]
   exact (h.inv.all t u j q b p ⟨B,n,o,k,m⟩).mono a.place a.clock.1 (Int.le_refl _)
 .have aI:s.results.getD i []=I:=getD_at d.r
  show OrdOk (s.P.modify i (·++[s.U])) (s.order++[((i:Int),((s.results.getD i []).length:Int))]);rw [aI,<- A.P];exact h.inv.order.add d.e C h.endsLt
def MidS.commit (h:MidS c s i x) (b:CommitS c s i x f v s'):InvK c s' (s.U+1)/\s'.U=s.U:=by
 rcases b with ⟨_,y,a,rfl⟩|⟨_,rfl⟩
 .exact ⟨h.stale a,rfl⟩
 .refine ⟨h.done f v,?_⟩
  exact (done_ok h.inv.M h.inv.vers h.inv.clock.1 (λw d=>(h.ok.writesP w d).2) f).U
def listOf_new (m:Mm) (x:Gl) (a f:Int) (h:PlaceOk m a f):PlaceOk { m with N:=m.N++[x] } a f:=by
 refine ⟨h.1,h.2.1,?_⟩;have b:=h.2.2;unfold Bd plcR at b ⊢;dsimp only at b ⊢;split at b
 .simp at b;have:=h.2.1;omega
 .rename_i hl
  rw [if_neg (by rw [List.length_append];simp;omega)];split at b
  .rename_i hp
   rw [if_pos hp,Al ω];exact b
  .rename_i hp
   rw [if_neg hp];exact b
def newN_ok (d:Dp c s.M) (a:VersOk s.M s.vers s.clock) (i:0<=s.clock) {r:Rq} (g:Fy c r) (m:r.K=3) (hl:s.M.N.length<4096):Dp c (newN c s r).M/\VersOk (newN c s r).M (newN c s r).vers s.clock:=by
 obtain ⟨n,f,p,o⟩:=g.alloc m;have j:(c.H.getD r.D.toNat 0).toNat=n.toNat:=by rw [getD_at f]
 unfold newN;rw [j];refine ⟨⟨d.gl,d.gv,by simp;omega,λx b=>?_⟩,⟨by simp [a.len],?_,λk x b=>?_,λl hl v e=>?_⟩⟩
 .rcases List.mem_append.1 b with b|b
  .exact d.N x b
  .obtain rfl:x=_:=by simpa using b
   refine ⟨g.D,by rw [f];simp;omega,λv a=>?_⟩;rw [(List.mem_replicate.1 a).2];unfold BP;omega
 .rw [List.getD_eq_getElem?_getD,Al (by rw [a.len];omega),<- List.getD_eq_getElem?_getD]
  exact a.zero
 .have aA:(s.M.N++[⟨r.D,ϱ n.toNat 0⟩])[k]?=ς x:=b
  by_cases h:k<s.M.N.length
  .rw [Al h] at aA
   rw [List.getD_eq_getElem?_getD,Al (by rw [a.len];omega),<- List.getD_eq_getElem?_getD];exact a.O k x aA
  .have aC:k=s.M.N.length:=by
    have:=(Ll aA)
    simp at this;omega
   subst aC;rw [Ar (Nr _),Nat.sub_self] at aA;obtain rfl:(⟨r.D,ϱ n.toNat 0⟩:Gl)=x:=by simpa using aA
   rw [List.getD_eq_getElem?_getD,Ar (by rw [a.len];omega),a.len,Nat.sub_self];rfl
 .rcases List.mem_append.1 hl with hl|hl
  .exact a.vals l hl v e
  .obtain rfl:l=_:=by simpa using hl
   rw [(List.mem_replicate.1 e).2];exact ⟨Int.le_refl _,i⟩
def key_mod (l:List (Int×Int×Int)) (k:Nat) (v:Int):(l.modify k (λw=>(w.1,w.2.1,v))).map (λw=>(w.1,w.2.1))=l.map λw=>(w.1,w.2.1):=by
 apply List.ext_getElem?;intro j;rw [List.getElem?_map,List.getElem?_map,List.getElem?_modify];cases l[j]? with
 | none=>rfl
 | some y=>simp only [Option.map_some,Option.map_eq_map];split<;>rfl
def acc_ok (M:Dp c s.M) (h:TrxOk c s.M s.clock n x) (f:Fy c x.run.Q) (U:x.run.Q.K≠3) (hl:x.run.Q.D<((Bd s.M x.run.Q).length:Int)) (K:MacS c m) :
  TrxOk c s.M s.clock (n+1) { (accX s x x.run.Q).1 with run:=m }/\Bj x.run.Q (accX s x x.run.Q).2=ϑ:=by
 obtain ⟨r,Q⟩:=ε x.run.Q;rw [<-Q] at f U hl ⊢;have L:PlaceOk s.M r.O r.D:=⟨f.O,f.D,hl⟩
 have A:∀ (C:List (Int×Int×Int)) (B:List (Int×Int)),(C.map λw=>(w.1,w.2.1)).Nodup->(∀ w∈C,PlaceOk s.M w.1 w.2.1/\BP w.2.2)->B.Nodup->(∀ p∈B,PlaceOk s.M p.1 p.2)->(B:Int)<=n+1->(C:Int)<=n+1->
   TrxOk c s.M s.clock (n+1) { (if 0<r.O then { x with N:=x.N+1 } else x) with run:=m,writes:=C,reads:=B }:=λC B o q G H I J=>by
  have S:=h.N;split
  .exact ⟨K,h.start,⟨by show 0<=x.N+1;omega,by show x.N+1<=n+1;omega⟩,G,H,o,q,I,J⟩
  .exact ⟨K,h.start,⟨S.1,by show x.N<=n+1;omega⟩,G,H,o,q,I,J⟩
 have W:=h.count.1;have X:=h.count.2;have R:∀ (b:Bool) (y:Trx),y=(if 0<r.O then { x with N:=x.N+1 } else x)->y.writes=x.writes/\y.reads=x.reads:=λ_ y e=>by subst e;split<;>exact ⟨rfl,rfl⟩
 have t:=A x.writes x.reads h.writes h.writesP h.reads h.readsP ω ω;obtain ⟨y,O⟩:=ε (if 0<r.O then { x with N:=x.N+1 } else x:Trx);have i:=R ϑ y O;unfold accX;simp only;rw [<-O] at A t ⊢;cases D:x.writes.findIdx? (wrAt r) with
 | some k=>
  rw [List.findIdx?_eq_some_iff_getElem] at D;obtain ⟨l,Y,_⟩:=D;simp only;split
  .rename_i q
   refine ⟨?_,by unfold Bj;rw [if_neg ω,if_neg ω]⟩;have:=A (x.writes.modify k λw=>(w.1,w.2.1,r.V)) x.reads (by rw [key_mod];exact h.writes) (λw d=>by
    obtain ⟨j,T⟩:=List.mem_iff_getElem?.1 d;obtain ⟨z,V,rfl⟩:=mod_some T;have:=h.writesP z (Lm V);split
    .exact ⟨this.1,f.V⟩
    .exact this) h.reads h.readsP ω (by rw [List.length_modify];omega)
   rw [<-i.2] at this;exact this
  .rename_i q
   have d:=h.writesP _ (List.getElem_mem l);refine ⟨?_,?_⟩
   .rw [<-i.1,<- i.2] at t
    exact t
   .rw [Lg l]
    unfold Bj;have o:r.K=1:=by have:=f.K;omega
    rw [if_pos o];exact Aq.2 d.2
 | none=>
  rw [List.findIdx?_eq_none_iff] at D;simp only;split
  .rename_i q
   refine ⟨?_,by unfold Bj;rw [if_neg ω,if_neg ω]⟩;have:=A (x.writes++[(r.O,r.D,r.V)]) x.reads (by
    rw [List.map_append,List.nodup_append];refine ⟨h.writes,ψ,λa E b F e=>?_⟩;obtain ⟨w,d,rfl⟩:=List.mem_map.1 E;obtain rfl:b=(r.O,r.D):=by simpa using F
    have:=D w d;unfold wrAt at this;rw [(Prod.mk.inj e).1,(Prod.mk.inj e).2] at this;simp at this) (λw d=>by
    rcases List.mem_append.1 d with d|d
    .exact h.writesP w d
    .obtain rfl:w=_:=by simpa using d
     exact ⟨L,f.V⟩) h.reads h.readsP ω (by rw [List.length_append];simp;omega)
   rw [<-i.2] at this;exact this
  .rename_i q
   have o:r.K=1:=by have:=f.K;omega
   refine ⟨?_,?_⟩
   .split
    .rw [<-i.1,<- i.2] at t
     exact t
    .rename_i hnm
     have:=A x.writes (x.reads++[(r.O,r.D)]) h.writes h.writesP (by
      rw [List.nodup_append];exact ⟨h.reads,ψ,λa E b F e=>by
       obtain rfl:b=(r.O,r.D):=by simpa using F
       exact hnm (e▸E)⟩) (λp u=>by
      rcases List.mem_append.1 u with u|u
      .exact h.readsP p u
      .obtain rfl:p=_:=by simpa using u
       exact L) (by rw [List.length_append];simp;omega) ω
     rw [<-i.1] at this;exact this
   .unfold Bj
    rw [if_pos o];refine Aq.2 ?_;have l:r.D.toNat<(Bd s.M r).length:=by have:=f.D;omega
    rw [List.getD_eq_getElem?_getD,Lg l];have P:=List.getElem_mem l;simp only [Option.getD_some];unfold Bd at P l;obtain ⟨v,N⟩:=ε ((Bd s.M r)[r.D.toNat]'(by have:=f.D;omega));have g:v∈Bd s.M r:=by rw [N];exact List.getElem_mem _
    show BP ((Bd s.M r)[r.D.toNat]'(by have:=f.D;omega));rw [<-N];unfold Bd at g;split at g
    .simp at g
    .split at g
     .cases aF:s.M.N[(r.O - 1).toNat]? with
      | none=>rw [aF] at g;simp at g
      | some z=>rw [aF] at g;exact (M.N z (Lm aF)).2.2 v g
     .exact M.gv v g
def MidS.doS (h:MidS c s i x) (y:endsB x.run=ϝ) (w:DoS c s i x s'):InvK c s' (s.U+1)/\s'.U=s.U:=by
 have r:=h.ok.mach.run y;obtain ⟨B,f,z⟩:=r.waits;have t:=z.Q h.inv.sound;have p:∀ {n:Int} {m':AV},Bj x.run.Q n=ϑ->ED c x.run n m'->MacS c m':=λv j=>by have:=TX h.inv.sound r v j;exact ⟨this.1,this.2.1,this.2.2⟩
 have l:=h.inv.clock;have A:=h.inv.M.len;have o:=h.inv.aborts;rcases w with ⟨e,k,m',j,rfl⟩|⟨e,k,m',j,rfl⟩|⟨e,k,m',j,rfl⟩|⟨e,k,u⟩
 .have hN:=newN_ok h.inv.M h.inv.vers l.1 t e k
  have d:∀ a f,PlaceOk s.M a f->PlaceOk (newN c s x.run.Q).M a f:=λa f d=>listOf_new _ _ a f d;have b:=h.ok.mono d (Int.le_refl _) (Int.le_refl _);have g:=p (by unfold Bj;rw [if_neg ω,if_pos e];simp;omega) j;have q:TrxOk c (newN c s x.run.Q).M s.clock (s.U+1) { x with N:=x.N+1,run:=m' }:=⟨g,b.start,⟨by have:=b.N.1;show 0<=x.N+1;omega,by have:=b.N.2;show x.N+1<=s.U+1;omega⟩,b.reads,b.readsP,b.writes,b.writesP,by have:=b.count.1;show (x.reads:Int)<=s.U+1;omega,by have:=b.count.2;show (x.writes:Int)<=s.U+1;omega⟩
  exact ⟨h.setA (s':=setX (newN c s x.run.Q) i { x with N:=x.N+1 } m') q hN.1 hN.2 ⟨Int.le_refl _,l.2⟩ o d rfl rfl rfl rfl rfl rfl rfl,rfl⟩
 .have b:=h.ok.mono (λ_ _ d=>d) (Int.le_refl _) (n':=s.U+1) ω
  have g:=p (by unfold Bj;rw [if_neg ω,if_pos e];simp) j;have q:TrxOk c s.M s.clock (s.U+1) { x with run:=m' }:=⟨g,b.start,b.N,b.reads,b.readsP,b.writes,b.writesP,b.count⟩
  exact ⟨h.setA (s':=setX s i x m') q h.inv.M h.inv.vers ⟨Int.le_refl _,l.2⟩ o (λ_ _ d=>d) rfl rfl rfl rfl rfl rfl rfl,rfl⟩
 .have hA:=λ(m:AV) g=>acc_ok (m:=m) h.inv.M h.ok t e k g
  have g:=p (hA x.run h.ok.mach).2 j;exact ⟨h.setA (s':=setX s i (accX s x x.run.Q).1 m') (hA m' g).1 h.inv.M h.inv.vers ⟨Int.le_refl _,l.2⟩ o (λ_ _ d=>d) rfl rfl rfl rfl rfl rfl rfl,rfl⟩
 .exact h.commit u
def MidS.goS (h:MidS c s i x) (e:GoS c s i x fr s'):InvK c s' (s.U+1)/\s'.U=s.U:=by
 rcases e with ⟨_,_,rfl⟩|⟨_,_,a⟩|⟨d,b⟩
 .exact ⟨h.inv,rfl⟩
 .exact h.commit a
 .exact h.doS d b
def InvS.stepS (h:InvS c s) (hs:gw c s i s'):InvS c s':=by
 obtain ⟨x,f,d,rfl,⟨b,y,e,a⟩|⟨b,a⟩⟩:=hs
 .have:=(h.begins_ d b e).goS a
  exact InvK.tick (by rw [this.2];exact this.1)
 .have:=(h.goes d b).goS a
  exact InvK.tick (by rw [this.2];exact this.1)
def ff (m:Mm) (fuel:Int) (cs:List (List Bi)):Tra:=
 ⟨m,ϱ m.G.length 0::m.N.map (λx=>ϱ x.f.length 0),0,fuel,ϱ cs.length zeroX,cs,ϱ cs.length [],ϱ cs.length [],ϱ cs.length [],[],0,0⟩
def rep_some {n:Nat} {x y:α} (h:(ϱ n x)[t]?=ς y):y=x:=by
 rw [List.getElem?_replicate] at h;split at h
 .simpa using h.symm
 .cases h
def newS_inv {m:Mm} {fuel:Int} {d:List (List Bi)} (hs:AU c) (n:Dp c m) (j:0<=fuel/\fuel<=1048576) (q:∀ l∈d,∀ x∈l,AS c x 0=0) (hl:∀ l∈d,l.length<=2000):InvS c (ff m fuel d):=by
 refine ⟨hs,n,j,⟨Int.le_refl _,Int.le_refl _⟩,⟨Int.le_refl _,Int.le_refl _⟩,⟨by simp [ff],by simp [ff],λk x s=>?_,λl hl v g=>?_⟩,by simp [ff],by simp [ff],by simp [ff],by simp [ff],λt x l r b e a=>?_,⟨λk o p=>by simp [ff] at p,λt e i=>?_⟩⟩
 .show ((ϱ m.G.length 0::m.N.map (λx=>ϱ x.f.length (0:Int))).getD (k+1) []).length=x.f.length
  have h:m.N[k]?=ς x:=s;rw [List.getD_eq_getElem?_getD,List.getElem?_cons_succ,List.getElem?_map,h];simp
 .have h0:v=0:=by
   rcases ϰ.1 hl with rfl|hl
   .exact (List.mem_replicate.1 g).2
   .obtain ⟨x,_,rfl⟩:=List.mem_map.1 hl
    exact (List.mem_replicate.1 g).2
  subst h0;exact ⟨Int.le_refl _,Int.le_refl _⟩
 .obtain rfl:=rep_some a.x
  obtain rfl:=rep_some a.r;obtain rfl:=rep_some a.b;obtain rfl:=rep_some a.e;have f:l∈d:=Lm a.l;exact ⟨.inl ⟨rfl,rfl⟩,q l f,rfl,by have:=hl l f;simpa using this,rfl⟩
 .obtain rfl:=rep_some i
  rfl
def VersOk.le {m:Mm} (h:VersOk m vs k) (d:0<=k) (a f:Nat):(vs.getD a []).getD f 0<=k:=by
 rw [List.getD_eq_getElem?_getD];cases b:(vs.getD a [])[f]? with
 | none=>exact d
 | some v=>
  rw [List.getD_eq_getElem?_getD] at b;cases c:vs[a]? with
  | none=>rw [c] at b;simp at b
  | some l=>rw [c] at b;exact (h.vals l (Lm c) v (Lm b)).2
def stale_lt (h:InvK c s k) (hs:stale s x=ϑ):x.start<s.clock:=by
 unfold stale at hs;rw [List.any_eq_true] at hs;obtain ⟨r,_,a⟩:=hs;have b:verAt s r<=s.clock:=h.vers.le h.clock.1 _ _;have d:=of_decide_eq_true a;omega
structure AbOk (s s':Tra) (i:Nat) (x:Trx):Prop where
 clock:s.clock<=s'.clock/\s'.clock<=s.clock+1
 aborts:s'.aborts=s.aborts\/(s'.aborts=s.aborts+1/\stale s x=ϑ/\s'.clock=s.clock/\∃ y,s'.active[i]?=ς y/\y.start=s.clock)
 len:s'.active.length=s.active.length/\s'.results.length=s.results.length
  /-- the calls of the others stay; the own calls lose at most the first one -/
 A:∀ u,u≠i->s'.A[u]?=s.A[u]?
 act:∀ u,u≠i->s'.active[u]?=s.active[u]?
 own:∀ y,s'.active[i]?=ς y->y=zeroX\/((y.start=x.start\/y.start=s.clock)/\s'.clock=s.clock)
def CommitS.ab (b:MidS c s i x) (h:CommitS c s i x f v s'):AbOk s s' i x:=by
 have e:=(Ll b.hx)
 rcases h with ⟨j,y,⟨n,l,m,_,_,rfl⟩,rfl⟩|⟨_,rfl⟩
 .exact ⟨⟨Int.le_refl _,by show s.clock<=s.clock+1;omega⟩,.inr ⟨rfl,j,rfl,_,List.getElem?_set_self e,rfl⟩,ψ,λu _=>rfl,λu d=>List.getElem?_set_ne (Ne.symm d),λy g=>by
   have a:(s.active.set i ⟨m,s.clock,0,[],[]⟩)[i]?=ς y:=g;rw [List.getElem?_set_self e] at a;cases a;exact .inr ⟨.inr rfl,rfl⟩⟩
 .have hD:=done_ok b.inv.M b.inv.vers b.inv.clock.1 (λw k=>(b.ok.writesP w k).2) f
  refine ⟨hD.clock,.inl hD.aborts,by simp [commitT],λu d=>?_,λu d=>List.getElem?_set_ne (Ne.symm d),λy g=>?_⟩
  .show (s.A.modify i List.tail)[u]?=_
   rw [List.getElem?_modify];cases s.A[u]? with
   | none=>rfl
   | some l=>simp [Ne.symm d]
  .have a:(s.active.set i zeroX)[i]?=ς y:=g
   rw [List.getElem?_set_self e] at a;cases a;exact .inl rfl
def acc_start (s:Tra) (x:Trx) (r:Rq):(accX s x r).1.start=x.start:=by
 unfold accX;simp only;split
 .split<;>(split<;>rfl)
 .split
  .split<;>rfl
  .split<;>(split<;>rfl)
def setX.ab (n:s.active[i]?=ς x) (o:y.start=x.start) (e:s'=setX s i y m\/∃ c r,s'=setX (newN c s r) i y m):AbOk s s' i x:=by
 have d:=(Ll n)
 have f:s'.clock=s.clock/\s'.aborts=s.aborts/\s'.active=s.active.set i { y with run:=m }/\s'.results=s.results/\s'.A=s.A:=by rcases e with rfl|⟨c,r,rfl⟩<;>exact ⟨rfl,rfl,rfl,rfl,rfl⟩
 obtain ⟨g,h,a,j,k⟩:=f;refine ⟨ω,.inl h,by rw [a,j];simp,λu _=>by rw [k],λu l=>by rw [a];exact List.getElem?_set_ne (Ne.symm l),λz b=>?_⟩;rw [a,List.getElem?_set_self d] at b;cases b;exact .inr ⟨.inl o,g⟩
def DoS.ab (a:MidS c s i x) (h:DoS c s i x s'):AbOk s s' i x:=by
 rcases h with ⟨_,_,m',_,rfl⟩|⟨_,_,m',_,rfl⟩|⟨_,_,m',_,rfl⟩|⟨_,_,b⟩
 .exact setX.ab a.hx (y:={ x with N:=x.N+1 }) rfl (.inr ⟨_,_,rfl⟩)
 .exact setX.ab a.hx rfl (.inl rfl)
 .exact setX.ab a.hx (acc_start _ _ _) (.inl rfl)
 .exact b.ab a
def GoS.ab (a:MidS c s i x) (h:GoS c s i x fr s'):AbOk s s' i x:=by
 rcases h with ⟨_,_,rfl⟩|⟨_,_,b⟩|⟨_,d⟩
 .have aA:=(Ll a.hx)
  exact ⟨ω,.inl rfl,⟨rfl,rfl⟩,λ_ _=>rfl,λ_ _=>rfl,λy e=>by
   have:y=x:=by simpa using e.symm.trans a.hx
   subst this;exact .inr ⟨.inl rfl,rfl⟩⟩
 .exact b.ab a
 .exact d.ab a
structure AbLaw (s s':Tra) (i:Nat):Prop where
 len:s'.active.length=s.active.length/\s'.results.length=s.results.length
 U:s'.U=s.U+1
 clock:s.clock<=s'.clock/\s'.clock<=s.clock+1
 aborts:s'.aborts=s.aborts\/(s'.aborts=s.aborts+1/\s'.clock=s.clock/\∃ x y,s.active[i]?=ς x/\x.run.Q.K≠0/\x.start<s.clock/\s'.active[i]?=ς y/\y.start=s.clock)
structure SoloS (s:Tra):Prop where
 aborts:s.aborts=0
 run:∀ (t:Nat) x,s.active[t]?=ς x->x.run.Q.K≠0->x.start=s.clock/\∀ u,u<t->s.A[u]?=ς []
def gw.law (h:InvS c s) (hs:gw c s i s'):AbLaw s s' i:=by
 obtain ⟨x,k,g,rfl,⟨f,y,j,d⟩|⟨f,d⟩⟩:=hs
 .have hm:=h.begins_ g f j
  have a:=d.ab hm;have e:=(hm.goS d).2;refine ⟨⟨a.len.1.trans (by simp [startS]),a.len.2⟩,by show k.U+1=s.U+1;rw [e];rfl,a.clock,?_⟩;rcases a.aborts with b|⟨_,b,_⟩
  .exact .inl b
  .obtain ⟨cl,l,m,_,_,rfl⟩:=j
   cases b
 .have hm:=h.goes g f
  have a:=d.ab hm;have e:=(hm.goS d).2;refine ⟨a.len,by show k.U+1=s.U+1;rw [e],a.clock,?_⟩;rcases a.aborts with b|⟨b,n,o,y,p,q⟩
  .exact .inl b
  .exact .inr ⟨b,o,x,y,g,f,stale_lt hm.inv n,p,q⟩
def SoloS.U (h:InvS c s) (D:SoloS s) (hs:gw c s i s') (J:∀ u,u<i->s.A[u]?=ς []):SoloS s':=by
 have U:=gw.law h hs;obtain ⟨x,v,B,rfl,M⟩:=hs;obtain ⟨l,r,b,e,H⟩:=h.row B;have f:s.A[i]?≠ς []->∀ (u:Nat) z,u≠i->s.active[u]?=ς z->z.run.Q.K=0:=λn u z p q=>by
  by_cases a:z.run.Q.K=0
  .exact a
  .exfalso
   obtain ⟨W,X,S,G,F⟩:=h.row q;have d:=(h.all _ _ _ _ _ _ F).act;rcases d with ⟨rfl,_⟩|⟨_,C,_⟩
   .exact a rfl
   .rcases Nat.lt_or_gt_of_ne p with aI|aH
    .have:=J u aI
     rw [F.l] at this;exact C (by simpa using this)
    .exact n ((D.run u z q a).2 i aH)
 have E:∀ (g:Tra) (y:Trx) (fr:Bool),MidS c g i y->GoS c g i y fr v->g.clock=s.clock->g.aborts=s.aborts->(∀ u,u≠i->g.active[u]?=s.active[u]?)->g.A=s.A->s.A[i]?≠ς []->y.start=s.clock->SoloS (tickS v):=λg y fr k o j G O P n R=>by
  have w:=o.ab k;have K:v.aborts=0:=by
   rcases w.aborts with d|⟨_,d,_⟩
   .rw [d,G];exact D.aborts
   .have:=stale_lt k.inv d
    rw [j] at this;omega
  refine ⟨K,λt z q a=>?_⟩;by_cases A:t=i
  .subst A
   rcases w.own z q with rfl|⟨d,Q⟩
   .exact absurd zeroX_kind a
   .refine ⟨?_,λu p=>?_⟩
    .show z.start=v.clock
     rw [Q,j];rcases d with d|d
     .rw [d];exact R
     .rw [d,j]
    .show v.A[u]?=_
     rw [w.A u ω,P];exact J u p
  .have aK:s.active[t]?=ς z:=by rw [<-O t A,<- w.act t A];exact q
   exact absurd (f n t z A aK) a
 rcases M with ⟨a,y,I,o⟩|⟨a,o⟩
 .have k:=h.begins_ B a I
  obtain ⟨T,V,m,L,_,N⟩:=I;exact E _ y ϑ k o rfl rfl (λu p=>List.getElem?_set_ne (Ne.symm p)) rfl (by rw [L];simp) (by rw [N])
 .have k:=h.goes B a
  have n:s.A[i]?≠ς []:=λj=>by
   rcases (h.all _ _ _ _ _ _ H).act with ⟨rfl,_⟩|⟨_,C,_⟩
   .exact a rfl
   .rw [H.l] at j
    exact C (by simpa using j)
  exact E s x ϝ k o rfl rfl (λ_ _=>rfl) rfl n (D.run i x B a).1
def newS_solo (m:Mm) (fuel:Int) (a:List (List Bi)):SoloS (ff m fuel a):=⟨rfl,λt x c b=>by
 obtain rfl:=rep_some c;exact absurd zeroX_kind b⟩
inductive FinS (c:AQ):Tra->Tra->Prop
 | nil (s:Tra):FinS c s s
 | step {s s1 s2:Tra} {i:Nat} (hf:∀ u,u<i->s.A[u]?=ς []) (hs:gw c s i s1) (h:FinS c s1 s2):FinS c s s2
def FinS.solo (h:FinS c s s'):InvS c s->SoloS s->SoloS s':=by
 induction h with
 | nil s=>exact λ_ h=>h
 | step d b _ f=>exact λa e=>f (a.stepS b) (e.U a b d)
