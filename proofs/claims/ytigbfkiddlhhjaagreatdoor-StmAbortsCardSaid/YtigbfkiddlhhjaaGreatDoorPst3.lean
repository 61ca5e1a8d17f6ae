import Derived.Test.YtigbfkiddlhhjaaGreatDoorStep0
import Derived.Laws.ResultCell
set_option maxHeartbeats 1000000
set_option maxRecDepth 100000
set_option linter.all false
open Go renaming World→Ϣ,Value→ϒ,heap_setCell_same→ϡ
open Option renaming some→ς
open List renaming replicate→ϱ,mem_cons→ϰ
open Go.Value renaming slice→σ
open Go.Obj renaming cells→χ
namespace Go.Proofs.YtigbfkiddlhhjaaGreatDoor
open Go.RowKit Proofs.Tryz
variable {α:Type} {n op a b:Int} {st:List Int} {c:AQ} {y:BK} {k p i bm R:Nat} {x:Cd} {f f':AY} {m m1:AV} {fs:List AY} {l F:List Nat} {r:Rq} {w w' W:Ϣ} {fv v:ϒ} {fn:Func}
def BP (n:Int):Prop:=-1099511627776<=n/\n<=1099511627776
def Aq :Af n=true↔BP n:=by unfold Af BP;simp
def BP.in64 (h:BP n):in64 n:=by unfold BP at h;unfold Go.Proofs.YtigbfkiddlhhjaaGreatDoor.in64;omega
def EA (v:Int):Int:=(Lib.bitLen (max 1 v).toNat:Int) - 1
def Df (c:AQ) (m:AV) (fs:List AY) (f:AY) (y:BK) (x:Cd):KM:=
 let l:=f.S.dropLast
 let v:=f.S.getLastD 0
 let l2:=l.dropLast
 let u:=l.getLastD 0
 if x.op=1 then .go { m with I:=m.I+1,J:=fs++[{ f with pc:=f.pc+1,S:=f.S++[x.a] }] }
 else if x.op=2 then .go { m with I:=m.I+1,J:=fs++[{ f with pc:=f.pc+1,S:=f.S++[f.L.getD x.a.toNat 0] }] }
 else if x.op=3 then .go { m with I:=m.I+1,J:=fs++[{ f with pc:=f.pc+1,L:=f.L.set x.a.toNat v,S:=l }] }
 else if x.op=4 then .stop ⟨1,0,x.a,0,0⟩ { m with I:=m.I+1,J:=fs++[{ f with pc:=f.pc+1 }] }
 else if x.op=5 then .stop ⟨2,0,x.a,v,0⟩ { m with I:=m.I+1,J:=fs++[{ f with pc:=f.pc+1,S:=l }] }
 else if x.op=6 then (if v<1 then .stop (Ah 17) { m with I:=m.I+1,J:=fs++[{ f with pc:=f.pc+1,S:=l }] } else .stop ⟨1,v,x.a,0,0⟩ { m with I:=m.I+1,J:=fs++[{ f with pc:=f.pc+1,S:=l }] })
 else if x.op=7 then (if u<1 then .stop (Ah 17) { m with I:=m.I+1,J:=fs++[{ f with pc:=f.pc+1,S:=l2 }] } else .stop ⟨2,u,x.a,v,0⟩ { m with I:=m.I+1,J:=fs++[{ f with pc:=f.pc+1,S:=l2 }] })
 else if x.op=8 then .stop ⟨3,0,x.a,0,0⟩ { m with I:=m.I+1,J:=fs++[{ f with pc:=f.pc+1 }] }
 else if x.op=9 then (match Dt c x.a with
  | none=>.stop (Ah 0) m
  | some z=>
   let n:=f.S.length - z.params.toNat
   if fs.length+1<200 then .go { m with I:=m.I+1,J:=fs++[{ f with pc:=f.pc+1,S:=f.S.take n }]++[⟨x.a,0,f.S.drop n++ϱ (z.L - z.params).toNat 0,[]⟩] }
   else .stop (Ah 19) { m with I:=m.I+1,J:=fs++[{ f with pc:=f.pc+1,S:=f.S.take n }] })
 else if x.op=10 then (match fs.getLast? with
  | none=>.stop (EE (if y.result then v else 0)) { m with I:=m.I+1,J:=[] }
  | some f'=>.go { m with I:=m.I+1,J:=fs.dropLast++[Sh f' y.result (if y.result then v else 0)] })
 else if x.op=11 then .go { m with I:=m.I+1,J:=fs++[{ f with pc:=x.a }] }
 else if x.op=12 then (if v=0 then .go { m with I:=m.I+1,J:=fs++[{ f with pc:=x.a,S:=l }] } else .go { m with I:=m.I+1,J:=fs++[{ f with pc:=f.pc+1,S:=l }] })
 else if x.op=13 then (if m.Y=0 then .stop (Ah 20) { m with I:=m.I+1,J:=fs++[{ f with pc:=f.pc+1 }] } else .go { m with Y:=m.Y - 1,I:=0,J:=fs++[{ f with pc:=f.pc+1 }] })
 else if x.op=14 then .go { m with I:=m.I+1,J:=fs++[{ f with pc:=f.pc+1,S:=l++[-v] }] }
 else if x.op=26 then .go { m with I:=m.I+1,J:=fs++[{ f with pc:=f.pc+1,S:=l++[D0 (v == 0)] }] }
 else if x.op=29 then .go { m with I:=m.I+1,J:=fs++[{ f with pc:=f.pc+1,S:=l++[EA v] }] }
 else if x.op=30 then .go { m with I:=m.I+1,J:=fs++[{ f with pc:=f.pc+1,S:=l }] }
 else if x.op=31 then .go { m with I:=m.I+1,J:=fs++[{ f with pc:=f.pc+1,S:=l++[v]++[v] }] }
 else if BG x.op u v=0 then .go { m with I:=m.I+1,C:=m.C+DS x.op,J:=fs++[{ f with pc:=f.pc+1,S:=l2++[Du x.op u v] }] }
 else .stop (Ah (BG x.op u v)) { m with I:=m.I+1,C:=m.C+DS x.op,J:=fs++[{ f with pc:=f.pc+1,S:=l2 }] }
def stepP (c:AQ) (m:AV):KM:=
 if 100000<=m.I then .stop (Ah 6) m else match m.J.getLast? with
 | none=>.stop (Ah 0) m
 | some f=>match c.funcs[f.fn.toNat]? with
  | none=>.stop (Ah 0) m
  | some y=>match y.code[f.pc.toNat]? with
   | none=>.stop (Ah 0) m
   | some x=>Df c m m.J.dropLast f y x
structure Gr (c:AQ) (f:AY) (y:BK):Prop where
 fn0:0<=f.fn
 fn:c.funcs[f.fn.toNat]?=ς y
 pc0:0<=f.pc
 loc:(f.L:Int)=y.L
 lv:∀ n∈f.L,BP n
 sv:∀ n∈f.S,BP n
def D8 (c:AQ) (f:AY):Prop:=∃ y,Gr c f y/\Reach c y f.pc.toNat f.S.length
def DL (c:AQ) (g:AY) (P:Cd->Prop):Prop:=
 ∃ y x h,Gr c g y/\1<=g.pc/\y.code[(g.pc - 1).toNat]?=ς x/\P x/\Reach c y (g.pc - 1).toNat h/\(g.S:Int)=h - AM c y x
def Ge (c:AQ):List AY->Int->Prop
 | [],_=>True
 | g::r,k=>DL c g (λx=>x.op=9/\x.a=k)/\Ge c r g.fn
def Co (m:AV):Int:=m.Y*100001+(100000 - m.I)
structure EB (m:AV):Prop where
 Y:0<=m.Y
 idle0:0<=m.I
 idle1:m.I<=100000
 cmp0:0<=m.C
 potle:m.C+Co m<=4611686018427387904
structure Dr (c:AQ) (m:AV) (fs:List AY) (f:AY):Prop where
 fr:m.J=fs++[f]
 top:D8 c f
 low:Ge c fs.reverse f.fn
 len:fs.length<200
 nums:EB m
def Ko (x:Cd) (r:Rq):Prop:=
 (x.op=4/\r=⟨1,0,x.a,0,0⟩)\/(∃ v,x.op=5/\BP v/\r=⟨2,0,x.a,v,0⟩)\/(∃ n,x.op=6/\1<=n/\BP n/\r=⟨1,n,x.a,0,0⟩)\/(∃ n v,x.op=7/\1<=n/\BP n/\BP v/\r=⟨2,n,x.a,v,0⟩)\/(x.op=8/\r=⟨3,0,x.a,0,0⟩)
structure C9 (c:AQ) (m:AV) (r:Rq) (fs:List AY) (f:AY):Prop where
 fr:m.J=fs++[f]
 top:DL c f (λx=>Ko x r)
 low:Ge c fs.reverse f.fn
 len:fs.length<200
def IW (c:AQ) (r:Rq) (m:AV):Prop:=
 EB m/\((∃ e,(e=5\/e=6\/e=17\/e=18\/e=19\/e=20)/\r=Ah e)\/(∃ v,BP v/\r=EE v/\m.J=[])\/∃ fs f,C9 c m r fs f)
def Bq (h:1<=st.length):st=st.dropLast++[st.getLastD 0]:=by
 have a:st≠[]:=λe=>by rw [e] at h;simp at h
 rw [List.getLastD_eq_getLast?,List.getLast?_eq_some_getLast a];exact (List.dropLast_concat_getLast a).symm
def FL (h:2<=st.length):st=st.dropLast.dropLast++[st.dropLast.getLastD 0]++[st.getLastD 0]:=by
 have a:=Bq (st:=st) ω;have b:=Bq (st:=st.dropLast) φ;rw [<-b];exact a
def AU.wf (h:AU c) (a:c.funcs[k]?=ς y):Pg c y:=Qr h.1 h.2.1 (Lm a)
def AU.snd (h:AU c) (a:c.funcs[k]?=ς y):CQ c y:=h.2.2 y (Lm a)
def AU.ins (h:AU c) (b:c.funcs[k]?=ς y) (a:y.code[p]?=ς x):Ct c y x=true:=LN h.2.1 (Lm b) (Lm a)
def AU.lim (h:AU c) (b:c.funcs[k]?=ς y) (a:y.code[p]?=ς x) (d:Ey c y x.op=ς n):0<=x.a/\x.a<n:=by
 have:=h.ins b a;have e:=(h.wf b).op x (Lm a);unfold Ct at this;rw [if_neg ω,d] at this;simpa using this
def AU.fok (h:AU c) (a:c.funcs[k]?=ς y):CX y:=NM h.1 (Lm a)
def D8.U (e:Gr c f y) (k:Reach c y f.pc.toNat f.S.length) (l:y.code[f.pc.toNat]?=ς x)
  (a:f'.fn=f.fn) (i:0<=f'.pc) (j:f'.pc.toNat∈Am x f.pc.toNat) (b:(f'.S:Int)=f.S.length - AM c y x+AK c y x)
  (d:f'.L.length=f.L.length) (g:∀ n∈f'.L,BP n) (h:∀ n∈f'.S,BP n):D8 c f':=
 ⟨y,⟨by rw [a];exact e.fn0,by rw [a];exact e.fn,i,by rw [d];exact e.loc,g,h⟩,by rw [b];exact k.next l j⟩
def JQ (h:x.op≠10/\x.op≠11):i+1∈Am x i:=by
 unfold Am;rw [if_neg ω];simp
def Oh (h:x.op=11\/x.op=12):x.a.toNat∈Am x i:=by
 unfold Am;rw [if_pos h];simp
def BN (h:x.op≠9/\x.op≠10/\¬BB x.op):AM c y x=Bk x.op/\AK c y x=DI x.op:=by
 unfold AM AK;rw [if_neg h.1,if_neg h.2.1,if_neg h.2.2,if_neg h.1,if_neg h.2.1,if_neg h.2.2];exact ⟨rfl,rfl⟩
def JH (h:BB x.op):AM c y x=2/\AK c y x=1:=by
 unfold AM AK;have b:x.op≠9:=by unfold BB at h;omega
 have a:x.op≠10:=by unfold BB at h;omega
 rw [if_neg b,if_neg a,if_pos h,if_neg b,if_neg a,if_pos h];exact ⟨rfl,rfl⟩
def Qn (a:1<=op) (b:op<=31) (c:op≠1/\op≠2/\op≠3/\op≠4/\op≠5/\op≠6/\op≠7/\op≠8/\op≠9/\op≠10/\op≠11/\op≠12/\op≠13/\op≠14/\op≠26/\op≠29/\op≠30/\op≠31):BB op:=by
 unfold BB;omega
def Dr.stepP (h:Dr c m fs f) (d:c.funcs[f.fn.toNat]?=ς y) (b:y.code[f.pc.toNat]?=ς x) (a:m.I<100000):stepP c m=Df c m fs f y x:=by
 unfold Go.Proofs.YtigbfkiddlhhjaaGreatDoor.stepP;rw [if_neg ω,h.fr];simp [d,b]
def Dr.at_ (hs:AU c) (h:Dr c m fs f):∃ y x,Gr c f y/\Reach c y f.pc.toNat f.S.length/\y.code[f.pc.toNat]?=ς x/\AM c y x<=f.S.length/\(x.op=10->(f.S:Int)=AM c y x):=by
 obtain ⟨y,a,b⟩:=h.top;obtain ⟨x,i,d,g,_⟩:=(hs.snd a.fn).1 _ _ b;exact ⟨y,x,a,b,i,d,λe=>by have:=g e;omega⟩
def K9 (j:BB op) (g:BP a) (i:BP b) (h:BG op a b=0):BP (Du op a b):=by
 have d:∀ t,BP (D0 t):=λt=>by cases t<;>(unfold D0 BP;simp)
 unfold BG at h;unfold Du;unfold BB at j;by_cases e:op=15
 .rw [if_pos e] at h ⊢
  by_cases c:Af (a+b)=true
  .exact Aq.1 c
  .rw [if_neg c] at h;omega
 rw [if_neg e] at h ⊢;by_cases e:op=16
 .rw [if_pos e] at h ⊢
  by_cases c:Af (a - b)=true
  .exact Aq.1 c
  .rw [if_neg c] at h;omega
 rw [if_neg e] at h ⊢;by_cases e:op=17
 .rw [if_pos e] at h ⊢
  by_cases c:a.natAbs*b.natAbs<=1099511627776
  .have f:=Int.natAbs_mul a b
   unfold BP;omega
  .rw [if_neg c] at h;omega
 rw [if_neg e] at h ⊢;have k:(a.tdiv b).natAbs<=a.natAbs:=by rw [Int.natAbs_tdiv];exact Nat.div_le_self _ _
 have f:(a.tmod b).natAbs<=a.natAbs:=by rw [Int.natAbs_tmod];exact Nat.mod_le _ _
 unfold BP at g i;split
 .unfold BP;omega
 split
 .unfold BP;omega
 split
 .exact d _
 split
 .exact d _
 split
 .exact d _
 split
 .exact d _
 split<;>(unfold BP;omega)
def MX (v:Int):BP (EA v):=by
 unfold EA BP Lib.bitLen;have:=E6 64 (max 1 v).toNat;omega
def D8.next {c:AQ} {f:AY} {y:BK} {x:Cd} (j:Gr c f y) (k:Reach c y f.pc.toNat f.S.length) (l:y.code[f.pc.toNat]?=ς x) (g:x.op≠10/\x.op≠11) (i st:List Int)
  (a:(st:Int)=f.S.length - AM c y x+AK c y x) (b:i.length=f.L.length) (d:∀ n∈i,BP n) (h:∀ n∈st,BP n):D8 c { f with pc:=f.pc+1,L:=i,S:=st }:=by
 have m:=j.pc0;refine D8.U j k l rfl (by show 0<=f.pc+1;omega) ?_ a b d h;have e:(f.pc+1).toNat=f.pc.toNat+1:=ω;show (f.pc+1).toNat∈_;rw [e];exact JQ g
def DL.next {c:AQ} {f:AY} {y:BK} {x:Cd} {P:Cd->Prop} (a:Gr c f y) (h:Reach c y f.pc.toNat f.S.length) (i:y.code[f.pc.toNat]?=ς x) (g:P x) (st:List Int)
  (b:(st:Int)=f.S.length - AM c y x) (d:∀ n∈st,BP n):DL c { f with pc:=f.pc+1,S:=st } P:=by
 have j:=a.pc0;have e:(f.pc+1 - 1).toNat=f.pc.toNat:=ω;exact ⟨y,x,f.S.length,⟨a.fn0,a.fn,by show 0<=f.pc+1;omega,a.loc,a.lv,d⟩,by show 1<=f.pc+1;omega,by show y.code[(f.pc+1 - 1).toNat]?=ς x;rw [e];exact i,g,by show Reach c y (f.pc+1 - 1).toNat _;rw [e];exact h,b⟩
def EB.tick (h:EB m) (b:m.I<100000) (d:Int) (i:0<=d/\d<=1) (l:List AY):EB { m with I:=m.I+1,C:=m.C+d,J:=l }/\Co { m with I:=m.I+1,C:=m.C+d,J:=l }<Co m:=by
 obtain ⟨a,c,e,f,g⟩:=h;unfold Co at *
 exact ⟨⟨a,by show 0<=m.I+1;omega,by show m.I+1<=100000;omega,by show 0<=m.C+d;omega,by show m.C+d+(m.Y*100001+(100000 - (m.I+1)))<=_;omega⟩,by show m.Y*100001+(100000 - (m.I+1))<_;omega⟩
def EB.tick0 (h:EB m) (a:m.I<100000) (l:List AY):EB { m with I:=m.I+1,J:=l }/\Co { m with I:=m.I+1,J:=l }<Co m:=by
 have:=h.tick a 0 ω l;rw [show m.C+0=m.C by omega] at this;exact this
def getD_some {l:List Int} (h:i<l.length):l[i]?=ς (l.getD i 0):=by rw [List.getD_eq_getElem?_getD,Lg h];rfl
def KV (op:Int):0<=DS op/\DS op<=1:=by unfold DS;split<;>omega
def M6 (c:AQ) (m:AV):KM->Prop
 | .go m'=>(∃ fs f,Dr c m' fs f)/\Co m'<Co m
 | .stop r m'=>IW c r m'
def Dr.go (h:Dr c m fs f) (a:m.I<100000) (d:D8 c f') (b:f'.fn=f.fn):M6 c m (.go { m with I:=m.I+1,J:=fs++[f'] }):=
 ⟨⟨fs,f',rfl,d,by rw [b];exact h.low,h.len,(h.nums.tick0 a _).1⟩,(h.nums.tick0 a _).2⟩
def Dr.fails (h:Dr c m fs f) (a:m.I<100000) (e:Int) (b:e=5\/e=6\/e=17\/e=18\/e=19\/e=20) (l:List AY):M6 c m (.stop (Ah e) { m with I:=m.I+1,J:=l }):=
 ⟨(h.nums.tick0 a _).1,.inl ⟨e,b,rfl⟩⟩
def Dr.asks (h:Dr c m fs f) (b:m.I<100000) (d:DL c f' (λx=>Ko x r)) (a:f'.fn=f.fn):M6 c m (.stop r { m with I:=m.I+1,J:=fs++[f'] }):=
 ⟨(h.nums.tick0 b _).1,.inr (.inr ⟨fs,f',rfl,d,by rw [a];exact h.low,h.len⟩)⟩
def Tx (h:¬BG op a b=0):BG op a b=5\/BG op a b=6\/BG op a b=17\/BG op a b=18\/BG op a b=19\/BG op a b=20:=by
 unfold BG at *
 split
 .rename_i e;rw [if_pos e] at h;split<;>simp_all
 rename_i e;rw [if_neg e] at h;split
 .rename_i e;rw [if_pos e] at h;split<;>simp_all
 rename_i e;rw [if_neg e] at h;split
 .rename_i e;rw [if_pos e] at h;split<;>simp_all
 rename_i e;rw [if_neg e] at h;split
 .rename_i e;rw [if_pos e] at h;split<;>simp_all
 .rename_i e;rw [if_neg e] at h;omega
def GA (hs:AU c) (h:Dr c m fs f):M6 c m (stepP c m):=by
 by_cases d:100000<=m.I
 .unfold stepP
  rw [if_pos d];exact ⟨h.nums,.inl ⟨6,ω,rfl⟩⟩
 have d:m.I<100000:=ω;obtain ⟨y,x,j,q,k,o,aY⟩:=h.at_ hs;rw [h.stepP j.fn k d];have bB:=(hs.wf j.fn).op x (Lm k);have v:=j.sv;have r:=j.lv;have s:=λn p=>v n (List.dropLast_subset _ p);have aT:=λn p=>s n (List.dropLast_subset _ p);have u:f.S.dropLast.length=f.S.length - 1:=List.length_dropLast;have aZ:f.S.dropLast.dropLast.length=f.S.length - 1 - 1:=by rw [List.length_dropLast,u]
 have A:1<=f.S.length->BP (f.S.getLastD 0):=λW=>v _ (by rw [Bq W];simp);have hu:2<=f.S.length->BP (f.S.dropLast.getLastD 0):=λW=>v _ (by rw [FL W];simp);have B:∀ {l:List Int} {n:Int},(∀ a∈l,BP a)->BP n->∀ a∈l++[n],BP a:=λW Z a ha=>by
  rw [List.mem_append,List.mem_singleton] at ha;rcases ha with ha|rfl
  .exact W a ha
  .exact Z
 have b2:∀ t,BP (D0 t):=λt=>by cases t<;>(unfold D0 BP;simp)
 unfold Df;simp only [];by_cases e:x.op=1
 .rw [if_pos e]
  have b:=BN (c:=c) (y:=y) (x:=x) (by rw [e];decide);rw [e] at b;rw [b.1] at o;have hi:=hs.ins j.fn k;unfold Ct Ey at hi;rw [e] at hi;simp at hi;exact h.go d (D8.next j q k (by rw [e];decide) _ _ (by rw [b.1,b.2,List.length_append];simp [Bk,DI]) rfl r (B v hi)) rfl
 rw [if_neg e];by_cases E:x.op=2
 .rw [if_pos E]
  have b:=BN (c:=c) (y:=y) (x:=x) (by rw [E];decide);rw [E] at b;rw [b.1] at o;have V:=hs.lim j.fn k (n:=y.L) (by rw [E];rfl);have bF:=j.loc;exact h.go d (D8.next j q k (by rw [E];decide) _ _ (by rw [b.1,b.2,List.length_append];simp [Bk,DI]) rfl r (B v (r _ (Lm (getD_some ω))))) rfl
 rw [if_neg E];by_cases N:x.op=3
 .rw [if_pos N]
  have b:=BN (c:=c) (y:=y) (x:=x) (by rw [N];decide);rw [N] at b;rw [b.1] at o;simp [Bk] at o;refine h.go d (D8.next j q k (by rw [N];decide) _ _ (by rw [b.1,b.2,u];simp [Bk,DI];omega) ψ (λn p=>?_) s) rfl;rcases List.mem_or_eq_of_mem_set p with p|p
  .exact r n p
  .rw [p];exact A ω
 rw [if_neg N];by_cases O:x.op=4
 .rw [if_pos O]
  have b:=BN (c:=c) (y:=y) (x:=x) (by rw [O];decide);rw [O] at b;exact h.asks d (DL.next j q k (.inl ⟨O,rfl⟩) _ (by rw [b.1];simp [Bk]) v) rfl
 rw [if_neg O];by_cases P:x.op=5
 .rw [if_pos P]
  have b:=BN (c:=c) (y:=y) (x:=x) (by rw [P];decide);rw [P] at b;rw [b.1] at o;simp [Bk] at o;exact h.asks d (DL.next j q k (.inr (.inl ⟨_,P,A ω,rfl⟩)) _ (by rw [b.1,u];simp [Bk];omega) s) rfl
 rw [if_neg P];by_cases Q:x.op=6
 .rw [if_pos Q]
  have b:=BN (c:=c) (y:=y) (x:=x) (by rw [Q];decide);rw [Q] at b;rw [b.1] at o;simp [Bk] at o;split
  .exact h.fails d 17 ω _
  .exact h.asks d (DL.next j q k (.inr (.inr (.inl ⟨_,Q,ω,A ω,rfl⟩))) _ (by rw [b.1,u];simp [Bk];omega) s) rfl
 rw [if_neg Q];by_cases R:x.op=7
 .rw [if_pos R]
  have b:=BN (c:=c) (y:=y) (x:=x) (by rw [R];decide);rw [R] at b;rw [b.1] at o;simp [Bk] at o;split
  .exact h.fails d 17 ω _
  .exact h.asks d (DL.next j q k (.inr (.inr (.inr (.inl ⟨_,_,R,ω,hu ω,A ω,rfl⟩)))) _ (by rw [b.1,aZ];simp [Bk];omega) aT) rfl
 rw [if_neg R];by_cases S:x.op=8
 .rw [if_pos S]
  have b:=BN (c:=c) (y:=y) (x:=x) (by rw [S];decide);rw [S] at b;exact h.asks d (DL.next j q k (.inr (.inr (.inr (.inr ⟨S,rfl⟩)))) _ (by rw [b.1];simp [Bk]) v) rfl
 rw [if_neg S];by_cases T:x.op=9
 .rw [if_pos T]
  have V:=hs.lim j.fn k (n:=c.funcs.length) (by rw [T];rfl);obtain ⟨z,hz⟩:∃ z,c.funcs[x.a.toNat]?=ς z:=⟨_,Lg ω⟩
  have bC:Dt c x.a=ς z:=hz;have b:AM c y x=z.params:=by unfold AM;rw [if_pos T,bC]
  rw [b] at o;have bL:=hs.fok hz;unfold CX at bL;rw [bC];simp only [];have bJ:∀ n∈f.S.take (f.S.length - z.params.toNat),BP n:=λn p=>v n (List.mem_of_mem_take p);split
  .rename_i hd
   have hw:DL c { f with pc:=f.pc+1,S:=f.S.take (f.S.length - z.params.toNat) } (λU=>U.op=9/\U.a=x.a):=DL.next j q k ⟨T,rfl⟩ _ (by rw [b,List.length_take];omega) bJ;refine ⟨⟨_,_,rfl,⟨z,⟨by show 0<=x.a;omega,hz,by show (0:Int)<=0;omega,?_,?_,ψ⟩,Reach.zero c z⟩,?_,by simp;omega,(h.nums.tick0 d _).1⟩,(h.nums.tick0 d _).2⟩
   .show ((f.S.drop _++ϱ _ 0).length:Int)=_
    rw [List.length_append,List.length_drop,List.length_replicate];omega
   .intro n p
    simp only [List.mem_append,List.mem_replicate] at p;rcases p with p|p
    .exact v n (List.mem_of_mem_drop p)
    .rw [p.2];unfold BP;omega
   .rw [List.reverse_append]
    exact ⟨hw,h.low⟩
  .exact h.fails d 19 ω _
 rw [if_neg T];by_cases F:x.op=10
 .rw [if_pos F]
  have b:AM c y x=D0 y.result:=by unfold AM;rw [if_neg ω,if_pos F]
  have p:=aY F;rw [b] at p;have Y:BP (if y.result=true then f.S.getLastD 0 else 0):=by
   split
   .rename_i q;rw [q] at p;simp [D0] at p;exact A ω
   .unfold BP;omega
  cases hg:fs.getLast? with
  | none=>exact ⟨(h.nums.tick0 d _).1,.inr (.inl ⟨_,Y,rfl,rfl⟩)⟩
  | some f'=>
   obtain ⟨aW,rfl⟩:∃ aW,fs=aW++[f']:=by obtain ⟨bN,bE⟩:=List.getLast?_eq_some_iff.1 hg;exact ⟨_,bE⟩
   have X:=h.low;rw [List.reverse_append] at X;obtain ⟨⟨y',U,h',M,bO,bK,⟨bG,bD⟩,bI,bM⟩,X⟩:=X;have aX:=h.len;simp only [List.dropLast_concat];have bH:AK c y' U=D0 y.result:=by unfold AK;rw [if_pos bG,bD];show (match c.funcs[f.fn.toNat]? with|some g=>D0 g.result|none=>0)=_;rw [j.fn]
   have bA:=bI.next bK (JQ (x:=U) (i:=(f'.pc - 1).toNat) ω);have e1:(f'.pc - 1).toNat+1=f'.pc.toNat:=ω;rw [e1,bH] at bA;refine ⟨⟨aW,Sh f' y.result (if y.result=true then f.S.getLastD 0 else 0),rfl,⟨y',⟨M.fn0,M.fn,M.pc0,M.loc,M.lv,?_⟩,?_⟩,X,by simp at aX;omega,(h.nums.tick0 d _).1⟩,(h.nums.tick0 d _).2⟩
   .unfold Sh
    intro n w;simp only [List.mem_append] at w;rcases w with w|w
    .exact M.sv n w
    .cases aK:y.result with
     | true=>rw [aK] at w Y;simp at w Y;rw [w];exact Y
     | false=>rw [aK] at w;simp at w
   .show Reach c y' f'.pc.toNat ((f'.S++(if y.result=true then [_] else [])).length:Nat)
    have:(((f'.S++(if y.result=true then [if y.result=true then f.S.getLastD 0 else 0] else [])).length:Nat):Int)=h' - AM c y' U+D0 y.result:=by rw [List.length_append];cases aK:y.result<;>simp [D0]<;>omega
    rw [this];exact bA
 rw [if_neg F];by_cases C:x.op=11
 .rw [if_pos C]
  have b:=BN (c:=c) (y:=y) (x:=x) (by rw [C];decide);rw [C] at b;have V:=hs.lim j.fn k (n:=y.code.length) (by rw [C];rfl);exact h.go d (D8.U (f':={ f with pc:=x.a }) j q k rfl V.1 (Oh (.inl C)) (by rw [b.1,b.2];simp [Bk,DI]) rfl r v) rfl
 rw [if_neg C];by_cases D:x.op=12
 .rw [if_pos D]
  have b:=BN (c:=c) (y:=y) (x:=x) (by rw [D];decide);rw [D] at b;rw [b.1] at o;simp [Bk] at o;have V:=hs.lim j.fn k (n:=y.code.length) (by rw [D];rfl);split
  .exact h.go d (D8.U (f':={ f with pc:=x.a,S:=f.S.dropLast }) j q k rfl V.1 (Oh (.inr D)) (by rw [b.1,b.2];show ((f.S.dropLast.length:Nat):Int)=_;rw [u];simp [Bk,DI];omega) rfl r s) rfl
  .exact h.go d (D8.next j q k (by rw [D];decide) _ _ (by rw [b.1,b.2,u];simp [Bk,DI];omega) rfl r s) rfl
 rw [if_neg D];by_cases G:x.op=13
 .rw [if_pos G]
  have b:=BN (c:=c) (y:=y) (x:=x) (by rw [G];decide);rw [G] at b;split
  .exact h.fails d 20 ω _
  .rename_i hf0
   have ht:=D8.next j q k (by rw [G];decide) f.L f.S (by rw [b.1,b.2];simp [Bk,DI]) rfl r v;obtain ⟨n1,n2,n3,n4,n5⟩:=h.nums;unfold Co at n5;refine ⟨⟨fs,_,rfl,ht,h.low,h.len,?_⟩,?_⟩
   .exact ⟨by show 0<=m.Y - 1;omega,by show (0:Int)<=0;omega,by show (0:Int)<=100000;omega,n4,by show m.C+((m.Y - 1)*100001+(100000 - 0))<=_;omega⟩
   .show (m.Y - 1)*100001+(100000 - 0)<m.Y*100001+(100000 - m.I);omega
 rw [if_neg G];by_cases H:x.op=14
 .rw [if_pos H]
  have b:=BN (c:=c) (y:=y) (x:=x) (by rw [H];decide);rw [H] at b;rw [b.1] at o;simp [Bk] at o;have bP:=A ω;exact h.go d (D8.next j q k (by rw [H];decide) _ _ (by rw [b.1,b.2,List.length_append,u];simp [Bk,DI];omega) rfl r (B s (by unfold BP at *;omega))) rfl
 rw [if_neg H];by_cases I:x.op=26
 .rw [if_pos I]
  have b:=BN (c:=c) (y:=y) (x:=x) (by rw [I];decide);rw [I] at b;rw [b.1] at o;simp [Bk] at o;exact h.go d (D8.next j q k (by rw [I];decide) _ _ (by rw [b.1,b.2,List.length_append,u];simp [Bk,DI];omega) rfl r (B s (b2 _))) rfl
 rw [if_neg I];by_cases J:x.op=29
 .rw [if_pos J]
  have b:=BN (c:=c) (y:=y) (x:=x) (by rw [J];decide);rw [J] at b;rw [b.1] at o;simp [Bk] at o;exact h.go d (D8.next j q k (by rw [J];decide) _ _ (by rw [b.1,b.2,List.length_append,u];simp [Bk,DI];omega) rfl r (B s (MX _))) rfl
 rw [if_neg J];by_cases K:x.op=30
 .rw [if_pos K]
  have b:=BN (c:=c) (y:=y) (x:=x) (by rw [K];decide);rw [K] at b;rw [b.1] at o;simp [Bk] at o;exact h.go d (D8.next j q k (by rw [K];decide) _ _ (by rw [b.1,b.2,u];simp [Bk,DI];omega) rfl r s) rfl
 rw [if_neg K];by_cases L:x.op=31
 .rw [if_pos L]
  have b:=BN (c:=c) (y:=y) (x:=x) (by rw [L];decide);rw [L] at b;rw [b.1] at o;simp [Bk] at o;exact h.go d (D8.next j q k (by rw [L];decide) _ _ (by rw [b.1,b.2,List.length_append,List.length_append,u];simp [Bk,DI];omega) rfl r (B (B s (A ω)) (A ω))) rfl
 rw [if_neg L];have Z:=Qn bB.1 bB.2 ⟨e,E,N,O,P,Q,R,S,T,F,C,D,G,H,I,J,K,L⟩;have b:=JH (c:=c) (y:=y) Z;rw [b.1] at o;split
 .rename_i hE
  have ht:=D8.next j q k ⟨F,C⟩ f.L (f.S.dropLast.dropLast++[Du x.op (f.S.dropLast.getLastD 0) (f.S.getLastD 0)]) (by rw [b.1,b.2,List.length_append,aZ];simp;omega) rfl r (B aT (K9 Z (hu ω) (A ω) hE));exact ⟨⟨fs,_,rfl,ht,h.low,h.len,(h.nums.tick d _ (KV _) _).1⟩,(h.nums.tick d _ (KV _) _).2⟩
 .rename_i hE
  exact ⟨(h.nums.tick d _ (KV _) _).1,.inl ⟨_,Tx hE,rfl⟩⟩
def UD {f:BK} (h:Pg c f) (d:x∈f.code):- AM c f x+AK c f x<=1:=by
 have i:=h.pops x d;by_cases e:x.op=9
 .have a:AK c f x<=1:=by
   unfold AK;rw [if_pos e];cases Dt c x.a with
   | none=>simp
   | some g=>have:=Pm g.result;simp only [];omega
  omega
 by_cases b:x.op=10
 .have a:AK c f x=0:=by unfold AK;rw [if_neg e,if_pos b]
  omega
 by_cases t:BB x.op
 .have:=JH (c:=c) (y:=f) t;omega
 .have:=BN (c:=c) (y:=f) (x:=x) ⟨e,b,t⟩
  rw [this.1,this.2];unfold Bk DI
  repeat' split
  all_goals omega
inductive Fq (m:AV):KM->Prop
 | go (m1:AV):Fq m (.go m1)
 | stop (r:Rq) (m1:AV):m1.Y=m.Y/\(m1.I=m.I+1\/m1.I=m.I)->Fq m (.stop r m1)
def Fq.ite {p:Prop} [Decidable p] {a b:KM} (c:Fq m a) (d:Fq m b):Fq m (if p then a else b):=by split<;>assumption
def Sv (c:AQ) (m:AV) (fs:List AY) (f:AY) (y:BK) (x:Cd):Fq m (Df c m fs f y x):=by
 unfold Df;simp only []
 repeat' apply Fq.ite
 all_goals first|exact .go _|exact .stop _ _ ⟨rfl,.inl rfl⟩|exact .stop _ _ ⟨rfl,.inr rfl⟩|skip
 .cases Dt c x.a with
  | none=>exact .stop _ _ ⟨rfl,.inr rfl⟩
  | some z=>
   simp only [];apply Fq.ite
   .exact .go _
   .exact .stop _ _ ⟨rfl,.inl rfl⟩
 .cases fs.getLast? with
  | none=>exact .stop _ _ ⟨rfl,.inl rfl⟩
  | some z=>exact .go _
def U0 (hs:AU c) (h:Dr c m fs f) (a:stepP c m=.stop r m1):Co m1<=Co m:=by
 by_cases b:100000<=m.I
 .unfold stepP at a
  rw [if_pos b] at a;cases a;exact Int.le_refl _
 have b:m.I<100000:=ω;obtain ⟨y,x,e,k,g,j,i⟩:=h.at_ hs;rw [h.stepP e.fn g b] at a;have d:Fq m (.stop r m1):=by rw [<-a];exact Sv c m fs f y x
 obtain ⟨l,n⟩:m1.Y=m.Y/\(m1.I=m.I+1\/m1.I=m.I):=by cases d with|stop _ _ d=>exact d
 unfold Co;omega
def EG (r:Rq) (m:AV):AV:={ m with Q:=r,J:=if r.K=4\/r.K=5 then [] else m.J }
inductive Cf (c:AQ):AV->AV->Prop
 | stop {m:AV} {r:Rq} {m1:AV}:stepP c m=.stop r m1->Cf c m (EG r m1)
 | go {m m1 m2:AV}:stepP c m=.go m1->Cf c m1 m2->Cf c m m2
def DQ (c:AQ) (m:AV):Prop:=
 EB m/\((∃ e,(e=5\/e=6\/e=17\/e=18\/e=19\/e=20)/\m.Q=Ah e/\m.J=[])\/(∃ v,BP v/\m.Q=EE v/\m.J=[])\/∃ fs f,C9 c m m.Q fs f)
def EW (h:Ko x r):r.K=1\/r.K=2\/r.K=3:=by
 rcases h with ⟨_,rfl⟩|⟨v,_,_,rfl⟩|⟨n,_,_,_,rfl⟩|⟨n,v,_,_,_,_,rfl⟩|⟨_,rfl⟩<;>simp
def IW.P (h:IW c r m):DQ c (EG r m):=by
 obtain ⟨a,h⟩:=h;refine ⟨⟨a.Y,a.idle0,a.idle1,a.cmp0,a.potle⟩,?_⟩;rcases h with ⟨e,g,rfl⟩|⟨v,i,rfl,o⟩|⟨fs,f,b⟩
 .exact .inl ⟨e,g,rfl,rfl⟩
 .exact .inr (.inl ⟨v,i,rfl,rfl⟩)
 .right;right
  obtain ⟨y,x,p,j,k,l,d,n⟩:=b.top;have q:=EW d;have e:EG r m={ m with Q:=r }:=by unfold EG;rw [if_neg ω]
  rw [e];exact ⟨fs,f,b.fr,b.top,b.low,b.len⟩
def Kb {d:AV} (g:Cf c m m1) (e:Cf c m d):m1=d:=by
 induction g generalizing d with
 | stop b=>
  cases e with
  | stop a=>rw [b] at a;cases a;rfl
  | go a _=>rw [b] at a;cases a
 | go b _ h=>
  cases e with
  | stop a=>rw [b] at a;cases a
  | go a f=>rw [b] at a;cases a;exact h f
def Md (hs:AU c) {m':AV} (h:Cf c m m'):∀ fs f,Dr c m fs f->DQ c m'/\Co m'<=Co m:=by
 induction h with
 | stop a=>intro fs f b;have:=GA hs b;rw [a] at this;refine ⟨IW.P this,?_⟩;rename_i m r m1;show Co m1<=Co m;exact U0 hs b a
 | go a _ i=>intro fs f b;have:=GA hs b;rw [a] at this;obtain ⟨⟨d,f',e⟩,k⟩:=this;obtain ⟨g,j⟩:=i d f' e;exact ⟨g,ω⟩
def C9.push (h:C9 c m r fs f) (d:EB m) (p:r.K=1\/r.K=3) (n:Int) (u:BP n) (q:Rq) :
  Dr c { m with Q:=q,J:=fs++[{ f with S:=f.S++[n] }] } fs { f with S:=f.S++[n] }:=by
 obtain ⟨y,x,o,b,z,w,l,t,A⟩:=h.top;refine ⟨rfl,⟨y,⟨b.fn0,b.fn,b.pc0,b.loc,b.lv,λa g=>?_⟩,?_⟩,h.low,h.len,⟨d.Y,d.idle0,d.idle1,d.cmp0,d.potle⟩⟩
 .rw [List.mem_append,List.mem_singleton] at g
  rcases g with e|e
  .exact b.sv a e
  .rw [e];exact u
 .have aD:(x.op=4\/x.op=6\/x.op=8):=by rcases l with ⟨h,rfl⟩|⟨v,_,_,rfl⟩|⟨n,h,_,_,rfl⟩|⟨n,v,_,_,_,_,rfl⟩|⟨h,rfl⟩<;>simp at p<;>omega
  have s:=BN (c:=c) (y:=y) (x:=x) (by unfold BB;omega);have k:AK c y x=1:=by rw [s.2];unfold DI;rw [if_pos ω]
  have j:=t.next w (JQ (x:=x) (i:=(f.pc - 1).toNat) ω);rw [k,show (f.pc - 1).toNat+1=f.pc.toNat by omega] at j;show Reach c y f.pc.toNat ((f.S++[n]).length:Nat);rw [List.length_append];simp only [List.length_singleton];rw [show ((f.S.length+1:Nat):Int)=o - AM c y x+1 by omega];exact j
def C9.goOn (h:C9 c m r fs f) (a:EB m) (k:r.K=2) (q:Rq):Dr c { m with Q:=q } fs f:=by
 obtain ⟨y,x,j,g,t,p,e,o,u⟩:=h.top;refine ⟨h.fr,⟨y,g,?_⟩,h.low,h.len,⟨a.Y,a.idle0,a.idle1,a.cmp0,a.potle⟩⟩;have s:(x.op=5\/x.op=7):=by rcases e with ⟨h,rfl⟩|⟨v,h,_,rfl⟩|⟨n,h,_,_,rfl⟩|⟨n,v,h,_,_,_,rfl⟩|⟨h,rfl⟩<;>simp at k<;>omega
 have l:=BN (c:=c) (y:=y) (x:=x) (by unfold BB;omega);have d:AK c y x=0:=by rw [l.2];unfold DI;rw [if_neg ω,if_neg ω]
 have b:=o.next p (JQ (x:=x) (i:=(f.pc - 1).toNat) ω);rw [d,show (f.pc - 1).toNat+1=f.pc.toNat by omega] at b;rw [show ((f.S.length:Nat):Int)=j - AM c y x+0 by omega];exact b
inductive R7 (c:AQ) (f:BK):List Nat->Nat->Int->Prop
 | zero:R7 c f [] 0 0
 | next {l:List Nat} {i k:Nat} {n:Int} {x:Cd}:R7 c f l i n->i∉l->f.code[i]?=ς x->k∈Am x i->R7 c f (i::l) k (n - AM c f x+AK c f x)
def R7.reach {f:BK} (h:R7 c f l i n):Reach c f i n:=by
 induction h with
 | zero=>exact Reach.zero c f
 | next _ _ b a d=>exact d.next b a
def R7.cut {f:BK} (hs:CQ c f) (h:R7 c f l i n) (a:k∈l):∃ d m,R7 c f d k m/\k∉d:=by
 induction h with
 | zero=>simp at a
 | next e b j _ g=>
  rw [ϰ] at a;rcases a with rfl|a
  .exact ⟨_,_,e,b⟩
  .exact g a
def XW {f:BK} (hs:CQ c f) (h:Reach c f i n):∃ l,R7 c f l i n/\i∉l:=by
 have:=h (λi n=>∃ l,R7 c f l i n/\i∉l) ⟨[],.zero,ψ⟩ (λi n x k ⟨l,j,d⟩ o g=>by
  have a:=R7.next j d o g;by_cases b:k∈i::l
  .obtain ⟨l',m,aB,aD⟩:=a.cut hs b
   have e:=hs.2 k _ _ aB.reach a.reach;rw [e] at aB;exact ⟨l',aB,aD⟩
  .exact ⟨_,a,b⟩)
 exact this
def R7.low {f:BK} (q:Pg c f) (h:R7 c f l i n):n<=l.length/\l.Nodup/\∀ j∈l,j<f.code.length:=by
 induction h with
 | zero=>simp
 | @next l i k n x t g m s p=>
  have o:=Lm m;have r:=UD q o;obtain ⟨a,b,d⟩:=p;refine ⟨by simp;omega,List.nodup_cons.2 ⟨g,b⟩,λj e=>?_⟩;rw [ϰ] at e;rcases e with rfl|e
  .exact (Ll m)
  .exact d j e
def Ou:∀ (n:Nat) (l:List Nat),l.Nodup->(∀ j∈l,j<n)->l.length<=n
 | 0,l,_,h=>by
  cases l with
  | nil=>simp
  | cons a l=>have:=h a ψ;omega
 | n+1,l,d,h=>by
  have b:=Ou n (l.erase n) (d.erase n) (λj f=>by
   have e:=d.mem_erase_iff.1 f;have:=h j e.2;omega)
  by_cases c:n∈l
  .rw [List.length_erase_of_mem c] at b;omega
  .rw [List.erase_of_not_mem c] at b;omega
def DJ {f:BK} (e:Pg c f) (hs:CQ c f) (h:Reach c f i n):n<=f.code.length:=by
 obtain ⟨l,d,_⟩:=XW hs h;obtain ⟨g,a,b⟩:=d.low e;have:l.length<=f.code.length:=by exact Ou _ _ a b
 omega
def Cv (w:Ϣ) (fv:ϒ) (fs:List AY) (F:List Nat):Prop:=
 ∃ cells Fr,w.ownsRow 0 150 4 fv fs.length cells/\BJ w cells fs Fr/\F=fv.ownBlock.toList++Fr/\F.Nodup
def Ab :Ak w bm m F↔∃ fv a,w.heap[bm]?=ς (χ (AC fv m) 59 (0,0))/\Cv w fv m.J a/\F=bm::a/\bm∉a:=by
 constructor
 .rintro ⟨fv,cells,Fr,h1,h2,h3,rfl,h5⟩
  rw [List.nodup_cons] at h5;exact ⟨fv,_,h1,⟨cells,Fr,h2,h3,rfl,h5.2⟩,rfl,h5.1⟩
 .rintro ⟨fv,a,h1,⟨cells,Fr,h2,h3,rfl,h4⟩,rfl,h5⟩
  exact ⟨fv,cells,Fr,h1,h2,h3,rfl,List.nodup_cons.2 ⟨h5,h4⟩⟩
def Cv.kp (h:Cv w fv fs F) (e:∀ b∈F,w'.heap[b]?=w.heap[b]?):Cv w' fv fs F:=by
 obtain ⟨a,f,d,j,rfl,k⟩:=h;refine ⟨a,f,⟨d.1,?_⟩,j.kp (λb h=>e b (by simp [h])),rfl,k⟩;rcases d.2 with h|⟨g,c,i,rfl,l,m,n⟩
 .exact .inl h
 .exact .inr ⟨g,c,i,rfl,l,by rw [e g (by simp [Value.ownBlock])];exact m,n⟩
def Cv.lt (d:Cv w fv fs F):∀ b∈F,b<(w:Nat):=by
 obtain ⟨c,i,f,h,rfl,j⟩:=d;intro b a;rw [List.mem_append] at a;rcases a with a|a
 .rcases f.2 with ⟨e,_⟩|⟨g,cap,aA,rfl,_,hg,_⟩
  .rw [e] at a;simp [Value.ownBlock] at a
  .simp [Value.ownBlock] at a;subst a;exact (La hg)
 .exact h.lt b a
def Ak.lt (h:Ak w bm m F):∀ b∈F,b<(w:Nat):=by
 obtain ⟨fv,e,c,d,rfl,f⟩:=Ab.1 h;intro b a;rw [ϰ] at a;rcases a with rfl|a
 .exact (La c)
 .exact d.lt b a
def Cv.form (h:Cv w fv fs F):∃ a b,fv=σ a fs b:=by
 obtain ⟨c,i,f,_⟩:=h;rcases f.2 with ⟨e,d⟩|⟨g,b,j,e,_⟩
 .exact ⟨none,0,by rw [e,d]⟩
 .exact ⟨_,_,e⟩
def Ds (w:Ϣ):Cv w ν [] []:=⟨[],[],⟨rfl,.inl ⟨rfl,rfl⟩⟩,⟨rfl,rfl⟩,rfl,List.nodup_nil⟩
def BO (w:Ϣ) (bm:Nat) (r:Rq):Ϣ:=((((w.setCell (π bm 1) (ι r.K)).setCell (π bm 2) (ι r.O)).setCell (π bm 3) (ι r.D)).setCell (π bm 4) (ι r.V)).setCell (π bm 5) (ι r.X)
def BX {j:Nat} :AW [bm] [bm] w (w.setCell (π bm j) v):=⟨rfl,rfl,rfl,ψ,λk a hF=>heap_setCell_other _ _ _ _ (λe=>hF (by simp [e])),λ_ h=>.inl h⟩
def L7 (fv:ϒ) (m:AV) (r:Rq):((((((AC fv m).setIfInBounds 1 (ι r.K)).setIfInBounds 2 (ι r.O)).setIfInBounds 3 (ι r.D)).setIfInBounds 4 (ι r.V)).setIfInBounds 5 (ι r.X))=AC fv { m with Q:=r }:=by kernel_rfl
def CY (fv v:ϒ) (m:AV):(AC fv m).setIfInBounds 0 v=AC v m:=by kernel_rfl
def EP (f:w.heap[bm]?=ς (χ (AC fv m) 59 (0,0))) (r:Rq) :
  (BO w bm r).heap[bm]?=ς (χ (AC fv { m with Q:=r }) 59 (0,0))/\AW [bm] [bm] w (BO w bm r):=by
 unfold BO;have b:=ϡ _ bm 1 _ _ (ι r.K) f;have c:=ϡ _ bm 2 _ _ (ι r.O) b;have d:=ϡ _ bm 3 _ _ (ι r.D) c;have e:=ϡ _ bm 4 _ _ (ι r.V) d;have a:=ϡ _ bm 5 _ _ (ι r.X) e;rw [L7] at a;exact ⟨a,(((BX.trans BX).trans BX).trans BX).trans BX⟩
def AJ (fv:ϒ) (m:AV):ϒ:=.agg (AC fv m)
def AI:AV:=⟨[],⟨0,0,0,0,0⟩,0,0,0⟩
def CE (w:Ϣ) (fv:ϒ) (m:AV) (w':Ϣ):Prop:=∃ F,Cv w' fv m.J F/\(∀ b∈F,(w:Nat)<=b)/\Below w w w'
def Ai (W:Ϣ) (R:Nat) (fv:ϒ) (m:AV):Ϣ:=((((((((W.setCell (π R 0) fv).setCell (π R 1) (ι m.Q.K)).setCell (π R 2) (ι m.Q.O)).setCell (π R 3) (ι m.Q.D)).setCell (π R 4) (ι m.Q.V)).setCell (π R 5) (ι m.Q.X)).setCell (π R 6) (ι m.Y)).setCell (π R 7) (ι m.C)).setCell (π R 8) (ι m.I)
def L6 (fv0 fv:ϒ) (m0 m:AV):(((((((((AC fv0 m0).setIfInBounds 0 fv).setIfInBounds 1 (ι m.Q.K)).setIfInBounds 2 (ι m.Q.O)).setIfInBounds 3 (ι m.Q.D)).setIfInBounds 4 (ι m.Q.V)).setIfInBounds 5 (ι m.Q.X)).setIfInBounds 6 (ι m.Y)).setIfInBounds 7 (ι m.C)).setIfInBounds 8 (ι m.I)=AC fv m:=by kernel_rfl
def AZ {fv0:ϒ} {m0:AV} (h:W.heap[R]?=ς (χ (AC fv0 m0) 59 (0,0))) (fv:ϒ) (m:AV) :
  (Ai W R fv m).heap[R]?=ς (χ (AC fv m) 59 (0,0))/\AW [R] [R] W (Ai W R fv m):=by
 unfold Ai;have b:=ϡ _ R 0 _ _ fv h;have c:=ϡ _ R 1 _ _ (ι m.Q.K) b;have d:=ϡ _ R 2 _ _ (ι m.Q.O) c;have e:=ϡ _ R 3 _ _ (ι m.Q.D) d;have f:=ϡ _ R 4 _ _ (ι m.Q.V) e;have g:=ϡ _ R 5 _ _ (ι m.Q.X) f;have i:=ϡ _ R 6 _ _ (ι m.Y) g;have j:=ϡ _ R 7 _ _ (ι m.C) i;have a:=ϡ _ R 8 _ _ (ι m.I) j;rw [L6] at a;exact ⟨a,(((((((BX.trans BX).trans BX).trans BX).trans BX).trans BX).trans BX).trans BX).trans BX⟩
def AD (h:W.heap[R]?=ς (χ (AC fv m) 59 (0,0))) (j:Nat) (v:ϒ) (a:(AC fv m)[j]?=ς v):W.cell? (π R j)=ς v:=by
 rw [cell_of_row _ _ _ _ _ _ h];exact a
def MW (h:W.heap[R]?=ς (χ (AC fv m) 59 (0,0))):(loadVar 59 (π R 0)).run prog W=.ok (AJ fv m) W:=by
 have a:=AD h 0 fv rfl;have b:=AD h 1 (ι m.Q.K) rfl;have c:=AD h 2 (ι m.Q.O) rfl;have d:=AD h 3 (ι m.Q.D) rfl;have e:=AD h 4 (ι m.Q.V) rfl;have f:=AD h 5 (ι m.Q.X) rfl;have g:=AD h 6 (ι m.Y) rfl;have i:=AD h 7 (ι m.C) rfl;have j:=AD h 8 (ι m.I) rfl;simp [go_sem,AJ,AC,a,b,c,d,e,f,g,i,j]
def Bp {p u:Tmp} (d:fn.results=#[.cell p 59,.tmp u]) (h:W.heap[R]?=ς (χ (AC fv m) 59 (0,0))) (a:Array ϒ) (e:ϒ) (b:a.getD p undef=.pointer (ς (π R 0))) (c:a.getD u undef=e) :
  (results fn a).run prog W=.ok (.tuple #[AJ fv m,e]) W:=by
 rw [results_cell_tmp d,b,c];simp [asAddr,MW h,Result.andThen]
def AL {p:Tmp} (c:fn.results=#[.cell p 59]) (h:W.heap[R]?=ς (χ (AC fv m) 59 (0,0))) (a:Array ϒ) (b:a.getD p undef=.pointer (ς (π R 0))) :
  (results fn a).run prog W=.ok (AJ fv m) W:=by
 simp only [results,c];rw [Array.getD_eq_getD_getElem?] at b;simp [b,asAddr,MW h,Result.andThen,Sem.run_bind]
def XZ (r:Rq):ϒ:=.agg #[ι r.K,ι r.O,ι r.D,ι r.V,ι r.X]
def Eg:Rq:=⟨0,0,0,0,0⟩
def CE.later {c:Ϣ} (h:CE c fv m w') (a:Below w w c):CE w fv m w':=by
 obtain ⟨F,e,f,g⟩:=h;exact ⟨F,e,λb d=>Nt a.size (f b d),a.th g⟩
def Bv (c:AQ):Prop:=∀ y∈c.funcs,y.code.length<=100000
def Ge.small (hs:AU c) (b:Bv c):∀ {l:List AY} {k:Int},Ge c l k->∀ f∈l,f.S.length<=100000
 | [],_,_,f,a=>by simp at a
 | g::r,k,h,f,a=>by
  rw [ϰ] at a;rcases a with rfl|a
  .obtain ⟨y,x,hh,hb,h1,hx,_,hr,hl⟩:=h.1
   have d:=DJ (hs.wf hb.fn) (hs.snd hb.fn) hr;have e:=b y (Lm hb.fn);have i:=((hs.wf hb.fn).pops x (Lm hx)).1;omega
  .exact Ge.small hs b h.2 f a
def Dh (c:AQ) (nm:ByteArray):Int:=Cz (λf=>CM f.name nm) c.funcs
def AS (c:AQ) (x:Bi) (fuel:Int):Int:=
 if fuel<0\/1048576<fuel then 2 else match c.funcs[(Dh c x.proc).toNat]? with
 | none=>9
 | some y=>if Dh c x.proc<0 then 9 else if (x.args:Int)≠y.params then 3 else if x.args.any (λn=>!Af n) then 11 else 0
def CF (c:AQ) (x:Bi) (fuel:Int):AV:=
 ⟨[⟨Dh c x.proc,0,x.args++ϱ (((c.funcs[(Dh c x.proc).toNat]?).map (λy=>(y.L - y.params).toNat)).getD 0) 0,[]⟩],⟨0,0,0,0,0⟩,fuel,0,0⟩
def G1 (p:α->Bool) (l:List α):Cz p l = -1\/∃ i:Nat,i<l.length/\Cz p l=i:=by
 unfold Cz;cases h:l.findIdx? p with
 | none=>exact .inl rfl
 | some i=>exact .inr ⟨i,(List.findIdx?_eq_some_iff_getElem.1 h).1,rfl⟩
def AE.form {B:Nat} {sz:Nat} {E:Ϣ->Nat->Nat->α->Prop} {l:List α} (h:AE B w sz E v l):∃ a b,v=σ a l b:=by
 obtain ⟨a,b,rfl,_⟩:=h;exact ⟨a,b,rfl⟩
def Bj (r:Rq) (n:Int):Bool:=if r.K=1 then Af n else if r.K=3 then decide (0<=n/\n<=1099511627776) else true
def ED (c:AQ) (m:AV) (n:Int) (m':AV):Prop:=
 (m.Q.K=3/\n=0/\m'={ m with J:=[],Q:=Ah 21 })\/
 ((m.Q.K=1\/m.Q.K=3/\n≠0)/\∃ fs f,m.J=fs++[f]/\Cf c { m with Q:=Eg,J:=fs++[{ f with S:=f.S++[n] }] } m')\/
 (m.Q.K=2/\Cf c { m with Q:=Eg } m')
