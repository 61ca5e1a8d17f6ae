import Derived.Test.YtiejafonjemioaaGreatDoorStep0
import Derived.Laws.ResultCell
set_option maxHeartbeats 1000000
set_option maxRecDepth 100000
set_option linter.unusedVariables false
set_option linter.unusedSimpArgs false
open Go.Value renaming slice→σ
open Go.Obj renaming cells→χ
namespace Go.Proofs.YtiejafonjemioaaGreatDoor
open Go.RowKit
variable {α:Type} {n op a b:Int} {st:List Int} {c:Cod} {y:Fun} {k p i bm R:Nat} {x:Ins} {f f':Fra} {m m1:Mch} {fs:List Fra} {l F:List Nat} {r:Rq} {w w' W:World} {fv v:Value} {fn:Func}
def isV (n:Int):Prop:=-1099511627776<=n/\n<=1099511627776
theorem Ye :X1 n=true↔isV n:=by unfold X1 isV;simp
theorem isV.in64 (h:isV n):in64 n:=by unfold isV at h;unfold Go.Proofs.YtiejafonjemioaaGreatDoor.in64;omega
def Jn (v:Int):Int:=(Lib.bitLen (max 1 v).toNat:Int) - 1
def Z0 (c:Cod) (m:Mch) (fs:List Fra) (f:Fra) (y:Fun) (x:Ins):Out:=
 let l:=f.stack.dropLast
 let v:=f.stack.getLastD 0
 let l2:=l.dropLast
 let u:=l.getLastD 0
 if x.op=1 then .go { m with idle:=m.idle+1,frames:=fs++[{ f with pc:=f.pc+1,stack:=f.stack++[x.a] }] }
 else if x.op=2 then .go { m with idle:=m.idle+1,frames:=fs++[{ f with pc:=f.pc+1,stack:=f.stack++[f.locals.getD x.a.toNat 0] }] }
 else if x.op=3 then .go { m with idle:=m.idle+1,frames:=fs++[{ f with pc:=f.pc+1,locals:=f.locals.set x.a.toNat v,stack:=l }] }
 else if x.op=4 then .stop ⟨1,0,x.a,0,0⟩ { m with idle:=m.idle+1,frames:=fs++[{ f with pc:=f.pc+1 }] }
 else if x.op=5 then .stop ⟨2,0,x.a,v,0⟩ { m with idle:=m.idle+1,frames:=fs++[{ f with pc:=f.pc+1,stack:=l }] }
 else if x.op=6 then (if v<1 then .stop (X0 17) { m with idle:=m.idle+1,frames:=fs++[{ f with pc:=f.pc+1,stack:=l }] } else .stop ⟨1,v,x.a,0,0⟩ { m with idle:=m.idle+1,frames:=fs++[{ f with pc:=f.pc+1,stack:=l }] })
 else if x.op=7 then (if u<1 then .stop (X0 17) { m with idle:=m.idle+1,frames:=fs++[{ f with pc:=f.pc+1,stack:=l2 }] } else .stop ⟨2,u,x.a,v,0⟩ { m with idle:=m.idle+1,frames:=fs++[{ f with pc:=f.pc+1,stack:=l2 }] })
 else if x.op=8 then .stop ⟨3,0,x.a,0,0⟩ { m with idle:=m.idle+1,frames:=fs++[{ f with pc:=f.pc+1 }] }
 else if x.op=9 then (match Je c x.a with
  | none=>.stop (X0 0) m
  | some z=>
   let n:=f.stack.length - z.params.toNat
   if fs.length+1<200 then .go { m with idle:=m.idle+1,frames:=fs++[{ f with pc:=f.pc+1,stack:=f.stack.take n }]++[⟨x.a,0,f.stack.drop n++List.replicate (z.locals - z.params).toNat 0,[]⟩] }
   else .stop (X0 19) { m with idle:=m.idle+1,frames:=fs++[{ f with pc:=f.pc+1,stack:=f.stack.take n }] })
 else if x.op=10 then (match fs.getLast? with
  | none=>.stop (Jc (if y.result then v else 0)) { m with idle:=m.idle+1,frames:=[] }
  | some f'=>.go { m with idle:=m.idle+1,frames:=fs.dropLast++[Xll f' y.result (if y.result then v else 0)] })
 else if x.op=11 then .go { m with idle:=m.idle+1,frames:=fs++[{ f with pc:=x.a }] }
 else if x.op=12 then (if v=0 then .go { m with idle:=m.idle+1,frames:=fs++[{ f with pc:=x.a,stack:=l }] } else .go { m with idle:=m.idle+1,frames:=fs++[{ f with pc:=f.pc+1,stack:=l }] })
 else if x.op=13 then (if m.fuel=0 then .stop (X0 20) { m with idle:=m.idle+1,frames:=fs++[{ f with pc:=f.pc+1 }] } else .go { m with fuel:=m.fuel - 1,idle:=0,frames:=fs++[{ f with pc:=f.pc+1 }] })
 else if x.op=14 then .go { m with idle:=m.idle+1,frames:=fs++[{ f with pc:=f.pc+1,stack:=l++[-v] }] }
 else if x.op=26 then .go { m with idle:=m.idle+1,frames:=fs++[{ f with pc:=f.pc+1,stack:=l++[b2i (v == 0)] }] }
 else if x.op=29 then .go { m with idle:=m.idle+1,frames:=fs++[{ f with pc:=f.pc+1,stack:=l++[Jn v] }] }
 else if x.op=30 then .go { m with idle:=m.idle+1,frames:=fs++[{ f with pc:=f.pc+1,stack:=l }] }
 else if x.op=31 then .go { m with idle:=m.idle+1,frames:=fs++[{ f with pc:=f.pc+1,stack:=l++[v]++[v] }] }
 else if Yb x.op u v=0 then .go { m with idle:=m.idle+1,compares:=m.compares+Zk x.op,frames:=fs++[{ f with pc:=f.pc+1,stack:=l2++[Qk x.op u v] }] }
 else .stop (X0 (Yb x.op u v)) { m with idle:=m.idle+1,compares:=m.compares+Zk x.op,frames:=fs++[{ f with pc:=f.pc+1,stack:=l2 }] }
def stepP (c:Cod) (m:Mch):Out:=
 if 100000<=m.idle then .stop (X0 6) m else match m.frames.getLast? with
 | none=>.stop (X0 0) m
 | some f=>match c.funcs[f.fn.toNat]? with
  | none=>.stop (X0 0) m
  | some y=>match y.code[f.pc.toNat]? with
   | none=>.stop (X0 0) m
   | some x=>Z0 c m m.frames.dropLast f y x
structure Xaa (c:Cod) (f:Fra) (y:Fun):Prop where
 fn0:0<=f.fn
 fn:c.funcs[f.fn.toNat]?=some y
 pc0:0<=f.pc
 loc:(f.locals.length:Int)=y.locals
 lv:∀ n∈f.locals,isV n
 sv:∀ n∈f.stack,isV n
def Jo (c:Cod) (f:Fra):Prop:=∃ y,Xaa c f y/\Reach c y f.pc.toNat f.stack.length
def Jb (c:Cod) (g:Fra) (P:Ins->Prop):Prop:=
 ∃ y x h,Xaa c g y/\1<=g.pc/\y.code[(g.pc - 1).toNat]?=some x/\P x/\Reach c y (g.pc - 1).toNat h/\(g.stack.length:Int)=h - Xm c y x
def Vr (c:Cod):List Fra->Int->Prop
 | [],_=>True
 | g::r,k=>Jb c g (fun x=>x.op=9/\x.a=k)/\Vr c r g.fn
def pot (m:Mch):Int:=m.fuel*100001+(100000 - m.idle)
structure Ug (m:Mch):Prop where
 fuel:0<=m.fuel
 idle0:0<=m.idle
 idle1:m.idle<=100000
 cmp0:0<=m.compares
 potle:m.compares+pot m<=4611686018427387904
structure Ja (c:Cod) (m:Mch) (fs:List Fra) (f:Fra):Prop where
 fr:m.frames=fs++[f]
 top:Jo c f
 low:Vr c fs.reverse f.fn
 len:fs.length<200
 nums:Ug m
def Xf1 (x:Ins) (r:Rq):Prop:=
 (x.op=4/\r=⟨1,0,x.a,0,0⟩)\/(∃ v,x.op=5/\isV v/\r=⟨2,0,x.a,v,0⟩)\/(∃ n,x.op=6/\1<=n/\isV n/\r=⟨1,n,x.a,0,0⟩)\/(∃ n v,x.op=7/\1<=n/\isV n/\isV v/\r=⟨2,n,x.a,v,0⟩)\/(x.op=8/\r=⟨3,0,x.a,0,0⟩)
structure Qr (c:Cod) (m:Mch) (r:Rq) (fs:List Fra) (f:Fra):Prop where
 fr:m.frames=fs++[f]
 top:Jb c f (fun x=>Xf1 x r)
 low:Vr c fs.reverse f.fn
 len:fs.length<200
def Xa6 (c:Cod) (r:Rq) (m:Mch):Prop:=
 Ug m/\((∃ e,(e=5\/e=6\/e=17\/e=18\/e=19\/e=20)/\r=X0 e)\/(∃ v,isV v/\r=Jc v/\m.frames=[])\/∃ fs f,Qr c m r fs f)
theorem Y9 (h:1<=st.length):st=st.dropLast++[st.getLastD 0]:=by
 have aA:st≠[]:=fun e=>by rw [e] at h;simp at h
 rw [List.getLastD_eq_getLast?,List.getLast?_eq_some_getLast aA]
 exact (List.dropLast_concat_getLast aA).symm
theorem Kv (h:2<=st.length):st=st.dropLast.dropLast++[st.dropLast.getLastD 0]++[st.getLastD 0]:=by
 have h1:=Y9 (st:=st) ω
 have h2:=Y9 (st:=st.dropLast) φ
 rw [<-h2];exact h1
theorem Xv.wf (h:Xv c) (hy:c.funcs[k]?=some y):WfF c y:=Xjy h.1 h.2.1 (Lm hy)
theorem Xv.snd (h:Xv c) (hy:c.funcs[k]?=some y):Zh c y:=h.2.2 y (Lm hy)
theorem Xv.ins (h:Xv c) (hy:c.funcs[k]?=some y) (hx:y.code[p]?=some x):Zq c y x=true:=Xdo h.2.1 (Lm hy) (Lm hx)
theorem Xv.lim (h:Xv c) (hy:c.funcs[k]?=some y) (hx:y.code[p]?=some x) (hn:Jw c y x.op=some n):0<=x.a/\x.a<n:=by
 have:=h.ins hy hx
 have h2:=(h.wf hy).op x (Lm hx)
 unfold Zq at this
 rw [if_neg ω,hn] at this
 simpa using this
theorem Xv.fok (h:Xv c) (hy:c.funcs[k]?=some y):Zr y:=Xfv h.1 (Lm hy)
theorem Jo.step (hb:Xaa c f y) (hr:Reach c y f.pc.toNat f.stack.length) (hx:y.code[f.pc.toNat]?=some x)
  (hfn:f'.fn=f.fn) (h0:0<=f'.pc) (hk:f'.pc.toNat∈X2 x f.pc.toNat) (hlen:(f'.stack.length:Int)=f.stack.length - Xm c y x+Xj c y x)
  (hloc:f'.locals.length=f.locals.length) (hlv:∀ n∈f'.locals,isV n) (hsv:∀ n∈f'.stack,isV n):Jo c f':=
 ⟨y,⟨by rw [hfn];exact hb.fn0,by rw [hfn];exact hb.fn,h0,by rw [hloc];exact hb.loc,hlv,hsv⟩,by rw [hlen];exact hr.next hx hk⟩
theorem Xbd (h:x.op≠10/\x.op≠11):i+1∈X2 x i:=by
 unfold X2;rw [if_neg ω];simp
theorem Xil (h:x.op=11\/x.op=12):x.a.toNat∈X2 x i:=by
 unfold X2;rw [if_pos h];simp
theorem Yo (h:x.op≠9/\x.op≠10/\¬Ya x.op):Xm c y x=Y1 x.op/\Xj c y x=Z7 x.op:=by
 unfold Xm Xj;rw [if_neg h.1,if_neg h.2.1,if_neg h.2.2,if_neg h.1,if_neg h.2.1,if_neg h.2.2];exact ⟨rfl,rfl⟩
theorem Xa8 (h:Ya x.op):Xm c y x=2/\Xj c y x=1:=by
 unfold Xm Xj
 have h9:x.op≠9:=by unfold Ya at h;omega
 have aA:x.op≠10:=by unfold Ya at h;omega
 rw [if_neg h9,if_neg aA,if_pos h,if_neg h9,if_neg aA,if_pos h];exact ⟨rfl,rfl⟩
theorem Xjw (h1:1<=op) (h2:op<=31) (hn:op≠1/\op≠2/\op≠3/\op≠4/\op≠5/\op≠6/\op≠7/\op≠8/\op≠9/\op≠10/\op≠11/\op≠12/\op≠13/\op≠14/\op≠26/\op≠29/\op≠30/\op≠31):Ya op:=by
 unfold Ya;omega
theorem Ja.stepP (h:Ja c m fs f) (hy:c.funcs[f.fn.toNat]?=some y) (hx:y.code[f.pc.toNat]?=some x) (hid:m.idle<100000):stepP c m=Z0 c m fs f y x:=by
 unfold Go.Proofs.YtiejafonjemioaaGreatDoor.stepP
 rw [if_neg ω,h.fr]
 simp [hy,hx]
theorem Ja.at_ (hs:Xv c) (h:Ja c m fs f):∃ y x,Xaa c f y/\Reach c y f.pc.toNat f.stack.length/\y.code[f.pc.toNat]?=some x/\Xm c y x<=f.stack.length/\(x.op=10->(f.stack.length:Int)=Xm c y x):=by
 obtain ⟨y,hb,hr⟩:=h.top
 obtain ⟨x,hx,h1,h2,_⟩:=(hs.snd hb.fn).1 _ _ hr
 exact ⟨y,x,hb,hr,hx,h1,fun e=>by have:=h2 e;omega⟩
theorem Xdb (ht:Ya op) (ha:isV a) (hb:isV b) (h:Yb op a b=0):isV (Qk op a b):=by
 have b2:∀ t,isV (b2i t):=fun t=>by cases t<;>(unfold b2i isV;simp)
 unfold Yb at h
 unfold Qk
 unfold Ya at ht
 by_cases e:op=15
 ·rw [if_pos e] at h ⊢
  by_cases hv:X1 (a+b)=true
  ·exact Ye.1 hv
  ·rw [if_neg hv] at h;omega
 rw [if_neg e] at h ⊢
 by_cases e:op=16
 ·rw [if_pos e] at h ⊢
  by_cases hv:X1 (a - b)=true
  ·exact Ye.1 hv
  ·rw [if_neg hv] at h;omega
 rw [if_neg e] at h ⊢
 by_cases e:op=17
 ·rw [if_pos e] at h ⊢
  by_cases hv:a.natAbs*b.natAbs<=1099511627776
  ·have h2:(a*b).natAbs=a.natAbs*b.natAbs:=Int.natAbs_mul a b
   unfold isV
   omega
  ·rw [if_neg hv] at h;omega
 rw [if_neg e] at h ⊢
 have h1:(a.tdiv b).natAbs<=a.natAbs:=by rw [Int.natAbs_tdiv];exact Nat.div_le_self _ _
 have h2:(a.tmod b).natAbs<=a.natAbs:=by rw [Int.natAbs_tmod];exact Nat.mod_le _ _
 unfold isV at ha hb
 split
 ·unfold isV;omega
 split
 ·unfold isV;omega
 split
 ·exact b2 _
 split
 ·exact b2 _
 split
 ·exact b2 _
 split
 ·exact b2 _
 split<;>(unfold isV;omega)
theorem Xfg (v:Int):isV (Jn v):=by
 unfold Jn isV Lib.bitLen
 have:=K2 64 (max 1 v).toNat
 omega
theorem Jo.next {c:Cod} {f:Fra} {y:Fun} {x:Ins} (hb:Xaa c f y) (hr:Reach c y f.pc.toNat f.stack.length) (hx:y.code[f.pc.toNat]?=some x) (hop:x.op≠10/\x.op≠11) (lo st:List Int)
  (hlen:(st.length:Int)=f.stack.length - Xm c y x+Xj c y x) (hloc:lo.length=f.locals.length) (hlv:∀ n∈lo,isV n) (hsv:∀ n∈st,isV n):Jo c { f with pc:=f.pc+1,locals:=lo,stack:=st }:=by
 have h0:=hb.pc0
 refine Jo.step hb hr hx rfl (by show 0<=f.pc+1;omega) ?_ hlen hloc hlv hsv
 have e:(f.pc+1).toNat=f.pc.toNat+1:=ω
 show (f.pc+1).toNat∈_
 rw [e]
 exact Xbd hop
theorem Jb.next {c:Cod} {f:Fra} {y:Fun} {x:Ins} {P:Ins->Prop} (hb:Xaa c f y) (hr:Reach c y f.pc.toNat f.stack.length) (hx:y.code[f.pc.toNat]?=some x) (hP:P x) (st:List Int)
  (hlen:(st.length:Int)=f.stack.length - Xm c y x) (hsv:∀ n∈st,isV n):Jb c { f with pc:=f.pc+1,stack:=st } P:=by
 have h0:=hb.pc0
 have e:(f.pc+1 - 1).toNat=f.pc.toNat:=ω
 exact ⟨y,x,f.stack.length,⟨hb.fn0,hb.fn,by show 0<=f.pc+1;omega,hb.loc,hb.lv,hsv⟩,by show 1<=f.pc+1;omega,by show y.code[(f.pc+1 - 1).toNat]?=some x;rw [e];exact hx,hP,by show Reach c y (f.pc+1 - 1).toNat _;rw [e];exact hr,hlen⟩
theorem Ug.tick (h:Ug m) (hid:m.idle<100000) (d:Int) (hd:0<=d/\d<=1) (l:List Fra):Ug { m with idle:=m.idle+1,compares:=m.compares+d,frames:=l }/\pot { m with idle:=m.idle+1,compares:=m.compares+d,frames:=l }<pot m:=by
 obtain ⟨h1,h2,h3,h4,h5⟩:=h
 unfold pot at *
 exact ⟨⟨h1,by show 0<=m.idle+1;omega,by show m.idle+1<=100000;omega,by show 0<=m.compares+d;omega,by show m.compares+d+(m.fuel*100001+(100000 - (m.idle+1)))<=_;omega⟩,by show m.fuel*100001+(100000 - (m.idle+1))<_;omega⟩
theorem Ug.tick0 (h:Ug m) (hid:m.idle<100000) (l:List Fra):Ug { m with idle:=m.idle+1,frames:=l }/\pot { m with idle:=m.idle+1,frames:=l }<pot m:=by
 have:=h.tick hid 0 ω l
 rw [show m.compares+0=m.compares by omega] at this
 exact this
theorem getD_some {l:List Int} (h:i<l.length):l[i]?=some (l.getD i 0):=by rw [List.getD_eq_getElem?_getD,Lg h];rfl
theorem Xc3 (op:Int):0<=Zk op/\Zk op<=1:=by unfold Zk;split<;>omega
def Xgg (c:Cod) (m:Mch):Out->Prop
 | .go m'=>(∃ fs f,Ja c m' fs f)/\pot m'<pot m
 | .stop r m'=>Xa6 c r m'
theorem Ja.go (h:Ja c m fs f) (hid:m.idle<100000) (ht:Jo c f') (hfn:f'.fn=f.fn):Xgg c m (.go { m with idle:=m.idle+1,frames:=fs++[f'] }):=
 ⟨⟨fs,f',rfl,ht,by rw [hfn];exact h.low,h.len,(h.nums.tick0 hid _).1⟩,(h.nums.tick0 hid _).2⟩
theorem Ja.fails (h:Ja c m fs f) (hid:m.idle<100000) (e:Int) (he:e=5\/e=6\/e=17\/e=18\/e=19\/e=20) (l:List Fra):Xgg c m (.stop (X0 e) { m with idle:=m.idle+1,frames:=l }):=
 ⟨(h.nums.tick0 hid _).1,.inl ⟨e,he,rfl⟩⟩
theorem Ja.asks (h:Ja c m fs f) (hid:m.idle<100000) (hw:Jb c f' (fun x=>Xf1 x r)) (hfn:f'.fn=f.fn):Xgg c m (.stop r { m with idle:=m.idle+1,frames:=fs++[f'] }):=
 ⟨(h.nums.tick0 hid _).1,.inr (.inr ⟨fs,f',rfl,hw,by rw [hfn];exact h.low,h.len⟩)⟩
theorem Xmm (h:¬Yb op a b=0):Yb op a b=5\/Yb op a b=6\/Yb op a b=17\/Yb op a b=18\/Yb op a b=19\/Yb op a b=20:=by
 unfold Yb at *
 split
 ·rename_i e;rw [if_pos e] at h;split<;>simp_all
 rename_i e;rw [if_neg e] at h
 split
 ·rename_i e;rw [if_pos e] at h;split<;>simp_all
 rename_i e;rw [if_neg e] at h
 split
 ·rename_i e;rw [if_pos e] at h;split<;>simp_all
 rename_i e;rw [if_neg e] at h
 split
 ·rename_i e;rw [if_pos e] at h;split<;>simp_all
 ·rename_i e;rw [if_neg e] at h;omega
theorem K5 (hs:Xv c) (h:Ja c m fs f):Xgg c m (stepP c m):=by
 by_cases aA:100000<=m.idle
 ·unfold stepP
  rw [if_pos aA]
  exact ⟨h.nums,.inl ⟨6,ω,rfl⟩⟩
 have aA:m.idle<100000:=ω
 obtain ⟨y,x,hb,hr,hx,hp,aY⟩:=h.at_ hs
 rw [h.stepP hb.fn hx aA]
 have bB:=(hs.wf hb.fn).op x (Lm hx)
 have aE:=hb.sv
 have aB:=hb.lv
 have aC:∀ n∈f.stack.dropLast,isV n:=fun n hn=>aE n (List.dropLast_subset _ hn)
 have aT:∀ n∈f.stack.dropLast.dropLast,isV n:=fun n hn=>aC n (List.dropLast_subset _ hn)
 have aD:f.stack.dropLast.length=f.stack.length - 1:=List.length_dropLast
 have aZ:f.stack.dropLast.dropLast.length=f.stack.length - 1 - 1:=by rw [List.length_dropLast,aD]
 have hv:1<=f.stack.length->isV (f.stack.getLastD 0):=fun h1=>aE _ (by rw [Y9 h1];simp)
 have hu:2<=f.stack.length->isV (f.stack.dropLast.getLastD 0):=fun h1=>aE _ (by rw [Kv h1];simp)
 have aH:∀ {l:List Int} {n:Int},(∀ a∈l,isV a)->isV n->∀ a∈l++[n],isV a:=fun h1 h2 a ha=>by
  rw [List.mem_append,List.mem_singleton] at ha
  rcases ha with ha|rfl
  ·exact h1 a ha
  ·exact h2
 have b2:∀ t,isV (b2i t):=fun t=>by cases t<;>(unfold b2i isV;simp)
 unfold Z0
 simp only []
 by_cases e:x.op=1
 ·rw [if_pos e]
  have hq:=Yo (c:=c) (y:=y) (x:=x) (by rw [e];decide)
  rw [e] at hq;rw [hq.1] at hp
  have hi:=hs.ins hb.fn hx
  unfold Zq Jw at hi
  rw [e] at hi
  simp at hi
  exact h.go aA (Jo.next hb hr hx (by rw [e];decide) _ _ (by rw [hq.1,hq.2,List.length_append];simp [Y1,Z7]) rfl aB (aH aE hi)) rfl
 rw [if_neg e]
 by_cases e2:x.op=2
 ·rw [if_pos e2]
  have hq:=Yo (c:=c) (y:=y) (x:=x) (by rw [e2];decide)
  rw [e2] at hq;rw [hq.1] at hp
  have aU:=hs.lim hb.fn hx (n:=y.locals) (by rw [e2];rfl)
  have bF:=hb.loc
  exact h.go aA (Jo.next hb hr hx (by rw [e2];decide) _ _ (by rw [hq.1,hq.2,List.length_append];simp [Y1,Z7]) rfl aB (aH aE (aB _ (Lm (getD_some ω))))) rfl
 rw [if_neg e2]
 by_cases e3:x.op=3
 ·rw [if_pos e3]
  have hq:=Yo (c:=c) (y:=y) (x:=x) (by rw [e3];decide)
  rw [e3] at hq;rw [hq.1] at hp
  simp [Y1] at hp
  refine h.go aA (Jo.next hb hr hx (by rw [e3];decide) _ _ (by rw [hq.1,hq.2,aD];simp [Y1,Z7];omega) ψ (fun n hn=>?_) aC) rfl
  rcases List.mem_or_eq_of_mem_set hn with hn|hn
  ·exact aB n hn
  ·rw [hn];exact hv ω
 rw [if_neg e3]
 by_cases e4:x.op=4
 ·rw [if_pos e4]
  have hq:=Yo (c:=c) (y:=y) (x:=x) (by rw [e4];decide)
  rw [e4] at hq
  exact h.asks aA (Jb.next hb hr hx (.inl ⟨e4,rfl⟩) _ (by rw [hq.1];simp [Y1]) aE) rfl
 rw [if_neg e4]
 by_cases e5:x.op=5
 ·rw [if_pos e5]
  have hq:=Yo (c:=c) (y:=y) (x:=x) (by rw [e5];decide)
  rw [e5] at hq;rw [hq.1] at hp
  simp [Y1] at hp
  exact h.asks aA (Jb.next hb hr hx (.inr (.inl ⟨_,e5,hv ω,rfl⟩)) _ (by rw [hq.1,aD];simp [Y1];omega) aC) rfl
 rw [if_neg e5]
 by_cases e6:x.op=6
 ·rw [if_pos e6]
  have hq:=Yo (c:=c) (y:=y) (x:=x) (by rw [e6];decide)
  rw [e6] at hq;rw [hq.1] at hp
  simp [Y1] at hp
  split
  ·exact h.fails aA 17 ω _
  ·exact h.asks aA (Jb.next hb hr hx (.inr (.inr (.inl ⟨_,e6,ω,hv ω,rfl⟩))) _ (by rw [hq.1,aD];simp [Y1];omega) aC) rfl
 rw [if_neg e6]
 by_cases e7:x.op=7
 ·rw [if_pos e7]
  have hq:=Yo (c:=c) (y:=y) (x:=x) (by rw [e7];decide)
  rw [e7] at hq;rw [hq.1] at hp
  simp [Y1] at hp
  split
  ·exact h.fails aA 17 ω _
  ·exact h.asks aA (Jb.next hb hr hx (.inr (.inr (.inr (.inl ⟨_,_,e7,ω,hu ω,hv ω,rfl⟩)))) _ (by rw [hq.1,aZ];simp [Y1];omega) aT) rfl
 rw [if_neg e7]
 by_cases e8:x.op=8
 ·rw [if_pos e8]
  have hq:=Yo (c:=c) (y:=y) (x:=x) (by rw [e8];decide)
  rw [e8] at hq
  exact h.asks aA (Jb.next hb hr hx (.inr (.inr (.inr (.inr ⟨e8,rfl⟩)))) _ (by rw [hq.1];simp [Y1]) aE) rfl
 rw [if_neg e8]
 by_cases e9:x.op=9
 ·rw [if_pos e9]
  have aU:=hs.lim hb.fn hx (n:=c.funcs.length) (by rw [e9];rfl)
  obtain ⟨z,hz⟩:∃ z,c.funcs[x.a.toNat]?=some z:=⟨_,Lg ω⟩
  have bC:Je c x.a=some z:=hz
  have hq:Xm c y x=z.params:=by unfold Xm;rw [if_pos e9,bC]
  rw [hq] at hp
  have bL:=hs.fok hz
  unfold Zr at bL
  rw [bC]
  simp only []
  have bJ:∀ n∈f.stack.take (f.stack.length - z.params.toNat),isV n:=fun n hn=>aE n (List.mem_of_mem_take hn)
  split
  ·rename_i hd
   have hw:Jb c { f with pc:=f.pc+1,stack:=f.stack.take (f.stack.length - z.params.toNat) } (fun x'=>x'.op=9/\x'.a=x.a):=Jb.next hb hr hx ⟨e9,rfl⟩ _ (by rw [hq,List.length_take];omega) bJ
   refine ⟨⟨_,_,rfl,⟨z,⟨by show 0<=x.a;omega,hz,by show (0:Int)<=0;omega,?_,?_,ψ⟩,Reach.zero c z⟩,?_,by simp;omega,(h.nums.tick0 aA _).1⟩,(h.nums.tick0 aA _).2⟩
   ·show ((f.stack.drop _++List.replicate _ 0).length:Int)=_
    rw [List.length_append,List.length_drop,List.length_replicate];omega
   ·intro n hn
    simp only [List.mem_append,List.mem_replicate] at hn
    rcases hn with hn|hn
    ·exact aE n (List.mem_of_mem_drop hn)
    ·rw [hn.2];unfold isV;omega
   ·rw [List.reverse_append]
    exact ⟨hw,h.low⟩
  ·exact h.fails aA 19 ω _
 rw [if_neg e9]
 by_cases aL:x.op=10
 ·rw [if_pos aL]
  have hq:Xm c y x=b2i y.result:=by unfold Xm;rw [if_neg ω,if_pos aL]
  have hn:=aY aL
  rw [hq] at hn
  have aV:isV (if y.result=true then f.stack.getLastD 0 else 0):=by
   split
   ·rename_i hr;rw [hr] at hn;simp [b2i] at hn;exact hv ω
   ·unfold isV;omega
  cases hg:fs.getLast? with
  | none=>exact ⟨(h.nums.tick0 aA _).1,.inr (.inl ⟨_,aV,rfl,rfl⟩)⟩
  | some f'=>
   obtain ⟨aW,rfl⟩:∃ aW,fs=aW++[f']:=by
    obtain ⟨bN,bE⟩:=List.getLast?_eq_some_iff.1 hg
    exact ⟨_,bE⟩
   have aG:=h.low
   rw [List.reverse_append] at aG
   obtain ⟨⟨y',x',h',aS,bO,bK,⟨bG,bD⟩,bI,bM⟩,aG⟩:=aG
   have aX:=h.len
   simp only [List.dropLast_concat]
   have bH:Xj c y' x'=b2i y.result:=by unfold Xj;rw [if_pos bG,bD];show (match c.funcs[f.fn.toNat]? with|some g=>b2i g.result|none=>0)=_;rw [hb.fn]
   have bA:=bI.next bK (Xbd (x:=x') (i:=(f'.pc - 1).toNat) ω)
   have e1:(f'.pc - 1).toNat+1=f'.pc.toNat:=ω
   rw [e1,bH] at bA
   refine ⟨⟨aW,Xll f' y.result (if y.result=true then f.stack.getLastD 0 else 0),rfl,⟨y',⟨aS.fn0,aS.fn,aS.pc0,aS.loc,aS.lv,?_⟩,?_⟩,aG,by simp at aX;omega,(h.nums.tick0 aA _).1⟩,(h.nums.tick0 aA _).2⟩
   ·unfold Xll
    intro n aF
    simp only [List.mem_append] at aF
    rcases aF with aF|aF
    ·exact aS.sv n aF
    ·cases aK:y.result with
     | true=>rw [aK] at aF aV;simp at aF aV;rw [aF];exact aV
     | false=>rw [aK] at aF;simp at aF
   ·show Reach c y' f'.pc.toNat ((f'.stack++(if y.result=true then [_] else [])).length:Nat)
    have:(((f'.stack++(if y.result=true then [if y.result=true then f.stack.getLastD 0 else 0] else [])).length:Nat):Int)=h' - Xm c y' x'+b2i y.result:=by
     rw [List.length_append]
     cases aK:y.result<;>simp [b2i]<;>omega
    rw [this]
    exact bA
 rw [if_neg aL]
 by_cases aI:x.op=11
 ·rw [if_pos aI]
  have hq:=Yo (c:=c) (y:=y) (x:=x) (by rw [aI];decide)
  rw [aI] at hq
  have aU:=hs.lim hb.fn hx (n:=y.code.length) (by rw [aI];rfl)
  exact h.go aA (Jo.step (f':={ f with pc:=x.a }) hb hr hx rfl aU.1 (Xil (.inl aI)) (by rw [hq.1,hq.2];simp [Y1,Z7]) rfl aB aE) rfl
 rw [if_neg aI]
 by_cases aJ:x.op=12
 ·rw [if_pos aJ]
  have hq:=Yo (c:=c) (y:=y) (x:=x) (by rw [aJ];decide)
  rw [aJ] at hq;rw [hq.1] at hp
  simp [Y1] at hp
  have aU:=hs.lim hb.fn hx (n:=y.code.length) (by rw [aJ];rfl)
  split
  ·exact h.go aA (Jo.step (f':={ f with pc:=x.a,stack:=f.stack.dropLast }) hb hr hx rfl aU.1 (Xil (.inr aJ)) (by rw [hq.1,hq.2];show ((f.stack.dropLast.length:Nat):Int)=_;rw [aD];simp [Y1,Z7];omega) rfl aB aC) rfl
  ·exact h.go aA (Jo.next hb hr hx (by rw [aJ];decide) _ _ (by rw [hq.1,hq.2,aD];simp [Y1,Z7];omega) rfl aB aC) rfl
 rw [if_neg aJ]
 by_cases aM:x.op=13
 ·rw [if_pos aM]
  have hq:=Yo (c:=c) (y:=y) (x:=x) (by rw [aM];decide)
  rw [aM] at hq
  split
  ·exact h.fails aA 20 ω _
  ·rename_i hf0
   have ht:=Jo.next hb hr hx (by rw [aM];decide) f.locals f.stack (by rw [hq.1,hq.2];simp [Y1,Z7]) rfl aB aE
   obtain ⟨n1,n2,n3,n4,n5⟩:=h.nums
   unfold pot at n5
   refine ⟨⟨fs,_,rfl,ht,h.low,h.len,?_⟩,?_⟩
   ·exact ⟨by show 0<=m.fuel - 1;omega,by show (0:Int)<=0;omega,by show (0:Int)<=100000;omega,n4,by show m.compares+((m.fuel - 1)*100001+(100000 - 0))<=_;omega⟩
   ·show (m.fuel - 1)*100001+(100000 - 0)<m.fuel*100001+(100000 - m.idle);omega
 rw [if_neg aM]
 by_cases aN:x.op=14
 ·rw [if_pos aN]
  have hq:=Yo (c:=c) (y:=y) (x:=x) (by rw [aN];decide)
  rw [aN] at hq;rw [hq.1] at hp
  simp [Y1] at hp
  have bP:=hv ω
  exact h.go aA (Jo.next hb hr hx (by rw [aN];decide) _ _ (by rw [hq.1,hq.2,List.length_append,aD];simp [Y1,Z7];omega) rfl aB (aH aC (by unfold isV at *;omega))) rfl
 rw [if_neg aN]
 by_cases aO:x.op=26
 ·rw [if_pos aO]
  have hq:=Yo (c:=c) (y:=y) (x:=x) (by rw [aO];decide)
  rw [aO] at hq;rw [hq.1] at hp
  simp [Y1] at hp
  exact h.go aA (Jo.next hb hr hx (by rw [aO];decide) _ _ (by rw [hq.1,hq.2,List.length_append,aD];simp [Y1,Z7];omega) rfl aB (aH aC (b2 _))) rfl
 rw [if_neg aO]
 by_cases aP:x.op=29
 ·rw [if_pos aP]
  have hq:=Yo (c:=c) (y:=y) (x:=x) (by rw [aP];decide)
  rw [aP] at hq;rw [hq.1] at hp
  simp [Y1] at hp
  exact h.go aA (Jo.next hb hr hx (by rw [aP];decide) _ _ (by rw [hq.1,hq.2,List.length_append,aD];simp [Y1,Z7];omega) rfl aB (aH aC (Xfg _))) rfl
 rw [if_neg aP]
 by_cases aQ:x.op=30
 ·rw [if_pos aQ]
  have hq:=Yo (c:=c) (y:=y) (x:=x) (by rw [aQ];decide)
  rw [aQ] at hq;rw [hq.1] at hp
  simp [Y1] at hp
  exact h.go aA (Jo.next hb hr hx (by rw [aQ];decide) _ _ (by rw [hq.1,hq.2,aD];simp [Y1,Z7];omega) rfl aB aC) rfl
 rw [if_neg aQ]
 by_cases aR:x.op=31
 ·rw [if_pos aR]
  have hq:=Yo (c:=c) (y:=y) (x:=x) (by rw [aR];decide)
  rw [aR] at hq;rw [hq.1] at hp
  simp [Y1] at hp
  exact h.go aA (Jo.next hb hr hx (by rw [aR];decide) _ _ (by rw [hq.1,hq.2,List.length_append,List.length_append,aD];simp [Y1,Z7];omega) rfl aB (aH (aH aC (hv ω)) (hv ω))) rfl
 rw [if_neg aR]
 have h2:=Xjw bB.1 bB.2 ⟨e,e2,e3,e4,e5,e6,e7,e8,e9,aL,aI,aJ,aM,aN,aO,aP,aQ,aR⟩
 have hq:=Xa8 (c:=c) (y:=y) h2
 rw [hq.1] at hp
 split
 ·rename_i hE
  have ht:=Jo.next hb hr hx ⟨aL,aI⟩ f.locals (f.stack.dropLast.dropLast++[Qk x.op (f.stack.dropLast.getLastD 0) (f.stack.getLastD 0)]) (by rw [hq.1,hq.2,List.length_append,aZ];simp;omega) rfl aB (aH aT (Xdb h2 (hu ω) (hv ω) hE))
  exact ⟨⟨fs,_,rfl,ht,h.low,h.len,(h.nums.tick aA _ (Xc3 _) _).1⟩,(h.nums.tick aA _ (Xc3 _) _).2⟩
 ·rename_i hE
  exact ⟨(h.nums.tick aA _ (Xc3 _) _).1,.inl ⟨_,Xmm hE,rfl⟩⟩
theorem Xng {f:Fun} (wf:WfF c f) (hx:x∈f.code):- Xm c f x+Xj c f x<=1:=by
 have h1:=wf.pops x hx
 by_cases e:x.op=9
 ·have a:Xj c f x<=1:=by
   unfold Xj
   rw [if_pos e]
   cases Je c x.a with
   | none=>simp
   | some g=>have:=Xj2 g.result;simp only [];omega
  omega
 by_cases aA:x.op=10
 ·have a:Xj c f x=0:=by unfold Xj;rw [if_neg e,if_pos aA]
  omega
 by_cases t:Ya x.op
 ·have:=Xa8 (c:=c) (y:=f) t;omega
 ·have:=Yo (c:=c) (y:=f) (x:=x) ⟨e,aA,t⟩
  rw [this.1,this.2]
  unfold Y1 Z7
  repeat' split
  all_goals omega
inductive Ul (m:Mch):Out->Prop
 | go (m1:Mch):Ul m (.go m1)
 | stop (r:Rq) (m1:Mch):m1.fuel=m.fuel/\(m1.idle=m.idle+1\/m1.idle=m.idle)->Ul m (.stop r m1)
theorem Ul.ite {p:Prop} [Decidable p] {a b:Out} (ha:Ul m a) (hb:Ul m b):Ul m (if p then a else b):=by split<;>assumption
theorem Xlf (c:Cod) (m:Mch) (fs:List Fra) (f:Fra) (y:Fun) (x:Ins):Ul m (Z0 c m fs f y x):=by
 unfold Z0
 simp only []
 repeat' apply Ul.ite
 all_goals first|exact .go _|exact .stop _ _ ⟨rfl,.inl rfl⟩|exact .stop _ _ ⟨rfl,.inr rfl⟩|skip
 ·cases Je c x.a with
  | none=>exact .stop _ _ ⟨rfl,.inr rfl⟩
  | some z=>
   simp only []
   apply Ul.ite
   ·exact .go _
   ·exact .stop _ _ ⟨rfl,.inl rfl⟩
 ·cases fs.getLast? with
  | none=>exact .stop _ _ ⟨rfl,.inl rfl⟩
  | some z=>exact .go _
theorem Xod (hs:Xv c) (h:Ja c m fs f) (hst:stepP c m=.stop r m1):pot m1<=pot m:=by
 by_cases aA:100000<=m.idle
 ·unfold stepP at hst
  rw [if_pos aA] at hst
  cases hst;exact Int.le_refl _
 have aA:m.idle<100000:=ω
 obtain ⟨y,x,hb,hr,hx,hp,aC⟩:=h.at_ hs
 rw [h.stepP hb.fn hx aA] at hst
 have aB:Ul m (.stop r m1):=by rw [<-hst];exact Xlf c m fs f y x
 obtain ⟨k1,k2⟩:m1.fuel=m.fuel/\(m1.idle=m.idle+1\/m1.idle=m.idle):=by cases aB with|stop _ _ aB=>exact aB
 unfold pot
 omega
def Jf (r:Rq) (m:Mch):Mch:={ m with req:=r,frames:=if r.kind=4\/r.kind=5 then [] else m.frames }
inductive Zm (c:Cod):Mch->Mch->Prop
 | stop {m:Mch} {r:Rq} {m1:Mch}:stepP c m=.stop r m1->Zm c m (Jf r m1)
 | go {m m1 m2:Mch}:stepP c m=.go m1->Zm c m1 m2->Zm c m m2
def Us (c:Cod) (m:Mch):Prop:=
 Ug m/\((∃ e,(e=5\/e=6\/e=17\/e=18\/e=19\/e=20)/\m.req=X0 e/\m.frames=[])\/(∃ v,isV v/\m.req=Jc v/\m.frames=[])\/∃ fs f,Qr c m m.req fs f)
theorem Ua (h:Xf1 x r):r.kind=1\/r.kind=2\/r.kind=3:=by
 rcases h with ⟨_,rfl⟩|⟨v,_,_,rfl⟩|⟨n,_,_,_,rfl⟩|⟨n,v,_,_,_,_,rfl⟩|⟨_,rfl⟩<;>simp
theorem Xa6.ends (h:Xa6 c r m):Us c (Jf r m):=by
 obtain ⟨hn,h⟩:=h
 refine ⟨⟨hn.fuel,hn.idle0,hn.idle1,hn.cmp0,hn.potle⟩,?_⟩
 rcases h with ⟨e,he,rfl⟩|⟨v,hv,rfl,hf⟩|⟨fs,f,hw⟩
 ·exact .inl ⟨e,he,rfl,rfl⟩
 ·exact .inr (.inl ⟨v,hv,rfl,rfl⟩)
 ·right;right
  obtain ⟨y,x,hh,h1,h2,h3,h4,h5⟩:=hw.top
  have hk:=Ua h4
  have e:Jf r m={ m with req:=r }:=by unfold Jf;rw [if_neg ω]
  rw [e]
  exact ⟨fs,f,hw.fr,hw.top,hw.low,hw.len⟩
theorem Vv {m2:Mch} (h1:Zm c m m1) (h2:Zm c m m2):m1=m2:=by
 induction h1 generalizing m2 with
 | stop hs=>
  cases h2 with
  | stop hs'=>rw [hs] at hs';cases hs';rfl
  | go hs' _=>rw [hs] at hs';cases hs'
 | go hs _ ih=>
  cases h2 with
  | stop hs'=>rw [hs] at hs';cases hs'
  | go hs' h'=>rw [hs] at hs';cases hs';exact ih h'
theorem Xew (hs:Xv c) {m':Mch} (h:Zm c m m'):∀ fs f,Ja c m fs f->Us c m'/\pot m'<=pot m:=by
 induction h with
 | stop hst=>
  intro fs f hg
  have:=K5 hs hg
  rw [hst] at this
  refine ⟨Xa6.ends this,?_⟩
  rename_i m r m1
  show pot m1<=pot m
  exact Xod hs hg hst
 | go hst _ ih=>
  intro fs f hg
  have:=K5 hs hg
  rw [hst] at this
  obtain ⟨⟨aA,f',aB⟩,hp⟩:=this
  obtain ⟨h1,h2⟩:=ih aA f' aB
  exact ⟨h1,ω⟩
theorem Qr.push (h:Qr c m r fs f) (hn:Ug m) (hk:r.kind=1\/r.kind=3) (n:Int) (hv:isV n) (q:Rq) :
  Ja c { m with req:=q,frames:=fs++[{ f with stack:=f.stack++[n] }] } fs { f with stack:=f.stack++[n] }:=by
 obtain ⟨y,x,hh,hb,h1,hx,ha,hr,hl⟩:=h.top
 refine ⟨rfl,⟨y,⟨hb.fn0,hb.fn,hb.pc0,hb.loc,hb.lv,fun a aA=>?_⟩,?_⟩,h.low,h.len,⟨hn.fuel,hn.idle0,hn.idle1,hn.cmp0,hn.potle⟩⟩
 ·rw [List.mem_append,List.mem_singleton] at aA
  rcases aA with h'|h'
  ·exact hb.sv a h'
  ·rw [h'];exact hv
 ·have aD:(x.op=4\/x.op=6\/x.op=8):=by
   rcases ha with ⟨h,rfl⟩|⟨v,_,_,rfl⟩|⟨n,h,_,_,rfl⟩|⟨n,v,_,_,_,_,rfl⟩|⟨h,rfl⟩<;>simp at hk<;>omega
  have hq:=Yo (c:=c) (y:=y) (x:=x) (by unfold Ya;omega)
  have aC:Xj c y x=1:=by rw [hq.2];unfold Z7;rw [if_pos ω]
  have aB:=hr.next hx (Xbd (x:=x) (i:=(f.pc - 1).toNat) ω)
  rw [aC,show (f.pc - 1).toNat+1=f.pc.toNat by omega] at aB
  show Reach c y f.pc.toNat ((f.stack++[n]).length:Nat)
  rw [List.length_append]
  simp only [List.length_singleton]
  rw [show ((f.stack.length+1:Nat):Int)=hh - Xm c y x+1 by omega]
  exact aB
theorem Qr.goOn (h:Qr c m r fs f) (hn:Ug m) (hk:r.kind=2) (q:Rq):Ja c { m with req:=q } fs f:=by
 obtain ⟨y,x,hh,hb,h1,hx,ha,hr,hl⟩:=h.top
 refine ⟨h.fr,⟨y,hb,?_⟩,h.low,h.len,⟨hn.fuel,hn.idle0,hn.idle1,hn.cmp0,hn.potle⟩⟩
 have aC:(x.op=5\/x.op=7):=by
  rcases ha with ⟨h,rfl⟩|⟨v,h,_,rfl⟩|⟨n,h,_,_,rfl⟩|⟨n,v,h,_,_,_,rfl⟩|⟨h,rfl⟩<;>simp at hk<;>omega
 have hq:=Yo (c:=c) (y:=y) (x:=x) (by unfold Ya;omega)
 have aB:Xj c y x=0:=by rw [hq.2];unfold Z7;rw [if_neg ω,if_neg ω]
 have aA:=hr.next hx (Xbd (x:=x) (i:=(f.pc - 1).toNat) ω)
 rw [aB,show (f.pc - 1).toNat+1=f.pc.toNat by omega] at aA
 rw [show ((f.stack.length:Nat):Int)=hh - Xm c y x+0 by omega]
 exact aA
inductive Way (c:Cod) (f:Fun):List Nat->Nat->Int->Prop
 | zero:Way c f [] 0 0
 | next {l:List Nat} {i k:Nat} {n:Int} {x:Ins}:Way c f l i n->i∉l->f.code[i]?=some x->k∈X2 x i->Way c f (i::l) k (n - Xm c f x+Xj c f x)
theorem Way.reach {f:Fun} (h:Way c f l i n):Reach c f i n:=by
 induction h with
 | zero=>exact Reach.zero c f
 | next _ _ hx hk ih=>exact ih.next hx hk
theorem Way.cut {f:Fun} (hs:Zh c f) (h:Way c f l i n) (hk:k∈l):∃ l' m,Way c f l' k m/\k∉l':=by
 induction h with
 | zero=>simp at hk
 | next hw hni hx _ ih=>
  rw [List.mem_cons] at hk
  rcases hk with rfl|hk
  ·exact ⟨_,_,hw,hni⟩
  ·exact ih hk
theorem Xqs {f:Fun} (hs:Zh c f) (h:Reach c f i n):∃ l,Way c f l i n/\i∉l:=by
 have:=h (fun i n=>∃ l,Way c f l i n/\i∉l) ⟨[],.zero,ψ⟩ (fun i n x k ⟨l,hw,aE⟩ hx hk=>by
  have aA:=Way.next hw aE hx hk
  by_cases aC:k∈i::l
  ·obtain ⟨l',m,aB,aD⟩:=aA.cut hs aC
   have e:=hs.2 k _ _ aB.reach aA.reach
   rw [e] at aB
   exact ⟨l',aB,aD⟩
  ·exact ⟨_,aA,aC⟩)
 exact this
theorem Way.low {f:Fun} (wf:WfF c f) (h:Way c f l i n):n<=l.length/\l.Nodup/\∀ j∈l,j<f.code.length:=by
 induction h with
 | zero=>simp
 | @next l i k n x hw hni hx hk ih=>
  have hm:=Lm hx
  have h1:=Xng wf hm
  obtain ⟨a,b,d⟩:=ih
  refine ⟨by simp;omega,List.nodup_cons.2 ⟨hni,b⟩,fun j hj=>?_⟩
  rw [List.mem_cons] at hj
  rcases hj with rfl|hj
  ·exact (Ll hx)
  ·exact d j hj
theorem Xhx:∀ (n:Nat) (l:List Nat),l.Nodup->(∀ j∈l,j<n)->l.length<=n
 | 0,l,_,h=>by
  cases l with
  | nil=>simp
  | cons a l=>have:=h a ψ;omega
 | n+1,l,hn,h=>by
  have h1:=Xhx n (l.erase n) (hn.erase n) (fun j hj=>by
   have h2:=hn.mem_erase_iff.1 hj
   have:=h j h2.2
   omega)
  by_cases hm:n∈l
  ·rw [List.length_erase_of_mem hm] at h1;omega
  ·rw [List.erase_of_not_mem hm] at h1;omega
theorem Qu {f:Fun} (wf:WfF c f) (hs:Zh c f) (h:Reach c f i n):n<=f.code.length:=by
 obtain ⟨l,hw,_⟩:=Xqs hs h
 obtain ⟨h1,h2,h3⟩:=hw.low wf
 have:l.length<=f.code.length:=by
  exact Xhx _ _ h2 h3
 omega
def Z9 (w:World) (fv:Value) (fs:List Fra) (F:List Nat):Prop:=
 ∃ cells Fr,w.ownsRow 0 129 4 fv fs.length cells/\Yl w cells fs Fr/\F=fv.ownBlock.toList++Fr/\F.Nodup
theorem Xt :X3 w bm m F↔∃ fv F0,w.heap[bm]?=some (χ (Xb fv m) 51 (0,0))/\Z9 w fv m.frames F0/\F=bm::F0/\bm∉F0:=by
 constructor
 ·rintro ⟨fv,cells,Fr,h1,h2,h3,rfl,h5⟩
  rw [List.nodup_cons] at h5
  exact ⟨fv,_,h1,⟨cells,Fr,h2,h3,rfl,h5.2⟩,rfl,h5.1⟩
 ·rintro ⟨fv,F0,h1,⟨cells,Fr,h2,h3,rfl,h4⟩,rfl,h5⟩
  exact ⟨fv,cells,Fr,h1,h2,h3,rfl,List.nodup_cons.2 ⟨h5,h4⟩⟩
theorem Z9.keep (h:Z9 w fv fs F) (hb:∀ b∈F,w'.heap[b]?=w.heap[b]?):Z9 w' fv fs F:=by
 obtain ⟨cells,Fr,h2,h3,rfl,h4⟩:=h
 refine ⟨cells,Fr,⟨h2.1,?_⟩,h3.keep (fun b h=>hb b (by simp [h])),rfl,h4⟩
 rcases h2.2 with h|⟨g,cap,aA,rfl,k0,k1,k2⟩
 ·exact .inl h
 ·exact .inr ⟨g,cap,aA,rfl,k0,by rw [hb g (by simp [Value.ownBlock])];exact k1,k2⟩
theorem Z9.lt (hv:Z9 w fv fs F):∀ b∈F,b<w.heap.size:=by
 obtain ⟨cells,Fr,k2,k3,rfl,k4⟩:=hv
 intro b hb
 rw [List.mem_append] at hb
 rcases hb with hb|hb
 ·rcases k2.2 with ⟨e,_⟩|⟨g,cap,aA,rfl,_,hg,_⟩
  ·rw [e] at hb;simp [Value.ownBlock] at hb
  ·simp [Value.ownBlock] at hb;subst hb;exact (La hg)
 ·exact k3.lt b hb
theorem X3.lt (h:X3 w bm m F):∀ b∈F,b<w.heap.size:=by
 obtain ⟨fv,F0,hm,hv,rfl,hn⟩:=Xt.1 h
 intro b hb
 rw [List.mem_cons] at hb
 rcases hb with rfl|hb
 ·exact (La hm)
 ·exact hv.lt b hb
theorem Z9.form (h:Z9 w fv fs F):∃ a cap,fv=σ a fs.length cap:=by
 obtain ⟨cells,Fr,k2,_⟩:=h
 rcases k2.2 with ⟨e,hn⟩|⟨g,cap,aA,e,_⟩
 ·exact ⟨none,0,by rw [e,hn]⟩
 ·exact ⟨_,_,e⟩
theorem Jd (w:World):Z9 w ν [] []:=⟨[],[],⟨rfl,.inl ⟨rfl,rfl⟩⟩,⟨rfl,rfl⟩,rfl,List.nodup_nil⟩
def Yq (w:World) (bm:Nat) (r:Rq):World:=((((w.setCell (π bm 1) (ι r.kind)).setCell (π bm 2) (ι r.node)).setCell (π bm 3) (ι r.field)).setCell (π bm 4) (ι r.value)).setCell (π bm 5) (ι r.fault)
theorem Xw {j:Nat} :Xp [bm] [bm] w (w.setCell (π bm j) v):=⟨rfl,rfl,rfl,ψ,fun k hk hF=>heap_setCell_other _ _ _ _ (fun e=>hF (by simp [e])),fun _ h=>.inl h⟩
theorem Xeh (fv:Value) (m:Mch) (r:Rq):((((((Xb fv m).setIfInBounds 1 (ι r.kind)).setIfInBounds 2 (ι r.node)).setIfInBounds 3 (ι r.field)).setIfInBounds 4 (ι r.value)).setIfInBounds 5 (ι r.fault))=Xb fv { m with req:=r }:=by kernel_rfl
theorem Qo (fv v:Value) (m:Mch):(Xb fv m).setIfInBounds 0 v=Xb v m:=by kernel_rfl
theorem Ju (hm:w.heap[bm]?=some (χ (Xb fv m) 51 (0,0))) (r:Rq) :
  (Yq w bm r).heap[bm]?=some (χ (Xb fv { m with req:=r }) 51 (0,0))/\Xp [bm] [bm] w (Yq w bm r):=by
 unfold Yq
 have h1:=heap_setCell_same _ bm 1 _ _ (ι r.kind) hm
 have h2:=heap_setCell_same _ bm 2 _ _ (ι r.node) h1
 have h3:=heap_setCell_same _ bm 3 _ _ (ι r.field) h2
 have h4:=heap_setCell_same _ bm 4 _ _ (ι r.value) h3
 have h5:=heap_setCell_same _ bm 5 _ _ (ι r.fault) h4
 rw [Xeh] at h5
 exact ⟨h5,(((Xw.trans Xw).trans Xw).trans Xw).trans Xw⟩
def Xi (fv:Value) (m:Mch):Value:=.agg (Xb fv m)
def Xl:Mch:=⟨[],⟨0,0,0,0,0⟩,0,0,0⟩
def Qq (w:World) (fv:Value) (m:Mch) (w':World):Prop:=∃ F,Z9 w' fv m.frames F/\(∀ b∈F,w.heap.size<=b)/\Below w.heap.size w w'
def Yp (W:World) (R:Nat) (fv:Value) (m:Mch):World:=((((((((W.setCell (π R 0) fv).setCell (π R 1) (ι m.req.kind)).setCell (π R 2) (ι m.req.node)).setCell (π R 3) (ι m.req.field)).setCell (π R 4) (ι m.req.value)).setCell (π R 5) (ι m.req.fault)).setCell (π R 6) (ι m.fuel)).setCell (π R 7) (ι m.compares)).setCell (π R 8) (ι m.idle)
theorem Xek (fv0 fv:Value) (m0 m:Mch):(((((((((Xb fv0 m0).setIfInBounds 0 fv).setIfInBounds 1 (ι m.req.kind)).setIfInBounds 2 (ι m.req.node)).setIfInBounds 3 (ι m.req.field)).setIfInBounds 4 (ι m.req.value)).setIfInBounds 5 (ι m.req.fault)).setIfInBounds 6 (ι m.fuel)).setIfInBounds 7 (ι m.compares)).setIfInBounds 8 (ι m.idle)=Xb fv m:=by kernel_rfl
theorem Xz {fv0:Value} {m0:Mch} (h:W.heap[R]?=some (χ (Xb fv0 m0) 51 (0,0))) (fv:Value) (m:Mch) :
  (Yp W R fv m).heap[R]?=some (χ (Xb fv m) 51 (0,0))/\Xp [R] [R] W (Yp W R fv m):=by
 unfold Yp
 have h0:=heap_setCell_same _ R 0 _ _ fv h
 have h1:=heap_setCell_same _ R 1 _ _ (ι m.req.kind) h0
 have h2:=heap_setCell_same _ R 2 _ _ (ι m.req.node) h1
 have h3:=heap_setCell_same _ R 3 _ _ (ι m.req.field) h2
 have h4:=heap_setCell_same _ R 4 _ _ (ι m.req.value) h3
 have h5:=heap_setCell_same _ R 5 _ _ (ι m.req.fault) h4
 have h6:=heap_setCell_same _ R 6 _ _ (ι m.fuel) h5
 have h7:=heap_setCell_same _ R 7 _ _ (ι m.compares) h6
 have h8:=heap_setCell_same _ R 8 _ _ (ι m.idle) h7
 rw [Xek] at h8
 exact ⟨h8,(((((((Xw.trans Xw).trans Xw).trans Xw).trans Xw).trans Xw).trans Xw).trans Xw).trans Xw⟩
theorem Xe (h:W.heap[R]?=some (χ (Xb fv m) 51 (0,0))) (j:Nat) (v:Value) (hv:(Xb fv m)[j]?=some v):W.cell? (π R j)=some v:=by
 rw [cell_of_row _ _ _ _ _ _ h];exact hv
theorem Xe2 (h:W.heap[R]?=some (χ (Xb fv m) 51 (0,0))):(loadVar 51 (π R 0)).run Tryz.prog W=.ok (Xi fv m) W:=by
 have c0:=Xe h 0 fv rfl
 have c1:=Xe h 1 (ι m.req.kind) rfl
 have c2:=Xe h 2 (ι m.req.node) rfl
 have c3:=Xe h 3 (ι m.req.field) rfl
 have c4:=Xe h 4 (ι m.req.value) rfl
 have c5:=Xe h 5 (ι m.req.fault) rfl
 have c6:=Xe h 6 (ι m.fuel) rfl
 have c7:=Xe h 7 (ι m.compares) rfl
 have c8:=Xe h 8 (ι m.idle) rfl
 simp [go_sem,Xi,Xb,c0,c1,c2,c3,c4,c5,c6,c7,c8]
theorem Y6 {p u:Tmp} (hf:fn.results=#[.cell p 51,.tmp u]) (h:W.heap[R]?=some (χ (Xb fv m) 51 (0,0))) (tmps:Array Value) (e:Value) (h1:tmps.getD p undef=.pointer (some (π R 0))) (h2:tmps.getD u undef=e) :
  (results fn tmps).run Tryz.prog W=.ok (.tuple #[Xi fv m,e]) W:=by
 rw [results_cell_tmp hf,h1,h2]
 simp [asAddr,Xe2 h,Result.andThen]
theorem Xn {p:Tmp} (hf:fn.results=#[.cell p 51]) (h:W.heap[R]?=some (χ (Xb fv m) 51 (0,0))) (tmps:Array Value) (h1:tmps.getD p undef=.pointer (some (π R 0))) :
  (results fn tmps).run Tryz.prog W=.ok (Xi fv m) W:=by
 simp only [results,hf]
 rw [Array.getD_eq_getD_getElem?] at h1
 simp [h1,asAddr,Xe2 h,Result.andThen,Sem.run_bind]
def rqV (r:Rq):Value:=.agg #[ι r.kind,ι r.node,ι r.field,ι r.value,ι r.fault]
def noR:Rq:=⟨0,0,0,0,0⟩
theorem Qq.later {w1:World} (h:Qq w1 fv m w') (hb:Below w.heap.size w w1):Qq w fv m w':=by
 obtain ⟨F,h1,h2,h3⟩:=h
 exact ⟨F,h1,fun b aA=>Nt hb.size (h2 b aA),hb.then h3⟩
def Zb (c:Cod):Prop:=∀ y∈c.funcs,y.code.length<=100000
theorem Vr.small (hs:Xv c) (hsm:Zb c):∀ {l:List Fra} {k:Int},Vr c l k->∀ f∈l,f.stack.length<=100000
 | [],_,_,f,hf=>by simp at hf
 | g::r,k,h,f,hf=>by
  rw [List.mem_cons] at hf
  rcases hf with rfl|hf
  ·obtain ⟨y,x,hh,hb,h1,hx,_,hr,hl⟩:=h.1
   have h2:=Qu (hs.wf hb.fn) (hs.snd hb.fn) hr
   have h3:=hsm y (Lm hb.fn)
   have h4:=((hs.wf hb.fn).pops x (Lm hx)).1
   omega
  ·exact Vr.small hs hsm h.2 f hf
def Q8 (c:Cod) (nm:ByteArray):Int:=Qw (fun f=>Zt f.name nm) c.funcs
def Yd (c:Cod) (x:Cal) (fuel:Int):Int:=
 if fuel<0\/1048576<fuel then 2 else match c.funcs[(Q8 c x.proc).toNat]? with
 | none=>9
 | some y=>if Q8 c x.proc<0 then 9 else if (x.args.length:Int)≠y.params then 3 else if x.args.any (fun n=>!X1 n) then 11 else 0
def Zo (c:Cod) (x:Cal) (fuel:Int):Mch:=
 ⟨[⟨Q8 c x.proc,0,x.args++List.replicate (((c.funcs[(Q8 c x.proc).toNat]?).map (fun y=>(y.locals - y.params).toNat)).getD 0) 0,[]⟩],⟨0,0,0,0,0⟩,fuel,0,0⟩
theorem Xca (p:α->Bool) (l:List α):Qw p l = -1\/∃ i:Nat,i<l.length/\Qw p l=i:=by
 unfold Qw
 cases h:l.findIdx? p with
 | none=>exact .inl rfl
 | some i=>exact .inr ⟨i,(List.findIdx?_eq_some_iff_getElem.1 h).1,rfl⟩
theorem Xf.form {B:Nat} {sz:Nat} {E:World->Nat->Nat->α->Prop} {l:List α} (h:Xf B w sz E v l):∃ a cap,v=σ a l.length cap:=by
 obtain ⟨a,cap,rfl,_⟩:=h;exact ⟨a,cap,rfl⟩
def Yr (r:Rq) (n:Int):Bool:=if r.kind=1 then X1 n else if r.kind=3 then decide (0<=n/\n<=1099511627776) else true
def Jv (c:Cod) (m:Mch) (n:Int) (m':Mch):Prop:=
 (m.req.kind=3/\n=0/\m'={ m with frames:=[],req:=X0 21 })\/
 ((m.req.kind=1\/m.req.kind=3/\n≠0)/\∃ fs f,m.frames=fs++[f]/\Zm c { m with req:=noR,frames:=fs++[{ f with stack:=f.stack++[n] }] } m')\/
 (m.req.kind=2/\Zm c { m with req:=noR } m')
