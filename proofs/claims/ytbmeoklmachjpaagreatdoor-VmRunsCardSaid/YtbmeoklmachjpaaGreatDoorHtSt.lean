/- The heights of a function: which instructions can be reached with which height; what the labelling by a set of pending instructions comes to. Contracts of the set of pending instructions of package bytecode: add, next; math/bits.TrailingZeros64. The contract of slices.Repeat at a list of one integer. The states of the labelling of bytecode.heights, without the program. -/
import Derived.Test.YtbmeoklmachjpaaGreatDoorMov
import Derived.Test.YtbmeoklmachjpaaGreatDoorLex
import Derived.RegionTactic
import Derived.ChangeAlike
import Derived.Shelf.Spec.TrailingZeros
import Derived.Laws.CopyOwn
import Derived.Laws.MakeOwn
set_option maxHeartbeats 1000000
set_option maxRecDepth 100000
set_option linter.unusedVariables false
set_option linter.unusedSimpArgs false
namespace Go.Proofs.YtbmeoklmachjpaaGreatDoor
open Go.RowKit
def X2 (x:Ins) (i:Nat):List Nat:=(if x.op=10∨x.op=11 then [] else [i+1])++(if x.op=11∨x.op=12 then [x.a.toNat] else [])
/-- instruction i of f can be reached with height n -/
def Reach (c:Cod) (f:Fun) (i:Nat) (n:Int):Prop:=
 ∀ R:Nat→Int→Prop,R 0 0→(∀ i n x k,R i n→f.code[i]?=some x→k∈X2 x i→R k (n - Xm c f x+Xj c f x))→R i n
theorem Reach.zero (c:Cod) (f:Fun):Reach c f 0 0:=fun _ h _=>h
theorem Reach.next {c:Cod} {f:Fun} {i:Nat} {n:Int} {x:Ins} {k:Nat} (h:Reach c f i n) (hx:f.code[i]?=some x) (hk:k∈X2 x i):Reach c f k (n - Xm c f x+Xj c f x):=
 fun R h0 hs=>hs _ _ _ _ (h R h0 hs) hx hk
/-- what the height of an instruction must meet -/
def Xpn (c:Cod) (f:Fun) (i:Nat) (n:Int):Prop:=
 ∃ x,f.code[i]?=some x∧Xm c f x≤n∧(x.op=10→n≤Xm c f x)∧∀ k∈X2 x i,k<f.code.length
/-- a function is sound -/
def Zh (c:Cod) (f:Fun):Prop:=(∀ i n,Reach c f i n→Xpn c f i n)∧∀ i n m,Reach c f i n→Reach c f i m→n=m
/-- these are the heights of a function -/
def Zp (c:Cod) (f:Fun) (h:List Int):Prop:=h.length=f.code.length∧∀ i v,h[i]?=some v→(v = -1∧∀ n,¬Reach c f i n)∨(0≤v∧Reach c f i v)
theorem Xms {c:Cod} {f:Fun} {h h':List Int} (hs:Zh c f) (a:Zp c f h) (b:Zp c f h'):h=h':=by
 apply List.ext_getElem (by rw [a.1,b.1])
 intro i h1 h2
 have x1:=a.2 i _ (List.getElem?_eq_getElem h1)
 have x2:=b.2 i _ (List.getElem?_eq_getElem h2)
 rcases x1 with ⟨e1,n1⟩|⟨_,r1⟩
 ·rcases x2 with ⟨e2,_⟩|⟨_,r2⟩
  ·rw [e1,e2]
  ·exact absurd r2 (n1 _)
 ·rcases x2 with ⟨_,n2⟩|⟨_,r2⟩
  ·exact absurd r1 (n2 _)
  ·exact hs.2 _ _ _ r1 r2
/-- what is known of the instructions of a well-formed code -/
structure WfF (c:Cod) (f:Fun):Prop where
 one:1≤f.code.length
 most:f.code.length≤1048576
 op:∀ x∈f.code,1≤x.op∧x.op≤31
 call:∀ x∈f.code,x.op=9→0≤x.a∧x.a<c.funcs.length
 jump:∀ x∈f.code,x.op=11∨x.op=12→0≤x.a∧x.a<f.code.length
 pops:∀ x∈f.code,0≤Xm c f x∧Xm c f x≤6
 pushes:∀ x∈f.code,0≤Xj c f x∧Xj c f x≤2
def Xbn (hs:List Int):Nat:=hs.countP (fun v=>decide (v<0))
def Xn6 (c:Cod) (f:Fun) (hs:List Int) (i:Nat) (v:Int):Prop:=
 ∃ x,f.code[i]?=some x∧Xm c f x≤v∧(x.op=10→v≤Xm c f x)∧∀ k∈X2 x i,hs[k]?=some (v - Xm c f x+Xj c f x)
structure Lab (c:Cod) (f:Fun) (hs:List Int) (T:Nat→Bool) (skip:Nat→Prop):Prop where
 len:hs.length=f.code.length
 zero:hs[0]?=some 0
 bit:∀ (i:Nat),T i=true→∃ v,hs[i]?=some v∧0≤v
 reach:∀ (i:Nat) v,hs[i]?=some v→0≤v→Reach c f i v
 neg:∀ (i:Nat) v,hs[i]?=some v→v<0→v = -1
 done:∀ (i:Nat) v,hs[i]?=some v→0≤v→T i=false→¬skip i→Xn6 c f hs i v
 bound:∀ (i:Nat) v,hs[i]?=some v→v+2*Xbn hs≤2*hs.length
theorem Lab.start {c:Cod} {f:Fun} (wf:WfF c f) (T:Nat→Bool) (hT:∀ i,T i=decide (i=0)):Lab c f ((List.replicate f.code.length (-1:Int)).set 0 0) T (fun _=>False) where
 len:=by simp
 zero:=List.getElem?_set_self (by rw [List.length_replicate];exact wf.one)
 bit:=fun i h=>by
  rw [hT] at h;simp at h;subst h
  exact ⟨0,List.getElem?_set_self (by rw [List.length_replicate];exact wf.one),by omega⟩
 reach:=fun i v h hv=>by
  rw [List.getElem?_set] at h
  by_cases hi:0=i
  ·subst hi;simp at h;obtain ⟨_,rfl⟩:=h;exact Reach.zero c f
  ·rw [if_neg hi,List.getElem?_replicate] at h
   split at h
   ·simp at h;omega
   ·cases h
 neg:=fun i v h hv=>by
  rw [List.getElem?_set] at h
  by_cases hi:0=i
  ·subst hi;simp at h;omega
  ·rw [if_neg hi,List.getElem?_replicate] at h
   split at h
   ·simp at h;omega
   ·cases h
 done:=fun i v h hv ht _=>by
  rw [hT] at ht;simp at ht
  rw [List.getElem?_set,if_neg (fun e=>ht e.symm),List.getElem?_replicate] at h
  split at h
  ·simp at h;omega
  ·cases h
 bound:=fun i v h=>by
  have h1:Xbn ((List.replicate f.code.length (-1:Int)).set 0 0)≤f.code.length - 1:=by
   have:=wf.one
   unfold Xbn
   obtain ⟨m,hm⟩:∃ m,f.code.length=m+1:=⟨f.code.length - 1,by omega⟩
   rw [hm,List.replicate_succ,List.set_cons_zero,List.countP_cons]
   have:=List.countP_le_length (p:=fun v:Int=>decide (v<0)) (l:=List.replicate m (-1))
   simp at this ⊢
   omega
  have h2:v≤0:=by
   rw [List.getElem?_set] at h
   by_cases hi:0=i
   ·subst hi;simp at h;omega
   ·rw [if_neg hi,List.getElem?_replicate] at h
    split at h
    ·simp at h;omega
    ·cases h
  have:=wf.one
  simp
  omega
theorem Lab.take {c:Cod} {f:Fun} {hs:List Int} {T T':Nat→Bool} {i:Nat} (h:Lab c f hs T (fun _=>False)) (hT:∀ j,T' j=(T j && !decide (j=i))):Lab c f hs T' (fun j=>j=i) where
 len:=h.len
 zero:=h.zero
 bit:=fun j hj=>h.bit j (by rw [hT] at hj;simp at hj;exact hj.1)
 reach:=h.reach
 neg:=h.neg
 done:=fun j v hj hv ht hs=>h.done j v hj hv (by rw [hT] at ht;simp at ht;by_cases e:T j=true;exact absurd (ht e) hs;simpa using e) (fun e=>e)
 bound:=h.bound
theorem Lab.put {c:Cod} {f:Fun} {hs:List Int} {T:Nat→Bool} {i:Nat} {v:Int} (h:Lab c f hs T (fun j=>j=i)) (hv:hs[i]?=some v) (hd:Xn6 c f hs i v):Lab c f hs T (fun _=>False) where
 len:=h.len
 zero:=h.zero
 bit:=h.bit
 reach:=h.reach
 neg:=h.neg
 done:=fun j u hj hu ht _=>by
  by_cases e:j=i
  ·subst e;rw [hv] at hj;cases hj;exact hd
  ·exact h.done j u hj hu ht e
 bound:=h.bound
theorem Xhl {hs:List Int} {k:Nat} {u v:Int} (hk:hs[k]?=some u) (hu:u<0) (hv:0≤v):Xbn (hs.set k v)+1=Xbn hs:=by
 unfold Xbn
 induction hs generalizing k with
 | nil=>simp at hk
 | cons a l ih=>
  cases k with
  | zero=>simp at hk;subst hk;rw [List.set_cons_zero,List.countP_cons,List.countP_cons];simp [hu];omega
  | succ k=>
   simp at hk
   rw [List.set_cons_succ,List.countP_cons,List.countP_cons]
   have:=ih hk
   omega
theorem Lab.label {c:Cod} {f:Fun} {hs:List Int} {T T':Nat→Bool} {i k:Nat} {v:Int} {x:Ins} (wf:WfF c f) (h:Lab c f hs T (fun j=>j=i)) (hv:hs[i]?=some v) (h0:0≤v) (hx:f.code[i]?=some x) (hp:Xm c f x≤v)
  (hk:k∈X2 x i) (hkv:hs[k]?=some (-1)) (hT:∀ j,T' j=(T j || decide (j=k))):Lab c f (hs.set k (v - Xm c f x+Xj c f x)) T' (fun j=>j=i):=by
 have hps:=wf.pushes x (List.mem_of_getElem? hx)
 have hpo:=wf.pops x (List.mem_of_getElem? hx)
 have hkl:k<hs.length:=(Ll hkv)
 have hne:∀ (j:Nat) u,hs[j]?=some u→0≤u→k≠j:=fun j u hj hu e=>by subst e;rw [hkv] at hj;cases hj;omega
 have hset:∀ (j:Nat) u,hs[j]?=some u→0≤u→(hs.set k (v - Xm c f x+Xj c f x))[j]?=some u:=fun j u hj hu=>by
  rw [List.getElem?_set,if_neg (hne j u hj hu)];exact hj
 have hcase:∀ (j:Nat) u,(hs.set k (v - Xm c f x+Xj c f x))[j]?=some u→(j=k∧u=v - Xm c f x+Xj c f x)∨(j≠k∧hs[j]?=some u):=fun j u hj=>by
  rw [List.getElem?_set] at hj
  by_cases e:k=j
  ·subst e;simp [hkl] at hj;exact .inl ⟨rfl,hj.symm⟩
  ·rw [if_neg e] at hj;exact .inr ⟨fun q=>e q.symm,hj⟩
 have hng:=Xhl (v:=v - Xm c f x+Xj c f x) hkv (by omega) (by omega)
 refine ⟨by simp [h.len],hset 0 0 h.zero (by omega),?_,?_,?_,?_,?_⟩
 ·intro j hj
  rw [hT] at hj
  simp at hj
  rcases hj with hj|rfl
  ·obtain ⟨u,hu,hu0⟩:=h.bit j hj
   exact ⟨u,hset j u hu hu0,hu0⟩
  ·exact ⟨_,List.getElem?_set_self hkl,by omega⟩
 ·intro j u hj hu
  rcases hcase j u hj with ⟨rfl,rfl⟩|⟨_,hj⟩
  ·exact (h.reach i v hv h0).next hx hk
  ·exact h.reach j u hj hu
 ·intro j u hj hu
  rcases hcase j u hj with ⟨rfl,rfl⟩|⟨_,hj⟩
  ·omega
  ·exact h.neg j u hj hu
 ·intro j u hj hu ht hs'
  rw [hT] at ht
  simp at ht
  rcases hcase j u hj with ⟨rfl,rfl⟩|⟨_,hj⟩
  ·exact absurd rfl ht.2
  ·obtain ⟨y,hy,h1,h2,h3⟩:=h.done j u hj hu ht.1 hs'
   have hps:=wf.pushes y (List.mem_of_getElem? hy)
   exact ⟨y,hy,h1,h2,fun q hq=>hset q _ (h3 q hq) (by omega)⟩
 ·intro j u hj
  rw [List.length_set]
  rcases hcase j u hj with ⟨rfl,rfl⟩|⟨_,hj⟩
  ·have:=h.bound i v hv;omega
  ·have:=h.bound j u hj;omega
theorem Lab.fin {c:Cod} {f:Fun} {hs:List Int} {T:Nat→Bool} (wf:WfF c f) (h:Lab c f hs T (fun _=>False)) (hT:∀ i,T i=false):Zh c f∧Zp c f hs:=by
 have hR:∀ i n,Reach c f i n→hs[i]?=some n∧0≤n:=by
  intro i n hr
  have:=hr (fun i n=>hs[i]?=some n∧0≤n) ⟨h.zero,by omega⟩ (fun i n x k ⟨h1,h2⟩ hx hk=>by
   obtain ⟨y,hy,h3,_,h5⟩:=h.done i n h1 h2 (hT i) (fun e=>e)
   rw [hx] at hy;cases hy
   have hp:=wf.pushes x (List.mem_of_getElem? hx)
   exact ⟨h5 k hk,by omega⟩)
  exact this
 refine ⟨⟨fun i n hr=>?_,fun i n m h1 h2=>?_⟩,h.len,fun i v hv=>?_⟩
 ·obtain ⟨h1,h2⟩:=hR i n hr
  obtain ⟨x,hx,h3,h4,h5⟩:=h.done i n h1 h2 (hT i) (fun e=>e)
  exact ⟨x,hx,h3,h4,fun k hk=>by rw [←h.len];exact (List.getElem?_eq_some_iff.1 (h5 k hk)).1⟩
 ·have a:=(hR i n h1).1
  rw [(hR i m h2).1] at a
  cases a;rfl
 ·by_cases h0:0≤v
  ·exact .inr ⟨h0,h.reach i v hv h0⟩
  ·refine .inl ⟨h.neg i v hv (by omega),fun n hr=>?_⟩
   obtain ⟨h1,h2⟩:=hR i n hr
   rw [hv] at h1;cases h1;omega
/-- how many bits are set below n -/
def Ur (T:Nat→Bool) (n:Nat):Nat:=(List.range n).countP T
theorem K3 (T:Nat→Bool) (n:Nat):Ur T (n+1)=Ur T n+(if T n then 1 else 0):=by
 unfold Ur;rw [List.range_succ,List.countP_append];simp
theorem Xd6 {T T':Nat→Bool} {n:Nat} (h:∀ j,j<n→T j=T' j):Ur T n=Ur T' n:=by
 induction n with
 | zero=>rfl
 | succ n ih=>rw [K3,K3,ih (fun j hj=>h j (by omega)),h n (by omega)]
theorem Xn7 {T T':Nat→Bool} {n i:Nat} (hi:i<n) (h1:T i=true) (hT:∀ j,T' j=(T j && !decide (j=i))):Ur T' n+1=Ur T n:=by
 induction n with
 | zero=>omega
 | succ n ih=>
  rw [K3,K3]
  by_cases e:i=n
  ·subst e
   rw [Xd6 (T:=T') (T':=T) (fun j hj=>by rw [hT];have:decide (j=i)=false:=(by simp;omega);rw [this];simp),hT,h1]
   simp
  ·have:=ih (by omega)
   rw [hT n]
   have h2:decide (n=i)=false:=by simp;omega
   rw [h2]
   simp only [Bool.not_false,Bool.and_true]
   omega
theorem Xgr {T T':Nat→Bool} {n k:Nat} (hT:∀ j,T' j=(T j || decide (j=k))):Ur T' n≤Ur T n+1:=by
 induction n with
 | zero=>simp [Ur]
 | succ n ih=>
  rw [K3,K3]
  by_cases e:n=k
  ·subst e
   have h1:Ur T' n=Ur T n:=Xd6 (fun j hj=>by rw [hT];have:decide (j=n)=false:=(by simp;omega);rw [this];simp)
   rw [h1]
   split<;>split<;>omega
  ·have h2:T' n=T n:=by
    rw [hT];have:decide (n=k)=false:=by simpa using e
    rw [this];simp
   rw [h2];omega
def Zi (ws:List Nat):Array Value:=(ws.map fun (x:Nat)=>Value.int .u64 (x:Int)).toArray
def Ym (ws:List Nat) (i:Nat):Bool:=(ws.getD (i / 64) 0).testBit (i % 64)
def Xbb (ws:List Nat):Prop:=∀ x∈ws,x<18446744073709551616
theorem Xg6 {ws:List Nat} {k:Nat} (hk:k<ws.length) (y:Nat) (j:Nat):(ws.set k y).getD j 0=if j=k then y else ws.getD j 0:=by
 simp only [List.getD_eq_getElem?_getD,List.getElem?_set]
 by_cases h:k=j
 ·subst h;simp [hk]
 ·rw [if_neg h,if_neg (fun e=>h e.symm)]
theorem Xbp {ws:List Nat} {i:Nat} (hi:i / 64<ws.length) (j:Nat):Ym (ws.set (i / 64) (ws.getD (i / 64) 0 ||| 2 ^ (i % 64))) j=(Ym ws j || decide (j=i)):=by
 unfold Ym
 rw [Xg6 hi]
 by_cases h:j / 64=i / 64
 ·rw [if_pos h,h,Nat.testBit_or,Nat.testBit_two_pow]
  congr 1
  rw [Bool.eq_iff_iff];simp;omega
 ·rw [if_neg h]
  have:decide (j=i)=false:=by simp;intro e;exact h (by rw [e])
  rw [this,Bool.or_false]
theorem Xlh {ws:List Nat} {i:Nat} (hi:i / 64<ws.length) (j:Nat):Ym (ws.set (i / 64) (ws.getD (i / 64) 0 &&& (18446744073709551615 - 2 ^ (i % 64)))) j=(Ym ws j && !decide (j=i)):=by
 unfold Ym
 rw [Xg6 hi]
 by_cases h:j / 64=i / 64
 ·rw [if_pos h,h,Nat.testBit_and]
  congr 1
  have h1:18446744073709551615 - 2 ^ (i % 64)=2 ^ 64 - (2 ^ (i % 64)+1):=by omega
  have h2:2 ^ (i % 64)<2 ^ 64:=Nat.pow_lt_pow_right (by omega) (by omega)
  rw [h1,Nat.testBit_two_pow_sub_succ h2,Nat.testBit_two_pow]
  rw [Bool.eq_iff_iff];simp;omega
 ·rw [if_neg h]
  have:decide (j=i)=false:=by simp;intro e;exact h (by rw [e])
  rw [this];simp
theorem Uy {ws:List Nat} (h:Xbb ws) (k:Nat) {y:Nat} (hy:y<18446744073709551616):Xbb (ws.set k y):=by
 intro x hx
 rcases List.mem_or_eq_of_mem_set hx with h1|h1
 ·exact h x h1
 ·omega
theorem Vw {ws:List Nat} (h:Xbb ws) {k:Nat} (hk:k<ws.length):ws.getD k 0<18446744073709551616:=by
 rw [List.getD_eq_getElem?_getD,List.getElem?_eq_getElem hk];exact h _ (List.getElem_mem hk)
theorem Xcf {ws:List Nat} {k:Nat} (hk:k<ws.length):(Zi ws)[k]?=some (.int .u64 (ws.getD k 0:Nat)):=by
 simp [Zi,List.getD_eq_getElem?_getD,List.getElem?_eq_getElem hk]
theorem Xbq (ws:List Nat) (k y:Nat):(Zi ws).setIfInBounds k (.int .u64 (y:Nat))=Zi (ws.set k y):=by
 simp [Zi,List.setIfInBounds_toArray,List.map_set]
theorem Xao (a b:Nat) (ha:a<18446744073709551616) (hb:b<18446744073709551616) :
  bits .andNot .u64 (a:Int) (b:Int)=((a &&& (18446744073709551615 - b):Nat):Int):=by
 have hx:a &&& (18446744073709551615 - b)<2 ^ 64:=Nat.and_lt_two_pow _ (by omega)
 have h1:(BitVec.ofInt 64 (a:Int)).toNat=a:=by
  rw [BitVec.ofInt_natCast,BitVec.toNat_ofNat];exact Nat.mod_eq_of_lt (by omega)
 have h2:(BitVec.ofInt 64 (b:Int)).toNat=b:=by
  rw [BitVec.ofInt_natCast,BitVec.toNat_ofNat];exact Nat.mod_eq_of_lt (by omega)
 show IntKind.u64.wrap ((BitVec.ofInt 64 (a:Int) &&& ~~~BitVec.ofInt 64 (b:Int)).toNat:Int)=_
 rw [BitVec.toNat_and,BitVec.toNat_not,h1,h2,IntKind.wrap_u64]
 have:2 ^ 64 - 1 - b=18446744073709551615 - b:=by omega
 rw [this]
 omega
theorem Xeu (k:Nat) (h:k<64):(2:Nat) ^ k<18446744073709551616:=by
 have:=Nat.pow_lt_pow_right (a:=2) (by omega) h;omega
theorem Xh3 (k:Nat) (h:k<64):IntKind.u64.wrap ((2:Int) ^ k)=((2 ^ k:Nat):Int):=by
 have:=Xeu k h
 rw [IntKind.wrap_u64]
 have e:((2:Int) ^ k)=((2 ^ k:Nat):Int):=by simp
 rw [e]
 generalize 2 ^ k=y at *
 omega
theorem Xcg {w:World} {b k:Nat} {v:Value}:w.grownBy (w.setCell ⟨b,k,none⟩ v).drew (some b):=
 ⟨rfl,rfl,rfl,by simp,fun j _ h=>heap_setCell_other _ _ _ _ (fun e=>h (by rw [e]))⟩
theorem Xcz (ws:List Nat) (b n cap:Nat) (i:Nat) (w:World) (hn:ws.length=n) (hw:w.heap[b]?=some (.cells (Zi ws) 171 (0,0))) (hi:i / 64<ws.length) (hl:ws.length≤140737488355328) (hW:Xbb ws) :
  Calls Tryz.prog 111 #[.slice (some ⟨b,0,none⟩) n cap,.int .i64 i] w fun e w'=>e=.returned (.tuple #[])∧w.grownBy w' (some b)∧w'.heap[b]?=some (.cells (Zi (ws.set (i / 64) (ws.getD (i / 64) 0 ||| 2 ^ (i % 64)))) 171 (0,0)):=by
 subst hn
 have hx:=Vw hW hi
 have hcell:w.cell? ⟨b,i / 64,none⟩=some (.int .u64 (ws.getD (i / 64) 0:Nat)):=by rw [cell_of_row _ _ _ _ _ _ hw];exact Xcf hi
 have hfr:w.frozen? ⟨b,i / 64,none⟩=false:=Fz hw
 have hv:Hid (bits .or .u64 ((ws.getD (i / 64) 0:Nat):Int) (IntKind.u64.wrap (2 ^ (i % 64)))=((ws.getD (i / 64) 0 ||| 2 ^ (i % 64):Nat):Int)):=by
  show _=_
  rw [Xh3 _ (by omega),bits_or_u64_nat _ _ hx (Xeu _ (by omega))]
 generalize hg:ws.getD (i / 64) 0=x at *
 have Hw:=Lh hw
 clear hw hg hW
 go_enter Tryz.func111,Tryz.ntmps111
 go_wp2
 go_region
 go_end0
 refine ⟨rfl,Xcg,?_⟩
 rw [hv.out]
 show ((w.setCell ⟨b,i / 64,none⟩ (.int .u64 ((x ||| 2 ^ (i % 64):Nat):Int))).heap)[b]?=_
 rw [heap_setCell_same _ _ _ _ _ _ Hw.out,Xbq]
theorem Xl0 (x k idx:Nat) (w:World) (hx0:((x:Int) == 0)=false)
  (key:IntKind.u64.wrap (bits BinOp.and IntKind.u64 (x:Int) (IntKind.u64.wrap (-(x:Int)))*285870213051353865) / 288230376151711744=(idx:Int))
  (hi:idx<64) (hk:k<64) (hcell:w.cell? ⟨0,idx,none⟩=some (.int .u8 k)) :
  Calls Tryz.prog 139 #[.int .u64 x] w fun e w'=>e=.returned (.int .i64 k)∧w=w':=by
 go_enter Tryz.func139,Tryz.ntmps139
 go_wp2_with (simp only [key])
 go_ret
 exact ⟨rfl,rfl⟩
theorem Xn3 (x:Nat) (hx:x<18446744073709551616) (hx0:x≠0) (w:World) (hT:TabAt 0 Lib.deBruijn64tab w) :
  Calls Tryz.prog 139 #[.int .u64 x] w fun e w'=>e=.returned (.int .i64 (Lib.ctz 64 x))∧w=w':=by
 obtain ⟨hlow,hk⟩:=Lib.lowest_bit 64 x hx0 hx
 obtain ⟨hi,htab⟩:=Lib.deBruijn64_at _ hk
 have hcell:=hT _ hi
 rw [htab] at hcell
 exact Xl0 x _ _ w (by simp;omega) (tz64_key x _ hx hx0 hlow) hi hk hcell
/-- what next returns, and what becomes of the set in block b -/
def Xqt (ws:List Nat) (from_ b:Nat) (w:World) (e:Ending) (w':World):Prop:=
 (e=.returned (.int .i64 (-1))∧w=w'∧∀ i,64*from_≤i→Ym ws i=false)∨
 ∃ (i:Nat) (ws':List Nat),e=.returned (.int .i64 i)∧64*from_≤i∧i / 64<ws.length∧Ym ws i=true∧(∀ j,64*from_≤j→j / 64<i / 64→Ym ws j=false)∧ws'.length=ws.length∧Xbb ws'∧(∀ j,Ym ws' j=(Ym ws j && !decide (j=i)))∧
  w.grownBy w' (some b)∧w'.heap[b]?=some (.cells (Zi ws') 171 (0,0))
theorem Xo5 (x:Nat) (h0:x≠0) (hx:x<18446744073709551616):x.testBit (Lib.ctz 64 x)=true:=by
 unfold Lib.ctz
 rw [if_neg h0]
 obtain ⟨m,h,_⟩:=Lib.ctzFrom_spec 64 x (by omega) (by omega)
 generalize Lib.ctzFrom 64 x=k at *
 rw [h,Nat.testBit_two_pow_mul]
 simp
theorem Xjp {ws:List Nat} {k:Nat} (h:ws.getD k 0=0) (i:Nat) (hi:i / 64=k):Ym ws i=false:=by unfold Ym;rw [hi,h];simp
theorem Xl7 {ws:List Nat} (i:Nat) (hi:ws.length≤i / 64):Ym ws i=false:=by unfold Ym;rw [List.getD_eq_getElem?_getD,List.getElem?_eq_none hi];simp
theorem Xmy (ws:List Nat) (b n cap from_:Nat) (w:World) (hn:ws.length=n) (hw:w.heap[b]?=some (.cells (Zi ws) 171 (0,0))) (hl:ws.length≤1000000) (hf:from_≤1000000) (hW:Xbb ws) (hT:TabAt 0 Lib.deBruijn64tab w) :
  Calls Tryz.prog 112 #[.slice (some ⟨b,0,none⟩) n cap,.int .i64 from_] w (Xqt ws from_ b w):=by
 subst hn
 have HW:=Lh hW
 have HT:=Lh hT
 have Hw:=Lh hw
 clear hw hW hT
 go_enter Tryz.func112,Tryz.ntmps112
 go_wp2
 go_loop [5] (fun i=>∃ k:Nat,from_≤k∧(k≤ws.length∨k=from_)∧i=.int .i64 k∧Hid (∀ i,64*from_≤i→i / 64<k→Ym ws i=false)) (fun i=>ws.length - (intOf i).toNat)
 case atStart=>exact ⟨from_,Nat.le_refl _,.inr rfl,rfl,fun i h h2=>by omega⟩
 case round=>
  obtain ⟨k,hk,hk2,rfl,hall⟩:=hrel
  by_cases hlt:k<ws.length
  ·have hx:=Vw HW.out hlt
   have hcell:w.cell? ⟨b,k,none⟩=some (.int .u64 (ws.getD k 0:Nat)):=by rw [cell_of_row _ _ _ _ _ _ Hw.out];exact Xcf hlt
   have hfr:w.frozen? ⟨b,k,none⟩=false:=Fz Hw.out
   by_cases h0:ws.getD k 0=0
   ·have hb0:(((ws.getD k 0:Nat):Int) != 0)=false:=by rw [h0];rfl
    have hnew:Hid (∀ i,64*from_≤i→i / 64<k+1→Ym ws i=false):=fun i h1 h2=>by
     by_cases he:i / 64=k
     ·exact Xjp h0 i he
     ·exact hall i h1 (by omega)
    generalize hg:ws.getD k 0=x at *
    clear hg h0
    go_wp2_with fail
    go_round
    case rel=>exact ⟨k+1,by omega,.inl (by omega),by go_num,hnew⟩
    case measure=>simp [intOf];omega
   ·have hb0:(((ws.getD k 0:Nat):Int) != 0)=true:=by rw [bne_iff_ne];omega
    obtain ⟨_,hct⟩:=Lib.lowest_bit 64 _ h0 hx
    have hbit:=Xo5 _ h0 hx
    have hi64:(64*k+Lib.ctz 64 (ws.getD k 0)) / 64=k:=by omega
    have hm64:(64*k+Lib.ctz 64 (ws.getD k 0)) % 64=Lib.ctz 64 (ws.getD k 0):=by omega
    have hclr:=fun j=>Xlh (ws:=ws) (i:=64*k+Lib.ctz 64 (ws.getD k 0)) (by rw [hi64];exact hlt) j
    rw [hi64,hm64] at hclr
    have hyes:Ym ws (64*k+Lib.ctz 64 (ws.getD k 0))=true:=by unfold Ym;rw [hi64,hm64];exact hbit
    have hv:Hid (bits .andNot .u64 ((ws.getD k 0:Nat):Int) (IntKind.u64.wrap (2 ^ (Lib.ctz 64 (ws.getD k 0))))=((ws.getD k 0 &&& (18446744073709551615 - 2 ^ (Lib.ctz 64 (ws.getD k 0))):Nat):Int)):=by
     show _=_
     rw [Xh3 _ hct,Xao _ _ hx (Xeu _ hct)]
    have hc:=Lh (Xn3 _ hx h0 w HT.out)
    have hlt2:ws.getD k 0 &&& (18446744073709551615 - 2 ^ (Lib.ctz 64 (ws.getD k 0)))<18446744073709551616:=Nat.lt_of_le_of_lt Nat.and_le_left hx
    have Hclr:=Lh hclr
    have Hyes:=Lh hyes
    clear hclr hyes hbit hi64 hm64 h0
    generalize hg2:Lib.ctz 64 (ws.getD k 0)=c at *
    generalize hg:ws.getD k 0=x at *
    clear hg hg2
    go_wp2_with fail
    refine hc.out.mono ?_
    rintro e w' ⟨rfl,rfl⟩
    go_wp2_with fail
    go_region
    go_wp2_with fail
    go_ret
    refine .inr ⟨64*k+c,ws.set k (x &&& (18446744073709551615 - 2 ^ c)),by go_num,by omega,by omega,Hyes.out,fun j h1 h2=>hall j h1 (by omega),by simp,Uy HW.out _ hlt2,Hclr.out,Xcg,?_⟩
    rw [hv.out]
    show ((w.setCell ⟨b,k,none⟩ (.int .u64 ((x &&& (18446744073709551615 - 2 ^ c):Nat):Int))).heap)[b]?=_
    rw [heap_setCell_same _ _ _ _ _ _ Hw.out,Xbq]
  ·go_wp2_with fail
   go_ret
   exact .inl ⟨rfl,rfl,fun i h=>by
    by_cases h2:i / 64<k
    ·exact hall i h h2
    ·exact Xl7 i (by omega)⟩
theorem Uc:(Tryz.prog.info? 3).map (fun i=>(i.zero,i.size,i.bytes))=some (some (.int .i64 0),1,8):=by kernel_rfl
theorem Xb7:(Tryz.prog.info? 3).map (·.size)=some 1:=by kernel_rfl
def Js (n k:Nat) (v:Int):List Value:=List.replicate k (.int .i64 v)++List.replicate (n - k) (.int .i64 0)
theorem Xrn {n k:Nat} (h:k≤n) (v:Int):(Js n k v).length=n:=by simp [Js];omega
theorem Xe7 (W:World) (n:Nat) (hn:n≤1048576):(Instr.makeSlice 22 (.int .i64 (n:Int)) (.int .i64 (n:Int))).run Tryz.prog W=.ok (.slice (some ⟨W.heap.size,0,none⟩) n n) (W.alloc (.cells (Js n 0 0).toArray 3)):=by
 obtain ⟨i,hi,hz0,hz1,hz2⟩:=info_parts Uc
 have h:=run_make W 22 3 i (.int .i64 0) Tryz.underlying22 hi hz0 .i64 .i64 (n:Int) (n:Int) (by omega) (by omega) (by rw [hz2];omega) (by omega)
 rw [h,hz1]
 have:madeCells (Value.int .i64 0).cells ((n:Int).toNat*1)=(Js n 0 0).toArray:=by
  apply Array.ext_getElem?
  intro j
  simp [madeCells,Value.cells,Js,Nat.mod_one]
  rw [Array.getElem?_replicate]
  by_cases hj:j<n
  ·rw [if_pos hj,Array.getElem?_eq_getElem (by simpa using hj)];rfl
  ·rw [if_neg hj,Array.getElem?_eq_none (by simp;omega)];rfl
 rw [this]
 simp
theorem Xh1 (W:World) (g n k m:Nat) (v:Int) (a:Addr) (sCap dCap sLen dLen:Nat) (ty:TypeId) (hk:k≤n) (hm:m=Nat.min sLen dLen) (hkm:k+m≤n) (hg:W.heap[g]?=some (.cells (Js n k v).toArray 3 (0,0)))
  (hsrc:∀ j,j<m→W.cell? (a.add j)=some (.int .i64 v)) :
  (Builtin.copy_ #[22,22] ty #[.slice (some ⟨g,k,none⟩) dLen dCap,.slice (some a) sLen sCap]).run Tryz.prog W=.ok (.int .i64 (m:Int)) (W.setRow g (Js n (k+m) v).toArray):=by
 have h:=run_copy_row (P:=Tryz.prog) W 22 22 ty 3 g k dLen dCap a sLen sCap (Js n k v).toArray 3 (List.replicate m (.int .i64 v)) Tryz.underlying22 Xb7 hg (by simpa using hm)
  (fun j u hu=>by
   rw [List.getElem?_replicate] at hu
   split at hu
   ·simp at hu;subst hu;exact hsrc j (by assumption)
   ·cases hu) (by simp [Js];omega) (by simp [Value.oneCell'])
 rw [h]
 have:((Js n k v).toArray.toList.take k++List.replicate m (.int .i64 v)++(Js n k v).toArray.toList.drop (k+(List.replicate m (Value.int .i64 v)).length))=Js n (k+m) v:=by
  unfold Js
  rw [List.take_left' (by simp),List.drop_append,List.drop_eq_nil_of_le (by simp)]
  simp only [List.length_replicate,List.nil_append,List.drop_replicate,List.replicate_append_replicate]
  have e:n - k - (k+m - k)=n - (k+m):=by omega
  rw [e]
 rw [this]
 simp [goInt]
def Xrp (n:Nat) (v:Int) (w:World) (e:Ending) (w':World):Prop:=
 ∃ g,e=.returned (.slice (some ⟨g,0,none⟩) n n)∧w.heap.size≤g∧w'.heap[g]?=some (.cells (List.replicate n (Value.int .i64 v)).toArray 3 (0,0))∧Below w.heap.size w w'
theorem Xh5 (n:Nat) (hn:n≤1048576) (w:World):Calls Tryz.prog 138 #[.int .u64 1,.int .u64 (n:Int)] w fun e w'=>e=.returned (.tuple #[.int .u64 0,.int .u64 (n:Int)])∧w=w':=by
 refine (Tryz.bits_Mul 1 n (by omega) (by omega) w).mono ?_
 rintro e w' ⟨rfl,rfl⟩
 have h1:1*n / 18446744073709551616=0:=by omega
 have h2:1*n % 18446744073709551616=n:=by omega
 rw [h1,h2]
 exact ⟨rfl,rfl⟩
theorem Xps {n k j:Nat} (h:j<k) (v:Int):(Js n k v)[j]?=some (.int .i64 v):=by
 unfold Js;rw [List.getElem?_append_left (by simpa using h),List.getElem?_replicate,if_pos h]
theorem Xjg (n:Nat) (v:Int) (bs:Nat) (w:World) (hn:1≤n) (hn2:n≤1048576) (hv:w.cell? ⟨bs,0,none⟩=some (.int .i64 v)) :
  Calls Tryz.prog 110 #[.slice (some ⟨bs,0,none⟩) 1 1,.int .i64 (n:Int)] w (Xrp n v w):=by
 have hmk:=fun W=>Xe7 W n hn2
 have hz:(Js n 0 0)=Js n 0 v:=by simp [Js]
 have hcp:=Xh1 (w.alloc (.cells (Js n 0 0).toArray 3)) w.heap.size n 0 1 v ⟨bs,0,none⟩ 1 n 1 n 3 (by omega) (Nat.min_eq_left hn).symm (by omega) (by rw [heap_alloc_new,hz]) (fun j hj=>by
  obtain rfl:j=0:=by omega
  exact Xc (Xa _ _) hv)
 have hdn:decide ((n:Int)<0)=false:=by simp
 have hdn2:decide (9223372036854775807<(n:Int))=false:=by simp;omega
 have hb1:Below w.heap.size w ((w.alloc (.cells (Js n 0 0).toArray 3)).setRow w.heap.size (Js n 1 v).toArray):=below_setRow (Xa _ _) (Nat.le_refl _) _
 have hh1:((w.alloc (.cells (Js n 0 0).toArray 3)).setRow w.heap.size (Js n 1 v).toArray).heap[w.heap.size]?=some (.cells (Js n 1 v).toArray 3 (0,0)):=setRow_heap _ _ _ _ _ _ (heap_alloc_new _ _)
 have Hh1:=Lh hh1
 simp only [Nat.zero_add] at hcp
 clear hh1 hz
 go_enter Tryz.func110,Tryz.ntmps110
 go_wp2_with fail
 refine (Xh5 n hn2 w).mono ?_
 rintro e w' ⟨rfl,rfl⟩
 go_wp2_with fail
 go_loopw [8] (fun i wr=>∃ k:Nat,1≤k∧k≤n∧i=.int .i64 k∧Hid (wr.heap[w.heap.size]?=some (.cells (Js n k v).toArray 3 (0,0)))∧Below w.heap.size w wr) (fun i _=>n - (intOf i).toNat)
 case atStart=>exact ⟨1,Nat.le_refl _,hn,rfl,Hh1,hb1⟩
 case round=>
  obtain ⟨k,hk1,hk,rfl,hh,hb⟩:=hrel
  by_cases hlt:k<n
  ·have hcp2:=Xh1 wr.drew w.heap.size n k (Nat.min k (n - k)) v ⟨w.heap.size,0,none⟩ n (n - k) k (n - k) 3 hk rfl (by have:=Nat.min_le_right k (n - k);show k+min k (n - k)≤n;omega) hh.out (fun j hj=>by
    have:j<k:=Nat.lt_of_lt_of_le hj (Nat.min_le_left _ _)
    have hadd:(⟨w.heap.size,0,none⟩:Addr).add j=⟨w.heap.size,j,none⟩:=by unfold Addr.add;split<;>simp_all
    rw [hadd]
    show wr.cell? _=_
    rw [cell_of_row _ _ _ _ _ _ hh.out]
    simpa using Xps this v)
   have hh2:Hid ((wr.drew.setRow w.heap.size (Js n (k+Nat.min k (n - k)) v).toArray).heap[w.heap.size]?=some (.cells (Js n (k+Nat.min k (n - k)) v).toArray 3 (0,0))):=setRow_heap _ _ _ _ _ _ hh.out
   have hb2:Below w.heap.size w (wr.drew.setRow w.heap.size (Js n (k+Nat.min k (n - k)) v).toArray):=below_setRow hb.drew (Nat.le_refl _) _
   have hm1:1≤Nat.min k (n - k):=Nat.le_min.2 ⟨hk1,by omega⟩
   have hm2:k+Nat.min k (n - k)≤n:=by have:=Nat.min_le_right k (n - k);show k+min k (n - k)≤n;omega
   generalize Nat.min k (n - k)=m at *
   clear hcp hmk hb1 Hh1
   go_wp2_with fail
   go_region
   go_roundw
   case rel=>(repeat apply Exists.intro);exact ⟨⟨k+m,by omega,hm2,by go_num,hh2,hb2⟩,rfl⟩
   case measure=>simp [intOf];omega
  ·obtain rfl:k=n:=by omega
   go_wp2_with fail
   go_ret
   exact ⟨w.heap.size,rfl,Nat.le_refl _,by rw [hh.out];simp [Js],hb⟩
def Xx (hs:List Int):Array Value:=(hs.map (Value.int .i64)).toArray
theorem Qe {hs:List Int} {k:Nat} {v:Int} (h:hs[k]?=some v):(Xx hs)[k]?=some (.int .i64 v):=by simp [Xx,h]
theorem Jq (hs:List Int) (k:Nat) (y:Int):(Xx hs).setIfInBounds k (.int .i64 y)=Xx (hs.set k y):=by simp [Xx,List.setIfInBounds_toArray,List.map_set]
/-- h in block bh, the set in block bt -/
structure U4 (wr:World) (bh bt:Nat) (hs:List Int) (ws:List Nat):Prop where
 h:wr.heap[bh]?=some (.cells (Xx hs) 3 (0,0))
 t:wr.heap[bt]?=some (.cells (Zi ws) 171 (0,0))
 words:Xbb ws
 ne:bh≠bt
/-- at the head of the loop: at is the instruction that was taken out, or -1 -/
def HSt (c:Cod) (f:Fun) (hs:List Int) (ws:List Nat) (a:Value) (gk:Nat):Prop:=
 (a=.int .i64 (-1)∧Lab c f hs (Ym ws) (fun _=>False)∧∀ i,Ym ws i=false)∨
 ∃ (i:Nat) (v:Int),a=.int .i64 i∧Lab c f hs (Ym ws) (fun j=>j=i)∧hs[i]?=some v∧0≤v∧(∀ j,Ym ws j=true→i / 64≤j / 64)∧2*Xbn hs+Ur (Ym ws) f.code.length<gk
/-- inside: the successors l of instruction i up to j have the height n; wd is not greater than the word of any bit -/
structure ISt (c:Cod) (f:Fun) (hs:List Int) (ws:List Nat) (i:Nat) (v n:Int) (l:List Nat) (j wd M:Nat):Prop where
 lab:Lab c f hs (Ym ws) (fun q=>q=i)
 at_:hs[i]?=some v
 words:∀ q,Ym ws q=true→wd≤q / 64
 so:∀ t k,t<j→l[t]?=some k→hs[k]?=some n
 less:2*Xbn hs+Ur (Ym ws) f.code.length≤M
theorem Xne {c:Cod} {f:Fun} {hs:List Int} {ws ws':List Nat} {wd i M:Nat} (h:Lab c f hs (Ym ws) (fun _=>False)) (hw:∀ q,Ym ws q=true→wd≤q / 64) (hM:2*Xbn hs+Ur (Ym ws) f.code.length≤M)
  (h1:Ym ws i=true) (h2:∀ j,64*wd≤j→j / 64<i / 64→Ym ws j=false) (h3:∀ j,Ym ws' j=(Ym ws j && !decide (j=i))):HSt c f hs ws' (.int .i64 i) M:=by
 obtain ⟨v,hv,hv0⟩:=h.bit i h1
 have hi:i<f.code.length:=by rw [←h.len];exact (Ll hv)
 refine .inr ⟨i,v,rfl,h.take h3,hv,hv0,fun j hj=>?_,?_⟩
 ·rw [h3] at hj
  simp at hj
  by_cases hlt:j / 64<i / 64
  ·rw [h2 j (by have:=hw j hj.1;omega) hlt] at hj;simp at hj
  ·omega
 ·have:=Xn7 hi h1 h3;omega
theorem Xmv {c:Cod} {f:Fun} {hs:List Int} {ws:List Nat} {wd M:Nat} (h:Lab c f hs (Ym ws) (fun _=>False)) (hw:∀ q,Ym ws q=true→wd≤q / 64) (h2:∀ j,64*wd≤j→Ym ws j=false):HSt c f hs ws (.int .i64 (-1)) M:=by
 refine .inl ⟨rfl,h,fun i=>?_⟩
 cases hb:Ym ws i with
 | false=>rfl
 | true=>rw [h2 i (by have:=hw i hb;omega)] at hb;cases hb
theorem ISt.start {c:Cod} {f:Fun} {hs:List Int} {ws:List Nat} {i:Nat} {v:Int} {M:Nat} (n:Int) (l:List Nat) (h:Lab c f hs (Ym ws) (fun j=>j=i)) (hv:hs[i]?=some v) (hw:∀ j,Ym ws j=true→i / 64≤j / 64) (hM:2*Xbn hs+Ur (Ym ws) f.code.length≤M):ISt c f hs ws i v n l 0 (i / 64) M:=
 ⟨h,hv,hw,fun t k ht=>by omega,hM⟩
theorem ISt.same {c:Cod} {f:Fun} {hs:List Int} {ws:List Nat} {i:Nat} {v n:Int} {l:List Nat} {j wd M k:Nat} (h:ISt c f hs ws i v n l j wd M) (hk:l[j]?=some k) (hkv:hs[k]?=some n):ISt c f hs ws i v n l (j+1) wd M:=
 ⟨h.lab,h.at_,h.words,fun t q ht hq=>by
  by_cases e:t=j
  ·subst e;rw [hk] at hq;cases hq;exact hkv
  ·exact h.so t q (by omega) hq,h.less⟩
theorem ISt.label {c:Cod} {f:Fun} {hs:List Int} {ws ws':List Nat} {i:Nat} {v:Int} {x:Ins} {j wd M k:Nat} (wf:WfF c f) (hx:f.code[i]?=some x) (hv0:0≤v) (hp:Xm c f x≤v)
  (h:ISt c f hs ws i v (v - Xm c f x+Xj c f x) (X2 x i) j wd M) (hk:(X2 x i)[j]?=some k) (hkv:hs[k]?=some (-1)) (h3:∀ q,Ym ws' q=(Ym ws q || decide (q=k))) :
  ISt c f (hs.set k (v - Xm c f x+Xj c f x)) ws' i v (v - Xm c f x+Xj c f x) (X2 x i) (j+1) (min wd (k / 64)) M:=by
 have hps:=wf.pushes x (List.mem_of_getElem? hx)
 have hne:∀ (q:Nat) u,hs[q]?=some u→0≤u→k≠q:=fun q u hj hu e=>by subst e;rw [hkv] at hj;cases hj;omega
 have hset:∀ (q:Nat) u,hs[q]?=some u→0≤u→(hs.set k (v - Xm c f x+Xj c f x))[q]?=some u:=fun q u hj hu=>by
  rw [List.getElem?_set,if_neg (hne q u hj hu)];exact hj
 refine ⟨h.lab.label wf h.at_ hv0 hx hp (List.mem_of_getElem? hk) hkv h3,hset _ _ h.at_ hv0,fun q hq=>?_,fun t q ht hq=>?_,?_⟩
 ·rw [h3] at hq
  simp at hq
  rcases hq with hq|rfl
  ·exact Nat.le_trans (Nat.min_le_left _ _) (h.words q hq)
  ·exact Nat.min_le_right _ _
 ·by_cases e:t=j
  ·subst e;rw [hk] at hq;cases hq
   exact List.getElem?_set_self (Ll hkv)
  ·exact hset _ _ (h.so t q (by omega) hq) (by omega)
 ·have h1:=Xhl (v:=v - Xm c f x+Xj c f x) hkv (by omega) (by omega)
  have h2:=Xgr (n:=f.code.length) h3
  have:=h.less
  omega
theorem ISt.done {c:Cod} {f:Fun} {hs:List Int} {ws:List Nat} {i:Nat} {v:Int} {x:Ins} {j wd M:Nat} (hx:f.code[i]?=some x) (hp:Xm c f x≤v) (hr:x.op=10→v≤Xm c f x)
  (h:ISt c f hs ws i v (v - Xm c f x+Xj c f x) (X2 x i) j wd M) (hj:(X2 x i).length≤j):Lab c f hs (Ym ws) (fun _=>False):=
 h.lab.put h.at_ ⟨x,hx,hp,hr,fun k hk=>by
  obtain ⟨t,ht,rfl⟩:=List.getElem_of_mem hk
  exact h.so t _ (by omega) (List.getElem?_eq_getElem ht)⟩
theorem ISt.clash {c:Cod} {f:Fun} {hs:List Int} {ws:List Nat} {i:Nat} {v u:Int} {x:Ins} {j wd M k:Nat} (hx:f.code[i]?=some x) (hv0:0≤v)
  (h:ISt c f hs ws i v (v - Xm c f x+Xj c f x) (X2 x i) j wd M) (hk:(X2 x i)[j]?=some k) (hkv:hs[k]?=some u) (hu:0≤u) (hne:u≠v - Xm c f x+Xj c f x):¬Zh c f:=
 fun hs=>hne (hs.2 k _ _ (h.lab.reach k u hkv hu) ((h.lab.reach i v h.at_ hv0).next hx (List.mem_of_getElem? hk)))
theorem J9 {c:Cod} {f:Fun} {hs:List Int} {T:Nat→Bool} {s:Nat→Prop} {i:Nat} {v:Int} {x:Ins} (h:Lab c f hs T s) (hv:hs[i]?=some v) (hv0:0≤v) (hx:f.code[i]?=some x)
  (hno:¬(Xm c f x≤v∧(x.op=10→v≤Xm c f x)∧∀ k∈X2 x i,k<f.code.length)):¬Zh c f:=fun hs=>by
 obtain ⟨y,hy,h1,h2,h3⟩:=hs.1 i v (h.reach i v hv hv0)
 rw [hx] at hy;cases hy
 exact hno ⟨h1,h2,h3⟩
end Go.Proofs.YtbmeoklmachjpaaGreatDoor
