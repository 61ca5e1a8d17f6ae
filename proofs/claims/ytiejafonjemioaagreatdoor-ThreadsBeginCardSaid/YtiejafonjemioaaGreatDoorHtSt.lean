import Derived.Test.YtiejafonjemioaaGreatDoorMov
import Derived.RegionTactic
import Derived.ChangeAlike
import Derived.Laws.CopyOwn
import Derived.Laws.MakeOwn
import Derived.Deep.LoopGhost
import Derived.Deep.DeepCutAuto
set_option maxHeartbeats 2000000
set_option maxRecDepth 100000
set_option linter.unusedVariables false
set_option linter.unusedSimpArgs false
open Go.Value renaming slice→σ
open Go.Obj renaming cells→χ
namespace Go.Proofs.YtiejafonjemioaaGreatDoor
open Go.RowKit
variable {c:Cod} {f:Fun} {i n k b j wd M base bh bt:Nat} {x:Ins} {hs:List Int} {T T':Nat->Bool} {v u:Int} {ws ws' l:List Nat} {w w':World} {sa:Option Addr}
def X2 (x:Ins) (i:Nat):List Nat:=(if x.op=10\/x.op=11 then [] else [i+1])++(if x.op=11\/x.op=12 then [x.a.toNat] else [])
def Reach (c:Cod) (f:Fun) (i:Nat) (n:Int):Prop:=
 ∀ R:Nat->Int->Prop,R 0 0->(∀ i n x k,R i n->f.code[i]?=some x->k∈X2 x i->R k (n - Xm c f x+Xj c f x))->R i n
theorem Reach.zero (c:Cod) (f:Fun):Reach c f 0 0:=fun _ h _=>h
theorem Reach.next {n:Int} (h:Reach c f i n) (hx:f.code[i]?=some x) (hk:k∈X2 x i):Reach c f k (n - Xm c f x+Xj c f x):=
 fun R h0 hs=>hs _ _ _ _ (h R h0 hs) hx hk
def Xpn (c:Cod) (f:Fun) (i:Nat) (n:Int):Prop:=
 ∃ x,f.code[i]?=some x/\Xm c f x<=n/\(x.op=10->n<=Xm c f x)/\∀ k∈X2 x i,k<f.code.length
def Zh (c:Cod) (f:Fun):Prop:=(∀ i n,Reach c f i n->Xpn c f i n)/\∀ i n m,Reach c f i n->Reach c f i m->n=m
def Zp (c:Cod) (f:Fun) (h:List Int):Prop:=h.length=f.code.length/\∀ i v,h[i]?=some v->(v = -1/\∀ n,¬Reach c f i n)\/(0<=v/\Reach c f i v)
structure WfF (c:Cod) (f:Fun):Prop where
 one:1<=f.code.length
 most:f.code.length<=1048576
 op:∀ x∈f.code,1<=x.op/\x.op<=31
 call:∀ x∈f.code,x.op=9->0<=x.a/\x.a<c.funcs.length
 jump:∀ x∈f.code,x.op=11\/x.op=12->0<=x.a/\x.a<f.code.length
 pops:∀ x∈f.code,0<=Xm c f x/\Xm c f x<=6
 pushes:∀ x∈f.code,0<=Xj c f x/\Xj c f x<=2
def Xbn (hs:List Int):Nat:=hs.countP (fun v=>decide (v<0))
def Xn6 (c:Cod) (f:Fun) (hs:List Int) (i:Nat) (v:Int):Prop:=
 ∃ x,f.code[i]?=some x/\Xm c f x<=v/\(x.op=10->v<=Xm c f x)/\∀ k∈X2 x i,hs[k]?=some (v - Xm c f x+Xj c f x)
structure Lab (c:Cod) (f:Fun) (hs:List Int) (T:Nat->Bool) (skip:Nat->Prop):Prop where
 len:hs.length=f.code.length
 zero:hs[0]?=some 0
 bit:∀ (i:Nat),T i=true->∃ v,hs[i]?=some v/\0<=v
 reach:∀ (i:Nat) v,hs[i]?=some v->0<=v->Reach c f i v
 neg:∀ (i:Nat) v,hs[i]?=some v->v<0->v = -1
 done:∀ (i:Nat) v,hs[i]?=some v->0<=v->T i=false->¬skip i->Xn6 c f hs i v
 bound:∀ (i:Nat) v,hs[i]?=some v->v+2*Xbn hs<=2*hs.length
theorem Lab.start (wf:WfF c f) (T:Nat->Bool) (hT:∀ i,T i=decide (i=0)):Lab c f ((List.replicate f.code.length (-1:Int)).set 0 0) T (fun _=>False) where
 len:=by simp
 zero:=List.getElem?_set_self (by rw [List.length_replicate];exact wf.one)
 bit:=fun i h=>by
  rw [hT] at h;simp at h;subst h
  exact ⟨0,List.getElem?_set_self (by rw [List.length_replicate];exact wf.one),ω⟩
 reach:=fun i v h hv=>by
  rw [List.getElem?_set] at h
  by_cases hi:0=i
  ·subst hi;simp at h;obtain ⟨_,rfl⟩:=h;exact Reach.zero c f
  ·rw [if_neg hi,List.getElem?_replicate] at h
   split at h
   ·simp at h;omega
   ·cases h
 neg:=fun i v h hv=>by
  rw [List.getElem?_set] at h
  by_cases hi:0=i
  ·subst hi;simp at h;omega
  ·rw [if_neg hi,List.getElem?_replicate] at h
   split at h
   ·simp at h;omega
   ·cases h
 done:=fun i v h hv ht _=>by
  rw [hT] at ht;simp at ht
  rw [List.getElem?_set,if_neg (fun e=>ht e.symm),List.getElem?_replicate] at h
  split at h
  ·simp at h;omega
  ·cases h
 bound:=fun i v h=>by
  have h1:Xbn ((List.replicate f.code.length (-1:Int)).set 0 0)<=f.code.length - 1:=by
   have:=wf.one
   unfold Xbn
   obtain ⟨m,hm⟩:∃ m,f.code.length=m+1:=⟨f.code.length - 1,ω⟩
   rw [hm,List.replicate_succ,List.set_cons_zero,List.countP_cons]
   have:=List.countP_le_length (p:=fun v:Int=>decide (v<0)) (l:=List.replicate m (-1))
   simp at this ⊢
   omega
  have h2:v<=0:=by
   rw [List.getElem?_set] at h
   by_cases hi:0=i
   ·subst hi;simp at h;omega
   ·rw [if_neg hi,List.getElem?_replicate] at h
    split at h
    ·simp at h;omega
    ·cases h
  have:=wf.one
  simp
  omega
theorem Lab.take (h:Lab c f hs T (fun _=>False)) (hT:∀ j,T' j=(T j && !decide (j=i))):Lab c f hs T' (fun j=>j=i) where
 len:=h.len
 zero:=h.zero
 bit:=fun j hj=>h.bit j (by rw [hT] at hj;simp at hj;exact hj.1)
 reach:=h.reach
 neg:=h.neg
 done:=fun j v hj hv ht hs=>h.done j v hj hv (by rw [hT] at ht;simp at ht;by_cases e:T j=true;exact absurd (ht e) hs;simpa using e) (fun e=>e)
 bound:=h.bound
theorem Lab.put (h:Lab c f hs T (fun j=>j=i)) (hv:hs[i]?=some v) (hd:Xn6 c f hs i v):Lab c f hs T (fun _=>False) where
 len:=h.len
 zero:=h.zero
 bit:=h.bit
 reach:=h.reach
 neg:=h.neg
 done:=fun j u hj hu ht _=>by
  by_cases e:j=i
  ·subst e;rw [hv] at hj;cases hj;exact hd
  ·exact h.done j u hj hu ht e
 bound:=h.bound
theorem Xhl (hk:hs[k]?=some u) (hu:u<0) (hv:0<=v):Xbn (hs.set k v)+1=Xbn hs:=by
 unfold Xbn
 induction hs generalizing k with
 | nil=>simp at hk
 | cons a l ih=>
  cases k with
  | zero=>simp at hk;subst hk;rw [List.set_cons_zero,List.countP_cons,List.countP_cons];simp [hu];omega
  | succ k=>
   simp at hk
   rw [List.set_cons_succ,List.countP_cons,List.countP_cons]
   have:=ih hk
   omega
theorem Lab.label (wf:WfF c f) (h:Lab c f hs T (fun j=>j=i)) (hv:hs[i]?=some v) (h0:0<=v) (hx:f.code[i]?=some x) (hp:Xm c f x<=v)
  (hk:k∈X2 x i) (hkv:hs[k]?=some (-1)) (hT:∀ j,T' j=(T j || decide (j=k))):Lab c f (hs.set k (v - Xm c f x+Xj c f x)) T' (fun j=>j=i):=by
 have aF:=wf.pushes x (Lm hx)
 have aI:=wf.pops x (Lm hx)
 have aC:k<hs.length:=(Ll hkv)
 have aE:∀ (j:Nat) u,hs[j]?=some u->0<=u->k≠j:=fun j u hj hu e=>by subst e;rw [hkv] at hj;cases hj;omega
 have aB:∀ (j:Nat) u,hs[j]?=some u->0<=u->(hs.set k (v - Xm c f x+Xj c f x))[j]?=some u:=fun j u hj hu=>by
  rw [List.getElem?_set,if_neg (aE j u hj hu)];exact hj
 have aA:∀ (j:Nat) u,(hs.set k (v - Xm c f x+Xj c f x))[j]?=some u->(j=k/\u=v - Xm c f x+Xj c f x)\/(j≠k/\hs[j]?=some u):=fun j u hj=>by
  rw [List.getElem?_set] at hj
  by_cases e:k=j
  ·subst e;simp [aC] at hj;exact .inl ⟨rfl,hj.symm⟩
  ·rw [if_neg e] at hj;exact .inr ⟨fun q=>e q.symm,hj⟩
 have aH:=Xhl (v:=v - Xm c f x+Xj c f x) hkv ω ω
 refine ⟨by simp [h.len],aB 0 0 h.zero ω,?_,?_,?_,?_,?_⟩
 ·intro j hj
  rw [hT] at hj
  simp at hj
  rcases hj with hj|rfl
  ·obtain ⟨u,hu,aD⟩:=h.bit j hj
   exact ⟨u,aB j u hu aD,aD⟩
  ·exact ⟨_,List.getElem?_set_self aC,ω⟩
 ·intro j u hj hu
  rcases aA j u hj with ⟨rfl,rfl⟩|⟨_,hj⟩
  ·exact (h.reach i v hv h0).next hx hk
  ·exact h.reach j u hj hu
 ·intro j u hj hu
  rcases aA j u hj with ⟨rfl,rfl⟩|⟨_,hj⟩
  ·omega
  ·exact h.neg j u hj hu
 ·intro j u hj hu ht aG
  rw [hT] at ht
  simp at ht
  rcases aA j u hj with ⟨rfl,rfl⟩|⟨_,hj⟩
  ·exact absurd rfl ht.2
  ·obtain ⟨y,hy,h1,h2,h3⟩:=h.done j u hj hu ht.1 aG
   have aF:=wf.pushes y (Lm hy)
   exact ⟨y,hy,h1,h2,fun q hq=>aB q _ (h3 q hq) ω⟩
 ·intro j u hj
  rw [List.length_set]
  rcases aA j u hj with ⟨rfl,rfl⟩|⟨_,hj⟩
  ·have:=h.bound i v hv;omega
  ·have:=h.bound j u hj;omega
theorem Lab.fin (wf:WfF c f) (h:Lab c f hs T (fun _=>False)) (hT:∀ i,T i=false):Zh c f/\Zp c f hs:=by
 have hR:∀ i n,Reach c f i n->hs[i]?=some n/\0<=n:=by
  intro i n hr
  have:=hr (fun i n=>hs[i]?=some n/\0<=n) ⟨h.zero,ω⟩ (fun i n x k ⟨h1,h2⟩ hx hk=>by
   obtain ⟨y,hy,h3,_,h5⟩:=h.done i n h1 h2 (hT i) (fun e=>e)
   rw [hx] at hy;cases hy
   have hp:=wf.pushes x (Lm hx)
   exact ⟨h5 k hk,ω⟩)
  exact this
 refine ⟨⟨fun i n hr=>?_,fun i n m h1 h2=>?_⟩,h.len,fun i v hv=>?_⟩
 ·obtain ⟨h1,h2⟩:=hR i n hr
  obtain ⟨x,hx,h3,h4,h5⟩:=h.done i n h1 h2 (hT i) (fun e=>e)
  exact ⟨x,hx,h3,h4,fun k hk=>by rw [<-h.len];exact (List.getElem?_eq_some_iff.1 (h5 k hk)).1⟩
 ·have a:=(hR i n h1).1
  rw [(hR i m h2).1] at a
  cases a;rfl
 ·by_cases h0:0<=v
  ·exact .inr ⟨h0,h.reach i v hv h0⟩
  ·refine .inl ⟨h.neg i v hv ω,fun n hr=>?_⟩
   obtain ⟨h1,h2⟩:=hR i n hr
   rw [hv] at h1;cases h1;omega
def Ur (T:Nat->Bool) (n:Nat):Nat:=(List.range n).countP T
theorem K3 (T:Nat->Bool) (n:Nat):Ur T (n+1)=Ur T n+(if T n then 1 else 0):=by
 unfold Ur;rw [List.range_succ,List.countP_append];simp
theorem Xd6 (h:∀ j,j<n->T j=T' j):Ur T n=Ur T' n:=by
 induction n with
 | zero=>rfl
 | succ n ih=>rw [K3,K3,ih (fun j hj=>h j ω),h n ω]
theorem Xn7 (hi:i<n) (h1:T i=true) (hT:∀ j,T' j=(T j && !decide (j=i))):Ur T' n+1=Ur T n:=by
 induction n with
 | zero=>omega
 | succ n ih=>
  rw [K3,K3]
  by_cases e:i=n
  ·subst e
   rw [Xd6 (T:=T') (T':=T) (fun j hj=>by rw [hT];have:decide (j=i)=false:=φ;rw [this];simp),hT,h1]
   simp
  ·have:=ih ω
   rw [hT n]
   have h2:decide (n=i)=false:=by simp;omega
   rw [h2]
   simp only [Bool.not_false,Bool.and_true]
   omega
theorem Xgr (hT:∀ j,T' j=(T j || decide (j=k))):Ur T' n<=Ur T n+1:=by
 induction n with
 | zero=>simp [Ur]
 | succ n ih=>
  rw [K3,K3]
  by_cases e:n=k
  ·subst e
   have h1:Ur T' n=Ur T n:=Xd6 (fun j hj=>by rw [hT];have:decide (j=n)=false:=φ;rw [this];simp)
   rw [h1]
   split<;>split<;>omega
  ·have h2:T' n=T n:=by
    rw [hT];have:decide (n=k)=false:=by simpa using e
    rw [this];simp
   rw [h2];omega
def Zi (ws:List Nat):Array Value:=(ws.map fun (x:Nat)=>Value.int .u64 (x:Int)).toArray
def Ym (ws:List Nat) (i:Nat):Bool:=(ws.getD (i / 64) 0).testBit (i % 64)
def Xbb (ws:List Nat):Prop:=∀ x∈ws,x<18446744073709551616
theorem Xg6 (hk:k<ws.length) (y:Nat) (j:Nat):(ws.set k y).getD j 0=if j=k then y else ws.getD j 0:=by
 simp only [List.getD_eq_getElem?_getD,List.getElem?_set]
 by_cases h:k=j
 ·subst h;simp [hk]
 ·rw [if_neg h,if_neg (fun e=>h e.symm)]
theorem Xbp (hi:i / 64<ws.length) (j:Nat):Ym (ws.set (i / 64) (ws.getD (i / 64) 0 ||| 2 ^ (i % 64))) j=(Ym ws j || decide (j=i)):=by
 unfold Ym
 rw [Xg6 hi]
 by_cases h:j / 64=i / 64
 ·rw [if_pos h,h,Nat.testBit_or,Nat.testBit_two_pow]
  congr 1
  rw [Bool.eq_iff_iff];simp;omega
 ·rw [if_neg h]
  have:decide (j=i)=false:=by simp;intro e;exact h (by rw [e])
  rw [this,Bool.or_false]
theorem Xlh (hi:i / 64<ws.length) (j:Nat):Ym (ws.set (i / 64) (ws.getD (i / 64) 0 &&& (18446744073709551615 - 2 ^ (i % 64)))) j=(Ym ws j && !decide (j=i)):=by
 unfold Ym
 rw [Xg6 hi]
 by_cases h:j / 64=i / 64
 ·rw [if_pos h,h,Nat.testBit_and]
  congr 1
  have h1:18446744073709551615 - 2 ^ (i % 64)=2 ^ 64 - (2 ^ (i % 64)+1):=ω
  have h2:2 ^ (i % 64)<2 ^ 64:=Nat.pow_lt_pow_right ω ω
  rw [h1,Nat.testBit_two_pow_sub_succ h2,Nat.testBit_two_pow]
  rw [Bool.eq_iff_iff];simp;omega
 ·rw [if_neg h]
  have:decide (j=i)=false:=by simp;intro e;exact h (by rw [e])
  rw [this];simp
theorem Uy (h:Xbb ws) (k:Nat) {y:Nat} (hy:y<18446744073709551616):Xbb (ws.set k y):=by
 intro x hx
 rcases List.mem_or_eq_of_mem_set hx with h1|h1
 ·exact h x h1
 ·omega
theorem Vw (h:Xbb ws) (hk:k<ws.length):ws.getD k 0<18446744073709551616:=by
 rw [List.getD_eq_getElem?_getD,Lg hk];exact h _ (List.getElem_mem hk)
theorem Xcf (hk:k<ws.length):(Zi ws)[k]?=some (.int .u64 (ws.getD k 0:Nat)):=by
 simp [Zi,List.getD_eq_getElem?_getD,Lg hk]
theorem Xbq (ws:List Nat) (k y:Nat):(Zi ws).setIfInBounds k (.int .u64 (y:Nat))=Zi (ws.set k y):=by
 simp [Zi,List.setIfInBounds_toArray,List.map_set]
theorem Xao (a b:Nat) (ha:a<18446744073709551616) (hb:b<18446744073709551616) :
  bits .andNot .u64 (a:Int) (b:Int)=((a &&& (18446744073709551615 - b):Nat):Int):=by
 have hx:a &&& (18446744073709551615 - b)<2 ^ 64:=Nat.and_lt_two_pow _ ω
 have h1:(BitVec.ofInt 64 (a:Int)).toNat=a:=by
  rw [BitVec.ofInt_natCast,BitVec.toNat_ofNat];exact Nat.mod_eq_of_lt ω
 have h2:(BitVec.ofInt 64 (b:Int)).toNat=b:=by
  rw [BitVec.ofInt_natCast,BitVec.toNat_ofNat];exact Nat.mod_eq_of_lt ω
 show IntKind.u64.wrap ((BitVec.ofInt 64 (a:Int) &&& ~~~BitVec.ofInt 64 (b:Int)).toNat:Int)=_
 rw [BitVec.toNat_and,BitVec.toNat_not,h1,h2,IntKind.wrap_u64]
 have:2 ^ 64 - 1 - b=18446744073709551615 - b:=ω
 rw [this]
 omega
theorem Xeu (k:Nat) (h:k<64):(2:Nat) ^ k<18446744073709551616:=by
 have:=Nat.pow_lt_pow_right (a:=2) ω h;omega
theorem Xh3 (k:Nat) (h:k<64):IntKind.u64.wrap ((2:Int) ^ k)=((2 ^ k:Nat):Int):=by
 have:=Xeu k h
 rw [IntKind.wrap_u64]
 have e:((2:Int) ^ k)=((2 ^ k:Nat):Int):=by simp
 rw [e]
 generalize 2 ^ k=y at *
 omega
theorem Xcg {v:Value}:w.grownBy (w.setCell (π b k) v).drew (some b):=
 ⟨rfl,rfl,rfl,ψ,fun j _ h=>heap_setCell_other _ _ _ _ (fun e=>h (by rw [e]))⟩
theorem Xcz (ws:List Nat) (b n cap:Nat) (i:Nat) (w:World) (hn:ws.length=n) (hw:w.heap[b]?=some (χ (Zi ws) 211 (0,0))) (hi:i / 64<ws.length) (hl:ws.length<=140737488355328) (hW:Xbb ws) :
  Calls Tryz.prog 153 #[σ (some (π b 0)) n cap,ι i] w fun e w'=>e=.returned (.tuple #[])/\w.grownBy w' (some b)/\w'.heap[b]?=some (χ (Zi (ws.set (i / 64) (ws.getD (i / 64) 0 ||| 2 ^ (i % 64)))) 211 (0,0)):=by
 subst hn
 have hx:=Vw hW hi
 have aA:w.cell? (π b (i / 64))=some (.int .u64 (ws.getD (i / 64) 0:Nat)):=by rw [cell_of_row _ _ _ _ _ _ hw];exact Xcf hi
 have aB:w.frozen? (π b (i / 64))=false:=Fz hw
 have hv:Hid (bits .or .u64 ((ws.getD (i / 64) 0:Nat):Int) (IntKind.u64.wrap (2 ^ (i % 64)))=((ws.getD (i / 64) 0 ||| 2 ^ (i % 64):Nat):Int)):=by
  show _=_
  rw [Xh3 _ ω,bits_or_u64_nat _ _ hx (Xeu _ ω)]
 generalize hg:ws.getD (i / 64) 0=x at *
 have Hw:=Lh hw
 clear hw hg hW
 go_enter Tryz.func153,Tryz.ntmps153
 go_wp2
 go_region
 go_end0
 refine ⟨rfl,Xcg,?_⟩
 rw [hv.o]
 show ((w.setCell (π b (i / 64)) (.int .u64 ((x ||| 2 ^ (i % 64):Nat):Int))).heap)[b]?=_
 rw [heap_setCell_same _ _ _ _ _ _ Hw.o,Xbq]
theorem Xl0 (x k idx:Nat) (w:World) (hx0:((x:Int) == 0)=false)
  (key:IntKind.u64.wrap (bits BinOp.and IntKind.u64 (x:Int) (IntKind.u64.wrap (-(x:Int)))*285870213051353865) / 288230376151711744=(idx:Int))
  (hi:idx<64) (hk:k<64) (hcell:w.cell? (π 0 idx)=some (.int .u8 k)) :
  Calls Tryz.prog 178 #[.int .u64 x] w fun e w'=>e=.returned (ι k)/\w=w':=by
 go_enter Tryz.func178,Tryz.ntmps178
 go_wp2_with (simp only [key])
 go_ret
 exact ⟨rfl,rfl⟩
theorem Xn3 (x:Nat) (hx:x<18446744073709551616) (hx0:x≠0) (w:World) (hT:TabAt 0 Lib.deBruijn64tab w) :
  Calls Tryz.prog 178 #[.int .u64 x] w fun e w'=>e=.returned (ι (Lib.ctz 64 x))/\w=w':=by
 obtain ⟨aB,hk⟩:=Lib.lowest_bit 64 x hx0 hx
 obtain ⟨hi,aC⟩:=Lib.deBruijn64_at _ hk
 have aA:=hT _ hi
 rw [aC] at aA
 exact Xl0 x _ _ w φ (tz64_key x _ hx hx0 aB) hi hk aA
def Xqt (ws:List Nat) (from_ b:Nat) (w:World) (e:Ending) (w':World):Prop:=
 (e=.returned (ι (-1))/\w=w'/\∀ i,64*from_<=i->Ym ws i=false)\/
 ∃ (i:Nat) (ws':List Nat),e=.returned (ι i)/\64*from_<=i/\i / 64<ws.length/\Ym ws i=true/\(∀ j,64*from_<=j->j / 64<i / 64->Ym ws j=false)/\ws'.length=ws.length/\Xbb ws'/\(∀ j,Ym ws' j=(Ym ws j && !decide (j=i)))/\
  w.grownBy w' (some b)/\w'.heap[b]?=some (χ (Zi ws') 211 (0,0))
theorem Xo5 (x:Nat) (h0:x≠0) (hx:x<18446744073709551616):x.testBit (Lib.ctz 64 x)=true:=by
 unfold Lib.ctz
 rw [if_neg h0]
 obtain ⟨m,h,_⟩:=Lib.ctzFrom_spec 64 x ω ω
 generalize Lib.ctzFrom 64 x=k at *
 rw [h,Nat.testBit_two_pow_mul]
 simp
theorem Xjp (h:ws.getD k 0=0) (i:Nat) (hi:i / 64=k):Ym ws i=false:=by unfold Ym;rw [hi,h];simp
theorem Xl7 (i:Nat) (hi:ws.length<=i / 64):Ym ws i=false:=by unfold Ym;rw [List.getD_eq_getElem?_getD,List.getElem?_eq_none hi];simp
theorem Xmy (ws:List Nat) (b n cap from_:Nat) (w:World) (hn:ws.length=n) (hw:w.heap[b]?=some (χ (Zi ws) 211 (0,0))) (hl:ws.length<=1000000) (hf:from_<=1000000) (hW:Xbb ws) (hT:TabAt 0 Lib.deBruijn64tab w) :
  Calls Tryz.prog 154 #[σ (some (π b 0)) n cap,ι from_] w (Xqt ws from_ b w):=by
 subst hn
 have HW:=Lh hW
 have HT:=Lh hT
 have Hw:=Lh hw
 clear hw hW hT
 go_enter Tryz.func154,Tryz.ntmps154
 go_wp2
 go_loop [5] (fun i=>∃ k:Nat,from_<=k/\(k<=ws.length\/k=from_)/\i=ι k/\Hid (∀ i,64*from_<=i->i / 64<k->Ym ws i=false)) (fun i=>ws.length - (intOf i).toNat)
 case atStart=>exact ⟨from_,Nr _,.inr rfl,rfl,fun i h h2=>by omega⟩
 case round=>
  obtain ⟨k,hk,aP,rfl,aB⟩:=hrel
  by_cases aI:k<ws.length
  ·have hx:=Vw HW.o aI
   have aL:w.cell? (π b k)=some (.int .u64 (ws.getD k 0:Nat)):=by rw [cell_of_row _ _ _ _ _ _ Hw.o];exact Xcf aI
   have aO:w.frozen? (π b k)=false:=Fz Hw.o
   by_cases h0:ws.getD k 0=0
   ·have aN:(((ws.getD k 0:Nat):Int) != 0)=false:=by rw [h0];rfl
    have aK:Hid (∀ i,64*from_<=i->i / 64<k+1->Ym ws i=false):=fun i h1 h2=>by
     by_cases he:i / 64=k
     ·exact Xjp h0 i he
     ·exact aB i h1 ω
    generalize hg:ws.getD k 0=x at *
    clear hg h0
    go_wp2
    go_round
    case rel=>exact ⟨k+1,ω,.inl ω,by go_num,aK⟩
    case measure=>simp [intOf];omega
   ·have aN:(((ws.getD k 0:Nat):Int) != 0)=true:=by rw [bne_iff_ne];omega
    obtain ⟨_,aM⟩:=Lib.lowest_bit 64 _ h0 hx
    have aE:=Xo5 _ h0 hx
    have aA:(64*k+Lib.ctz 64 (ws.getD k 0)) / 64=k:=ω
    have aD:(64*k+Lib.ctz 64 (ws.getD k 0)) % 64=Lib.ctz 64 (ws.getD k 0):=ω
    have aC:=fun j=>Xlh (ws:=ws) (i:=64*k+Lib.ctz 64 (ws.getD k 0)) (by rw [aA];exact aI) j
    rw [aA,aD] at aC
    have aF:Ym ws (64*k+Lib.ctz 64 (ws.getD k 0))=true:=by unfold Ym;rw [aA,aD];exact aE
    have hv:Hid (bits .andNot .u64 ((ws.getD k 0:Nat):Int) (IntKind.u64.wrap (2 ^ (Lib.ctz 64 (ws.getD k 0))))=((ws.getD k 0 &&& (18446744073709551615 - 2 ^ (Lib.ctz 64 (ws.getD k 0))):Nat):Int)):=by
     show _=_
     rw [Xh3 _ aM,Xao _ _ hx (Xeu _ aM)]
    have hc:=Lh (Xn3 _ hx h0 w HT.o)
    have aJ:ws.getD k 0 &&& (18446744073709551615 - 2 ^ (Lib.ctz 64 (ws.getD k 0)))<18446744073709551616:=Nat.lt_of_le_of_lt Nat.and_le_left hx
    have aG:=Lh aC
    have aH:=Lh aF
    clear aC aF aE aA aD h0
    generalize hg2:Lib.ctz 64 (ws.getD k 0)=c at *
    generalize hg:ws.getD k 0=x at *
    clear hg hg2
    go_wp2_with fail
    refine hc.o.mono ?_
    rintro e w' ⟨rfl,rfl⟩
    go_wp2_with fail
    go_region
    go_wp2
    go_ret
    refine .inr ⟨64*k+c,ws.set k (x &&& (18446744073709551615 - 2 ^ c)),by go_num,ω,ω,aH.o,fun j h1 h2=>aB j h1 ω,ψ,Uy HW.o _ aJ,aG.o,Xcg,?_⟩
    rw [hv.o]
    show ((w.setCell (π b k) (.int .u64 ((x &&& (18446744073709551615 - 2 ^ c):Nat):Int))).heap)[b]?=_
    rw [heap_setCell_same _ _ _ _ _ _ Hw.o,Xbq]
  ·go_wp2
   go_ret
   exact .inl ⟨rfl,rfl,fun i h=>by
    by_cases h2:i / 64<k
    ·exact aB i h h2
    ·exact Xl7 i ω⟩
theorem Uc:(Tryz.prog.info? 3).map (fun i=>(i.zero,i.size,i.bytes))=some (some (ι 0),1,8):=by kernel_rfl
theorem Xb7:(Tryz.prog.info? 3).map (·.size)=some 1:=by kernel_rfl
def Js (n k:Nat) (v:Int):List Value:=List.replicate k (ι v)++List.replicate (n - k) (ι 0)
theorem Xe7 (W:World) (n:Nat) (hn:n<=1048576):(Instr.makeSlice 22 (ι (n:Int)) (ι (n:Int))).run Tryz.prog W=.ok (σ (some (π W.heap.size 0)) n n) (W.alloc (χ (Js n 0 0).toArray 3)):=by
 obtain ⟨i,hi,aA,aB,aC⟩:=info_parts Uc
 have h:=run_make W 22 3 i (ι 0) Tryz.underlying22 hi aA .i64 .i64 (n:Int) (n:Int) ω ω (by rw [aC];omega) ω
 rw [h,aB]
 have:madeCells (Value.int .i64 0).cells ((n:Int).toNat*1)=(Js n 0 0).toArray:=by
  apply Array.ext_getElem?
  intro j
  simp [madeCells,Value.cells,Js,Nat.mod_one]
  rw [Array.getElem?_replicate]
  by_cases hj:j<n
  ·rw [if_pos hj,Array.getElem?_eq_getElem (by simpa using hj)];rfl
  ·rw [if_neg hj,Array.getElem?_eq_none φ];rfl
 rw [this]
 simp
theorem Xh1 (W:World) (g n k m:Nat) (v:Int) (a:Addr) (sCap dCap sLen dLen:Nat) (ty:TypeId) (hk:k<=n) (hm:m=Nat.min sLen dLen) (hkm:k+m<=n) (hg:W.heap[g]?=some (χ (Js n k v).toArray 3 (0,0)))
  (hsrc:∀ j,j<m->W.cell? (a.add j)=some (ι v)) :
  (Builtin.copy_ #[22,22] ty #[σ (some (π g k)) dLen dCap,σ (some a) sLen sCap]).run Tryz.prog W=.ok (ι (m:Int)) (W.setRow g (Js n (k+m) v).toArray):=by
 have h:=run_copy_row (P:=Tryz.prog) W 22 22 ty 3 g k dLen dCap a sLen sCap (Js n k v).toArray 3 (List.replicate m (ι v)) Tryz.underlying22 Xb7 hg (by simpa using hm)
  (fun j u hu=>by
   rw [List.getElem?_replicate] at hu
   split at hu
   ·simp at hu;subst hu;exact hsrc j (by assumption)
   ·cases hu) (by simp [Js];omega) (by simp [Value.oneCell'])
 rw [h]
 have:((Js n k v).toArray.toList.take k++List.replicate m (ι v)++(Js n k v).toArray.toList.drop (k+(List.replicate m (Value.int .i64 v)).length))=Js n (k+m) v:=by
  unfold Js
  rw [List.take_left' ψ,List.drop_append,List.drop_eq_nil_of_le ψ]
  simp only [List.length_replicate,List.nil_append,List.drop_replicate,List.replicate_append_replicate]
  have e:n - k - (k+m - k)=n - (k+m):=ω
  rw [e]
 rw [this]
 simp [goInt]
def Xrp (n:Nat) (v:Int) (w:World) (e:Ending) (w':World):Prop:=
 ∃ g,e=.returned (σ (some (π g 0)) n n)/\w.heap.size<=g/\w'.heap[g]?=some (χ (List.replicate n (Value.int .i64 v)).toArray 3 (0,0))/\Below w.heap.size w w'
theorem Xh5 (n:Nat) (hn:n<=1048576) (w:World):Calls Tryz.prog 177 #[.int .u64 1,.int .u64 (n:Int)] w fun e w'=>e=.returned (.tuple #[.int .u64 0,.int .u64 (n:Int)])/\w=w':=by
 refine (Tryz.bits_Mul 1 n ω ω w).mono ?_
 rintro e w' ⟨rfl,rfl⟩
 have h1:1*n / 18446744073709551616=0:=ω
 have h2:1*n % 18446744073709551616=n:=ω
 rw [h1,h2]
 exact ⟨rfl,rfl⟩
theorem Xps (h:j<k) (v:Int):(Js n k v)[j]?=some (ι v):=by
 unfold Js;rw [Al (by simpa using h),List.getElem?_replicate,if_pos h]
theorem Xjg (n:Nat) (v:Int) (bs:Nat) (w:World) (hn:1<=n) (hn2:n<=1048576) (hv:w.cell? (π bs 0)=some (ι v)) :
  Calls Tryz.prog 152 #[σ (some (π bs 0)) 1 1,ι (n:Int)] w (Xrp n v w):=by
 have aL:=fun W=>Xe7 W n hn2
 have hz:(Js n 0 0)=Js n 0 v:=by simp [Js]
 have aD:=Xh1 (w.alloc (χ (Js n 0 0).toArray 3)) w.heap.size n 0 1 v (π bs 0) 1 n 1 n 3 ω (Nat.min_eq_left hn).symm ω (by rw [Hn,hz]) (fun j hj=>by
  obtain rfl:j=0:=ω
  exact Xc (Xa _ _) hv)
 have aM:decide ((n:Int)<0)=false:=by simp
 have aH:decide (9223372036854775807<(n:Int))=false:=by simp;omega
 have aC:Below w.heap.size w ((w.alloc (χ (Js n 0 0).toArray 3)).setRow w.heap.size (Js n 1 v).toArray):=below_setRow (Xa _ _) (Nr _) _
 have aE:((w.alloc (χ (Js n 0 0).toArray 3)).setRow w.heap.size (Js n 1 v).toArray).heap[w.heap.size]?=some (χ (Js n 1 v).toArray 3 (0,0)):=setRow_heap _ _ _ _ _ _ (Hn _ _)
 have aB:=Lh aE
 simp only [Nat.zero_add] at aD
 clear aE hz
 go_enter Tryz.func152,Tryz.ntmps152
 go_wp2_with fail
 refine (Xh5 n hn2 w).mono ?_
 rintro e w' ⟨rfl,rfl⟩
 go_wp2_with fail
 go_loopw [8] (fun i wr=>∃ k:Nat,1<=k/\k<=n/\i=ι k/\Hid (wr.heap[w.heap.size]?=some (χ (Js n k v).toArray 3 (0,0)))/\Below w.heap.size w wr) (fun i _=>n - (intOf i).toNat)
 case atStart=>exact ⟨1,Nr _,hn,rfl,aB,aC⟩
 case round=>
  obtain ⟨k,aJ,hk,rfl,hh,hb⟩:=hrel
  by_cases aN:k<n
  ·have aG:=Xh1 wr.drew w.heap.size n k (Nat.min k (n - k)) v (π w.heap.size 0) n (n - k) k (n - k) 3 hk rfl (by have:=Nat.min_le_right k (n - k);show k+min k (n - k)<=n;omega) hh.o (fun j hj=>by
    have:j<k:=Nl hj (Nat.min_le_left _ _)
    have aA:((π w.heap.size 0):Addr).add j=(π w.heap.size j):=by unfold Addr.add;split<;>simp_all
    rw [aA]
    show wr.cell? _=_
    rw [cell_of_row _ _ _ _ _ _ hh.o]
    simpa using Xps this v)
   have aI:Hid ((wr.drew.setRow w.heap.size (Js n (k+Nat.min k (n - k)) v).toArray).heap[w.heap.size]?=some (χ (Js n (k+Nat.min k (n - k)) v).toArray 3 (0,0))):=setRow_heap _ _ _ _ _ _ hh.o
   have aF:Below w.heap.size w (wr.drew.setRow w.heap.size (Js n (k+Nat.min k (n - k)) v).toArray):=below_setRow hb.drew (Nr _) _
   have aO:1<=Nat.min k (n - k):=Nat.le_min.2 ⟨aJ,ω⟩
   have aK:k+Nat.min k (n - k)<=n:=by have:=Nat.min_le_right k (n - k);show k+min k (n - k)<=n;omega
   generalize Nat.min k (n - k)=m at *
   clear aD aL aC aB
   go_wp2_with fail
   go_region
   go_roundw
   case rel=>(repeat apply Exists.intro);exact ⟨⟨k+m,ω,aK,by go_num,aI,aF⟩,rfl⟩
   case measure=>simp [intOf];omega
  ·obtain rfl:k=n:=ω
   go_wp2
   go_ret
   exact ⟨w.heap.size,rfl,Nr _,by rw [hh.o];simp [Js],hb⟩
def Xx (hs:List Int):Array Value:=(hs.map (Value.int .i64)).toArray
theorem Qe (h:hs[k]?=some v):(Xx hs)[k]?=some (ι v):=by simp [Xx,h]
theorem Jq (hs:List Int) (k:Nat) (y:Int):(Xx hs).setIfInBounds k (ι y)=Xx (hs.set k y):=by simp [Xx,List.setIfInBounds_toArray,List.map_set]
structure U4 (wr:World) (bh bt:Nat) (hs:List Int) (ws:List Nat):Prop where
 h:wr.heap[bh]?=some (χ (Xx hs) 3 (0,0))
 t:wr.heap[bt]?=some (χ (Zi ws) 211 (0,0))
 words:Xbb ws
 ne:bh≠bt
def HSt (c:Cod) (f:Fun) (hs:List Int) (ws:List Nat) (a:Value) (gk:Nat):Prop:=
 (a=ι (-1)/\Lab c f hs (Ym ws) (fun _=>False)/\∀ i,Ym ws i=false)\/
 ∃ (i:Nat) (v:Int),a=ι i/\Lab c f hs (Ym ws) (fun j=>j=i)/\hs[i]?=some v/\0<=v/\(∀ j,Ym ws j=true->i / 64<=j / 64)/\2*Xbn hs+Ur (Ym ws) f.code.length<gk
structure ISt (c:Cod) (f:Fun) (hs:List Int) (ws:List Nat) (i:Nat) (v n:Int) (l:List Nat) (j wd M:Nat):Prop where
 lab:Lab c f hs (Ym ws) (fun q=>q=i)
 at_:hs[i]?=some v
 words:∀ q,Ym ws q=true->wd<=q / 64
 so:∀ t k,t<j->l[t]?=some k->hs[k]?=some n
 less:2*Xbn hs+Ur (Ym ws) f.code.length<=M
theorem Xne (h:Lab c f hs (Ym ws) (fun _=>False)) (hw:∀ q,Ym ws q=true->wd<=q / 64) (hM:2*Xbn hs+Ur (Ym ws) f.code.length<=M)
  (h1:Ym ws i=true) (h2:∀ j,64*wd<=j->j / 64<i / 64->Ym ws j=false) (h3:∀ j,Ym ws' j=(Ym ws j && !decide (j=i))):HSt c f hs ws' (ι i) M:=by
 obtain ⟨v,hv,aB⟩:=h.bit i h1
 have hi:i<f.code.length:=by rw [<-h.len];exact (Ll hv)
 refine .inr ⟨i,v,rfl,h.take h3,hv,aB,fun j hj=>?_,?_⟩
 ·rw [h3] at hj
  simp at hj
  by_cases aA:j / 64<i / 64
  ·rw [h2 j (by have:=hw j hj.1;omega) aA] at hj;simp at hj
  ·omega
 ·have:=Xn7 hi h1 h3;omega
theorem Xmv (h:Lab c f hs (Ym ws) (fun _=>False)) (hw:∀ q,Ym ws q=true->wd<=q / 64) (h2:∀ j,64*wd<=j->Ym ws j=false):HSt c f hs ws (ι (-1)) M:=by
 refine .inl ⟨rfl,h,fun i=>?_⟩
 cases hb:Ym ws i with
 | false=>rfl
 | true=>rw [h2 i (by have:=hw i hb;omega)] at hb;cases hb
theorem ISt.start (n:Int) (l:List Nat) (h:Lab c f hs (Ym ws) (fun j=>j=i)) (hv:hs[i]?=some v) (hw:∀ j,Ym ws j=true->i / 64<=j / 64) (hM:2*Xbn hs+Ur (Ym ws) f.code.length<=M):ISt c f hs ws i v n l 0 (i / 64) M:=
 ⟨h,hv,hw,fun t k ht=>by omega,hM⟩
theorem ISt.same {n:Int} (h:ISt c f hs ws i v n l j wd M) (hk:l[j]?=some k) (hkv:hs[k]?=some n):ISt c f hs ws i v n l (j+1) wd M:=
 ⟨h.lab,h.at_,h.words,fun t q ht hq=>by
  by_cases e:t=j
  ·subst e;rw [hk] at hq;cases hq;exact hkv
  ·exact h.so t q ω hq,h.less⟩
theorem ISt.label (wf:WfF c f) (hx:f.code[i]?=some x) (hv0:0<=v) (hp:Xm c f x<=v)
  (h:ISt c f hs ws i v (v - Xm c f x+Xj c f x) (X2 x i) j wd M) (hk:(X2 x i)[j]?=some k) (hkv:hs[k]?=some (-1)) (h3:∀ q,Ym ws' q=(Ym ws q || decide (q=k))) :
  ISt c f (hs.set k (v - Xm c f x+Xj c f x)) ws' i v (v - Xm c f x+Xj c f x) (X2 x i) (j+1) (min wd (k / 64)) M:=by
 have aC:=wf.pushes x (Lm hx)
 have aB:∀ (q:Nat) u,hs[q]?=some u->0<=u->k≠q:=fun q u hj hu e=>by subst e;rw [hkv] at hj;cases hj;omega
 have aA:∀ (q:Nat) u,hs[q]?=some u->0<=u->(hs.set k (v - Xm c f x+Xj c f x))[q]?=some u:=fun q u hj hu=>by
  rw [List.getElem?_set,if_neg (aB q u hj hu)];exact hj
 refine ⟨h.lab.label wf h.at_ hv0 hx hp (Lm hk) hkv h3,aA _ _ h.at_ hv0,fun q hq=>?_,fun t q ht hq=>?_,?_⟩
 ·rw [h3] at hq
  simp at hq
  rcases hq with hq|rfl
  ·exact Nt (Nat.min_le_left _ _) (h.words q hq)
  ·exact Nat.min_le_right _ _
 ·by_cases e:t=j
  ·subst e;rw [hk] at hq;cases hq
   exact List.getElem?_set_self (Ll hkv)
  ·exact aA _ _ (h.so t q ω hq) ω
 ·have h1:=Xhl (v:=v - Xm c f x+Xj c f x) hkv ω ω
  have h2:=Xgr (n:=f.code.length) h3
  have:=h.less
  omega
theorem ISt.done (hx:f.code[i]?=some x) (hp:Xm c f x<=v) (hr:x.op=10->v<=Xm c f x)
  (h:ISt c f hs ws i v (v - Xm c f x+Xj c f x) (X2 x i) j wd M) (hj:(X2 x i).length<=j):Lab c f hs (Ym ws) (fun _=>False):=
 h.lab.put h.at_ ⟨x,hx,hp,hr,fun k hk=>by
  obtain ⟨t,ht,rfl⟩:=List.getElem_of_mem hk
  exact h.so t _ ω (Lg ht)⟩
theorem ISt.clash (hx:f.code[i]?=some x) (hv0:0<=v)
  (h:ISt c f hs ws i v (v - Xm c f x+Xj c f x) (X2 x i) j wd M) (hk:(X2 x i)[j]?=some k) (hkv:hs[k]?=some u) (hu:0<=u) (hne:u≠v - Xm c f x+Xj c f x):¬Zh c f:=
 fun hs=>hne (hs.2 k _ _ (h.lab.reach k u hkv hu) ((h.lab.reach i v h.at_ hv0).next hx (Lm hk)))
theorem J9 {s:Nat->Prop} (h:Lab c f hs T s) (hv:hs[i]?=some v) (hv0:0<=v) (hx:f.code[i]?=some x)
  (hno:¬(Xm c f x<=v/\(x.op=10->v<=Xm c f x)/\∀ k∈X2 x i,k<f.code.length)):¬Zh c f:=fun hs=>by
 obtain ⟨y,hy,h1,h2,h3⟩:=hs.1 i v (h.reach i v hv hv0)
 rw [hx] at hy;cases hy
 exact hno ⟨h1,h2,h3⟩
theorem Xmo:(Tryz.prog.info? 211).map (fun i=>(i.zero,i.size,i.bytes))=some (some (.int .u64 0),1,8):=by kernel_rfl
theorem Xj0 (W:World) (n:Nat) (hn:n<=1048576):(Instr.makeSlice 184 (ι (n:Int)) (ι (n:Int))).run Tryz.prog W=.ok (σ (some (π W.heap.size 0)) n n) (W.alloc (χ (Zi (List.replicate n 0)) 211)):=by
 obtain ⟨i,hi,aA,aB,aC⟩:=info_parts Xmo
 have h:=run_make W 184 211 i (.int .u64 0) Tryz.underlying184 hi aA .i64 .i64 (n:Int) (n:Int) ω ω (by rw [aC];omega) ω
 rw [h,aB]
 have:madeCells (Value.int .u64 0).cells ((n:Int).toNat*1)=Zi (List.replicate n 0):=by
  apply Array.ext_getElem?
  intro j
  simp [madeCells,Value.cells,Zi,Nat.mod_one]
  rw [Array.getElem?_replicate]
  by_cases hj:j<n
  ·rw [if_pos hj,Array.getElem?_eq_getElem (by simpa using hj)];rfl
  ·rw [if_neg hj,Array.getElem?_eq_none φ];rfl
 rw [this]
 simp
theorem Xie (n i:Nat):Ym (List.replicate n 0) i=false:=by
 unfold Ym;rw [List.getD_eq_getElem?_getD,List.getElem?_replicate];split<;>simp
theorem Xb9 (n:Nat):Xbb (List.replicate n 0):=fun x hx=>by rw [List.eq_of_mem_replicate hx];omega
def Xri (c:Cod) (f:Fun) (w:World) (e:Ending) (w':World):Prop:=
 (∃ (k err:Int),e=.returned (.tuple #[ν,ι k,ι err])/\err≠0/\in64 err/\¬Zh c f/\Below w.heap.size w w')\/
 ∃ g hs,e=.returned (.tuple #[σ (some (π g 0)) f.code.length f.code.length,ι 0,ι 0])/\w.heap.size<=g/\w'.heap[g]?=some (χ (Xx hs) 3 (0,0))/\Zh c f/\Zp c f hs/\Below w.heap.size w w'
theorem Xnr (w:World) (base:Nat) (v:Value) (l:List Int) (hown:w.ownsRow base 3 1 v l.length (l.map (Value.int .i64))) (ad:Addr) (y:Int) (hy:w.cell? ad=some (ι y)) (hl:l.length<1000000) (hbase:base<=w.heap.size) (ty:TypeId) :
  ∃ v' w',(Builtin.append_ #[22,22] ty #[v,σ (some ad) 1 1]).run Tryz.prog w=.ok v' w'/\w'.ownsRow base 3 1 v' (l++[y]).length ((l++[y]).map (Value.int .i64))/\w.grownBy w' v.ownBlock:=by
 obtain ⟨i,hi,aA,aB,aC⟩:=info_parts Uc
 obtain ⟨v',w',h1,h2,h3,_⟩:=run_append_own (P:=Tryz.prog) w base 22 ty 3 i (ι 0) 1 8 Tryz.underlying22 hi aA aB aC rfl δ v l.length (l.map (Value.int .i64)) hown ad 1 1 [ι y] rfl
  (fun j u hu=>by
   cases j with
   | zero=>simp at hu;subst hu;exact hy
   | succ j=>simp at hu) (by simp [Value.oneCell']) (by unfold maxLen;omega) ω hbase
 exact ⟨v',w',h1,by simpa using h2,h3⟩
theorem Uj {ops:Array Oper} {rest:List Oper} {o:Oper} {a:Act} {Q:Exit->Act->World->Prop} (hgd:o.guard=none) (s x:Operand) (ho:o.op=.call { callee:=.builtin .append,args:=#[s,x],argTypes:=#[22,22] })
  (base:Nat) (v:Value) (l:List Int) (hs:a.eval s=v) (hown:w.ownsRow base 3 1 v l.length (l.map (Value.int .i64))) (ad:Addr) (y:Int) (hx:a.eval x=σ (some ad) 1 1) (hy:w.cell? ad=some (ι y)) (hl:l.length<1000000) (hbase:base<=w.heap.size)
  (h:∀ v' w',w'.ownsRow base 3 1 v' (l++[y]).length ((l++[y]).map (Value.int .i64))->w.grownBy w' v.ownBlock->wpList Tryz.prog ops Q rest (a.put o.dst v') w'):wpList Tryz.prog ops Q (o::rest) a w:=by
 refine wpList_plain hgd fun K hK=>?_
 obtain ⟨v',w',hr,h2,h3⟩:=Xnr w base v l hown ad y hy hl hbase o.type
 unfold Oper.wp execOp
 simp only [ho,resolve,invoke,builtin,Sem.run_bind,Sem.run_pure,Result.andThen_ok,List.map_toArray,List.map_cons,List.map_nil,hs,hx,hr]
 exact hK _ _ (h v' w' h2 h3)
theorem Xdt {v:Value} {l:List Int} (h:w.ownsRow base 3 1 v l.length (l.map (Value.int .i64))) :
  ∃ sa cap,v=σ sa l.length cap/\(l=[]\/∃ g,sa=some (π g 0)/\base<=g/\g<w.heap.size/\∀ j y,l[j]?=some y->w.cell? (π g j)=some (ι y)):=by
 rcases h.2 with ⟨rfl,hn⟩|⟨g,cap,aA,rfl,hb,hg,_,_,_,ht⟩
 ·exact ⟨none,0,by rw [hn],.inl (List.eq_nil_of_length_eq_zero hn)⟩
 ·refine ⟨_,cap,rfl,.inr ⟨g,rfl,hb,(La hg),fun j y hy=>?_⟩⟩
  rw [cell_of_row _ _ _ _ _ _ hg]
  have h1:(l.map (Value.int .i64))[j]?=some (ι y):=by simp [hy]
  rw [<-ht,List.getElem?_take] at h1
  split at h1
  ·simpa using h1
  ·cases h1
def Zw (wi:World) (sa:Option Addr) (l:List Nat) (bh bt:Nat):Prop:=
 l=[]\/∃ g,sa=some (π g 0)/\g≠bh/\g≠bt/\g<wi.heap.size/\∀ (j k:Nat),l[j]?=some k->wi.cell? (π g j)=some (ι (k:Int))
theorem Zw.kept {wi:World} {y:Value} (h:Zw wi sa l bh bt) (hz:wi.heap.size<=(wi.setCell (π bh k) y).heap.size) (hg:(wi.setCell (π bh k) y).grownBy w' (some bt)):Zw w' sa l bh bt:=by
 rcases h with h|⟨g,h1,h2,h3,h4,h5⟩
 ·exact .inl h
 ·refine .inr ⟨g,h1,h2,h3,Nl (Nl h4 hz) hg.size,fun j q hq=>?_⟩
  have e:w'.heap[g]?=wi.heap[g]?:=by
   rw [hg.block g (Nl h4 hz) (fun e=>h3 (by cases e;rfl)),heap_setCell_other _ _ _ _ h2]
  rw [World.cell?_of_block (w:=wi) (a:=(π g j)) e]
  exact h5 j q hq
theorem Zw.of {l:List Int} {ls:List Nat} (h:l=[]\/∃ g,sa=some (π g 0)/\base<=g/\g<w.heap.size/\∀ (j:Nat) y,l[j]?=some y->w.cell? (π g j)=some (ι y)) (hl:l=ls.map Int.ofNat) (h1:bh<base) (h2:bt<base):Zw w sa ls bh bt:=by
 subst hl
 rcases h with h|⟨g,h3,h4,h5,h6⟩
 ·exact .inl (by simpa using h)
 ·exact .inr ⟨g,h3,ω,ω,h5,fun j k hk=>h6 j k (by simp [hk])⟩
def Xrx (c:Cod) (f:Fun) (hs:List Int) (n bh bt M:Nat) (w:World) (e:Ending) (w':World):Prop:=
 ∃ a ws',e=.returned a/\HSt c f hs ws' a M/\U4 w' bh bt hs ws'/\ws'.length=n/\w.grownBy w' (some bt)
theorem Xbr (c:Cod) (f:Fun) (hs:List Int) (ws:List Nat) (bh bt n cap wd M:Nat) (w:World) (hn:ws.length=n) (hL:Qa w) (hm:U4 w bh bt hs ws) (hl:ws.length<=1000000) (hf:wd<=1000000) (h:Lab c f hs (Ym ws) (fun _=>False)) (hw:∀ q,Ym ws q=true->wd<=q / 64) (hM:2*Xbn hs+Ur (Ym ws) f.code.length<=M) :
  Calls Tryz.prog 154 #[σ (some (π bt 0)) n cap,ι wd] w (Xrx c f hs n bh bt M w):=by
 refine (Xmy ws bt n cap wd w hn hm.t hl hf hm.words hL.tz).mono ?_
 rintro e w' (⟨rfl,rfl,h1⟩|⟨i,aA,rfl,h1,h2,h3,h4,h5,h6,h7,h8,h9⟩)
 ·exact ⟨_,ws,rfl,Xmv h hw h1,hm,hn,⟨rfl,rfl,rfl,Nr _,fun _ _ _=>rfl⟩⟩
 ·refine ⟨_,aA,rfl,Xne h hw hM h3 h4 h7,⟨?_,h9,h6,hm.ne⟩,h5.trans hn,h8⟩
  rw [h8.block bh (La hm.h) (fun e=>hm.ne (by cases e;rfl))]
  exact hm.h
theorem Z3 {B:Nat} {a:World} (h:Below B a w) (hg:w.grownBy w' (some b)) (hB:B<=w.heap.size) (hb:B<=b):Below B a w':=h.grown hg hB (fun k hk=>by cases hk;exact hb)
theorem Xcl (c:Cod) (cv:Value) (f:Fun) (fv:Value) (B:Nat) (w:World) (hL:Qa w) (hB:B<=w.heap.size) (hc:Yj B w cv c) (hf:J4 B w fv f) (wf:WfF c f) :
  Calls Tryz.prog 120 #[cv,fv] w (Xri c f w):=by
 have HC:=Lh hc
 have HF:=Lh hf
 have HL:=Lh hL
 have WF:=Lh wf
 have fZ:=wf.one
 have gA:=wf.most
 obtain ⟨gF,gG,rfl,fR,fS,-⟩:=hc
 obtain ⟨ca,cH,rfl,-,-,-,-⟩:=fR
 obtain ⟨cb,bJ,rfl,-,-,-,-⟩:=fS
 obtain ⟨kv,rfl,hk,-,-,-⟩:=hf
 obtain ⟨ka,cM,rfl,bX,fW,fX,dK⟩:=hk
 have HK:=Lh dK
 have fY:∀ W,(Instr.makeSlice 184 (ι ((f.code.length:Int) / 64+1)) (ι ((f.code.length:Int) / 64+1))).run Tryz.prog W=.ok (σ (some (π W.heap.size 0)) (f.code.length / 64+1) (f.code.length / 64+1)) (W.alloc (χ (Zi (List.replicate (f.code.length / 64+1) 0)) 211)):=by
  intro W
  have:=Xj0 W (f.code.length / 64+1) ω
  have e:((f.code.length / 64+1:Nat):Int)=(f.code.length:Int) / 64+1:=ω
  rw [e] at this
  exact this
 clear hL wf dK
 go_enter Tryz.func120,Tryz.ntmps120
 go_wp2_with fail
 obtain ⟨W2,cI⟩:∃ W,W=((w.alloc (χ (Bc ca cH cb bJ c) 25)).alloc (χ #[.string f.name,ι f.params,ι f.locals,.bool f.result,σ ka f.code.length cM] 93)):=⟨_,rfl⟩
 have aJ:Below w.heap.size w W2:=by rw [cI];exact (Br.alloc (Nr _) _).alloc ψ _
 have cW:W2.heap.size=w.heap.size+1+1:=by rw [cI];simp
 have dX:Hid (Xo W2 w.heap.size [σ ca c.fields.length cH,ι c.globals,σ cb c.funcs.length bJ]):=by rw [cI];exact Xd.alloc _
 have cV:Hid (Xo W2 (w.heap.size+1) [.string f.name,ι f.params,ι f.locals,.bool f.result,σ ka f.code.length cM]):=by
  have:=Xd (w:=w.alloc (χ (Bc ca cH cb bJ c) 25)) (vs:=#[.string f.name,ι f.params,ι f.locals,.bool f.result,σ ka f.code.length cM]) (T:=93)
  rw [cI];exact (by simpa using this:Xo _ _ _)
 rw [<-cI]
 have fM:=Lh cI
 have cR:=Lh cW
 clear cI cW
 refine (Xjg f.code.length (-1) _ _ fZ gA (by rw [<-cR.o,Y5];rfl)).mono ?_
 rintro e w1 ⟨bh,rfl,fO,hh,eP⟩
 have dY:=Yi eP
 have fP:W2.heap.size<bh:=by simp at fO;omega
 have cY:bh<w1.heap.size:=(La hh)
 have fQ:∀ o,(w1.alloc o).cell? (π bh 0)=some (ι (-1)):=fun o=>Xc (Xa _ _) (by rw [cell_of_row _ _ _ _ _ _ hh,List.getElem?_toArray,List.getElem?_replicate,if_pos ω])
 have fT:∀ o,(w1.alloc o).frozen? (π bh 0)=false:=fun o=>Fz (by rw [Ha _ _ _ cY];exact hh)
 have Hh:=Lh hh
 clear hh
 go_wp2_with fail
 obtain ⟨W4,cO⟩:∃ W,W=((w1.setCell (π bh 0) (ι 0)).alloc (χ (Zi (List.replicate (f.code.length / 64+1) 0)) 211)):=⟨_,rfl⟩
 have eR:W4.heap[w1.heap.size]?=some (χ (Zi (List.replicate (f.code.length / 64+1) 0)) 211 (0,0)):=by
  have:=Hn (w1.setCell (π bh 0) (ι 0)) (χ (Zi (List.replicate (f.code.length / 64+1) 0)) 211)
  rw [cO];simpa using this
 have cZ:W4.heap[bh]?=some (χ (Xx ((List.replicate f.code.length (-1)).set 0 0)) 3 (0,0)):=by
  rw [cO,Ha _ _ _ (by simpa using cY),heap_setCell_same _ _ _ _ _ _ Hh.o]
  have:(List.replicate f.code.length (Value.int .i64 (-1))).toArray=Xx (List.replicate f.code.length (-1)):=by simp [Xx]
  rw [this,Jq]
 have dG:Below W2.heap.size W2 W4:=by
  rw [cO];exact (dY.setCell (p:=(π bh 0)) (by show _<=bh;omega) _).alloc (by simpa using dY.size) _
 have fC:w1.heap.size<W4.heap.size:=by rw [cO];simp
 have eO:Qa W4:=HL.o.below (aJ.then dG)
 rw [<-cO]
 have fH:=Lh eO
 have eL:=Lh eR
 have eK:=Lh cZ
 clear cO eR cZ eO fQ fT fY Hh
 refine (Xcz (List.replicate (f.code.length / 64+1) 0) w1.heap.size _ _ 0 _ ψ eL.o ψ φ (Xb9 _)).mono ?_
 rintro e w5 ⟨rfl,dJ,fF⟩
 have hT:∀ j,Ym ((List.replicate (f.code.length / 64+1) 0).set (0 / 64) ((List.replicate (f.code.length / 64+1) 0).getD (0 / 64) 0 ||| 2 ^ (0 % 64))) j=decide (j=0):=fun j=>by rw [Xbp ψ,Xie];simp
 have dE:Xbb ((List.replicate (f.code.length / 64+1) 0).set (0 / 64) ((List.replicate (f.code.length / 64+1) 0).getD (0 / 64) 0 ||| 2 ^ (0 % 64))):=Uy (Xb9 _) _ (by simp [List.getD_eq_getElem?_getD])
 have eY:((List.replicate (f.code.length / 64+1) 0).set (0 / 64) ((List.replicate (f.code.length / 64+1) 0).getD (0 / 64) 0 ||| 2 ^ (0 % 64))).length=f.code.length / 64+1:=by simp
 generalize (List.replicate (f.code.length / 64+1) 0).set (0 / 64) ((List.replicate (f.code.length / 64+1) 0).getD (0 / 64) 0 ||| 2 ^ (0 % 64))=ws5 at *
 have fA:U4 w5 bh w1.heap.size ((List.replicate f.code.length (-1)).set 0 0) ws5:=⟨by rw [dJ.block bh ω (fun e=>by simp at e;omega)];exact eK.o,fF,dE,ω⟩
 have cA:=Lab.start WF.o (Ym ws5) hT
 generalize (List.replicate f.code.length (-1:Int)).set 0 0=hl0 at *
 have dH:=Z3 dG dJ dG.size ω
 have fD:w1.heap.size<w5.heap.size:=Nl fC dJ.size
 have eH:=Lh (HL.o.below (aJ.then dH))
 have eI:=Lh fA
 have fL:=Lh hT
 have bY:=Lh cA
 have dQ:=Lh eY
 clear dJ fF hT dE eY fA cA fH eL eK
 go_wp2_with fail
 refine (Xbr c f hl0 ws5 bh w1.heap.size _ _ 0 (2*Xbn hl0+Ur (Ym ws5) f.code.length) _ dQ.o eH.o eI.o (by rw [dQ.o];omega) ω bY.o (fun q _=>Nat.zero_le _) (Nr _)).mono ?_
 rintro e w6 ⟨a,gE,rfl,dO,fB,eZ,dZ⟩
 have fN:=Z3 dH dZ dH.size ω
 have gB:w1.heap.size<w6.heap.size:=Nl fD dZ.size
 have fI:=Lh eZ
 generalize w1.heap.size=bt at *
 have fK:=Lh dO
 have fJ:=Lh fB
 clear dZ eZ eI fL bY dQ eH dY dO fB eP dG dH fC fD fM
 go_wp2_with fail
 go_loopg [10] (2*Xbn hl0+Ur (Ym ws5) f.code.length) (fun gk a wr=>∃ hs ws,Hid (HSt c f hs ws a gk)/\Hid (U4 wr bh bt hs ws)/\Hid (ws.length=f.code.length / 64+1)/\Below W2.heap.size W2 wr/\bt<wr.heap.size)
 case atStart=>exact ⟨hl0,gE,fK,fJ,fI,fN,gB⟩
 case round=>
  obtain ⟨hs,ws,dO,hm,dP,bH,eQ⟩:=hrel
  rcases dO.o with ⟨rfl,bF,hT⟩|⟨i,v,rfl,bF,hv,bS,hw,hM⟩
  ·obtain ⟨hS,hH⟩:=bF.fin WF.o hT
   have HS:=Lh hS
   have HH:=Lh hH
   clear bF hT hS hH
   go_wp2_with fail
   go_ret3
   exact .inr ⟨bh,hs,rfl,Nt aJ.size ω,hm.o.h,HS.o,HH.o,aJ.then bH⟩
  ·have fU:i<f.code.length:=by rw [<-bF.len];exact (Ll hv)
   obtain ⟨x,hx⟩:∃ x,f.code[i]?=some x:=⟨_,Lg fU⟩
   have cP:Below w.heap.size w wr:=aJ.then bH
   rcases HK.o with h|⟨kb,ko,rfl,fV,dK⟩
   ·rw [h] at hx;simp at hx
   obtain ⟨x0,x1,eF⟩:=(dK i x hx).below (cP.mono hB) fV
   have gM:w.heap.size+1<wr.heap.size:=by have h1:=bH.size;have h2:=cR.o;omega
   have gL:w.heap.size<wr.heap.size:=ω
   have c0:=Xc bH (dX.o 0 _ rfl)
   have c1:=Xc bH (dX.o 1 _ rfl)
   have c2:=Xc bH (dX.o 2 _ rfl)
   have f0:=Xc bH (cV.o 0 _ rfl)
   have f1:=Xc bH (cV.o 1 _ rfl)
   have f2:=Xc bH (cV.o 2 _ rfl)
   have f3:=Xc bH (cV.o 3 _ rfl)
   have f4:=Xc bH (cV.o 4 _ rfl)
   have HX:=Lh hx
   have bU:=Lh bF
   have HV:=Lh hv
   have Hw:=Lh hw
   clear hx bF hv hw
   have eM:=Lh (HC.o.below ((cP.then (Xa wr (χ #[ι x.op,ι x.a] 124))).mono hB))
   have eN:=Lh (HF.o.below ((cP.then (Xa wr (χ #[ι x.op,ι x.a] 124))).mono hB))
   have bG:=Lm HX.o
   go_wp2_with fail
   refine (Xlv c _ f _ x _ B _ (by simp;have:=cP.size;omega) eM.o eN.o ⟨rfl,eF⟩ (WF.o.op x bG).1 (WF.o.op x bG).2 (WF.o.call x bG)).mono ?_
   rintro e w7 ⟨rfl,dI⟩
   have bD:=Yi dI
   have eD:U4 w7 bh bt hs ws:=⟨by rw [bD.block bh ω];exact hm.o.h,by rw [bD.block bt eQ];exact hm.o.t,hm.o.words,hm.o.ne⟩
   have bW:=bH.then bD
   have aP:bt<w7.heap.size:=Nl eQ bD.size
   have q0:=Zu dI 0 _ rfl
   have q1:=Zu dI 1 _ rfl
   have cK:w7.cell? (π bh i)=some (ι v):=by rw [cell_of_row _ _ _ _ _ _ eD.h];exact Qe HV.o
   have hp:=WF.o.pops x bG
   have hq:=WF.o.pushes x bG
   have gJ:v<=2*1048576:=by have:=bU.o.bound i v HV.o;rw [bU.o.len] at this;omega
   have aW:=Lh eD
   have eE:=fun h=>Lh (J9 bU.o HV.o bS HX.o h)
   obtain ⟨p,dM⟩:∃ p,Xm c f x=p:=⟨_,rfl⟩
   obtain ⟨q,dN⟩:∃ q,Xj c f x=q:=⟨_,rfl⟩
   rw [dM] at hp eE
   rw [dN] at hq
   rw [dM,dN]
   have HP:=Lh dM
   have HQ:=Lh dN
   clear dM dN eD dI x0 x1 c0 c1 c2 f0 f1 f2 f3 f4 eM eN
   have eJ:=Lh eE
   clear eE
   by_cases h1:p<=v
   ·by_cases bV:x.op=10/\p<v
    ·have aK:=eJ.o (fun h=>by have:=h.2.1 bV.1;omega)
     have gH:(x.op == 10)=true:=by rw [bV.1];rfl
     have gI:=bV.2
     clear bV
     go_wp2_with fail
     go_ret3
     exact .inl ⟨_,_,rfl,δ,⟨δ,δ⟩,aK.o,cP.then bD⟩
    ·have hr:Hid (x.op=10->v<=p):=fun h=>by by_cases h2:v<=p;exact h2;exact absurd ⟨h,ω⟩ bV
     have dF:=Lh (ISt.start (v - Xm c f x+Xj c f x) (X2 x i) bU.o HV.o Hw.o (Nr _))
     generalize 2*Xbn hs+Ur (Ym ws) f.code.length=M at *
     have dL:Hid (X2 x i=(if x.op=10\/x.op=11 then [] else [i+1])++(if x.op=11\/x.op=12 then [x.a.toNat] else [])):=rfl
     have dC:Hid (x.op=11\/x.op=12->0<=x.a/\x.a<f.code.length):=WF.o.jump x bG
     have dA:x.op=10\/x.op=11\/x.op=12\/(x.op≠10/\x.op≠11/\x.op≠12):=ω
     rcases dA with aE|aE|aE|aE
     ·-- a return: no successor
      have dR:(x.op == 10)=true:=by rw [aE];rfl
      have dU:(x.op != 10)=false:=by rw [aE];rfl
      have dS:(x.op == 11)=false:=by rw [aE];rfl
      have dV:(x.op != 11)=true:=by rw [aE];rfl
      have dT:(x.op == 12)=false:=by rw [aE];rfl
      have dW:(x.op != 12)=true:=by rw [aE];rfl
      have gK:v<=p:=hr.o aE
      have bQ:Hid (X2 x i=[]):=by rw [dL.o,if_pos (.inl aE),if_neg ω];rfl
      have cQ:=Lh aE
      clear aE bV
      go_wp2_with fail
      have cG:Hid (Zw w7 none (X2 x i) bh bt):=.inl bQ.o
      have aS:Hid ((X2 x i).length=0):=by show _=_;rw [bQ.o];rfl
      have aY:Below W2.heap.size W2 w7:=bW.then (Below.refl w7.heap.size w7)
      have aZ:bt<w7.heap.size:=Nl aP ((Below.refl w7.heap.size w7)).size
      have cF:Hid (U4 w7 bh bt hs ws):=⟨by rw [((Below.refl w7.heap.size w7)).block bh ω];exact aW.o.h,by rw [((Below.refl w7.heap.size w7)).block bt aP];exact aW.o.t,aW.o.words,aW.o.ne⟩
      have bB:i / 64<=1000000:=ω
      go_loopg [110,9] 0 (fun gj ix wd wi=>∃ (j wn:Nat) (aI:List Int) (aC:List Nat),0<=gj+j/\j<=0/\ix=ι j/\wd=ι wn/\wn<=1000000/\Hid (ISt c f aI aC i v (v - Xm c f x+Xj c f x) (X2 x i) j wn M)/\Hid (U4 wi bh bt aI aC)/\Hid (aC.length=f.code.length / 64+1)/\Below W2.heap.size W2 wi/\bt<wi.heap.size/\Hid (Zw wi none (X2 x i) bh bt))
      case atStart=>exact ⟨0,i / 64,hs,ws,ω,ω,by rfl,by go_num,bB,dF,cF,dP,aY,aZ,cG⟩
      case round=>
       obtain ⟨wi,rfl⟩:∃ wi:World,wi=wr:=⟨_,rfl⟩
       obtain ⟨j,wn,aI,aC,eB,eC,rfl,rfl,bT,aA,aD,aB,aL,aM,bI⟩:=hrel
       by_cases cL:j<0
       ·exact absurd cL (Nat.not_lt_zero _)
       ·have aG:=aA.o.done HX.o (by rw [HP.o];exact h1) (by rw [HP.o];exact hr.o) (by rw [aS.o];omega)
        have aO:=Lh aG
        clear aG
        have cD:=Lh (HL.o.below (aJ.then aL))
        go_wp2_with fail
        refine (Xbr c f aI aC bh bt _ _ wn M _ aB.o cD.o aD.o (by rw [aB.o];omega) bT aO.o aA.o.words aA.o.less).mono ?_
        rintro e cN ⟨a',ws'',rfl,aR,bN,bL,bA⟩
        have cJ:=Z3 aL bA aL.size ω
        have hs'':bt<cN.heap.size:=Nl aM bA.size
        have aX:=Lh aR
        have cE:=Lh bN
        have cC:=Lh bL
        clear aR bN bL bA
        go_wp2_with fail
        go_roundg M
        case measure=>exact hM
        case rel=>exact ⟨aI,ws'',aX,cE,cC,cJ,hs''⟩
     ·-- a jump
      have dR:(x.op == 10)=false:=by rw [aE];rfl
      have dU:(x.op != 10)=true:=by rw [aE];rfl
      have dS:(x.op == 11)=true:=by rw [aE];rfl
      have dV:(x.op != 11)=false:=by rw [aE];rfl
      have dT:(x.op == 12)=false:=by rw [aE];rfl
      have dW:(x.op != 12)=true:=by rw [aE];rfl
      have bQ:Hid (X2 x i=[x.a.toNat]):=by rw [dL.o,if_pos (.inr aE),if_pos (.inl aE)];rfl
      have cQ:=Lh aE
      clear aE bV
      go_wp2_with (at_builtin;refine Uj rfl (.tmp 95) (.tmp 98) rfl w7.heap.size ν [] rfl (World.ownsRow_nil _ _ _ _) (π w7.heap.size 0) x.a rfl (by exact (Y5 _ _ _ 0)) δ ψ ?_;intro eG w8 aH bZ;have aN:Below w7.heap.size w7 w8:=(Br.alloc (Nr _) _).grown bZ ψ (by intro k hk;cases hk);have fE:w7.heap.size<=w8.heap.size:=aN.size;have r0:=Xc aN q0;have r1:=Xc aN q1;have rh:=Xc aN cK;simp only [List.nil_append] at aH;obtain ⟨sa,scap,rfl,hrd⟩:=Xdt aH;have cT:=Lh hrd;clear aH bZ q0 q1 cK hrd)
      have cG:Hid (Zw w8 sa (X2 x i) bh bt):=by rw [bQ.o];exact Zw.of cT.o (by have:=(dC.o (.inl cQ.o)).1;simp;omega) ω aP
      have aS:Hid ((X2 x i).length=1):=by show _=_;rw [bQ.o];rfl
      have aY:Below W2.heap.size W2 w8:=bW.then aN
      have aZ:bt<w8.heap.size:=Nl aP (aN).size
      have cF:Hid (U4 w8 bh bt hs ws):=⟨by rw [(aN).block bh ω];exact aW.o.h,by rw [(aN).block bt aP];exact aW.o.t,aW.o.words,aW.o.ne⟩
      have bB:i / 64<=1000000:=ω
      go_loopg [110,9] 1 (fun gj ix wd wi=>∃ (j wn:Nat) (aI:List Int) (aC:List Nat),1<=gj+j/\j<=1/\ix=ι j/\wd=ι wn/\wn<=1000000/\Hid (ISt c f aI aC i v (v - Xm c f x+Xj c f x) (X2 x i) j wn M)/\Hid (U4 wi bh bt aI aC)/\Hid (aC.length=f.code.length / 64+1)/\Below W2.heap.size W2 wi/\bt<wi.heap.size/\Hid (Zw wi sa (X2 x i) bh bt))
      case atStart=>exact ⟨0,i / 64,hs,ws,ω,ω,by rfl,by go_num,bB,dF,cF,dP,aY,aZ,cG⟩
      case round=>
       obtain ⟨wi,rfl⟩:∃ wi:World,wi=wr:=⟨_,rfl⟩
       obtain ⟨j,wn,aI,aC,eB,eC,rfl,rfl,bT,aA,aD,aB,aL,aM,bI⟩:=hrel
       by_cases cL:j<1
       ·obtain ⟨k,hk⟩:∃ k,(X2 x i)[j]?=some k:=⟨_,Lg (by rw [aS.o];exact cL)⟩
        rcases bI.o with h|⟨g,hg,eU,eV,eW,dB⟩
        ·rw [h] at hk;simp at hk
        subst hg
        have eX:=dB j k hk
        have bC:=Lh hk
        clear hk
        by_cases bX:k<f.code.length
        ·obtain ⟨u,hu⟩:∃ u,aI[k]?=some u:=⟨_,Lg (by rw [aA.o.lab.len];exact bX)⟩
         have eS:wi.cell? (π bh k)=some (ι u):=by rw [cell_of_row _ _ _ _ _ _ aD.o.h];exact Qe hu
         have eT:wi.frozen? (π bh k)=false:=Fz aD.o.h
         have fG:u<=2*1048576:=by have:=aA.o.lab.bound k u hu;rw [aA.o.lab.len] at this;omega
         by_cases dD:0<=u
         ·by_cases aT:u=v - p+q
          ·have aQ:=Lh (aA.o.same bC.o (by rw [HP.o,HQ.o,<- aT];exact hu))
           have cU:(u != v - p+q)=false:=by rw [aT];simp
           clear aT hu
           go_wp2_with fail
           go_roundg (gk - 1)
           case measure=>omega
           case rel=>exact ⟨j+1,wn,aI,aC,ω,ω,by go_num,rfl,bT,aQ,aD,aB,aL,aM,bI⟩
          ·have aK:=Lh (aA.o.clash HX.o bS bC.o hu dD (by rw [HP.o,HQ.o];exact aT))
           have cU:(u != v - p+q)=true:=bne_iff_ne.2 aT
           clear aT hu
           go_wp2_with fail
           go_ret3
           exact .inl ⟨_,_,rfl,δ,⟨δ,δ⟩,aK.o,aJ.then aL⟩
         ·obtain rfl:u = -1:=aA.o.lab.neg k u hu ω
          have Hu:=Lh hu
          clear hu
          have bE:Below W2.heap.size W2 (wi.setCell (π bh k) (ι (v - p+q))):=aL.setCell (p:=(π bh k)) (by show _<=bh;omega) _
          have cB:Hid (U4 (wi.setCell (π bh k) (ι (v - p+q))) bh bt (aI.set k (v - p+q)) aC):=⟨by rw [heap_setCell_same _ _ _ _ _ _ aD.o.h,Jq],by rw [heap_setCell_other _ _ _ _ (fun e=>aD.o.ne e.symm)];exact aD.o.t,aD.o.words,aD.o.ne⟩
          go_wp2_with fail
          refine (Xcz aC bt _ _ k _ aB.o cB.o.t (by rw [aB.o];omega) (by rw [aB.o];omega) aD.o.words).mono ?_
          rintro e bR ⟨rfl,aF,aV⟩
          have aQ:=Lh (aA.o.label WF.o HX.o bS (by rw [HP.o];exact h1) bC.o Hu.o (Xbp (ws:=aC) (i:=k) (by rw [aB.o];omega)))
          have bK:=Z3 bE aF bE.size ω
          have bP:bt<bR.heap.size:=Nl (by simpa using aM) aF.size
          have bO:Hid (U4 bR bh bt (aI.set k (v - Xm c f x+Xj c f x)) (aC.set (k / 64) (aC.getD (k / 64) 0 ||| 2 ^ (k % 64)))):=⟨by rw [aF.block bh φ (fun e=>aD.o.ne (by cases e;rfl)),HP.o,HQ.o];exact cB.o.h,aV,Uy aD.o.words _ (Nat.or_lt_two_pow (n:=64) (Vw aD.o.words (by rw [aB.o];omega)) (Xeu _ ω)),aD.o.ne⟩
          have bM:Hid ((aC.set (k / 64) (aC.getD (k / 64) 0 ||| 2 ^ (k % 64))).length=f.code.length / 64+1):=by show _=_;rw [List.length_set];exact aB.o
          have aU:Hid (Zw bR (some (π g 0)) (X2 x i) bh bt):=Zw.kept bI.o ψ aF
          clear aF aV
          go_wp2_with fail
          go_roundg (gk - 1)
          case measure=>omega
          case rel=>exact ⟨j+1,min wn (k / 64),_,_,ω,ω,by go_num,by go_num,ω,aQ,bO,bM,bK,bP,aU⟩
        ·have aK:=Lh (J9 aA.o.lab aA.o.at_ bS HX.o (fun h=>bX (h.2.2 k (Lm bC.o))))
         go_wp2_with fail
         go_ret3
         exact .inl ⟨_,_,rfl,δ,⟨δ,δ⟩,aK.o,aJ.then aL⟩
       ·have aG:=aA.o.done HX.o (by rw [HP.o];exact h1) (by rw [HP.o];exact hr.o) (by rw [aS.o];omega)
        have aO:=Lh aG
        clear aG
        have cD:=Lh (HL.o.below (aJ.then aL))
        go_wp2_with fail
        refine (Xbr c f aI aC bh bt _ _ wn M _ aB.o cD.o aD.o (by rw [aB.o];omega) bT aO.o aA.o.words aA.o.less).mono ?_
        rintro e cN ⟨a',ws'',rfl,aR,bN,bL,bA⟩
        have cJ:=Z3 aL bA aL.size ω
        have hs'':bt<cN.heap.size:=Nl aM bA.size
        have aX:=Lh aR
        have cE:=Lh bN
        have cC:=Lh bL
        clear aR bN bL bA
        go_wp2_with fail
        go_roundg M
        case measure=>exact hM
        case rel=>exact ⟨aI,ws'',aX,cE,cC,cJ,hs''⟩
     ·-- a conditional jump
      have dR:(x.op == 10)=false:=by rw [aE];rfl
      have dU:(x.op != 10)=true:=by rw [aE];rfl
      have dS:(x.op == 11)=false:=by rw [aE];rfl
      have dV:(x.op != 11)=true:=by rw [aE];rfl
      have dT:(x.op == 12)=true:=by rw [aE];rfl
      have dW:(x.op != 12)=false:=by rw [aE];rfl
      have bQ:Hid (X2 x i=[i+1,x.a.toNat]):=by rw [dL.o,if_neg ω,if_pos (.inr aE)];rfl
      have cQ:=Lh aE
      clear aE bV
      go_wp2_with (first|(at_builtin;refine Uj rfl (.tmp 82) (.tmp 85) rfl w7.heap.size ν [] rfl (World.ownsRow_nil _ _ _ _) (π w7.heap.size 0) ((i:Int)+1) rfl (by exact (Y5 _ _ _ 0)) δ ψ ?_;intro eG w8 aH bZ;have aN:Below w7.heap.size w7 w8:=(Br.alloc (Nr _) _).grown bZ ψ (by intro k hk;cases hk);have fE:w7.heap.size<=w8.heap.size:=aN.size;have r0:=Xc aN q0;have r1:=Xc aN q1;have rh:=Xc aN cK;simp only [List.nil_append] at aH;have cS:=Lh aH;have gC:=Lh q0;have gD:=Lh q1;have eA:=Lh cK;clear aH bZ q0 q1 cK)|(at_builtin;refine Uj rfl (.tmp 95) (.tmp 98) rfl w7.heap.size eG [(i:Int)+1] rfl (cS.o.alloc _) (π w8.heap.size 0) x.a rfl (by exact (Y5 _ _ _ 0)) ψ φ ?_;intro sv2 w9 hown9 hg9;have bE:Below w7.heap.size w7 w9:=(aN.alloc aN.size _).grown hg9 φ (fun k hk=>(cS.o.lt k hk).1);have s0:=Xc bE gC.o;have s1:=Xc bE gD.o;have sh:=Xc bE eA.o;simp only [List.cons_append,List.nil_append] at hown9;obtain ⟨sa,scap,rfl,hrd⟩:=Xdt hown9;have cT:=Lh hrd;clear hown9 hg9 r0 r1 rh hrd))
      have cG:Hid (Zw w9 sa (X2 x i) bh bt):=by rw [bQ.o];exact Zw.of cT.o (by have:=(dC.o (.inr cQ.o)).1;simp;omega) ω aP
      have aS:Hid ((X2 x i).length=2):=by show _=_;rw [bQ.o];rfl
      have aY:Below W2.heap.size W2 w9:=bW.then bE
      have aZ:bt<w9.heap.size:=Nl aP (bE).size
      have cF:Hid (U4 w9 bh bt hs ws):=⟨by rw [(bE).block bh ω];exact aW.o.h,by rw [(bE).block bt aP];exact aW.o.t,aW.o.words,aW.o.ne⟩
      have bB:i / 64<=1000000:=ω
      go_loopg [110,9] 2 (fun gj ix wd wi=>∃ (j wn:Nat) (aI:List Int) (aC:List Nat),2<=gj+j/\j<=2/\ix=ι j/\wd=ι wn/\wn<=1000000/\Hid (ISt c f aI aC i v (v - Xm c f x+Xj c f x) (X2 x i) j wn M)/\Hid (U4 wi bh bt aI aC)/\Hid (aC.length=f.code.length / 64+1)/\Below W2.heap.size W2 wi/\bt<wi.heap.size/\Hid (Zw wi sa (X2 x i) bh bt))
      case atStart=>exact ⟨0,i / 64,hs,ws,ω,ω,by rfl,by go_num,bB,dF,cF,dP,aY,aZ,cG⟩
      case round=>
       obtain ⟨wi,rfl⟩:∃ wi:World,wi=wr:=⟨_,rfl⟩
       obtain ⟨j,wn,aI,aC,eB,eC,rfl,rfl,bT,aA,aD,aB,aL,aM,bI⟩:=hrel
       by_cases cL:j<2
       ·obtain ⟨k,hk⟩:∃ k,(X2 x i)[j]?=some k:=⟨_,Lg (by rw [aS.o];exact cL)⟩
        rcases bI.o with h|⟨g,hg,eU,eV,eW,dB⟩
        ·rw [h] at hk;simp at hk
        subst hg
        have eX:=dB j k hk
        have bC:=Lh hk
        clear hk
        by_cases bX:k<f.code.length
        ·obtain ⟨u,hu⟩:∃ u,aI[k]?=some u:=⟨_,Lg (by rw [aA.o.lab.len];exact bX)⟩
         have eS:wi.cell? (π bh k)=some (ι u):=by rw [cell_of_row _ _ _ _ _ _ aD.o.h];exact Qe hu
         have eT:wi.frozen? (π bh k)=false:=Fz aD.o.h
         have fG:u<=2*1048576:=by have:=aA.o.lab.bound k u hu;rw [aA.o.lab.len] at this;omega
         by_cases dD:0<=u
         ·by_cases aT:u=v - p+q
          ·have aQ:=Lh (aA.o.same bC.o (by rw [HP.o,HQ.o,<- aT];exact hu))
           have cU:(u != v - p+q)=false:=by rw [aT];simp
           clear aT hu
           go_wp2_with fail
           go_roundg (gk - 1)
           case measure=>omega
           case rel=>exact ⟨j+1,wn,aI,aC,ω,ω,by go_num,rfl,bT,aQ,aD,aB,aL,aM,bI⟩
          ·have aK:=Lh (aA.o.clash HX.o bS bC.o hu dD (by rw [HP.o,HQ.o];exact aT))
           have cU:(u != v - p+q)=true:=bne_iff_ne.2 aT
           clear aT hu
           go_wp2_with fail
           go_ret3
           exact .inl ⟨_,_,rfl,δ,⟨δ,δ⟩,aK.o,aJ.then aL⟩
         ·obtain rfl:u = -1:=aA.o.lab.neg k u hu ω
          have Hu:=Lh hu
          clear hu
          have cX:Below W2.heap.size W2 (wi.setCell (π bh k) (ι (v - p+q))):=aL.setCell (p:=(π bh k)) (by show _<=bh;omega) _
          have cB:Hid (U4 (wi.setCell (π bh k) (ι (v - p+q))) bh bt (aI.set k (v - p+q)) aC):=⟨by rw [heap_setCell_same _ _ _ _ _ _ aD.o.h,Jq],by rw [heap_setCell_other _ _ _ _ (fun e=>aD.o.ne e.symm)];exact aD.o.t,aD.o.words,aD.o.ne⟩
          go_wp2_with fail
          refine (Xcz aC bt _ _ k _ aB.o cB.o.t (by rw [aB.o];omega) (by rw [aB.o];omega) aD.o.words).mono ?_
          rintro e bR ⟨rfl,aF,aV⟩
          have aQ:=Lh (aA.o.label WF.o HX.o bS (by rw [HP.o];exact h1) bC.o Hu.o (Xbp (ws:=aC) (i:=k) (by rw [aB.o];omega)))
          have bK:=Z3 cX aF cX.size ω
          have bP:bt<bR.heap.size:=Nl (by simpa using aM) aF.size
          have bO:Hid (U4 bR bh bt (aI.set k (v - Xm c f x+Xj c f x)) (aC.set (k / 64) (aC.getD (k / 64) 0 ||| 2 ^ (k % 64)))):=⟨by rw [aF.block bh φ (fun e=>aD.o.ne (by cases e;rfl)),HP.o,HQ.o];exact cB.o.h,aV,Uy aD.o.words _ (Nat.or_lt_two_pow (n:=64) (Vw aD.o.words (by rw [aB.o];omega)) (Xeu _ ω)),aD.o.ne⟩
          have bM:Hid ((aC.set (k / 64) (aC.getD (k / 64) 0 ||| 2 ^ (k % 64))).length=f.code.length / 64+1):=by show _=_;rw [List.length_set];exact aB.o
          have aU:Hid (Zw bR (some (π g 0)) (X2 x i) bh bt):=Zw.kept bI.o ψ aF
          clear aF aV
          go_wp2_with fail
          go_roundg (gk - 1)
          case measure=>omega
          case rel=>exact ⟨j+1,min wn (k / 64),_,_,ω,ω,by go_num,by go_num,ω,aQ,bO,bM,bK,bP,aU⟩
        ·have aK:=Lh (J9 aA.o.lab aA.o.at_ bS HX.o (fun h=>bX (h.2.2 k (Lm bC.o))))
         go_wp2_with fail
         go_ret3
         exact .inl ⟨_,_,rfl,δ,⟨δ,δ⟩,aK.o,aJ.then aL⟩
       ·have aG:=aA.o.done HX.o (by rw [HP.o];exact h1) (by rw [HP.o];exact hr.o) (by rw [aS.o];omega)
        have aO:=Lh aG
        clear aG
        have cD:=Lh (HL.o.below (aJ.then aL))
        go_wp2_with fail
        refine (Xbr c f aI aC bh bt _ _ wn M _ aB.o cD.o aD.o (by rw [aB.o];omega) bT aO.o aA.o.words aA.o.less).mono ?_
        rintro e cN ⟨a',ws'',rfl,aR,bN,bL,bA⟩
        have cJ:=Z3 aL bA aL.size ω
        have hs'':bt<cN.heap.size:=Nl aM bA.size
        have aX:=Lh aR
        have cE:=Lh bN
        have cC:=Lh bL
        clear aR bN bL bA
        go_wp2_with fail
        go_roundg M
        case measure=>exact hM
        case rel=>exact ⟨aI,ws'',aX,cE,cC,cJ,hs''⟩
     ·-- any other instruction
      have dR:(x.op == 10)=false:=beq_eq_false_iff_ne.2 aE.1
      have dU:(x.op != 10)=true:=bne_iff_ne.2 aE.1
      have dS:(x.op == 11)=false:=beq_eq_false_iff_ne.2 aE.2.1
      have dV:(x.op != 11)=true:=bne_iff_ne.2 aE.2.1
      have dT:(x.op == 12)=false:=beq_eq_false_iff_ne.2 aE.2.2
      have dW:(x.op != 12)=true:=bne_iff_ne.2 aE.2.2
      have bQ:Hid (X2 x i=[i+1]):=by rw [dL.o,if_neg ω,if_neg ω];rfl
      have cQ:=Lh aE
      clear aE bV
      go_wp2_with (at_builtin;refine Uj rfl (.tmp 82) (.tmp 85) rfl w7.heap.size ν [] rfl (World.ownsRow_nil _ _ _ _) (π w7.heap.size 0) ((i:Int)+1) rfl (by exact (Y5 _ _ _ 0)) δ ψ ?_;intro eG w8 aH bZ;have aN:Below w7.heap.size w7 w8:=(Br.alloc (Nr _) _).grown bZ ψ (by intro k hk;cases hk);have fE:w7.heap.size<=w8.heap.size:=aN.size;have r0:=Xc aN q0;have r1:=Xc aN q1;have rh:=Xc aN cK;simp only [List.nil_append] at aH;obtain ⟨sa,scap,rfl,hrd⟩:=Xdt aH;have cT:=Lh hrd;clear aH bZ q0 q1 cK hrd)
      have cG:Hid (Zw w8 sa (X2 x i) bh bt):=by rw [bQ.o];exact Zw.of cT.o ψ ω aP
      have aS:Hid ((X2 x i).length=1):=by show _=_;rw [bQ.o];rfl
      have aY:Below W2.heap.size W2 w8:=bW.then aN
      have aZ:bt<w8.heap.size:=Nl aP (aN).size
      have cF:Hid (U4 w8 bh bt hs ws):=⟨by rw [(aN).block bh ω];exact aW.o.h,by rw [(aN).block bt aP];exact aW.o.t,aW.o.words,aW.o.ne⟩
      have bB:i / 64<=1000000:=ω
      go_loopg [110,9] 1 (fun gj ix wd wi=>∃ (j wn:Nat) (aI:List Int) (aC:List Nat),1<=gj+j/\j<=1/\ix=ι j/\wd=ι wn/\wn<=1000000/\Hid (ISt c f aI aC i v (v - Xm c f x+Xj c f x) (X2 x i) j wn M)/\Hid (U4 wi bh bt aI aC)/\Hid (aC.length=f.code.length / 64+1)/\Below W2.heap.size W2 wi/\bt<wi.heap.size/\Hid (Zw wi sa (X2 x i) bh bt))
      case atStart=>exact ⟨0,i / 64,hs,ws,ω,ω,by rfl,by go_num,bB,dF,cF,dP,aY,aZ,cG⟩
      case round=>
       obtain ⟨wi,rfl⟩:∃ wi:World,wi=wr:=⟨_,rfl⟩
       obtain ⟨j,wn,aI,aC,eB,eC,rfl,rfl,bT,aA,aD,aB,aL,aM,bI⟩:=hrel
       by_cases cL:j<1
       ·obtain ⟨k,hk⟩:∃ k,(X2 x i)[j]?=some k:=⟨_,Lg (by rw [aS.o];exact cL)⟩
        rcases bI.o with h|⟨g,hg,eU,eV,eW,dB⟩
        ·rw [h] at hk;simp at hk
        subst hg
        have eX:=dB j k hk
        have bC:=Lh hk
        clear hk
        by_cases bX:k<f.code.length
        ·obtain ⟨u,hu⟩:∃ u,aI[k]?=some u:=⟨_,Lg (by rw [aA.o.lab.len];exact bX)⟩
         have eS:wi.cell? (π bh k)=some (ι u):=by rw [cell_of_row _ _ _ _ _ _ aD.o.h];exact Qe hu
         have eT:wi.frozen? (π bh k)=false:=Fz aD.o.h
         have fG:u<=2*1048576:=by have:=aA.o.lab.bound k u hu;rw [aA.o.lab.len] at this;omega
         by_cases dD:0<=u
         ·by_cases aT:u=v - p+q
          ·have aQ:=Lh (aA.o.same bC.o (by rw [HP.o,HQ.o,<- aT];exact hu))
           have cU:(u != v - p+q)=false:=by rw [aT];simp
           clear aT hu
           go_wp2_with fail
           go_roundg (gk - 1)
           case measure=>omega
           case rel=>exact ⟨j+1,wn,aI,aC,ω,ω,by go_num,rfl,bT,aQ,aD,aB,aL,aM,bI⟩
          ·have aK:=Lh (aA.o.clash HX.o bS bC.o hu dD (by rw [HP.o,HQ.o];exact aT))
           have cU:(u != v - p+q)=true:=bne_iff_ne.2 aT
           clear aT hu
           go_wp2_with fail
           go_ret3
           exact .inl ⟨_,_,rfl,δ,⟨δ,δ⟩,aK.o,aJ.then aL⟩
         ·obtain rfl:u = -1:=aA.o.lab.neg k u hu ω
          have Hu:=Lh hu
          clear hu
          have bE:Below W2.heap.size W2 (wi.setCell (π bh k) (ι (v - p+q))):=aL.setCell (p:=(π bh k)) (by show _<=bh;omega) _
          have cB:Hid (U4 (wi.setCell (π bh k) (ι (v - p+q))) bh bt (aI.set k (v - p+q)) aC):=⟨by rw [heap_setCell_same _ _ _ _ _ _ aD.o.h,Jq],by rw [heap_setCell_other _ _ _ _ (fun e=>aD.o.ne e.symm)];exact aD.o.t,aD.o.words,aD.o.ne⟩
          go_wp2_with fail
          refine (Xcz aC bt _ _ k _ aB.o cB.o.t (by rw [aB.o];omega) (by rw [aB.o];omega) aD.o.words).mono ?_
          rintro e bR ⟨rfl,aF,aV⟩
          have aQ:=Lh (aA.o.label WF.o HX.o bS (by rw [HP.o];exact h1) bC.o Hu.o (Xbp (ws:=aC) (i:=k) (by rw [aB.o];omega)))
          have bK:=Z3 bE aF bE.size ω
          have bP:bt<bR.heap.size:=Nl (by simpa using aM) aF.size
          have bO:Hid (U4 bR bh bt (aI.set k (v - Xm c f x+Xj c f x)) (aC.set (k / 64) (aC.getD (k / 64) 0 ||| 2 ^ (k % 64)))):=⟨by rw [aF.block bh φ (fun e=>aD.o.ne (by cases e;rfl)),HP.o,HQ.o];exact cB.o.h,aV,Uy aD.o.words _ (Nat.or_lt_two_pow (n:=64) (Vw aD.o.words (by rw [aB.o];omega)) (Xeu _ ω)),aD.o.ne⟩
          have bM:Hid ((aC.set (k / 64) (aC.getD (k / 64) 0 ||| 2 ^ (k % 64))).length=f.code.length / 64+1):=by show _=_;rw [List.length_set];exact aB.o
          have aU:Hid (Zw bR (some (π g 0)) (X2 x i) bh bt):=Zw.kept bI.o ψ aF
          clear aF aV
          go_wp2_with fail
          go_roundg (gk - 1)
          case measure=>omega
          case rel=>exact ⟨j+1,min wn (k / 64),_,_,ω,ω,by go_num,by go_num,ω,aQ,bO,bM,bK,bP,aU⟩
        ·have aK:=Lh (J9 aA.o.lab aA.o.at_ bS HX.o (fun h=>bX (h.2.2 k (Lm bC.o))))
         go_wp2_with fail
         go_ret3
         exact .inl ⟨_,_,rfl,δ,⟨δ,δ⟩,aK.o,aJ.then aL⟩
       ·have aG:=aA.o.done HX.o (by rw [HP.o];exact h1) (by rw [HP.o];exact hr.o) (by rw [aS.o];omega)
        have aO:=Lh aG
        clear aG
        have cD:=Lh (HL.o.below (aJ.then aL))
        go_wp2_with fail
        refine (Xbr c f aI aC bh bt _ _ wn M _ aB.o cD.o aD.o (by rw [aB.o];omega) bT aO.o aA.o.words aA.o.less).mono ?_
        rintro e cN ⟨a',ws'',rfl,aR,bN,bL,bA⟩
        have cJ:=Z3 aL bA aL.size ω
        have hs'':bt<cN.heap.size:=Nl aM bA.size
        have aX:=Lh aR
        have cE:=Lh bN
        have cC:=Lh bL
        clear aR bN bL bA
        go_wp2_with fail
        go_roundg M
        case measure=>exact hM
        case rel=>exact ⟨aI,ws'',aX,cE,cC,cJ,hs''⟩
   ·have aK:=eJ.o (fun h=>h1 h.1)
    go_wp2_with fail
    go_ret3
    exact .inl ⟨_,_,rfl,δ,⟨δ,δ⟩,aK.o,cP.then bD⟩
