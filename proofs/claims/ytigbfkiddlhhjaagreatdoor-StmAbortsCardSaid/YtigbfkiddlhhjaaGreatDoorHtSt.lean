import Derived.Test.YtigbfkiddlhhjaaGreatDoorMov
import Derived.RegionTactic
import Derived.ChangeAlike
import Derived.Laws.CopyOwn
import Derived.Laws.MakeOwn
import Derived.Deep.LoopGhost
import Derived.Deep.DeepCutAuto
set_option maxHeartbeats 2000000
set_option maxRecDepth 100000
set_option linter.all false
open Go renaming World→Ϣ,Value→ϒ,Calls→ϙ,heap_setCell_same→ϡ
open Go.RowKit renaming Below→ϐ
open Option renaming some→ς
open Bool renaming false→ϝ,true→ϑ
open List renaming replicate→ϱ
open Go.Value renaming slice→σ
open Go.Obj renaming cells→χ
namespace Go.Proofs.YtigbfkiddlhhjaaGreatDoor
open Go.RowKit Proofs.Tryz
variable {c:AQ} {f:BK} {i n k b j wd M base bh bt:Nat} {x:Cd} {hs:List Int} {T T':Nat->Bool} {v u:Int} {ws ws' l:List Nat} {w w':Ϣ} {sa:Option Addr}
def Am (x:Cd) (i:Nat):List Nat:=(if x.op=10\/x.op=11 then [] else [i+1])++(if x.op=11\/x.op=12 then [x.a.toNat] else [])
def Reach (c:AQ) (f:BK) (i:Nat) (n:Int):Prop:=
 ∀ R:Nat->Int->Prop,R 0 0->(∀ i n x k,R i n->f.code[i]?=ς x->k∈Am x i->R k (n - AM c f x+AK c f x))->R i n
def Reach.zero (c:AQ) (f:BK):Reach c f 0 0:=λ_ h _=>h
def Reach.next {n:Int} (h:Reach c f i n) (d:f.code[i]?=ς x) (b:k∈Am x i):Reach c f k (n - AM c f x+AK c f x):=
 λR a hs=>hs _ _ _ _ (h R a hs) d b
def VU (c:AQ) (f:BK) (i:Nat) (n:Int):Prop:=
 ∃ x,f.code[i]?=ς x/\AM c f x<=n/\(x.op=10->n<=AM c f x)/\∀ k∈Am x i,k<f.code.length
def CQ (c:AQ) (f:BK):Prop:=(∀ i n,Reach c f i n->VU c f i n)/\∀ i n m,Reach c f i n->Reach c f i m->n=m
def DB (c:AQ) (f:BK) (h:List Int):Prop:=h.length=f.code.length/\∀ i v,h[i]?=ς v->(v = -1/\∀ n,¬Reach c f i n)\/(0<=v/\Reach c f i v)
structure Pg (c:AQ) (f:BK):Prop where
 one:1<=f.code.length
 most:f.code.length<=1048576
 op:∀ x∈f.code,1<=x.op/\x.op<=31
 call:∀ x∈f.code,x.op=9->0<=x.a/\x.a<c.funcs.length
 jump:∀ x∈f.code,x.op=11\/x.op=12->0<=x.a/\x.a<f.code.length
 pops:∀ x∈f.code,0<=AM c f x/\AM c f x<=6
 pushes:∀ x∈f.code,0<=AK c f x/\AK c f x<=2
def JF (hs:List Int):Nat:=hs.countP (λv=>decide (v<0))
def Tf (c:AQ) (f:BK) (hs:List Int) (i:Nat) (v:Int):Prop:=
 ∃ x,f.code[i]?=ς x/\AM c f x<=v/\(x.op=10->v<=AM c f x)/\∀ k∈Am x i,hs[k]?=ς (v - AM c f x+AK c f x)
structure KL (c:AQ) (f:BK) (hs:List Int) (T:Nat->Bool) (skip:Nat->Prop):Prop where
 len:hs.length=f.code.length
 zero:hs[0]?=ς 0
 bit:∀ (i:Nat),T i=ϑ->∃ v,hs[i]?=ς v/\0<=v
 reach:∀ (i:Nat) v,hs[i]?=ς v->0<=v->Reach c f i v
 neg:∀ (i:Nat) v,hs[i]?=ς v->v<0->v = -1
 done:∀ (i:Nat) v,hs[i]?=ς v->0<=v->T i=ϝ->¬skip i->Tf c f hs i v
 bound:∀ (i:Nat) v,hs[i]?=ς v->v+2*JF hs<=2*hs.length
def KL.start (b:Pg c f) (T:Nat->Bool) (g:∀ i,T i=decide (i=0)):KL c f ((ϱ f.code.length (-1:Int)).set 0 0) T (λ_=>False) where
 len:=by simp
 zero:=List.getElem?_set_self (by rw [List.length_replicate];exact b.one)
 bit:=λi h=>by
  rw [g] at h;simp at h;subst h;exact ⟨0,List.getElem?_set_self (by rw [List.length_replicate];exact b.one),ω⟩
 reach:=λi v h j=>by
  rw [List.getElem?_set] at h;by_cases a:0=i
  .subst a;simp at h;obtain ⟨_,rfl⟩:=h;exact Reach.zero c f
  .rw [if_neg a,List.getElem?_replicate] at h
   split at h
   .simp at h;omega
   .cases h
 neg:=λi v h j=>by
  rw [List.getElem?_set] at h;by_cases a:0=i
  .subst a;simp at h;omega
  .rw [if_neg a,List.getElem?_replicate] at h
   split at h
   .simp at h;omega
   .cases h
 done:=λi v h j d _=>by
  rw [g] at d;simp at d;rw [List.getElem?_set,if_neg (λe=>d e.symm),List.getElem?_replicate] at h;split at h
  .simp at h;omega
  .cases h
 bound:=λi v h=>by
  have n:JF ((ϱ f.code.length (-1:Int)).set 0 0)<=f.code.length - 1:=by
   have:=b.one;unfold JF;obtain ⟨m,k⟩:∃ m,f.code.length=m+1:=⟨f.code.length - 1,ω⟩
   rw [k,List.replicate_succ,List.set_cons_zero,List.countP_cons];have:=List.countP_le_length (p:=λv:Int=>decide (v<0)) (l:=ϱ m (-1));simp at this ⊢;omega
  have o:v<=0:=by
   rw [List.getElem?_set] at h;by_cases a:0=i
   .subst a;simp at h;omega
   .rw [if_neg a,List.getElem?_replicate] at h
    split at h
    .simp at h;omega
    .cases h
  have:=b.one;simp;omega
def KL.take (h:KL c f hs T (λ_=>False)) (d:∀ j,T' j=(T j && !decide (j=i))):KL c f hs T' (λj=>j=i) where
 len:=h.len
 zero:=h.zero
 bit:=λj a=>h.bit j (by rw [d] at a;simp at a;exact a.1)
 reach:=h.reach
 neg:=h.neg
 done:=λj v a g b hs=>h.done j v a g (by rw [d] at b;simp at b;by_cases e:T j=ϑ;exact absurd (b e) hs;simpa using e) (λe=>e)
 bound:=h.bound
def KL.put (h:KL c f hs T (λj=>j=i)) (k:hs[i]?=ς v) (b:Tf c f hs i v):KL c f hs T (λ_=>False) where
 len:=h.len
 zero:=h.zero
 bit:=h.bit
 reach:=h.reach
 neg:=h.neg
 done:=λj u a g d _=>by
  by_cases e:j=i
  .subst e;rw [k] at a;cases a;exact b
  .exact h.done j u a g d e
 bound:=h.bound
def Ot (b:hs[k]?=ς u) (c:u<0) (e:0<=v):JF (hs.set k v)+1=JF hs:=by
 unfold JF;induction hs generalizing k with
 | nil=>simp at b
 | cons a l d=>
  cases k with
  | zero=>simp at b;subst b;rw [List.set_cons_zero,List.countP_cons,List.countP_cons];simp [c];omega
  | succ k=>simp at b;rw [List.set_cons_succ,List.countP_cons,List.countP_cons];have:=d b;omega
def KL.label (n:Pg c f) (h:KL c f hs T (λj=>j=i)) (r:hs[i]?=ς v) (w:0<=v) (m:f.code[i]?=ς x) (D:AM c f x<=v)
  (z:k∈Am x i) (d:hs[k]?=ς (-1)) (p:∀ j,T' j=(T j || decide (j=k))):KL c f (hs.set k (v - AM c f x+AK c f x)) T' (λj=>j=i):=by
 have t:=n.pushes x (Lm m);have C:=n.pops x (Lm m);have o:=(Ll d)
 have s:∀ (j:Nat) u,hs[j]?=ς u->0<=u->k≠j:=λj u a b e=>by subst e;rw [d] at a;cases a;omega
 have l:∀ (j:Nat) u,hs[j]?=ς u->0<=u->(hs.set k (v - AM c f x+AK c f x))[j]?=ς u:=λj u a b=>by rw [List.getElem?_set,if_neg (s j u a b)];exact a
 have g:∀ (j:Nat) u,(hs.set k (v - AM c f x+AK c f x))[j]?=ς u->(j=k/\u=v - AM c f x+AK c f x)\/(j≠k/\hs[j]?=ς u):=λj u a=>by
  rw [List.getElem?_set] at a;by_cases e:k=j
  .subst e;simp [o] at a;exact .inl ⟨rfl,a.symm⟩
  .rw [if_neg e] at a;exact .inr ⟨λq=>e q.symm,a⟩
 have B:=Ot (v:=v - AM c f x+AK c f x) d ω ω;refine ⟨by simp [h.len],l 0 0 h.zero ω,?_,?_,?_,?_,?_⟩
 .intro j a
  rw [p] at a;simp at a;rcases a with a|rfl
  .obtain ⟨u,b,aD⟩:=h.bit j a
   exact ⟨u,l j u b aD,aD⟩
  .exact ⟨_,List.getElem?_set_self o,ω⟩
 .intro j u a b
  rcases g j u a with ⟨rfl,rfl⟩|⟨_,a⟩
  .exact (h.reach i v r w).next m z
  .exact h.reach j u a b
 .intro j u a b
  rcases g j u a with ⟨rfl,rfl⟩|⟨_,a⟩
  .omega
  .exact h.neg j u a b
 .intro j u a b ht aG
  rw [p] at ht;simp at ht;rcases g j u a with ⟨rfl,rfl⟩|⟨_,a⟩
  .exact absurd rfl ht.2
  .obtain ⟨y,hy,h1,h2,h3⟩:=h.done j u a b ht.1 aG
   have t:=n.pushes y (Lm hy);exact ⟨y,hy,h1,h2,λq A=>l q _ (h3 q A) ω⟩
 .intro j u a
  rw [List.length_set];rcases g j u a with ⟨rfl,rfl⟩|⟨_,a⟩
  .have:=h.bound i v r;omega
  .have:=h.bound j u a;omega
def KL.fin (w:Pg c f) (h:KL c f hs T (λ_=>False)) (s:∀ i,T i=ϝ):CQ c f/\DB c f hs:=by
 have j:∀ i n,Reach c f i n->hs[i]?=ς n/\0<=n:=by
  intro i n g;have:=g (λi n=>hs[i]?=ς n/\0<=n) ⟨h.zero,ω⟩ (λi n x k ⟨b,d⟩ l p=>by
   obtain ⟨y,t,r,_,o⟩:=h.done i n b d (s i) (λe=>e);rw [l] at t;cases t;have z:=w.pushes x (Lm l);exact ⟨o k p,ω⟩)
  exact this
 refine ⟨⟨λi n g=>?_,λi n m b d=>?_⟩,h.len,λi v q=>?_⟩
 .obtain ⟨b,d⟩:=j i n g
  obtain ⟨x,l,r,u,o⟩:=h.done i n b d (s i) (λe=>e);exact ⟨x,l,r,u,λk p=>by rw [<-h.len];exact (List.getElem?_eq_some_iff.1 (o k p)).1⟩
 .have a:=(j i n b).1
  rw [(j i m d).1] at a;cases a;rfl
 .by_cases h0:0<=v
  .exact .inr ⟨h0,h.reach i v q h0⟩
  .refine .inl ⟨h.neg i v q ω,λn g=>?_⟩
   obtain ⟨b,d⟩:=j i n g;rw [q] at b;cases b;omega
def GG (T:Nat->Bool) (n:Nat):Nat:=(List.range n).countP T
def FD (T:Nat->Bool) (n:Nat):GG T (n+1)=GG T n+(if T n then 1 else 0):=by
 unfold GG;rw [List.range_succ,List.countP_append];simp
def LC (h:∀ j,j<n->T j=T' j):GG T n=GG T' n:=by
 induction n with
 | zero=>rfl
 | succ n a=>rw [FD,FD,a (λj b=>h j ω),h n ω]
def Ty (f:i<n) (b:T i=ϑ) (a:∀ j,T' j=(T j && !decide (j=i))):GG T' n+1=GG T n:=by
 induction n with
 | zero=>omega
 | succ n d=>
  rw [FD,FD];by_cases e:i=n
  .subst e
   rw [LC (T:=T') (T':=T) (λj g=>by rw [a];have:decide (j=i)=ϝ:=φ;rw [this];simp),a,b];simp
  .have:=d ω
   rw [a n];have c:=θ (n=i);rw [c];simp only [Bool.not_false,Bool.and_true];omega
def OL (a:∀ j,T' j=(T j || decide (j=k))):GG T' n<=GG T n+1:=by
 induction n with
 | zero=>simp [GG]
 | succ n d=>
  rw [FD,FD];by_cases e:n=k
  .subst e
   have b:GG T' n=GG T n:=LC (λj c=>by rw [a];have:decide (j=n)=ϝ:=φ;rw [this];simp);rw [b];split<;>split<;>omega
  .have h2:T' n=T n:=by
    rw [a];have:decide (n=k)=ϝ:=by simpa using e
    rw [this];simp
   rw [h2];omega
def CO (ws:List Nat):Array ϒ:=(ws.map λ(x:Nat)=>Value.int .u64 (x:Int)).toArray
def BL (ws:List Nat) (i:Nat):Bool:=(ws.getD (i / 64) 0).testBit (i % 64)
def Iw (ws:List Nat):Prop:=∀ x∈ws,x<18446744073709551616
def OW (a:k<ws.length) (y:Nat) (j:Nat):(ws.set k y).getD j 0=if j=k then y else ws.getD j 0:=by
 simp only [List.getD_eq_getElem?_getD,List.getElem?_set];by_cases h:k=j
 .subst h;simp [a]
 .rw [if_neg h,if_neg (λe=>h e.symm)]
def I7 (a:i / 64<ws.length) (j:Nat):BL (ws.set (i / 64) (ws.getD (i / 64) 0 ||| 2 ^ (i % 64))) j=(BL ws j || decide (j=i)):=by
 unfold BL;rw [OW a];by_cases h:j / 64=i / 64
 .rw [if_pos h,h,Nat.testBit_or,Nat.testBit_two_pow]
  congr 1
  rw [Bool.eq_iff_iff];simp;omega
 .rw [if_neg h]
  have:decide (j=i)=ϝ:=by simp;intro e;exact h (by rw [e])
  rw [this,Bool.or_false]
def SF (c:i / 64<ws.length) (j:Nat):BL (ws.set (i / 64) (ws.getD (i / 64) 0 &&& (18446744073709551615 - 2 ^ (i % 64)))) j=(BL ws j && !decide (j=i)):=by
 unfold BL;rw [OW c];by_cases h:j / 64=i / 64
 .rw [if_pos h,h,Nat.testBit_and]
  congr 1
  have a:18446744073709551615 - 2 ^ (i % 64)=2 ^ 64 - (2 ^ (i % 64)+1):=ω;have b:2 ^ (i % 64)<2 ^ 64:=Nat.pow_lt_pow_right ω ω;rw [a,Nat.testBit_two_pow_sub_succ b,Nat.testBit_two_pow];rw [Bool.eq_iff_iff];simp;omega
 .rw [if_neg h]
  have:decide (j=i)=ϝ:=by simp;intro e;exact h (by rw [e])
  rw [this];simp
def GL (h:Iw ws) (k:Nat) {y:Nat} (c:y<18446744073709551616):Iw (ws.set k y):=by
 intro x b;rcases List.mem_or_eq_of_mem_set b with a|a
 .exact h x a
 .omega
def Hb (h:Iw ws) (a:k<ws.length):ws.getD k 0<18446744073709551616:=by
 rw [List.getD_eq_getElem?_getD,Lg a];exact h _ (List.getElem_mem a)
def KI (a:k<ws.length):(CO ws)[k]?=ς (.int .u64 (ws.getD k 0:Nat)):=by
 simp [CO,List.getD_eq_getElem?_getD,Lg a]
def JR (ws:List Nat) (k y:Nat):(CO ws).setIfInBounds k (.int .u64 (y:Nat))=CO (ws.set k y):=by
 simp [CO,List.setIfInBounds_toArray,List.map_set]
def Hv (a b:Nat) (e:a<18446744073709551616) (f:b<18446744073709551616) :
  bits .andNot .u64 (a:Int) (b:Int)=((a &&& (18446744073709551615 - b):Nat):Int):=by
 have g:a &&& (18446744073709551615 - b)<2 ^ 64:=Nat.and_lt_two_pow _ ω;have c:(BitVec.ofInt 64 (a:Int)).toNat=a:=by rw [BitVec.ofInt_natCast,BitVec.toNat_ofNat];exact Nat.mod_eq_of_lt ω
 have d:(BitVec.ofInt 64 (b:Int)).toNat=b:=by rw [BitVec.ofInt_natCast,BitVec.toNat_ofNat];exact Nat.mod_eq_of_lt ω
 show IntKind.u64.wrap ((BitVec.ofInt 64 (a:Int) &&& ~~~BitVec.ofInt 64 (b:Int)).toNat:Int)=_;rw [BitVec.toNat_and,BitVec.toNat_not,c,d,IntKind.wrap_u64];have:2 ^ 64 - 1 - b=18446744073709551615 - b:=ω;rw [this];omega
def MZ (k:Nat) (h:k<64):(2:Nat) ^ k<18446744073709551616:=by
 have:=Nat.pow_lt_pow_right (a:=2) ω h;omega
def PN (k:Nat) (h:k<64):IntKind.u64.wrap ((2:Int) ^ k)=((2 ^ k:Nat):Int):=by
 have:=MZ k h;rw [IntKind.wrap_u64];have e:((2:Int) ^ k)=((2 ^ k:Nat):Int):=by simp
 rw [e];generalize 2 ^ k=y at *
 omega
def J9 {v:ϒ}:w.grownBy (w.setCell (π b k) v).drew (ς b):=
 ⟨rfl,rfl,rfl,ψ,λj _ h=>heap_setCell_other _ _ _ _ (λe=>h (by rw [e]))⟩
def KU (ws:List Nat) (b n cap:Nat) (i:Nat) (w:Ϣ) (g:ws.length=n) (a:w.heap[b]?=ς (χ (CO ws) 208 (0,0))) (d:i / 64<ws.length) (hl:ws.length<=140737488355328) (c:Iw ws) :
  ϙ prog 129 #[σ (ς (π b 0)) n cap,ι i] w λe w'=>e=.returned (.tuple #[])/\w.grownBy w' (ς b)/\w'.heap[b]?=ς (χ (CO (ws.set (i / 64) (ws.getD (i / 64) 0 ||| 2 ^ (i % 64)))) 208 (0,0)):=by
 subst g;have j:=Hb c d;have k:w.cell? (π b (i / 64))=ς (.int .u64 (ws.getD (i / 64) 0:Nat)):=by rw [cell_of_row _ _ _ _ _ _ a];exact KI d
 have l:w.frozen? (π b (i / 64))=ϝ:=Fz a;have h:Hid (bits .or .u64 ((ws.getD (i / 64) 0:Nat):Int) (IntKind.u64.wrap (2 ^ (i % 64)))=((ws.getD (i / 64) 0 ||| 2 ^ (i % 64):Nat):Int)):=by show _=_;rw [PN _ ω,bits_or_u64_nat _ _ j (MZ _ ω)]
 generalize f:ws.getD (i / 64) 0=x at *
 have Hw:=Lh a;clear a f c;go_enter func129,ntmps129;go_wp2
 go_region
 go_end0
 refine ⟨rfl,J9,?_⟩;rw [h.o];show ((w.setCell (π b (i / 64)) (.int .u64 ((x ||| 2 ^ (i % 64):Nat):Int))).heap)[b]?=_;rw [ϡ _ _ _ _ _ _ Hw.o,JR]
def TC (x k a:Nat) (w:Ϣ) (d:((x:Int) == 0)=ϝ)
  (c:IntKind.u64.wrap (bits BinOp.and IntKind.u64 (x:Int) (IntKind.u64.wrap (-(x:Int)))*285870213051353865) / 288230376151711744=(a:Int))
  (f:a<64) (g:k<64) (b:w.cell? (π 0 a)=ς (.int .u8 k)) :
  ϙ prog 155 #[.int .u64 x] w λe w'=>e=.returned (ι k)/\w=w':=by
 go_enter func155,ntmps155;go_wp2_with (simp only [c]);go_ret;exact ⟨rfl,rfl⟩
def U7 (x:Nat) (f:x<18446744073709551616) (a:x≠0) (w:Ϣ) (i:TabAt 0 Lib.deBruijn64tab w) :
  ϙ prog 155 #[.int .u64 x] w λe w'=>e=.returned (ι (Lib.ctz 64 x))/\w=w':=by
 obtain ⟨g,d⟩:=Lib.lowest_bit 64 x a f;obtain ⟨c,h⟩:=Lib.deBruijn64_at _ d;have b:=i _ c;rw [h] at b;exact TC x _ _ w φ (tz64_key x _ f a g) c d b
def Wt (ws:List Nat) (from_ b:Nat) (w:Ϣ) (e:Ending) (w':Ϣ):Prop:=
 (e=.returned (ι (-1))/\w=w'/\∀ i,64*from_<=i->BL ws i=ϝ)\/
 ∃ (i:Nat) (ws':List Nat),e=.returned (ι i)/\64*from_<=i/\i / 64<ws.length/\BL ws i=ϑ/\(∀ j,64*from_<=j->j / 64<i / 64->BL ws j=ϝ)/\ws'.length=ws.length/\Iw ws'/\(∀ j,BL ws' j=(BL ws j && !decide (j=i)))/\
  w.grownBy w' (ς b)/\w'.heap[b]?=ς (χ (CO ws') 208 (0,0))
def Vk (x:Nat) (a:x≠0) (b:x<18446744073709551616):x.testBit (Lib.ctz 64 x)=ϑ:=by
 unfold Lib.ctz;rw [if_neg a];obtain ⟨m,h,_⟩:=Lib.ctzFrom_spec 64 x ω ω;generalize Lib.ctzFrom 64 x=k at *
 rw [h,Nat.testBit_two_pow_mul];simp
def Pn (h:ws.getD k 0=0) (i:Nat) (a:i / 64=k):BL ws i=ϝ:=by unfold BL;rw [a,h];simp
def SG (i:Nat) (a:ws.length<=i / 64):BL ws i=ϝ:=by unfold BL;rw [List.getD_eq_getElem?_getD,List.getElem?_eq_none a];simp
def UN (ws:List Nat) (b n cap from_:Nat) (w:Ϣ) (I:ws.length=n) (A:w.heap[b]?=ς (χ (CO ws) 208 (0,0))) (hl:ws.length<=1000000) (N:from_<=1000000) (z:Iw ws) (y:TabAt 0 Lib.deBruijn64tab w) :
  ϙ prog 130 #[σ (ς (π b 0)) n cap,ι from_] w (Wt ws from_ b w):=by
 subst I;have s:=Lh z;have B:=Lh y;have Hw:=Lh A;clear A z y;go_enter func130,ntmps130;go_wp2
 go_loop [5] (λi=>∃ k:Nat,from_<=k/\(k<=ws.length\/k=from_)/\i=ι k/\Hid (∀ i,64*from_<=i->i / 64<k->BL ws i=ϝ)) (λi=>ws.length - (intOf i).toNat)
 case atStart=>exact ⟨from_,Nr _,.inr rfl,rfl,λi h f=>by omega⟩
 case round=>
  obtain ⟨k,O,M,rfl,g⟩:=hrel;by_cases o:k<ws.length
  .have hx:=Hb s.o o
   have K:w.cell? (π b k)=ς (.int .u64 (ws.getD k 0:Nat)):=by rw [cell_of_row _ _ _ _ _ _ Hw.o];exact KI o
   have L:w.frozen? (π b k)=ϝ:=Fz Hw.o;by_cases a:ws.getD k 0=0
   .have aN:(((ws.getD k 0:Nat):Int) != 0)=ϝ:=by rw [a];rfl
    have F:Hid (∀ i,64*from_<=i->i / 64<k+1->BL ws i=ϝ):=λi p f=>by
     by_cases H:i / 64=k
     .exact Pn a i H
     .exact g i p ω
    generalize q:ws.getD k 0=x at *
    clear q a;go_wp2;go_round
    case rel=>exact ⟨k+1,ω,.inl ω,by go_num,F⟩
    case measure=>simp [intOf];omega
   .have aN:(((ws.getD k 0:Nat):Int) != 0)=ϑ:=by rw [bne_iff_ne];omega
    obtain ⟨_,v⟩:=Lib.lowest_bit 64 _ a hx;have t:=Vk _ a hx;have d:(64*k+Lib.ctz 64 (ws.getD k 0)) / 64=k:=ω;have m:(64*k+Lib.ctz 64 (ws.getD k 0)) % 64=Lib.ctz 64 (ws.getD k 0):=ω;have l:=λj=>SF (ws:=ws) (i:=64*k+Lib.ctz 64 (ws.getD k 0)) (by rw [d];exact o) j;rw [d,m] at l;have u:BL ws (64*k+Lib.ctz 64 (ws.getD k 0))=ϑ:=by unfold BL;rw [d,m];exact t
    have J:Hid (bits .andNot .u64 ((ws.getD k 0:Nat):Int) (IntKind.u64.wrap (2 ^ (Lib.ctz 64 (ws.getD k 0))))=((ws.getD k 0 &&& (18446744073709551615 - 2 ^ (Lib.ctz 64 (ws.getD k 0))):Nat):Int)):=by show _=_;rw [PN _ v,Hv _ _ hx (MZ _ v)]
    have G:=Lh (U7 _ hx a w B.o);have E:ws.getD k 0 &&& (18446744073709551615 - 2 ^ (Lib.ctz 64 (ws.getD k 0)))<18446744073709551616:=Nat.lt_of_le_of_lt Nat.and_le_left hx;have C:=Lh l;have D:=Lh u;clear l u t d m a;generalize r:Lib.ctz 64 (ws.getD k 0)=c at *
    generalize q:ws.getD k 0=x at *
    clear q r;go_wp2_with fail;refine G.o.mono ?_;rintro e w' ⟨rfl,rfl⟩;go_wp2_with fail
    go_region
    go_wp2;go_ret;refine .inr ⟨64*k+c,ws.set k (x &&& (18446744073709551615 - 2 ^ c)),by go_num,ω,ω,D.o,λj p f=>g j p ω,ψ,GL s.o _ E,C.o,J9,?_⟩;rw [J.o];show ((w.setCell (π b k) (.int .u64 ((x &&& (18446744073709551615 - 2 ^ c):Nat):Int))).heap)[b]?=_;rw [ϡ _ _ _ _ _ _ Hw.o,JR]
  .go_wp2
   go_ret;exact .inl ⟨rfl,rfl,λi h=>by
    by_cases f:i / 64<k
    .exact g i h f
    .exact SG i ω⟩
def Cx:(prog.info? 3).map (λi=>(i.zero,i.size,i.bytes))=ς (ς (ι 0),1,8):=by kernel_rfl
def Jh:(prog.info? 3).map (·.size)=ς 1:=by kernel_rfl
def ES (n k:Nat) (v:Int):List ϒ:=ϱ k (ι v)++ϱ (n - k) (ι 0)
def MI (W:Ϣ) (n:Nat) (f:n<=1048576):(Instr.makeSlice 22 (ι (n:Int)) (ι (n:Int))).run prog W=.ok (σ (ς (π W 0)) n n) (W.alloc (χ (ES n 0 0).toArray 3)):=by
 obtain ⟨i,e,b,c,d⟩:=info_parts Cx;have h:=run_make W 22 3 i (ι 0) underlying22 e b .i64 .i64 (n:Int) (n:Int) ω ω (by rw [d];omega) ω;rw [h,c];have:madeCells (Value.int .i64 0).cells ((n:Int).toNat*1)=(ES n 0 0).toArray:=by
  apply Array.ext_getElem?;intro j;simp [madeCells,Value.cells,ES,Nat.mod_one];rw [Array.getElem?_replicate];by_cases a:j<n
  .rw [if_pos a,Array.getElem?_eq_getElem (by simpa using a)];rfl
  .rw [if_neg a,Array.getElem?_eq_none φ];rfl
 rw [this];simp
def ON (W:Ϣ) (g n k m:Nat) (v:Int) (a:Addr) (f d c b:Nat) (o:TypeId) (s:k<=n) (r:m=Nat.min c b) (q:k+m<=n) (p:W.heap[g]?=ς (χ (ES n k v).toArray 3 (0,0)))
  (i:∀ j,j<m->W.cell? (a.add j)=ς (ι v)) :
  (Builtin.copy_ #[22,22] o #[σ (ς (π g k)) b d,σ (ς a) c f]).run prog W=.ok (ι (m:Int)) (W.setRow g (ES n (k+m) v).toArray):=by
 have h:=run_copy_row (P:=prog) W 22 22 o 3 g k b d a c f (ES n k v).toArray 3 (ϱ m (ι v)) underlying22 Jh p (by simpa using r)
  (λj u l=>by
   rw [List.getElem?_replicate] at l;split at l
   .simp at l;subst l;exact i j (by assumption)
   .cases l) (by simp [ES];omega) (by simp [Value.oneCell'])
 rw [h];have:((ES n k v).toArray.toList.take k++ϱ m (ι v)++(ES n k v).toArray.toList.drop (k+(ϱ m (Value.int .i64 v)).length))=ES n (k+m) v:=by unfold ES;rw [List.take_left' ψ,List.drop_append,List.drop_eq_nil_of_le ψ];simp only [List.length_replicate,List.nil_append,List.drop_replicate,List.replicate_append_replicate];have e:n - k - (k+m - k)=n - (k+m):=ω;rw [e]
 rw [this];simp [goInt]
def Xm (n:Nat) (v:Int) (w:Ϣ) (e:Ending) (w':Ϣ):Prop:=
 ∃ g,e=.returned (σ (ς (π g 0)) n n)/\(w:Nat)<=g/\w'.heap[g]?=ς (χ (ϱ n (Value.int .i64 v)).toArray 3 (0,0))/\ϐ w w w'
def Oq (n:Nat) (c:n<=1048576) (w:Ϣ):ϙ prog 154 #[.int .u64 1,.int .u64 (n:Int)] w λe w'=>e=.returned (.tuple #[.int .u64 0,.int .u64 (n:Int)])/\w=w':=by
 refine (bits_Mul 1 n ω ω w).mono ?_;rintro e w' ⟨rfl,rfl⟩;have a:1*n / 18446744073709551616=0:=ω;have b:1*n % 18446744073709551616=n:=ω;rw [a,b];exact ⟨rfl,rfl⟩
def WI (h:j<k) (v:Int):(ES n k v)[j]?=ς (ι v):=by
 unfold ES;rw [Al (by simpa using h),List.getElem?_replicate,if_pos h]
def QU (n:Nat) (v:Int) (c:Nat) (w:Ϣ) (p:1<=n) (a:n<=1048576) (A:w.cell? (π c 0)=ς (ι v)) :
  ϙ prog 128 #[σ (ς (π c 0)) 1 1,ι (n:Int)] w (Xm n v w):=by
 have y:=λW=>MI W n a;have q:(ES n 0 0)=ES n 0 v:=by simp [ES]
 have g:=ON (w.alloc (χ (ES n 0 0).toArray 3)) w n 0 1 v (π c 0) 1 n 1 n 3 ω (Nat.min_eq_left p).symm ω (by rw [Hn,q]) (λj o=>by
  obtain rfl:j=0:=ω;exact AB (AA _ _) A)
 have C:=θ ((n:Int)<0);have B:=θ (9223372036854775807<(n:Int));have f:ϐ w w ((w.alloc (χ (ES n 0 0).toArray 3)).setRow (w:Nat) (ES n 1 v).toArray):=below_setRow (AA _ _) (Nr _) _;have h:((w.alloc (χ (ES n 0 0).toArray 3)).setRow (w:Nat) (ES n 1 v).toArray).heap[(w:Nat)]?=ς (χ (ES n 1 v).toArray 3 (0,0)):=setRow_heap _ _ _ _ _ _ (Hn _ _);have d:=Lh h;simp only [Nat.zero_add] at g;clear h q;go_enter func128,ntmps128;go_wp2_with fail;refine (Oq n a w).mono ?_;rintro e w' ⟨rfl,rfl⟩;go_wp2_with fail;go_loopw [8] (λi wr=>∃ k:Nat,1<=k/\k<=n/\i=ι k/\Hid (wr.heap[(w:Nat)]?=ς (χ (ES n k v).toArray 3 (0,0)))/\ϐ w w wr) (λi _=>n - (intOf i).toNat)
 case atStart=>exact ⟨1,Nr _,p,rfl,d,f⟩
 case round=>
  obtain ⟨k,u,z,rfl,b,l⟩:=hrel;by_cases D:k<n
  .have aG:=ON wr.drew w n k (Nat.min k (n - k)) v (π w 0) n (n - k) k (n - k) 3 z rfl (by have:=Nat.min_le_right k (n - k);show k+min k (n - k)<=n;omega) b.o (λj o=>by
    have:j<k:=Nl o (Nat.min_le_left _ _);have r:((π w 0):Addr).add j=(π w j):=by unfold Addr.add;split<;>simp_all
    rw [r];show wr.cell? _=_;rw [cell_of_row _ _ _ _ _ _ b.o];simpa using WI this v)
   have t:Hid ((wr.drew.setRow (w:Nat) (ES n (k+Nat.min k (n - k)) v).toArray).heap[(w:Nat)]?=ς (χ (ES n (k+Nat.min k (n - k)) v).toArray 3 (0,0))):=setRow_heap _ _ _ _ _ _ b.o;have s:ϐ w w (wr.drew.setRow (w:Nat) (ES n (k+Nat.min k (n - k)) v).toArray):=below_setRow l.drew (Nr _) _;have E:1<=Nat.min k (n - k):=Nat.le_min.2 ⟨u,ω⟩;have x:k+Nat.min k (n - k)<=n:=by have:=Nat.min_le_right k (n - k);show k+min k (n - k)<=n;omega
   generalize Nat.min k (n - k)=m at *
   clear g y f d;go_wp2_with fail
   go_region
   go_roundw
   case rel=>(repeat apply Exists.intro);exact ⟨⟨k+m,ω,x,by go_num,t,s⟩,rfl⟩
   case measure=>simp [intOf];omega
  .obtain rfl:k=n:=ω
   go_wp2;go_ret;exact ⟨(w:Nat),rfl,Nr _,by rw [b.o];simp [ES],l⟩
def Ad (hs:List Int):Array ϒ:=(hs.map (Value.int .i64)).toArray
def DC (h:hs[k]?=ς v):(Ad hs)[k]?=ς (ι v):=by simp [Ad,h]
def D6 (hs:List Int) (k:Nat) (y:Int):(Ad hs).setIfInBounds k (ι y)=Ad (hs.set k y):=by simp [Ad,List.setIfInBounds_toArray,List.map_set]
structure GQ (wr:Ϣ) (bh bt:Nat) (hs:List Int) (ws:List Nat):Prop where
 h:wr.heap[bh]?=ς (χ (Ad hs) 3 (0,0))
 t:wr.heap[bt]?=ς (χ (CO ws) 208 (0,0))
 words:Iw ws
 ne:bh≠bt
def PU (c:AQ) (f:BK) (hs:List Int) (ws:List Nat) (a:ϒ) (gk:Nat):Prop:=
 (a=ι (-1)/\KL c f hs (BL ws) (λ_=>False)/\∀ i,BL ws i=ϝ)\/
 ∃ (i:Nat) (v:Int),a=ι i/\KL c f hs (BL ws) (λj=>j=i)/\hs[i]?=ς v/\0<=v/\(∀ j,BL ws j=ϑ->i / 64<=j / 64)/\2*JF hs+GG (BL ws) f.code.length<gk
structure N2 (c:AQ) (f:BK) (hs:List Int) (ws:List Nat) (i:Nat) (v n:Int) (l:List Nat) (j wd M:Nat):Prop where
 lab:KL c f hs (BL ws) (λq=>q=i)
 at_:hs[i]?=ς v
 words:∀ q,BL ws q=ϑ->wd<=q / 64
 so:∀ t k,t<j->l[t]?=ς k->hs[k]?=ς n
 less:2*JF hs+GG (BL ws) f.code.length<=M
def UF (h:KL c f hs (BL ws) (λ_=>False)) (n:∀ q,BL ws q=ϑ->wd<=q / 64) (o:2*JF hs+GG (BL ws) f.code.length<=M)
  (d:BL ws i=ϑ) (l:∀ j,64*wd<=j->j / 64<i / 64->BL ws j=ϝ) (b:∀ j,BL ws' j=(BL ws j && !decide (j=i))):PU c f hs ws' (ι i) M:=by
 obtain ⟨v,e,k⟩:=h.bit i d;have m:i<f.code.length:=by rw [<-h.len];exact (Ll e)
 refine .inr ⟨i,v,rfl,h.take b,e,k,λj a=>?_,?_⟩
 .rw [b] at a
  simp at a;by_cases g:j / 64<i / 64
  .rw [l j (by have:=n j a.1;omega) g] at a;simp at a
  .omega
 .have:=Ty m d b;omega
def UG (h:KL c f hs (BL ws) (λ_=>False)) (d:∀ q,BL ws q=ϑ->wd<=q / 64) (b:∀ j,64*wd<=j->BL ws j=ϝ):PU c f hs ws (ι (-1)) M:=by
 refine .inl ⟨rfl,h,λi=>?_⟩;cases a:BL ws i with
 | false=>rfl
 | true=>rw [b i (by have:=d i a;omega)] at a;cases a
def N2.start (n:Int) (l:List Nat) (h:KL c f hs (BL ws) (λj=>j=i)) (b:hs[i]?=ς v) (d:∀ j,BL ws j=ϑ->i / 64<=j / 64) (a:2*JF hs+GG (BL ws) f.code.length<=M):N2 c f hs ws i v n l 0 (i / 64) M:=
 ⟨h,b,d,λt k e=>by omega,a⟩
def N2.same {n:Int} (h:N2 c f hs ws i v n l j wd M) (d:l[j]?=ς k) (a:hs[k]?=ς n):N2 c f hs ws i v n l (j+1) wd M:=
 ⟨h.lab,h.at_,h.words,λt q g b=>by
  by_cases e:t=j
  .subst e;rw [d] at b;cases b;exact a
  .exact h.so t q ω b,h.less⟩
def N2.label (s:Pg c f) (r:f.code[i]?=ς x) (g:0<=v) (y:AM c f x<=v)
  (h:N2 c f hs ws i v (v - AM c f x+AK c f x) (Am x i) j wd M) (o:(Am x i)[j]?=ς k) (a:hs[k]?=ς (-1)) (l:∀ q,BL ws' q=(BL ws q || decide (q=k))) :
  N2 c f (hs.set k (v - AM c f x+AK c f x)) ws' i v (v - AM c f x+AK c f x) (Am x i) (j+1) (min wd (k / 64)) M:=by
 have z:=s.pushes x (Lm r);have w:∀ (q:Nat) u,hs[q]?=ς u->0<=u->k≠q:=λq u d p e=>by subst e;rw [a] at d;cases d;omega
 have m:∀ (q:Nat) u,hs[q]?=ς u->0<=u->(hs.set k (v - AM c f x+AK c f x))[q]?=ς u:=λq u d p=>by rw [List.getElem?_set,if_neg (w q u d p)];exact d
 refine ⟨h.lab.label s h.at_ g r y (Lm o) a l,m _ _ h.at_ g,λq b=>?_,λt q B b=>?_,?_⟩
 .rw [l] at b
  simp at b;rcases b with b|rfl
  .exact Nt (Nat.min_le_left _ _) (h.words q b)
  .exact Nat.min_le_right _ _
 .by_cases e:t=j
  .subst e;rw [o] at b;cases b
   exact List.getElem?_set_self (Ll a)
  .exact m _ _ (h.so t q ω b) ω
 .have h1:=Ot (v:=v - AM c f x+AK c f x) a ω ω
  have A:=OL (n:=f.code.length) l;have:=h.less;omega
def N2.done (g:f.code[i]?=ς x) (b:AM c f x<=v) (d:x.op=10->v<=AM c f x)
  (h:N2 c f hs ws i v (v - AM c f x+AK c f x) (Am x i) j wd M) (l:(Am x i).length<=j):KL c f hs (BL ws) (λ_=>False):=
 h.lab.put h.at_ ⟨x,g,b,d,λk a=>by
  obtain ⟨t,e,rfl⟩:=List.getElem_of_mem a;exact h.so t _ ω (Lg e)⟩
def N2.clash (l:f.code[i]?=ς x) (d:0<=v)
  (h:N2 c f hs ws i v (v - AM c f x+AK c f x) (Am x i) j wd M) (e:(Am x i)[j]?=ς k) (a:hs[k]?=ς u) (g:0<=u) (b:u≠v - AM c f x+AK c f x):¬CQ c f:=
 λhs=>b (hs.2 k _ _ (h.lab.reach k u a g) ((h.lab.reach i v h.at_ d).next l (Lm e)))
def EZ {s:Nat->Prop} (h:KL c f hs T s) (l:hs[i]?=ς v) (b:0<=v) (m:f.code[i]?=ς x)
  (a:¬(AM c f x<=v/\(x.op=10->v<=AM c f x)/\∀ k∈Am x i,k<f.code.length)):¬CQ c f:=λhs=>by
 obtain ⟨y,d,e,g,j⟩:=hs.1 i v (h.reach i v l b);rw [m] at d;cases d;exact a ⟨e,g,j⟩
def UI:(prog.info? 208).map (λi=>(i.zero,i.size,i.bytes))=ς (ς (.int .u64 0),1,8):=by kernel_rfl
def QG (W:Ϣ) (n:Nat) (f:n<=1048576):(Instr.makeSlice 180 (ι (n:Int)) (ι (n:Int))).run prog W=.ok (σ (ς (π W 0)) n n) (W.alloc (χ (CO (ϱ n 0)) 208)):=by
 obtain ⟨i,e,b,c,d⟩:=info_parts UI;have h:=run_make W 180 208 i (.int .u64 0) underlying180 e b .i64 .i64 (n:Int) (n:Int) ω ω (by rw [d];omega) ω;rw [h,c];have:madeCells (Value.int .u64 0).cells ((n:Int).toNat*1)=CO (ϱ n 0):=by
  apply Array.ext_getElem?;intro j;simp [madeCells,Value.cells,CO,Nat.mod_one];rw [Array.getElem?_replicate];by_cases a:j<n
  .rw [if_pos a,Array.getElem?_eq_getElem (by simpa using a)];rfl
  .rw [if_neg a,Array.getElem?_eq_none φ];rfl
 rw [this];simp
def OE (n i:Nat):BL (ϱ n 0) i=ϝ:=by
 unfold BL;rw [List.getD_eq_getElem?_getD,List.getElem?_replicate];split<;>simp
def KJ (n:Nat):Iw (ϱ n 0):=λx a=>by rw [List.eq_of_mem_replicate a];omega
def Xi (c:AQ) (f:BK) (w:Ϣ) (e:Ending) (w':Ϣ):Prop:=
 (∃ (k err:Int),e=.returned (.tuple #[ν,ι k,ι err])/\err≠0/\in64 err/\¬CQ c f/\ϐ w w w')\/
 ∃ g hs,e=.returned (.tuple #[σ (ς (π g 0)) f.code f.code.length,ι 0,ι 0])/\(w:Nat)<=g/\w'.heap[g]?=ς (χ (Ad hs) 3 (0,0))/\CQ c f/\DB c f hs/\ϐ w w w'
def Tr (w:Ϣ) (base:Nat) (v:ϒ) (l:List Int) (b:w.ownsRow base 3 1 v l.length (l.map (Value.int .i64))) (d:Addr) (y:Int) (q:w.cell? d=ς (ι y)) (hl:l.length<1000000) (a:base<=w) (f:TypeId) :
  ∃ c w',(Builtin.append_ #[22,22] f #[v,σ (ς d) 1 1]).run prog w=.ok c w'/\w'.ownsRow base 3 1 c (l++[y]).length ((l++[y]).map (Value.int .i64))/\w.grownBy w' v.ownBlock:=by
 obtain ⟨i,p,g,h,k⟩:=info_parts Cx;obtain ⟨c,w',m,n,o,_⟩:=run_append_own (P:=prog) w base 22 f 3 i (ι 0) 1 8 underlying22 p g h k rfl δ v l.length (l.map (Value.int .i64)) b d 1 1 [ι y] rfl
  (λj u e=>by
   cases j with
   | zero=>simp at e;subst e;exact q
   | succ j=>simp at e) (by simp [Value.oneCell']) (by unfold maxLen;omega) ω a
 exact ⟨c,w',m,by simpa using n,o⟩
def Fk {d:Array Oper} {rest:List Oper} {o:Oper} {a:Act} {Q:Exit->Act->Ϣ->Prop} (g:o.guard=none) (s x:Operand) (m:o.op=.call { callee:=.builtin .append,args:=#[s,x],argTypes:=#[22,22] })
  (base:Nat) (v:ϒ) (l:List Int) (hs:a.eval s=v) (c:w.ownsRow base 3 1 v l.length (l.map (Value.int .i64))) (f:Addr) (y:Int) (p:a.eval x=σ (ς f) 1 1) (q:w.cell? f=ς (ι y)) (hl:l.length<1000000) (b:base<=w)
  (h:∀ e w',w'.ownsRow base 3 1 e (l++[y]).length ((l++[y]).map (Value.int .i64))->w.grownBy w' v.ownBlock->wpList prog d Q rest (a.put o.dst e) w'):wpList prog d Q (o::rest) a w:=by
 refine wpList_plain g λK k=>?_;obtain ⟨e,w',n,i,j⟩:=Tr w base v l c f y q hl b o.type;unfold Oper.wp execOp;simp only [m,resolve,invoke,builtin,Sem.run_bind,Sem.run_pure,Result.andThen_ok,List.map_toArray,List.map_cons,List.map_nil,hs,p,n];exact k _ _ (h e w' i j)
def LX {v:ϒ} {l:List Int} (h:w.ownsRow base 3 1 v l.length (l.map (Value.int .i64))) :
  ∃ sa a,v=σ sa l a/\(l=[]\/∃ g,sa=ς (π g 0)/\base<=g/\g<(w:Nat)/\∀ j y,l[j]?=ς y->w.cell? (π g j)=ς (ι y)):=by
 rcases h.2 with ⟨rfl,d⟩|⟨g,a,k,rfl,e,c,_,_,_,f⟩
 .exact ⟨none,0,by rw [d],.inl (List.eq_nil_of_length_eq_zero d)⟩
 .refine ⟨_,a,rfl,.inr ⟨g,rfl,e,(La c),λj y i=>?_⟩⟩
  rw [cell_of_row _ _ _ _ _ _ c];have b:(l.map (Value.int .i64))[j]?=ς (ι y):=by simp [i]
  rw [<-f,List.getElem?_take] at b;split at b
  .simpa using b
  .cases b
def Ch (wi:Ϣ) (sa:Option Addr) (l:List Nat) (bh bt:Nat):Prop:=
 l=[]\/∃ g,sa=ς (π g 0)/\g≠bh/\g≠bt/\g<(wi:Nat)/\∀ (j k:Nat),l[j]?=ς k->wi.cell? (π g j)=ς (ι (k:Int))
def Ch.kept {b:Ϣ} {y:ϒ} (h:Ch b sa l bh bt) (m:(b:Nat)<=(b.setCell (π bh k) y).heap.size) (i:(b.setCell (π bh k) y).grownBy w' (ς bt)):Ch w' sa l bh bt:=by
 rcases h with h|⟨g,n,c,d,f,o⟩
 .exact .inl h
 .refine .inr ⟨g,n,c,d,Nl (Nl f m) i.size,λj q p=>?_⟩
  have e:w'.heap[g]?=b.heap[g]?:=by rw [i.block g (Nl f m) (λe=>d (by cases e;rfl)),heap_setCell_other _ _ _ _ c]
  rw [World.cell?_of_block (w:=b) (a:=(π g j)) e];exact o j q p
def Ch.of {l:List Int} {a:List Nat} (h:l=[]\/∃ g,sa=ς (π g 0)/\base<=g/\g<(w:Nat)/\∀ (j:Nat) y,l[j]?=ς y->w.cell? (π g j)=ς (ι y)) (hl:l=a.map Int.ofNat) (f:bh<base) (i:bt<base):Ch w sa a bh bt:=by
 subst hl;rcases h with h|⟨g,b,m,c,d⟩
 .exact .inl (by simpa using h)
 .exact .inr ⟨g,b,ω,ω,c,λj k e=>d j k (by simp [e])⟩
def YE (c:AQ) (f:BK) (hs:List Int) (n bh bt M:Nat) (w:Ϣ) (e:Ending) (w':Ϣ):Prop:=
 ∃ a ws',e=.returned a/\PU c f hs ws' a M/\GQ w' bh bt hs ws'/\ws'.length=n/\w.grownBy w' (ς bt)
def JG (c:AQ) (f:BK) (hs:List Int) (ws:List Nat) (bh bt n cap wd M:Nat) (w:Ϣ) (b:ws.length=n) (t:C8 w) (a:GQ w bh bt hs ws) (hl:ws.length<=1000000) (v:wd<=1000000) (h:KL c f hs (BL ws) (λ_=>False)) (j:∀ q,BL ws q=ϑ->wd<=q / 64) (u:2*JF hs+GG (BL ws) f.code.length<=M) :
  ϙ prog 130 #[σ (ς (π bt 0)) n cap,ι wd] w (YE c f hs n bh bt M w):=by
 refine (UN ws bt n cap wd w b a.t hl v a.words t.tz).mono ?_;rintro e w' (⟨rfl,rfl,d⟩|⟨i,k,rfl,d,x,l,m,o,p,r,g,s⟩)
 .exact ⟨_,ws,rfl,UG h j d,a,b,⟨rfl,rfl,rfl,Nr _,λ_ _ _=>rfl⟩⟩
 .refine ⟨_,k,rfl,UF h j u l m r,⟨?_,s,p,a.ne⟩,o.trans b,g⟩
  rw [g.block bh (La a.h) (λe=>a.ne (by cases e;rfl))];exact a.h
def Ck {B:Nat} {a:Ϣ} (h:ϐ B a w) (e:w.grownBy w' (ς b)) (c:B<=w) (d:B<=b):ϐ B a w':=h.grown e c (λk f=>by cases f;exact d)
def KA (c:AQ) (cv:ϒ) (f:BK) (fv:ϒ) (B:Nat) (w:Ϣ) (hL:C8 w) (hB:B<=w) (hc:BF B w cv c) (hf:EI B w fv f) (wf:Pg c f) :
  ϙ prog 86 #[cv,fv] w (Xi c f w):=by
 obtain ⟨HC,HF,HL,S⟩:=Λ4 hc hf hL wf;have fV:=wf.one;have fW:=wf.most;obtain ⟨gB,gC,rfl,fN,fO,-⟩:=hc;obtain ⟨ca,cH,rfl,-,-,-,-⟩:=fN;obtain ⟨cb,bJ,rfl,-,-,-,-⟩:=fO;obtain ⟨kv,rfl,A,-,-,-⟩:=hf;obtain ⟨ka,cL,rfl,bW,fS,fT,dJ⟩:=A;have HK:=Lh dJ;have fU:∀ W,(Instr.makeSlice 180 (ι ((f.code:Int) / 64+1)) (ι ((f.code:Int) / 64+1))).run prog W=.ok (σ (ς (π W.heap.size 0)) (f.code.length / 64+1) (f.code.length / 64+1)) (W.alloc (χ (CO (ϱ (f.code.length / 64+1) 0)) 208)):=by intro W;have:=QG W (f.code.length / 64+1) ω;have e:((f.code.length / 64+1:Nat):Int)=(f.code:Int) / 64+1:=ω;rw [e] at this;exact this
 clear hL wf dJ;go_enter func86,ntmps86;go_wp2_with fail;obtain ⟨D,cM⟩:=ε (((w.alloc (χ (Bc ca cH cb bJ c) 25)).alloc (χ #[.string f.name,ι f.params,ι f.L,.bool f.result,σ ka f.code cL] 70)));have L:ϐ w w D:=by rw [cM];exact (Br.alloc (Nr _) _).alloc ψ _
 have cV:(D:Nat)=(w:Nat)+1+1:=by rw [cM];simp
 have dV:Hid (AR D w [σ ca c.H cH,ι c.G,σ cb c.funcs bJ]):=by rw [cM];exact AF.alloc _
 have cU:Hid (AR D (w+1) [.string f.name,ι f.params,ι f.L,.bool f.result,σ ka f.code cL]):=by have:=AF (w:=w.alloc (χ (Bc ca cH cb bJ c) 25)) (vs:=#[.string f.name,ι f.params,ι f.L,.bool f.result,σ ka f.code cL]) (T:=70);rw [cM];exact (by simpa using this:AR _ _ _)
 rw [<-cM];have cQ:=Lh cV;clear cM cV;refine (QU f.code.length (-1) _ _ fV fW (by rw [<-cQ.o,B6];rfl)).mono ?_;rintro e w1 ⟨bh,rfl,fK,hh,eN⟩;have dW:=As eN;have fL:(D:Nat)<bh:=by simp at fK;omega
 have cX:=(La hh)
 have fM:∀ o,(w1.alloc o).cell? (π bh 0)=ς (ι (-1)):=λo=>AB (AA _ _) (by rw [cell_of_row _ _ _ _ _ _ hh,List.getElem?_toArray,List.getElem?_replicate,if_pos ω]);have fP:∀ o,(w1.alloc o).frozen? (π bh 0)=ϝ:=λo=>Fz (by rw [Ha _ _ _ cX];exact hh);have Hh:=Lh hh;clear hh;go_wp2_with fail;obtain ⟨W4,cN⟩:=ε (((w1.setCell (π bh 0) (ι 0)).alloc (χ (CO (ϱ (f.code.length / 64+1) 0)) 208)));have eP:W4.heap[(w1:Nat)]?=ς (χ (CO (ϱ (f.code.length / 64+1) 0)) 208 (0,0)):=by have:=Hn (w1.setCell (π bh 0) (ι 0)) (χ (CO (ϱ (f.code.length / 64+1) 0)) 208);rw [cN];simpa using this
 have cY:W4.heap[bh]?=ς (χ (Ad ((ϱ f.code.length (-1)).set 0 0)) 3 (0,0)):=by
  rw [cN,Ha _ _ _ (by simpa using cX),ϡ _ _ _ _ _ _ Hh.o];have:(ϱ f.code.length (Value.int .i64 (-1))).toArray=Ad (ϱ f.code.length (-1)):=by simp [Ad]
  rw [this,D6]
 have dF:ϐ D D W4:=by rw [cN];exact (dW.setCell (p:=(π bh 0)) (by show _<=bh;omega) _).alloc (by simpa using dW.size) _
 have fA:(w1:Nat)<W4:=by rw [cN];simp
 have fI:=HL.o.below (L.th dF);rw [<-cN];have eK:=Lh eP;have eJ:=Lh cY;clear cN eP cY fI fM fP fU Hh;refine (KU (ϱ (f.code.length / 64+1) 0) w1 _ _ 0 _ ψ eK.o ψ φ (KJ _)).mono ?_;rintro e w5 ⟨rfl,dI,fD⟩;have hT:∀ j,BL ((ϱ (f.code.length / 64+1) 0).set (0 / 64) ((ϱ (f.code.length / 64+1) 0).getD (0 / 64) 0 ||| 2 ^ (0 % 64))) j=decide (j=0):=λj=>by rw [I7 ψ,OE];simp
 have dD:Iw ((ϱ (f.code.length / 64+1) 0).set (0 / 64) ((ϱ (f.code.length / 64+1) 0).getD (0 / 64) 0 ||| 2 ^ (0 % 64))):=GL (KJ _) _ (by simp [List.getD_eq_getElem?_getD]);have eW:((ϱ (f.code.length / 64+1) 0).set (0 / 64) ((ϱ (f.code.length / 64+1) 0).getD (0 / 64) 0 ||| 2 ^ (0 % 64))).length=f.code.length / 64+1:=by simp
 generalize (ϱ (f.code.length / 64+1) 0).set (0 / 64) ((ϱ (f.code.length / 64+1) 0).getD (0 / 64) 0 ||| 2 ^ (0 % 64))=ws5 at *
 have eY:GQ w5 bh w1 ((ϱ f.code.length (-1)).set 0 0) ws5:=⟨by rw [dI.block bh ω (λe=>by simp at e;omega)];exact eJ.o,fD,dD,ω⟩
 have bZ:=KL.start S.o (BL ws5) hT;generalize (ϱ f.code.length (-1:Int)).set 0 0=hl0 at *
 have dG:=Ck dF dI dF.size ω;have fB:=Nl fA dI.size;have eG:=Lh (HL.o.below (L.th dG));have eH:=Lh eY;have bX:=Lh bZ;have dP:=Lh eW;clear dI fD hT dD eW eY bZ eK eJ;go_wp2_with fail;refine (JG c f hl0 ws5 bh w1 _ _ 0 (2*JF hl0+GG (BL ws5) f.code.length) _ dP.o eG.o eH.o (by rw [dP.o];omega) ω bX.o (λq _=>Nat.zero_le _) (Nr _)).mono ?_;rintro e w6 ⟨a,gA,rfl,dN,eZ,eX,dX⟩;have fJ:=Ck dG dX dG.size ω;have fX:=Nl fB dX.size;have fF:=Lh eX;generalize (w1:Nat)=bt at *
 have fH:=Lh dN;have fG:=Lh eZ;clear dX eX eH bX dP eG dW dN eZ eN dF dG fA fB;go_wp2_with fail;go_loopg [10] (2*JF hl0+GG (BL ws5) f.code.length) (λgk a wr=>∃ hs ws,Hid (PU c f hs ws a gk)/\Hid (GQ wr bh bt hs ws)/\Hid (ws.length=f.code.length / 64+1)/\ϐ D D wr/\bt<wr)
 case atStart=>exact ⟨hl0,gA,fH,fG,fF,fJ,fX⟩
 case round=>
  obtain ⟨hs,ws,dN,hm,dO,bH,eO⟩:=hrel;rcases dN.o with ⟨rfl,bF,hT⟩|⟨i,v,rfl,bF,hv,bR,hw,hM⟩
  .obtain ⟨hS,hH⟩:=bF.fin S.o hT
   have HS:=Lh hS;have HH:=Lh hH;clear bF hT hS hH;go_wp2_with fail
   go_ret3
   exact .inr ⟨bh,hs,rfl,Nt L.size ω,hm.o.h,HS.o,HH.o,L.th bH⟩
  .have fQ:i<f.code.length:=by rw [<-bF.len];exact (Ll hv)
   obtain ⟨x,hx⟩:∃ x,f.code[i]?=ς x:=⟨_,Lg fQ⟩
   have cO:=L.th bH;rcases HK.o with h|⟨kb,ko,rfl,fR,dJ⟩
   .rw [h] at hx;simp at hx
   obtain ⟨x0,x1,eD⟩:=(dJ i x hx).below (cO.mono hB) fR;have gI:(w:Nat)+1<wr:=by have h1:=bH.size;have h2:=cQ.o;omega
   have gH:(w:Nat)<wr:=ω;have c0:=Δ5 bH (dV.o 0 _ rfl) (dV.o 1 _ rfl) (dV.o 2 _ rfl) (cU.o 0 _ rfl) (cU.o 1 _ rfl);have f2:=Δ3 bH (cU.o 2 _ rfl) (cU.o 3 _ rfl) (cU.o 4 _ rfl);obtain ⟨K,bT,HV,Hw⟩:=Λ4 hx bF hv hw;clear hx bF hv hw;have eL:=Lh (HC.o.below ((cO.th (AA wr (χ #[ι x.op,ι x.a] 96))).mono hB));have eM:=Lh (HF.o.below ((cO.th (AA wr (χ #[ι x.op,ι x.a] 96))).mono hB));have bG:=Lm K.o;go_wp2_with fail;refine (SW c _ f _ x _ B _ (by simp;have:=cO.size;omega) eL.o eM.o ⟨rfl,eD⟩ (S.o.op x bG).1 (S.o.op x bG).2 (S.o.call x bG)).mono ?_;rintro e H ⟨rfl,dH⟩;have bD:=As dH;have eB:GQ H bh bt hs ws:=⟨by rw [bD.block bh ω];exact hm.o.h,by rw [bD.block bt eO];exact hm.o.t,hm.o.words,hm.o.ne⟩
   have bV:=bH.th bD;have V:=Nl eO bD.size;have q0:=Cc dH 0 _ rfl;have q1:=Cc dH 1 _ rfl;have cJ:H.cell? (π bh i)=ς (ι v):=by rw [cell_of_row _ _ _ _ _ _ eB.h];exact DC HV.o
   have hp:=S.o.pops x bG;have hq:=S.o.pushes x bG;have gF:v<=2*1048576:=by have:=bT.o.bound i v HV.o;rw [bT.o.len] at this;omega
   have J:=Lh eB;have eC:=λh=>Lh (EZ bT.o HV.o bR K.o h);obtain ⟨p,dL⟩:∃ p,AM c f x=p:=⟨_,rfl⟩
   obtain ⟨q,dM⟩:∃ q,AK c f x=q:=⟨_,rfl⟩
   rw [dL] at hp eC;rw [dM] at hq;rw [dL,dM];have G:=Lh dL;have HQ:=Lh dM;clear dL dM eB dH x0 x1 c0 f2 eL eM;have eI:=Lh eC;clear eC;by_cases h1:p<=v
   .by_cases bU:x.op=10/\p<v
    .have aK:=eI.o (λh=>by have:=h.2.1 bU.1;omega)
     have gD:(x.op == 10)=ϑ:=by rw [bU.1];rfl
     have gE:=bU.2;clear bU;go_wp2_with fail
     go_ret3
     exact .inl ⟨_,_,rfl,δ,⟨δ,δ⟩,aK.o,cO.th bD⟩
    .have hr:Hid (x.op=10->v<=p):=λh=>by by_cases h2:v<=p;exact h2;exact absurd ⟨h,ω⟩ bU
     have dE:=Lh (N2.start (v - AM c f x+AK c f x) (Am x i) bT.o HV.o Hw.o (Nr _));generalize 2*JF hs+GG (BL ws) f.code.length=M at *
     have dK:Hid (Am x i=(if x.op=10\/x.op=11 then [] else [i+1])++(if x.op=11\/x.op=12 then [x.a.toNat] else [])):=rfl;have dB:Hid (x.op=11\/x.op=12->0<=x.a/\x.a<f.code.length):=S.o.jump x bG;have cZ:x.op=10\/x.op=11\/x.op=12\/(x.op≠10/\x.op≠11/\x.op≠12):=ω;rcases cZ with m|m|m|m
     .-- a return: no successor
      have dQ:(x.op == 10)=ϑ:=by rw [m];rfl
      have dT:(x.op != 10)=ϝ:=by rw [m];rfl
      have dR:(x.op == 11)=ϝ:=by rw [m];rfl
      have dU:(x.op != 11)=ϑ:=by rw [m];rfl
      have dS:(x.op == 12)=ϝ:=by rw [m];rfl
      have gG:=hr.o m;have bQ:Hid (Am x i=[]):=by rw [dK.o,if_pos (.inl m),if_neg ω];rfl
      have cP:=Lh m;clear m bU;go_wp2_with fail;have cG:Hid (Ch H none (Am x i) bh bt):=.inl bQ.o;have aS:Hid ((Am x i).length=0):=by show _=_;rw [bQ.o];rfl
      have aY:=bV.th (Below.refl (H:Nat) H);have aZ:=Nl V ((Below.refl (H:Nat) H)).size;have cF:Hid (GQ H bh bt hs ws):=⟨by rw [((Below.refl (H:Nat) H)).block bh ω];exact J.o.h,by rw [((Below.refl (H:Nat) H)).block bt V];exact J.o.t,J.o.words,J.o.ne⟩
      have bB:i / 64<=1000000:=ω;go_loopg [110,9] 0 (λgj ix wd s=>∃ (j y:Nat) (r:List Int) (b:List Nat),0<=gj+j/\j<=0/\ix=ι j/\wd=ι y/\y<=1000000/\Hid (N2 c f r b i v (v - AM c f x+AK c f x) (Am x i) j y M)/\Hid (GQ s bh bt r b)/\Hid (b.length=f.code.length / 64+1)/\ϐ D D s/\bt<s/\Hid (Ch s none (Am x i) bh bt))
      case atStart=>exact ⟨0,i / 64,hs,ws,ω,ω,by rfl,by go_num,bB,dE,cF,dO,aY,aZ,cG⟩
      case round=>
       obtain ⟨s,rfl⟩:=ε (wr:Ϣ);obtain ⟨j,y,r,b,dZ,eA,rfl,rfl,bS,l,d,t,z,P,R⟩:=hrel;by_cases cK:j<0
       .exact absurd cK (Nat.not_lt_zero _)
       .have aG:=l.o.done K.o (by rw [G.o];exact h1) (by rw [G.o];exact hr.o) (by rw [aS.o];omega)
        have aO:=Lh aG;clear aG;have cD:=Lh (HL.o.below (L.th z));go_wp2_with fail;refine (JG c f r b bh bt _ _ y M _ t.o cD.o d.o (by rw [t.o];omega) bS aO.o l.o.words l.o.less).mono ?_;rintro e eF ⟨a',F,rfl,Y,bN,Z,N⟩;have cI:=Ck z N z.size ω;have E:=Nl P N.size;have aX:=Lh Y;have cE:=Lh bN;have cC:=Lh Z;clear Y bN Z N;go_wp2_with fail
        go_roundg M
        case measure=>exact hM
        case rel=>exact ⟨r,F,aX,cE,cC,cI,E⟩
     .-- a jump
      have dQ:(x.op == 10)=ϝ:=by rw [m];rfl
      have dT:(x.op != 10)=ϑ:=by rw [m];rfl
      have dR:(x.op == 11)=ϑ:=by rw [m];rfl
      have dU:(x.op != 11)=ϝ:=by rw [m];rfl
      have dS:(x.op == 12)=ϝ:=by rw [m];rfl
      have bQ:Hid (Am x i=[x.a.toNat]):=by rw [dK.o,if_pos (.inr m),if_pos (.inl m)];rfl
      have cP:=Lh m;clear m bU;go_wp2_with (at_builtin;refine Fk rfl (.tmp 95) (.tmp 98) rfl H ν [] rfl (World.ownsRow_nil _ _ _ _) (π H 0) x.a rfl (by exact (B6 _ _ _ 0)) δ ψ ?_;intro eE w8 U bY;have C:=(Br.alloc (Nr _) _).grown bY ψ (by intro k A;cases A);have fC:=C.size;have r0:=AB C q0;have r1:=AB C q1;have rh:=AB C cJ;simp only [List.nil_append] at U;obtain ⟨sa,scap,rfl,hrd⟩:=LX U;have cS:=Lh hrd;clear U bY q0 q1 cJ hrd);have cG:Hid (Ch w8 sa (Am x i) bh bt):=by rw [bQ.o];exact Ch.of cS.o (by have:=(dB.o (.inl cP.o)).1;simp;omega) ω V
      have aS:Hid ((Am x i).length=1):=by show _=_;rw [bQ.o];rfl
      have aY:=bV.th C;have aZ:=Nl V (C).size;have cF:Hid (GQ w8 bh bt hs ws):=⟨by rw [(C).block bh ω];exact J.o.h,by rw [(C).block bt V];exact J.o.t,J.o.words,J.o.ne⟩
      have bB:i / 64<=1000000:=ω;go_loopg [110,9] 1 (λgj ix wd s=>∃ (j y:Nat) (r:List Int) (b:List Nat),1<=gj+j/\j<=1/\ix=ι j/\wd=ι y/\y<=1000000/\Hid (N2 c f r b i v (v - AM c f x+AK c f x) (Am x i) j y M)/\Hid (GQ s bh bt r b)/\Hid (b.length=f.code.length / 64+1)/\ϐ D D s/\bt<s/\Hid (Ch s sa (Am x i) bh bt))
      case atStart=>exact ⟨0,i / 64,hs,ws,ω,ω,by rfl,by go_num,bB,dE,cF,dO,aY,aZ,cG⟩
      case round=>
       obtain ⟨s,rfl⟩:=ε (wr:Ϣ);obtain ⟨j,y,r,b,dZ,eA,rfl,rfl,bS,l,d,t,z,P,R⟩:=hrel;by_cases cK:j<1
       .obtain ⟨k,A⟩:∃ k,(Am x i)[j]?=ς k:=⟨_,Lg (by rw [aS.o];exact cK)⟩
        rcases R.o with h|⟨g,hg,eS,eT,eU,dA⟩
        .rw [h] at A;simp at A
        subst hg;have eV:=dA j k A;have O:=Lh A;clear A;by_cases bW:k<f.code.length
        .obtain ⟨u,hu⟩:∃ u,r[k]?=ς u:=⟨_,Lg (by rw [l.o.lab.len];exact bW)⟩
         have eQ:s.cell? (π bh k)=ς (ι u):=by rw [cell_of_row _ _ _ _ _ _ d.o.h];exact DC hu
         have eR:s.frozen? (π bh k)=ϝ:=Fz d.o.h;have fE:u<=2*1048576:=by have:=l.o.lab.bound k u hu;rw [l.o.lab.len] at this;omega
         by_cases dC:0<=u
         .by_cases aT:u=v - p+q
          .have X:=Lh (l.o.same O.o (by rw [G.o,HQ.o,<- aT];exact hu))
           have cT:(u != v - p+q)=ϝ:=by rw [aT];simp
           clear aT hu;go_wp2_with fail
           go_roundg (gk - 1)
           case measure=>omega
           case rel=>exact ⟨j+1,y,r,b,ω,ω,by go_num,rfl,bS,X,d,t,z,P,R⟩
          .have aK:=Lh (l.o.clash K.o bR O.o hu dC (by rw [G.o,HQ.o];exact aT))
           have cT:=bne_iff_ne.2 aT;clear aT hu;go_wp2_with fail
           go_ret3
           exact .inl ⟨_,_,rfl,δ,⟨δ,δ⟩,aK.o,L.th z⟩
         .obtain rfl:u = -1:=l.o.lab.neg k u hu ω
          have Hu:=Lh hu;clear hu;have Q:ϐ D D (s.setCell (π bh k) (ι (v - p+q))):=z.setCell (p:=(π bh k)) (by show _<=bh;omega) _;have cA:Hid (GQ (s.setCell (π bh k) (ι (v - p+q))) bh bt (r.set k (v - p+q)) b):=⟨by rw [ϡ _ _ _ _ _ _ d.o.h,D6],by rw [heap_setCell_other _ _ _ _ (λe=>d.o.ne e.symm)];exact d.o.t,d.o.words,d.o.ne⟩
          go_wp2_with fail;refine (KU b bt _ _ k _ t.o cA.o.t (by rw [t.o];omega) (by rw [t.o];omega) d.o.words).mono ?_;rintro e cB ⟨rfl,I,aV⟩;have X:=Lh (l.o.label S.o K.o bR (by rw [G.o];exact h1) O.o Hu.o (I7 (ws:=b) (i:=k) (by rw [t.o];omega)));have bK:=Ck Q I Q.size ω;have bP:=Nl (by simpa using P) I.size;have bO:Hid (GQ cB bh bt (r.set k (v - AM c f x+AK c f x)) (b.set (k / 64) (b.getD (k / 64) 0 ||| 2 ^ (k % 64)))):=⟨by rw [I.block bh φ (λe=>d.o.ne (by cases e;rfl)),G.o,HQ.o];exact cA.o.h,aV,GL d.o.words _ (Nat.or_lt_two_pow (n:=64) (Hb d.o.words (by rw [t.o];omega)) (MZ _ ω)),d.o.ne⟩
          have bM:Hid ((b.set (k / 64) (b.getD (k / 64) 0 ||| 2 ^ (k % 64))).length=f.code.length / 64+1):=by show _=_;rw [List.length_set];exact t.o
          have aU:Hid (Ch cB (ς (π g 0)) (Am x i) bh bt):=Ch.kept R.o ψ I;clear I aV;go_wp2_with fail
          go_roundg (gk - 1)
          case measure=>omega
          case rel=>exact ⟨j+1,min y (k / 64),_,_,ω,ω,by go_num,by go_num,ω,X,bO,bM,bK,bP,aU⟩
        .have aK:=Lh (EZ l.o.lab l.o.at_ bR K.o (λh=>bW (h.2.2 k (Lm O.o))))
         go_wp2_with fail
         go_ret3
         exact .inl ⟨_,_,rfl,δ,⟨δ,δ⟩,aK.o,L.th z⟩
       .have aG:=l.o.done K.o (by rw [G.o];exact h1) (by rw [G.o];exact hr.o) (by rw [aS.o];omega)
        have aO:=Lh aG;clear aG;have cD:=Lh (HL.o.below (L.th z));go_wp2_with fail;refine (JG c f r b bh bt _ _ y M _ t.o cD.o d.o (by rw [t.o];omega) bS aO.o l.o.words l.o.less).mono ?_;rintro e eF ⟨a',F,rfl,Y,bN,Z,N⟩;have cI:=Ck z N z.size ω;have E:=Nl P N.size;have aX:=Lh Y;have cE:=Lh bN;have cC:=Lh Z;clear Y bN Z N;go_wp2_with fail
        go_roundg M
        case measure=>exact hM
        case rel=>exact ⟨r,F,aX,cE,cC,cI,E⟩
     .-- a conditional jump
      have dQ:(x.op == 10)=ϝ:=by rw [m];rfl
      have dT:(x.op != 10)=ϑ:=by rw [m];rfl
      have dR:(x.op == 11)=ϝ:=by rw [m];rfl
      have dU:(x.op != 11)=ϑ:=by rw [m];rfl
      have dS:(x.op == 12)=ϑ:=by rw [m];rfl
      have bQ:Hid (Am x i=[i+1,x.a.toNat]):=by rw [dK.o,if_neg ω,if_pos (.inr m)];rfl
      have cP:=Lh m;clear m bU;go_wp2_with (first|(at_builtin;refine Fk rfl (.tmp 82) (.tmp 85) rfl H ν [] rfl (World.ownsRow_nil _ _ _ _) (π H 0) ((i:Int)+1) rfl (by exact (B6 _ _ _ 0)) δ ψ ?_;intro eE w8 U bY;have C:=(Br.alloc (Nr _) _).grown bY ψ (by intro k A;cases A);have fC:=C.size;have r0:=AB C q0;have r1:=AB C q1;have rh:=AB C cJ;simp only [List.nil_append] at U;have cR:=Lh U;have fY:=Lh q0;have fZ:=Lh q1;have dY:=Lh cJ;clear U bY q0 q1 cJ)|(at_builtin;refine Fk rfl (.tmp 95) (.tmp 98) rfl H eE [(i:Int)+1] rfl (cR.o.alloc _) (π w8 0) x.a rfl (by exact (B6 _ _ _ 0)) ψ φ ?_;intro sv2 w9 hown9 hg9;have Q:=(C.alloc C.size _).grown hg9 φ (λk A=>(cR.o.lt k A).1);have s0:=AB Q fY.o;have s1:=AB Q fZ.o;have sh:=AB Q dY.o;simp only [List.cons_append,List.nil_append] at hown9;obtain ⟨sa,scap,rfl,hrd⟩:=LX hown9;have cS:=Lh hrd;clear hown9 hg9 r0 r1 rh hrd));have cG:Hid (Ch w9 sa (Am x i) bh bt):=by rw [bQ.o];exact Ch.of cS.o (by have:=(dB.o (.inr cP.o)).1;simp;omega) ω V
      have aS:Hid ((Am x i).length=2):=by show _=_;rw [bQ.o];rfl
      have aY:=bV.th Q;have aZ:=Nl V (Q).size;have cF:Hid (GQ w9 bh bt hs ws):=⟨by rw [(Q).block bh ω];exact J.o.h,by rw [(Q).block bt V];exact J.o.t,J.o.words,J.o.ne⟩
      have bB:i / 64<=1000000:=ω;go_loopg [110,9] 2 (λgj ix wd s=>∃ (j y:Nat) (r:List Int) (b:List Nat),2<=gj+j/\j<=2/\ix=ι j/\wd=ι y/\y<=1000000/\Hid (N2 c f r b i v (v - AM c f x+AK c f x) (Am x i) j y M)/\Hid (GQ s bh bt r b)/\Hid (b.length=f.code.length / 64+1)/\ϐ D D s/\bt<s/\Hid (Ch s sa (Am x i) bh bt))
      case atStart=>exact ⟨0,i / 64,hs,ws,ω,ω,by rfl,by go_num,bB,dE,cF,dO,aY,aZ,cG⟩
      case round=>
       obtain ⟨s,rfl⟩:=ε (wr:Ϣ);obtain ⟨j,y,r,b,dZ,eA,rfl,rfl,bS,l,d,t,z,P,R⟩:=hrel;by_cases cK:j<2
       .obtain ⟨k,A⟩:∃ k,(Am x i)[j]?=ς k:=⟨_,Lg (by rw [aS.o];exact cK)⟩
        rcases R.o with h|⟨g,hg,eS,eT,eU,dA⟩
        .rw [h] at A;simp at A
        subst hg;have eV:=dA j k A;have O:=Lh A;clear A;by_cases bW:k<f.code.length
        .obtain ⟨u,hu⟩:∃ u,r[k]?=ς u:=⟨_,Lg (by rw [l.o.lab.len];exact bW)⟩
         have eQ:s.cell? (π bh k)=ς (ι u):=by rw [cell_of_row _ _ _ _ _ _ d.o.h];exact DC hu
         have eR:s.frozen? (π bh k)=ϝ:=Fz d.o.h;have fE:u<=2*1048576:=by have:=l.o.lab.bound k u hu;rw [l.o.lab.len] at this;omega
         by_cases dC:0<=u
         .by_cases aT:u=v - p+q
          .have X:=Lh (l.o.same O.o (by rw [G.o,HQ.o,<- aT];exact hu))
           have cT:(u != v - p+q)=ϝ:=by rw [aT];simp
           clear aT hu;go_wp2_with fail
           go_roundg (gk - 1)
           case measure=>omega
           case rel=>exact ⟨j+1,y,r,b,ω,ω,by go_num,rfl,bS,X,d,t,z,P,R⟩
          .have aK:=Lh (l.o.clash K.o bR O.o hu dC (by rw [G.o,HQ.o];exact aT))
           have cT:=bne_iff_ne.2 aT;clear aT hu;go_wp2_with fail
           go_ret3
           exact .inl ⟨_,_,rfl,δ,⟨δ,δ⟩,aK.o,L.th z⟩
         .obtain rfl:u = -1:=l.o.lab.neg k u hu ω
          have Hu:=Lh hu;clear hu;have cW:ϐ D D (s.setCell (π bh k) (ι (v - p+q))):=z.setCell (p:=(π bh k)) (by show _<=bh;omega) _;have cA:Hid (GQ (s.setCell (π bh k) (ι (v - p+q))) bh bt (r.set k (v - p+q)) b):=⟨by rw [ϡ _ _ _ _ _ _ d.o.h,D6],by rw [heap_setCell_other _ _ _ _ (λe=>d.o.ne e.symm)];exact d.o.t,d.o.words,d.o.ne⟩
          go_wp2_with fail;refine (KU b bt _ _ k _ t.o cA.o.t (by rw [t.o];omega) (by rw [t.o];omega) d.o.words).mono ?_;rintro e cB ⟨rfl,I,aV⟩;have X:=Lh (l.o.label S.o K.o bR (by rw [G.o];exact h1) O.o Hu.o (I7 (ws:=b) (i:=k) (by rw [t.o];omega)));have bK:=Ck cW I cW.size ω;have bP:=Nl (by simpa using P) I.size;have bO:Hid (GQ cB bh bt (r.set k (v - AM c f x+AK c f x)) (b.set (k / 64) (b.getD (k / 64) 0 ||| 2 ^ (k % 64)))):=⟨by rw [I.block bh φ (λe=>d.o.ne (by cases e;rfl)),G.o,HQ.o];exact cA.o.h,aV,GL d.o.words _ (Nat.or_lt_two_pow (n:=64) (Hb d.o.words (by rw [t.o];omega)) (MZ _ ω)),d.o.ne⟩
          have bM:Hid ((b.set (k / 64) (b.getD (k / 64) 0 ||| 2 ^ (k % 64))).length=f.code.length / 64+1):=by show _=_;rw [List.length_set];exact t.o
          have aU:Hid (Ch cB (ς (π g 0)) (Am x i) bh bt):=Ch.kept R.o ψ I;clear I aV;go_wp2_with fail
          go_roundg (gk - 1)
          case measure=>omega
          case rel=>exact ⟨j+1,min y (k / 64),_,_,ω,ω,by go_num,by go_num,ω,X,bO,bM,bK,bP,aU⟩
        .have aK:=Lh (EZ l.o.lab l.o.at_ bR K.o (λh=>bW (h.2.2 k (Lm O.o))))
         go_wp2_with fail
         go_ret3
         exact .inl ⟨_,_,rfl,δ,⟨δ,δ⟩,aK.o,L.th z⟩
       .have aG:=l.o.done K.o (by rw [G.o];exact h1) (by rw [G.o];exact hr.o) (by rw [aS.o];omega)
        have aO:=Lh aG;clear aG;have cD:=Lh (HL.o.below (L.th z));go_wp2_with fail;refine (JG c f r b bh bt _ _ y M _ t.o cD.o d.o (by rw [t.o];omega) bS aO.o l.o.words l.o.less).mono ?_;rintro e eF ⟨a',F,rfl,Y,bN,Z,N⟩;have cI:=Ck z N z.size ω;have E:=Nl P N.size;have aX:=Lh Y;have cE:=Lh bN;have cC:=Lh Z;clear Y bN Z N;go_wp2_with fail
        go_roundg M
        case measure=>exact hM
        case rel=>exact ⟨r,F,aX,cE,cC,cI,E⟩
     .-- any other instruction
      have dQ:=beq_eq_false_iff_ne.2 m.1;have dT:=bne_iff_ne.2 m.1;have dR:=beq_eq_false_iff_ne.2 m.2.1;have dU:=bne_iff_ne.2 m.2.1;have dS:=beq_eq_false_iff_ne.2 m.2.2;have bQ:Hid (Am x i=[i+1]):=by rw [dK.o,if_neg ω,if_neg ω];rfl
      have cP:=Lh m;clear m bU;go_wp2_with (at_builtin;refine Fk rfl (.tmp 82) (.tmp 85) rfl H ν [] rfl (World.ownsRow_nil _ _ _ _) (π H 0) ((i:Int)+1) rfl (by exact (B6 _ _ _ 0)) δ ψ ?_;intro eE w8 U bY;have C:=(Br.alloc (Nr _) _).grown bY ψ (by intro k A;cases A);have fC:=C.size;have r0:=AB C q0;have r1:=AB C q1;have rh:=AB C cJ;simp only [List.nil_append] at U;obtain ⟨sa,scap,rfl,hrd⟩:=LX U;have cS:=Lh hrd;clear U bY q0 q1 cJ hrd);have cG:Hid (Ch w8 sa (Am x i) bh bt):=by rw [bQ.o];exact Ch.of cS.o ψ ω V
      have aS:Hid ((Am x i).length=1):=by show _=_;rw [bQ.o];rfl
      have aY:=bV.th C;have aZ:=Nl V (C).size;have cF:Hid (GQ w8 bh bt hs ws):=⟨by rw [(C).block bh ω];exact J.o.h,by rw [(C).block bt V];exact J.o.t,J.o.words,J.o.ne⟩
      have bB:i / 64<=1000000:=ω;go_loopg [110,9] 1 (λgj ix wd s=>∃ (j y:Nat) (r:List Int) (b:List Nat),1<=gj+j/\j<=1/\ix=ι j/\wd=ι y/\y<=1000000/\Hid (N2 c f r b i v (v - AM c f x+AK c f x) (Am x i) j y M)/\Hid (GQ s bh bt r b)/\Hid (b.length=f.code.length / 64+1)/\ϐ D D s/\bt<s/\Hid (Ch s sa (Am x i) bh bt))
      case atStart=>exact ⟨0,i / 64,hs,ws,ω,ω,by rfl,by go_num,bB,dE,cF,dO,aY,aZ,cG⟩
      case round=>
       obtain ⟨s,rfl⟩:=ε (wr:Ϣ);obtain ⟨j,y,r,b,dZ,eA,rfl,rfl,bS,l,d,t,z,P,R⟩:=hrel;by_cases cK:j<1
       .obtain ⟨k,A⟩:∃ k,(Am x i)[j]?=ς k:=⟨_,Lg (by rw [aS.o];exact cK)⟩
        rcases R.o with h|⟨g,hg,eS,eT,eU,dA⟩
        .rw [h] at A;simp at A
        subst hg;have eV:=dA j k A;have O:=Lh A;clear A;by_cases bW:k<f.code.length
        .obtain ⟨u,hu⟩:∃ u,r[k]?=ς u:=⟨_,Lg (by rw [l.o.lab.len];exact bW)⟩
         have eQ:s.cell? (π bh k)=ς (ι u):=by rw [cell_of_row _ _ _ _ _ _ d.o.h];exact DC hu
         have eR:s.frozen? (π bh k)=ϝ:=Fz d.o.h;have fE:u<=2*1048576:=by have:=l.o.lab.bound k u hu;rw [l.o.lab.len] at this;omega
         by_cases dC:0<=u
         .by_cases aT:u=v - p+q
          .have X:=Lh (l.o.same O.o (by rw [G.o,HQ.o,<- aT];exact hu))
           have cT:(u != v - p+q)=ϝ:=by rw [aT];simp
           clear aT hu;go_wp2_with fail
           go_roundg (gk - 1)
           case measure=>omega
           case rel=>exact ⟨j+1,y,r,b,ω,ω,by go_num,rfl,bS,X,d,t,z,P,R⟩
          .have aK:=Lh (l.o.clash K.o bR O.o hu dC (by rw [G.o,HQ.o];exact aT))
           have cT:=bne_iff_ne.2 aT;clear aT hu;go_wp2_with fail
           go_ret3
           exact .inl ⟨_,_,rfl,δ,⟨δ,δ⟩,aK.o,L.th z⟩
         .obtain rfl:u = -1:=l.o.lab.neg k u hu ω
          have Hu:=Lh hu;clear hu;have Q:ϐ D D (s.setCell (π bh k) (ι (v - p+q))):=z.setCell (p:=(π bh k)) (by show _<=bh;omega) _;have cA:Hid (GQ (s.setCell (π bh k) (ι (v - p+q))) bh bt (r.set k (v - p+q)) b):=⟨by rw [ϡ _ _ _ _ _ _ d.o.h,D6],by rw [heap_setCell_other _ _ _ _ (λe=>d.o.ne e.symm)];exact d.o.t,d.o.words,d.o.ne⟩
          go_wp2_with fail;refine (KU b bt _ _ k _ t.o cA.o.t (by rw [t.o];omega) (by rw [t.o];omega) d.o.words).mono ?_;rintro e cB ⟨rfl,I,aV⟩;have X:=Lh (l.o.label S.o K.o bR (by rw [G.o];exact h1) O.o Hu.o (I7 (ws:=b) (i:=k) (by rw [t.o];omega)));have bK:=Ck Q I Q.size ω;have bP:=Nl (by simpa using P) I.size;have bO:Hid (GQ cB bh bt (r.set k (v - AM c f x+AK c f x)) (b.set (k / 64) (b.getD (k / 64) 0 ||| 2 ^ (k % 64)))):=⟨by rw [I.block bh φ (λe=>d.o.ne (by cases e;rfl)),G.o,HQ.o];exact cA.o.h,aV,GL d.o.words _ (Nat.or_lt_two_pow (n:=64) (Hb d.o.words (by rw [t.o];omega)) (MZ _ ω)),d.o.ne⟩
          have bM:Hid ((b.set (k / 64) (b.getD (k / 64) 0 ||| 2 ^ (k % 64))).length=f.code.length / 64+1):=by show _=_;rw [List.length_set];exact t.o
          have aU:Hid (Ch cB (ς (π g 0)) (Am x i) bh bt):=Ch.kept R.o ψ I;clear I aV;go_wp2_with fail
          go_roundg (gk - 1)
          case measure=>omega
          case rel=>exact ⟨j+1,min y (k / 64),_,_,ω,ω,by go_num,by go_num,ω,X,bO,bM,bK,bP,aU⟩
        .have aK:=Lh (EZ l.o.lab l.o.at_ bR K.o (λh=>bW (h.2.2 k (Lm O.o))))
         go_wp2_with fail
         go_ret3
         exact .inl ⟨_,_,rfl,δ,⟨δ,δ⟩,aK.o,L.th z⟩
       .have aG:=l.o.done K.o (by rw [G.o];exact h1) (by rw [G.o];exact hr.o) (by rw [aS.o];omega)
        have aO:=Lh aG;clear aG;have cD:=Lh (HL.o.below (L.th z));go_wp2_with fail;refine (JG c f r b bh bt _ _ y M _ t.o cD.o d.o (by rw [t.o];omega) bS aO.o l.o.words l.o.less).mono ?_;rintro e eF ⟨a',F,rfl,Y,bN,Z,N⟩;have cI:=Ck z N z.size ω;have E:=Nl P N.size;have aX:=Lh Y;have cE:=Lh bN;have cC:=Lh Z;clear Y bN Z N;go_wp2_with fail
        go_roundg M
        case measure=>exact hM
        case rel=>exact ⟨r,F,aX,cE,cC,cI,E⟩
   .have aK:=eI.o (λh=>h1 h.1)
    go_wp2_with fail
    go_ret3
    exact .inl ⟨_,_,rfl,δ,⟨δ,δ⟩,aK.o,cO.th bD⟩
