import Derived.Test.YtigbfkiddlhhjaaGreatDoorMov
import Derived.RegionTactic
import Derived.ChangeAlike
import Derived.Laws.CopyOwn
import Derived.Laws.MakeOwn
import Derived.Deep.LoopGhost
import Derived.Deep.DeepCutAuto
set_option maxHeartbeats 2000000
set_option maxRecDepth 100000
set_option linter.all false
open Go renaming World→Ϣ,Value→ϒ,Calls→ϙ,heap_setCell_same→ϡ
open Go.RowKit renaming Below→ϐ
open Option renaming some→X
open Bool renaming false→ϝ,true→ϑ
open List renaming replicate→ϱ
open Go.Value renaming slice→K
open Go.Obj renaming cells→U
namespace Go.Proofs.YtigbfkiddlhhjaaGreatDoor
open Go.RowKit Proofs.Tryz
open Go.RowKit renaming ω→O,ι→D,π→H
variable{c:AQ}{f:BK}{i n k b j wd M base bh bt:Nat}{x:Cd}{hs:List Int}{T T':Nat->Bool}{v u:Int}{ws ws' l:List Nat}{w w':Ϣ}{sa:Option Addr}
def Am(x:Cd)(i:Nat):List Nat:=(if x.op=10\/x.op=11 then []else [i+1])++(if x.op=11\/x.op=12 then [x.a.toNat]else [])
def Reach(c:AQ)(f:BK)(i:Nat)(n:Int):Prop:=
 ∀R:Nat->Int->Prop,R 0 0->(∀i n x k,R i n->f.q9[i]?=X x->k∈Am x i->R k (n-AM c f x+AK c f x))->R i n
def Reach.zero(c:AQ)(f:BK):Reach c f 0 0:=λ_ a _=>a
def Reach.next{n:Int}(g:Reach c f i n)(e:f.q9[i]?=X x)(d:k∈Am x i):Reach c f k (n-AM c f x+AK c f x):=
 λa b hs=>hs _ _ _ _ (g a b hs) e d
def VU(c:AQ)(f:BK)(i:Nat)(n:Int):Prop:=
 ∃x,f.q9[i]?=X x/\AM c f x<=n/\(x.op=10->n<=AM c f x)/\∀k∈Am x i,k<f.q9.length
def CQ(c:AQ)(f:BK):Prop:=(∀i n,Reach c f i n->VU c f i n)/\∀i n m,Reach c f i n->Reach c f i m->n=m
def DB(c:AQ)(f:BK)(h:List Int):Prop:=h.length=f.q9.length/\∀i v,h[i]?=X v->(v = -1/\∀n,¬Reach c f i n)\/(0<=v/\Reach c f i v)
structure Pg(c:AQ)(f:BK):Prop where
 one:1<=f.q9.length
 most:f.q9.length<=1048576
 op:∀x∈f.q9,1<=x.op/\x.op<=31
 call:∀x∈f.q9,x.op=9->0<=x.a/\x.a<c.q0.length
 jump:∀x∈f.q9,x.op=11\/x.op=12->0<=x.a/\x.a<f.q9.length
 pops:∀x∈f.q9,0<=AM c f x/\AM c f x<=6
 pushes:∀x∈f.q9,0<=AK c f x/\AK c f x<=2
def JF(hs:List Int):Nat:=hs.countP (λv=>decide (v<0))
def Tf(c:AQ)(f:BK)(hs:List Int)(i:Nat)(v:Int):Prop:=
 ∃x,f.q9[i]?=X x/\AM c f x<=v/\(x.op=10->v<=AM c f x)/\∀k∈Am x i,hs[k]?=X (v-AM c f x+AK c f x)
structure KL(c:AQ)(f:BK)(hs:List Int)(T:Nat->Bool)(skip:Nat->Prop):Prop where
 len:hs.length=f.q9.length
 zero:hs[0]?=X 0
 bit:∀(i:Nat),T i=ϑ->∃v,hs[i]?=X v/\0<=v
 reach:∀(i:Nat) v,hs[i]?=X v->0<=v->Reach c f i v
 neg:∀(i:Nat) v,hs[i]?=X v->v<0->v = -1
 done:∀(i:Nat) v,hs[i]?=X v->0<=v->T i=ϝ->¬skip i->Tf c f hs i v
 bound:∀(i:Nat) v,hs[i]?=X v->v+2*JF hs<=2*hs.length
def KL.q8(j:Pg c f)(T:Nat->Bool)(n:∀i,T i=decide (i=0)):KL c f ((ϱ f.q9.length (-1:Int)).set 0 0) T (λ_=>False) where
 len:=by simp
 zero:=List.getElem?_set_self (by rw[List.length_replicate];exact j.one)
 bit:=λi g=>by
  rw[n]at g;simp at g;subst g;exact⟨0,List.getElem?_set_self (by rw[List.length_replicate];exact j.one),O⟩
 reach:=λi v a g=>by
  rw[List.getElem?_set]at a;by_cases m:0=i
  .subst m;simp at a;obtain⟨_,rfl⟩:=a;exact Reach.zero c f
  rw[if_neg m,List.getElem?_replicate]at a;split at a
  .simp at a;omega
  cases a
 neg:=λi v b a=>by
  rw[List.getElem?_set]at b;by_cases k:0=i
  .subst k;simp at b;omega
  rw[if_neg k,List.getElem?_replicate]at b;split at b
  .simp at b;omega
  cases b
 done:=λi v e b a _=>by
  rw[n]at a;simp at a;rw[List.getElem?_set,if_neg (λb=>a b.symm),List.getElem?_replicate]at e;split at e
  .simp at e;omega
  cases e
 bound:=λi v d=>by
  have:JF ((ϱ f.q9.length (-1:Int)).set 0 0)<=f.q9.length-1:=by
   have:=j.one;unfold JF;let⟨a,b⟩:∃a,f.q9.length=a+1:=⟨f.q9.length-1,O⟩;rw[b,List.replicate_succ,List.set_cons_zero,List.countP_cons];have:=List.countP_le_length (p:=λv:Int=>decide (v<0)) (l:=ϱ a (-1));simp at this ⊢;omega
  have:v<=0:=by
   rw[List.getElem?_set]at d;by_cases h:0=i
   .subst h;simp at d;omega
   rw[if_neg h,List.getElem?_replicate]at d;split at d
   .simp at d;omega
   cases d
  have:=j.one;simp;omega
def KL.take(b:KL c f hs T (λ_=>False))(e:∀j,T' j=(T j && !decide (j=i))):KL c f hs T' (λj=>j=i) where
 len:=b.len
 zero:=b.zero
 bit:=λj a=>b.bit j (by rw[e]at a;simp at a;exact a.1)
 reach:=b.reach
 neg:=b.neg
 done:=λj v a g d hs=>b.done j v a g (by rw[e]at d;simp at d;by_cases a:T j=ϑ;exact absurd (d a) hs;simpa using a) (λa=>a)
 bound:=b.bound
def KL.put(a:KL c f hs T (λj=>j=i))(h:hs[i]?=X v)(k:Tf c f hs i v):KL c f hs T (λ_=>False) where
 len:=a.len
 zero:=a.zero
 bit:=a.bit
 reach:=a.reach
 neg:=a.neg
 done:=λj u b g e _=>by
  by_cases d:j=i
  .subst d;rw[h]at b;cases b;exact k
  exact a.done j u b g e d
 bound:=a.bound
def Ot(a:hs[k]?=X u)(c:u<0)(d:0<=v):JF (hs.set k v)+1=JF hs:=by
 unfold JF;induction hs generalizing k with
 |nil=>simp at a
 |cons d l b=>
  cases k with
  |zero=>simp at a;subst a;rw[List.set_cons_zero,List.countP_cons,List.countP_cons];simp[c];omega
  |succ k=>simp at a;rw[List.set_cons_succ,List.countP_cons,List.countP_cons];have:=b a;omega
def KL.label(s:Pg c f)(d:KL c f hs T (λj=>j=i))(A:hs[i]?=X v)(C:0<=v)(n:f.q9[i]?=X x)(g:AM c f x<=v)
  (B:k∈Am x i) (e:hs[k]?=X (-1)) (y:∀j,T' j=(T j||decide (j=k))):KL c f (hs.set k (v-AM c f x+AK c f x)) T' (λj=>j=i):=by
 have:=s.pushes x (Lm n);have:=s.pops x (Lm n);have t:=(Ll e);have w:∀(j:Nat) u,hs[j]?=X u->0<=u->k≠j:=λj u a g z=>by subst z;rw[e]at a;cases a;omega
 have m:∀(j:Nat) u,hs[j]?=X u->0<=u->(hs.set k (v-AM c f x+AK c f x))[j]?=X u:=λj u a g=>by rw[List.getElem?_set,if_neg (w j u a g)];exact a
 have l:∀(j:Nat) u,(hs.set k (v-AM c f x+AK c f x))[j]?=X u->(j=k/\u=v-AM c f x+AK c f x)\/(j≠k/\hs[j]?=X u):=λj u a=>by
  rw[List.getElem?_set]at a;by_cases h:k=j
  .subst h;simp[t]at a;exact .inl ⟨rfl,a.symm⟩
  rw[if_neg h]at a;exact .inr ⟨λg=>h g.symm,a⟩
 have:=Ot (v:=v-AM c f x+AK c f x) e O O;refine⟨by simp[d.len],m 0 0 d.zero O,?_,?_,?_,?_,?_⟩
 .intro j a
  rw[y]at a;simp at a;rcases a with a|rfl
  .obtain ⟨u,g,e⟩:=d.bit j a
   exact⟨u,m j u g e,e⟩
  exact⟨_,List.getElem?_set_self t,O⟩
 .intro j u a p
  rcases l j u a with ⟨rfl,rfl⟩|⟨_,a⟩
  .exact (d.reach i v A C).next n B
  exact d.reach j u a p
 .intro j u a o
  rcases l j u a with ⟨rfl,rfl⟩|⟨_,a⟩
  .omega
  exact d.neg j u a o
 .intro j u a q b r
  rw[y]at b;simp at b;rcases l j u a with ⟨rfl,rfl⟩|⟨_,a⟩
  .exact absurd rfl b.2
  obtain⟨g,e,n,o,p⟩:=d.done j u a q b.1 r;have:=s.pushes g (Lm e);exact⟨g,e,n,o,λb e=>m b _ (p b e) O⟩
 intro j u a;rw[List.length_set];rcases l j u a with ⟨rfl,rfl⟩|⟨_,a⟩
 .have:=d.bound i v A;omega
 have:=d.bound j u a;omega
def KL.fin(t:Pg c f)(b:KL c f hs T (λ_=>False))(r:∀i,T i=ϝ):CQ c f/\DB c f hs:=by
 have m:∀i n,Reach c f i n->hs[i]?=X n/\0<=n:=by
  intro i n q;have:=q (λi n=>hs[i]?=X n/\0<=n) ⟨b.zero,O⟩ (λi n x k ⟨a,d⟩ e p=>by
   let⟨_,l,_,_,s⟩:=b.done i n a d (r i) (λh=>h);rw[e]at l;cases l;have:=t.pushes x (Lm e);exact⟨s k p,O⟩)
  exact this
 refine⟨⟨λi n l=>?_,λi n t a d=>?_⟩,b.len,λi v o=>?_⟩
 .obtain ⟨a,d⟩:=m i n l
  let⟨x,e,l,q,s⟩:=b.done i n a d (r i) (λh=>h);exact⟨x,e,l,q,λk p=>by rw[<-b.len];exact(List.getElem?_eq_some_iff.1 (s k p)).1⟩
 .have j:=(m i n a).1
  rw[(m i t d).1]at j;cases j;rfl
 by_cases g:0<=v
 .exact .inr ⟨g,b.reach i v o g⟩
 refine .inl ⟨b.neg i v o O,λn b=>?_⟩;let⟨a,d⟩:=m i n b;rw[o]at a;cases a;omega
def GG(T:Nat->Bool)(n:Nat):Nat:=(List.range n).countP T
def FD(T:Nat->Bool)(n:Nat):GG T (n+1)=GG T n+(if T n then 1 else 0):=by
 unfold GG;rw[List.range_succ,List.countP_append];simp
def LC(a:∀j,j<n->T j=T' j):GG T n=GG T' n:=by
 induction n with
 |zero=>rfl
 |succ n b=>rw[FD,FD,b (λj b=>a j O),a n O]
def Ty(e:i<n)(d:T i=ϑ)(a:∀j,T' j=(T j && !decide (j=i))):GG T' n+1=GG T n:=by
 induction n with
 |zero=>omega
 |succ n c=>
  rw[FD,FD];by_cases b:i=n
  .subst b
   rw[LC (T:=T') (T':=T) (λj e=>by rw[a];have:decide (j=i)=ϝ:=φ;rw[this];simp),a,d];simp
  have:=c O;rw[a n];have a:=θ (n=i);rw[a];simp only[Bool.not_false,Bool.and_true];omega
def OL(b:∀j,T' j=(T j||decide (j=k))):GG T' n<=GG T n+1:=by
 induction n with
 |zero=>simp[GG]
 |succ n c=>
  rw[FD,FD];by_cases a:n=k
  .subst a
   have c:GG T' n=GG T n:=LC (λj d=>by rw[b];have:decide (j=n)=ϝ:=φ;rw[this];simp);rw[c];split<;>split<;>omega
  have c:T' n=T n:=by
   rw[b];have:decide (n=k)=ϝ:=by simpa using a
   rw[this];simp
  rw[c];omega
def CO(ws:List Nat):Array ϒ:=(ws.map λ(x:Nat)=>Value.int .u64 (x:Int)).toArray
def BL(ws:List Nat)(i:Nat):Bool:=(ws.getD (i/64) 0).testBit (i%64)
def Iw(ws:List Nat):Prop:=∀x∈ws,x<18446744073709551616
def OW(b:k<ws.length)(y:Nat)(j:Nat):(ws.set k y).getD j 0=if j=k then y else ws.getD j 0:=by
 simp only[List.getD_eq_getElem?_getD,List.getElem?_set];by_cases a:k=j
 .subst a;simp[b]
 rw[if_neg a,if_neg (λb=>a b.symm)]
def I7(a:i/64<ws.length)(j:Nat):BL (ws.set (i/64) (ws.getD (i/64) 0 ||| 2 ^ (i%64))) j=(BL ws j||decide (j=i)):=by
 unfold BL;rw[OW a];by_cases a:j/64=i/64
 .rw [if_pos a,a,Nat.testBit_or,Nat.testBit_two_pow]
  congr 1;rw[Bool.eq_iff_iff];simp;omega
 rw[if_neg a];have:decide (j=i)=ϝ:=by simp;intro b;exact a (by rw[b])
 rw[this,Bool.or_false]
def SF(a:i/64<ws.length)(j:Nat):BL (ws.set (i/64) (ws.getD (i/64) 0 &&& (18446744073709551615-2 ^ (i%64)))) j=(BL ws j && !decide (j=i)):=by
 unfold BL;rw[OW a];by_cases a:j/64=i/64
 .rw [if_pos a,a,Nat.testBit_and]
  congr 1;have c:18446744073709551615-2 ^ (i%64)=2 ^ 64-(2 ^ (i%64)+1):=O;have b:2 ^ (i%64)<2 ^ 64:=Nat.pow_lt_pow_right O O;rw[c,Nat.testBit_two_pow_sub_succ b,Nat.testBit_two_pow];rw[Bool.eq_iff_iff];simp;omega
 rw[if_neg a];have:decide (j=i)=ϝ:=by simp;intro b;exact a (by rw[b])
 rw[this];simp
def GL(c:Iw ws)(k:Nat){y:Nat}(d:y<18446744073709551616):Iw (ws.set k y):=by
 intro x b;rcases List.mem_or_eq_of_mem_set b with a|a
 .exact c x a
 omega
def Hb(b:Iw ws)(a:k<ws.length):ws.getD k 0<18446744073709551616:=by
 rw[List.getD_eq_getElem?_getD,Lg a];exact b _ (List.getElem_mem a)
def KI(a:k<ws.length):(CO ws)[k]?=X (.int .u64 (ws.getD k 0:Nat)):=by
 simp[CO,List.getD_eq_getElem?_getD,Lg a]
def JR(ws:List Nat)(k y:Nat):(CO ws).setIfInBounds k (.int .u64 (y:Nat))=CO (ws.set k y):=by
 simp[CO,List.setIfInBounds_toArray,List.map_set]
def Hv(a b:Nat)(c:a<18446744073709551616)(c:b<18446744073709551616) :
  bits .andNot .u64 (a:Int) (b:Int)=((a &&& (18446744073709551615-b):Nat):Int):=by
 have:a &&& (18446744073709551615-b)<2 ^ 64:=Nat.and_lt_two_pow _ O;have d:(BitVec.ofInt 64 (a:Int)).toNat=a:=by rw[BitVec.ofInt_natCast,BitVec.toNat_ofNat];exact Nat.mod_eq_of_lt O
 have c:(BitVec.ofInt 64 (b:Int)).toNat=b:=by rw[BitVec.ofInt_natCast,BitVec.toNat_ofNat];exact Nat.mod_eq_of_lt O
 show IntKind.u64.wrap ((BitVec.ofInt 64 (a:Int) &&& ~~~BitVec.ofInt 64 (b:Int)).toNat:Int)=_;rw[BitVec.toNat_and,BitVec.toNat_not,d,c,IntKind.wrap_u64];have:2 ^ 64-1-b=18446744073709551615-b:=O;rw[this];omega
def MZ(k:Nat)(b:k<64):(2:Nat) ^ k<18446744073709551616:=by
 have:=Nat.pow_lt_pow_right (a:=2) O b;omega
def PN(k:Nat)(a:k<64):IntKind.u64.wrap ((2:Int) ^ k)=((2 ^ k:Nat):Int):=by
 have:=MZ k a;rw[IntKind.wrap_u64];have a:((2:Int) ^ k)=((2 ^ k:Nat):Int):=by simp
 rw[a];generalize 2 ^ k=y at *;omega
def J9{v:ϒ}:w.grownBy (w.setCell (H b k) v).drew (X b):=
 ⟨rfl,rfl,rfl,ψ,λj _ c=>heap_setCell_other _ _ _ _ (λa=>c (by rw[a]))⟩
def KU(ws:List Nat)(b n cap:Nat)(i:Nat)(w:Ϣ)(g:ws.length=n)(a:w.heap[b]?=X (U (CO ws) 208 (0,0)))(d:i/64<ws.length)(hl:ws.length<=140737488355328)(e:Iw ws) :
  ϙ prog 129 #[K (X (H b 0)) n cap,D i] w λc w'=>c=.returned (.tuple #[])/\w.grownBy w' (X b)/\w'.heap[b]?=X (U (CO (ws.set (i/64) (ws.getD (i/64) 0 ||| 2 ^ (i%64)))) 208 (0,0)):=by
 subst g;have c:=Hb e d;have:w.cell? (H b (i/64))=X (.int .u64 (ws.getD (i/64) 0:Nat)):=by rw[cell_of_row _ _ _ _ _ _ a];exact KI d
 have:w.frozen? (H b (i/64))=ϝ:=Fz a;have h:Hid (bits .or .u64 ((ws.getD (i/64) 0:Nat):Int) (IntKind.u64.wrap (2 ^ (i%64)))=((ws.getD (i/64) 0 ||| 2 ^ (i%64):Nat):Int)):=by show _=_;rw[PN _ O,bits_or_u64_nat _ _ c (MZ _ O)]
 generalize f:ws.getD (i/64) 0=x at *;have Hw:=Lh a;go_in;go_wp2;go_region;go_end0;refine⟨rfl,J9,?_⟩;rw[h.o];show((w.setCell (H b (i/64)) (.int .u64 ((x ||| 2 ^ (i%64):Nat):Int))).heap)[b]?=_;rw[ϡ _ _ _ _ _ _ Hw.o,JR]
def TC(x k a:Nat)(w:Ϣ)(c:((x:Int)==0)=ϝ)
  (b:IntKind.u64.wrap (bits BinOp.and IntKind.u64 (x:Int) (IntKind.u64.wrap (-(x:Int)))*285870213051353865)/288230376151711744=(a:Int))
  (c:a<64) (c:k<64) (c:w.cell? (H 0 a)=X (.int .u8 k)) :
  ϙ prog 155 #[.int .u64 x] w λa w'=>a=.returned (D k)/\w=w':=by
 go_in;go_wp2_with(simp only[b]);go_ret;exact⟨rfl,rfl⟩
def U7(x:Nat)(e:x<18446744073709551616)(d:x≠0)(w:Ϣ)(h:TabAt 0 Lib.deBruijn64tab w) :
  ϙ prog 155 #[.int .u64 x] w λa w'=>a=.returned (D (Lib.ctz 64 x))/\w=w':=by
 let⟨g,c⟩:=Lib.lowest_bit 64 x d e;let⟨b,f⟩:=Lib.deBruijn64_at _ c;have a:=h _ b;rw[f]at a;exact TC x _ _ w φ (tz64_key x _ e d g) b c a
def Wt(ws:List Nat)(from_ b:Nat)(w:Ϣ)(e:Ending)(w':Ϣ):Prop:=
 (e=.returned (D (-1))/\w=w'/\∀i,64*from_<=i->BL ws i=ϝ)\/
 ∃(i:Nat)(ws':List Nat),e=.returned (D i)/\64*from_<=i/\i/64<ws.length/\BL ws i=ϑ/\(∀j,64*from_<=j->j/64<i/64->BL ws j=ϝ)/\ws'.length=ws.length/\Iw ws'/\(∀j,BL ws' j=(BL ws j && !decide (j=i)))/\
  w.grownBy w' (X b)/\w'.heap[b]?=X (U (CO ws') 208 (0,0))
def Vk(x:Nat)(b:x≠0)(c:x<18446744073709551616):x.testBit (Lib.ctz 64 x)=ϑ:=by
 unfold Lib.ctz;rw[if_neg b];let⟨_,a,_⟩:=Lib.ctzFrom_spec 64 x O O;generalize Lib.ctzFrom 64 x=k at *;rw[a,Nat.testBit_two_pow_mul];simp
def Pn(b:ws.getD k 0=0)(i:Nat)(a:i/64=k):BL ws i=ϝ:=by unfold BL;rw[a,b];simp
def SG(i:Nat)(a:ws.length<=i/64):BL ws i=ϝ:=by unfold BL;rw[List.getD_eq_getElem?_getD,List.getElem?_eq_none a];simp
def UN(ws:List Nat)(b n cap from_:Nat)(w:Ϣ)(h:ws.length=n)(o:w.heap[b]?=X (U (CO ws) 208 (0,0)))(hl:ws.length<=1000000)(v:from_<=1000000)(a:Iw ws)(f:TabAt 0 Lib.deBruijn64tab w) :
  ϙ prog 130 #[K (X (H b 0)) n cap,D from_] w (Wt ws from_ b w):=by
 subst h;have B:=Lh a;have F:=Lh f;have Hw:=Lh o;go_in;go_wp2;go_loop[5] (λi=>∃k:Nat,from_<=k/\(k<=ws.length\/k=from_)/\i=D k/\Hid (∀i,64*from_<=i->i/64<k->BL ws i=ϝ)) (λi=>ws.length-(intOf i).toNat);exact⟨from_,Nr _,.inr rfl,rfl,λi a L=>by omega⟩;obtain⟨k,_,_,rfl,q⟩:=hrel;by_cases g:k<ws.length
 .have e:=Hb B.o g
  have:w.cell? (H b k)=X (.int .u64 (ws.getD k 0:Nat)):=by rw[cell_of_row _ _ _ _ _ _ Hw.o];exact KI g
  have:w.frozen? (H b k)=ϝ:=Fz Hw.o;by_cases d:ws.getD k 0=0
  .have:(((ws.getD k 0:Nat):Int) !=0)=ϝ:=by rw[d];rfl
   have l:Hid (∀i,64*from_<=i->i/64<k+1->BL ws i=ϝ):=λi m J=>by
    by_cases A:i/64=k
    .exact Pn d i A
    exact q i m O
   generalize G:ws.getD k 0=x at *;go_wp2;go_round;exact⟨k+1,O,.inl O,by go_num,l⟩;simp[intOf];omega
  have:(((ws.getD k 0:Nat):Int) !=0)=ϑ:=by rw[bne_iff_ne];omega
  let⟨_,h⟩:=Lib.lowest_bit 64 _ d e;have o:=Vk _ d e;have a:(64*k+Lib.ctz 64 (ws.getD k 0))/64=k:=O;have f:(64*k+Lib.ctz 64 (ws.getD k 0))%64=Lib.ctz 64 (ws.getD k 0):=O;have l:=λj=>SF (ws:=ws) (i:=64*k+Lib.ctz 64 (ws.getD k 0)) (by rw[a];exact g) j;rw[a,f]at l;have v:BL ws (64*k+Lib.ctz 64 (ws.getD k 0))=ϑ:=by unfold BL;rw[a,f];exact o
  have C:Hid (bits .andNot .u64 ((ws.getD k 0:Nat):Int) (IntKind.u64.wrap (2 ^ (Lib.ctz 64 (ws.getD k 0))))=((ws.getD k 0 &&& (18446744073709551615-2 ^ (Lib.ctz 64 (ws.getD k 0))):Nat):Int)):=by show _=_;rw[PN _ h,Hv _ _ e (MZ _ h)]
  have s:=Lh (U7 _ e d w F.o);have u:ws.getD k 0 &&& (18446744073709551615-2 ^ (Lib.ctz 64 (ws.getD k 0)))<18446744073709551616:=Nat.lt_of_le_of_lt Nat.and_le_left e;have t:=Lh l;have p:=Lh v;generalize z:Lib.ctz 64 (ws.getD k 0)=c at *;generalize y:ws.getD k 0=x at *;go_wp2_with fail;refine s.o.mono ?_;rintro E w'⟨rfl,rfl⟩;go_wp2_with fail;go_region;go_wp2;go_ret;refine .inr ⟨64*k+c,ws.set k (x &&& (18446744073709551615-2 ^ c)),by go_num,O,O,p.o,λj m r=>q j m O,ψ,GL B.o _ u,t.o,J9,?_⟩;rw[C.o];show((w.setCell (H b k) (.int .u64 ((x &&& (18446744073709551615-2 ^ c):Nat):Int))).heap)[b]?=_;rw[ϡ _ _ _ _ _ _ Hw.o,JR]
 go_wp2;go_ret;exact .inl ⟨rfl,rfl,λi e=>by
  by_cases a:i/64<k
  .exact q i e a
  exact SG i O⟩
def Cx:(prog.info? 3).map (λi=>(i.zero,i.size,i.bytes))=X (X (D 0),1,8):=by kernel_rfl
def Jh:(prog.info? 3).map (·.size)=X 1:=by kernel_rfl
def ES(n k:Nat)(v:Int):List ϒ:=ϱ k (D v)++ϱ (n-k) (D 0)
def MI(W:Ϣ)(n:Nat)(a:n<=1048576):(Instr.makeSlice 22 (D (n:Int)) (D (n:Int))).run prog W=.ok (K (X (H W 0)) n n) (W.alloc (U (ES n 0 0).toArray 3)):=by
 let⟨i,b,a,e,d⟩:=info_parts Cx;have c:=run_make W 22 3 i (D 0) underlying22 b a .i64 .i64 (n:Int) (n:Int) O O (by rw[d];omega) O;rw[c,e];have:madeCells (Value.int .i64 0).cells ((n:Int).toNat*1)=(ES n 0 0).toArray:=by
  apply Array.ext_getElem?;intro j;simp[madeCells,Value.cells,ES,Nat.mod_one];rw[Array.getElem?_replicate];by_cases a:j<n
  .rw [if_pos a,Array.getElem?_eq_getElem (by simpa using a)];rfl
  rw[if_neg a,Array.getElem?_eq_none φ];rfl
 rw[this];simp
def ON(W:Ϣ)(g n k m:Nat)(v:Int)(a:Addr)(h f d c:Nat)(e:TypeId)(l:k<=n)(o:m=Nat.min d c)(l:k+m<=n)(l:W.heap[g]?=X (U (ES n k v).toArray 3 (0,0)))
  (p:∀j,j<m->W.cell? (a.add j)=X (D v)) :
  (Builtin.copy_ #[22,22] e #[K (X (H g k)) c f,K (X a) d h]).run prog W=.ok (D (m:Int)) (W.setRow g (ES n (k+m) v).toArray):=by
 have i:=run_copy_row (P:=prog) W 22 22 e 3 g k c f a d h (ES n k v).toArray 3 (ϱ m (D v)) underlying22 Jh l (by simpa using o)
  (λj u b=>by
   rw[List.getElem?_replicate]at b;split at b
   .simp at b;subst b;exact p j (by assumption)
   cases b) (by simp[ES];omega) (by simp[Value.oneCell'])
 rw[i];have:((ES n k v).toArray.toList.take k++ϱ m (D v)++(ES n k v).toArray.toList.drop (k+(ϱ m (Value.int .i64 v)).length))=ES n (k+m) v:=by unfold ES;rw[List.take_left' ψ,List.drop_append,List.drop_eq_nil_of_le ψ];simp only[List.length_replicate,List.nil_append,List.drop_replicate,List.replicate_append_replicate];have b:n-k-(k+m-k)=n-(k+m):=O;rw[b]
 rw[this];simp[goInt]
def Xm(n:Nat)(v:Int)(w:Ϣ)(e:Ending)(w':Ϣ):Prop:=
 ∃g,e=.returned (K (X (H g 0)) n n)/\(w:Nat)<=g/\w'.heap[g]?=X (U (ϱ n (Value.int .i64 v)).toArray 3 (0,0))/\ϐ w w w'
def Oq(n:Nat)(a:n<=1048576)(w:Ϣ):ϙ prog 154 #[.int .u64 1,.int .u64 (n:Int)] w λa w'=>a=.returned (.tuple #[.int .u64 0,.int .u64 (n:Int)])/\w=w':=by
 refine(bits_Mul 1 n O O w).mono ?_;rintro b w'⟨rfl,rfl⟩;have b:1*n/18446744073709551616=0:=O;have a:1*n%18446744073709551616=n:=O;rw[b,a];exact⟨rfl,rfl⟩
def WI(a:j<k)(v:Int):(ES n k v)[j]?=X (D v):=by
 unfold ES;rw[Al (by simpa using a),List.getElem?_replicate,if_pos a]
def QU(n:Nat)(v:Int)(a:Nat)(w:Ϣ)(g:1<=n)(e:n<=1048576)(h:w.cell? (H a 0)=X (D v)) :
  ϙ prog 128 #[K (X (H a 0)) 1 1,D (n:Int)] w (Xm n v w):=by
 have y:=λc=>MI c n e;have b:(ES n 0 0)=ES n 0 v:=by simp[ES]
 have s:=ON (w.alloc (U (ES n 0 0).toArray 3)) w n 0 1 v (H a 0) 1 n 1 n 3 O (Nat.min_eq_left g).symm O (by rw[Hn,b]) (λj a=>by
  obtain rfl:j=0:=O;exact AB (AA _ _) h)
 have:=θ ((n:Int)<0);have:=θ (9223372036854775807<(n:Int));have q:ϐ w w ((w.alloc (U (ES n 0 0).toArray 3)).setRow (w:Nat) (ES n 1 v).toArray):=below_setRow (AA _ _) (Nr _) _;have a:((w.alloc (U (ES n 0 0).toArray 3)).setRow (w:Nat) (ES n 1 v).toArray).heap[(w:Nat)]?=X (U (ES n 1 v).toArray 3 (0,0)):=setRow_heap _ _ _ _ _ _ (Hn _ _);have o:=Lh a;simp only[Nat.zero_add]at s;clear a b;go_in;go_wp2_with fail;refine(Oq n e w).mono ?_;rintro u w'⟨rfl,rfl⟩;go_wp2_with fail;go_loopw[8] (λi wr=>∃k:Nat,1<=k/\k<=n/\i=D k/\Hid (wr.heap[(w:Nat)]?=X (U (ES n k v).toArray 3 (0,0)))/\ϐ w w wr) (λi _=>n-(intOf i).toNat);exact⟨1,Nr _,g,rfl,o,q⟩;obtain⟨k,t,d,rfl,b,l⟩:=hrel;by_cases x:k<n
 .have:=ON wr.drew w n k (Nat.min k (n-k)) v (H w 0) n (n-k) k (n-k) 3 d rfl (by have:=Nat.min_le_right k (n-k);show k+min k (n-k)<=n;omega) b.o (λj a=>by
   have:j<k:=Nl a (Nat.min_le_left _ _);have a:((H w 0):Addr).add j=(H w j):=by unfold Addr.add;split<;>simp_all
   rw[a];show wr.cell? _=_;rw[cell_of_row _ _ _ _ _ _ b.o];simpa using WI this v)
  have r:Hid ((wr.drew.setRow (w:Nat) (ES n (k+Nat.min k (n-k)) v).toArray).heap[(w:Nat)]?=X (U (ES n (k+Nat.min k (n-k)) v).toArray 3 (0,0))):=setRow_heap _ _ _ _ _ _ b.o;have p:ϐ w w (wr.drew.setRow (w:Nat) (ES n (k+Nat.min k (n-k)) v).toArray):=below_setRow l.drew (Nr _) _;have:1<=Nat.min k (n-k):=Nat.le_min.2 ⟨t,O⟩;have f:k+Nat.min k (n-k)<=n:=by have:=Nat.min_le_right k (n-k);show k+min k (n-k)<=n;omega
  generalize Nat.min k (n-k)=m at *;clear s y q o;go_wp2_with fail;go_region;go_roundw;(repeat apply Exists.intro);exact⟨⟨k+m,O,f,by go_num,r,p⟩,rfl⟩;simp[intOf];omega
 obtain rfl:k=n:=O;go_wp2;go_ret;exact⟨(w:Nat),rfl,Nr _,by rw[b.o];simp[ES],l⟩
def Ad(hs:List Int):Array ϒ:=(hs.map (Value.int .i64)).toArray
def DC(a:hs[k]?=X v):(Ad hs)[k]?=X (D v):=by simp[Ad,a]
def D6(hs:List Int)(k:Nat)(y:Int):(Ad hs).setIfInBounds k (D y)=Ad (hs.set k y):=by simp[Ad,List.setIfInBounds_toArray,List.map_set]
structure GQ(wr:Ϣ)(bh bt:Nat)(hs:List Int)(ws:List Nat):Prop where
 h:wr.heap[bh]?=X (U (Ad hs) 3 (0,0))
 t:wr.heap[bt]?=X (U (CO ws) 208 (0,0))
 words:Iw ws
 ne:bh≠bt
def PU(c:AQ)(f:BK)(hs:List Int)(ws:List Nat)(a:ϒ)(gk:Nat):Prop:=
 (a=D (-1)/\KL c f hs (BL ws) (λ_=>False)/\∀i,BL ws i=ϝ)\/
 ∃(i:Nat)(v:Int),a=D i/\KL c f hs (BL ws) (λj=>j=i)/\hs[i]?=X v/\0<=v/\(∀j,BL ws j=ϑ->i/64<=j/64)/\2*JF hs+GG (BL ws) f.q9.length<gk
structure N2(c:AQ)(f:BK)(hs:List Int)(ws:List Nat)(i:Nat)(v n:Int)(l:List Nat)(j wd M:Nat):Prop where
 lab:KL c f hs (BL ws) (λq=>q=i)
 at_:hs[i]?=X v
 words:∀q,BL ws q=ϑ->wd<=q/64
 so:∀t k,t<j->l[t]?=X k->hs[k]?=X n
 less:2*JF hs+GG (BL ws) f.q9.length<=M
def UF(d:KL c f hs (BL ws) (λ_=>False))(l:∀a,BL ws a=ϑ->wd<=a/64)(a:2*JF hs+GG (BL ws) f.q9.length<=M)
  (e:BL ws i=ϑ) (k:∀j,64*wd<=j->j/64<i/64->BL ws j=ϝ) (b:∀j,BL ws' j=(BL ws j && !decide (j=i))):PU c f hs ws' (D i) M:=by
 let⟨v,a,g⟩:=d.bit i e;have h:i<f.q9.length:=by rw[<-d.len];exact(Ll a)
 refine .inr ⟨i,v,rfl,d.take b,a,g,λj a=>?_,?_⟩
 .rw [b]at a
  simp at a;by_cases d:j/64<i/64
  .rw [k j (by have:=l j a.1;omega) d]at a;simp at a
  omega
 have:=Ty h e b;omega
def UG(e:KL c f hs (BL ws) (λ_=>False))(g:∀b,BL ws b=ϑ->wd<=b/64)(d:∀j,64*wd<=j->BL ws j=ϝ):PU c f hs ws (D (-1)) M:=by
 refine .inl ⟨rfl,e,λi=>?_⟩;cases a:BL ws i with
 |false=>rfl
 |true=>rw[d i (by have:=g i a;omega)]at a;cases a
def N2.q8(n:Int)(l:List Nat)(e:KL c f hs (BL ws) (λj=>j=i))(d:hs[i]?=X v)(b:∀j,BL ws j=ϑ->i/64<=j/64)(a:2*JF hs+GG (BL ws) f.q9.length<=M):N2 c f hs ws i v n l 0 (i/64) M:=
 ⟨e,d,b,λd k b=>by omega,a⟩
def N2.same{n:Int}(a:N2 c f hs ws i v n l j wd M)(h:l[j]?=X k)(m:hs[k]?=X n):N2 c f hs ws i v n l (j+1) wd M:=
 ⟨a.lab,a.at_,a.words,λe g o b=>by
  by_cases d:e=j
  .subst d;rw[h]at b;cases b;exact m
  exact a.so e g O b,a.less⟩
def N2.label(r:Pg c f)(s:f.q9[i]?=X x)(t:0<=v)(A:AM c f x<=v)
  (d:N2 c f hs ws i v (v-AM c f x+AK c f x) (Am x i) j wd M) (y:(Am x i)[j]?=X k) (h:hs[k]?=X (-1)) (o:∀b,BL ws' b=(BL ws b||decide (b=k))) :
  N2 c f (hs.set k (v-AM c f x+AK c f x)) ws' i v (v-AM c f x+AK c f x) (Am x i) (j+1) (min wd (k/64)) M:=by
 have:=r.pushes x (Lm s);have z:∀(b:Nat) u,hs[b]?=X u->0<=u->k≠b:=λb u g b w=>by subst w;rw[h]at g;cases g;omega
 have q:∀(b:Nat) u,hs[b]?=X u->0<=u->(hs.set k (v-AM c f x+AK c f x))[b]?=X u:=λb u g p=>by rw[List.getElem?_set,if_neg (z b u g p)];exact g
 refine⟨d.lab.label r d.at_ t s A (Lm y) h o,q _ _ d.at_ t,λe a=>?_,λm e b a=>?_,?_⟩
 .rw [o]at a
  simp at a;rcases a with a|rfl
  .exact Nt (Nat.min_le_left _ _) (d.words e a)
  exact Nat.min_le_right _ _
 .by_cases l:m=j
  .subst l;rw[y]at a;cases a
   exact List.getElem?_set_self (Ll h)
  exact q _ _ (d.so m e O a) O
 have:=Ot (v:=v-AM c f x+AK c f x) h O O;have:=OL (n:=f.q9.length) o;have:=d.less;omega
def N2.done(l:f.q9[i]?=X x)(h:AM c f x<=v)(g:x.op=10->v<=AM c f x)
  (a:N2 c f hs ws i v (v-AM c f x+AK c f x) (Am x i) j wd M) (m:(Am x i).length<=j):KL c f hs (BL ws) (λ_=>False):=
 a.lab.put a.at_ ⟨x,l,h,g,λk d=>by
  obtain⟨b,e,rfl⟩:=List.getElem_of_mem d;exact a.so b _ O (Lg e)⟩
def N2.clash(l:f.q9[i]?=X x)(h:0<=v)
  (a:N2 c f hs ws i v (v-AM c f x+AK c f x) (Am x i) j wd M) (g:(Am x i)[j]?=X k) (e:hs[k]?=X u) (d:0<=u) (b:u≠v-AM c f x+AK c f x):¬CQ c f:=
 λhs=>b (hs.2 k _ _ (a.lab.reach k u e d) ((a.lab.reach i v a.at_ h).next l (Lm g)))
def EZ{s:Nat->Prop}(m:KL c f hs T s)(l:hs[i]?=X v)(j:0<=v)(g:f.q9[i]?=X x)
  (h:¬(AM c f x<=v/\(x.op=10->v<=AM c f x)/\∀k∈Am x i,k<f.q9.length)):¬CQ c f:=λhs=>by
 let⟨_,a,b,d,e⟩:=hs.1 i v (m.reach i v l j);rw[g]at a;cases a;exact h ⟨b,d,e⟩
def UI:(prog.info? 208).map (λi=>(i.zero,i.size,i.bytes))=X (X (.int .u64 0),1,8):=by kernel_rfl
def QG(W:Ϣ)(n:Nat)(a:n<=1048576):(Instr.makeSlice 180 (D (n:Int)) (D (n:Int))).run prog W=.ok (K (X (H W 0)) n n) (W.alloc (U (CO (ϱ n 0)) 208)):=by
 let⟨i,b,a,e,d⟩:=info_parts UI;have c:=run_make W 180 208 i (.int .u64 0) underlying180 b a .i64 .i64 (n:Int) (n:Int) O O (by rw[d];omega) O;rw[c,e];have:madeCells (Value.int .u64 0).cells ((n:Int).toNat*1)=CO (ϱ n 0):=by
  apply Array.ext_getElem?;intro j;simp[madeCells,Value.cells,CO,Nat.mod_one];rw[Array.getElem?_replicate];by_cases a:j<n
  .rw [if_pos a,Array.getElem?_eq_getElem (by simpa using a)];rfl
  rw[if_neg a,Array.getElem?_eq_none φ];rfl
 rw[this];simp
def OE(n i:Nat):BL (ϱ n 0) i=ϝ:=by
 unfold BL;rw[List.getD_eq_getElem?_getD,List.getElem?_replicate];split<;>simp
def KJ(n:Nat):Iw (ϱ n 0):=λx a=>by rw[List.eq_of_mem_replicate a];omega
def Xi(c:AQ)(f:BK)(w:Ϣ)(e:Ending)(w':Ϣ):Prop:=
 (∃(k err:Int),e=.returned (.tuple #[ν,D k,D err])/\err≠0/\in64 err/\¬CQ c f/\ϐ w w w')\/
 ∃g hs,e=.returned (.tuple #[K (X (H g 0)) f.q9 f.q9.length,D 0,D 0])/\(w:Nat)<=g/\w'.heap[g]?=X (U (Ad hs) 3 (0,0))/\CQ c f/\DB c f hs/\ϐ w w w'
def Tr(w:Ϣ)(base:Nat)(v:ϒ)(l:List Int)(o:w.ownsRow base 3 1 v l.length (l.map (Value.int .i64)))(c:Addr)(y:Int)(p:w.cell? c=X (D y))(hl:l.length<1000000)(q:base<=w)(d:TypeId) :
  ∃b w',(Builtin.append_ #[22,22] d #[v,K (X c) 1 1]).run prog w=.ok b w'/\w'.ownsRow base 3 1 b (l++[y]).length ((l++[y]).map (Value.int .i64))/\w.grownBy w' v.ownBlock:=by
 let⟨i,g,b,e,f⟩:=info_parts Cx;let⟨k,w',h,m,n,_⟩:=run_append_own (P:=prog) w base 22 d 3 i (D 0) 1 8 underlying22 g b e f rfl δ v l.length (l.map (Value.int .i64)) o c 1 1 [D y] rfl
  (λj u a=>by
   cases j with
   |zero=>simp at a;subst a;exact p
   |succ j=>simp at a) (by simp[Value.oneCell']) (by unfold maxLen;omega) O q
 exact⟨k,w',h,by simpa using m,n⟩
def Fk{e:Array Oper}{rest:List Oper}{o:Oper}{a:Act}{d:Exit->Act->Ϣ->Prop}(f:o.guard=none)(s x:Operand)(n:o.op=.call {callee:=.builtin .append,args:=#[s,x],argTypes:=#[22,22]})
  (base:Nat) (v:ϒ) (l:List Int) (hs:a.eval s=v) (j:w.ownsRow base 3 1 v l.length (l.map (Value.int .i64))) (b:Addr) (y:Int) (m:a.eval x=K (X b) 1 1) (i:w.cell? b=X (D y)) (hl:l.length<1000000) (h:base<=w)
  (k:∀c w',w'.ownsRow base 3 1 c (l++[y]).length ((l++[y]).map (Value.int .i64))->w.grownBy w' v.ownBlock->wpList prog e d rest (a.put o.dst c) w'):wpList prog e d (o::rest) a w:=by
 refine wpList_plain f λc g=>?_;let⟨f,w',c,d,e⟩:=Tr w base v l j b y i hl h o.type;unfold Oper.wp execOp;simp only[n,resolve,invoke,builtin,Sem.run_bind,Sem.run_pure,Result.andThen_ok,List.map_toArray,List.map_cons,List.map_nil,hs,m,c];exact g _ _ (k f w' d e)
def LX{v:ϒ}{l:List Int}(h:w.ownsRow base 3 1 v l.length (l.map (Value.int .i64))) :
  ∃sa c,v=K sa l c/\(l=[]\/∃a,sa=X (H a 0)/\base<=a/\a<(w:Nat)/\∀j d,l[j]?=X d->w.cell? (H a j)=X (D d)):=by
 rcases h.2 with ⟨rfl,e⟩|⟨a,c,_,rfl,g,f,_,_,_,i⟩
 .exact ⟨none,0,by rw[e],.inl (List.eq_nil_of_length_eq_zero e)⟩
 refine⟨_,c,rfl,.inr ⟨a,rfl,g,(La f),λj a c=>?_⟩⟩;rw[cell_of_row _ _ _ _ _ _ f];have b:(l.map (Value.int .i64))[j]?=X (D a):=by simp[c]
 rw[<-i,List.getElem?_take]at b;split at b
 .simpa using b
 cases b
def Ch(wi:Ϣ)(sa:Option Addr)(l:List Nat)(bh bt:Nat):Prop:=
 l=[]\/∃g,sa=X (H g 0)/\g≠bh/\g≠bt/\g<(wi:Nat)/\∀(j k:Nat),l[j]?=X k->wi.cell? (H g j)=X (D (k:Int))
def Ch.kept{b:Ϣ}{y:ϒ}(e:Ch b sa l bh bt)(m:(b:Nat)<=(b.setCell (H bh k) y).heap.size)(i:(b.setCell (H bh k) y).grownBy w' (X bt)):Ch w' sa l bh bt:=by
 rcases e with e|⟨c,n,h,g,f,q⟩
 .exact .inl e
 refine .inr ⟨c,n,h,g,Nl (Nl f m) i.size,λj p o=>?_⟩;have d:w'.heap[c]?=b.heap[c]?:=by rw[i.block c (Nl f m) (λd=>g (by cases d;rfl)),heap_setCell_other _ _ _ _ h]
 rw[World.cell?_of_block (w:=b) (a:=(H c j)) d];exact q j p o
def Ch.of{l:List Int}{c:List Nat}(b:l=[]\/∃a,sa=X (H a 0)/\base<=a/\a<(w:Nat)/\∀(j:Nat) y,l[j]?=X y->w.cell? (H a j)=X (D y))(hl:l=c.map Int.ofNat)(g:bh<base)(g:bt<base):Ch w sa c bh bt:=by
 subst hl;rcases b with b|⟨a,d,_,e,f⟩
 .exact .inl (by simpa using b)
 exact .inr ⟨a,d,O,O,e,λj k a=>f j k (by simp[a])⟩
def YE(c:AQ)(f:BK)(hs:List Int)(n bh bt M:Nat)(w:Ϣ)(e:Ending)(w':Ϣ):Prop:=
 ∃a ws',e=.returned a/\PU c f hs ws' a M/\GQ w' bh bt hs ws'/\ws'.length=n/\w.grownBy w' (X bt)
def JG(c:AQ)(f:BK)(hs:List Int)(ws:List Nat)(bh bt n cap wd M:Nat)(w:Ϣ)(g:ws.length=n)(u:C8 w)(a:GQ w bh bt hs ws)(hl:ws.length<=1000000)(t:wd<=1000000)(k:KL c f hs (BL ws) (λ_=>False))(h:∀b,BL ws b=ϑ->wd<=b/64)(v:2*JF hs+GG (BL ws) f.q9.length<=M) :
  ϙ prog 130 #[K (X (H bt 0)) n cap,D wd] w (YE c f hs n bh bt M w):=by
 refine(UN ws bt n cap wd w g a.t hl t a.words u.tz).mono ?_;rintro x w'(⟨rfl,rfl,d⟩|⟨i,m,rfl,d,_,p,q,s,r,l,e,o⟩)
 .exact ⟨_,ws,rfl,UG k h d,a,g,⟨rfl,rfl,rfl,Nr _,λ_ _ _=>rfl⟩⟩
 refine⟨_,m,rfl,UF k h v p q l,⟨?_,o,r,a.ne⟩,s.trans g,e⟩;rw[e.block bh (La a.h) (λj=>a.ne (by cases j;rfl))];exact a.h
def Ck{B:Nat}{a:Ϣ}(g:ϐ B a w)(f:w.grownBy w' (X b))(d:B<=w)(e:B<=b):ϐ B a w':=g.grown f d (λk c=>by cases c;exact e)
def KA(c:AQ)(gU:ϒ)(f:BK)(fv:ϒ)(B:Nat)(w:Ϣ)(jX:C8 w)(pH:B<=w)(gX:BF B w gU c)(hE:EI B w fv f)(b:Pg c f) :
  ϙ prog 86 #[gU,fv] w (Xi c f w):=by
 let⟨qS,qT,qI,mM⟩:=Λ4 gX hE jX b;have pQ:=b.one;have pP:=b.most;obtain⟨_,_,rfl,iE,iK,-⟩:=gX;obtain⟨iH,iG,rfl,-,-,-,-⟩:=iE;obtain⟨iC,iB,rfl,-,-,-,-⟩:=iK;obtain⟨_,rfl,N,-,-,-⟩:=hE;obtain⟨iD,iF,rfl,rB,_,_,pD⟩:=N;have qR:=Lh pD;have:∀b,(Instr.makeSlice 180 (D ((f.q9:Int)/64+1)) (D ((f.q9:Int)/64+1))).run prog b=.ok (K (X (H b.heap.size 0)) (f.q9.length/64+1) (f.q9.length/64+1)) (b.alloc (U (CO (ϱ (f.q9.length/64+1) 0)) 208)):=by intro b;have:=QG b (f.q9.length/64+1) O;have b:((f.q9.length/64+1:Nat):Int)=(f.q9:Int)/64+1:=O;rw[b]at this;exact this
 go_in;go_wp2_with fail;let⟨S,a⟩:=ε (((w.alloc (U (Bc iH iG iC iB c) 25)).alloc (U #[.string f.name,D f.params,D f.L,.bool f.result,K iD f.q9 iF] 70)));have jK:ϐ w w S:=by rw[a];exact(Br.alloc (Nr _) _).alloc ψ _
 have b:(S:Nat)=(w:Nat)+1+1:=by rw[a];simp
 have oI:Hid (AR S w [K iH c.H iG,D c.G,K iC c.q0 iB]):=by rw[a];exact AF.alloc _
 have lC:Hid (AR S (w+1) [.string f.name,D f.params,D f.L,.bool f.result,K iD f.q9 iF]):=by have:=AF (w:=w.alloc (U (Bc iH iG iC iB c) 25)) (vs:=#[.string f.name,D f.params,D f.L,.bool f.result,K iD f.q9 iF]) (T:=70);rw[a];exact(by simpa using this:AR _ _ _)
 rw[<-a];have pT:=Lh b;clear a;refine(QU f.q9.length (-1) _ _ pQ pP (by rw[<-pT.o,B6];rfl)).mono ?_;rintro oP q⟨bh,rfl,iI,y,hV⟩;have mE:=As hV;have:(S:Nat)<bh:=by simp at iI;omega
 have kS:=(La y);have:∀b,(q.alloc b).cell? (H bh 0)=X (D (-1)):=λb=>AB (AA _ _) (by rw[cell_of_row _ _ _ _ _ _ y,List.getElem?_toArray,List.getElem?_replicate,if_pos O]);have:∀b,(q.alloc b).frozen? (H bh 0)=ϝ:=λb=>Fz (by rw[Ha _ _ _ kS];exact y);have nH:=Lh y;go_wp2_with fail;let⟨b,a⟩:=ε (((q.setCell (H bh 0) (D 0)).alloc (U (CO (ϱ (f.q9.length/64+1) 0)) 208)));have gU:b.heap[(q:Nat)]?=X (U (CO (ϱ (f.q9.length/64+1) 0)) 208 (0,0)):=by have:=Hn (q.setCell (H bh 0) (D 0)) (U (CO (ϱ (f.q9.length/64+1) 0)) 208);rw[a];simpa using this
 have y:b.heap[bh]?=X (U (Ad ((ϱ f.q9.length (-1)).set 0 0)) 3 (0,0)):=by
  rw[a,Ha _ _ _ (by simpa using kS),ϡ _ _ _ _ _ _ nH.o];have:(ϱ f.q9.length (Value.int .i64 (-1))).toArray=Ad (ϱ f.q9.length (-1)):=by simp[Ad]
  rw[this,D6]
 have mZ:ϐ S S b:=by rw[a];exact(mE.setCell (p:=(H bh 0)) (by show _<=bh;omega) _).alloc (by simpa using mE.size) _
 have pJ:(q:Nat)<b:=by rw[a];simp
 rw[<-a];have b:=Lh gU;have pE:=Lh y;clear a;refine(KU (ϱ (f.q9.length/64+1) 0) q _ _ 0 _ ψ b.o ψ φ (KJ _)).mono ?_;rintro b oE⟨rfl,iA,oJ⟩;have lI:∀j,BL ((ϱ (f.q9.length/64+1) 0).set (0/64) ((ϱ (f.q9.length/64+1) 0).getD (0/64) 0 ||| 2 ^ (0%64))) j=decide (j=0):=λj=>by rw[I7 ψ,OE];simp
 have nV:Iw ((ϱ (f.q9.length/64+1) 0).set (0/64) ((ϱ (f.q9.length/64+1) 0).getD (0/64) 0 ||| 2 ^ (0%64))):=GL (KJ _) _ (by simp[List.getD_eq_getElem?_getD]);have nZ:((ϱ (f.q9.length/64+1) 0).set (0/64) ((ϱ (f.q9.length/64+1) 0).getD (0/64) 0 ||| 2 ^ (0%64))).length=f.q9.length/64+1:=by simp
 generalize (ϱ (f.q9.length/64+1) 0).set (0/64) ((ϱ (f.q9.length/64+1) 0).getD (0/64) 0 ||| 2 ^ (0%64))=ws5 at *;have mJ:GQ oE bh q ((ϱ f.q9.length (-1)).set 0 0) ws5:=⟨by rw[iA.block bh O (λb=>by simp at b;omega)];exact pE.o,oJ,nV,O⟩;have lH:=KL.q8 mM.o (BL ws5) lI;generalize (ϱ f.q9.length (-1:Int)).set 0 0=hl0 at *;have gJ:=Ck mZ iA mZ.size O;have mL:=Nl pJ iA.size;have kU:=Lh (qI.o.below (jK.th gJ));have jW:=Lh mJ;have kG:=Lh lH;have gS:=Lh nZ;go_wp2_with fail;refine(JG c f hl0 ws5 bh q _ _ 0 (2*JF hl0+GG (BL ws5) f.q9.length) _ gS.o kU.o jW.o (by rw[gS.o];omega) O kG.o (λgW _=>Nat.zero_le _) (Nr _)).mono ?_;rintro oQ oV⟨oK,mQ,rfl,jJ,jM,iM,Q⟩;have mN:=Ck gJ Q gJ.size O;have mI:=Nl mL Q.size;have mC:=Lh iM;generalize (q:Nat)=bt at *;have lS:=Lh jJ;have lQ:=Lh jM;go_wp2_with fail;go_loopg[10] (2*JF hl0+GG (BL ws5) f.q9.length) (λgk oK wr=>∃hs ws,Hid (PU c f hs ws oK gk)/\Hid (GQ wr bh bt hs ws)/\Hid (ws.length=f.q9.length/64+1)/\ϐ S S wr/\bt<wr);exact⟨hl0,mQ,lS,lQ,mC,mN,mI⟩;let⟨hs,ws,hZ,gR,qD,A,mY⟩:=hrel;rcases hZ.o with ⟨rfl,gK,lI⟩|⟨i,v,rfl,gK,kF,mO,oA,qJ⟩
 .obtain ⟨b,q⟩:=gK.fin mM.o lI
  have iU:=Lh b;have iP:=Lh q;go_wp2_with fail;go_ret3;exact .inr ⟨bh,hs,rfl,Nt jK.size O,gR.o.h,iU.o,iP.o,jK.th A⟩
 have b:i<f.q9.length:=by rw[<-gK.len];exact(Ll kF)
 let⟨x,z⟩:=Ϡ f.q9 i b;have pR:=jK.th A;rcases qR.o with gP|⟨_,_,rfl,iN,pD⟩
 .rw [gP]at z;simp at z
 let⟨_,_,nM⟩:=(pD i x z).below (pR.mono pH) iN;have:(w:Nat)+1<wr:=by have rA:=A.size;have qZ:=pT.o;omega
 have:(w:Nat)<wr:=O;have:=Δ5 A (oI.o 0 _ rfl) (oI.o 1 _ rfl) (oI.o 2 _ rfl) (lC.o 0 _ rfl) (lC.o 1 _ rfl);have:=Δ3 A (lC.o 2 _ rfl) (lC.o 3 _ rfl) (lC.o 4 _ rfl);let⟨hP,hN,hO,Hw⟩:=Λ4 z gK kF oA;have lR:=Lh (qS.o.below ((pR.th (AA wr (U #[D x.op,D x.a] 96))).mono pH));have kT:=Lh (qT.o.below ((pR.th (AA wr (U #[D x.op,D x.a] 96))).mono pH));have R:=Lm hP.o;go_wp2_with fail;refine(SW c _ f _ x _ B _ (by simp;have:=pR.size;omega) lR.o kT.o ⟨rfl,nM⟩ (mM.o.op x R).1 (mM.o.op x R).2 (mM.o.call x R)).mono ?_;rintro q P⟨rfl,b⟩;have pO:=As b;have q:GQ P bh bt hs ws:=⟨by rw[pO.block bh O];exact gR.o.h,by rw[pO.block bt mY];exact gR.o.t,gR.o.words,gR.o.ne⟩;have qC:=A.th pO;have jL:=Nl mY pO.size;have L:=Cc b 0 _ rfl;have F:=Cc b 1 _ rfl;have t:P.cell? (H bh i)=X (D v):=by rw[cell_of_row _ _ _ _ _ _ q.h];exact DC hO.o
 have A:=mM.o.pops x R;have z:=mM.o.pushes x R;have:v<=2*1048576:=by have:=hN.o.bound i v hO.o;rw[hN.o.len]at this;omega
 have gV:=Lh q;have y:=λgP=>Lh (EZ hN.o hO.o mO hP.o gP);let⟨p,q⟩:∃p,AM c f x=p:=⟨_,rfl⟩;let⟨gW,b⟩:∃gW,AK c f x=gW:=⟨_,rfl⟩;rw[q]at A y;rw[b]at z;rw[q,b];have gO:=Lh q;have mX:=Lh b;have qY:=Lh y;by_cases nF:p<=v
 .by_cases pY:x.op=10/\p<v
  .have kV:=qY.o (λgP=>by have:=gP.2.1 pY.1;omega)
   have:(x.op==10)=ϑ:=by rw[pY.1];rfl
   have:=pY.2;go_wp2_with fail;go_ret3;exact .inl ⟨_,_,rfl,δ,⟨δ,δ⟩,kV.o,pR.th pO⟩
  have pX:Hid (x.op=10->v<=p):=λgP=>by by_cases qX:v<=p;exact qX;exact absurd ⟨gP,O⟩ pY
  have qB:=Lh (N2.q8 (v-AM c f x+AK c f x) (Am x i) hN.o hO.o Hw.o (Nr _));generalize 2*JF hs+GG (BL ws) f.q9.length=M at *;have qA:Hid (Am x i=(if x.op=10\/x.op=11 then []else [i+1])++(if x.op=11\/x.op=12 then [x.a.toNat]else [])):=rfl;have qN:Hid (x.op=11\/x.op=12->0<=x.a/\x.a<f.q9.length):=mM.o.jump x R;have iL:x.op=10\/x.op=11\/x.op=12\/(x.op≠10/\x.op≠11/\x.op≠12):=O;rcases iL with a|a|a|a
  .-- oK return: no successor
   have:(x.op==10)=ϑ:=by rw[a];rfl
   have:(x.op !=10)=ϝ:=by rw[a];rfl
   have:(x.op==11)=ϝ:=by rw[a];rfl
   have:(x.op !=11)=ϑ:=by rw[a];rfl
   have:(x.op==12)=ϝ:=by rw[a];rfl
   have:=pX.o a;have hC:Hid (Am x i=[]):=by rw[qA.o,if_pos (.inl a),if_neg O];rfl
   have:=Lh a;go_wp2_with fail;have gS:Hid (Ch P none (Am x i) bh bt):=.inl hC.o;have pF:Hid ((Am x i).length=0):=by show _=_;rw[hC.o];rfl
   have gR:=qC.th (Below.refl (P:Nat) P);have gK:=Nl jL ((Below.refl (P:Nat) P)).size;have gJ:Hid (GQ P bh bt hs ws):=⟨by rw[((Below.refl (P:Nat) P)).block bh O];exact gV.o.h,by rw[((Below.refl (P:Nat) P)).block bt jL];exact gV.o.t,gV.o.words,gV.o.ne⟩;have R:i/64<=1000000:=O;go_loopg[110,9] 0 (λA Q wd b=>∃(j q:Nat)(z:List Int)(y:List Nat),0<=A+j/\j<=0/\Q=D j/\wd=D q/\q<=1000000/\Hid (N2 c f z y i v (v-AM c f x+AK c f x) (Am x i) j q M)/\Hid (GQ b bh bt z y)/\Hid (y.length=f.q9.length/64+1)/\ϐ S S b/\bt<b/\Hid (Ch b none (Am x i) bh bt));exact⟨0,i/64,hs,ws,O,O,by rfl,by go_num,R,qB,gJ,qD,gR,gK,gS⟩;obtain⟨_,rfl⟩:=ε (wr:Ϣ);obtain⟨j,mK,kE,mF,_,_,rfl,rfl,mP,gQ,mH,hK,gT,nG,_⟩:=hrel;by_cases qW:j<0
   .exact absurd qW (Nat.not_lt_zero _)
   have b:=gQ.o.done hP.o (by rw[gO.o];exact nF) (by rw[gO.o];exact pX.o) (by rw[pF.o];omega);have kO:=Lh b;have iV:=Lh (qI.o.below (jK.th gT));go_wp2_with fail;refine(JG c f kE mF bh bt _ _ mK M _ hK.o iV.o mH.o (by rw[hK.o];omega) mP kO.o gQ.o.words gQ.o.less).mono ?_;rintro oR oL⟨_,lT,rfl,iQ,jA,jN,V⟩;have lM:=Ck gT V gT.size O;have lD:=Nl nG V.size;have kK:=Lh iQ;have jS:=Lh jA;have jE:=Lh jN;go_wp2_with fail;go_roundg M;exact⟨kE,lT,kK,jS,jE,lM,lD⟩;exact qJ
  .-- oK jump
   have:(x.op==10)=ϝ:=by rw[a];rfl
   have:(x.op !=10)=ϑ:=by rw[a];rfl
   have:(x.op==11)=ϑ:=by rw[a];rfl
   have:(x.op !=11)=ϝ:=by rw[a];rfl
   have:(x.op==12)=ϝ:=by rw[a];rfl
   have jR:Hid (Am x i=[x.a.toNat]):=by rw[qA.o,if_pos (.inr a),if_pos (.inl a)];rfl
   have nI:=Lh a;go_wp2_with(at_builtin;refine Fk rfl (.tmp 95) (.tmp 98) rfl P ν [] rfl (World.ownsRow_nil _ _ _ _) (H P 0) x.a rfl (by exact(B6 _ _ _ 0)) δ ψ ?_;intro qE nD g o;have h:=(Br.alloc (Nr _) _).grown o ψ (by intro k N;cases N);have:=h.size;have qF:=AB h L;have qG:=AB h F;have qH:=AB h t;simp only[List.nil_append]at g;obtain⟨sa,scap,rfl,hrd⟩:=LX g;have cQ:=Lh hrd;clear g o L F t hrd);have gQ:Hid (Ch nD sa (Am x i) bh bt):=by rw[jR.o];exact Ch.of cQ.o (by have:=(qN.o (.inl nI.o)).1;simp;omega) O jL
   have pU:Hid ((Am x i).length=1):=by show _=_;rw[jR.o];rfl
   have gK:=qC.th h;have gJ:=Nl jL (h).size;have V:Hid (GQ nD bh bt hs ws):=⟨by rw[(h).block bh O];exact gV.o.h,by rw[(h).block bt jL];exact gV.o.t,gV.o.words,gV.o.ne⟩;have R:i/64<=1000000:=O;go_loopg[110,9] 1 (λA Q wd b=>∃(j q:Nat)(z:List Int)(y:List Nat),1<=A+j/\j<=1/\Q=D j/\wd=D q/\q<=1000000/\Hid (N2 c f z y i v (v-AM c f x+AK c f x) (Am x i) j q M)/\Hid (GQ b bh bt z y)/\Hid (y.length=f.q9.length/64+1)/\ϐ S S b/\bt<b/\Hid (Ch b sa (Am x i) bh bt));exact⟨0,i/64,hs,ws,O,O,by rfl,by go_num,R,qB,V,qD,gK,gJ,gQ⟩;obtain⟨hG,rfl⟩:=ε (wr:Ϣ);obtain⟨j,nJ,hQ,C,_,_,rfl,rfl,pK,l,d,G,gY,nQ,mU⟩:=hrel;by_cases qV:j<1
   .obtain ⟨k,N⟩:=Ϡ (Am x i) j (by rw[pU.o];exact qV)
    rcases mU.o with gP|⟨pI,oZ,qO,qP,qQ,pA⟩
    .rw [gP]at N;simp at N
    subst oZ;have:=pA j k N;have kH:=Lh N;by_cases qK:k<f.q9.length
    .obtain ⟨u,r⟩:=Ϡ hQ k (by rw[l.o.lab.len];exact qK)
     have:hG.cell? (H bh k)=X (D u):=by rw[cell_of_row _ _ _ _ _ _ d.o.h];exact DC r
     have:hG.frozen? (H bh k)=ϝ:=Fz d.o.h;have:u<=2*1048576:=by have:=l.o.lab.bound k u r;rw[l.o.lab.len]at this;omega
     by_cases qU:0<=u
     .by_cases pN:u=v-p+gW
      .have lX:=Lh (l.o.same kH.o (by rw[gO.o,mX.o,<- pN];exact r))
       have:(u !=v-p+gW)=ϝ:=by rw[pN];simp
       go_wp2_with fail;go_roundg(gk-1);exact⟨j+1,nJ,hQ,C,O,O,by go_num,rfl,pK,lX,d,G,gY,nQ,mU⟩;omega
      have kW:=Lh (l.o.clash hP.o mO kH.o r qU (by rw[gO.o,mX.o];exact pN));have:=bne_iff_ne.2 pN;go_wp2_with fail;go_ret3;exact .inl ⟨_,_,rfl,δ,⟨δ,δ⟩,kW.o,jK.th gY⟩
     obtain rfl:u = -1:=l.o.lab.neg k u r O;have nN:=Lh r;have hD:ϐ S S (hG.setCell (H bh k) (D (v-p+gW))):=gY.setCell (p:=(H bh k)) (by show _<=bh;omega) _;have kZ:Hid (GQ (hG.setCell (H bh k) (D (v-p+gW))) bh bt (hQ.set k (v-p+gW)) C):=⟨by rw[ϡ _ _ _ _ _ _ d.o.h,D6],by rw[heap_setCell_other _ _ _ _ (λb=>d.o.ne b.symm)];exact d.o.t,d.o.words,d.o.ne⟩;go_wp2_with fail;refine(KU C bt _ _ k _ G.o kZ.o.t (by rw[G.o];omega) (by rw[G.o];omega) d.o.words).mono ?_;rintro b kB⟨rfl,gL,nA⟩;have oW:=Lh (l.o.label mM.o hP.o mO (by rw[gO.o];exact nF) kH.o nN.o (I7 (ws:=C) (i:=k) (by rw[G.o];omega)));have oF:=Ck hD gL hD.size O;have oB:=Nl (by simpa using nQ) gL.size;have nW:Hid (GQ kB bh bt (hQ.set k (v-AM c f x+AK c f x)) (C.set (k/64) (C.getD (k/64) 0 ||| 2 ^ (k%64)))):=⟨by rw[gL.block bh φ (λhW=>d.o.ne (by cases hW;rfl)),gO.o,mX.o];exact kZ.o.h,nA,GL d.o.words _ (Nat.or_lt_two_pow (n:=64) (Hb d.o.words (by rw[G.o];omega)) (MZ _ O)),d.o.ne⟩;have mR:Hid ((C.set (k/64) (C.getD (k/64) 0 ||| 2 ^ (k%64))).length=f.q9.length/64+1):=by show _=_;rw[List.length_set];exact G.o
     have lJ:Hid (Ch kB (X (H pI 0)) (Am x i) bh bt):=Ch.kept mU.o ψ gL;go_wp2_with fail;go_roundg(gk-1);exact⟨j+1,min nJ (k/64),_,_,O,O,by go_num,by go_num,O,oW,nW,mR,oF,oB,lJ⟩;omega
    have jY:=Lh (EZ l.o.lab l.o.at_ mO hP.o (λgP=>qK (gP.2.2 k (Lm kH.o))));go_wp2_with fail;go_ret3;exact .inl ⟨_,_,rfl,δ,⟨δ,δ⟩,jY.o,jK.th gY⟩
   have b:=l.o.done hP.o (by rw[gO.o];exact nF) (by rw[gO.o];exact pX.o) (by rw[pU.o];omega);have kP:=Lh b;have iW:=Lh (qI.o.below (jK.th gY));go_wp2_with fail;refine(JG c f hQ C bh bt _ _ nJ M _ G.o iW.o d.o (by rw[G.o];omega) pK kP.o l.o.words l.o.less).mono ?_;rintro oS oM⟨_,lU,rfl,iR,jB,jO,W⟩;have lN:=Ck gY W gY.size O;have lE:=Nl nQ W.size;have kL:=Lh iR;have jT:=Lh jB;have jF:=Lh jO;go_wp2_with fail;go_roundg M;exact⟨hQ,lU,kL,jT,jF,lN,lE⟩;exact qJ
  .-- oK conditional jump
   have:(x.op==10)=ϝ:=by rw[a];rfl
   have:(x.op !=10)=ϑ:=by rw[a];rfl
   have:(x.op==11)=ϝ:=by rw[a];rfl
   have:(x.op !=11)=ϑ:=by rw[a];rfl
   have:(x.op==12)=ϑ:=by rw[a];rfl
   have mG:Hid (Am x i=[i+1,x.a.toNat]):=by rw[qA.o,if_neg O,if_pos (.inr a)];rfl
   have pC:=Lh a;go_wp2_with(first|(at_builtin;refine Fk rfl (.tmp 82) (.tmp 85) rfl P ν [] rfl (World.ownsRow_nil _ _ _ _) (H P 0) ((i:Int)+1) rfl (by exact(B6 _ _ _ 0)) δ ψ ?_;intro qE nD g o;have h:=(Br.alloc (Nr _) _).grown o ψ (by intro k N;cases N);have:=h.size;have qF:=AB h L;have qG:=AB h F;have qH:=AB h t;simp only[List.nil_append]at g;have hF:=Lh g;have mA:=Lh L;have mB:=Lh F;have mD:=Lh t;clear g o L F t)|(at_builtin;refine Fk rfl (.tmp 95) (.tmp 98) rfl P qE [(i:Int)+1] rfl (hF.o.alloc _) (H nD 0) x.a rfl (by exact(B6 _ _ _ 0)) ψ φ ?_;intro sv2 w9 hown9 hg9;have hD:=(h.alloc h.size _).grown hg9 φ (λk N=>(hF.o.lt k N).1);have:=AB hD mA.o;have:=AB hD mB.o;have:=AB hD mD.o;simp only[List.cons_append,List.nil_append]at hown9;obtain⟨sa,scap,rfl,hrd⟩:=LX hown9;have cQ:=Lh hrd;clear hown9 hg9 qF qG qH hrd));have Q:Hid (Ch w9 sa (Am x i) bh bt):=by rw[mG.o];exact Ch.of cQ.o (by have:=(qN.o (.inr pC.o)).1;simp;omega) O jL
   have pV:Hid ((Am x i).length=2):=by show _=_;rw[mG.o];rfl
   have G:=qC.th hD;have C:=Nl jL (hD).size;have A:Hid (GQ w9 bh bt hs ws):=⟨by rw[(hD).block bh O];exact gV.o.h,by rw[(hD).block bt jL];exact gV.o.t,gV.o.words,gV.o.ne⟩;have z:i/64<=1000000:=O;go_loopg[110,9] 2 (λr y wd b=>∃(j d:Nat)(q:List Int)(l:List Nat),2<=r+j/\j<=2/\y=D j/\wd=D d/\d<=1000000/\Hid (N2 c f q l i v (v-AM c f x+AK c f x) (Am x i) j d M)/\Hid (GQ b bh bt q l)/\Hid (l.length=f.q9.length/64+1)/\ϐ S S b/\bt<b/\Hid (Ch b sa (Am x i) bh bt));exact⟨0,i/64,hs,ws,O,O,by rfl,by go_num,z,qB,A,qD,G,C,Q⟩;obtain⟨hI,rfl⟩:=ε (wr:Ϣ);obtain⟨j,nK,hR,E,_,_,rfl,rfl,pL,m,e,J,gZ,nR,mV⟩:=hrel;by_cases qM:j<2
   .obtain ⟨k,N⟩:=Ϡ (Am x i) j (by rw[pV.o];exact qM)
    rcases mV.o with gP|⟨pI,oZ,qO,qP,qQ,pA⟩
    .rw [gP]at N;simp at N
    subst oZ;have:=pA j k N;have kI:=Lh N;by_cases pZ:k<f.q9.length
    .obtain ⟨u,s⟩:=Ϡ hR k (by rw[m.o.lab.len];exact pZ)
     have:hI.cell? (H bh k)=X (D u):=by rw[cell_of_row _ _ _ _ _ _ e.o.h];exact DC s
     have:hI.frozen? (H bh k)=ϝ:=Fz e.o.h;have:u<=2*1048576:=by have:=m.o.lab.bound k u s;rw[m.o.lab.len]at this;omega
     by_cases qL:0<=u
     .by_cases nU:u=v-p+gW
      .have lY:=Lh (m.o.same kI.o (by rw[gO.o,mX.o,<- nU];exact s))
       have:(u !=v-p+gW)=ϝ:=by rw[nU];simp
       go_wp2_with fail;go_roundg(gk-1);exact⟨j+1,nK,hR,E,O,O,by go_num,rfl,pL,lY,e,J,gZ,nR,mV⟩;omega
      have kX:=Lh (m.o.clash hP.o mO kI.o s qL (by rw[gO.o,mX.o];exact nU));have:=bne_iff_ne.2 nU;go_wp2_with fail;go_ret3;exact .inl ⟨_,_,rfl,δ,⟨δ,δ⟩,kX.o,jK.th gZ⟩
     obtain rfl:u = -1:=m.o.lab.neg k u s O;have nO:=Lh s;have jI:ϐ S S (hI.setCell (H bh k) (D (v-p+gW))):=gZ.setCell (p:=(H bh k)) (by show _<=bh;omega) _;have lA:Hid (GQ (hI.setCell (H bh k) (D (v-p+gW))) bh bt (hR.set k (v-p+gW)) E):=⟨by rw[ϡ _ _ _ _ _ _ e.o.h,D6],by rw[heap_setCell_other _ _ _ _ (λb=>e.o.ne b.symm)];exact e.o.t,e.o.words,e.o.ne⟩;go_wp2_with fail;refine(KU E bt _ _ k _ J.o lA.o.t (by rw[J.o];omega) (by rw[J.o];omega) e.o.words).mono ?_;rintro b kC⟨rfl,gM,nB⟩;have oX:=Lh (m.o.label mM.o hP.o mO (by rw[gO.o];exact nF) kI.o nO.o (I7 (ws:=E) (i:=k) (by rw[J.o];omega)));have oG:=Ck jI gM jI.size O;have oC:=Nl (by simpa using nR) gM.size;have nX:Hid (GQ kC bh bt (hR.set k (v-AM c f x+AK c f x)) (E.set (k/64) (E.getD (k/64) 0 ||| 2 ^ (k%64)))):=⟨by rw[gM.block bh φ (λhX=>e.o.ne (by cases hX;rfl)),gO.o,mX.o];exact lA.o.h,nB,GL e.o.words _ (Nat.or_lt_two_pow (n:=64) (Hb e.o.words (by rw[J.o];omega)) (MZ _ O)),e.o.ne⟩;have mS:Hid ((E.set (k/64) (E.getD (k/64) 0 ||| 2 ^ (k%64))).length=f.q9.length/64+1):=by show _=_;rw[List.length_set];exact J.o
     have lK:Hid (Ch kC (X (H pI 0)) (Am x i) bh bt):=Ch.kept mV.o ψ gM;go_wp2_with fail;go_roundg(gk-1);exact⟨j+1,min nK (k/64),_,_,O,O,by go_num,by go_num,O,oX,nX,mS,oG,oC,lK⟩;omega
    have jZ:=Lh (EZ m.o.lab m.o.at_ mO hP.o (λgP=>pZ (gP.2.2 k (Lm kI.o))));go_wp2_with fail;go_ret3;exact .inl ⟨_,_,rfl,δ,⟨δ,δ⟩,jZ.o,jK.th gZ⟩
   have b:=m.o.done hP.o (by rw[gO.o];exact nF) (by rw[gO.o];exact pX.o) (by rw[pV.o];omega);have kQ:=Lh b;have iX:=Lh (qI.o.below (jK.th gZ));go_wp2_with fail;refine(JG c f hR E bh bt _ _ nK M _ J.o iX.o e.o (by rw[J.o];omega) pL kQ.o m.o.words m.o.less).mono ?_;rintro oT oN⟨_,lV,rfl,iS,jC,jP,Y⟩;have lO:=Ck gZ Y gZ.size O;have lF:=Nl nR Y.size;have kM:=Lh iS;have jU:=Lh jC;have jG:=Lh jP;go_wp2_with fail;go_roundg M;exact⟨hR,lV,kM,jU,jG,lO,lF⟩;exact qJ
  .-- any other instruction
   have:=beq_eq_false_iff_ne.2 a.1;have:=bne_iff_ne.2 a.1;have:=beq_eq_false_iff_ne.2 a.2.1;have:=bne_iff_ne.2 a.2.1;have:=beq_eq_false_iff_ne.2 a.2.2;have iZ:Hid (Am x i=[i+1]):=by rw[qA.o,if_neg O,if_neg O];rfl
   have:=Lh a;go_wp2_with(at_builtin;refine Fk rfl (.tmp 82) (.tmp 85) rfl P ν [] rfl (World.ownsRow_nil _ _ _ _) (H P 0) ((i:Int)+1) rfl (by exact(B6 _ _ _ 0)) δ ψ ?_;intro qE nD g o;have h:=(Br.alloc (Nr _) _).grown o ψ (by intro k N;cases N);have:=h.size;have qF:=AB h L;have qG:=AB h F;have qH:=AB h t;simp only[List.nil_append]at g;obtain⟨sa,scap,rfl,hrd⟩:=LX g;have cQ:=Lh hrd;clear g o L F t hrd);have y:Hid (Ch nD sa (Am x i) bh bt):=by rw[iZ.o];exact Ch.of cQ.o ψ O jL
   have pW:Hid ((Am x i).length=1):=by show _=_;rw[iZ.o];rfl
   have s:=qC.th h;have r:=Nl jL (h).size;have q:Hid (GQ nD bh bt hs ws):=⟨by rw[(h).block bh O];exact gV.o.h,by rw[(h).block bt jL];exact gV.o.t,gV.o.words,gV.o.ne⟩;have m:i/64<=1000000:=O;go_loopg[110,9] 1 (λh l wd a=>∃(j b:Nat)(e:List Int)(d:List Nat),1<=h+j/\j<=1/\l=D j/\wd=D b/\b<=1000000/\Hid (N2 c f e d i v (v-AM c f x+AK c f x) (Am x i) j b M)/\Hid (GQ a bh bt e d)/\Hid (d.length=f.q9.length/64+1)/\ϐ S S a/\bt<a/\Hid (Ch a sa (Am x i) bh bt));exact⟨0,i/64,hs,ws,O,O,by rfl,by go_num,m,qB,q,qD,s,r,y⟩;obtain⟨hJ,rfl⟩:=ε (wr:Ϣ);obtain⟨j,nL,hU,F,_,_,rfl,rfl,pM,o,g,L,hA,nS,mW⟩:=hrel;by_cases pS:j<1
   .obtain ⟨k,N⟩:=Ϡ (Am x i) j (by rw[pW.o];exact pS)
    rcases mW.o with gP|⟨pI,oZ,qO,qP,qQ,pA⟩
    .rw [gP]at N;simp at N
    subst oZ;have:=pA j k N;have kJ:=Lh N;by_cases nT:k<f.q9.length
    .obtain ⟨u,t⟩:=Ϡ hU k (by rw[o.o.lab.len];exact nT)
     have:hJ.cell? (H bh k)=X (D u):=by rw[cell_of_row _ _ _ _ _ _ g.o.h];exact DC t
     have:hJ.frozen? (H bh k)=ϝ:=Fz g.o.h;have:u<=2*1048576:=by have:=o.o.lab.bound k u t;rw[o.o.lab.len]at this;omega
     by_cases pG:0<=u
     .by_cases iJ:u=v-p+gW
      .have lZ:=Lh (o.o.same kJ.o (by rw[gO.o,mX.o,<- iJ];exact t))
       have:(u !=v-p+gW)=ϝ:=by rw[iJ];simp
       go_wp2_with fail;go_roundg(gk-1);exact⟨j+1,nL,hU,F,O,O,by go_num,rfl,pM,lZ,g,L,hA,nS,mW⟩;omega
      have kY:=Lh (o.o.clash hP.o mO kJ.o t pG (by rw[gO.o,mX.o];exact iJ));have:=bne_iff_ne.2 iJ;go_wp2_with fail;go_ret3;exact .inl ⟨_,_,rfl,δ,⟨δ,δ⟩,kY.o,jK.th hA⟩
     obtain rfl:u = -1:=o.o.lab.neg k u t O;have nP:=Lh t;have hD:ϐ S S (hJ.setCell (H bh k) (D (v-p+gW))):=hA.setCell (p:=(H bh k)) (by show _<=bh;omega) _;have lB:Hid (GQ (hJ.setCell (H bh k) (D (v-p+gW))) bh bt (hU.set k (v-p+gW)) F):=⟨by rw[ϡ _ _ _ _ _ _ g.o.h,D6],by rw[heap_setCell_other _ _ _ _ (λa=>g.o.ne a.symm)];exact g.o.t,g.o.words,g.o.ne⟩;go_wp2_with fail;refine(KU F bt _ _ k _ L.o lB.o.t (by rw[L.o];omega) (by rw[L.o];omega) g.o.words).mono ?_;rintro a kD⟨rfl,gN,nC⟩;have oY:=Lh (o.o.label mM.o hP.o mO (by rw[gO.o];exact nF) kJ.o nP.o (I7 (ws:=F) (i:=k) (by rw[L.o];omega)));have oH:=Ck hD gN hD.size O;have oD:=Nl (by simpa using nS) gN.size;have nY:Hid (GQ kD bh bt (hU.set k (v-AM c f x+AK c f x)) (F.set (k/64) (F.getD (k/64) 0 ||| 2 ^ (k%64)))):=⟨by rw[gN.block bh φ (λhY=>g.o.ne (by cases hY;rfl)),gO.o,mX.o];exact lB.o.h,nC,GL g.o.words _ (Nat.or_lt_two_pow (n:=64) (Hb g.o.words (by rw[L.o];omega)) (MZ _ O)),g.o.ne⟩;have mT:Hid ((F.set (k/64) (F.getD (k/64) 0 ||| 2 ^ (k%64))).length=f.q9.length/64+1):=by show _=_;rw[List.length_set];exact L.o
     have lL:Hid (Ch kD (X (H pI 0)) (Am x i) bh bt):=Ch.kept mW.o ψ gN;go_wp2_with fail;go_roundg(gk-1);exact⟨j+1,min nL (k/64),_,_,O,O,by go_num,by go_num,O,oY,nY,mT,oH,oD,lL⟩;omega
    have kA:=Lh (EZ o.o.lab o.o.at_ mO hP.o (λgP=>nT (gP.2.2 k (Lm kJ.o))));go_wp2_with fail;go_ret3;exact .inl ⟨_,_,rfl,δ,⟨δ,δ⟩,kA.o,jK.th hA⟩
   have a:=o.o.done hP.o (by rw[gO.o];exact nF) (by rw[gO.o];exact pX.o) (by rw[pW.o];omega);have kR:=Lh a;have iY:=Lh (qI.o.below (jK.th hA));go_wp2_with fail;refine(JG c f hU F bh bt _ _ nL M _ L.o iY.o g.o (by rw[L.o];omega) pM kR.o o.o.words o.o.less).mono ?_;rintro oU oO⟨_,lW,rfl,iT,jD,jQ,gI⟩;have lP:=Ck hA gI hA.size O;have lG:=Nl nS gI.size;have kN:=Lh iT;have jV:=Lh jD;have jH:=Lh jQ;go_wp2_with fail;go_roundg M;exact⟨hU,lW,kN,jV,jH,lP,lG⟩;exact qJ
 have iO:=qY.o (λgP=>nF gP.1);go_wp2_with fail;go_ret3;exact .inl ⟨_,_,rfl,δ,⟨δ,δ⟩,iO.o,pR.th pO⟩