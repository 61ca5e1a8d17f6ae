import Derived.Test.YtiejafonjemioaaGreatDoorSlFunc
import Derived.RegionTactic
import Derived.Deep.RegionHeld3
set_option linter.unusedVariables false
set_option linter.unusedSimpArgs false
open Go.Value renaming slice→σ
open Go.Obj renaming cells→χ
namespace Go.Proofs.YtiejafonjemioaaGreatDoor
open Go.RowKit
variable {P:Program} {n i j d id:Nat} {Q:Exit->Act->World->Prop} {S:World->Prop} {fin:Bool} {a b:Act} {w:World} {p q x:Nat×Oper} {rest l left:List (Nat×Oper)} {o:Oper} {l' hard:List Nat} {ops:Array Oper} {listed:Array Bool} {sl:Nat->Option Tmp} {f:Nat->Value} {os:List Oper}
def Xsk (o:Oper):List Nat:=(o.after.toList.filter (Region.binds .any ·)).map (·.on)
inductive Xr4 (P:Program) (S:World->Prop) (hard:List Nat) (K:List (Nat×Oper)->Act->Prop):List Oper->Nat->List (Nat×Oper)->Act->Prop
 | stop {i acc a} (h:K acc a):Xr4 P S hard K [] i acc a
 | skip {o os i acc a} (hi:hard.contains i=true) (h:Xr4 P S hard K os (i+1) (acc++[(i,o)]) a):Xr4 P S hard K (o::os) i acc a
 | take {o os i acc a} (hi:hard.contains i=false) (c:Value) (hc:∀ w,S w->(execOp a.eval o).run P w=.ok (.value c) w) (h:Xr4 P S hard K os (i+1) acc (a.put o.dst c)):Xr4 P S hard K (o::os) i acc a
def waits (p q:Nat×Oper):Bool:=p.1 != q.1 && (Xsk p.2).contains q.1
def Xsj (p:Nat×Oper) (left:List (Nat×Oper)):Bool:=left.all (fun q=>!waits p q)
def Xt9 (P:Program) (n:Nat) (Q:Exit->Act->World->Prop) (S:World->Prop) (fin:Bool):Nat->List (Nat×Oper)->Act->World->Prop
 | 0,left,a,w=>left=[]/\Q .normal a w
 | f+1,left,a,w=>(∃ p∈left,(fin && p.1+1 == n)=false/\Xsj p left=true/\∃ c,(∀ w,S w->(execOp a.eval p.2).run P w=.ok (.value c) w)/\Xt9 P n Q S fin f (left.filter (fun q=>q.1 != p.1)) (a.put p.2.dst c) w)\/
  ((left=[]->Q .normal a w)/\∀ p∈left,Xsj p left=true->p.2.wp P a w (fun a' w'=>(S w'\/(fin && p.1+1 == n)=true)/\Xt9 P n Q S fin f (left.filter (fun q=>q.1 != p.1)) a' w') (NoPanic Q))
structure Xsz (P:Program) (n:Nat) (Q:Exit->Act->World->Prop) (S:World->Prop) (fin:Bool) (left:List (Nat×Oper)) (a:Act) (w:World):Prop where
 out:Xt9 P n Q S fin left.length left a w
theorem Xr3 (h:Q .normal a w):Xsz P n Q S fin [] a w:=⟨rfl,h⟩
theorem Xsz.one (hall:∀ q∈rest,q.1≠p.1) (hc:∀ q∈rest,∃ r∈p::rest,waits q r=true)
  (h:p.2.wp P a w (fun a' w'=>(S w'\/(fin && p.1+1 == n)=true)/\Xsz P n Q S fin rest a' w') (NoPanic Q)):Xsz P n Q S fin (p::rest) a w:=by
 refine ⟨.inr ⟨fun h=>(by cases h),fun q hq aA=>?_⟩⟩
 rcases List.mem_cons.1 hq with rfl|hq
 ·have e:(q::rest).filter (fun r=>r.1 != q.1)=rest:=by
   rw [List.filter_cons,if_neg ψ]
   exact List.filter_eq_self.2 (fun r hr=>by simpa using hall r hr)
  rw [e]
  exact Oper.wp_mono (fun a' w' h=>⟨h.1,h.2.out⟩) h
 ·obtain ⟨r,aB,aC⟩:=hc q hq
  unfold Xsj at aA
  rw [List.all_eq_true] at aA
  have:=aA r aB
  rw [aC] at this
  cases this
theorem X5 (hc:(rest.all fun r=>r.1 != i && ((i,o)::rest).any (waits r))=true)
  (h:o.wp P a w (fun a' w'=>(S w'\/(fin && i+1 == n)=true)/\Xsz P n Q S fin rest a' w') (NoPanic Q)):Xsz P n Q S fin ((i,o)::rest) a w:=by
 rw [List.all_eq_true] at hc
 refine Xsz.one (fun q hq=>?_) (fun q hq=>?_) h
 ·have:=hc q hq
  rw [Bool.and_eq_true] at this
  simpa using this.1
 ·have:=hc q hq
  rw [Bool.and_eq_true] at this
  exact List.any_eq_true.1 this.2
theorem Xs3 {u:Oper} (hij:(i != j)=true) (hc:(rest.all fun r=>r.1 != i && r.1 != j && ((i,o)::(j,u)::rest).any (waits r))=true)
  (h:o.wp P a w (fun a' w'=>(S w'\/(fin && i+1 == n)=true)/\Xsz P n Q S fin ((j,u)::rest) a' w') (NoPanic Q)) (h2:u.wp P a w (fun a' w'=>(S w'\/(fin && j+1 == n)=true)/\Xsz P n Q S fin ((i,o)::rest) a' w') (NoPanic Q)):Xsz P n Q S fin ((i,o)::(j,u)::rest) a w:=by
 rw [List.all_eq_true] at hc
 have aB:i≠j:=by simpa using hij
 refine ⟨.inr ⟨fun h=>(by cases h),fun x hx aA=>?_⟩⟩
 rcases List.mem_cons.1 hx with rfl|hx
 ·have e:((i,o)::(j,u)::rest).filter (fun r=>r.1 != i)=(j,u)::rest:=by
   rw [List.filter_cons,if_neg ψ,List.filter_cons,if_pos (by simpa using Ne.symm aB)]
   exact congrArg _ (List.filter_eq_self.2 (fun r hr=>by have:=hc r hr;simp only [Bool.and_eq_true] at this;exact this.1.1))
  rw [e]
  exact Oper.wp_mono (fun a' w' h=>⟨h.1,h.2.out⟩) h
 rcases List.mem_cons.1 hx with rfl|hx
 ·have e:((i,o)::(j,u)::rest).filter (fun r=>r.1 != j)=(i,o)::rest:=by
   rw [List.filter_cons,if_pos (by simpa using aB),List.filter_cons,if_neg ψ]
   exact congrArg _ (List.filter_eq_self.2 (fun r hr=>by have:=hc r hr;simp only [Bool.and_eq_true] at this;exact this.1.2))
  rw [e]
  exact Oper.wp_mono (fun a' w' h=>⟨h.1,h.2.out⟩) h2
 ·have:=hc x hx
  rw [Bool.and_eq_true] at this
  obtain ⟨r,aC,aD⟩:=List.any_eq_true.1 this.2
  unfold Xsj at aA
  rw [List.all_eq_true] at aA
  have:=aA r aC
  rw [aD] at this
  cases this
theorem Z6 (hc:(!(fin && i+1 == n) && rest.all fun r=>r.1 != i && !waits (i,o) r)=true) (c:Value) (hv:∀ w,S w->(execOp a.eval o).run P w=.ok (.value c) w)
  (h:Xsz P n Q S fin rest (a.put o.dst c) w):Xsz P n Q S fin ((i,o)::rest) a w:=by
 rw [Bool.and_eq_true,List.all_eq_true,Bool.not_eq_true'] at hc
 obtain ⟨hl,hc⟩:=hc
 refine ⟨.inl ⟨(i,o),ψ,hl,?_,c,hv,?_⟩⟩
 ·unfold Xsj
  rw [List.all_eq_true]
  intro q hq
  rcases List.mem_cons.1 hq with rfl|hq
  ·simp [waits]
  ·have:=hc q hq;rw [Bool.and_eq_true] at this;exact this.2
 ·have e:((i,o)::rest).filter (fun r=>r.1 != i)=rest:=by
   rw [List.filter_cons,if_neg ψ]
   exact List.filter_eq_self.2 (fun r hr=>by have:=hc r hr;rw [Bool.and_eq_true] at this;exact this.1)
  show Xt9 P n Q S fin rest.length (((i,o)::rest).filter (fun r=>r.1 != i)) _ w
  rw [e]
  exact h.out
theorem Xvy {l':List (Nat×Oper)} (hp:l.Perm l') (h:Xsz P n Q S fin l a w):Xsz P n Q S fin l' a w:=by
 have aB:∀ (f:Nat) (l l':List (Nat×Oper)) (a:Act) (w:World),l.Perm l'->Xt9 P n Q S fin f l a w->Xt9 P n Q S fin f l' a w:=by
  intro f
  induction f with
  | zero=>intro l l' a w hp h;exact ⟨by have:=h.1;subst this;exact hp.symm.eq_nil,h.2⟩
  | succ f ih=>
   intro l l' a w hp h
   have aA:∀ x,Xsj x l=Xsj x l':=fun x=>by
    have:Xsj x l=true↔Xsj x l'=true:=by
     unfold Xsj
     rw [List.all_eq_true,List.all_eq_true]
     exact ⟨fun h y hy=>h y (hp.mem_iff.2 hy),fun h y hy=>h y (hp.mem_iff.1 hy)⟩
    cases h1:Xsj x l<;>cases h2:Xsj x l'<;>simp_all
   rcases h with ⟨x,hx,hl,hf,c,hc,h⟩|⟨h1,h2⟩
   ·exact .inl ⟨x,hp.mem_iff.1 hx,hl,by rw [<-aA];exact hf,c,hc,ih _ _ _ _ (hp.filter _) h⟩
   ·exact .inr ⟨fun e=>h1 (by subst e;exact hp.eq_nil),fun x hx hf=>Oper.wp_mono (fun a' w' h=>⟨h.1,ih _ _ _ _ (hp.filter _) h.2⟩) (h2 x (hp.mem_iff.2 hx) (by rw [aA];exact hf))⟩
 exact ⟨by rw [<-hp.length_eq];exact aB _ _ _ _ _ hp h.out⟩
theorem Xte (h:Xsz P n Q S fin (q::p::rest) a w):Xsz P n Q S fin (p::q::rest) a w:=Xvy (List.Perm.swap p q rest) h
theorem Xu2 (l:List (Nat×Oper)) (h:Xsz P n Q S fin (p::q::(l++rest)) a w):Xsz P n Q S fin (p::(l++q::rest)) a w:=Xvy (List.Perm.cons p List.perm_middle.symm) h
def X1a (o:Oper):List Nat:=o.op.operands.toList.filterMap fun x=>match x with|.tmp d=>some d|_=>none
def Xw1 (o:Oper):Bool:=match o.op with|.select _ _=>true|_=>false
def X1z (ops:Array Oper) (hard:List Nat) (fin:Bool) (n:Nat):Bool:=((List.range ops.size).all fun i=>match ops[i]? with
 | none=>false
 | some o=>o.guard.isNone && !Xw1 o && (Xsk o).all (fun j=>decide (j<i)) && (match o.dst with|none=>true|some d=>decide (d<n)) &&
  (List.range ops.size).all fun j=>match ops[j]? with
   | none=>false
   | some u=>(i == j || o.dst.isNone || o.dst != u.dst) && (match u.dst with|none=>true|some d=>!(X1a o).contains d || ((Xsk o).contains j && (hard.contains i || !hard.contains j)) || (fin && j+1 == ops.size && i != j))) &&
 (!fin || (hard.contains (ops.size - 1) && match ops[ops.size - 1]? with|none=>false|some z=>(List.range (ops.size - 1)).all (fun j=>(Xsk z).contains j || (Xsk z).any fun k=>match ops[k]? with|none=>false|some u=>(Xsk u).contains j)))
structure Xv3 (ops:Array Oper) (hard:List Nat) (fin:Bool) (n:Nat):Prop where
 guard:∀ (i:Nat) o,ops[i]?=some o->o.guard=none
 sel:∀ (i:Nat) o,ops[i]?=some o->∀ cs b,o.op≠.select cs b
 deps:∀ (i:Nat) o,ops[i]?=some o->∀ j∈Xsk o,j<i
 dst:∀ (i:Nat) o,ops[i]?=some o->∀ d,o.dst=some d->d<n
 one:∀ (i j:Nat) o u d,ops[i]?=some o->ops[j]?=some u->o.dst=some d->u.dst=some d->i=j
 look:∀ (i j:Nat) o u d,ops[i]?=some o->ops[j]?=some u->u.dst=some d->.tmp d∈o.op.operands->(j∈Xsk o/\(hard.contains i=false->hard.contains j=false))\/(fin=true/\j+1=ops.size/\i≠j)
 last:fin=true->hard.contains (ops.size - 1)=true
 fin:fin=true->∀ z,ops[ops.size - 1]?=some z->∀ j,j+1<ops.size->j∈Xsk z\/∃ k u,k∈Xsk z/\ops[k]?=some u/\j∈Xsk u
theorem Xzf (h:X1z ops hard fin n=true):Xv3 ops hard fin n:=by
 unfold X1z at h
 rw [Bool.and_eq_true,List.all_eq_true] at h
 obtain ⟨h1,hz⟩:=h
 have aA:∀ (i:Nat) o,ops[i]?=some o->((((o.guard=none/\Xw1 o=false)/\∀ j∈Xsk o,j<i)/\∀ d,o.dst=some d->d<n)/\∀ (j:Nat) u d,ops[j]?=some u->u.dst=some d->(o.dst=some d->i=j)/\(.tmp d∈o.op.operands->(j∈Xsk o/\(hard.contains i=false->hard.contains j=false))\/(fin=true/\j+1=ops.size/\i≠j))):=fun i o ho=>by
  have hi:=(La ho)
  have h2:=h1 i (List.mem_range.2 hi)
  simp only [ho,Bool.and_eq_true,Option.isNone_iff_eq_none,List.all_eq_true,decide_eq_true_eq,Bool.not_eq_true'] at h2
  obtain ⟨⟨⟨⟨h3,aC⟩,h4⟩,h5⟩,h6⟩:=h2
  refine ⟨⟨⟨⟨h3,aC⟩,h4⟩,fun d hd=>?_⟩,fun j u d hu hd=>?_⟩
  ·rw [hd] at h5;simpa using h5
  ·have h7:=h6 j (List.mem_range.2 (La hu))
   simp only [hu,hd,Bool.and_eq_true] at h7
   refine ⟨fun aE=>?_,fun hx=>?_⟩
   ·have:=h7.1;rw [aE] at this;simpa using this
   ·have hm:d∈X1a o:=List.mem_filterMap.2 ⟨.tmp d,by simpa using hx,rfl⟩
    have h8:=h7.2
    simp only [Bool.or_eq_true,Bool.and_eq_true,Bool.not_eq_true'] at h8
    rcases h8 with (h8|⟨h8,h9⟩)|h8
    ·rw [List.contains_iff_mem.2 hm] at h8;cases h8
    ·refine .inl ⟨List.contains_iff_mem.1 h8,fun hn=>?_⟩
     rcases h9 with h9|h9
     ·rw [hn] at h9;cases h9
     ·exact h9
    ·exact .inr ⟨h8.1.1,by simpa using h8.1.2,by simpa using h8.2⟩
 refine ⟨fun i o ho=>(aA i o ho).1.1.1.1,fun i o ho cs b he=>?_,fun i o ho=>(aA i o ho).1.1.2,fun i o ho=>(aA i o ho).1.2,fun i j o u d ho hu hd aD=>((aA i o ho).2 j u d hu aD).1 hd,fun i j o u d ho hu hd hx=>((aA i o ho).2 j u d hu hd).2 hx,fun hf=>?_,fun hf z aF j hj=>?_⟩
 ·have:=(aA i o ho).1.1.1.2
  unfold Xw1 at this
  rw [he] at this
  cases this
 ·rw [hf] at hz
  simp only [Bool.not_true,Bool.false_or,Bool.and_eq_true] at hz
  exact hz.1
 ·rw [hf] at hz
  simp only [Bool.not_true,Bool.false_or,Bool.and_eq_true,aF,List.all_eq_true] at hz
  have h9:=hz.2 j (List.mem_range.2 ω)
  rw [Bool.or_eq_true] at h9
  rcases h9 with h9|h9
  ·exact .inl (List.contains_iff_mem.1 h9)
  ·obtain ⟨k,hk,aB⟩:=List.any_eq_true.1 h9
   cases hu:ops[k]? with
   | none=>rw [hu] at aB;cases aB
   | some u=>rw [hu] at aB;exact .inr ⟨k,u,hk,hu,List.contains_iff_mem.1 aB⟩
theorem Xv3.own (hk:Xv3 ops hard fin n) (ho:ops[i]?=some o) (hod:o.dst=some d) (hd:.tmp d∈o.op.operands):False:=by
 rcases hk.look i i o o d ho ho hod hd with ⟨h,_⟩|⟨_,_,h⟩
 ·have:=hk.deps i o ho i h;omega
 ·exact h rfl
theorem Xr5 (a:Act) (d:Option Tmp) (v:Value):(a.put d v).tmps.size=a.tmps.size:=by cases d<;>simp [Act.put]
theorem Xs6 (a:Act) (d:Option Tmp) (v:Value):(a.put d v).defers=a.defers:=by cases d<;>rfl
theorem Xsf (a:Act) (d:Nat) (v:Value) (h:d<a.tmps.size):(a.put (some d) v).tmps[d]?=some v:=by simp [Act.put,h]
theorem V8 (a:Act) (x:Option Tmp) (d:Nat) (v:Value) (h:x≠some d):(a.put x v).tmps[d]?=a.tmps[d]?:=by
 cases x with
 | none=>rfl
 | some e=>simp [Act.put,Array.getElem?_setIfInBounds_ne (show e≠d from fun he=>h (by rw [he]))]
theorem Xx0 (h1:a.defers=b.defers) (h2:∀ d:Nat,a.tmps[d]?=b.tmps[d]?):a=b:=by
 cases a with|mk t e=>cases b with|mk t' e'=>obtain rfl:=Array.ext_getElem? (show ∀ d:Nat,t[d]?=t'[d]? from h2);obtain rfl:e=e':=h1;rfl
theorem Xtz (o:Oper) (hs:∀ cs b,o.op≠.select cs b) (h:∀ d,.tmp d∈o.op.operands->a.tmps[d]?=b.tmps[d]?):execOp a.eval o=execOp b.eval o:=
 execOp_congr o hs fun x hx=>by
  cases x with
  | tmp d=>simp [Act.eval,Array.getD_eq_getD_getElem?,h d hx]
  | _=>rfl
theorem Xvw (hk:Xv3 ops hard fin n) {K:List (Nat×Oper)->Act->Prop} :
  ∀ (os:List Oper) (i:Nat) (acc:List (Nat×Oper)) (a:Act),os=ops.toList.drop i->a.tmps.size=n->Xr4 P S hard K os i acc a->
   ∃ b left,K (acc++left) b/\b.defers=a.defers/\b.tmps.size=n/\(∀ (j:Nat) o,(j,o)∈left↔i<=j/\ops[j]?=some o/\hard.contains j=true)/\(∀ d,(∀ (j:Nat) o,i<=j->ops[j]?=some o->hard.contains j=false->o.dst≠some d)->b.tmps[d]?=a.tmps[d]?)/\
    (∀ (j:Nat) o,i<=j->ops[j]?=some o->hard.contains j=false->∃ c,(∀ d,o.dst=some d->b.tmps[d]?=some c)/\∀ w,S w->(execOp b.eval o).run P w=.ok (.value c) w)
 | [],i,acc,a,hos,hn,hS=>by
  have hi:ops.size<=i:=by
   have:=congrArg List.length hos
   simp at this
   omega
  have aD:∀ (j:Nat) o,i<=j->ops[j]?=some o->False:=fun j o hj ho=>by have:=(La ho);omega
  exact ⟨a,[],by cases hS with|stop h=>simpa using h,rfl,hn,fun j o=>⟨fun h=>by simp at h,fun h=>(aD j o h.1 h.2.1).elim⟩,fun _ _=>rfl,fun j o hj ho=>(aD j o hj ho).elim⟩
 | o::os,i,acc,a,hos,hn,hS=>by
  have hi:i<ops.toList.length:=by
   have:=congrArg List.length hos
   rw [List.length_drop,List.length_cons] at this
   omega
  rw [List.drop_eq_getElem_cons hi] at hos
  injection hos with e1 e2
  have ho:ops[i]?=some o:=by rw [e1];simp at hi;simp [hi]
  cases hS with
  | skip hh hS=>
   obtain ⟨b,left,h1,h2,h3,h4,h5,h6⟩:=Xvw hk os (i+1) _ a e2 hn hS
   refine ⟨b,(i,o)::left,by simpa using h1,h2,h3,fun j u=>?_,fun d hd=>h5 d (fun j u hj=>hd j u ω),fun j u hj hu aA=>?_⟩
   ·rw [List.mem_cons,h4]
    constructor
    ·rintro (h|⟨h,r⟩)
     ·cases h;exact ⟨Nr _,ho,hh⟩
     ·exact ⟨ω,r⟩
    ·rintro ⟨h,h7,h8⟩
     by_cases e:j=i
     ·subst e;rw [ho] at h7;cases h7;exact .inl rfl
     ·exact .inr ⟨ω,h7,h8⟩
   ·by_cases e:j=i
    ·subst e;rw [hh] at aA;cases aA
    ·exact h6 j u ω hu aA
  | take hf c hc hS=>
   obtain ⟨b,left,h1,h2,h3,h4,h5,h6⟩:=Xvw hk os (i+1) acc (a.put o.dst c) e2 ((Xr5 _ _ _).trans hn) hS
   have aB:∀ d,.tmp d∈o.op.operands->b.tmps[d]?=a.tmps[d]?:=fun d hd=>by
    rw [h5 d (fun j u hj hu aA aC=>by
     rcases hk.look i j o u d ho hu aC hd with ⟨h,_⟩|⟨h,h',_⟩
     ·have:=hk.deps i o ho j h;omega
     ·have:=hk.last h
      rw [show ops.size - 1=j by omega,aA] at this;cases this)]
    exact V8 _ _ _ _ (fun aF=>hk.own ho aF hd)
   refine ⟨b,left,h1,h2.trans (Xs6 _ _ _),h3,fun j u=>?_,fun d hd=>?_,fun j u hj hu aA=>?_⟩
   ·rw [h4]
    constructor
    ·rintro ⟨h,r⟩
     exact ⟨ω,r⟩
    ·rintro ⟨h,h7,h8⟩
     by_cases e:j=i
     ·subst e;rw [hf] at h8;cases h8
     ·exact ⟨ω,h7,h8⟩
   ·rw [h5 d (fun j u hj=>hd j u ω)]
    exact V8 _ _ _ _ (hd i o (Nr _) ho hf)
   ·by_cases e:j=i
    ·subst e
     rw [ho] at hu;cases hu
     refine ⟨c,fun d hd=>?_,fun w hw=>?_⟩
     ·rw [h5 d (fun j' u' aH aG aE aC=>by have:=hk.one j j' o u' d ho aG hd aC;omega),hd]
      exact Xsf _ _ _ (by rw [hn];exact hk.dst j o ho d hd)
     ·rw [Xtz o (hk.sel j o ho) aB];exact hc w hw
    ·exact h6 j u ω hu aA
theorem Xy0 (hs:listed.size=ops.size) (hok:Xv3 ops hard fin n) (hr:Region.ready .any ops listed=[]):∀ i,i<ops.size->listed[i]?=some true:=by
 intro i
 induction i using Nat.strongRecOn with
 | _ i ih=>
  intro hi
  cases hl:listed[i]? with
  | none=>rw [Array.getElem?_eq_none_iff] at hl;omega
  | some b=>
   cases b with
   | true=>rfl
   | false=>
    exfalso
    have ho:ops[i]?=some ops[i]:=Array.getElem?_eq_getElem hi
    have:i∈Region.ready .any ops listed:=by
     unfold Region.ready
     rw [List.mem_filter]
     refine ⟨List.mem_range.2 hi,?_⟩
     rw [ho]
     have hg:listed.getD i true=false:=by rw [Array.getD_eq_getD_getElem?,hl];rfl
     rw [hg]
     simp only [Bool.not_false,Bool.true_and,Option.map_some,Option.getD_some]
     rw [Array.all_eq_true']
     intro e he
     cases hb:Region.binds .any e with
     | false=>rfl
     | true=>
      have hj:e.on∈Xsk ops[i]:=List.mem_map.2 ⟨e,List.mem_filter.2 ⟨by simpa using he,hb⟩,rfl⟩
      have aA:=hok.deps i _ ho _ hj
      rw [Array.getD_eq_getD_getElem?,ih _ aA ω]
      rfl
    rw [hr] at this
    cases this
theorem Xw8 (h:i∈Region.ready .any ops listed) (hs:listed.size=ops.size):∃ o,ops[i]?=some o/\listed[i]?=some false/\∀ j∈Xsk o,listed[j]?=some true:=by
 unfold Region.ready at h
 rw [List.mem_filter,List.mem_range] at h
 obtain ⟨hi,h⟩:=h
 have ho:ops[i]?=some ops[i]:=Array.getElem?_eq_getElem hi
 rw [ho,Bool.and_eq_true] at h
 refine ⟨_,ho,?_,fun j hj=>?_⟩
 ·have h1:=h.1
  rw [Array.getD_eq_getD_getElem?] at h1
  have hl:i<listed.size:=ω
  rw [Array.getElem?_eq_getElem hl] at h1 ⊢
  simpa using h1
 ·obtain ⟨e,he,rfl⟩:=List.mem_map.1 hj
  rw [List.mem_filter] at he
  have h2:=h.2
  simp only [Option.map_some,Option.getD_some] at h2
  rw [Array.all_eq_true'] at h2
  have h3:=h2 e (by simpa using he.1)
  rw [he.2,Array.getD_eq_getD_getElem?] at h3
  simp only [Bool.not_true,Bool.false_or] at h3
  cases hl:listed[e.on]? with
  | none=>rw [hl] at h3;cases h3
  | some b=>rw [hl] at h3;simpa using h3
structure Xuq (P:Program) (S:World->Prop) (fin:Bool) (ops:Array Oper) (n:Nat) (listed:Array Bool) (left:List (Nat×Oper)) (a b:Act) (w:World):Prop where
 lsize:listed.size=ops.size
 defers:a.defers=b.defers
 asize:a.tmps.size=n
 bsize:b.tmps.size=n
 same:∀ d,(∀ (i:Nat) o,ops[i]?=some o->listed[i]?=some false->(i,o)∉left->o.dst≠some d)->a.tmps[d]?=b.tmps[d]?
 soft:∀ (i:Nat) o,ops[i]?=some o->listed[i]?=some false->(i,o)∉left->∃ c,(∀ d,o.dst=some d->b.tmps[d]?=some c)/\∀ w,S w->(execOp b.eval o).run P w=.ok (.value c) w
 look:∀ (i:Nat) o,ops[i]?=some o->listed[i]?=some false->(i,o)∉left->∀ (j:Nat) u d,ops[j]?=some u->u.dst=some d->.tmp d∈o.op.operands->(j,u)∉left\/(fin=true/\j+1=ops.size)
 last:fin=true->∀ o,ops[ops.size - 1]?=some o->listed[ops.size - 1]?=some false->(ops.size - 1,o)∈left
 sub:∀ p∈left,ops[p.1]?=some p.2/\listed[p.1]?=some false
 s:S w\/∀ i,i<ops.size->listed[i]?=some true
 closed:∀ (i:Nat) o,ops[i]?=some o->listed[i]?=some true->∀ j∈Xsk o,listed[j]?=some true
theorem X24 {K K':Act->World->Prop} (he:execOp a.eval o=execOp b.eval o) (hd:a.defers=b.defers) (hK:∀ v w' ds,K ({ b with defers:=ds }.put o.dst v) w'->K' ({ a with defers:=ds }.put o.dst v) w') (h:o.wp P b w K (NoPanic Q)):o.wp P a w K' (NoPanic Q):=by
 unfold Oper.wp at *
 rw [he]
 have aA:∀ v w',K (b.put o.dst v) w'->K' (a.put o.dst v) w':=fun v w' h=>by
  have e:({ a with defers:=b.defers }:Act)=a:=by rw [<-hd]
  have:=hK v w' b.defers h
  rwa [e] at this
 generalize (execOp b.eval o).run P w=r at *
 cases r with
 | ok n w'=>
  cases n<;>simp only [Oper.upon] at h ⊢
  case value v=>exact aA v w' h
  case skip=>exact aA _ w' h
  case defer d=>rw [hd];exact hK _ w' _ h
  case enter f args=>
   refine Calls.mono h fun e w'' he=>?_
   cases e with
   | returned v=>exact aA v w'' he
   | panicked c=>exact he
   | outgrown=>exact he
  case row r args=>exact Rows.mono h fun v w'' h=>aA v w'' h
 | halt x w'=>
  cases x<;>simp only [Oper.upon] at h ⊢
  case panic v=>exact h
theorem Xvg (h:(j,o)∉left.filter (fun q=>q.1 != i)) (hj:j≠i):(j,o)∉left:=fun hm=>h (List.mem_filter.2 ⟨hm,by simpa using hj⟩)
theorem Xuq.take (hk:Xv3 ops hard fin n) (h:Xuq P S fin ops n listed left a b w) (hp:p∈left) (hnl:(fin && p.1+1 == ops.size)=false) (hf:Xsj p left=true) (c:Value)
  (hc:∀ w,S w->(execOp b.eval p.2).run P w=.ok (.value c) w):Xuq P S fin ops n listed (left.filter (fun q=>q.1 != p.1)) a (b.put p.2.dst c) w:=by
 obtain ⟨i,o⟩:=p
 obtain ⟨ho,hl⟩:=h.sub _ hp
 dsimp only at ho hl hc hnl ⊢
 have aE:¬(fin=true/\i+1=ops.size):=fun e=>by rw [e.1,e.2] at hnl;simp at hnl
 have aG:∀ j u,j∈Xsk o->j≠i->(j,u)∉left:=fun j u hj aF hm=>by
  unfold Xsj at hf
  rw [List.all_eq_true] at hf
  have:=hf _ hm
  unfold waits at this
  rw [List.contains_iff_mem.2 hj] at this
  simp at this
  exact aF this.symm
 have aH:∀ d,.tmp d∈o.op.operands->o.dst≠some d:=fun d hd aA=>hk.own ho aA hd
 refine ⟨h.lsize,h.defers.trans (Xs6 _ _ _).symm,h.asize,(Xr5 _ _ _).trans h.bsize,fun d hd=>?_,fun j u hu aB aC=>?_,fun j u hu aB aC k v d hv aI hx=>?_,fun hf u hu hl=>List.mem_filter.2 ⟨h.last hf u hu hl,by simp;intro e;exact aE ⟨hf,by have:=(La ho);omega⟩⟩,fun q hq=>h.sub q (List.mem_filter.1 hq).1,h.s,h.closed⟩
 ·have aA:o.dst≠some d:=hd i o ho hl (fun hm=>by simp at hm)
  rw [V8 _ _ _ _ aA]
  exact h.same d (fun j u hu aB aC=>hd j u hu aB (fun hm=>aC (List.mem_filter.1 hm).1))
 ·by_cases e:j=i
  ·subst e
   rw [ho] at hu;cases hu
   exact ⟨c,fun d hd=>by rw [hd];exact Xsf _ _ _ (by rw [h.bsize];exact hk.dst j o ho d hd),fun w hw=>by
    rw [Xtz o (hk.sel j o ho) (fun d hd=>V8 _ _ _ _ (aH d hd))];exact hc w hw⟩
  ·have aD:=Xvg aC e
   obtain ⟨x,h1,h2⟩:=h.soft j u hu aB aD
   refine ⟨x,fun d hd=>?_,fun w hw=>?_⟩
   ·rw [V8 _ _ _ _ (fun aA=>e (hk.one j i u o d hu ho hd aA))];exact h1 d hd
   ·rw [<-h2 w hw]
    exact congrArg (fun s=>Sem.run P s w) (Xtz u (hk.sel j u hu) (fun d hx=>V8 _ _ _ _ (fun aA=>(h.look j u hu aB aD i o d ho aA hx).elim (fun h=>h hp) aE)))
 ·by_cases e:j=i
  ·subst e
   rw [ho] at hu;cases hu
   rcases hk.look j k o v d ho hv aI hx with ⟨aF,_⟩|⟨h1,h2,_⟩
   ·exact .inl fun hm=>aG k v aF (fun e2=>by have:=hk.deps j o ho k aF;omega) (List.mem_filter.1 hm).1
   ·exact .inr ⟨h1,h2⟩
  ·rcases h.look j u hu aB (Xvg aC e) k v d hv aI hx with h1|h1
   ·exact .inl fun hm=>h1 (List.mem_filter.1 hm).1
   ·exact .inr h1
def X4j (P:Program) (n:Nat) (Q:Exit->Act->World->Prop) (S:World->Prop) (fin:Bool) (f:Nat) (left:List (Nat×Oper)) (a:Act) (w:World):Prop:=
 (left=[]->Q .normal a w)/\∀ p∈left,Xsj p left=true->p.2.wp P a w (fun a' w'=>(S w'\/(fin && p.1+1 == n)=true)/\Xt9 P n Q S fin f (left.filter (fun q=>q.1 != p.1)) a' w') (NoPanic Q)
theorem Xuq.norm (hk:Xv3 ops hard fin n) :
  ∀ (f:Nat) (left:List (Nat×Oper)) (b:Act),Xuq P S fin ops n listed left a b w->Xt9 P ops.size Q S fin f left b w->∃ left' f' b',Xuq P S fin ops n listed left' a b' w/\X4j P ops.size Q S fin f' left' b' w
 | 0,left,b,h,hH=>⟨left,0,b,h,fun _=>hH.2,fun p hp=>by rw [hH.1] at hp;cases hp⟩
 | f+1,left,b,h,hH=>by
  rcases hH with ⟨p,hp,aA,hf,c,hc,hH⟩|hH
  ·exact Xuq.norm hk f _ _ (h.take hk hp aA hf c hc) hH
  ·exact ⟨left,f,b,h,hH⟩
theorem X2j (hk:Xv3 ops hard fin n) :
  ∀ (fuel:Nat) (aA:Array Bool) (left:List (Nat×Oper)) (f:Nat) (a b:Act) (w:World),Xuq P S fin ops n aA left a b w->aA.toList.count false<=fuel->Xt9 P ops.size Q S fin f left b w->wpAny P .any ops (NoPanic Q) fuel aA a w:=by
 intro fuel
 have aL:∀ (aA:Array Bool) (left:List (Nat×Oper)) (f:Nat) (a b:Act) (w:World),Xuq P S fin ops n aA left a b w->Region.ready .any ops aA=[]->Xt9 P ops.size Q S fin f left b w->NoPanic Q .normal a w:=fun aA left f a b w h hr hH=>by
  obtain ⟨left,f,b,h,hH⟩:=h.norm hk f left b hH
  have aG:=Xy0 h.lsize hk hr
  have hl:left=[]:=by
   cases left with
   | nil=>rfl
   | cons p l=>
    have:=h.sub p ψ
    have h2:=aG p.1 (La this.1)
    rw [this.2] at h2
    cases h2
  have aX:a=b:=Xx0 h.defers (fun d=>h.same d (fun i o ho hf _=>by
   have h2:=aG i (La ho)
   rw [hf] at h2
   cases h2))
  subst aX
  exact hH.1 hl
 induction fuel with
 | zero=>
  intro aA left f a b w h hc hH
  have hr:Region.ready .any ops aA=[]:=by
   rcases hrr:Region.ready .any ops aA with _|⟨i,rs⟩
   ·rfl
   ·exfalso
    obtain ⟨o,ho,hl,-⟩:=Xw8 (i:=i) (by rw [hrr];simp) h.lsize
    have h0:aA.toList.count false=0:=ω
    rw [List.count_eq_zero] at h0
    exact h0 (by obtain ⟨h1,h2⟩:=Array.getElem?_eq_some_iff.1 hl;rw [<-h2];simp)
  exact ⟨hr,aL aA left f a b w h hr hH⟩
 | succ fuel ih=>
  intro aA left f a b w h hc hH
  refine ⟨fun hr=>aL aA left f a b w h hr hH,fun i hi=>?_⟩
  obtain ⟨left,f,b,h,hH⟩:=h.norm hk f left b hH
  obtain ⟨o,ho,hl,hd⟩:=Xw8 hi h.lsize
  have aY:i<aA.size:=(La hl)
  have aZ:i<ops.size:=(La ho)
  have aS:S w:=by
   rcases h.s with hs|hs
   ·exact hs
   ·have:=hs i aZ;rw [hl] at this;cases this
  have aT:(aA.setIfInBounds i true).toList.count false<=fuel:=by
   have h2:(aA.setIfInBounds i true).toList.count false=aA.toList.count false - 1:=by
    obtain ⟨h1,h2⟩:=Array.getElem?_eq_some_iff.1 hl
    rw [Array.toList_setIfInBounds,List.count_set (a:=true) (b:=false) (l:=aA.toList) (i:=i) (by simpa using h1)]
    have h3:aA.toList[i]'(by simpa using h1)=false:=by simpa using h2
    rw [h3]
    rfl
   have h4:0<aA.toList.count false:=by
    obtain ⟨h1,h2⟩:=Array.getElem?_eq_some_iff.1 hl
    exact List.count_pos_iff.2 (by rw [<-h2];simp)
   omega
  have aR:∀ d,.tmp d∈o.op.operands->a.tmps[d]?=b.tmps[d]?:=fun d hx=>h.same d (fun j u hu aE aF bE=>by
   rcases hk.look i j o u d ho hu bE hx with ⟨h1,_⟩|⟨h1,h2,_⟩
   ·have:=hd j h1
    rw [aE] at this
    cases this
   ·obtain rfl:j=ops.size - 1:=ω
    exact aF (h.last h1 u hu aE))
  have aG:fin=true->i+1=ops.size->∀ j,j≠i->j<ops.size->aA[j]?=some true:=fun hf aP j aI hj=>by
   rcases hk.fin hf o (by rw [<-aP];exact ho) j ω with h9|⟨k,u,h9,hu,bA⟩
   ·exact hd j h9
   ·exact h.closed k u hu (hd k h9) j bA
  have he:=Xtz o (hk.sel i o ho) aR
  have aB:∀ j,j≠i->(aA.setIfInBounds i true)[j]?=aA[j]?:=fun j hj=>Array.getElem?_setIfInBounds_ne (Ne.symm hj)
  have aH:(aA.setIfInBounds i true)[i]?=some true:=by simp [aY]
  have aK:∀ j,(aA.setIfInBounds i true)[j]?=some false->j≠i/\aA[j]?=some false:=fun j hj=>by
   by_cases e:j=i
   ·subst e;rw [aH] at hj;cases hj
   ·rw [aB j e] at hj;exact ⟨e,hj⟩
  have aU:∀ (k:Nat) u,ops[k]?=some u->(aA.setIfInBounds i true)[k]?=some true->∀ j∈Xsk u,(aA.setIfInBounds i true)[j]?=some true:=fun k u hu aJ j hj=>by
   by_cases e:j=i
   ·subst e;exact aH
   ·rw [aB j e]
    by_cases e2:k=i
    ·subst e2;rw [ho] at hu;cases hu;exact hd j hj
    ·rw [aB k e2] at aJ;exact h.closed k u hu aJ j hj
  unfold wpOp
  rw [ho]
  simp only []
  rw [if_pos (by unfold Region.wanted;rw [hk.guard i o ho])]
  refine .inl ?_
  by_cases hm:(i,o)∈left
  ·have bF:=hH.2 (i,o) hm (by
    unfold Xsj
    rw [List.all_eq_true]
    intro q hq
    unfold waits
    cases hw:(Xsk o).contains q.1 with
    | false=>simp
    | true=>
     have h1:=hd q.1 (List.contains_iff_mem.1 hw)
     have h2:=(h.sub q hq).2
     rw [h1] at h2
     cases h2)
   refine X24 he h.defers (fun v w' ds hK=>?_) bF
   obtain ⟨aW,aV⟩:=hK
   refine ih _ _ f _ _ w' ⟨by simpa using h.lsize,(Xs6 { a with defers:=ds } o.dst v).trans (Xs6 { b with defers:=ds } o.dst v).symm,(Xr5 _ _ _).trans h.asize,(Xr5 _ _ _).trans h.bsize,fun d aO=>?_,fun j u hu aE aF=>?_,fun j u hu aE aF k x d hx bG bH=>?_,fun hf u hu aJ=>?_,fun q hq=>?_,?_,aU⟩ aT aV
   ·by_cases aC:o.dst=some d
    ·simp only [aC]
     rw [Xsf _ _ _ (by show d<a.tmps.size;rw [h.asize];exact hk.dst i o ho d aC),Xsf _ _ _ (by show d<b.tmps.size;rw [h.bsize];exact hk.dst i o ho d aC)]
    ·rw [V8 _ _ _ _ aC,V8 _ _ _ _ aC]
     exact h.same d (fun j u hu aE aF=>by
      by_cases e:j=i
      ·subst e;rw [ho] at hu;cases hu;exact aC
      ·exact aO j u hu (by rw [aB j e];exact aE) (fun aQ=>aF (List.mem_filter.1 aQ).1))
   ·obtain ⟨aI,aD⟩:=aK j aE
    have aM:=Xvg aF aI
    obtain ⟨c,h1,h2⟩:=h.soft j u hu aD aM
    have bB:∀ d,u.dst=some d->o.dst≠some d:=fun d aN aC=>aI (hk.one j i u o d hu ho aN aC)
    refine ⟨c,fun d aN=>by rw [V8 _ _ _ _ (bB d aN)];exact h1 d aN,fun w hw=>?_⟩
    rw [<-h2 w hw]
    exact congrArg (fun s=>Sem.run P s w) (Xtz u (hk.sel j u hu) (fun d hx=>V8 _ _ _ _ (fun aC=>(h.look j u hu aD aM i o d ho aC hx).elim (fun h=>h hm) (fun h9=>by
     have:=aG h9.1 h9.2 j aI (La hu)
     rw [aD] at this;cases this))))
   ·obtain ⟨aI,aD⟩:=aK j aE
    rcases h.look j u hu aD (Xvg aF aI) k x d hx bG bH with h1|h1
    ·exact .inl fun aQ=>h1 (List.mem_filter.1 aQ).1
    ·exact .inr h1
   ·obtain ⟨aI,aD⟩:=aK _ aJ
    exact List.mem_filter.2 ⟨h.last hf u hu aD,by simpa using aI⟩
   ·obtain ⟨bC,bD⟩:=List.mem_filter.1 hq
    obtain ⟨h1,h2⟩:=h.sub q bC
    exact ⟨h1,by rw [aB q.1 (by simpa using bD)];exact h2⟩
   ·rcases aW with hs|hs
    ·exact .inl hs
    ·right
     rw [Bool.and_eq_true] at hs
     have aP:i+1=ops.size:=by simpa using hs.2
     intro j hj
     by_cases e:j=i
     ·subst e;exact aH
     ·rw [aB j e]
      exact aG hs.1 aP j e hj
  ·obtain ⟨c,h1,h2⟩:=h.soft i o ho hl hm
   unfold Oper.wp
   rw [he,h2 w aS]
   show wpAny P .any ops (NoPanic Q) fuel (aA.setIfInBounds i true) (a.put o.dst c) w
   have hR:Xuq P S fin ops n (aA.setIfInBounds i true) left (a.put o.dst c) b w:=⟨by simpa using h.lsize,(Xs6 _ _ _).trans h.defers,(Xr5 _ _ _).trans h.asize,h.bsize,fun d aO=>by
    by_cases aC:o.dst=some d
    ·simp only [aC]
     rw [Xsf _ _ _ (by rw [h.asize];exact hk.dst i o ho d aC),h1 d aC]
    ·rw [V8 _ _ _ _ aC]
     exact h.same d (fun j u hu aE aF=>by
      by_cases e:j=i
      ·subst e;rw [ho] at hu;cases hu;exact aC
      ·exact aO j u hu (by rw [aB j e];exact aE) aF),fun j u hu aE aF=>h.soft j u hu (aK j aE).2 aF,fun j u hu aE aF=>h.look j u hu (aK j aE).2 aF,fun hf u hu aJ=>h.last hf u hu (aK _ aJ).2,fun q hq=>by
    obtain ⟨k1,k2⟩:=h.sub q hq
    refine ⟨k1,?_⟩
    rw [aB q.1 (fun e=>hm ?_)]
    ·exact k2
    ·have:q=(i,o):=by
      obtain ⟨q1,q2⟩:=q
      dsimp only at e k1
      subst e
      rw [ho] at k1;cases k1;rfl
     rw [<-this];exact hq,.inl aS,aU⟩
   exact ih _ left (f+1) _ b w hR aT (.inr hH)
theorem X6 (S:World->Prop) (hard:List Nat) (fin:Bool) (n:Nat) (hn:ops.size=n) (hm:P.follows .mixedOrders=true) (hok:X1z ops hard fin a.tmps.size=true) (hS:S w.drew)
  (h:Xr4 P S hard (fun left b=>Xsz P n Q S fin left b w.drew) ops.toList 0 [] a):(Code.region id ops true).wp P Q a w:=by
 subst hn
 have hk:=Xzf hok
 obtain ⟨b,left,h1,h2,h3,h4,h5,h6⟩:=Xvw hk ops.toList 0 [] a rfl rfl h
 have aA:∀ (i:Nat) o,ops[i]?=some o->(i,o)∉left->hard.contains i=false:=fun i o ho hm=>by
  cases hh:hard.contains i with
  | false=>rfl
  | true=>exact absurd ((h4 i o).2 ⟨Nat.zero_le _,ho,hh⟩) hm
 refine wp_region_noPanic (wp_region_any hm (X2j hk ops.size _ left left.length a b _ ⟨ψ,h2.symm,rfl,h3,fun d hd=>(h5 d (fun j o _ ho aB=>hd j o ho (by simp [(La ho)]) (fun hm=>by have:=((h4 j o).1 hm).2.2;rw [aB] at this;cases this))).symm,fun i o ho _ hm=>h6 i o (Nat.zero_le _) ho (aA i o ho hm),fun i o ho _ hm j u d hu aD hx=>?_,fun hf o ho _=>(h4 _ _).2 ⟨Nat.zero_le _,ho,hk.last hf⟩,fun p hp=>?_,.inl hS,fun i o ho hl=>(by have h8:i<ops.size:=(La ho);rw [Array.getElem?_replicate,if_pos h8] at hl;cases hl)⟩ ψ h1.out))
 ·rcases hk.look i j o u d ho hu aD hx with ⟨_,h⟩|⟨h,h',_⟩
  ·refine .inl fun aC=>?_
   have:=h (aA i o ho hm)
   rw [((h4 j u).1 aC).2.2] at this
   cases this
  ·exact .inr ⟨h,h'⟩
 ·obtain ⟨_,k1,_⟩:=(h4 p.1 p.2).1 hp
  exact ⟨k1,by simp [(La k1)]⟩
theorem Xy4 (hn:(l.map (·.1)).Nodup) (hx:x∈l):(l.filter (fun q=>q.1 != x.1)).length+1=l.length:=by
 induction l with
 | nil=>cases hx
 | cons y l ih=>
  rw [List.map_cons,List.nodup_cons] at hn
  rcases List.mem_cons.1 hx with rfl|hx
  ·rw [List.filter_cons,if_neg ψ,List.filter_eq_self.2 (fun q hq=>by
    have:q.1≠x.1:=fun e=>hn.1 (by rw [<-e];exact List.mem_map_of_mem hq)
    simpa using this)]
   rfl
  ·have aA:y.1≠x.1:=fun e=>hn.1 (by rw [e];exact List.mem_map_of_mem hx)
   rw [List.filter_cons,if_pos (by simpa using aA),List.length_cons,List.length_cons,ih hn.2 hx]
theorem X0e (fs rest:List (Nat×Oper)) (core:List Nat) (Inv:List Nat->Act->World->Prop) (h0:Inv [] a w) (hne:((fs++rest).map (·.1)).Nodup)
  (hw:∀ r∈rest,∀ i∈core,∀ o,(i,o)∈fs->waits r (i,o)=true) (hcf:∀ i∈core,∃ o,(i,o)∈fs)
  (hstep:∀ p∈fs,∀ done a w,p.1∉done->Inv done a w->p.2.wp P a w (fun a' w'=>(S w'\/(fin && p.1+1 == n)=true)/\Inv (p.1::done) a' w') (NoPanic Q))
  (hend:∀ done a w,(∀ i∈core,i∈done)->Inv done a w->Xsz P n Q S fin (fs.filter (fun p=>!done.contains p.1)++rest) a w):Xsz P n Q S fin (fs++rest) a w:=by
 have aS:∀ (k:Nat) (done:List Nat) (a:Act) (w:World),(fs.filter (fun p=>!done.contains p.1)).length<=k->Inv done a w->Xsz P n Q S fin (fs.filter (fun p=>!done.contains p.1)++rest) a w:=by
  intro k
  induction k with
  | zero=>
   intro done a w hk hI
   refine hend done a w (fun i hi=>?_) hI
   obtain ⟨o,ho⟩:=hcf i hi
   have aH:=List.eq_nil_of_length_eq_zero (Nat.le_zero.1 hk)
   by_cases hd:i∈done
   ·exact hd
   ·have:(i,o)∈fs.filter (fun p=>!done.contains p.1):=List.mem_filter.2 ⟨ho,by simpa using hd⟩
    rw [aH] at this
    cases this
  | succ k ih=>
   intro done a w hk hI
   by_cases hc:∀ i∈core,i∈done
   ·exact hend done a w hc hI
   ·have aM:∃ i∈core,i∉done:=Classical.byContradiction fun aN=>hc fun i hi=>Classical.byContradiction fun hd=>aN ⟨i,hi,hd⟩
    obtain ⟨i,hi,hd⟩:=aM
    obtain ⟨o,ho⟩:=hcf i hi
    have aK:(i,o)∈fs.filter (fun p=>!done.contains p.1):=List.mem_filter.2 ⟨ho,by simpa using hd⟩
    have aI:(fs.filter (fun p=>!done.contains p.1)++rest).map (·.1) |>.Nodup:=by
     refine List.Nodup.sublist ?_ hne
     exact (List.Sublist.append List.filter_sublist (List.Sublist.refl _)).map _
    have aG:∀ x,x∈fs.filter (fun p=>!done.contains p.1)++rest->((fs.filter (fun p=>!done.contains p.1)++rest).filter (fun q=>q.1 != x.1)).length+1=(fs.filter (fun p=>!done.contains p.1)++rest).length:=fun x hx=>Xy4 aI hx
    obtain ⟨f,hf⟩:∃ f,(fs.filter (fun p=>!done.contains p.1)++rest).length=f+1:=⟨(fs.filter (fun p=>!done.contains p.1)++rest).length - 1,by have:=aG _ (List.mem_append_left _ aK);omega⟩
    refine ⟨?_⟩
    rw [hf]
    refine .inr ⟨fun e=>(by rw [e] at hf;cases hf),fun x hx aB=>?_⟩
    rcases List.mem_append.1 hx with aP|aQ
    ·obtain ⟨aL,aR⟩:=List.mem_filter.1 aP
     have aJ:x.1∉done:=by simpa using aR
     have aA:rest.filter (fun q=>q.1 != x.1)=rest:=List.filter_eq_self.2 (fun q hq=>by
      have aF:=hne
      rw [List.map_append,List.nodup_append] at aF
      have:q.1≠x.1:=fun e=>aF.2.2 _ (List.mem_map_of_mem aL) _ (List.mem_map_of_mem hq) e.symm
      simpa using this)
     have aC:(fs.filter (fun p=>!done.contains p.1)).filter (fun q=>q.1 != x.1)=fs.filter (fun p=>!(x.1::done).contains p.1):=by
      rw [List.filter_filter]
      refine List.filter_congr (fun q _=>?_)
      by_cases e:q.1=x.1<;>simp [e]
     have aD:=aG x hx
     rw [hf,List.filter_append,aA,aC] at aD
     have aE:(fs.filter (fun p=>!(x.1::done).contains p.1)).length+rest.length=f:=by
      rw [List.length_append] at aD;omega
     refine Oper.wp_mono (fun a' w' h=>⟨h.1,?_⟩) (hstep x aL done a w aJ hI)
     have hH:=ih (x.1::done) a' w' (by rw [List.length_append] at hf;omega) h.2
     rw [List.filter_append,aA,aC]
     have:=hH.out
     rw [List.length_append,aE] at this
     exact this
    ·exfalso
     have aO:=hw x aQ i hi o ho
     unfold Xsj at aB
     rw [List.all_eq_true] at aB
     have:=aB (i,o) (List.mem_append_left _ aK)
     rw [aO] at this
     cases this
 have:=aS fs.length [] a w (List.length_filter_le _ _) h0
 rw [List.filter_eq_self.2 (fun p _=>by simp)] at this
 exact this
theorem Xzi (hn:(l.map (·.1)).Nodup) (hx:x∈l):(l.filter (fun q=>q.1 != x.1)).length+1=l.length:=by
 induction l with
 | nil=>cases hx
 | cons y l ih=>
  rw [List.map_cons,List.nodup_cons] at hn
  rcases List.mem_cons.1 hx with rfl|hx
  ·rw [List.filter_cons,if_neg ψ,List.filter_eq_self.2 (fun q hq=>by
    have:q.1≠x.1:=fun e=>hn.1 (by rw [<-e];exact List.mem_map_of_mem hq)
    simpa using this)]
   rfl
  ·have aA:y.1≠x.1:=fun e=>hn.1 (by rw [e];exact List.mem_map_of_mem hx)
   rw [List.filter_cons,if_pos (by simpa using aA),List.length_cons,List.length_cons,ih hn.2 hx]
theorem Xyc (ops:List (Nat×Oper)) (Inv:List Nat->Act->World->Prop) (h0:Inv [] a w) (hne:(ops.map (·.1)).Nodup)
  (hstep:∀ p∈ops,∀ done a w,p.1∉done->(∀ q∈ops,waits p q=true->q.1∈done)->Inv done a w->p.2.wp P a w (fun a' w'=>(S w'\/(fin && p.1+1 == n)=true)/\Inv (p.1::done) a' w') (NoPanic Q))
  (hend:∀ done a w,(∀ p∈ops,p.1∈done)->Inv done a w->Q .normal a w):Xsz P n Q S fin ops a w:=by
 have aH:∀ (k:Nat) (done:List Nat) (a:Act) (w:World),(ops.filter (fun p=>!done.contains p.1)).length=k->Inv done a w->Xt9 P n Q S fin k (ops.filter (fun p=>!done.contains p.1)) a w:=by
  intro k
  induction k with
  | zero=>
   intro done a w hk hI
   have aC:=List.eq_nil_of_length_eq_zero hk
   refine ⟨aC,hend done a w (fun p hp=>?_) hI⟩
   by_cases hd:p.1∈done
   ·exact hd
   ·have:p∈ops.filter (fun p=>!done.contains p.1):=List.mem_filter.2 ⟨hp,by simpa using hd⟩
    rw [aC] at this
    cases this
  | succ k ih=>
   intro done a w hk hI
   refine .inr ⟨fun e=>(by rw [e] at hk;cases hk),fun x hx aA=>?_⟩
   obtain ⟨aG,aF⟩:=List.mem_filter.1 hx
   have aE:x.1∉done:=by simpa using aF
   have aB:(ops.filter (fun p=>!done.contains p.1)).filter (fun q=>q.1 != x.1)=ops.filter (fun p=>!(x.1::done).contains p.1):=by
    rw [List.filter_filter]
    refine List.filter_congr (fun q _=>?_)
    by_cases e:q.1=x.1<;>simp [e]
   have aD:=Xzi (List.Nodup.sublist (List.filter_sublist.map _) hne) hx
   rw [aB] at aD
   refine Oper.wp_mono (fun a' w' h=>⟨h.1,?_⟩) (hstep x aG done a w aE (fun q hq hw=>?_) hI)
   ·rw [aB]
    exact ih (x.1::done) a' w' ω h.2
   ·by_cases hd:q.1∈done
    ·exact hd
    ·unfold Xsj at aA
     rw [List.all_eq_true] at aA
     have:=aA q (List.mem_filter.2 ⟨hq,by simpa using hd⟩)
     rw [hw] at this
     cases this
 have h:=aH _ [] a w rfl h0
 rw [List.filter_eq_self.2 (fun p _=>by simp)] at h
 exact ⟨h⟩
def Xtx (a:Act) (sl:Nat->Option Tmp) (f:Nat->Value):List Nat->Act
 | []=>a
 | i::l=>(Xtx a sl f l).put (sl i) (f i)
theorem Xxi (a:Act) (sl:Nat->Option Tmp) (f:Nat->Value):∀ l,(Xtx a sl f l).tmps.size=a.tmps.size
 | []=>rfl
 | _::l=>(Xr5 _ _ _).trans (Xxi a sl f l)
theorem Xwk (a:Act) (sl:Nat->Option Tmp) (f:Nat->Value) (d:Nat):∀ l:List Nat,(∀ i∈l,sl i≠some d)->(Xtx a sl f l).tmps[d]?=a.tmps[d]?
 | [],_=>rfl
 | i::l,h=>by
  show ((Xtx a sl f l).put (sl i) (f i)).tmps[d]?=_
  rw [V8 _ _ _ _ (h i ψ)]
  exact Xwk a sl f d l (fun j hj=>h j (by simp [hj]))
theorem Xz7 (hd:sl i=some d) (hs:d<a.tmps.size):∀ {l:List Nat},i∈l->(∀ j∈l,sl j=some d->j=i)->(Xtx a sl f l).tmps[d]?=some (f i)
 | j::l,hi,hu=>by
  show ((Xtx a sl f l).put (sl j) (f j)).tmps[d]?=_
  by_cases e:j=i
  ·subst e
   rw [hd]
   exact Xsf _ _ _ (by rw [Xxi];exact hs)
  ·rw [V8 _ _ _ _ (fun h=>e (hu j ψ h))]
   exact Xz7 hd hs (by rcases List.mem_cons.1 hi with h|h;exact absurd h.symm e;exact h) (fun k hk=>hu k (by simp [hk]))
theorem Xu0 {g:Nat->Value}:∀ {l:List Nat},(∀ i∈l,f i=g i)->Xtx a sl f l=Xtx a sl g l
 | [],_=>rfl
 | i::l,h=>by
  show (Xtx a sl f l).put _ _=(Xtx a sl g l).put _ _
  rw [Xu0 (l:=l) (fun j hj=>h j (by simp [hj])),h i ψ]
theorem X0m (a:Act) {i j:Option Tmp} (u v:Value) (h:∀ d,i=some d->j≠some d):(a.put i u).put j v=(a.put j v).put i u:=by
 cases i with
 | none=>rfl
 | some i=>
  cases j with
  | none=>rfl
  | some j=>
   have aA:i≠j:=fun e=>h i rfl (by rw [e])
   refine Xx0 rfl (fun d=>?_)
   by_cases h1:d=j
   ·subst h1
    rw [V8 (a.put (some d) v) _ _ _ (fun e=>aA (by simpa using e))]
    by_cases hd:d<a.tmps.size
    ·rw [Xsf _ _ _ (by rw [Xr5];exact hd),Xsf _ _ _ hd]
    ·rw [Array.getElem?_eq_none (by rw [Xr5,Xr5];omega),Array.getElem?_eq_none (by rw [Xr5];omega)]
   ·rw [V8 _ _ _ _ (fun e=>h1 (by simpa using e.symm))]
    by_cases h2:d=i
    ·subst h2
     by_cases hd:d<a.tmps.size
     ·rw [Xsf _ _ _ hd,Xsf _ _ _ (by rw [Xr5];exact hd)]
     ·rw [Array.getElem?_eq_none (by rw [Xr5];omega),Array.getElem?_eq_none (by rw [Xr5,Xr5];omega)]
    ·rw [V8 _ _ _ _ (fun e=>h2 (by simpa using e.symm)),V8 _ _ _ _ (fun e=>h2 (by simpa using e.symm)),V8 _ _ _ _ (fun e=>h1 (by simpa using e.symm))]
theorem X0k {l:List Nat} (hp:l.Perm l'):(∀ i∈l,∀ j∈l,∀ d,sl i=some d->sl j=some d->i=j)->Xtx a sl f l=Xtx a sl f l':=by
 induction hp with
 | nil=>intro _;rfl
 | cons x _ ih=>intro h;exact congrArg (fun q:Act=>q.put (sl x) (f x)) (ih (fun i hi j hj=>h i (by simp [hi]) j (by simp [hj])))
 | swap x y l=>
  intro h
  show ((Xtx a sl f l).put (sl x) (f x)).put (sl y) (f y)=((Xtx a sl f l).put (sl y) (f y)).put (sl x) (f x)
  by_cases e:x=y
  ·subst e;rfl
  ·exact X0m _ _ _ (fun d hx hy=>e (h x ψ y ψ d hx hy))
 | trans h1 _ ih1 ih2=>intro h;exact (ih1 h).trans (ih2 (fun i hi j hj=>h i (h1.mem_iff.2 hi) j (h1.mem_iff.2 hj)))
theorem X0s {l:List Nat} (hn:l.Nodup) (hn':l'.Nodup) (h1:∀ i∈l,i∈l') (h2:∀ i∈l',i∈l) (hi:∀ i∈l',∀ j∈l',∀ d,sl i=some d->sl j=some d->i=j):Xtx a sl f l=Xtx a sl f l':=
 X0k ((List.perm_ext_iff_of_nodup hn hn').2 (fun i=>⟨h1 i,h2 i⟩)) (fun i h j k=>hi i (h1 i h) j (h1 j k))
def Xu1 (n i:Nat):Array Bool:=Array.ofFn (n:=n) (fun j=>decide (j.val<i))
def Xxs (ops:Array Oper) (hard:List Nat):Bool:=Region.noSelect ops && (List.range ops.size).all fun i=>if hard.contains i then Region.ready .any ops (Xu1 ops.size i) == [i] else Region.free .any ops (Xu1 ops.size i) i && (Region.ready .any ops (Xu1 ops.size i)).contains i
structure Hw (P:Program) (ops:Array Oper) (hard:List Nat) (Q:Exit->Act->World->Prop) (S:World->Prop) (i:Nat) (os:List Oper) (a:Act) (w:World):Prop where
 out:Xxs ops hard=true->ops.toList.drop i=os->S w->wpAnyH P .any ops (NoPanic Q) S os.length (Xu1 ops.size i) a w
theorem Xwa (h:j<n):(Xu1 n i)[j]?=some (decide (j<i)):=by
 unfold Xu1;rw [Array.getElem?_ofFn];simp [h]
theorem Xwl :(Xu1 n i).setIfInBounds i true=Xu1 n (i+1):=by
 have z:∀ k,(Xu1 n k).size=n:=fun k=>by simp [Xu1]
 apply Array.ext_getElem?
 intro j
 by_cases hj:j<n
 ·rw [Xwa hj,Array.getElem?_setIfInBounds,z]
  by_cases e:i=j
  ·subst e;simp [hj]
  ·rw [if_neg e,Xwa hj]
   exact congrArg some φ
 ·rw [Array.getElem?_eq_none (by simp [z];omega),Array.getElem?_eq_none (by rw [z];omega)]
theorem Xxr (h:ops.toList.drop i=o::os):ops[i]?=some o/\ops.toList.drop (i+1)=os:=by
 have h1:ops.toList[i]?=some o:=by
  have:=congrArg (fun l=>l[0]?) h
  simpa using this
 refine ⟨by simpa using h1,?_⟩
 rw [<-List.drop_drop,h];rfl
theorem Xyo (S:World->Prop) (hard:List Nat) (hm:P.follows .mixedOrders=true) (hok:Xxs ops hard=true) (hS:S w.drew) (h:Hw P ops hard Q S 0 ops.toList a w.drew):(Code.region id ops true).wp P Q a w:=by
 refine wp_region_noPanic (wp_region_held_drew (S:=S) hm hS (fun hS=>?_))
 have:=h.out hok rfl hS
 have e:Xu1 ops.size 0=Array.replicate ops.size false:=by
  apply Array.ext_getElem?
  intro j
  by_cases hj:j<ops.size
  ·rw [Xwa hj,Array.getElem?_replicate,if_pos hj];rfl
  ·rw [Array.getElem?_eq_none (by simp [Xu1];omega),Array.getElem?_eq_none φ]
 rw [e] at this
 exact this
theorem Xxz (h:Q .normal a w):Hw P ops hard Q S i [] a w:=⟨fun _ hd _=>by
 have hi:ops.size<=i:=by simpa using hd
 refine ⟨?_,h⟩
 unfold Region.ready
 rw [List.filter_eq_nil_iff]
 intro j hj
 rw [List.mem_range] at hj
 simp only [Array.getD_eq_getD_getElem?,Xwa hj]
 simp;omega⟩
theorem Xxw (h:Xxs ops hard=true) (hi:ops[i]?=some o):Region.noSelect ops=true/\(if hard.contains i then Region.ready .any ops (Xu1 ops.size i) == [i] else Region.free .any ops (Xu1 ops.size i) i && (Region.ready .any ops (Xu1 ops.size i)).contains i)=true:=by
 unfold Xxs at h
 rw [Bool.and_eq_true,List.all_eq_true] at h
 exact ⟨h.1,h.2 i (List.mem_range.2 (La hi))⟩
theorem Hw.yield (hh:hard.contains i=false) (v:Value) (hy:YieldsIf P ops S o v a) (h:Hw P ops hard Q S (i+1) os (a.put o.dst v) w):Hw P ops hard Q S i (o::os) a w:=⟨fun hk hd hS=>by
 obtain ⟨h1,h2⟩:=Xxr hd
 obtain ⟨h3,h4⟩:=Xxw hk h1
 rw [if_neg (by rw [hh];simp),Bool.and_eq_true] at h4
 refine wpAnyH_take h1 h3 h4.1 h4.2 (fun _ _ _ h=>h.elim) hy hS ?_
 rw [Xwl]
 exact h.out hk h2 hS⟩
theorem Xto (hh:hard.contains i=false) (hw:Region.wanted o (yielded ops a.tmps)=true) (v:Value) (hv:∀ w,S w->(execOp a.eval o).run P w=.ok (.value v) w) (h:Hw P ops hard Q S (i+1) os (a.put o.dst v) w):Hw P ops hard Q S i (o::os) a w:=.yield hh v (.inl ⟨hw,hv⟩) h
theorem Xtn (hw:Region.wanted o (yielded ops a.tmps)=false) (h:Hw P ops hard Q S (i+1) os (a.put o.dst undef) w):Hw P ops hard Q S i (o::os) a w:=⟨fun hk hd hS=>by
 obtain ⟨h1,h2⟩:=Xxr hd
 obtain ⟨h3,h4⟩:=Xxw hk h1
 cases hh:hard.contains i with
 | false=>exact (Hw.yield hh undef (.inr ⟨hw,rfl⟩) h).out hk hd hS
 | true=>
  rw [if_pos hh] at h4
  refine wpAnyH_ready (by simpa using h4) ψ (AllReadyH.cons h1 (fun K hK=>?_) AllReadyH.nil)
  rw [if_neg (by rw [hw];simp)]
  exact hK.out _ _ hS (fun hS=>by rw [Xwl];exact h.out hk h2 hS)⟩
theorem Xv9 (hh:hard.contains i=true) (hw:Region.wanted o (yielded ops a.tmps)=true) (h:o.wp P a w (fun a' w'=>S w'/\Hw P ops hard Q S (i+1) os a' w') (NoPanic Q)):Hw P ops hard Q S i (o::os) a w:=⟨fun hk hd hS=>by
 obtain ⟨h1,h2⟩:=Xxr hd
 obtain ⟨h3,h4⟩:=Xxw hk h1
 rw [if_pos hh] at h4
 refine wpAnyH_ready (by simpa using h4) ψ (AllReadyH.cons h1 (fun K hK=>?_) AllReadyH.nil)
 rw [if_pos hw]
 exact Oper.wp_mono (fun a' w' h=>hK.out _ _ h.1 (fun hS=>by rw [Xwl];exact h.2.out hk h2 hS)) h⟩
