import Derived.Test.YtigbfkiddlhhjaaGreatDoorSlFunc
import Derived.RegionTactic
import Derived.Deep.RegionHeld3
set_option linter.all false
open Go renaming World→Ϣ,Value→ϒ
open Option renaming some→ς
open Bool renaming false→ϝ,true→ϑ
open List renaming mem_cons→ϰ
open Go.Value renaming slice→σ
open Go.Obj renaming cells→χ
namespace Go.Proofs.YtigbfkiddlhhjaaGreatDoor
open Go.RowKit
variable {P:Program} {n i j:Nat} {Q:Exit->Act->Ϣ->Prop} {S:Ϣ->Prop} {fin:Bool} {a b:Act} {w:Ϣ} {p q:Nat×Oper} {rest l left:List (Nat×Oper)} {o:Oper} {ops:Array Oper} {hard:List Nat} {listed:Array Bool}
def Cp (o:Oper):List Nat:=(o.after.toList.filter (Region.binds .any ·)).map (·.on)
inductive BI (P:Program) (S:Ϣ->Prop) (hard:List Nat) (K:List (Nat×Oper)->Act->Prop):List Oper->Nat->List (Nat×Oper)->Act->Prop
 | stop {i acc a} (h:K acc a):BI P S hard K [] i acc a
 | skip {o os i acc a} (hi:hard.contains i=ϑ) (h:BI P S hard K os (i+1) (acc++[(i,o)]) a):BI P S hard K (o::os) i acc a
 | take {o os i acc a} (hi:hard.contains i=ϝ) (c:ϒ) (hc:∀ w,S w->(execOp a.eval o).run P w=.ok (.value c) w) (h:BI P S hard K os (i+1) acc (a.put o.dst c)):BI P S hard K (o::os) i acc a
def waits (p q:Nat×Oper):Bool:=p.1 != q.1 && (Cp p.2).contains q.1
def DE (p:Nat×Oper) (left:List (Nat×Oper)):Bool:=left.all (λq=>!waits p q)
def Gu (P:Program) (n:Nat) (Q:Exit->Act->Ϣ->Prop) (S:Ϣ->Prop) (fin:Bool):Nat->List (Nat×Oper)->Act->Ϣ->Prop
 | 0,left,a,w=>left=[]/\Q .normal a w
 | f+1,left,a,w=>(∃ p∈left,(fin && p.1+1 == n)=ϝ/\DE p left=ϑ/\∃ c,(∀ w,S w->(execOp a.eval p.2).run P w=.ok (.value c) w)/\Gu P n Q S fin f (left.filter (λq=>q.1 != p.1)) (a.put p.2.dst c) w)\/
  ((left=[]->Q .normal a w)/\∀ p∈left,DE p left=ϑ->p.2.wp P a w (λa' w'=>(S w'\/(fin && p.1+1 == n)=ϑ)/\Gu P n Q S fin f (left.filter (λq=>q.1 != p.1)) a' w') (NoPanic Q))
structure Dm (P:Program) (n:Nat) (Q:Exit->Act->Ϣ->Prop) (S:Ϣ->Prop) (fin:Bool) (left:List (Nat×Oper)) (a:Act) (w:Ϣ):Prop where
 out:Gu P n Q S fin left.length left a w
def BH (h:Q .normal a w):Dm P n Q S fin [] a w:=⟨rfl,h⟩
def Dm.one (b:∀ q∈rest,q.1≠p.1) (i:∀ q∈rest,∃ r∈p::rest,waits q r=ϑ)
  (h:p.2.wp P a w (λg f=>(S f\/(fin && p.1+1 == n)=ϑ)/\Dm P n Q S fin rest g f) (NoPanic Q)):Dm P n Q S fin (p::rest) a w:=by
 refine ⟨.inr ⟨λh=>(by cases h),λq d c=>?_⟩⟩;rcases ϰ.1 d with rfl|d
 .have e:(q::rest).filter (λr=>r.1 != q.1)=rest:=by rw [List.filter_cons,if_neg ψ];exact List.filter_eq_self.2 (λr j=>by simpa using b r j)
  rw [e];exact Oper.wp_mono (λg f h=>⟨h.1,h.2.out⟩) h
 .obtain ⟨r,aB,aC⟩:=i q d
  unfold DE at c;rw [List.all_eq_true] at c;have:=c r aB;rw [aC] at this;cases this
def AH (b:(rest.all λr=>r.1 != i && ((i,o)::rest).any (waits r))=ϑ)
  (h:o.wp P a w (λe d=>(S d\/(fin && i+1 == n)=ϑ)/\Dm P n Q S fin rest e d) (NoPanic Q)):Dm P n Q S fin ((i,o)::rest) a w:=by
 rw [List.all_eq_true] at b;refine Dm.one (λq c=>?_) (λq c=>?_) h
 .have:=b q c
  rw [Bool.and_eq_true] at this;simpa using this.1
 .have:=b q c
  rw [Bool.and_eq_true] at this;exact List.any_eq_true.1 this.2
def Dv {u:Oper} (k:(i != j)=ϑ) (f:(rest.all λr=>r.1 != i && r.1 != j && ((i,o)::(j,u)::rest).any (waits r))=ϑ)
  (h:o.wp P a w (λc b=>(S b\/(fin && i+1 == n)=ϑ)/\Dm P n Q S fin ((j,u)::rest) c b) (NoPanic Q)) (s:u.wp P a w (λc b=>(S b\/(fin && j+1 == n)=ϑ)/\Dm P n Q S fin ((i,o)::rest) c b) (NoPanic Q)):Dm P n Q S fin ((i,o)::(j,u)::rest) a w:=by
 rw [List.all_eq_true] at f;have m:i≠j:=by simpa using k
 refine ⟨.inr ⟨λh=>(by cases h),λx d g=>?_⟩⟩;rcases ϰ.1 d with rfl|d
 .have e:((i,o)::(j,u)::rest).filter (λr=>r.1 != i)=(j,u)::rest:=by rw [List.filter_cons,if_neg ψ,List.filter_cons,if_pos (by simpa using Ne.symm m)];exact congrArg _ (List.filter_eq_self.2 (λr l=>by have:=f r l;simp only [Bool.and_eq_true] at this;exact this.1.1))
  rw [e];exact Oper.wp_mono (λc b h=>⟨h.1,h.2.out⟩) h
 rcases ϰ.1 d with rfl|d
 .have e:((i,o)::(j,u)::rest).filter (λr=>r.1 != j)=(i,o)::rest:=by rw [List.filter_cons,if_pos (by simpa using m),List.filter_cons,if_neg ψ];exact congrArg _ (List.filter_eq_self.2 (λr l=>by have:=f r l;simp only [Bool.and_eq_true] at this;exact this.1.2))
  rw [e];exact Oper.wp_mono (λc b h=>⟨h.1,h.2.out⟩) s
 .have:=f x d
  rw [Bool.and_eq_true] at this;obtain ⟨r,p,q⟩:=List.any_eq_true.1 this.2;unfold DE at g;rw [List.all_eq_true] at g;have:=g r p;rw [q] at this;cases this
def Ae (b:(!(fin && i+1 == n) && rest.all λr=>r.1 != i && !waits (i,o) r)=ϑ) (c:ϒ) (j:∀ w,S w->(execOp a.eval o).run P w=.ok (.value c) w)
  (h:Dm P n Q S fin rest (a.put o.dst c) w):Dm P n Q S fin ((i,o)::rest) a w:=by
 rw [Bool.and_eq_true,List.all_eq_true,Bool.not_eq_true'] at b;obtain ⟨f,b⟩:=b;refine ⟨.inl ⟨(i,o),ψ,f,?_,c,j,?_⟩⟩
 .unfold DE
  rw [List.all_eq_true];intro q d;rcases ϰ.1 d with rfl|d
  .simp [waits]
  .have:=b q d;rw [Bool.and_eq_true] at this;exact this.2
 .have e:((i,o)::rest).filter (λr=>r.1 != i)=rest:=by rw [List.filter_cons,if_neg ψ];exact List.filter_eq_self.2 (λr g=>by have:=b r g;rw [Bool.and_eq_true] at this;exact this.1)
  show Gu P n Q S fin rest.length (((i,o)::rest).filter (λr=>r.1 != i)) _ w;rw [e];exact h.out
def Jg {d:List (Nat×Oper)} (b:l.Perm d) (h:Dm P n Q S fin l a w):Dm P n Q S fin d a w:=by
 have q:∀ (f:Nat) (l d:List (Nat×Oper)) (a:Act) (w:Ϣ),l.Perm d->Gu P n Q S fin f l a w->Gu P n Q S fin f d a w:=by
  intro f;induction f with
  | zero=>intro l d a w b h;exact ⟨by have:=h.1;subst this;exact b.symm.eq_nil,h.2⟩
  | succ f p=>
   intro l d a w b h;have k:∀ x,DE x l=DE x d:=λx=>by
    have:DE x l=ϑ↔DE x d=ϑ:=by unfold DE;rw [List.all_eq_true,List.all_eq_true];exact ⟨λh y j=>h y (b.mem_iff.2 j),λh y j=>h y (b.mem_iff.1 j)⟩
    cases m:DE x l<;>cases o:DE x d<;>simp_all
   rcases h with ⟨x,i,s,g,c,r,h⟩|⟨m,o⟩
   .exact .inl ⟨x,b.mem_iff.1 i,s,by rw [<-k];exact g,c,r,p _ _ _ _ (b.filter _) h⟩
   .exact .inr ⟨λe=>m (by subst e;exact b.eq_nil),λx i g=>Oper.wp_mono (λt u h=>⟨h.1,p _ _ _ _ (b.filter _) h.2⟩) (o x (b.mem_iff.2 i) (by rw [k];exact g))⟩
 exact ⟨by rw [<-b.length_eq];exact q _ _ _ _ _ b h.out⟩
def De (h:Dm P n Q S fin (q::p::rest) a w):Dm P n Q S fin (p::q::rest) a w:=Jg (List.Perm.swap p q rest) h
def GW (l:List (Nat×Oper)) (h:Dm P n Q S fin (p::q::(l++rest)) a w):Dm P n Q S fin (p::(l++q::rest)) a w:=Jg (List.Perm.cons p List.perm_middle.symm) h
def U4 (o:Oper):List Nat:=o.op.operands.toList.filterMap λx=>match x with|.tmp d=>ς d|_=>none
def LO (o:Oper):Bool:=match o.op with|.select _ _=>ϑ|_=>ϝ
def Uq (ops:Array Oper) (hard:List Nat) (fin:Bool) (n:Nat):Bool:=((List.range ops.size).all λi=>match ops[i]? with
 | none=>ϝ
 | some o=>o.guard.isNone && !LO o && (Cp o).all (λj=>decide (j<i)) && (match o.dst with|none=>ϑ|some d=>decide (d<n)) &&
  (List.range ops.size).all λj=>match ops[j]? with
   | none=>ϝ
   | some u=>(i == j || o.dst.isNone || o.dst != u.dst) && (match u.dst with|none=>ϑ|some d=>!(U4 o).contains d || ((Cp o).contains j && (hard.contains i || !hard.contains j)) || (fin && j+1 == ops.size && i != j))) &&
 (!fin || (hard.contains (ops.size - 1) && match ops[ops.size - 1]? with|none=>ϝ|some z=>(List.range (ops.size - 1)).all (λj=>(Cp z).contains j || (Cp z).any λk=>match ops[k]? with|none=>ϝ|some u=>(Cp u).contains j || (Cp u).any λk2=>match ops[k2]? with|none=>ϝ|some u2=>(Cp u2).contains j)))
structure Jz (ops:Array Oper) (hard:List Nat) (fin:Bool) (n:Nat):Prop where
 guard:∀ (i:Nat) o,ops[i]?=ς o->o.guard=none
 sel:∀ (i:Nat) o,ops[i]?=ς o->∀ cs b,o.op≠.select cs b
 deps:∀ (i:Nat) o,ops[i]?=ς o->∀ j∈Cp o,j<i
 dst:∀ (i:Nat) o,ops[i]?=ς o->∀ d,o.dst=ς d->d<n
 one:∀ (i j:Nat) o u d,ops[i]?=ς o->ops[j]?=ς u->o.dst=ς d->u.dst=ς d->i=j
 look:∀ (i j:Nat) o u d,ops[i]?=ς o->ops[j]?=ς u->u.dst=ς d->.tmp d∈o.op.operands->(j∈Cp o/\(hard.contains i=ϝ->hard.contains j=ϝ))\/(fin=ϑ/\j+1=ops.size/\i≠j)
 last:fin=ϑ->hard.contains (ops.size - 1)=ϑ
 fin:fin=ϑ->∀ z,ops[ops.size - 1]?=ς z->∀ j,j+1<ops.size->j∈Cp z\/∃ k u,k∈Cp z/\ops[k]?=ς u/\(j∈Cp u\/∃ k2 u2,k2∈Cp u/\ops[k2]?=ς u2/\j∈Cp u2)
def QT (h:Uq ops hard fin n=ϑ):Jz ops hard fin n:=by
 unfold Uq at h;rw [Bool.and_eq_true,List.all_eq_true] at h;obtain ⟨B,p⟩:=h;have m:∀ (i:Nat) o,ops[i]?=ς o->((((o.guard=none/\LO o=ϝ)/\∀ j∈Cp o,j<i)/\∀ d,o.dst=ς d->d<n)/\∀ (j:Nat) u d,ops[j]?=ς u->u.dst=ς d->(o.dst=ς d->i=j)/\(.tmp d∈o.op.operands->(j∈Cp o/\(hard.contains i=ϝ->hard.contains j=ϝ))\/(fin=ϑ/\j+1=ops.size/\i≠j))):=λi o a=>by
  have G:=(La a)
  have t:=B i (List.mem_range.2 G);simp only [a,Bool.and_eq_true,Option.isNone_iff_eq_none,List.all_eq_true,decide_eq_true_eq,Bool.not_eq_true'] at t;obtain ⟨⟨⟨⟨C,w⟩,D⟩,v⟩,E⟩:=t;refine ⟨⟨⟨⟨C,w⟩,D⟩,λd l=>?_⟩,λj u d f l=>?_⟩
  .rw [l] at v;simpa using v
  .have h7:=E j (List.mem_range.2 (La f))
   simp only [f,l,Bool.and_eq_true] at h7;refine ⟨λy=>?_,λs=>?_⟩
   .have:=h7.1;rw [y] at this;simpa using this
   .have hm:d∈U4 o:=List.mem_filterMap.2 ⟨.tmp d,by simpa using s,rfl⟩
    have e:=h7.2;simp only [Bool.or_eq_true,Bool.and_eq_true,Bool.not_eq_true'] at e;rcases e with (e|⟨e,c⟩)|e
    .rw [List.contains_iff_mem.2 hm] at e;cases e
    .refine .inl ⟨List.contains_iff_mem.1 e,λH=>?_⟩
     rcases c with c|c
     .rw [H] at c;cases c
     .exact c
    .exact .inr ⟨e.1.1,by simpa using e.1.2,by simpa using e.2⟩
 refine ⟨λi o a=>(m i o a).1.1.1.1,λi o a I b F=>?_,λi o a=>(m i o a).1.1.2,λi o a=>(m i o a).1.2,λi j o u d a f l x=>((m i o a).2 j u d f x).1 l,λi j o u d a f l s=>((m i o a).2 j u d f l).2 s,λr=>?_,λr z A j J=>?_⟩
 .have:=(m i o a).1.1.1.2
  unfold LO at this;rw [F] at this;cases this
 .rw [r] at p
  simp only [Bool.not_true,Bool.false_or,Bool.and_eq_true] at p;exact p.1
 .rw [r] at p
  simp only [Bool.not_true,Bool.false_or,Bool.and_eq_true,A,List.all_eq_true] at p;have c:=p.2 j (List.mem_range.2 ω);rw [Bool.or_eq_true] at c;rcases c with c|c
  .exact .inl (List.contains_iff_mem.1 c)
  .obtain ⟨k,hk,g⟩:=List.any_eq_true.1 c
   cases f:ops[k]? with
   | none=>rw [f] at g;cases g
   | some u=>
    rw [f] at g;simp only [Bool.or_eq_true] at g;rcases g with g|g
    .exact .inr ⟨k,u,hk,f,.inl (List.contains_iff_mem.1 g)⟩
    .obtain ⟨k2,aG,aC⟩:=List.any_eq_true.1 g
     cases q:ops[k2]? with
     | none=>rw [q] at aC;cases aC
     | some u2=>rw [q] at aC;exact .inr ⟨k,u,hk,f,.inr ⟨k2,u2,aG,q,List.contains_iff_mem.1 aC⟩⟩
def Jz.own (c:Jz ops hard fin n) {d:Nat} (a:ops[i]?=ς o) (b:o.dst=ς d) (e:.tmp d∈o.op.operands):False:=by
 rcases c.look i i o o d a a b e with ⟨h,_⟩|⟨_,_,h⟩
 .have:=c.deps i o a i h;omega
 .exact h rfl
def BQ (a:Act) (d:Option Tmp) (v:ϒ):(a.put d v).tmps.size=a.tmps.size:=by cases d<;>simp [Act.put]
def Em (a:Act) (d:Option Tmp) (v:ϒ):(a.put d v).defers=a.defers:=by cases d<;>rfl
def CA (a:Act) (d:Nat) (v:ϒ) (h:d<a.tmps.size):(a.put (ς d) v).tmps[d]?=ς v:=by simp [Act.put,h]
def A0 (a:Act) (x:Option Tmp) (d:Nat) (v:ϒ) (h:x≠ς d):(a.put x v).tmps[d]?=a.tmps[d]?:=by
 cases x with
 | none=>rfl
 | some e=>simp [Act.put,Array.getElem?_setIfInBounds_ne (show e≠d from λb=>h (by rw [b]))]
def NA (c:a.defers=b.defers) (f:∀ d:Nat,a.tmps[d]?=b.tmps[d]?):a=b:=by
 cases a with|mk t e=>cases b with|mk t' e'=>obtain rfl:=Array.ext_getElem? (show ∀ d:Nat,t[d]?=t'[d]? from f);obtain rfl:e=e':=c;rfl
def GI (o:Oper) (hs:∀ c b,o.op≠.select c b) (h:∀ d,.tmp d∈o.op.operands->a.tmps[d]?=b.tmps[d]?):execOp a.eval o=execOp b.eval o:=
 execOp_congr o hs λx e=>by
  cases x with
  | tmp d=>simp [Act.eval,Array.getD_eq_getD_getElem?,h d e]
  | _=>rfl
def Jm (k:Jz ops hard fin n) {K:List (Nat×Oper)->Act->Prop} :
  ∀ (t:List Oper) (i:Nat) (acc:List (Nat×Oper)) (a:Act),t=ops.toList.drop i->a.tmps.size=n->BI P S hard K t i acc a->
   ∃ b left,K (acc++left) b/\b.defers=a.defers/\b.tmps.size=n/\(∀ (j:Nat) o,(j,o)∈left↔i<=j/\ops[j]?=ς o/\hard.contains j=ϑ)/\(∀ d,(∀ (j:Nat) o,i<=j->ops[j]?=ς o->hard.contains j=ϝ->o.dst≠ς d)->b.tmps[d]?=a.tmps[d]?)/\
    (∀ (j:Nat) o,i<=j->ops[j]?=ς o->hard.contains j=ϝ->∃ c,(∀ d,o.dst=ς d->b.tmps[d]?=ς c)/\∀ w,S w->(execOp b.eval o).run P w=.ok (.value c) w)
 | [],i,acc,a,hos,hn,m=>by
  have v:ops.size<=i:=by have:=congrArg List.length hos;simp at this;omega
  have D:∀ (j:Nat) o,i<=j->ops[j]?=ς o->False:=λj o p f=>by have:=(La f);omega
  exact ⟨a,[],by cases m with|stop h=>simpa using h,rfl,hn,λj o=>⟨λh=>by simp at h,λh=>(D j o h.1 h.2.1).elim⟩,λ_ _=>rfl,λj o p f=>(D j o p f).elim⟩
 | o::t,i,acc,a,hos,hn,m=>by
  have v:i<ops.toList.length:=by have:=congrArg List.length hos;rw [List.length_drop,List.length_cons] at this;omega
  rw [List.drop_eq_getElem_cons v] at hos;injection hos with e1 e2;have f:ops[i]?=ς o:=by rw [e1];simp at v;simp [v]
  cases m with
  | skip F m=>
   obtain ⟨b,left,y,z,A,B,s,C⟩:=Jm k t (i+1) _ a e2 hn m;refine ⟨b,(i,o)::left,by simpa using y,z,A,λj u=>?_,λd g=>s d (λj u p=>g j u ω),λj u p q l=>?_⟩
   .rw [ϰ,B]
    constructor
    .rintro (h|⟨h,r⟩)
     .cases h;exact ⟨Nr _,f,F⟩
     .exact ⟨ω,r⟩
    .rintro ⟨h,h7,h8⟩
     by_cases e:j=i
     .subst e;rw [f] at h7;cases h7;exact .inl rfl
     .exact .inr ⟨ω,h7,h8⟩
   .by_cases e:j=i
    .subst e;rw [F] at l;cases l
    .exact C j u ω q l
  | take E c J m=>
   obtain ⟨b,left,y,z,A,B,s,C⟩:=Jm k t (i+1) acc (a.put o.dst c) e2 ((BQ _ _ _).trans hn) m;have G:∀ d,.tmp d∈o.op.operands->b.tmps[d]?=a.tmps[d]?:=λd g=>by
    rw [s d (λj u p q l x=>by
     rcases k.look i j o u d f q x g with ⟨h,_⟩|⟨h,R,_⟩
     .have:=k.deps i o f j h;omega
     .have:=k.last h
      rw [show ops.size - 1=j by omega,l] at this;cases this)]
    exact A0 _ _ _ _ (λH=>k.own f H g)
   refine ⟨b,left,y,z.trans (Em _ _ _),A,λj u=>?_,λd g=>?_,λj u p q l=>?_⟩
   .rw [B]
    constructor
    .rintro ⟨h,r⟩
     exact ⟨ω,r⟩
    .rintro ⟨h,h7,h8⟩
     by_cases e:j=i
     .subst e;rw [E] at h8;cases h8
     .exact ⟨ω,h7,h8⟩
   .rw [s d (λj u p=>g j u ω)]
    exact A0 _ _ _ _ (g i o (Nr _) f E)
   .by_cases e:j=i
    .subst e
     rw [f] at q;cases q;refine ⟨c,λd g=>?_,λw L=>?_⟩
     .rw [s d (λM N Q I O x=>by have:=k.one j M o N d f I g x;omega),g]
      exact CA _ _ _ (by rw [hn];exact k.dst j o f d g)
     .rw [GI o (k.sel j o f) G];exact J w L
    .exact C j u ω q l
def QF (hs:listed.size=ops.size) (a:Jz ops hard fin n) (m:Region.ready .any ops listed=[]):∀ i,i<ops.size->listed[i]?=ς ϑ:=by
 intro i;induction i using Nat.strongRecOn with
 | _ i o=>
  intro c;cases d:listed[i]? with
  | none=>rw [Array.getElem?_eq_none_iff] at d;omega
  | some b=>
   cases b with
   | true=>rfl
   | false=>
    exfalso;have f:=Array.getElem?_eq_getElem c;have:i∈Region.ready .any ops listed:=by
     unfold Region.ready;rw [List.mem_filter];refine ⟨List.mem_range.2 c,?_⟩;rw [f];have k:listed.getD i ϑ=ϝ:=by rw [Array.getD_eq_getD_getElem?,d];rfl
     rw [k];simp only [Bool.not_false,Bool.true_and,Option.map_some,Option.getD_some];rw [Array.all_eq_true'];intro e j;cases h:Region.binds .any e with
     | false=>rfl
     | true=>have l:e.on∈Cp ops[i]:=List.mem_map.2 ⟨e,List.mem_filter.2 ⟨by simpa using j,h⟩,rfl⟩;have g:=a.deps i _ f _ l;rw [Array.getD_eq_getD_getElem?,o _ g ω];rfl
    rw [m] at this;cases this
def Lb (h:i∈Region.ready .any ops listed) (hs:listed.size=ops.size):∃ o,ops[i]?=ς o/\listed[i]?=ς ϝ/\∀ j∈Cp o,listed[j]?=ς ϑ:=by
 unfold Region.ready at h;rw [List.mem_filter,List.mem_range] at h;obtain ⟨g,h⟩:=h;have f:=Array.getElem?_eq_getElem g;rw [f,Bool.and_eq_true] at h;refine ⟨_,f,?_,λj k=>?_⟩
 .have h1:=h.1
  rw [Array.getD_eq_getD_getElem?] at h1;have c:i<listed.size:=ω;rw [Array.getElem?_eq_getElem c] at h1 ⊢;simpa using h1
 .obtain ⟨e,he,rfl⟩:=List.mem_map.1 k
  rw [List.mem_filter] at he;have d:=h.2;simp only [Option.map_some,Option.getD_some] at d;rw [Array.all_eq_true'] at d;have a:=d e (by simpa using he.1);rw [he.2,Array.getD_eq_getD_getElem?] at a;simp only [Bool.not_true,Bool.false_or] at a;cases c:listed[e.on]? with
  | none=>rw [c] at a;cases a
  | some b=>rw [c] at a;simpa using a
structure IA (P:Program) (S:Ϣ->Prop) (fin:Bool) (ops:Array Oper) (n:Nat) (listed:Array Bool) (left:List (Nat×Oper)) (a b:Act) (w:Ϣ):Prop where
 lsize:listed.size=ops.size
 defers:a.defers=b.defers
 asize:a.tmps.size=n
 bsize:b.tmps.size=n
 same:∀ d,(∀ (i:Nat) o,ops[i]?=ς o->listed[i]?=ς ϝ->(i,o)∉left->o.dst≠ς d)->a.tmps[d]?=b.tmps[d]?
 soft:∀ (i:Nat) o,ops[i]?=ς o->listed[i]?=ς ϝ->(i,o)∉left->∃ c,(∀ d,o.dst=ς d->b.tmps[d]?=ς c)/\∀ w,S w->(execOp b.eval o).run P w=.ok (.value c) w
 look:∀ (i:Nat) o,ops[i]?=ς o->listed[i]?=ς ϝ->(i,o)∉left->∀ (j:Nat) u d,ops[j]?=ς u->u.dst=ς d->.tmp d∈o.op.operands->(j,u)∉left\/(fin=ϑ/\j+1=ops.size)
 last:fin=ϑ->∀ o,ops[ops.size - 1]?=ς o->listed[ops.size - 1]?=ς ϝ->(ops.size - 1,o)∈left
 sub:∀ p∈left,ops[p.1]?=ς p.2/\listed[p.1]?=ς ϝ
 s:S w\/∀ i,i<ops.size->listed[i]?=ς ϑ
 closed:∀ (i:Nat) o,ops[i]?=ς o->listed[i]?=ς ϑ->∀ j∈Cp o,listed[j]?=ς ϑ
def XX {K m:Act->Ϣ->Prop} (k:execOp a.eval o=execOp b.eval o) (s:a.defers=b.defers) (q:∀ v g p,K ({ b with defers:=p }.put o.dst v) g->m ({ a with defers:=p }.put o.dst v) g) (h:o.wp P b w K (NoPanic Q)):o.wp P a w m (NoPanic Q):=by
 unfold Oper.wp at *
 rw [k];have l:∀ v g,K (b.put o.dst v) g->m (a.put o.dst v) g:=λv g h=>by
  have e:({ a with defers:=b.defers }:Act)=a:=by rw [<-s]
  have:=q v g b.defers h;rwa [e] at this
 generalize (execOp b.eval o).run P w=r at *
 cases r with
 | ok n g=>
  cases n<;>simp only [Oper.upon] at h ⊢
  case value v=>exact l v g h
  case skip=>exact l _ g h
  case defer d=>rw [s];exact q _ g _ h
  case enter f j=>
   refine Calls.mono h λe i k=>?_;cases e with
   | returned v=>exact l v i k
   | panicked c=>exact k
   | outgrown=>exact k
  case row r j=>exact Rows.mono h λv i h=>l v i h
 | halt x g=>
  cases x<;>simp only [Oper.upon] at h ⊢
  case panic v=>exact h
def JE (h:(j,o)∉left.filter (λq=>q.1 != i)) (a:j≠i):(j,o)∉left:=λb=>h (List.mem_filter.2 ⟨b,by simpa using a⟩)
def IA.take (y:Jz ops hard fin n) (h:IA P S fin ops n listed left a b w) (L:p∈left) (z:(fin && p.1+1 == ops.size)=ϝ) (B:DE p left=ϑ) (c:ϒ)
  (K:∀ w,S w->(execOp b.eval p.2).run P w=.ok (.value c) w):IA P S fin ops n listed (left.filter (λq=>q.1 != p.1)) a (b.put p.2.dst c) w:=by
 obtain ⟨i,o⟩:=p;obtain ⟨l,E⟩:=h.sub _ L;dsimp only at l E K z ⊢;have I:¬(fin=ϑ/\i+1=ops.size):=λe=>by rw [e.1,e.2] at z;simp at z
 have N:∀ j u,j∈Cp o->j≠i->(j,u)∉left:=λj u Q D m=>by unfold DE at B;rw [List.all_eq_true] at B;have:=B _ m;unfold waits at this;rw [List.contains_iff_mem.2 Q] at this;simp at this;exact D this.symm
 have O:∀ d,.tmp d∈o.op.operands->o.dst≠ς d:=λd g r=>y.own l r g;refine ⟨h.lsize,h.defers.trans (Em _ _ _).symm,h.asize,(BQ _ _ _).trans h.bsize,λd g=>?_,λj u f A C=>?_,λj u f A C k v d M J F=>?_,λB u f E=>List.mem_filter.2 ⟨h.last B u f E,by simp;intro e;exact I ⟨B,by have:=(La l);omega⟩⟩,λq R=>h.sub q (List.mem_filter.1 R).1,h.s,h.closed⟩
 .have r:=g i o l E (λm=>by simp at m)
  rw [A0 _ _ _ _ r];exact h.same d (λj u f A C=>g j u f A (λm=>C (List.mem_filter.1 m).1))
 .by_cases e:j=i
  .subst e
   rw [l] at f;cases f;exact ⟨c,λd g=>by rw [g];exact CA _ _ _ (by rw [h.bsize];exact y.dst j o l d g),λw H=>by
    rw [GI o (y.sel j o l) (λd g=>A0 _ _ _ _ (O d g))];exact K w H⟩
  .have aD:=JE C e
   obtain ⟨x,t,G⟩:=h.soft j u f A aD;refine ⟨x,λd g=>?_,λw H=>?_⟩
   .rw [A0 _ _ _ _ (λr=>e (y.one j i u o d f l g r))];exact t d g
   .rw [<-G w H]
    exact congrArg (λs=>Sem.run P s w) (GI u (y.sel j u f) (λd F=>A0 _ _ _ _ (λr=>(h.look j u f A aD i o d l r F).elim (λh=>h L) I)))
 .by_cases e:j=i
  .subst e
   rw [l] at f;cases f;rcases y.look j k o v d l M J F with ⟨D,_⟩|⟨t,G,_⟩
   .exact .inl λm=>N k v D (λT=>by have:=y.deps j o l k D;omega) (List.mem_filter.1 m).1
   .exact .inr ⟨t,G⟩
  .rcases h.look j u f A (JE C e) k v d M J F with t|t
   .exact .inl λm=>t (List.mem_filter.1 m).1
   .exact .inr t
def Xh (P:Program) (n:Nat) (Q:Exit->Act->Ϣ->Prop) (S:Ϣ->Prop) (fin:Bool) (f:Nat) (left:List (Nat×Oper)) (a:Act) (w:Ϣ):Prop:=
 (left=[]->Q .normal a w)/\∀ p∈left,DE p left=ϑ->p.2.wp P a w (λa' w'=>(S w'\/(fin && p.1+1 == n)=ϑ)/\Gu P n Q S fin f (left.filter (λq=>q.1 != p.1)) a' w') (NoPanic Q)
def IA.norm (j:Jz ops hard fin n) :
  ∀ (f:Nat) (left:List (Nat×Oper)) (b:Act),IA P S fin ops n listed left a b w->Gu P ops.size Q S fin f left b w->∃ d l i,IA P S fin ops n listed d a i w/\Xh P ops.size Q S fin l d i w
 | 0,left,b,h,e=>⟨left,0,b,h,λ_=>e.2,λp g=>by rw [e.1] at g;cases g⟩
 | f+1,left,b,h,e=>by
  rcases e with ⟨p,g,k,o,c,m,e⟩|e
  .exact IA.norm j f _ _ (h.take j g k o c m) e
  .exact ⟨left,f,b,h,e⟩
def WQ (E:Jz ops hard fin n) :
  ∀ (r:Nat) (m:Array Bool) (left:List (Nat×Oper)) (f:Nat) (a b:Act) (w:Ϣ),IA P S fin ops n m left a b w->m.toList.count ϝ<=r->Gu P ops.size Q S fin f left b w->wpAny P .any ops (NoPanic Q) r m a w:=by
 intro r;have aL:∀ (m:Array Bool) (left:List (Nat×Oper)) (f:Nat) (a b:Act) (w:Ϣ),IA P S fin ops n m left a b w->Region.ready .any ops m=[]->Gu P ops.size Q S fin f left b w->NoPanic Q .normal a w:=λm left f a b w h T F=>by
  obtain ⟨left,f,b,h,F⟩:=h.norm E f left b F;have U:=QF h.lsize E T;have G:left=[]:=by
   cases left with
   | nil=>rfl
   | cons p l=>have:=h.sub p ψ;have t:=U p.1 (La this.1);rw [this.2] at t;cases t
  have aZ:=NA h.defers (λd=>h.same d (λi o z L _=>by
   have t:=U i (La z);rw [L] at t;cases t))
  subst aZ;exact F.1 G
 induction r with
 | zero=>
  intro m left f a b w h hc F;have T:Region.ready .any ops m=[]:=by
   rcases hrr:Region.ready .any ops m with _|⟨i,rs⟩
   .rfl
   .exfalso
    obtain ⟨o,z,G,-⟩:=Lb (i:=i) (by rw [hrr];simp) h.lsize;have h0:m.toList.count ϝ=0:=ω;rw [List.count_eq_zero] at h0;exact h0 (by obtain ⟨y,t⟩:=Array.getElem?_eq_some_iff.1 G;rw [<-t];simp)
  exact ⟨T,aL m left f a b w h T F⟩
 | succ r ih=>
  intro m left f a b w h hc F;refine ⟨λT=>aL m left f a b w h T F,λi hi=>?_⟩;obtain ⟨left,f,b,h,F⟩:=h.norm E f left b F;obtain ⟨o,z,G,O⟩:=Lb hi h.lsize;have bA:=(La G)
  have bB:=(La z)
  have aT:S w:=by
   rcases h.s with H|H
   .exact H
   .have:=H i bB;rw [G] at this;cases this
  have aU:(m.setIfInBounds i ϑ).toList.count ϝ<=r:=by
   have t:(m.setIfInBounds i ϑ).toList.count ϝ=m.toList.count ϝ - 1:=by
    obtain ⟨y,t⟩:=Array.getElem?_eq_some_iff.1 G;rw [Array.toList_setIfInBounds,List.count_set (a:=ϑ) (b:=ϝ) (l:=m.toList) (i:=i) (by simpa using y)];have h3:m.toList[i]'(by simpa using y)=ϝ:=by simpa using t
    rw [h3];rfl
   have h4:0<m.toList.count ϝ:=by obtain ⟨y,t⟩:=Array.getElem?_eq_some_iff.1 G;exact List.count_pos_iff.2 (by rw [<-t];simp)
   omega
  have aS:=λd V=>h.same d (λj u g B C bG=>by
   rcases E.look i j o u d z g bG V with ⟨y,_⟩|⟨y,t,_⟩
   .have:=O j y
    rw [B] at this;cases this
   .obtain rfl:j=ops.size - 1:=ω
    exact C (h.last y u g B))
  have U:fin=ϑ->i+1=ops.size->∀ j,j≠i->j<ops.size->m[j]?=ς ϑ:=λL aP j J D=>by
   rcases E.fin L o (by rw [<-aP];exact z) j ω with K|⟨k,u,K,g,aQ|⟨Z,u2,aW,bF,aQ⟩⟩
   .exact O j K
   .exact h.closed k u g (O k K) j aQ
   .exact h.closed Z u2 bF (h.closed k u g (O k K) Z aW) j aQ
  have he:=GI o (E.sel i o z) aS;have I:∀ j,j≠i->(m.setIfInBounds i ϑ)[j]?=m[j]?:=λj D=>Array.getElem?_setIfInBounds_ne (Ne.symm D);have aH:(m.setIfInBounds i ϑ)[i]?=ς ϑ:=by simp [bA]
  have N:∀ j,(m.setIfInBounds i ϑ)[j]?=ς ϝ->j≠i/\m[j]?=ς ϝ:=λj D=>by
   by_cases e:j=i
   .subst e;rw [aH] at D;cases D
   .rw [I j e] at D;exact ⟨e,D⟩
  have aV:∀ (k:Nat) u,ops[k]?=ς u->(m.setIfInBounds i ϑ)[k]?=ς ϑ->∀ j∈Cp u,(m.setIfInBounds i ϑ)[j]?=ς ϑ:=λk u g M j D=>by
   by_cases e:j=i
   .subst e;exact aH
   .rw [I j e]
    by_cases e2:k=i
    .subst e2;rw [z] at g;cases g;exact O j D
    .rw [I k e2] at M;exact h.closed k u g M j D
  unfold wpOp;rw [z];simp only [];rw [if_pos (by unfold Region.wanted;rw [E.guard i o z])];refine .inl ?_;by_cases X:(i,o)∈left
  .have bH:=F.2 (i,o) X (by
    unfold DE;rw [List.all_eq_true];intro q R;unfold waits;cases hw:(Cp o).contains q.1 with
    | false=>simp
    | true=>
     have y:=O q.1 (List.contains_iff_mem.1 hw);have t:=(h.sub q R).2;rw [y] at t;cases t)
   refine XX he h.defers (λv w' ds hK=>?_) bH;obtain ⟨aY,aX⟩:=hK;refine ih _ _ f _ _ w' ⟨by simpa using h.lsize,(Em { a with defers:=ds } o.dst v).trans (Em { b with defers:=ds } o.dst v).symm,(BQ _ _ _).trans h.asize,(BQ _ _ _).trans h.bsize,λd aO=>?_,λj u g B C=>?_,λj u g B C k x d V bI bJ=>?_,λL u g M=>?_,λq R=>?_,?_,aV⟩ aU aX
   .by_cases A:o.dst=ς d
    .simp only [A]
     rw [CA _ _ _ (by show d<a.tmps.size;rw [h.asize];exact E.dst i o z d A),CA _ _ _ (by show d<b.tmps.size;rw [h.bsize];exact E.dst i o z d A)]
    .rw [A0 _ _ _ _ A,A0 _ _ _ _ A]
     exact h.same d (λj u g B C=>by
      by_cases e:j=i
      .subst e;rw [z] at g;cases g;exact A
      .exact aO j u g (by rw [I j e];exact B) (λaR=>C (List.mem_filter.1 aR).1))
   .obtain ⟨J,aD⟩:=N j B
    have aM:=JE C J;obtain ⟨c,y,t⟩:=h.soft j u g aD aM;have bC:∀ d,u.dst=ς d->o.dst≠ς d:=λd W A=>J (E.one j i u o d g z W A);refine ⟨c,λd W=>by rw [A0 _ _ _ _ (bC d W)];exact y d W,λw hw=>?_⟩;rw [<-t w hw];exact congrArg (λs=>Sem.run P s w) (GI u (E.sel j u g) (λd V=>A0 _ _ _ _ (λA=>(h.look j u g aD aM i o d z A V).elim (λh=>h X) (λK=>by
     have:=U K.1 K.2 j J (La g);rw [aD] at this;cases this))))
   .obtain ⟨J,aD⟩:=N j B
    rcases h.look j u g aD (JE C J) k x d V bI bJ with y|y
    .exact .inl λaR=>y (List.mem_filter.1 aR).1
    .exact .inr y
   .obtain ⟨J,aD⟩:=N _ M
    exact List.mem_filter.2 ⟨h.last L u g aD,by simpa using J⟩
   .obtain ⟨bD,bE⟩:=List.mem_filter.1 R
    obtain ⟨y,t⟩:=h.sub q bD;exact ⟨y,by rw [I q.1 (by simpa using bE)];exact t⟩
   .rcases aY with H|H
    .exact .inl H
    .right
     rw [Bool.and_eq_true] at H;have aP:i+1=ops.size:=by simpa using H.2
     intro j D;by_cases e:j=i
     .subst e;exact aH
     .rw [I j e]
      exact U H.1 aP j e D
  .obtain ⟨c,y,t⟩:=h.soft i o z G X
   unfold Oper.wp;rw [he,t w aT];show wpAny P .any ops (NoPanic Q) r (m.setIfInBounds i ϑ) (a.put o.dst c) w;have hR:IA P S fin ops n (m.setIfInBounds i ϑ) left (a.put o.dst c) b w:=⟨by simpa using h.lsize,(Em _ _ _).trans h.defers,(BQ _ _ _).trans h.asize,h.bsize,λd aO=>by
    by_cases A:o.dst=ς d
    .simp only [A]
     rw [CA _ _ _ (by rw [h.asize];exact E.dst i o z d A),y d A]
    .rw [A0 _ _ _ _ A]
     exact h.same d (λj u g B C=>by
      by_cases e:j=i
      .subst e;rw [z] at g;cases g;exact A
      .exact aO j u g (by rw [I j e];exact B) C),λj u g B C=>h.soft j u g (N j B).2 C,λj u g B C=>h.look j u g (N j B).2 C,λL u g M=>h.last L u g (N _ M).2,λq R=>by
    obtain ⟨Y,Z⟩:=h.sub q R;refine ⟨Y,?_⟩;rw [I q.1 (λe=>X ?_)]
    .exact Z
    .have:q=(i,o):=by obtain ⟨q1,q2⟩:=q;dsimp only at e Y;subst e;rw [z] at Y;cases Y;rfl
     rw [<-this];exact R,.inl aT,aV⟩
   exact ih _ left (f+1) _ b w hR aU (.inr F)
def Ac {id:Nat} (S:Ϣ->Prop) (hard:List Nat) (fin:Bool) (n:Nat) (F:ops.size=n) (e:P.follows .mixedOrders=ϑ) (k:Uq ops hard fin a.tmps.size=ϑ) (B:S w.drew)
  (h:BI P S hard (λleft b=>Dm P n Q S fin left b w.drew) ops.toList 0 [] a):(Code.region id ops ϑ).wp P Q a w:=by
 subst F;have g:=QT k;obtain ⟨b,left,t,v,x,f,y,z⟩:=Jm g ops.toList 0 [] a rfl rfl h;have l:∀ (i:Nat) o,ops[i]?=ς o->(i,o)∉left->hard.contains i=ϝ:=λi o c e=>by
  cases E:hard.contains i with
  | false=>rfl
  | true=>exact absurd ((f i o).2 ⟨Nat.zero_le _,c,E⟩) e
 refine wp_region_noPanic (wp_region_any e (WQ g ops.size _ left left.length a b _ ⟨ψ,v.symm,rfl,x,λd C=>(y d (λj o _ c q=>C j o c (by simp [(La c)]) (λe=>by have:=((f j o).1 e).2.2;rw [q] at this;cases this))).symm,λi o c _ e=>z i o (Nat.zero_le _) c (l i o c e),λi o c _ e j u d H s I=>?_,λD o c _=>(f _ _).2 ⟨Nat.zero_le _,c,g.last D⟩,λp G=>?_,.inl B,λi o c m=>(by have A:=(La c);rw [Array.getElem?_replicate,if_pos A] at m;cases m)⟩ ψ t.out))
 .rcases g.look i j o u d c H s I with ⟨_,h⟩|⟨h,h',_⟩
  .refine .inl λr=>?_
   have:=h (l i o c e);rw [((f j u).1 r).2.2] at this;cases this
  .exact .inr ⟨h,h'⟩
 .obtain ⟨_,k1,_⟩:=(f p.1 p.2).1 G
  exact ⟨k1,by simp [(La k1)]⟩
def Px (b:(l.map (·.1)).Nodup) {x:Nat×Oper} (a:x∈l):(l.filter (λq=>q.1 != x.1)).length+1=l.length:=by
 induction l with
 | nil=>cases a
 | cons y l d=>
  rw [List.map_cons,List.nodup_cons] at b;rcases ϰ.1 a with rfl|a
  .rw [List.filter_cons,if_neg ψ,List.filter_eq_self.2 (λq c=>by
    have:q.1≠x.1:=λe=>b.1 (by rw [<-e];exact List.mem_map_of_mem c);simpa using this)]
   rfl
  .have aA:y.1≠x.1:=λe=>b.1 (by rw [e];exact List.mem_map_of_mem a)
   rw [List.filter_cons,if_pos (by simpa using aA),List.length_cons,List.length_cons,d b.2 a]
def SK (fs rest:List (Nat×Oper)) (c:List Nat) (d:List Nat->Act->Ϣ->Prop) (Z:d [] a w) (u:((fs++rest).map (·.1)).Nodup)
  (hw:∀ r∈rest,(∀ i∈c,∀ o,(i,o)∈fs->waits r (i,o)=ϑ)\/∃ E∈rest,waits r E=ϑ) (s:∀ i∈c,∃ o,(i,o)∈fs)
  (j:∀ p∈fs,∀ b a w,p.1∉b->d b a w->p.2.wp P a w (λC B=>(S B\/(fin && p.1+1 == n)=ϑ)/\d (p.1::b) C B) (NoPanic Q))
  (g:∀ b a w,(∀ i∈c,i∈b)->d b a w->Dm P n Q S fin (fs.filter (λp=>!b.contains p.1)++rest) a w):Dm P n Q S fin (fs++rest) a w:=by
 have Y:∀ (k:Nat) (b:List Nat) (a:Act) (w:Ϣ),(fs.filter (λp=>!b.contains p.1)).length<=k->d b a w->Dm P n Q S fin (fs.filter (λp=>!b.contains p.1)++rest) a w:=by
  intro k;induction k with
  | zero=>
   intro b a w M y;refine g b a w (λi m=>?_) y;obtain ⟨o,z⟩:=s i m;have O:=List.eq_nil_of_length_eq_zero (Nat.le_zero.1 M);by_cases l:i∈b
   .exact l
   .have:(i,o)∈fs.filter (λp=>!b.contains p.1):=List.mem_filter.2 ⟨z,by simpa using l⟩
    rw [O] at this;cases this
  | succ k ih=>
   intro b a w M y;by_cases L:∀ i∈c,i∈b
   .exact g b a w L y
   .have aN:∃ i∈c,i∉b:=Classical.byContradiction λU=>L λi m=>Classical.byContradiction λl=>U ⟨i,m,l⟩
    obtain ⟨i,m,l⟩:=aN;obtain ⟨o,z⟩:=s i m;have K:(i,o)∈fs.filter (λp=>!b.contains p.1):=List.mem_filter.2 ⟨z,by simpa using l⟩;have R:(fs.filter (λp=>!b.contains p.1)++rest).map (·.1) |>.Nodup:=by refine List.Nodup.sublist ?_ u;exact (List.Sublist.append List.filter_sublist (List.Sublist.refl _)).map _
    have J:∀ x,x∈fs.filter (λp=>!b.contains p.1)++rest->((fs.filter (λp=>!b.contains p.1)++rest).filter (λq=>q.1 != x.1)).length+1=(fs.filter (λp=>!b.contains p.1)++rest).length:=λx A=>Px R A;obtain ⟨f,t⟩:∃ f,(fs.filter (λp=>!b.contains p.1)++rest).length=f+1:=⟨(fs.filter (λp=>!b.contains p.1)++rest).length - 1,by have:=J _ (List.mem_append_left _ K);omega⟩
    refine ⟨?_⟩;rw [t];refine .inr ⟨λe=>(by rw [e] at t;cases t),λx A v=>?_⟩;rcases List.mem_append.1 A with W|X
    .obtain ⟨aM,aS⟩:=List.mem_filter.1 W
     have T:x.1∉b:=by simpa using aS
     have F:rest.filter (λq=>q.1 != x.1)=rest:=List.filter_eq_self.2 (λq hq=>by
      have I:=u;rw [List.map_append,List.nodup_append] at I;have:q.1≠x.1:=λe=>I.2.2 _ (List.mem_map_of_mem aM) _ (List.mem_map_of_mem hq) e.symm;simpa using this)
     have G:(fs.filter (λp=>!b.contains p.1)).filter (λq=>q.1 != x.1)=fs.filter (λp=>!(x.1::b).contains p.1):=by rw [List.filter_filter];refine List.filter_congr (λq _=>?_);by_cases e:q.1=x.1<;>simp [e]
     have H:=J x A;rw [t,List.filter_append,F,G] at H;have N:(fs.filter (λp=>!(x.1::b).contains p.1)).length+rest.length=f:=by rw [List.length_append] at H;omega
     refine Oper.wp_mono (λC B h=>⟨h.1,?_⟩) (j x aM b a w T y);have hH:=ih (x.1::b) C B (by rw [List.length_append] at t;omega) h.2;rw [List.filter_append,F,G];have:=hH.out;rw [List.length_append,N] at this;exact this
    .exfalso
     unfold DE at v;rw [List.all_eq_true] at v;rcases hw x X with D|⟨E,V,D⟩
     .have:=v (i,o) (List.mem_append_left _ K)
      rw [D i m o z] at this;cases this
     .have:=v E (List.mem_append_right _ V)
      rw [D] at this;cases this
 have:=Y fs.length [] a w (List.length_filter_le _ _) Z;rw [List.filter_eq_self.2 (λp _=>by simp)] at this;exact this
def Ig (n i:Nat):Array Bool:=Array.ofFn (n:=n) (λj=>decide (j.val<i))
def Nf (ops:Array Oper) (hard:List Nat):Bool:=Region.noSelect ops && (List.range ops.size).all λi=>if hard.contains i then Region.ready .any ops (Ig ops.size i) == [i] else Region.free .any ops (Ig ops.size i) i && (Region.ready .any ops (Ig ops.size i)).contains i
structure Hw (P:Program) (ops:Array Oper) (hard:List Nat) (Q:Exit->Act->Ϣ->Prop) (S:Ϣ->Prop) (i:Nat) (os:List Oper) (a:Act) (w:Ϣ):Prop where
 out:Nf ops hard=ϑ->ops.toList.drop i=os->S w->wpAnyH P .any ops (NoPanic Q) S os.length (Ig ops.size i) a w
def softA {P Q:Prop} (q:Q) (k:Q->P:=by intro q;(repeat (first|(refine' BI.take (Eq.refl false) _ (λb a=>?_) ?_;rotate_left;(try dsimp only at a);go_simp;(try with_reducible rfl);try simp only [Ap])|refine BI.skip (Eq.refl true) ?_));refine BI.stop ?_;simp only [List.nil_append,List.cons_append];exact q):P:=k q
