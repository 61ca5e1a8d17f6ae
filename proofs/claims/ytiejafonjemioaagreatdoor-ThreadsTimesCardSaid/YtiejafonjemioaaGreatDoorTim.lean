import Derived.Test.YtiejafonjemioaaGreatDoorTnx
set_option linter.unusedVariables false
set_option linter.unusedSimpArgs false
open Go.Value renaming slice→σ
open Go.Obj renaming cells→χ
namespace Go.Proofs.YtiejafonjemioaaGreatDoor
open Go.RowKit
variable {c:Cod} {s s' s1:Thr} {t:Nat} {m0 m:Mch}
theorem timed_mono:∀ (b e:List Int) (l s s':Int),s<=s'->V5 b e l s=true->V5 b e l s'=true
 | [],_,_,_,_,_,_=>by simp [V5]
 | b::bs,[],l,s,s',h,ht=>by
  simp only [V5,Bool.and_eq_true,decide_eq_true_eq] at ht ⊢
  exact ⟨ht.1,ω,timed_mono bs [] l s s' h ht.2.2⟩
 | b::bs,e::es,l,s,s',h,ht=>by
  simp only [V5,Bool.and_eq_true,decide_eq_true_eq] at ht ⊢
  exact ⟨ht.1,ω,ht.2.2.1,ω,timed_mono bs es e s s' h ht.2.2.2.2⟩
theorem timed_beg:∀ (b e:List Int) (l s:Int),b.length=e.length->l<s->V5 b e l s=true->V5 (b++[s]) e l (s+1)=true
 | [],[],l,s,_,h,_=>by simp [V5];omega
 | [],e::es,_,_,hl,_,_=>by simp at hl
 | b::bs,[],_,_,hl,_,_=>by simp at hl
 | b::bs,e::es,l,s,hl,h,ht=>by
  simp only [V5,Bool.and_eq_true,decide_eq_true_eq,List.cons_append] at ht ⊢
  exact ⟨ht.1,ω,ht.2.2.1,ω,timed_beg bs es e s (by simpa using hl) ht.2.2.2.1 ht.2.2.2.2⟩
theorem timed_end:∀ (b e:List Int) (l s:Int),b.length=e.length+1->V5 b e l (s+1)=true->V5 b (e++[s]) l (s+1)=true
 | [],_,_,_,hl,_=>by simp at hl
 | [b],[],l,s,_,ht=>by
  simp only [V5,Bool.and_eq_true,decide_eq_true_eq,List.nil_append] at ht ⊢
  exact ⟨ht.1,ht.2.1,ω,ω,trivial⟩
 | b::b2::bs,[],_,_,hl,_=>by simp at hl
 | b::bs,e::es,l,s,hl,ht=>by
  simp only [V5,Bool.and_eq_true,decide_eq_true_eq,List.cons_append] at ht ⊢
  exact ⟨ht.1,ht.2.1,ht.2.2.1,ht.2.2.2.1,timed_end bs es e s (by simpa using hl) ht.2.2.2.2⟩
def TimI (s:Thr):Prop:=∀ (t:Nat) b e,s.begins[t]?=some b->s.ends[t]?=some e->V5 b e (-1) s.step=true
theorem settle_parts (s:Thr) (t:Nat) (m:Mch) (n:Int):(Xr8 s t m n).begins=s.begins/\((Xr8 s t m n).ends=s.ends\/(Xr8 s t m n).ends=s.ends.modify t (·++[s.step]))/\(Xr8 s t m n).running.length=s.running.length/\(Xr8 s t m n).mem=s.mem:=by
 unfold Xr8
 split
 ·exact ⟨rfl,.inr rfl,by simp [Xwz],rfl⟩
 ·split
  ·exact ⟨rfl,.inr rfl,by simp [Xwz],rfl⟩
  ·exact ⟨rfl,.inl rfl,ψ,rfl⟩
structure StepS (c:Cod) (s s':Thr) (t:Nat) (m0 m:Mch) (s1:Thr):Prop where
 hm:s.running[t]?=some m0
 beg:X1l c s t m0 m s1
 begins:s'.begins=s1.begins
 ends:s'.ends=s.ends\/s'.ends=s.ends.modify t (·++[s.step])
 step:s'.step=s.step+1
 run:s'.running.length=s.running.length
 mem:(Xsi m=false/\s'.mem=s.mem)\/(Xsi m=true/\Xtd c s.mem m.req=none/\s'.mem=s.mem)\/(Xsi m=true/\∃ a,Xtd c s.mem m.req=some (s'.mem,a))
theorem Xsq.seen (h:Xsq c s t s'):∃ m0 m s1,StepS c s s' t m0 m s1:=by
 obtain ⟨m0,n,m,s1,aA,hn,hB,hA⟩:=h
 obtain ⟨f1,f2,f3,f4,f5,f6,f7⟩:=hB.same
 refine ⟨m0,m,s1,?_⟩
 rcases hA with ⟨ha,rfl⟩|⟨ha,hx,rfl⟩|⟨ha,mm,a,m',hx,hN,rfl⟩
 ·obtain ⟨k1,k2,k3,k4⟩:=settle_parts s1 t m n
  have k5:=Xts s1 t m n
  exact ⟨aA,hB,k1,k2.imp (·.trans f4) (·.trans (by rw [f4,f6])),by show (Xr8 _ _ _ _).step+1=_;rw [k5,f6],by show (Xr8 _ _ _ _).running.length=_;rw [k3,f1],.inl ⟨ha,k4.trans f5⟩⟩
 ·rw [f5] at hx
  exact ⟨aA,hB,rfl,.inr (by show s1.ends.modify t (·++[s1.step])=_;rw [f4,f6]),by show s1.step+1=_;rw [f6],by show (s1.running.set t Xl).length=_;rw [List.length_set,f1],.inr (.inl ⟨ha,hx,f5⟩)⟩
 ·obtain ⟨k1,k2,k3,k4⟩:=settle_parts { s1 with mem:=mm,nodes:=s1.nodes.set t (n+Xs1 s1.mem m.req) } t m' (n+Xs1 s1.mem m.req)
  have k5:=Xts { s1 with mem:=mm,nodes:=s1.nodes.set t (n+Xs1 s1.mem m.req) } t m' (n+Xs1 s1.mem m.req)
  dsimp only at k2 k3 k4 k5
  rw [f5] at hx
  refine ⟨aA,hB,k1,k2.imp (·.trans f4) (·.trans (by rw [f4,f6])),by show (Xr8 _ _ _ _).step+1=_;rw [k5,f6],by show (Xr8 _ _ _ _).running.length=_;rw [k3,f1],.inr (.inr ⟨ha,a,?_⟩)⟩
  rw [hx]
  exact congrArg (fun q=>some (q,a)) k4.symm
theorem StepS.times (h:StepS c s s' t m0 m s1) (hI:Xs8 c s) (hT:TimI s):TimI s':=by
 intro u b e hb he
 rw [h.begins] at hb
 rw [h.step]
 by_cases hu:u=t
 ·subst hu
  obtain ⟨aD,n,l,r,b0,e0,aA⟩:=hI.at_ (Ll h.hm)
  have e1:=aA.m
  rw [h.hm] at e1
  cases e1
  have hA:=hI.all u _ _ _ _ _ _ aA
  have h0:=hT u b0 e0 aA.b aA.e
  have aC:b.length=e0.length+1/\V5 b e0 (-1) (s.step+1)=true:=by
   rcases h.beg with ⟨hf,-,rfl⟩|⟨hf,x,l',-,-,rfl⟩
   ·rw [aA.b] at hb
    cases hb
    have:=hA.begins
    rw [if_neg hf] at this
    exact ⟨by rw [this,hA.ends],timed_mono _ _ _ _ _ ω h0⟩
   ·have aB:(s.begins.modify u (·++[s.step]))[u]?=some b:=hb
    rw [Xxo aA.b] at aB
    cases aB
    have:=hA.begins
    rw [if_pos hf] at this
    have:=hA.ends
    exact ⟨by simp;omega,timed_beg _ _ _ _ ω (by have:=hI.step;omega) h0⟩
  rcases h.ends with k|k
  ·rw [k,aA.e] at he
   cases he
   exact aC.2
  ·rw [k,Xxo aA.e] at he
   cases he
   exact timed_end _ _ _ _ aC.1 aC.2
 ·have k1:s.begins[u]?=some b:=by
   rcases h.beg with ⟨-,-,rfl⟩|⟨-,x,l',-,-,rfl⟩
   ·exact hb
   ·have aB:(s.begins.modify t (·++[s.step]))[u]?=some b:=hb
    rwa [Xzn hu] at aB
  have k2:s.ends[u]?=some e:=by
   rcases h.ends with k|k
   ·rwa [k] at he
   ·rwa [k,Xzn hu] at he
  exact timed_mono _ _ _ _ _ ω (hT u b e k1 k2)
def PutM (m:Mm) (a:Acc) (m':Mm):Prop:=∃ (r:Rq) (v:Int),r.node=a.node/\r.field=a.field/\0<=r.node/\r.node<=m.nodes.length/\0<=r.field/\r.field<((Un m r).length:Int)/\m'=Xw6 m r v
def AccOk (m:Mm) (a:Acc) (m':Mm):Prop:=(a.kind=3/\a.node=(m.nodes.length:Int)+1/\(m'.nodes.length:Int)=a.node)\/(a.kind=2/\PutM m a m')\/(a.kind≠3/\a.kind≠2/\m'=m)
theorem StepS.acc (h:StepS c s s' t m0 m s1) (hV:Xse c s) (hE:m0.frames=[]->Us c m/\m.fuel<=1048576/\m.compares+pot m<=1000000000000):AccOk s.mem (nextA s m) s'.mem:=by
 rcases h.mem with ⟨ha,he⟩|⟨ha,hx,he⟩|⟨ha,a,hx⟩
 ·have:nextA s m=⟨0,0,0⟩:=by unfold nextA;rw [ha];rfl
  rw [this]
  exact .inr (.inr ⟨δ,δ,he⟩)
 ·have:nextA s m=⟨0,0,0⟩:=by unfold nextA;rw [ha];exact Xxu hx
  rw [this]
  exact .inr (.inr ⟨δ,δ,he⟩)
 ·have hq:=beg_req hV h.hm h.beg hE ha
  have hn:nextA s m=Xst s.mem m.req:=by unfold nextA;rw [ha];rfl
  rw [hn]
  unfold Xtd at hx
  unfold Xst
  by_cases h3:m.req.kind=3
  ·rw [if_pos h3] at hx ⊢
   by_cases hl:s.mem.nodes.length<4096
   ·rw [if_pos hl] at hx ⊢
    obtain ⟨h1,-⟩:=Prod.mk.inj (Option.some.inj hx)
    exact .inl ⟨rfl,rfl,by rw [<-h1];simp⟩
   ·rw [if_neg hl] at hx ⊢
    obtain ⟨h1,-⟩:=Prod.mk.inj (Option.some.inj hx)
    exact .inr (.inr ⟨δ,δ,h1.symm⟩)
  ·rw [if_neg h3] at hx ⊢
   by_cases hf:((Un s.mem m.req).length:Int)<=m.req.field
   ·rw [if_pos hf] at hx
    cases hx
   ·rw [if_neg hf] at hx ⊢
    by_cases h2:m.req.kind=2
    ·rw [if_pos h2] at hx
     obtain ⟨h1,-⟩:=Prod.mk.inj (Option.some.inj hx)
     refine .inr (.inl ⟨h2,m.req,m.req.value,rfl,rfl,hq.node,?_,hq.field,ω,h1.symm⟩)
     have:=hq.field
     exact Int.not_lt.1 (fun aA=>by unfold Un at hf;rw [if_pos aA] at hf;simp at hf;omega)
    ·rw [if_neg h2] at hx
     obtain ⟨h1,-⟩:=Prod.mk.inj (Option.some.inj hx)
     exact .inr (.inr ⟨h3,h2,h1.symm⟩)
theorem step_all (hI:Xs8 c s) (hT:TimI s) (hV:Xse c s) (hR:Xsq c s t s') (hm:s.running[t]?=some m0) (hB:X1l c s t m0 m s1) (h6:s.step<65536):Xs8 c s'/\TimI s'/\Xse c s'/\s'.step=s.step+1/\s'.running.length=s.running.length/\AccOk s.mem (nextA s m) s'.mem:=by
 obtain ⟨aF,m',aG,h⟩:=hR.seen
 have e0:=h.hm
 rw [hm] at e0
 cases e0
 have em:m'=m:=by
  rcases hB with ⟨hf,rfl,-⟩|⟨hf,x,l,hl,hr,-⟩
  ·rcases h.beg with ⟨-,rfl,-⟩|⟨aA,-⟩
   ·rfl
   ·exact absurd aA hf
  ·rcases h.beg with ⟨aA,-⟩|⟨-,x2,l2,aD,aE,-⟩
   ·exact absurd hf aA
   ·rw [hl] at aD
    cases aD
    exact Vv aE hr
 subst em
 have aB:=hI.stepR hR
 have aC:=h.times hI hT
 have hr:=h.run
 have h1:=h.step
 obtain ⟨n,hn⟩:∃ n,s.nodes[t]?=some n:=⟨_,Lg (by rw [hI.nodes];exact (Ll hm))⟩
 obtain ⟨_,_,_,_,-,hE⟩:=hI.begin_ hm hn h.beg
 exact ⟨aB,aC,aB.valT (by rw [hr];exact hV.one) (by rw [hr];exact hV.eight) ω aC,h1,hr,h.acc hV (fun _=>⟨hE.1,hE.2.1,hE.2.2.1⟩)⟩
theorem set_back {α:Type} {l:List α} {k:Nat} {x y:α} (h:l[k]?=some x):(l.set k y).set k x=l:=by
 obtain ⟨h1,rfl⟩:=List.getElem?_eq_some_iff.1 h
 simp
theorem setM_back {m:Mm} {r:Rq} {v:Int} (hn:0<=r.node) (hf:0<=r.field) (hl:r.field<((Un m r).length:Int)):Xw6 (Xw6 m r v) r ((Un m r).getD r.field.toNat 0)=m/\(Un (Xw6 m r v) r).length=(Un m r).length/\(Xw6 m r v).nodes.length=m.nodes.length/\(Xw6 m r v).globals.length=m.globals.length:=by
 by_cases h0:r.node=0
 ·rw [Xv5 h0] at hl ⊢
  obtain ⟨y,hy⟩:∃ y,m.globals[r.field.toNat]?=some y:=⟨_,Lg ω⟩
  have e:∀ (q:Mm) x,Xw6 q r x={ q with globals:=q.globals.set r.field.toNat x }:=fun q x=>by unfold Xw6;rw [if_neg ω]
  rw [List.getD_eq_getElem?_getD,hy,e m v,e,Xv5 h0]
  refine ⟨?_,ψ,rfl,ψ⟩
  show (⟨(m.globals.set r.field.toNat v).set r.field.toNat y,m.nodes⟩:Mm)=m
  rw [set_back hy]
 ·obtain ⟨x,hx⟩:=Xyn ω hf hl
  rw [Xw4 ω hx] at hl ⊢
  obtain ⟨y,hy⟩:∃ y,x.f[r.field.toNat]?=some y:=⟨_,Lg ω⟩
  have e:∀ (q:Mm) x,Xw6 q r x={ q with nodes:=q.nodes.modify (r.node - 1).toNat (fun y=>Xem y r.field.toNat x) }:=fun q x=>by unfold Xw6;rw [if_pos ω]
  rw [List.getD_eq_getElem?_getD,hy,e m v,e]
  have aA:(m.nodes.modify (r.node - 1).toNat (fun y=>Xem y r.field.toNat v))[(r.node - 1).toNat]?=some (Xem x r.field.toNat v):=Xxo hx
  refine ⟨?_,by rw [Xw4 ω aA];simp [Xem],ψ,rfl⟩
  show (⟨m.globals,(m.nodes.modify (r.node - 1).toNat (fun y=>Xem y r.field.toNat v)).modify (r.node - 1).toNat (fun z=>Xem z r.field.toNat y)⟩:Mm)=m
  have:(m.nodes.modify (r.node - 1).toNat (fun y=>Xem y r.field.toNat v)).modify (r.node - 1).toNat (fun z=>Xem z r.field.toNat y)=m.nodes:=by
   apply List.ext_getElem?
   intro i
   by_cases hi:i=(r.node - 1).toNat
   ·subst hi
    rw [Xxo aA,hx]
    show some (Xem (Xem x _ v) _ y)=some x
    congr 1
    show (⟨x.type,(x.f.set r.field.toNat v).set r.field.toNat y⟩:Nod)=x
    rw [set_back hy]
   ·rw [Xzn hi,Xzn hi]
  rw [this]
