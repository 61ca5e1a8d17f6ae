import Derived.Laws.EntriesVeiled
import Derived.Test.YtiejafonjemioaaGreatDoorNxt2
set_option linter.unusedVariables false
set_option linter.unusedSimpArgs false
open Go.Value renaming slice→σ
open Go.Obj renaming cells→χ
namespace Go.Proofs.YtiejafonjemioaaGreatDoor
open Go.RowKit
variable {l:List Int} {c:Cod} {x:Cal} {m m1 m':Mch} {a:Out} {b B B' o:Nat} {fs:List Fra} {f:Fra} {r:Rq} {n:Int} {w:World} {v:Value} {F:List Nat}
def Z2 (c:Cod) (n:Nod):Bool:=if n.type<0 then true else match c.fields[n.type.toNat]? with|none=>true|some k=>if (n.f.length:Int)≠k then true else n.f.any (fun n=>!X1 n)
def Q7 (c:Cod) (m:Mm):Bool:=decide ((m.globals.length:Int)=c.globals) && (decide (m.nodes.length<=4096) && (!(m.globals.any (fun n=>!X1 n)) && !(m.nodes.any (Z2 c))))
structure Acc where
 kind:Int
 node:Int
 field:Int
structure Ply where
 mem:Mm
 log:List Acc
 nodes:Int
structure Ks where
 fault:Int
 value:Int
 compares:Int
 nodes:Int
def Xem (x:Nod) (i:Nat) (v:Int):Nod:={ x with f:=x.f.set i v }
def Un (m:Mm) (r:Rq):List Int:=if (m.nodes.length:Int)<r.node then [] else if 0<r.node then ((m.nodes[(r.node - 1).toNat]?).map (·.f)).getD [] else m.globals
def putM (m:Mm) (r:Rq):Mm:=if r.kind≠2 then m else if 0<r.node then { m with nodes:=m.nodes.modify (r.node - 1).toNat (fun x=>Xem x r.field.toNat r.value) } else { m with globals:=m.globals.set r.field.toNat r.value }
def J5 (c:Cod) (p:Ply) (r:Rq):Option (Ply×Int):=
 if r.kind=3 then
  (if p.mem.nodes.length<4096 then some (⟨{ p.mem with nodes:=p.mem.nodes++[⟨r.field,List.replicate (c.fields.getD r.field.toNat 0).toNat 0⟩] },p.log++[⟨3,(p.mem.nodes.length:Int)+1,r.field⟩],p.nodes+1⟩,(p.mem.nodes.length:Int)+1) else some (p,0))
 else if ((Un p.mem r).length:Int)<=r.field then none
 else some (⟨putM p.mem r,p.log++[⟨r.kind,r.node,r.field⟩],p.nodes+(if 0<r.node then 1 else 0)⟩,if r.kind=2 then r.value else (Un p.mem r).getD r.field.toNat 0)
inductive Zx (c:Cod):Mch->Ply->Ks->Ply->Prop
 | done {m:Mch} {p:Ply}:m.req.kind=4->Zx c m p ⟨0,m.req.value,m.compares,p.nodes⟩ p
 | fail {m:Mch} {p:Ply}:m.req.kind=5->Zx c m p ⟨m.req.fault,0,m.compares,p.nodes⟩ p
 | type {m:Mch} {p:Ply}:m.req.kind≠4->m.req.kind≠5->J5 c p m.req=none->Zx c m p ⟨11,0,m.compares,p.nodes⟩ p
 | step {m m':Mch} {p p' p2:Ply} {n:Int} {o:Ks}:m.req.kind≠4->m.req.kind≠5->J5 c p m.req=some (p',n)->Jv c m n m'->Zx c m' p' o p2->Zx c m p o p2
def Xgl (c:Cod) (x:Nod):Prop:=0<=x.type/\c.fields[x.type.toNat]?=some (x.f.length:Int)/\∀ n∈x.f,isV n
structure Uv (c:Cod) (m:Mm):Prop where
 gl:(m.globals.length:Int)=c.globals
 gv:∀ n∈m.globals,isV n
 len:m.nodes.length<=4096
 nodes:∀ x∈m.nodes,Xgl c x
theorem Xfj :l.any (fun n=>!X1 n)=false↔∀ n∈l,isV n:=by
 rw [List.any_eq_false]
 exact ⟨fun h n hn=>by have:=h n hn;simp at this;exact Ye.1 this,fun h n hn=>by rw [Ye.2 (h n hn)];simp⟩
theorem Xct {x:Nod}:Z2 c x=false↔Xgl c x:=by
 unfold Z2 Xgl
 by_cases h:x.type<0
 ·rw [if_pos h];constructor
  ·intro h;cases h
  ·intro h';omega
 rw [if_neg h]
 cases hf:c.fields[x.type.toNat]? with
 | none=>simp
 | some k=>
  simp only []
  by_cases hk:(x.f.length:Int)=k
  ·rw [if_neg (by simp [hk]),Xfj]
   exact ⟨fun h'=>⟨ω,by rw [hk],h'⟩,fun h'=>h'.2.2⟩
  ·rw [if_pos hk]
   exact ⟨fun h=>(by cases h),fun h'=>absurd (by simpa using h'.2.1.symm) hk⟩
theorem Xn1 {m:Mm}:Q7 c m=true↔Uv c m:=by
 unfold Q7
 simp only [Bool.and_eq_true,decide_eq_true_eq,Bool.not_eq_true']
 rw [Xfj]
 have h4:m.nodes.any (Z2 c)=false↔∀ x∈m.nodes,Xgl c x:=by
  rw [List.any_eq_false]
  exact ⟨fun h x hx=>Xct.1 (by have:=h x hx;simpa using this),fun h x hx=>by rw [Xct.2 (h x hx)];simp⟩
 rw [h4]
 exact ⟨fun ⟨a,b,d,e⟩=>⟨a,d,b,e⟩,fun h=>⟨h.gl,h.len,h.gv,h.nodes⟩⟩
inductive J1 (m:Mch):Out->Prop
 | go (m1:Mch):J1 m (.go m1)
 | stop (r:Rq) (m1:Mch):m1.fuel=m.fuel/\m1.idle=m.idle+1->J1 m (.stop r m1)
 | junk (r:Rq) (m1:Mch):r.kind=5->J1 m (.stop r m1)
theorem J1.ite {p:Prop} [Decidable p] {b:Out} (ha:J1 m a) (hb:J1 m b):J1 m (if p then a else b):=by split<;>assumption
theorem Xj9 (c:Cod) (m:Mch) (fs:List Fra) (f:Fra) (y:Fun) (x:Ins):J1 m (Z0 c m fs f y x):=by
 unfold Z0
 simp only []
 repeat' apply J1.ite
 all_goals first|exact .go _|exact .stop _ _ ⟨rfl,rfl⟩|skip
 ·cases Je c x.a with
  | none=>exact .junk _ _ rfl
  | some z=>
   simp only []
   apply J1.ite
   ·exact .go _
   ·exact .stop _ _ ⟨rfl,rfl⟩
 ·cases fs.getLast? with
  | none=>exact .stop _ _ ⟨rfl,rfl⟩
  | some z=>exact .go _
theorem Xlg (hs:Xv c) (h:Ja c m fs f) (hst:stepP c m=.stop r m1) (hk:r.kind≠5):pot m1<pot m:=by
 by_cases aA:100000<=m.idle
 ·unfold stepP at hst
  rw [if_pos aA] at hst
  cases hst;exact absurd rfl hk
 have aA:m.idle<100000:=ω
 obtain ⟨y,x,hb,hr,hx,hp,aB⟩:=h.at_ hs
 rw [h.stepP hb.fn hx aA] at hst
 have aC:J1 m (.stop r m1):=by rw [<-hst];exact Xj9 c m fs f y x
 cases aC with
 | stop _ _ k=>unfold pot;omega
 | junk _ _ k=>exact absurd k hk
theorem Xoi (hs:Xv c) (h:Zm c m m'):∀ fs f,Ja c m fs f->m'.req.kind≠5->pot m'<pot m:=by
 induction h with
 | stop hst=>
  intro fs f hg hk
  rename_i m r m1
  show pot m1<pot m
  exact Xlg hs hg hst hk
 | go hst _ ih=>
  intro fs f hg hk
  have:=K5 hs hg
  rw [hst] at this
  obtain ⟨⟨aA,f',aB⟩,hp⟩:=this
  have:=ih aA f' aB hk
  omega
def mu (m:Mch):Nat:=(pot m).toNat*2+(if m.req.kind=4\/m.req.kind=5 then 0 else 1)
theorem Us.pot0 (h:Us c m):0<=pot m:=by
 have h1:=h.1.fuel
 have h2:=h.1.idle1
 unfold pot;omega
theorem Xd7 (hs:Xv c) (h:Us c m) (h4:m.req.kind≠4) (h5:m.req.kind≠5) (ha:Yr m.req n=true) (hn:Jv c m n m'):(Us c m'\/(m'.frames=[]/\m'.req=X0 21/\Ug m'))/\mu m'<mu m:=by
 have aH:=h.pot0
 obtain ⟨hN,hb⟩:=h
 have aB:mu m=(pot m).toNat*2+1:=by unfold mu;rw [if_neg (fun e=>e.elim h4 h5)]
 obtain ⟨fs,f,hw⟩:∃ fs f,Qr c m m.req fs f:=by
  rcases hb with ⟨e,_,hr,_⟩|⟨v,_,hr,_⟩|h
  ·exact absurd (by rw [hr];rfl) h5
  ·exact absurd (by rw [hr];rfl) h4
  ·exact h
 have fin:∀ m0 aA f0,Ja c m0 aA f0->pot m0=pot m->Zm c m0 m'->(Us c m'\/(m'.frames=[]/\m'.req=X0 21/\Ug m'))/\mu m'<mu m:=fun m0 aA f0 hg aJ hr=>by
  obtain ⟨he,aF⟩:=Xew hs hr aA f0 hg
  refine ⟨.inl he,?_⟩
  have aI:=he.pot0
  rw [aB]
  unfold mu
  split
  ·omega
  ·rename_i hk
   have:=Xoi hs hr aA f0 hg ω
   omega
 rcases hn with ⟨hk,aG,rfl⟩|⟨hk,aC,f1,aE,hr⟩|⟨hk,hr⟩
 ·refine ⟨.inr ⟨rfl,rfl,⟨hN.fuel,hN.idle0,hN.idle1,hN.cmp0,hN.potle⟩⟩,?_⟩
  rw [aB]
  unfold mu
  rw [if_pos (by simp [X0])]
  show (pot m).toNat*2+0<_
  omega
 ·have aD:aC=fs/\f1=f:=by
   have:=aE.symm.trans hw.fr
   simpa using List.append_inj' this rfl
  obtain ⟨rfl,rfl⟩:=aD
  have hv:isV n:=by
   unfold Yr at ha
   rcases hk with hk|⟨hk,_⟩
   ·rw [if_pos hk] at ha;exact Ye.1 ha
   ·rw [if_neg ω,if_pos hk] at ha;simp at ha;unfold isV;omega
  exact fin _ _ _ (hw.push hN ω n hv noR) rfl hr
 ·exact fin _ _ _ (hw.goOn hN hk noR) rfl hr
def U1 (d:Int) (m:Mch):Mch:={ m with fuel:=m.fuel+d }
def Xrr (d:Int):Out->Out
 | .go m=>.go (U1 d m)
 | .stop r m=>.stop r (U1 d m)
def Xnd:Out->Int
 | .go m=>m.fuel
 | .stop _ m=>m.fuel
def Xed (d:Int) (o o':Out):Prop:=(∃ m1,o=.stop (X0 20) m1)\/(o'=Xrr d o/\0<=Xnd o)
theorem Xed.ite {d:Int} {p:Prop} [Decidable p] {b a' b':Out} (ha:Xed d a a') (hb:Xed d b b'):Xed d (if p then a else b) (if p then a' else b'):=by split<;>assumption
theorem Xb8 {m2:Mch} (h:Jv c m n m1) (h':Jv c m n m2):m1=m2:=by
 rcases h with ⟨a1,a2,rfl⟩|⟨a1,fs,f,a2,a3⟩|⟨a1,a2⟩
 ·rcases h' with ⟨b1,b2,rfl⟩|⟨b1,_⟩|⟨b1,_⟩
  ·rfl
  ·omega
  ·omega
 ·rcases h' with ⟨b1,b2,rfl⟩|⟨b1,aB,f',b2,b3⟩|⟨b1,_⟩
  ·omega
  ·have he:=a2.symm.trans b2
   obtain ⟨rfl,aA⟩:=List.append_inj' he rfl
   cases aA
   exact Vv a3 b3
  ·omega
 ·rcases h' with ⟨b1,b2,rfl⟩|⟨b1,_⟩|⟨b1,b2⟩
  ·omega
  ·omega
  ·exact Vv a2 b2
def Xnn (c:Cod) (f:Fun) (hs:List Int) (i:Nat):Bool:=match f.code[i]?,hs[i]? with
 | some x,some h=>decide (Xm c f x<=h) && ((decide (x.op≠10) || decide (h=Xm c f x)) && (X2 x i).all (fun k=>decide (k<f.code.length) && decide (hs[k]?=some (h - Xm c f x+Xj c f x))))
 | _,_=>false
theorem Xe5 {f:Fun} (hs:List Int) (h0:hs[0]?=some 0) (hf:0<f.code.length) (hall:∀ i,i<f.code.length->Xnn c f hs i=true):Zh c f:=by
 have aA:∀ i n,Reach c f i n->i<f.code.length/\hs[i]?=some n:=fun i n h=>by
  refine h (fun i n=>i<f.code.length/\hs[i]?=some n) ⟨hf,h0⟩ ?_
  rintro i n x k ⟨h1,h2⟩ hx hk
  have:=hall i h1
  unfold Xnn at this
  rw [hx,h2] at this
  simp only [Bool.and_eq_true,decide_eq_true_eq,List.all_eq_true] at this
  exact this.2.2 k hk
 refine ⟨fun i n h=>?_,fun i n m h1 h2=>?_⟩
 ·obtain ⟨h1,h2⟩:=aA i n h
  have:=hall i h1
  unfold Xnn at this
  obtain ⟨x,hx⟩:∃ x,f.code[i]?=some x:=⟨_,Lg h1⟩
  rw [hx,h2] at this
  simp only [Bool.and_eq_true,Bool.or_eq_true,decide_eq_true_eq,List.all_eq_true] at this
  refine ⟨x,hx,this.1,fun e=>?_,fun k hk=>(this.2.2 k hk).1⟩
  rcases this.2.1 with h|h
  ·exact absurd e h
  ·exact Int.le_of_eq h
 ·have a:=(aA i n h1).2
  have b:=(aA i m h2).2
  rw [a] at b
  exact Option.some.inj b
structure Kt (c:Cod) (m:Mch) (p:Ply):Prop where
 ends:Us c m\/(m.frames=[]/\m.req=X0 21/\Ug m)
 mem:Uv c p.mem
 len:p.log.length+mu m<=1000000000000
 nodes:0<=p.nodes/\p.nodes<=p.log.length
theorem Xch (hs:Xv c) {fuel:Int} (h:Yd c x fuel=0) (hr:Zm c (Zo c x fuel) m):Us c m/\mu m<=300000000000:=by
 obtain ⟨fs,f,hg,hp⟩:∃ fs f,Ja c (Zo c x fuel) fs f/\pot (Zo c x fuel)<=110000000000:=by
  unfold Yd at h
  by_cases h2:fuel<0\/1048576<fuel
  ·rw [if_pos h2] at h;omega
  rw [if_neg h2] at h
  cases hy:c.funcs[(Q8 c x.proc).toNat]? with
  | none=>rw [hy] at h;simp at h
  | some y=>
   rw [hy] at h
   simp only [] at h
   by_cases h3:Q8 c x.proc<0
   ·rw [if_pos h3] at h;omega
   rw [if_neg h3] at h
   by_cases h4:(x.args.length:Int)=y.params
   rotate_left
   ·rw [if_pos h4] at h;omega
   rw [if_neg (by simp [h4])] at h
   cases h5:x.args.any (fun n=>!X1 n) with
   | true=>rw [h5] at h;simp at h
   | false=>
    have aA:=hs.fok hy
    unfold Zr at aA
    have e:Zo c x fuel=⟨[⟨Q8 c x.proc,0,x.args++List.replicate (y.locals - y.params).toNat 0,[]⟩],⟨0,0,0,0,0⟩,fuel,0,0⟩:=by unfold Zo;rw [hy];rfl
    rw [e]
    refine ⟨[],_,⟨rfl,⟨y,⟨by show 0<=Q8 c x.proc;omega,hy,by show (0:Int)<=0;omega,by show ((x.args++List.replicate (y.locals - y.params).toNat 0).length:Int)=y.locals;rw [List.length_append,List.length_replicate];omega,fun n hn=>?_,ψ⟩,Reach.zero c y⟩,trivial,ψ,⟨by show 0<=fuel;omega,by show (0:Int)<=0;omega,by show (0:Int)<=100000;omega,by show (0:Int)<=0;omega,by show (0:Int)+(fuel*100001+(100000 - 0))<=_;omega⟩⟩,by show fuel*100001+(100000 - 0)<=_;omega⟩
    simp only [List.mem_append,List.mem_replicate] at hn
    rcases hn with hn|hn
    ·exact Xfj.1 h5 n hn
    ·rw [hn.2];unfold isV;omega
 obtain ⟨h1,h2⟩:=Xew hs hr fs f hg
 refine ⟨h1,?_⟩
 unfold mu
 split<;>omega
variable {p:Ply}
theorem Kt.waits (h:Kt c m p) (h4:m.req.kind≠4) (h5:m.req.kind≠5):Us c m/\∃ fs f,Qr c m m.req fs f:=by
 rcases h.ends with h|⟨_,hr,_⟩
 ·refine ⟨h,?_⟩
  rcases h.2 with ⟨e,_,hr,_⟩|⟨v,_,hr,_⟩|h
  ·exact absurd (by rw [hr];rfl) h5
  ·exact absurd (by rw [hr];rfl) h4
  ·exact h
 ·exact absurd (by rw [hr];rfl) h5
structure Xm4 (c:Cod) (r:Rq):Prop where
 kind:r.kind=1\/r.kind=2\/r.kind=3
 field:0<=r.field
 field2:r.field<=100
 node:0<=r.node
 nodeV:isV r.node
 value:isV r.value
 alloc:r.kind=3->∃ n,c.fields[r.field.toNat]?=some n/\0<=n/\n<=12
theorem Qr.req (hs:Xv c) (h:Qr c m r fs f):Xm4 c r:=by
 obtain ⟨y,x,_,hb,_,hx,ha,_⟩:=h.top
 have lim:=fun {n:Int} hn=>hs.lim (n:=n) hb.fn hx hn
 have z:isV 0:=by unfold isV;omega
 have hg:=hs.1.2.2.2.1
 have aB:=hs.1.1
 rcases ha with ⟨ho,rfl⟩|⟨v,ho,hv,rfl⟩|⟨n,ho,h1,h2,rfl⟩|⟨n,v,ho,h1,h2,hv,rfl⟩|⟨ho,rfl⟩
 ·have:=lim (n:=c.globals) (by rw [ho];rfl)
  exact ⟨ψ,this.1,by show x.a<=100;omega,ψ,z,z,ψ⟩
 ·have:=lim (n:=c.globals) (by rw [ho];rfl)
  exact ⟨ψ,this.1,by show x.a<=100;omega,ψ,z,hv,ψ⟩
 ·have:=lim (n:=12) (by rw [ho];rfl)
  exact ⟨ψ,this.1,by show x.a<=100;omega,by show 0<=n;omega,h2,z,ψ⟩
 ·have:=lim (n:=12) (by rw [ho];rfl)
  exact ⟨ψ,this.1,by show x.a<=100;omega,by show 0<=n;omega,h2,hv,ψ⟩
 ·have:=lim (n:=(c.fields.length:Int)) (by rw [ho];rfl)
  refine ⟨ψ,this.1,by show x.a<=100;omega,ψ,z,z,fun _=>?_⟩
  have aA:x.a.toNat<c.fields.length:=ω
  refine ⟨c.fields[x.a.toNat],Lg aA,?_⟩
  have h2:=hs.1.2.1
  rw [List.any_eq_false] at h2
  have:=h2 _ (List.getElem_mem aA)
  simp at this
  omega
theorem Xk9 {m:Mm} (h:Uv c m) (r:Rq):∀ n∈Un m r,isV n:=by
 unfold Un
 split
 ·simp
 split
 ·cases hx:m.nodes[(r.node - 1).toNat]? with
  | none=>simp
  | some x=>
   simp
   exact (h.nodes x (Lm hx)).2.2
 ·exact h.gv
variable {p':Ply}
theorem Ji (hm:Uv c p.mem) (hr:Xm4 c r) (h:J5 c p r=some (p',n)):Yr r n=true:=by
 unfold J5 at h
 unfold Yr
 by_cases h3:r.kind=3
 ·rw [if_neg ω,if_pos h3]
  rw [if_pos h3] at h
  have hl:=hm.len
  split at h
  ·simp at h;simp;omega
  ·simp at h;simp;omega
 ·rw [if_neg h3] at h
  by_cases h1:r.kind=1
  ·rw [if_pos h1]
   split at h
   ·simp at h
   ·rename_i hlt
    simp at h
    have h2:=h.2
    rw [if_neg ω] at h2
    have aA:r.field.toNat<(Un p.mem r).length:=by have:=hr.field;omega
    rw [Lg aA] at h2
    simp at h2
    rw [<-h2]
    exact Ye.2 (Xk9 hm r _ (List.getElem_mem aA))
  ·rw [if_neg h1,if_neg h3]
theorem Xpw {m:Mm} (h:Uv c m) (hv:isV r.value):Uv c (putM m r):=by
 unfold putM
 split
 ·exact h
 split
 ·refine ⟨h.gl,h.gv,by simp;exact h.len,fun x hx=>?_⟩
  obtain ⟨i,hi⟩:=List.mem_iff_getElem?.1 hx
  simp only [List.getElem?_modify] at hi
  cases hy:m.nodes[i]? with
  | none=>rw [hy] at hi;simp at hi
  | some y=>
   rw [hy] at hi
   have aA:=h.nodes y (Lm hy)
   simp at hi
   split at hi
   ·subst hi
    refine ⟨aA.1,by simp only [Xem,List.length_set];exact aA.2.1,fun n hn=>?_⟩
    rcases List.mem_or_eq_of_mem_set hn with h1|h1
    ·exact aA.2.2 n h1
    ·rw [h1];exact hv
   ·subst hi;exact aA
 ·refine ⟨by simp;exact h.gl,fun n hn=>?_,h.len,h.nodes⟩
  rcases List.mem_or_eq_of_mem_set hn with h1|h1
  ·exact h.gv n h1
  ·rw [h1];exact hv
theorem Xq1 (hm:Uv c p.mem) (hr:Xm4 c r) (h:J5 c p r=some (p',n)):Uv c p'.mem/\(p'.log.length<=p.log.length+1)/\((0<=p.nodes/\p.nodes<=p.log.length)->0<=p'.nodes/\p'.nodes<=p'.log.length):=by
 unfold J5 at h
 by_cases h3:r.kind=3
 ·rw [if_pos h3] at h
  obtain ⟨k,hk,aA,aB⟩:=hr.alloc h3
  split at h
  ·rename_i hl
   simp at h
   obtain ⟨rfl,_⟩:=h
   refine ⟨⟨hm.gl,hm.gv,by simp;omega,fun x hx=>?_⟩,ψ,fun h=>by simp;omega⟩
   simp at hx
   rcases hx with hx|rfl
   ·exact hm.nodes x hx
   ·refine ⟨hr.field,by rw [hk];simp;omega,fun n hn=>?_⟩
    simp at hn
    rw [hn.2];unfold isV;omega
  ·simp at h
   obtain ⟨rfl,_⟩:=h
   exact ⟨hm,ω,fun h=>h⟩
 ·rw [if_neg h3] at h
  split at h
  ·simp at h
  ·simp at h
   obtain ⟨rfl,_⟩:=h
   exact ⟨Xpw hm hr.value,ψ,fun h=>by simp;split<;>omega⟩
theorem Kt.step (hs:Xv c) (h:Kt c m p) (h4:m.req.kind≠4) (h5:m.req.kind≠5) (ha:J5 c p m.req=some (p',n)) (hn:Jv c m n m'):Kt c m' p'/\mu m'<mu m:=by
 obtain ⟨hE,fs,f,hw⟩:=h.waits h4 h5
 have hr:=hw.req hs
 obtain ⟨h1,h2⟩:=Xd7 hs hE h4 h5 (Ji h.mem hr ha) hn
 obtain ⟨k1,k2,k3⟩:=Xq1 h.mem hr ha
 exact ⟨⟨h1,k1,by have:=h.len;omega,k3 h.nodes⟩,h2⟩
theorem Xf.up {α:Type} {sz:Nat} {E E':World->Nat->Nat->α->Prop} {l:List α} (h:Xf B w sz E v l) (hB:B<=B') (hE:∀ b o x,E w b o x->E' w b o x):Xf B' w sz E' v l:=by
 obtain ⟨a,cap,rfl,hl,aA,aB,h⟩:=h
 refine ⟨a,cap,rfl,hl,aA,aB,?_⟩
 rcases h with h|⟨b,o,rfl,hb,h⟩
 ·exact .inl h
 ·exact .inr ⟨b,o,rfl,ω,fun i x hx=>hE _ _ _ (h i x hx)⟩
theorem Xf.upI (h:Xf B w 1 Zd v l) (hB:B<=B'):Xf B' w 1 Zd v l:=h.up hB (fun _ _ _ h=>h)
theorem Zl.up {f:Fun} (h:Zl B w b o f) (hB:B<=B'):Zl B' w b o f:=by
 obtain ⟨h1,h2,h3,h4,⟨v,h5,h6⟩,h7⟩:=h
 exact ⟨h1,h2,h3,h4,⟨v,h5,h6.up hB (fun _ _ _ h=>h)⟩,h7⟩
theorem Qp.up (h:Qp B w b o f) (hB:B<=B'):Qp B' w b o f:=by
 obtain ⟨h1,h2,⟨v,h3,h4⟩,⟨u,h5,h6⟩,h7⟩:=h
 exact ⟨h1,h2,⟨v,h3,h4.upI hB⟩,⟨u,h5,h6.upI hB⟩,h7⟩
theorem Xbc.up {f:Nod} (h:Xbc B w b o f) (hB:B<=B'):Xbc B' w b o f:=by
 obtain ⟨h1,⟨v,h3,h4⟩,h7⟩:=h
 exact ⟨h1,⟨v,h3,h4.upI hB⟩,h7⟩
theorem Yj.up (h:Yj B w v c) (hB:B<=B'):Yj B' w v c:=by
 obtain ⟨fv,gv,h1,h2,h3,h4⟩:=h
 exact ⟨fv,gv,h1,h2.upI hB,h3.up hB (fun _ _ _ h=>h.up hB),h4⟩
theorem MmV.up {m:Mm} (h:MmV B w v m) (hB:B<=B'):MmV B' w v m:=by
 obtain ⟨gv,nv,h1,h2,h3⟩:=h
 exact ⟨gv,nv,h1,h2.upI hB,h3.up hB (fun _ _ _ h=>h.up hB)⟩
theorem J8.up (h:J8 B w v x) (hB:B<=B'):J8 B' w v x:=by
 obtain ⟨av,h1,h2,h3⟩:=h
 exact ⟨av,h1,h2.upI hB,h3⟩
theorem Yv.reads (h:Yv w v l F) (hl:l.length<=140737488355328):Xf w.heap.size w 1 Zd v l:=by
 by_cases h0:0<l.length
 ·obtain ⟨lb,cap,rfl,hF,h1,h2⟩:=h.form h0
  refine ⟨_,cap,rfl,hl,h1,h2,.inr ⟨lb,0,rfl,h.lt lb (by rw [hF];simp),fun i x hx=>⟨?_,h.2.2 x (Lm hx)⟩⟩⟩
  rw [Nat.zero_add,Nat.mul_one];exact h.cellAt hx
 ·have h3:l=[]:=List.eq_nil_of_length_eq_zero ω
  subst h3
  rcases h.1.2 with ⟨rfl,_⟩|⟨g,cap,aB,rfl,_,hg,hc,aA,_⟩
  ·exact ⟨none,0,rfl,ψ,ψ,ω,.inl rfl⟩
  ·exact ⟨some (π g 0),cap,rfl,ψ,ψ,by unfold maxLen at aA;omega,.inl rfl⟩
theorem Yl.at_ :∀ {fs:List Fra} {cells:List Value} {F:List Nat} {i:Nat} {f:Fra},Yl w cells fs F->fs[i]?=some f->
  ∃ lv sv Fl Fs,cells[i*4]?=some (ι f.fn)/\cells[i*4+1]?=some (ι f.pc)/\cells[i*4+2]?=some lv/\cells[i*4+3]?=some sv/\Yv w lv f.locals Fl/\Yv w sv f.stack Fs/\in64 f.fn/\in64 f.pc
 | [],_,_,_,_,_,hx=>by simp at hx
 | g::fs,cells,F,0,f,h,hx=>by
  obtain ⟨lv,sv,cs,Fl,Fs,Fr,rfl,h2,h3,h4,h5,h6,rfl⟩:=h
  simp at hx
  subst hx
  exact ⟨lv,sv,Fl,Fs,rfl,rfl,rfl,rfl,h2,h3,h4,h5⟩
 | g::fs,cells,F,i+1,f,h,hx=>by
  obtain ⟨lv,sv,cs,Fl,Fs,Fr,rfl,h2,h3,h4,h5,h6,rfl⟩:=h
  obtain ⟨lv',sv',aA,Fs',k1,k2,k3,k4,k5⟩:=h6.at_ (by simpa using hx)
  refine ⟨lv',sv',aA,Fs',?_,?_,?_,?_,k5⟩
  ·rw [show (i+1)*4=i*4+1+1+1+1 by omega];simpa using k1
  ·rw [show (i+1)*4+1=(i*4+1)+1+1+1+1 by omega];simpa using k2
  ·rw [show (i+1)*4+2=(i*4+2)+1+1+1+1 by omega];simpa using k3
  ·rw [show (i+1)*4+3=(i*4+3)+1+1+1+1 by omega];simpa using k4
theorem Z9.reads {fv:Value} (h:Z9 w fv fs F) (hl:fs.length<=140737488355328) (hf:∀ f∈fs,f.locals.length<=140737488355328/\f.stack.length<=140737488355328):Xf w.heap.size w 4 (Qp w.heap.size) fv fs:=by
 obtain ⟨cells,Fr,h1,h2,rfl,h4⟩:=h
 have hc:=h2.len
 rcases h1.2 with ⟨rfl,h0⟩|⟨g,cap,aC,rfl,_,hg,aA,aB,_⟩
 ·have h3:fs=[]:=List.eq_nil_of_length_eq_zero h0
  subst h3
  exact ⟨none,0,rfl,ψ,ψ,ω,.inl rfl⟩
 ·refine ⟨some (π g 0),cap,rfl,hl,aA,by unfold maxLen at aB;omega,.inr ⟨g,0,rfl,(La hg),fun i f hx=>?_⟩⟩
  obtain ⟨lv,sv,Fl,Fs,k1,k2,k3,k4,k5,k6,k7,k8⟩:=h2.at_ hx
  have hi:=(Ll hx)
  have hb:=hf f (Lm hx)
  rw [Nat.zero_add]
  refine ⟨?_,?_,⟨lv,?_,k5.reads hb.1⟩,⟨sv,?_,k6.reads hb.2⟩,k7,k8⟩
  ·rw [h1.cellAt _ ω];exact k1
  ·rw [h1.cellAt _ ω];exact k2
  ·rw [h1.cellAt _ ω];exact k3
  ·rw [h1.cellAt _ ω];exact k4
def J6 (m:Mch):Prop:=m.frames.length<=140737488355328/\∀ f∈m.frames,f.locals.length<=140737488355328/\f.stack.length<=140737488355328
theorem Jb.modest (hs:Xv c) (hsm:Zb c) {g:Fra} {P:Ins->Prop} (h:Jb c g P):g.locals.length<=140737488355328/\g.stack.length<=140737488355328:=by
 obtain ⟨y,x,hh,hb,h1,hx,_,hr,hl⟩:=h
 have h2:=Qu (hs.wf hb.fn) (hs.snd hb.fn) hr
 have h3:=hsm y (Lm hb.fn)
 have h4:=((hs.wf hb.fn).pops x (Lm hx)).1
 have aA:=hs.fok hb.fn
 unfold Zr at aA
 have:=hb.loc
 omega
theorem Vr.modest (hs:Xv c) (hsm:Zb c):∀ {l:List Fra} {k:Int},Vr c l k->∀ f∈l,f.locals.length<=140737488355328/\f.stack.length<=140737488355328
 | [],_,_,f,hf=>by simp at hf
 | g::r,k,h,f,hf=>by
  rw [List.mem_cons] at hf
  rcases hf with rfl|hf
  ·exact h.1.modest hs hsm
  ·exact Vr.modest hs hsm h.2 f hf
theorem Xa5 (h:m.frames=[]):J6 m:=by
 unfold J6;rw [h];exact ⟨ψ,ψ⟩
theorem Qr.modest (hs:Xv c) (hsm:Zb c) (h:Qr c m r fs f):J6 m:=by
 refine ⟨?_,fun g hg=>?_⟩
 ·rw [h.fr,List.length_append];have:=h.len;simp;omega
 ·rw [h.fr,List.mem_append,List.mem_singleton] at hg
  rcases hg with hg|rfl
  ·exact h.low.modest hs hsm g (List.mem_reverse.2 hg)
  ·exact h.top.modest hs hsm
theorem Us.modest (hs:Xv c) (hsm:Zb c) (h:Us c m):J6 m:=by
 rcases h.2 with ⟨_,_,_,h⟩|⟨_,_,_,h⟩|⟨fs,f,hw⟩
 ·exact Xa5 h
 ·exact Xa5 h
 ·exact hw.modest hs hsm
