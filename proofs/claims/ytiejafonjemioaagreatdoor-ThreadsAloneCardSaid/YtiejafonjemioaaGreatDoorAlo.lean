import Derived.Test.YtiejafonjemioaaGreatDoorFie
import Derived.Test.YtiejafonjemioaaGreatDoorInv
import Derived.Test.YtiejafonjemioaaGreatDoorDoe
set_option linter.unusedVariables false
set_option linter.unusedSimpArgs false
namespace Go.Proofs.YtiejafonjemioaaGreatDoor
open Go.RowKit
variable {c:Cod} {fuel n:Int} {m mt mid:Mm} {l xs:List Cal} {r os:List Xr7} {x:Cal} {m1 q:Mch} {cs:List (List Cal)} {t:Nat} {s s':Thr} {lg:List Acc}
def toT (o:Ks):Xr7:=⟨o.fault,o.value,o.compares,o.nodes,0⟩
inductive Xus (c:Cod) (fuel:Int):Mm→List Cal→List Xr7→Mm→Prop
 | nil {m:Mm}:Xus c fuel m [] [] m
 | cons {m:Mm} {x:Cal} {l:List Cal} {m1:Mch} {o:Ks} {p:Ply} {r:List Xr7} {m':Mm}:Zm c (Zo c x fuel) m1→Zx c m1 ⟨m,[],0⟩ o p→Xus c fuel p.mem l r m'→Xus c fuel m (x::l) (toT o::r) m'
theorem Xus.snoc {m':Mm} (h:Xus c fuel m l r m') {o:Ks} {p:Ply} (hr:Zm c (Zo c x fuel) m1) (hp:Zx c m1 ⟨m',[],0⟩ o p):Xus c fuel m (l++[x]) (r++[toT o]) p.mem:=by
 induction h with
 | nil=>exact .cons hr hp .nil
 | cons h1 h2 _ ih=>exact .cons h1 h2 (ih hp)
inductive Xug (c:Cod) (fuel:Int):Mm→List (List Cal)→List (List Xr7)→Mm→Prop
 | nil {m:Mm}:Xug c fuel m [] [] m
 | cons {m:Mm} {l:List Cal} {r:List Xr7} {m1:Mm} {ls:List (List Cal)} {rs:List (List Xr7)} {m2:Mm}:Xus c fuel m l r m1→Xug c fuel m1 ls rs m2→Xug c fuel m (l::ls) (r::rs) m2
theorem Xug.snoc {m1 m2:Mm} {ls:List (List Cal)} {rs:List (List Xr7)} (h:Xug c fuel m ls rs m1) (hc:Xus c fuel m1 l r m2):Xug c fuel m (ls++[l]) (rs++[r]) m2:=by
 induction h with
 | nil=>exact .cons hc .nil
 | cons h1 _ ih=>exact .cons h1 (ih hc)
structure X1r (c:Cod) (m:Mm) (fuel:Int) (cs:List (List Cal)) (t:Nat) (s:Thr) (mt:Mm):Prop where
 fu:s.fuel=fuel
 lr:s.results.length=cs.length
 ch:Xug c fuel m (cs.take t) (s.results.take t) mt
 dn:∀ u,u<t→s.calls[u]?=some []∧∃ mu,s.running[u]?=some mu∧mu.frames=[]
 up:∀ u,t<u→u<cs.length→s.results[u]?=some []∧s.calls[u]?=cs[u]?∧s.running[u]?=some Xl∧s.nodes[u]?=some 0
def Cur (c:Cod) (fuel:Int) (s:Thr) (t:Nat) (l:List Cal) (mid:Mm):Prop:=
 (s.running[t]?=some Xl∧s.nodes[t]?=some 0∧s.calls[t]?=some l∧s.mem=mid)∨
 ∃ x l' mr n m1 lg,l=x::l'∧s.running[t]?=some mr∧mr.frames≠[]∧s.nodes[t]?=some n∧s.calls[t]?=some l'∧Zm c (Zo c x fuel) m1∧∀ o p,Zx c mr ⟨s.mem,lg,n⟩ o p→Zx c m1 ⟨mid,[],0⟩ o p
def Xws (c:Cod) (m:Mm) (fuel:Int) (cs:List (List Cal)) (t:Nat) (s:Thr):Prop:=
 ∃ mt,X1r c m fuel cs t s mt∧((cs.length≤t∧s.mem=mt)∨(t<cs.length∧∃ xs l os mid,cs[t]?=some (xs++l)∧s.results[t]?=some os∧Xus c fuel mt xs os mid∧Cur c fuel s t l mid))
theorem X1r.to (h:X1r c m fuel cs t s mt) (hf:s'.fuel=s.fuel) (hl:s'.results.length=s.results.length)
  (ho:∀ u,u≠t→s'.results[u]?=s.results[u]?∧s'.calls[u]?=s.calls[u]?∧s'.running[u]?=s.running[u]?∧s'.nodes[u]?=s.nodes[u]?):X1r c m fuel cs t s' mt:=by
 refine ⟨hf.trans h.fu,hl.trans h.lr,?_,fun u hu=>?_,fun u hu aA=>?_⟩
 ·have e:s'.results.take t=s.results.take t:=by
   apply List.ext_getElem?
   intro i
   rw [List.getElem?_take,List.getElem?_take]
   split
   ·exact (ho i (by omega)).1
   ·rfl
  rw [e];exact h.ch
 ·obtain ⟨_,e2,e3,_⟩:=ho u (by omega)
  rw [e2,e3];exact h.dn u hu
 ·obtain ⟨e1,e2,e3,e4⟩:=ho u (by omega)
  rw [e1,e2,e3,e4];exact h.up u hu aA
structure X0j (c:Cod) (m:Mm) (fuel:Int) (cs:List (List Cal)) (t:Nat) (s:Thr) (q:Mch) (n:Int) (mt:Mm) (xs:List Cal) (x:Cal) (l:List Cal) (os:List Xr7) (mid:Mm) (m1:Mch) (lg:List Acc):Prop where
 o:X1r c m fuel cs t s mt
 lt:t<cs.length
 at_:cs[t]?=some (xs++x::l)
 res:s.results[t]?=some os
 ch:Xus c fuel mt xs os mid
 calls:s.calls[t]?=some l
 run:t<s.running.length
 nod:s.nodes[t]?=some n
 runs:Zm c (Zo c x fuel) m1
 plays:∀ o p,Zx c q ⟨s.mem,lg,n⟩ o p→Zx c m1 ⟨mid,[],0⟩ o p
theorem X0j.endI (h:X0j c m fuel cs t s q n mt xs x l os mid m1 lg) {f v k:Int}
  (hp:Zx c q ⟨s.mem,lg,n⟩ ⟨f,v,k,n⟩ ⟨s.mem,lg,n⟩):Xws c m fuel cs t (Xud (Xwz s t f v k n)):=by
 refine ⟨mt,h.o.to rfl (List.length_modify ..) (fun u hu=>⟨Xzn hu,rfl,List.getElem?_set_ne (Ne.symm hu),List.getElem?_set_ne (Ne.symm hu)⟩),.inr ⟨h.lt,xs++[x],l,os++[(⟨f,v,k,n,0⟩:Xr7)],s.mem,?_,(show (s.results.modify t (·++[(⟨f,v,k,n,0⟩:Xr7)]))[t]?=some (os++[(⟨f,v,k,n,0⟩:Xr7)]) from Xxo h.res),h.ch.snoc h.runs (h.plays _ _ hp),.inl ⟨Xtt (Lg h.run),Xtt h.nod,h.calls,rfl⟩⟩⟩
 rw [h.at_];simp
theorem X0j.settleI (h:X0j c m fuel cs t s q n mt xs x l os mid m1 lg)
  (hE:Us c q∨(q.frames=[]∧q.req=X0 21∧Ug q)):Xws c m fuel cs t (Xud (Xr8 s t q n)):=by
 unfold Xr8
 by_cases h4:q.req.kind=4
 ·rw [if_pos h4];exact h.endI (.done h4)
 ·rw [if_neg h4]
  by_cases h5:q.req.kind=5
  ·rw [if_pos h5];exact h.endI (.fail h5)
  ·rw [if_neg h5]
   rcases hE with ⟨hN,⟨e,_,hr,_⟩|⟨v,_,hr,_⟩|⟨fs,f,hw⟩⟩|⟨_,hr,_⟩
   ·exact absurd (by rw [hr];rfl) h5
   ·exact absurd (by rw [hr];rfl) h4
   ·exact ⟨mt,h.o.to rfl rfl (fun u hu=>⟨rfl,rfl,List.getElem?_set_ne (Ne.symm hu),rfl⟩),.inr ⟨h.lt,xs,x::l,os,mid,h.at_,h.res,h.ch,.inr ⟨x,l,q,n,m1,lg,rfl,Xtt (Lg h.run),by rw [hw.fr];simp,h.nod,h.calls,h.runs,h.plays⟩⟩⟩
   ·exact absurd (by rw [hr];rfl) h5
theorem X2x {mm:Mm} {r:Rq} {a:Int} (lg:List Acc) (hn:0≤r.node) (h:Xtd c m r=some (mm,a)):∃ lg',J5 c ⟨m,lg,n⟩ r=some (⟨mm,lg',n+Xs1 m r⟩,a):=by
 unfold Xtd at h
 unfold J5 Xs1 Xst
 by_cases h3:r.kind=3
 ·rw [if_pos h3] at h ⊢
  rw [if_pos h3]
  by_cases hl:m.nodes.length<4096
  ·rw [if_pos hl] at h ⊢
   rw [if_pos hl]
   cases h
   exact ⟨_,by rw [if_pos (by show (m.nodes.length:Int)+1≠0;omega)]⟩
  ·rw [if_neg hl] at h ⊢
   rw [if_neg hl]
   cases h
   exact ⟨_,by simp;rfl⟩
 ·rw [if_neg h3] at h ⊢
  rw [if_neg h3]
  by_cases hl:((Un m r).length:Int)≤r.field
  ·rw [if_pos hl] at h;cases h
  ·rw [if_neg hl] at h ⊢
   rw [if_neg hl]
   have e:(if (⟨r.kind,r.node,r.field⟩:Acc).node≠0 then (1:Int) else 0)=if 0<r.node then 1 else 0:=by
    show (if r.node≠0 then (1:Int) else 0)=_
    by_cases h0:0<r.node
    ·rw [if_pos h0,if_pos (by omega)]
    ·rw [if_neg h0,if_neg (by omega)]
   rw [e]
   by_cases h2:r.kind=2
   ·rw [if_pos h2] at h ⊢
    cases h
    refine ⟨lg++[⟨r.kind,r.node,r.field⟩],?_⟩
    show some ((⟨putM m r,_,_⟩:Ply),_)=some ((⟨Xw6 m r r.value,_,_⟩:Ply),_)
    unfold putM Xw6
    rw [if_neg (by omega)]
   ·rw [if_neg h2] at h ⊢
    cases h
    refine ⟨lg++[⟨r.kind,r.node,r.field⟩],?_⟩
    show some ((⟨putM m r,_,_⟩:Ply),_)=some ((⟨m,_,_⟩:Ply),_)
    unfold putM
    rw [if_pos h2]
theorem X1c {r:Rq} (lg:List Acc) (h:Xtd c m r=none):J5 c ⟨m,lg,n⟩ r=none:=by
 unfold Xtd at h
 unfold J5
 by_cases h3:r.kind=3
 ·rw [if_pos h3] at h
  split at h<;>cases h
 ·rw [if_neg h3] at h ⊢
  by_cases hl:((Un m r).length:Int)≤r.field
  ·rw [if_pos hl]
  ·rw [if_neg hl] at h
   split at h<;>cases h
theorem Xws.step (h:Xws c m fuel cs t s) (hi:Xs8 c s) (ht:t<cs.length) (hR:Xsq c s t s'):Xws c m fuel cs t s':=by
 obtain ⟨mt,hO,⟨h1,_⟩|⟨_,xs,l,os,aP,aL,aG,aI,aD⟩⟩:=h
 ·omega
 obtain ⟨m0,n,q,s1,aE,hn,hB,hA⟩:=hR
 obtain ⟨_,_,_,_,hM,hE,hf,hc,_,_⟩:=hi.begin_ aE hn hB
 have aM:=(Ll aE)
 obtain ⟨x,l',m1,lg,aA⟩:∃ x l' m1 lg,X0j c m fuel cs t s1 q n mt xs x l' os aP m1 lg:=by
  rcases hB with ⟨aJ,rfl,rfl⟩|⟨aJ,x,l',hl,aK,rfl⟩
  ·rcases aD with ⟨e,_⟩|⟨x,l',mr,n',m1,lg,rfl,e1,_,e3,e4,e5,e6⟩
   ·rw [aE] at e;cases e;exact absurd rfl aJ
   ·rw [aE] at e1;cases e1
    rw [hn] at e3;cases e3
    exact ⟨x,l',m1,lg,hO,ht,aL,aG,aI,e4,aM,hn,e5,e6⟩
  ·rcases aD with ⟨_,e2,e3,e4⟩|⟨_,_,_,_,_,_,_,e1,e2,_⟩
   ·rw [hl] at e3;cases e3
    rw [hn] at e2;cases e2
    subst e4
    rw [hO.fu] at aK
    exact ⟨x,l',q,[],hO.to rfl rfl (fun u hu=>⟨rfl,List.getElem?_set_ne (Ne.symm hu),rfl,rfl⟩),ht,aL,aG,aI,Xtt hl,aM,hn,aK,fun _ _ h=>h⟩
   ·rw [aE] at e1;cases e1;exact absurd aJ e2
 rcases hA with ⟨_,rfl⟩|⟨ha,aN,rfl⟩|⟨ha,mm,a,m',aC,hN,rfl⟩
 ·exact aA.settleI (.inl hE)
 ·have hk:=Xty ha
  exact aA.endI (.type hk.1 hk.2 (X1c lg aN))
 ·have aB:=Xwh hE ha hf hc
  have hk:=Xty ha
  obtain ⟨fs,f,hw⟩:=aB.waits
  have aF:Xm4 c q.req:=hw.req hM.sound
  obtain ⟨k1,k2,k3⟩:=Xyh hM.sound aB (Xt5 hM.mem aF aC) hN
  obtain ⟨aO,aH⟩:=X2x (n:=n) lg aF.node aC
  exact X0j.settleI (lg:=aO) ⟨aA.o.to rfl rfl (fun u hu=>⟨rfl,rfl,rfl,List.getElem?_set_ne (Ne.symm hu)⟩),ht,aA.at_,aA.res,aI,aA.calls,aA.run,Xtt aA.nod,aA.runs,fun o p hp=>aA.plays o p (.step hk.1 hk.2 aH hN hp)⟩ k1
theorem takes_snoc {α:Type} {l:List α} {x:α} (h:l[t]?=some x):l.take (t+1)=l.take t++[x]:=by
 rw [List.take_add_one,h];rfl
theorem Xws.skip (h:Xws c m fuel cs t s) (ht:t<cs.length) (he:enB s t=false):Xws c m fuel cs (t+1) s:=by
 obtain ⟨mt,hO,⟨h1,_⟩|⟨_,xs,l,os,aE,aC,aB,aD,aA⟩⟩:=h
 ·omega
 rcases aA with ⟨e1,e2,e3,e4⟩|⟨x,l',mr,n',m1,lg,rfl,e1,e2,e3,e4,_⟩
 rotate_left
 ·unfold enB at he
  rw [e1,e4] at he
  simp at he
  exact absurd he.1 e2
 have hl:l=[]:=by
  unfold enB at he
  rw [e1,e3] at he
  simp at he
  exact he.2
 subst hl e4
 rw [List.append_nil] at aC
 refine ⟨s.mem,⟨hO.fu,hO.lr,?_,fun u hu=>?_,fun u hu=>hO.up u (by omega)⟩,?_⟩
 ·rw [takes_snoc aC,takes_snoc aB]
  exact hO.ch.snoc aD
 ·by_cases h0:u=t
  ·subst h0
   exact ⟨e3,_,e1,rfl⟩
  ·exact hO.dn u (by omega)
 ·by_cases h0:t+1<cs.length
  ·obtain ⟨k1,k2,k3,k4⟩:=hO.up (t+1) (by omega) h0
   rw [Lg h0] at k2
   exact .inr ⟨h0,[],_,[],s.mem,Lg h0,k1,.nil,.inl ⟨k3,k4,k2,rfl⟩⟩
  ·exact .inl ⟨by omega,rfl⟩
theorem Xws.start (c:Cod) (m:Mm) (fuel:Int) (cs:List (List Cal)):Xws c m fuel cs 0 (Xtb m fuel cs):=by
 have up:∀ u,u<cs.length→(Xtb m fuel cs).results[u]?=some []∧(Xtb m fuel cs).calls[u]?=cs[u]?∧(Xtb m fuel cs).running[u]?=some Xl∧(Xtb m fuel cs).nodes[u]?=some 0:=fun u hu=>by
  unfold Xtb
  simp [hu]
 refine ⟨m,⟨rfl,by simp [Xtb],.nil,fun u hu=>by omega,fun u _ h=>up u h⟩,?_⟩
 by_cases h0:0<cs.length
 ·obtain ⟨k1,k2,k3,k4⟩:=up 0 h0
  rw [Lg h0] at k2
  exact .inr ⟨h0,[],_,[],m,Lg h0,k1,.nil,.inl ⟨k3,k4,k2,rfl⟩⟩
 ·exact .inl ⟨by omega,rfl⟩
theorem X2r (hi:Xs8 c (Xtb m fuel cs)) (h:Xu5 c (Xtb m fuel cs) t s):Xws c m fuel cs t s:=by
 have e0:(Xtb m fuel cs).running.length=cs.length:=by simp [Xtb]
 induction h with
 | start=>exact .start ..
 | skip hp ht he ih=>exact ih.skip (by rw [hp.len,e0] at ht;exact ht) he
 | step hp ht _ _ hR ih=>exact ih.step (hp.inv hi) (by rw [hp.len,e0] at ht;exact ht) hR
theorem X3o (hi:Xs8 c (Xtb m fuel cs)) (h:Xu5 c (Xtb m fuel cs) cs.length s):Xug c fuel m cs s.results s.mem∧Xyd s=true∧s.results.length=cs.length:=by
 have e0:(Xtb m fuel cs).running.length=cs.length:=by simp [Xtb]
 have hI:=h.inv hi
 have hL:=h.len.trans e0
 obtain ⟨mt,hO,⟨_,rfl⟩|⟨h1,_⟩⟩:=X2r hi h
 ·refine ⟨?_,?_,hO.lr⟩
  ·have:=hO.ch
   rw [List.take_length,List.take_of_length_le (by rw [hO.lr];exact Nr _)] at this
   exact this
  ·have a1:s.calls.any (fun l=>decide (0<l.length))=false:=by
    rw [List.any_eq_false]
    intro l hl
    obtain ⟨u,hu⟩:=List.getElem?_of_mem hl
    have aA:=(Ll hu)
    rw [(hO.dn u (by rw [←hL,← hI.calls];exact aA)).1] at hu
    cases hu
    simp
   have a2:s.running.any (fun q=>decide (0<q.frames.length))=false:=by
    rw [List.any_eq_false]
    intro q hq
    obtain ⟨u,hu⟩:=List.getElem?_of_mem hq
    have aA:=(Ll hu)
    obtain ⟨mu,e1,e2⟩:=(hO.dn u (by rw [←hL];exact aA)).2
    rw [e1] at hu
    cases hu
    simp [e2]
   unfold Xyd
   rw [a1,a2]
   rfl
 ·omega
