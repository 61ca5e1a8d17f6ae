import Derived.Test.YtiejafonjemioaaGreatDoorTh4
import Derived.Test.YtiejafonjemioaaGreatDoorPly
set_option linter.unusedVariables false
set_option linter.unusedSimpArgs false
open Go.Value renaming slice→σ
open Go.Obj renaming cells→χ
namespace Go.Proofs.YtiejafonjemioaaGreatDoor
open Go.RowKit
variable {α:Type} {e:TypeId} {w w' a d w1:World} {b B B' sz j size n tag cap u g bt t k:Nat} {v v' fv:Value} {l:List Int} {s:Thr} {T T':Nat->Prop} {xs:List Value} {m:Mch} {r:Rq} {E:Nat->World->Nat->Nat->α->Prop} {x y:α}
@[simp] theorem cell_pi {w:World} {b o c p:Nat} {x:Value} (h:¬b=c):(w.setCell (π c p) x).cell? (π b o)=w.cell? (π b o):=World.cell?_setCell_other _ _ _ _ (by simp;exact fun e=>absurd e.symm h)
theorem Xsh (w:World) (o:Obj):Below w.heap.size w (w.alloc o).drew:=Xh (Xa w o) 1
theorem Xtf (b o j:Nat):((π b o):Addr).add j=(π b (o+j)):=by unfold Addr.add;split<;>simp_all
theorem Xso (w:World) (vs:Array Value) (T:TypeId) (j:Nat):(w.alloc (χ vs T)).drew.cell? (Addr.add (π w.heap.size 0) j)=vs[j]?:=by
 rw [Xtf,Nat.zero_add];exact Y5 w vs T j
abbrev Clr:=Nat->Nat
def mask (w:World) (c:Clr):World:={ w with heap:=w.heap.mapIdx fun i o=>if c i=0 then o else χ #[] 0 (0,0) }
theorem Xul (w:World) (c:Clr):(mask w c).heap.size=w.heap.size:=by simp [mask]
theorem Xtw (w:World) (c:Clr) (a:Addr):(mask w c).cell? a=if c a.block=0 then w.cell? a else none:=by
 unfold World.cell? mask
 rw [Array.getElem?_mapIdx]
 cases h:w.heap[a.block]? with
 | none=>simp
 | some o=>
  by_cases hc:c a.block=0
  ·simp [hc]
  ·simp [hc]
variable {c:Clr}
theorem Xvm (h:c b=0):(mask w c).heap[b]?=w.heap[b]?:=by
 simp [mask,Array.getElem?_mapIdx,h]
def Sub (w w':World):Prop:=∀ a v,w.cell? a=some v->w'.cell? a=some v
theorem Sub.mask (w:World) (c:Clr):Sub (mask w c) w:=fun a v h=>by
 rw [Xtw] at h
 split at h
 ·exact h
 ·cases h
theorem Sub.below (h:Below w.heap.size w w'):Sub w w':=fun _ _ hc=>Xc h hc
theorem Sub.trans {b c:World} (h:Sub a b) (k:Sub b c):Sub a c:=fun x v hx=>k x v (h x v hx)
def Ups {α:Type} (E:Nat->World->Nat->Nat->α->Prop):Prop:=∀ B B' w w' b o x,B<=B'->Sub w w'->E B w b o x->E B' w' b o x
theorem Xf.ups (hE:Ups E) {l:List α} (hB:B<=B') (hS:Sub w w') (h:Xf B w sz (E B) v l):Xf B' w' sz (E B') v l:=by
 obtain ⟨a,cap,rfl,h1,h2,h3,h⟩:=h
 refine ⟨a,cap,rfl,h1,h2,h3,?_⟩
 rcases h with h|⟨b,o,rfl,hb,h⟩
 ·exact .inl h
 ·exact .inr ⟨b,o,rfl,ω,fun i x hx=>hE _ _ _ _ _ _ _ hB hS (h i x hx)⟩
theorem Xr9:Ups (fun _=>Zd):=fun _ _ _ _ _ _ _ _ hS h=>⟨hS _ _ h.1,h.2⟩
theorem X2v:Ups (fun _=>Xtu):=fun _ _ _ _ _ _ _ _ hS h=>⟨hS _ _ h.1,hS _ _ h.2.1,hS _ _ h.2.2.1,hS _ _ h.2.2.2.1,hS _ _ h.2.2.2.2.1,h.2.2.2.2.2⟩
theorem Xsw:Ups Qp:=fun _ _ _ _ _ _ _ hB hS h=>by
 obtain ⟨h1,h2,⟨v,h3,h4⟩,⟨u,h5,h6⟩,h7⟩:=h
 exact ⟨hS _ _ h1,hS _ _ h2,⟨v,hS _ _ h3,h4.ups Xr9 hB hS⟩,⟨u,hS _ _ h5,h6.ups Xr9 hB hS⟩,h7⟩
theorem X2e:Ups Xbc:=fun _ _ _ _ _ _ _ hB hS h=>by
 obtain ⟨h1,⟨v,h3,h4⟩,h7⟩:=h
 exact ⟨hS _ _ h1,⟨v,hS _ _ h3,h4.ups Xr9 hB hS⟩,h7⟩
theorem Xuk:Ups Xsr:=fun _ _ _ _ _ _ _ hB hS h=>by
 obtain ⟨h1,⟨v,h3,h4⟩,h5⟩:=h
 exact ⟨hS _ _ h1,⟨v,hS _ _ h3,h4.ups Xr9 hB hS⟩,h5⟩
theorem X15:Ups Xu4:=fun _ _ _ _ _ _ _ hB hS h=>by
 obtain ⟨fv,h1,h2,h3⟩:=h
 exact ⟨fv,fun j v hv=>hS _ _ (h1 j v hv),h2.ups Xsw hB hS,h3⟩
theorem Xvc (hE:Ups E):Ups (fun B=>Xsa sz (E B) B):=fun _ _ _ _ _ _ _ hB hS h=>by
 obtain ⟨v,h1,h2⟩:=h
 exact ⟨v,hS _ _ h1,h2.ups hE hB hS⟩
theorem Xsd.ups (hB:B<=B') (hS:Sub w w') (h:Xsd B w v s):Xsd B' w' v s:=by
 obtain ⟨gv,mv,rv,nv,cv,ov,bv,ev,h1,h2,h3,h4,h5,h6,h7,h8,h9,aA⟩:=h
 exact ⟨gv,mv,rv,nv,cv,ov,bv,ev,h1,h2.ups Xr9 hB hS,h3.ups X2e hB hS,h4.ups X15 hB hS,h5.ups Xr9 hB hS,h6.ups (Xvc Xuk) hB hS,h7.ups (Xvc (E:=fun _=>Xtu) X2v) hB hS,h8.ups (Xvc (E:=fun _=>Zd) Xr9) hB hS,h9.ups (Xvc (E:=fun _=>Zd) Xr9) hB hS,aA⟩
structure Chg (T:Nat->Prop) (c c':Clr) (w w':World):Prop where
 os:w'.os=w.os
 tape:w'.tape=w.tape
 output:w'.output=w.output
 size:w.heap.size<=w'.heap.size
 keep:∀ b,b<w.heap.size->¬T (c b)->w'.heap[b]?=w.heap[b]?
 old:∀ b,b<w.heap.size->c' b=c b
 zero:¬T 0
theorem Chg.of_below (h:Below w.heap.size w w') (h0:¬T 0):Chg T c c w w':=⟨h.os,h.tape,h.output,h.size,fun b hb _=>h.block b hb,fun _ _=>rfl,h0⟩
variable {c' c'':Clr}
theorem Chg.trans {b:World} (h:Chg T c c' a b) (k:Chg T c' c'' b d):Chg T c c'' a d:=
 ⟨k.os.trans h.os,k.tape.trans h.tape,k.output.trans h.output,Nt h.size k.size,fun i hi hT=>by
  rw [k.keep i (Nl hi h.size) (by rw [h.old i hi];exact hT),h.keep i hi hT],fun i hi=>by rw [k.old i (Nl hi h.size),h.old i hi],h.zero⟩
theorem Chg.mono (h:Chg T c c' w w') (hT:∀ t,T t->T' t) (h0:¬T' 0):Chg T' c c' w w':=⟨h.os,h.tape,h.output,h.size,fun b hb hn=>h.keep b hb (fun ht=>hn (hT _ ht)),h.old,h0⟩
theorem Chg.aft {b:World} (h:Chg T c' c'' b d) (k:Chg T' c c' a b) (hT:∀ t,T' t->T t:=by intro _ h;exact h.elim):Chg T c c'' a d:=(k.mono hT h.zero).trans h
def NZ (t:Nat):Prop:=t≠0/\t≠14
theorem nz0:¬NZ 0:=fun h=>h.1 rfl
theorem Xvf:¬NZ 14:=fun h=>h.2 rfl
theorem Chg.nz (h:Chg T c c' w w') (h14:¬T 14:=by first|exact id|omega):Chg NZ c c' w w':=h.mono (fun t ht=>⟨fun h0=>h.zero (h0▸ht),fun h0=>h14 (h0▸ht)⟩) nz0
theorem Chg.below (h:Chg T c c' w w') (hc:∀ b,b<B->c b=0) (hB:B<=w.heap.size):Below B w w':=
 ⟨h.os,h.tape,h.output,h.size,fun b hb=>h.keep b ω (by rw [hc b hb];exact h.zero)⟩
theorem Chg.low (h:Chg T c c' w w') (hc:∀ b,b<B->c b=0) (hB:B<=w.heap.size):∀ b,b<B->c' b=0:=fun b hb=>by rw [h.old b ω];exact hc b hb
theorem Chg.sub (h:Chg T c c' w w'):Sub (mask w c) (mask w' c'):=fun a v ha=>by
 rw [Xtw] at ha ⊢
 split at ha
 ·rename_i hc
  have aA:=World.block_lt_of_cell? w a ha
  rw [if_pos (by rw [h.old _ aA];exact hc),World.cell?_of_block (w:=w) (h.keep _ aA (by rw [hc];exact h.zero))]
  exact ha
 ·cases ha
theorem Chg.cell (h:Chg T c c' w w') {a:Addr} (ha:w.cell? a=some v) (hT:¬T (c a.block)):w'.cell? a=some v:=by
 rw [World.cell?_of_block (w:=w) (h.keep _ (World.block_lt_of_cell? w a ha) hT)];exact ha
theorem Chg.frozen (h:Chg T c c' w w') {a:Addr} (hlt:a.block<w.heap.size) (ha:w.frozen? a=false) (hT:¬T (c a.block)):w'.frozen? a=false:=by
 rw [World.frozen?_of_block (w:=w) (h.keep _ hlt hT)];exact ha
theorem Chg.set (h:T (c b)) (h0:¬T 0):Chg T c c w (w.setCell (π b j) v):=
 ⟨rfl,rfl,rfl,ψ,fun k _ hk=>heap_setCell_other _ _ _ _ (fun e=>hk (by rw [e];exact h)),fun _ _=>rfl,h0⟩
def V3 (w:World) (c:Clr) (tag:Nat) (e:TypeId) (sz:Nat) (v:Value) (n:Nat) (xs:List Value):Prop:=w.ownsRow 0 e sz v n xs/\(∀ b∈v.ownBlock.toList,c b=tag)/\n<=140737488355328
theorem Xzw (h:w.ownsRow 0 e size v n xs):∀ b∈v.ownBlock.toList,b<w.heap.size:=fun b hb=>by
 rcases h.2 with ⟨rfl,_⟩|⟨g,cap,aA,rfl,_,hg,_⟩
 ·simp [Value.ownBlock] at hb
 ·simp [Value.ownBlock] at hb;subst hb;exact (La hg)
theorem Xvt (h:w.ownsRow 0 e size v n xs) (hk:∀ b∈v.ownBlock.toList,w'.heap[b]?=w.heap[b]?):w'.ownsRow 0 e size v n xs:=by
 refine ⟨h.1,?_⟩
 rcases h.2 with h|⟨g,cap,aA,rfl,hb,hg,r⟩
 ·exact .inl h
 ·exact .inr ⟨g,cap,aA,rfl,hb,by rw [hk g (by simp [Value.ownBlock])];exact hg,r⟩
theorem V3.keep (hC:Chg T c c' w w') (h:V3 w c tag e sz v n xs) (ht:¬T tag):V3 w' c' tag e sz v n xs:=
 ⟨Xvt h.1 (fun b hb=>hC.keep b (Xzw h.1 b hb) (by rw [h.2.1 b hb];exact ht)),fun b hb=>by rw [hC.old b (Xzw h.1 b hb)];exact h.2.1 b hb,h.2.2⟩
theorem V3.nil (w:World) (c:Clr) (tag:Nat) (e:TypeId) (sz:Nat):V3 w c tag e sz ν 0 []:=⟨World.ownsRow_nil _ _ _ _,by simp [Value.ownBlock],ω⟩
theorem V3.form (h:V3 w c tag e sz v n xs):∃ a cap,v=σ a n cap/\n<=cap/\cap<=9223372036854775807:=by
 rcases h.1.2 with ⟨rfl,rfl⟩|⟨g,cap,aA,rfl,_,_,h1,h2,_⟩
 ·exact ⟨none,0,rfl,ω,ω⟩
 ·exact ⟨_,cap,rfl,h1,by unfold maxLen at h2;omega⟩
theorem V3.pos {a:Option Addr} (h:V3 w c tag e sz (σ a n cap) n xs) {u:Value} (hj:xs[j]?=some u) :
  ∃ g,a=some (π g 0)/\c g=tag/\g<w.heap.size/\(∀ (j:Nat) u,xs[j]?=some u->w.cell? (π g j)=some u)/\∀ j,w.frozen? (π g j)=false:=by
 rcases h.1.2 with ⟨h1,h2⟩|⟨g,aA,aB,h1,_,hg,h2,h3,h4,h5⟩
 ·subst h2
  have:=h.1.1
  simp at this
  subst this
  simp at hj
 ·obtain ⟨rfl,-,rfl⟩:a=some (π g 0)/\True/\cap=aA:=by simpa using h1
  refine ⟨g,rfl,h.2.1 g (by simp [Value.ownBlock]),(La hg),fun j u hu=>?_,fun j=>Fz hg⟩
  rw [<-h5,List.getElem?_take] at hu
  split at hu
  ·rw [cell_of_row _ _ _ _ _ _ hg];simpa using hu
  ·cases hu
theorem V3.put (h:V3 w c tag e sz (σ (some (π g 0)) n cap) n xs) (j:Nat) (u:Value):V3 (w.setCell (π g j) u) c tag e sz (σ (some (π g 0)) n cap) n (xs.set j u):=
 ⟨(h.1.stored j u).1,h.2.1,h.2.2⟩
theorem V3.reads {l:List α} {E:World->Nat->Nat->α->Prop} (h:V3 w c tag e sz v l.length xs) (hx:∀ i x,l[i]?=some x->∃ u,xs[i*sz]?=some u)
  (hE:∀ i x g,l[i]?=some x->(∀ (j:Nat) u,xs[j]?=some u->w.cell? (π g j)=some u)->E w g (i*sz) x):Xf w.heap.size w sz E v l:=by
 obtain ⟨a,cap,rfl,h1,h2⟩:=h.form
 refine ⟨a,cap,rfl,h.2.2,h1,h2,?_⟩
 cases l with
 | nil=>exact .inl rfl
 | cons y l=>
  obtain ⟨u,hu⟩:=hx 0 y rfl
  obtain ⟨g,rfl,_,hg,hc,_⟩:=h.pos hu
  exact .inr ⟨g,0,rfl,hg,fun i x hi=>by rw [Nat.zero_add];exact hE i x g hi hc⟩
def Xsp (w:World) (c:Clr) (tag:Nat) (v:Value) (l:List Int):Prop:=V3 w c tag 3 1 v l.length (l.map (Value.int .i64))/\∀ n∈l,in64 n
theorem Xsp.keep (hC:Chg T c c' w w') (h:Xsp w c tag v l) (ht:¬T tag):Xsp w' c' tag v l:=⟨h.1.keep hC ht,h.2⟩
theorem Xsp.reads (h:Xsp w c tag v l):Xf w.heap.size w 1 Zd v l:=
 h.1.reads (fun i x hx=>⟨_,by rw [Nat.mul_one,List.getElem?_map,hx];rfl⟩) (fun i x g hx hc=>⟨by rw [Nat.mul_one];exact hc i _ (by rw [List.getElem?_map,hx];rfl),h.2 x (Lm hx)⟩)
theorem Xsp.put (h:Xsp w c tag (σ (some (π g 0)) n cap) l) (hn:n=l.length) (j:Nat) (v:Int) (h64:in64 v):Xsp (w.setCell (π g j) (ι v)) c tag (σ (some (π g 0)) n cap) (l.set j v):=by
 subst hn
 refine ⟨?_,fun n hn=>?_⟩
 ·have:=h.1.put j (ι v)
  rw [<-List.map_set] at this
  simpa [Xsp] using this
 ·rcases List.mem_or_eq_of_mem_set hn with hn|rfl
  ·exact h.2 n hn
  ·exact h64
def Xzy (x:Xr7):Prop:=in64 x.fault/\in64 x.value/\in64 x.compares/\in64 x.nodes/\in64 x.more
def Xsv (x:Xr7):List Value:=[ι x.fault,ι x.value,ι x.compares,ι x.nodes,ι x.more]
def Xss (l:List Xr7):List Value:=l.flatMap Xsv
theorem X0h (l:List Xr7) (x:Xr7):Xss (l++[x])=Xss l++Xsv x:=by simp [Xss]
theorem Xtk:∀ {l:List Xr7} {i:Nat} {x:Xr7} (_:l[i]?=some x) (j:Nat) (v:Value),(Xsv x)[j]?=some v->(Xss l)[i*5+j]?=some v
 | [],_,_,h,_,_,_=>by simp at h
 | y::l,0,x,h,j,v,hv=>by
  simp at h
  subst h
  have:Xss (y::l)=Xsv y++Xss l:=rfl
  rw [this,Nat.zero_mul,Nat.zero_add,Al ((Ll hv))]
  exact hv
 | y::l,i+1,x,h,j,v,hv=>by
  have:Xss (y::l)=Xsv y++Xss l:=rfl
  rw [this,Ar (by simp [Xsv];omega)]
  have e:(i+1)*5+j - (Xsv y).length=i*5+j:=by simp [Xsv];omega
  rw [e]
  exact Xtk (by simpa using h) j v hv
def Xup (w:World) (c:Clr) (tag:Nat) (v:Value) (l:List Xr7):Prop:=V3 w c tag 84 5 v l.length (Xss l)/\∀ x∈l,Xzy x
theorem Xup.keep (hC:Chg T c c' w w') {l:List Xr7} (h:Xup w c tag v l) (ht:¬T tag):Xup w' c' tag v l:=⟨h.1.keep hC ht,h.2⟩
theorem Xup.reads {l:List Xr7} (h:Xup w c tag v l):Xf w.heap.size w 5 Xtu v l:=
 h.1.reads (fun i x hx=>⟨_,Xtk hx 0 _ rfl⟩) (fun i x g hx hc=>⟨hc _ _ (Xtk hx 0 _ rfl),hc _ _ (Xtk hx 1 _ rfl),hc _ _ (Xtk hx 2 _ rfl),hc _ _ (Xtk hx 3 _ rfl),hc _ _ (Xtk hx 4 _ rfl),h.2 x (Lm hx)⟩)
def Xt0 (m:Mch):Prop:=m.req.wf/\in64 m.fuel/\in64 m.compares/\in64 m.idle
structure TV where
 gv:Value
 nv:Value
 rv:Value
 kv:Value
 cv:Value
 ov:Value
 bv:Value
 ev:Value
 nx:List Value
 rx:List Value
 cx:List Value
 ox:List Value
 bx:List Value
 ex:List Value
def tvC (V:TV) (s:Thr):Array Value:=#[V.gv,V.nv,ι s.fuel,V.rv,V.kv,V.cv,V.ov,V.bv,V.ev,ι s.step]
structure TK (T:Nat->Prop) (w:World) (c:Clr) (s:Thr) (V:TV):Prop where
 hi:∀ b,w.heap.size<=b->c b=0
 g:¬T 2->Xsp w c 2 V.gv s.mem.globals
 n:¬T 3->V3 w c 3 74 2 V.nv s.mem.nodes.length V.nx
 nn:∀ (i:Nat) x,s.mem.nodes[i]?=some x->∃ lv,V.nx[i*2]?=some (ι x.type)/\V.nx[i*2+1]?=some lv/\in64 x.type/\(¬T (10+5*i)->Xsp w c (10+5*i) lv x.f)
 r:¬T 4->V3 w c 4 51 9 V.rv s.running.length V.rx
 rr:∀ (t:Nat) m,s.running[t]?=some m->∃ fv,(∀ (j:Nat) v,(Xtv fv m)[j]?=some v->V.rx[t*9+j]?=some v)/\Xf w.heap.size (mask w c) 4 (Qp w.heap.size) fv m.frames/\Xt0 m
 k:¬T 5->Xsp w c 5 V.kv s.nodes
 cr:¬T 6->V3 w c 6 54 1 V.cv s.calls.length V.cx
 cl:∀ (t:Nat) l,s.calls[t]?=some l->∃ v,V.cx[t]?=some v/\Xf w.heap.size (mask w c) 2 (Xsr w.heap.size) v l
 o:¬T 7->V3 w c 7 78 1 V.ov s.results.length V.ox
 ol:∀ (t:Nat) l,s.results[t]?=some l->∃ v,V.ox[t]?=some v/\(¬T (11+5*t)->Xup w c (11+5*t) v l)
 b:¬T 8->V3 w c 8 22 1 V.bv s.begins.length V.bx
 bl:∀ (t:Nat) l,s.begins[t]?=some l->∃ v,V.bx[t]?=some v/\(¬T (12+5*t)->Xsp w c (12+5*t) v l)
 e:¬T 9->V3 w c 9 22 1 V.ev s.ends.length V.ex
 el:∀ (t:Nat) l,s.ends[t]?=some l->∃ v,V.ex[t]?=some v/\(¬T (13+5*t)->Xsp w c (13+5*t) v l)
 f64:in64 s.fuel
 s64:in64 s.step
def NO (_:Nat):Prop:=False
theorem no (t:Nat):¬NO t:=id
variable {V:TV}
theorem TK.kept (h:TK T w c s V) (hC:Chg T' c c' w w') (hhi:∀ b,w'.heap.size<=b->c' b=0):TK (fun t=>T t\/T' t) w' c' s V:=by
 have hS:=hC.sub
 have hz:=hC.size
 refine ⟨hhi,fun n=>(h.g (fun k=>n (.inl k))).keep hC (fun k=>n (.inr k)),fun n=>(h.n (fun k=>n (.inl k))).keep hC (fun k=>n (.inr k)),fun i x hx=>?_,fun n=>(h.r (fun k=>n (.inl k))).keep hC (fun k=>n (.inr k)),fun t m hm=>?_,fun n=>(h.k (fun k=>n (.inl k))).keep hC (fun k=>n (.inr k)),fun n=>(h.cr (fun k=>n (.inl k))).keep hC (fun k=>n (.inr k)),fun t l hl=>?_,fun n=>(h.o (fun k=>n (.inl k))).keep hC (fun k=>n (.inr k)),fun t l hl=>?_,fun n=>(h.b (fun k=>n (.inl k))).keep hC (fun k=>n (.inr k)),fun t l hl=>?_,fun n=>(h.e (fun k=>n (.inl k))).keep hC (fun k=>n (.inr k)),fun t l hl=>?_,h.f64,h.s64⟩
 ·obtain ⟨lv,h1,h2,h3,h4⟩:=h.nn i x hx
  exact ⟨lv,h1,h2,h3,fun n=>(h4 (fun k=>n (.inl k))).keep hC (fun k=>n (.inr k))⟩
 ·obtain ⟨fv,h1,h2,h3⟩:=h.rr t m hm
  exact ⟨fv,h1,h2.ups Xsw hz hS,h3⟩
 ·obtain ⟨v,h1,h2⟩:=h.cl t l hl
  exact ⟨v,h1,h2.ups Xuk hz hS⟩
 ·obtain ⟨v,h1,h2⟩:=h.ol t l hl
  exact ⟨v,h1,fun n=>(h2 (fun k=>n (.inl k))).keep hC (fun k=>n (.inr k))⟩
 ·obtain ⟨v,h1,h2⟩:=h.bl t l hl
  exact ⟨v,h1,fun n=>(h2 (fun k=>n (.inl k))).keep hC (fun k=>n (.inr k))⟩
 ·obtain ⟨v,h1,h2⟩:=h.el t l hl
  exact ⟨v,h1,fun n=>(h2 (fun k=>n (.inl k))).keep hC (fun k=>n (.inr k))⟩
theorem TK.grow (h:TK NO w c s V) (hb:Below w.heap.size w w'):TK NO w' c s V:=by
 have:=h.kept (T':=NO) (Chg.of_below (c:=c) hb (no 0)) (fun b aA=>h.hi b (Nt hb.size aA))
 exact cast (congrArg (fun T=>TK T w' c s V) (funext fun t=>propext ⟨fun h=>h.elim id id,False.elim⟩)) this
theorem TK.reads (h:TK NO w c s V):Xsd w.heap.size w (.agg (tvC V s)) s:=by
 have hS:=Sub.mask w c
 refine ⟨V.gv,V.nv,V.rv,V.kv,V.cv,V.ov,V.bv,V.ev,rfl,(h.g (no _)).reads,(h.n (no _)).reads (fun i x hx=>?_) (fun i x g hx hc=>?_),(h.r (no _)).reads (fun t m hm=>?_) (fun t m g hm hc=>?_),(h.k (no _)).reads,(h.cr (no _)).reads (fun t l hl=>?_) (fun t l g hl hc=>?_),(h.o (no _)).reads (fun t l hl=>?_) (fun t l g hl hc=>?_),(h.b (no _)).reads (fun t l hl=>?_) (fun t l g hl hc=>?_),(h.e (no _)).reads (fun t l hl=>?_) (fun t l g hl hc=>?_),h.f64,h.s64⟩
 ·obtain ⟨lv,h1,_⟩:=h.nn i x hx
  exact ⟨_,h1⟩
 ·obtain ⟨lv,h1,h2,h3,h4⟩:=h.nn i x hx
  exact ⟨hc _ _ h1,⟨lv,hc _ _ h2,(h4 (no _)).reads⟩,h3⟩
 ·obtain ⟨fv,h1,_⟩:=h.rr t m hm
  exact ⟨_,by simpa using h1 0 _ rfl⟩
 ·obtain ⟨fv,h1,h2,h3⟩:=h.rr t m hm
  exact ⟨fv,fun j v hv=>hc _ _ (h1 j v hv),h2.ups Xsw (Nr _) hS,h3⟩
 ·obtain ⟨v,h1,_⟩:=h.cl t l hl
  exact ⟨_,by rw [Nat.mul_one];exact h1⟩
 ·obtain ⟨v,h1,h2⟩:=h.cl t l hl
  exact ⟨v,by rw [Nat.mul_one];exact hc _ _ h1,h2.ups Xuk (Nr _) hS⟩
 ·obtain ⟨v,h1,_⟩:=h.ol t l hl
  exact ⟨_,by rw [Nat.mul_one];exact h1⟩
 ·obtain ⟨v,h1,h2⟩:=h.ol t l hl
  exact ⟨v,by rw [Nat.mul_one];exact hc _ _ h1,(h2 (no _)).reads⟩
 ·obtain ⟨v,h1,_⟩:=h.bl t l hl
  exact ⟨_,by rw [Nat.mul_one];exact h1⟩
 ·obtain ⟨v,h1,h2⟩:=h.bl t l hl
  exact ⟨v,by rw [Nat.mul_one];exact hc _ _ h1,(h2 (no _)).reads⟩
 ·obtain ⟨v,h1,_⟩:=h.el t l hl
  exact ⟨_,by rw [Nat.mul_one];exact h1⟩
 ·obtain ⟨v,h1,h2⟩:=h.el t l hl
  exact ⟨v,by rw [Nat.mul_one];exact hc _ _ h1,(h2 (no _)).reads⟩
structure Xvp (w:World) (c:Clr) (bt:Nat) (s:Thr) (V:TV):Prop where
 row:w.heap[bt]?=some (χ (tvC V s) 34 (0,0))
 lab:c bt=1
theorem Xvp.keep (h:Xvp w c bt s V) (hC:Chg T c c' w w') (h1:¬T 1):Xvp w' c' bt s V:=
 ⟨by rw [hC.keep bt (La h.row) (by rw [h.lab];exact h1)];exact h.row,by rw [hC.old bt (La h.row)];exact h.lab⟩
theorem Xvp.as {s':Thr} {V':TV} (h:Xvp w c bt s V) (he:tvC V' s'=tvC V s):Xvp w c bt s' V':=⟨by rw [he];exact h.row,h.lab⟩
theorem Xvp.cell (h:Xvp w c bt s V) (j:Nat) (hv:(tvC V s)[j]?=some v):w.cell? (π bt j)=some v:=by
 rw [cell_of_row _ _ _ _ _ _ h.row];exact hv
theorem Xvp.frz (h:Xvp w c bt s V) (j:Nat):w.frozen? (π bt j)=false:=Fz h.row
theorem Xvp.lt (h:Xvp w c bt s V):bt<w.heap.size:=(La h.row)
theorem ne3 {a d:Nat} (h:a≠b) (k:a≠d):¬((NO a\/a=b)\/a=d):=fun x=>by
 rcases x with (x|x)|x
 ·exact x
 ·exact h x
 ·exact k x
theorem ne2 {a:Nat} (h:a≠b):¬(NO a\/a=b):=fun x=>by
 rcases x with x|x
 ·exact x
 ·exact h x
theorem X0z {l:List α} (h:(l.set t y)[u]?=some x):(u=t/\x=y/\t<l.length)\/(u≠t/\l[u]?=some x):=by
 rw [List.getElem?_set] at h
 split at h
 ·rename_i e
  split at h
  ·left;cases h;exact ⟨e.symm,rfl,by assumption⟩
  ·cases h
 ·rename_i e;exact .inr ⟨fun k=>e k.symm,h⟩
theorem Xx3 {l:List α} {f:α->α} (hy:l[t]?=some y) (h:(l.modify t f)[u]?=some x):(u=t/\x=f y)\/(u≠t/\l[u]?=some x):=by
 rw [List.getElem?_modify] at h
 by_cases e:t=u
 ·subst e;rw [hy] at h;left;simp at h;exact ⟨rfl,h.symm⟩
 ·simp [e] at h;exact .inr ⟨fun k=>e k.symm,h⟩
theorem Z8 {l:List α} (h:u≠t):(l.set t y)[u]?=l[u]?:=List.getElem?_set_ne (Ne.symm h)
theorem Xwo {l:List α} (h:l[t]?=some x):(l.set t y)[t]?=some y:=by simp [(Ll h)]
variable {c1:Clr}
theorem TK.addO {l:List Xr7} {x:Xr7} (h:TK NO w c s V) (hl:s.results[t]?=some l) (hvv:V.ov=σ (some (π b 0)) n cap) (hrow:V3 w1 c1 (11+5*t) 84 5 v' (l.length+1) (Xss l++Xsv x)) (hC:Chg (fun k=>k=11+5*t) c c1 w w1) (hhi:∀ b,w1.heap.size<=b->c1 b=0) (hx:Xzy x) :
  TK NO (w1.setCell (π b t) v') c1 { s with results:=s.results.modify t (·++[x]) } { V with ox:=V.ox.set t v' }/\Chg NZ c c1 w (w1.setCell (π b t) v'):=by
 obtain ⟨v,hv,aB⟩:=h.ol t l hl
 have K1:=h.kept hC hhi
 have aA:=K1.o (ne2 ω)
 have hn:n=s.results.length:=by
  obtain ⟨a',aC,e,_⟩:=aA.form
  rw [hvv] at e
  cases e;rfl
 rw [hvv,<- hn] at aA
 have aD:c1 b=7:=aA.2.1 b (by simp [Value.ownBlock])
 have hS:Chg (fun k=>k=7) c1 c1 w1 (w1.setCell (π b t) v'):=Chg.set aD ω
 have K:=K1.kept hS (fun b hb=>hhi b (by simpa using hb))
 have HR:=aA.put t v'
 rw [hn,show Value.slice (some (π b 0)) s.results.length cap=V.ov by rw [hvv,hn]] at HR
 have HI:Xup (w1.setCell (π b t) v') c1 (11+5*t) v' (l++[x]):=Xup.keep hS ⟨by rw [X0h,List.length_append];exact hrow,fun y hy=>by rcases List.mem_append.1 hy with hy|hy;exact (aB (no _)).2 y hy;simp at hy;subst hy;exact hx⟩ ω
 refine ⟨⟨K.hi,fun _=>K.g (ne3 ω ω),
  fun _=>K.n (ne3 ω ω),
  fun i x hx=>by
   obtain ⟨lv,h1,h2,h3,h4⟩:=K.nn i x hx
   exact ⟨lv,h1,h2,h3,fun _=>h4 (ne3 ω ω)⟩,
  fun _=>K.r (ne3 ω ω),
  K.rr,
  fun _=>K.k (ne3 ω ω),
  fun _=>K.cr (ne3 ω ω),
  K.cl,
  fun _=>by rw [List.length_modify];exact HR,
  fun u y hy=>by
   rcases Xx3 hl hy with ⟨rfl,rfl⟩|⟨aE,hy⟩
   ·exact ⟨v',Xwo hv,fun _=>HI⟩
   ·obtain ⟨q,h1,h2⟩:=K.ol u y hy
    exact ⟨q,by rw [Z8 aE];exact h1,fun _=>h2 (ne3 ω ω)⟩,
  fun _=>K.b (ne3 ω ω),
  fun u l hl=>by
   obtain ⟨v,h1,h2⟩:=K.bl u l hl
   exact ⟨v,h1,fun _=>h2 (ne3 ω ω)⟩,
  fun _=>K.e (ne3 ω ω),
  fun u l hl=>by
   obtain ⟨v,h1,h2⟩:=K.el u l hl
   exact ⟨v,h1,fun _=>h2 (ne3 ω ω)⟩,h.f64,h.s64⟩,hC.nz.trans hS.nz⟩
theorem TK.addB {x:Int} (h:TK NO w c s V) (hl:s.begins[t]?=some l) (hvv:V.bv=σ (some (π b 0)) n cap) (hrow:V3 w1 c1 (12+5*t) 3 1 v' (l.length+1) (l.map (Value.int .i64)++[ι x])) (hC:Chg (fun k=>k=12+5*t) c c1 w w1) (hhi:∀ b,w1.heap.size<=b->c1 b=0) (hx:in64 x) :
  TK NO (w1.setCell (π b t) v') c1 { s with begins:=s.begins.modify t (·++[x]) } { V with bx:=V.bx.set t v' }/\Chg NZ c c1 w (w1.setCell (π b t) v'):=by
 obtain ⟨v,hv,aB⟩:=h.bl t l hl
 have K1:=h.kept hC hhi
 have aA:=K1.b (ne2 ω)
 have hn:n=s.begins.length:=by
  obtain ⟨a',aC,e,_⟩:=aA.form
  rw [hvv] at e
  cases e;rfl
 rw [hvv,<- hn] at aA
 have aD:c1 b=8:=aA.2.1 b (by simp [Value.ownBlock])
 have hS:Chg (fun k=>k=8) c1 c1 w1 (w1.setCell (π b t) v'):=Chg.set aD ω
 have K:=K1.kept hS (fun b hb=>hhi b (by simpa using hb))
 have HR:=aA.put t v'
 rw [hn,show Value.slice (some (π b 0)) s.begins.length cap=V.bv by rw [hvv,hn]] at HR
 have HI:Xsp (w1.setCell (π b t) v') c1 (12+5*t) v' (l++[x]):=Xsp.keep hS ⟨by rw [List.map_append,List.length_append];exact hrow,fun y hy=>by rcases List.mem_append.1 hy with hy|hy;exact (aB (no _)).2 y hy;simp at hy;subst hy;exact hx⟩ ω
 refine ⟨⟨K.hi,fun _=>K.g (ne3 ω ω),
  fun _=>K.n (ne3 ω ω),
  fun i x hx=>by
   obtain ⟨lv,h1,h2,h3,h4⟩:=K.nn i x hx
   exact ⟨lv,h1,h2,h3,fun _=>h4 (ne3 ω ω)⟩,
  fun _=>K.r (ne3 ω ω),
  K.rr,
  fun _=>K.k (ne3 ω ω),
  fun _=>K.cr (ne3 ω ω),
  K.cl,
  fun _=>K.o (ne3 ω ω),
  fun u l hl=>by
   obtain ⟨v,h1,h2⟩:=K.ol u l hl
   exact ⟨v,h1,fun _=>h2 (ne3 ω ω)⟩,
  fun _=>by rw [List.length_modify];exact HR,
  fun u y hy=>by
   rcases Xx3 hl hy with ⟨rfl,rfl⟩|⟨aE,hy⟩
   ·exact ⟨v',Xwo hv,fun _=>HI⟩
   ·obtain ⟨q,h1,h2⟩:=K.bl u y hy
    exact ⟨q,by rw [Z8 aE];exact h1,fun _=>h2 (ne3 ω ω)⟩,
  fun _=>K.e (ne3 ω ω),
  fun u l hl=>by
   obtain ⟨v,h1,h2⟩:=K.el u l hl
   exact ⟨v,h1,fun _=>h2 (ne3 ω ω)⟩,h.f64,h.s64⟩,hC.nz.trans hS.nz⟩
theorem TK.addE {x:Int} (h:TK NO w c s V) (hl:s.ends[t]?=some l) (hvv:V.ev=σ (some (π b 0)) n cap) (hrow:V3 w1 c1 (13+5*t) 3 1 v' (l.length+1) (l.map (Value.int .i64)++[ι x])) (hC:Chg (fun k=>k=13+5*t) c c1 w w1) (hhi:∀ b,w1.heap.size<=b->c1 b=0) (hx:in64 x) :
  TK NO (w1.setCell (π b t) v') c1 { s with ends:=s.ends.modify t (·++[x]) } { V with ex:=V.ex.set t v' }/\Chg NZ c c1 w (w1.setCell (π b t) v'):=by
 obtain ⟨v,hv,aB⟩:=h.el t l hl
 have K1:=h.kept hC hhi
 have aA:=K1.e (ne2 ω)
 have hn:n=s.ends.length:=by
  obtain ⟨a',aC,e,_⟩:=aA.form
  rw [hvv] at e
  cases e;rfl
 rw [hvv,<- hn] at aA
 have aD:c1 b=9:=aA.2.1 b (by simp [Value.ownBlock])
 have hS:Chg (fun k=>k=9) c1 c1 w1 (w1.setCell (π b t) v'):=Chg.set aD ω
 have K:=K1.kept hS (fun b hb=>hhi b (by simpa using hb))
 have HR:=aA.put t v'
 rw [hn,show Value.slice (some (π b 0)) s.ends.length cap=V.ev by rw [hvv,hn]] at HR
 have HI:Xsp (w1.setCell (π b t) v') c1 (13+5*t) v' (l++[x]):=Xsp.keep hS ⟨by rw [List.map_append,List.length_append];exact hrow,fun y hy=>by rcases List.mem_append.1 hy with hy|hy;exact (aB (no _)).2 y hy;simp at hy;subst hy;exact hx⟩ ω
 refine ⟨⟨K.hi,fun _=>K.g (ne3 ω ω),
  fun _=>K.n (ne3 ω ω),
  fun i x hx=>by
   obtain ⟨lv,h1,h2,h3,h4⟩:=K.nn i x hx
   exact ⟨lv,h1,h2,h3,fun _=>h4 (ne3 ω ω)⟩,
  fun _=>K.r (ne3 ω ω),
  K.rr,
  fun _=>K.k (ne3 ω ω),
  fun _=>K.cr (ne3 ω ω),
  K.cl,
  fun _=>K.o (ne3 ω ω),
  fun u l hl=>by
   obtain ⟨v,h1,h2⟩:=K.ol u l hl
   exact ⟨v,h1,fun _=>h2 (ne3 ω ω)⟩,
  fun _=>K.b (ne3 ω ω),
  fun u l hl=>by
   obtain ⟨v,h1,h2⟩:=K.bl u l hl
   exact ⟨v,h1,fun _=>h2 (ne3 ω ω)⟩,
  fun _=>by rw [List.length_modify];exact HR,
  fun u y hy=>by
   rcases Xx3 hl hy with ⟨rfl,rfl⟩|⟨aE,hy⟩
   ·exact ⟨v',Xwo hv,fun _=>HI⟩
   ·obtain ⟨q,h1,h2⟩:=K.el u y hy
    exact ⟨q,by rw [Z8 aE];exact h1,fun _=>h2 (ne3 ω ω)⟩,h.f64,h.s64⟩,hC.nz.trans hS.nz⟩
def put9 (xs:List Value) (k:Nat) (l:List Value):List Value:=(((((((((xs.set k (l.getD 0 undef)).set (k+1) (l.getD 1 undef)).set (k+2) (l.getD 2 undef)).set (k+3) (l.getD 3 undef)).set (k+4) (l.getD 4 undef)).set (k+5) (l.getD 5 undef)).set (k+6) (l.getD 6 undef)).set (k+7) (l.getD 7 undef)).set (k+8) (l.getD 8 undef))
def Xt1 (w:World) (b k:Nat) (l:List Value):World:=((((((((w.setCell (π b k) (l.getD 0 undef)).setCell (π b (k+1)) (l.getD 1 undef)).setCell (π b (k+2)) (l.getD 2 undef)).setCell (π b (k+3)) (l.getD 3 undef)).setCell (π b (k+4)) (l.getD 4 undef)).setCell (π b (k+5)) (l.getD 5 undef)).setCell (π b (k+6)) (l.getD 6 undef)).setCell (π b (k+7)) (l.getD 7 undef)).setCell (π b (k+8)) (l.getD 8 undef)
theorem Xx1 (h:(Xtv fv m)[j]?=some v):j<9:=(Ll h)
theorem X2u {l:List Value} (h:j<k\/k+9<=j):(put9 xs k l)[j]?=xs[j]?:=by
 unfold put9
 rw [Z8 ω,Z8 ω,Z8 ω,Z8 ω,Z8 ω,Z8 ω,Z8 ω,Z8 ω,Z8 ω]
theorem X2p (h:k+9<=xs.length) (j:Nat) (v:Value) (hv:(Xtv fv m)[j]?=some v):(put9 xs k (Xtv fv m))[k+j]?=some v:=by
 have hj:=Xx1 hv
 unfold put9
 match j,hv with
 | 0,hv=>rw [Z8 ω,Z8 ω,Z8 ω,Z8 ω,Z8 ω,Z8 ω,Z8 ω,Z8 ω,Nat.add_zero,List.getElem?_set_self ω];cases hv;rfl
 | 1,hv=>rw [Z8 ω,Z8 ω,Z8 ω,Z8 ω,Z8 ω,Z8 ω,Z8 ω,List.getElem?_set_self φ];cases hv;rfl
 | 2,hv=>rw [Z8 ω,Z8 ω,Z8 ω,Z8 ω,Z8 ω,Z8 ω,List.getElem?_set_self φ];cases hv;rfl
 | 3,hv=>rw [Z8 ω,Z8 ω,Z8 ω,Z8 ω,Z8 ω,List.getElem?_set_self φ];cases hv;rfl
 | 4,hv=>rw [Z8 ω,Z8 ω,Z8 ω,Z8 ω,List.getElem?_set_self φ];cases hv;rfl
 | 5,hv=>rw [Z8 ω,Z8 ω,Z8 ω,List.getElem?_set_self φ];cases hv;rfl
 | 6,hv=>rw [Z8 ω,Z8 ω,List.getElem?_set_self φ];cases hv;rfl
 | 7,hv=>rw [Z8 ω,List.getElem?_set_self φ];cases hv;rfl
 | 8,hv=>rw [List.getElem?_set_self φ];cases hv;rfl
theorem V3.put9 (h:V3 w c tag e sz (σ (some (π g 0)) n cap) n xs) (k:Nat) (l:List Value):V3 (Xt1 w g k l) c tag e sz (σ (some (π g 0)) n cap) n (Go.Proofs.YtiejafonjemioaaGreatDoor.put9 xs k l):=
 ((((((((h.put _ _).put _ _).put _ _).put _ _).put _ _).put _ _).put _ _).put _ _).put _ _
theorem X3d {l:List Value} (h:T (c b)) (h0:¬T 0):Chg T c c w (Xt1 w b k l):=
 (((((((Chg.set h h0).trans (Chg.set h h0)).trans (Chg.set h h0)).trans (Chg.set h h0)).trans (Chg.set h h0)).trans (Chg.set h h0)).trans (Chg.set h h0)).trans (Chg.set h h0) |>.trans (Chg.set h h0)
theorem Xyz (w:World) (b k:Nat) (l:List Value):(Xt1 w b k l).heap.size=w.heap.size:=by simp [Xt1]
theorem TK.setR {m0:Mch} (h:TK NO w c s V) (hm:s.running[t]?=some m0) (hvv:V.rv=σ (some (π b 0)) n cap) (hfr:Xf w.heap.size (mask w c) 4 (Qp w.heap.size) fv m.frames) (hwf:Xt0 m) :
  TK NO (Xt1 w b (t*9) (Xtv fv m)) c { s with running:=s.running.set t m } { V with rx:=put9 V.rx (t*9) (Xtv fv m) }/\Chg NZ c c w (Xt1 w b (t*9) (Xtv fv m)):=by
 have aA:=h.r (no _)
 have hn:n=s.running.length:=by
  obtain ⟨a',aB,e,_⟩:=aA.form
  rw [hvv] at e
  cases e;rfl
 rw [hvv,<- hn] at aA
 have aD:t<n:=by rw [hn];exact (Ll hm)
 have aE:t*9+9<=V.rx.length:=by have:=aA.1.1;omega
 have aC:c b=4:=aA.2.1 b (by simp [Value.ownBlock])
 have hS:Chg (fun k=>k=4) c c w (Xt1 w b (t*9) (Xtv fv m)):=X3d aC ω
 have K:=h.kept hS (fun b hb=>h.hi b (by rw [Xyz] at hb;exact hb))
 have HR:=aA.put9 (t*9) (Xtv fv m)
 rw [hn,show Value.slice (some (π b 0)) s.running.length cap=V.rv by rw [hvv,hn]] at HR
 have hf:=hfr.ups Xsw hS.size hS.sub
 refine ⟨⟨K.hi,fun _=>K.g (ne2 ω),
  fun _=>K.n (ne2 ω),
  fun i x hx=>by
   obtain ⟨lv,h1,h2,h3,h4⟩:=K.nn i x hx
   exact ⟨lv,h1,h2,h3,fun _=>h4 (ne2 ω)⟩,
  fun _=>by rw [List.length_set];exact HR,
  fun u m hm=>by
   rcases X0z hm with ⟨rfl,rfl,aD⟩|⟨aF,hm⟩
   ·exact ⟨fv,fun j v hv=>X2p aE j v hv,hf,hwf⟩
   ·obtain ⟨q,h1,h2⟩:=K.rr u m hm
    exact ⟨q,fun j v hv=>by rw [X2u (by have:=Xx1 hv;omega)];exact h1 j v hv,h2⟩,
  fun _=>K.k (ne2 ω),
  fun _=>K.cr (ne2 ω),
  K.cl,
  fun _=>K.o (ne2 ω),
  fun u l hl=>by
   obtain ⟨v,h1,h2⟩:=K.ol u l hl
   exact ⟨v,h1,fun _=>h2 (ne2 ω)⟩,
  fun _=>K.b (ne2 ω),
  fun u l hl=>by
   obtain ⟨v,h1,h2⟩:=K.bl u l hl
   exact ⟨v,h1,fun _=>h2 (ne2 ω)⟩,
  fun _=>K.e (ne2 ω),
  fun u l hl=>by
   obtain ⟨v,h1,h2⟩:=K.el u l hl
   exact ⟨v,h1,fun _=>h2 (ne2 ω)⟩,h.f64,h.s64⟩,hS.nz⟩
theorem TK.setK (t:Nat) (x:Int) (h:TK NO w c s V) (hvv:V.kv=σ (some (π b 0)) n cap) (hx:in64 x) :
  TK NO (w.setCell (π b t) (ι x)) c { s with nodes:=s.nodes.set t x } V/\Chg NZ c c w (w.setCell (π b t) (ι x)):=by
 have aA:=h.k (no _)
 have hn:n=s.nodes.length:=by
  obtain ⟨a',aB,e,_⟩:=aA.1.form
  rw [hvv] at e
  cases e;rfl
 rw [hvv] at aA
 have hb:c b=5:=aA.1.2.1 b (by simp [Value.ownBlock])
 have hS:Chg (fun k=>k=5) c c w (w.setCell (π b t) (ι x)):=Chg.set hb ω
 have K:=h.kept hS (fun b hb=>h.hi b (by simpa using hb))
 have HK:=aA.put hn t x hx
 rw [<-hvv] at HK
 refine ⟨⟨K.hi,fun _=>K.g (ne2 ω),
  fun _=>K.n (ne2 ω),
  fun i x hx=>by
   obtain ⟨lv,h1,h2,h3,h4⟩:=K.nn i x hx
   exact ⟨lv,h1,h2,h3,fun _=>h4 (ne2 ω)⟩,
  fun _=>K.r (ne2 ω),
  K.rr,
  fun _=>HK,
  fun _=>K.cr (ne2 ω),
  K.cl,
  fun _=>K.o (ne2 ω),
  fun u l hl=>by
   obtain ⟨v,h1,h2⟩:=K.ol u l hl
   exact ⟨v,h1,fun _=>h2 (ne2 ω)⟩,
  fun _=>K.b (ne2 ω),
  fun u l hl=>by
   obtain ⟨v,h1,h2⟩:=K.bl u l hl
   exact ⟨v,h1,fun _=>h2 (ne2 ω)⟩,
  fun _=>K.e (ne2 ω),
  fun u l hl=>by
   obtain ⟨v,h1,h2⟩:=K.el u l hl
   exact ⟨v,h1,fun _=>h2 (ne2 ω)⟩,h.f64,h.s64⟩,hS.nz⟩
theorem TK.setC {l0 l1:List Cal} (h:TK NO w c s V) (hm:s.calls[t]?=some l0) (hvv:V.cv=σ (some (π b 0)) n cap) (hl1:Xf w.heap.size (mask w c) 2 (Xsr w.heap.size) v l1) :
  TK NO (w.setCell (π b t) v) c { s with calls:=s.calls.set t l1 } { V with cx:=V.cx.set t v }/\Chg NZ c c w (w.setCell (π b t) v):=by
 have aA:=h.cr (no _)
 have hn:n=s.calls.length:=by
  obtain ⟨a',aB,e,_⟩:=aA.form
  rw [hvv] at e
  cases e;rfl
 rw [hvv,<- hn] at aA
 have hb:c b=6:=aA.2.1 b (by simp [Value.ownBlock])
 have hS:Chg (fun k=>k=6) c c w (w.setCell (π b t) v):=Chg.set hb ω
 have K:=h.kept hS (fun b hb=>h.hi b (by simpa using hb))
 have HR:=aA.put t v
 rw [hn,show Value.slice (some (π b 0)) s.calls.length cap=V.cv by rw [hvv,hn]] at HR
 have hf:=hl1.ups Xuk hS.size hS.sub
 refine ⟨⟨K.hi,fun _=>K.g (ne2 ω),
  fun _=>K.n (ne2 ω),
  fun i x hx=>by
   obtain ⟨lv,h1,h2,h3,h4⟩:=K.nn i x hx
   exact ⟨lv,h1,h2,h3,fun _=>h4 (ne2 ω)⟩,
  fun _=>K.r (ne2 ω),
  K.rr,
  fun _=>K.k (ne2 ω),
  fun _=>by rw [List.length_set];exact HR,
  fun u l hl=>by
   rcases X0z hl with ⟨rfl,rfl,aD⟩|⟨aC,hl⟩
   ·obtain ⟨q,h1,_⟩:=h.cl _ _ hm
    exact ⟨v,Xwo h1,hf⟩
   ·obtain ⟨q,h1,h2⟩:=K.cl u l hl
    exact ⟨q,by rw [Z8 aC];exact h1,h2⟩,
  fun _=>K.o (ne2 ω),
  fun u l hl=>by
   obtain ⟨v,h1,h2⟩:=K.ol u l hl
   exact ⟨v,h1,fun _=>h2 (ne2 ω)⟩,
  fun _=>K.b (ne2 ω),
  fun u l hl=>by
   obtain ⟨v,h1,h2⟩:=K.bl u l hl
   exact ⟨v,h1,fun _=>h2 (ne2 ω)⟩,
  fun _=>K.e (ne2 ω),
  fun u l hl=>by
   obtain ⟨v,h1,h2⟩:=K.el u l hl
   exact ⟨v,h1,fun _=>h2 (ne2 ω)⟩,h.f64,h.s64⟩,hS.nz⟩
def V2 (w:World) (c:Clr) (bt:Nat) (s:Thr):Prop:=∃ V,TK NO w c s V/\Xvp w c bt s V
theorem V2.lab (h:V2 w c bt s):c bt=1/\bt<w.heap.size/\(∀ b,w.heap.size<=b->c b=0)/\∀ j,w.frozen? (π bt j)=false:=by
 obtain ⟨V,h,hb⟩:=h
 exact ⟨hb.lab,hb.lt,h.hi,hb.frz⟩
theorem V2.grow (h:V2 w c bt s) (hb:Below w.heap.size w w'):V2 w' c bt s:=by
 obtain ⟨V,h,hB⟩:=h
 exact ⟨V,h.grow hb,hB.keep (Chg.of_below hb (no 0)) (no 1)⟩
theorem V2.step (h:V2 w c bt s):w.cell? (π bt 9)=some (ι s.step)/\in64 s.step:=by
 obtain ⟨V,h,hB⟩:=h
 exact ⟨hB.cell 9 rfl,h.s64⟩
theorem V2.fuel (h:V2 w c bt s):w.cell? (π bt 2)=some (ι s.fuel)/\in64 s.fuel:=by
 obtain ⟨V,h,hB⟩:=h
 exact ⟨hB.cell 2 rfl,h.f64⟩
theorem V2.setStep (n:Int) (h:V2 w c bt s) (hn:in64 n):V2 (w.setCell (π bt 9) (ι n)) c bt { s with step:=n }/\Chg NZ c c w (w.setCell (π bt 9) (ι n)):=by
 obtain ⟨V,h,hB⟩:=h
 have hS:Chg (fun k=>k=1) c c w (w.setCell (π bt 9) (ι n)):=Chg.set hB.lab ω
 have K:=h.kept hS (fun b hb=>h.hi b (by simpa using hb))
 refine ⟨⟨V,⟨K.hi,fun _=>K.g (ne2 ω),
  fun _=>K.n (ne2 ω),
  fun i x hx=>by
   obtain ⟨lv,h1,h2,h3,h4⟩:=K.nn i x hx
   exact ⟨lv,h1,h2,h3,fun _=>h4 (ne2 ω)⟩,
  fun _=>K.r (ne2 ω),
  K.rr,
  fun _=>K.k (ne2 ω),
  fun _=>K.cr (ne2 ω),
  K.cl,
  fun _=>K.o (ne2 ω),
  fun u l hl=>by
   obtain ⟨v,h1,h2⟩:=K.ol u l hl
   exact ⟨v,h1,fun _=>h2 (ne2 ω)⟩,
  fun _=>K.b (ne2 ω),
  fun u l hl=>by
   obtain ⟨v,h1,h2⟩:=K.bl u l hl
   exact ⟨v,h1,fun _=>h2 (ne2 ω)⟩,
  fun _=>K.e (ne2 ω),
  fun u l hl=>by
   obtain ⟨v,h1,h2⟩:=K.el u l hl
   exact ⟨v,h1,fun _=>h2 (ne2 ω)⟩,h.f64,hn⟩,⟨?_,hB.lab⟩⟩,hS.nz⟩
 rw [heap_setCell_same _ _ _ _ _ _ hB.row]
 rfl
theorem V2.viewO {l:List Xr7} (h:V2 w c bt s) (hl:s.results[t]?=some l) :
  ∃ ob oc pa pc,w.cell? (π bt 6)=some (σ (some (π ob 0)) s.results.length oc)/\w.cell? (π ob t)=some (σ pa l.length pc)/\c ob=7/\ob<w.heap.size/\(∀ j,w.frozen? (π ob j)=false)/\V3 w c (11+5*t) 84 5 (σ pa l.length pc) l.length (Xss l)/\
   ∀ w1 c1 v' x,Chg (fun k=>k=11+5*t) c c1 w w1->(∀ b,w1.heap.size<=b->c1 b=0)->V3 w1 c1 (11+5*t) 84 5 v' (l.length+1) (Xss l++Xsv x)->Xzy x->V2 (w1.setCell (π ob t) v') c1 bt { s with results:=s.results.modify t (·++[x]) }/\Chg NZ c c1 w (w1.setCell (π ob t) v'):=by
 obtain ⟨V,h,hB⟩:=h
 obtain ⟨v,hv,aA⟩:=h.ol t l hl
 have hr:=h.o (no _)
 obtain ⟨oa,oc,eo,-⟩:=hr.form
 obtain ⟨pa,pc,rfl,-⟩:=(aA (no _)).1.form
 have b6:=hB.cell 6 (v:=V.ov) rfl
 rw [eo] at hr b6
 obtain ⟨ob,rfl,h1,h2,h3,h4⟩:=hr.pos hv
 refine ⟨ob,oc,pa,pc,b6,h3 t _ hv,h1,h2,h4,(aA (no _)).1,fun w1 c1 v' x hC aC aB hx=>?_⟩
 obtain ⟨k1,k2⟩:=h.addO hl eo aB hC aC hx
 exact ⟨⟨_,k1,((hB.keep hC ω).keep (T:=fun k=>k=7) (Chg.set (by rw [hC.old ob h2];exact h1) ω) ω).as rfl⟩,k2⟩
theorem V2.viewB (h:V2 w c bt s) (hl:s.begins[t]?=some l) :
  ∃ ob oc pa pc,w.cell? (π bt 7)=some (σ (some (π ob 0)) s.begins.length oc)/\w.cell? (π ob t)=some (σ pa l.length pc)/\c ob=8/\ob<w.heap.size/\(∀ j,w.frozen? (π ob j)=false)/\V3 w c (12+5*t) 3 1 (σ pa l.length pc) l.length (l.map (Value.int .i64))/\
   ∀ w1 c1 v' x,Chg (fun k=>k=12+5*t) c c1 w w1->(∀ b,w1.heap.size<=b->c1 b=0)->V3 w1 c1 (12+5*t) 3 1 v' (l.length+1) (l.map (Value.int .i64)++[ι x])->in64 x->V2 (w1.setCell (π ob t) v') c1 bt { s with begins:=s.begins.modify t (·++[x]) }/\Chg NZ c c1 w (w1.setCell (π ob t) v'):=by
 obtain ⟨V,h,hB⟩:=h
 obtain ⟨v,hv,aA⟩:=h.bl t l hl
 have hr:=h.b (no _)
 obtain ⟨oa,oc,eo,-⟩:=hr.form
 obtain ⟨pa,pc,rfl,-⟩:=(aA (no _)).1.form
 have b6:=hB.cell 7 (v:=V.bv) rfl
 rw [eo] at hr b6
 obtain ⟨ob,rfl,h1,h2,h3,h4⟩:=hr.pos hv
 refine ⟨ob,oc,pa,pc,b6,h3 t _ hv,h1,h2,h4,(aA (no _)).1,fun w1 c1 v' x hC aC aB hx=>?_⟩
 obtain ⟨k1,k2⟩:=h.addB hl eo aB hC aC hx
 exact ⟨⟨_,k1,((hB.keep hC ω).keep (T:=fun k=>k=8) (Chg.set (by rw [hC.old ob h2];exact h1) ω) ω).as rfl⟩,k2⟩
theorem V2.viewE (h:V2 w c bt s) (hl:s.ends[t]?=some l) :
  ∃ ob oc pa pc,w.cell? (π bt 8)=some (σ (some (π ob 0)) s.ends.length oc)/\w.cell? (π ob t)=some (σ pa l.length pc)/\c ob=9/\ob<w.heap.size/\(∀ j,w.frozen? (π ob j)=false)/\V3 w c (13+5*t) 3 1 (σ pa l.length pc) l.length (l.map (Value.int .i64))/\
   ∀ w1 c1 v' x,Chg (fun k=>k=13+5*t) c c1 w w1->(∀ b,w1.heap.size<=b->c1 b=0)->V3 w1 c1 (13+5*t) 3 1 v' (l.length+1) (l.map (Value.int .i64)++[ι x])->in64 x->V2 (w1.setCell (π ob t) v') c1 bt { s with ends:=s.ends.modify t (·++[x]) }/\Chg NZ c c1 w (w1.setCell (π ob t) v'):=by
 obtain ⟨V,h,hB⟩:=h
 obtain ⟨v,hv,aA⟩:=h.el t l hl
 have hr:=h.e (no _)
 obtain ⟨oa,oc,eo,-⟩:=hr.form
 obtain ⟨pa,pc,rfl,-⟩:=(aA (no _)).1.form
 have b6:=hB.cell 8 (v:=V.ev) rfl
 rw [eo] at hr b6
 obtain ⟨ob,rfl,h1,h2,h3,h4⟩:=hr.pos hv
 refine ⟨ob,oc,pa,pc,b6,h3 t _ hv,h1,h2,h4,(aA (no _)).1,fun w1 c1 v' x hC aC aB hx=>?_⟩
 obtain ⟨k1,k2⟩:=h.addE hl eo aB hC aC hx
 exact ⟨⟨_,k1,((hB.keep hC ω).keep (T:=fun k=>k=9) (Chg.set (by rw [hC.old ob h2];exact h1) ω) ω).as rfl⟩,k2⟩
theorem V2.viewR (h:V2 w c bt s) (hl:s.running[t]?=some m) :
  ∃ ob oc fa fc,w.cell? (π bt 3)=some (σ (some (π ob 0)) s.running.length oc)/\(∀ (j:Nat) v,(Xtv (σ fa m.frames.length fc) m)[j]?=some v->w.cell? (π ob (t*9+j))=some v)/\c ob=4/\ob<w.heap.size/\(∀ j,w.frozen? (π ob j)=false)/\Xf w.heap.size (mask w c) 4 (Qp w.heap.size) (σ fa m.frames.length fc) m.frames/\Xt0 m/\
   ∀ m' aA,Xf w.heap.size (mask w c) 4 (Qp w.heap.size) aA m'.frames->Xt0 m'->V2 (Xt1 w ob (t*9) (Xtv aA m')) c bt { s with running:=s.running.set t m' }/\Chg NZ c c w (Xt1 w ob (t*9) (Xtv aA m')):=by
 obtain ⟨V,h,hB⟩:=h
 obtain ⟨fv,hx,aB,aE⟩:=h.rr t m hl
 have hr:=h.r (no _)
 obtain ⟨oa,oc,eo,-⟩:=hr.form
 obtain ⟨fa,fc,rfl⟩:∃ fa fc,fv=σ fa m.frames.length fc:=by obtain ⟨a,b,rfl,_⟩:=aB;exact ⟨a,b,rfl⟩
 have b3:=hB.cell 3 (v:=V.rv) rfl
 rw [eo] at hr b3
 obtain ⟨ob,rfl,h1,h2,h3,h4⟩:=hr.pos (hx 0 _ rfl)
 refine ⟨ob,oc,fa,fc,b3,fun j v hv=>h3 _ _ (hx j v hv),h1,h2,h4,aB,aE,fun m' aA aC aD=>?_⟩
 obtain ⟨k1,k2⟩:=h.setR hl eo aC aD
 exact ⟨⟨_,k1,(hB.keep (T:=fun k=>k=4) (X3d h1 ω) ω).as rfl⟩,k2⟩
theorem V2.viewK {n:Int} (h:V2 w c bt s) (hl:s.nodes[t]?=some n) :
  ∃ ob oc,w.cell? (π bt 4)=some (σ (some (π ob 0)) s.nodes.length oc)/\w.cell? (π ob t)=some (ι n)/\c ob=5/\ob<w.heap.size/\(∀ j,w.frozen? (π ob j)=false)/\in64 n/\
   ∀ x,in64 x->V2 (w.setCell (π ob t) (ι x)) c bt { s with nodes:=s.nodes.set t x }/\Chg NZ c c w (w.setCell (π ob t) (ι x)):=by
 obtain ⟨V,h,hB⟩:=h
 have hr:=h.k (no _)
 obtain ⟨oa,oc,eo,-⟩:=hr.1.form
 have b4:=hB.cell 4 (v:=V.kv) rfl
 rw [eo] at hr b4
 obtain ⟨ob,rfl,h1,h2,h3,h4⟩:=hr.1.pos (j:=t) (u:=ι n) (by rw [List.getElem?_map,hl];rfl)
 refine ⟨ob,oc,b4,h3 t _ (by rw [List.getElem?_map,hl];rfl),h1,h2,h4,hr.2 n (Lm hl),fun x hx=>?_⟩
 obtain ⟨k1,k2⟩:=h.setK t x eo hx
 exact ⟨⟨_,k1,(hB.keep (T:=fun k=>k=5) (Chg.set h1 ω) ω).as rfl⟩,k2⟩
theorem V2.viewC {l:List Cal} (h:V2 w c bt s) (hl:s.calls[t]?=some l) :
  ∃ ob oc la lc,w.cell? (π bt 5)=some (σ (some (π ob 0)) s.calls.length oc)/\w.cell? (π ob t)=some (σ la l.length lc)/\c ob=6/\ob<w.heap.size/\(∀ j,w.frozen? (π ob j)=false)/\Xf w.heap.size (mask w c) 2 (Xsr w.heap.size) (σ la l.length lc) l/\
   ∀ l1 v,Xf w.heap.size (mask w c) 2 (Xsr w.heap.size) v l1->V2 (w.setCell (π ob t) v) c bt { s with calls:=s.calls.set t l1 }/\Chg NZ c c w (w.setCell (π ob t) v):=by
 obtain ⟨V,h,hB⟩:=h
 obtain ⟨v,hv,aA⟩:=h.cl t l hl
 have hr:=h.cr (no _)
 obtain ⟨oa,oc,eo,-⟩:=hr.form
 obtain ⟨la,lc,rfl⟩:∃ fa fc,v=σ fa l.length fc:=by obtain ⟨a,b,rfl,_⟩:=aA;exact ⟨a,b,rfl⟩
 have b5:=hB.cell 5 (v:=V.cv) rfl
 rw [eo] at hr b5
 obtain ⟨ob,rfl,h1,h2,h3,h4⟩:=hr.pos hv
 refine ⟨ob,oc,la,lc,b5,h3 t _ hv,h1,h2,h4,aA,fun l1 v aB=>?_⟩
 obtain ⟨k1,k2⟩:=h.setC hl eo aB
 exact ⟨⟨_,k1,(hB.keep (T:=fun k=>k=6) (Chg.set h1 ω) ω).as rfl⟩,k2⟩
theorem X3l:Xt0 Xl:=by unfold Xt0 Rq.wf in64 Xl;simp
theorem Xf.none_ {E:World->Nat->Nat->α->Prop}:Xf B w sz E ν ([]:List α):=⟨none,0,rfl,ψ,ψ,ω,.inl rfl⟩
theorem V2.viewRK {n:Int} (h:V2 w c bt s) (hm:s.running[t]?=some m) (hn:s.nodes[t]?=some n) :
  ∃ rb rc kb kc fa fc,w.cell? (π bt 3)=some (σ (some (π rb 0)) s.running.length rc)/\w.cell? (π bt 4)=some (σ (some (π kb 0)) s.nodes.length kc)/\(∀ j,w.frozen? (π rb j)=false)/\(∀ j,w.frozen? (π kb j)=false)/\rb<w.heap.size/\kb<w.heap.size/\rb≠kb/\bt≠rb/\(∀ (j:Nat) v,(Xtv (σ fa m.frames.length fc) m)[j]?=some v->w.cell? (π rb (t*9+j))=some v)/\w.cell? (π kb t)=some (ι n)/\
   V2 ((Xt1 w rb (t*9) (Xtv ν Xl)).setCell (π kb t) (ι 0)) c bt { s with running:=s.running.set t Xl,nodes:=s.nodes.set t 0 }/\Chg NZ c c w ((Xt1 w rb (t*9) (Xtv ν Xl)).setCell (π kb t) (ι 0)):=by
 obtain ⟨V,h,hB⟩:=h
 obtain ⟨fv,hx,aA,aB⟩:=h.rr t m hm
 have hr:=h.r (no _)
 have hk:=(h.k (no _)).1
 obtain ⟨oa,oc,eo,-⟩:=hr.form
 obtain ⟨ka,kc,ek,-⟩:=hk.form
 have b3:=hB.cell 3 (v:=V.rv) rfl
 have b4:=hB.cell 4 (v:=V.kv) rfl
 rw [eo] at hr b3
 rw [ek] at hk b4
 obtain ⟨rb,rfl,h1,h2,h3,h4⟩:=hr.pos (hx 0 _ rfl)
 obtain ⟨kb,rfl,g1,g2,g3,g4⟩:=hk.pos (j:=t) (u:=ι n) (by rw [List.getElem?_map,hn];rfl)
 obtain ⟨k1,k2⟩:=h.setR (m:=Xl) hm eo Xf.none_ X3l
 obtain ⟨q1,q2⟩:=k1.setK t 0 ek (by unfold in64;simp)
 obtain ⟨fa,fc,rfl⟩:∃ fa fc,fv=σ fa m.frames.length fc:=by obtain ⟨a,b,rfl,_⟩:=aA;exact ⟨a,b,rfl⟩
 exact ⟨rb,oc,kb,kc,fa,fc,b3,b4,h4,g4,h2,g2,fun e=>(by rw [e,g1] at h1;cases h1),fun e=>(by have:=hB.lab;rw [e,h1] at this;cases this),fun j v hv=>h3 _ _ (hx j v hv),g3 t _ (by rw [List.getElem?_map,hn];rfl),⟨_,q1,((hB.keep (T:=fun k=>k=4) (X3d h1 ω) ω).keep (T:=fun k=>k=5) (Chg.set g1 ω) ω).as rfl⟩,k2.trans q2⟩
def X0p (w:World) (bt:Nat) (r:Rq) (b:Nat):Prop:=(r.node=0/\∃ n k,w.cell? (π bt 0)=some (σ (some (π b 0)) n k))\/(1<=r.node/\∃ nb n k n2 k2,w.cell? (π bt 1)=some (σ (some (π nb 0)) n k)/\w.cell? (π nb ((r.node - 1).toNat*2+1))=some (σ (some (π b 0)) n2 k2))
theorem X0p.keep (hb:Below w.heap.size w w') (h:X0p w bt r b):X0p w' bt r b:=by
 rcases h with ⟨h,n,k,h1⟩|⟨h,nb,n,k,n2,k2,h1,h2⟩
 ·exact .inl ⟨h,n,k,Xc hb h1⟩
 ·exact .inr ⟨h,nb,n,k,n2,k2,Xc hb h1,Xc hb h2⟩
def Xw6 (m:Mm) (r:Rq) (x:Int):Mm:=if 0<r.node then { m with nodes:=m.nodes.modify (r.node - 1).toNat (fun y=>Xem y r.field.toNat x) } else { m with globals:=m.globals.set r.field.toNat x }
theorem V2.viewG (h:V2 w c bt s):∃ ga gc,w.cell? (π bt 0)=some (σ ga s.mem.globals.length gc)/\∀ (j:Nat) v,s.mem.globals[j]?=some v->∃ b,ga=some (π b 0)/\w.cell? (π b j)=some (ι v)/\c b=2:=by
 obtain ⟨V,h,hB⟩:=h
 have hr:=(h.g (no _)).1
 obtain ⟨oa,oc,eo,-⟩:=hr.form
 have b0:=hB.cell 0 (v:=V.gv) rfl
 rw [eo] at hr b0
 refine ⟨oa,oc,b0,fun j v hv=>?_⟩
 obtain ⟨b,rfl,h1,h2,h3,h4⟩:=hr.pos (j:=j) (u:=ι v) (by rw [List.getElem?_map,hv];rfl)
 exact ⟨b,rfl,h3 j _ (by rw [List.getElem?_map,hv];rfl),h1⟩
theorem V2.viewN (h:V2 w c bt s):∃ na nc,w.cell? (π bt 1)=some (σ na s.mem.nodes.length nc)/\∀ (i:Nat) x,s.mem.nodes[i]?=some x->∃ nb la lc,na=some (π nb 0)/\w.cell? (π nb (i*2))=some (ι x.type)/\w.cell? (π nb (i*2+1))=some (σ la x.f.length lc)/\c nb=3/\∀ (j:Nat) v,x.f[j]?=some v->∃ b,la=some (π b 0)/\w.cell? (π b j)=some (ι v)/\c b=10+5*i:=by
 obtain ⟨V,h,hB⟩:=h
 have hr:=h.n (no _)
 obtain ⟨oa,oc,eo,-⟩:=hr.form
 have b1:=hB.cell 1 (v:=V.nv) rfl
 rw [eo] at hr b1
 refine ⟨oa,oc,b1,fun i x hx=>?_⟩
 obtain ⟨lv,k1,k2,k3,k4⟩:=h.nn i x hx
 obtain ⟨nb,rfl,h1,h2,h3,h4⟩:=hr.pos k1
 have hl:=(k4 (no _)).1
 obtain ⟨la,lc,rfl,-⟩:=hl.form
 refine ⟨nb,la,lc,rfl,h3 _ _ k1,h3 _ _ k2,h1,fun j v hv=>?_⟩
 obtain ⟨b,rfl,g1,g2,g3,g4⟩:=hl.pos (j:=j) (u:=ι v) (by rw [List.getElem?_map,hv];rfl)
 exact ⟨b,rfl,g3 j _ (by rw [List.getElem?_map,hv];rfl),g1⟩
theorem Xv5 {m:Mm} (h:r.node=0):Un m r=m.globals:=by unfold Un;rw [if_neg ω,if_neg ω]
theorem Xw4 {m:Mm} {x:Nod} (h:1<=r.node) (hx:m.nodes[(r.node - 1).toNat]?=some x):Un m r=x.f:=by
 have:=(Ll hx)
 unfold Un;rw [if_neg ω,if_pos ω,hx];rfl
theorem Xyn {m:Mm} (h:1<=r.node) {f:Int} (hf:0<=f) (hl:f<((Un m r).length:Int)):∃ x,m.nodes[(r.node - 1).toNat]?=some x:=by
 cases hx:m.nodes[(r.node - 1).toNat]? with
 | some x=>exact ⟨x,rfl⟩
 | none=>
  exfalso
  unfold Un at hl
  split at hl
  ·simp at hl;omega
  ·rw [if_pos ω,hx] at hl;simp at hl;omega
theorem V2.put (h:V2 w c bt s) (hp:X0p w bt r b) (hf:0<=r.field) (hl:r.field<((Un s.mem r).length:Int)) :
  w.cell? (π b r.field.toNat)=some (ι ((Un s.mem r).getD r.field.toNat 0))/\b<w.heap.size/\w.frozen? (π b r.field.toNat)=false/\in64 ((Un s.mem r).getD r.field.toNat 0)/\
   ∀ x,in64 x->V2 (w.setCell (π b r.field.toNat) (ι x)) c bt { s with mem:=Xw6 s.mem r x }/\Chg NZ c c w (w.setCell (π b r.field.toNat) (ι x)):=by
 obtain ⟨V,h,hB⟩:=h
 rcases hp with ⟨h0,n,k,h1⟩|⟨h0,nb,n,k,n2,k2,h1,h2⟩
 ·rw [Xv5 h0] at hl ⊢
  have hr:=h.g (no _)
  obtain ⟨v,hv⟩:∃ v,s.mem.globals[r.field.toNat]?=some v:=⟨_,Lg ω⟩
  have b0:=hB.cell 0 (v:=V.gv) rfl
  rw [h1] at b0
  have e:V.gv=σ (some (π b 0)) n k:=by simpa using b0.symm
  obtain ⟨oa,oc,eo,-⟩:=hr.1.form
  have hn:n=s.mem.globals.length:=by rw [eo] at e;cases e;rfl
  have aE:=hr.1
  rw [e,hn] at aE
  obtain ⟨b',aA,g1,g2,g3,g4⟩:=aE.pos (j:=r.field.toNat) (u:=ι v) (by rw [List.getElem?_map,hv];rfl)
  cases aA
  rw [List.getD_eq_getElem?_getD,hv]
  refine ⟨g3 _ _ (by rw [List.getElem?_map,hv];rfl),g2,g4 _,hr.2 v (Lm hv),fun x hx=>?_⟩
  have hS:Chg (fun k=>k=2) c c w (w.setCell (π b r.field.toNat) (ι x)):=Chg.set g1 ω
  have K:=h.kept hS (fun b hb=>h.hi b (by simpa using hb))
  rw [e] at hr
  have HG:=hr.put hn r.field.toNat x hx
  rw [<-e] at HG
  have em:Xw6 s.mem r x={ s.mem with globals:=s.mem.globals.set r.field.toNat x }:=by unfold Xw6;rw [if_neg ω]
  rw [em]
  exact ⟨⟨V,⟨K.hi,fun _=>HG,
   fun _=>K.n (ne2 ω),
   fun i x hx=>by
   obtain ⟨lv,h1,h2,h3,h4⟩:=K.nn i x hx
   exact ⟨lv,h1,h2,h3,fun _=>h4 (ne2 ω)⟩,
   fun _=>K.r (ne2 ω),
   K.rr,
   fun _=>K.k (ne2 ω),
   fun _=>K.cr (ne2 ω),
   K.cl,
   fun _=>K.o (ne2 ω),
   fun u l hl=>by
   obtain ⟨v,h1,h2⟩:=K.ol u l hl
   exact ⟨v,h1,fun _=>h2 (ne2 ω)⟩,
   fun _=>K.b (ne2 ω),
   fun u l hl=>by
   obtain ⟨v,h1,h2⟩:=K.bl u l hl
   exact ⟨v,h1,fun _=>h2 (ne2 ω)⟩,
   fun _=>K.e (ne2 ω),
   fun u l hl=>by
   obtain ⟨v,h1,h2⟩:=K.el u l hl
   exact ⟨v,h1,fun _=>h2 (ne2 ω)⟩,h.f64,h.s64⟩,(hB.keep hS ω).as rfl⟩,hS.nz⟩
 ·obtain ⟨x1,aB⟩:=Xyn h0 hf hl
  rw [Xw4 h0 aB] at hl ⊢
  obtain ⟨lv,j1,j2,j3,j4⟩:=h.nn _ _ aB
  have hr:=h.n (no _)
  have b1:=hB.cell 1 (v:=V.nv) rfl
  rw [h1] at b1
  have e:V.nv=σ (some (π nb 0)) n k:=by simpa using b1.symm
  obtain ⟨oa,oc,eo,-⟩:=hr.form
  have hn:n=s.mem.nodes.length:=by rw [eo] at e;cases e;rfl
  rw [e,hn] at hr
  obtain ⟨aH,aA,f1,f2,f3,f4⟩:=hr.pos j2
  cases aA
  have aD:=f3 _ _ j2
  rw [h2] at aD
  have aF:lv=σ (some (π b 0)) n2 k2:=by simpa using aD.symm
  subst aF
  obtain ⟨v,hv⟩:∃ v,x1.f[r.field.toNat]?=some v:=⟨_,Lg ω⟩
  have hi:=j4 (no _)
  obtain ⟨la,lc,el,-⟩:=hi.1.form
  obtain ⟨rfl,rfl,rfl⟩:some ((π b 0):Addr)=la/\n2=x1.f.length/\k2=lc:=by simpa using el
  obtain ⟨b',aA,g1,g2,g3,g4⟩:=hi.1.pos (j:=r.field.toNat) (u:=ι v) (by rw [List.getElem?_map,hv];rfl)
  cases aA
  rw [List.getD_eq_getElem?_getD,hv]
  refine ⟨g3 _ _ (by rw [List.getElem?_map,hv];rfl),g2,g4 _,hi.2 v (Lm hv),fun x hx=>?_⟩
  obtain ⟨i,aC⟩:∃ i,i=(r.node - 1).toNat:=⟨_,rfl⟩
  rw [<-aC] at j1 j2 g1 aB hi
  have hS:Chg (fun k=>k=10+5*i) c c w (w.setCell (π b r.field.toNat) (ι x)):=Chg.set g1 ω
  have K:=h.kept hS (fun b hb=>h.hi b (by simpa using hb))
  have HG:=hi.put rfl r.field.toNat x hx
  have em:Xw6 s.mem r x={ s.mem with nodes:=s.mem.nodes.modify i (fun y=>Xem y r.field.toNat x) }:=by unfold Xw6;rw [if_pos ω,aC]
  rw [em]
  exact ⟨⟨V,⟨K.hi,fun _=>K.g (ne2 ω),
   fun _=>by rw [List.length_modify];exact K.n (ne2 ω),
   fun u y hy=>by
    rcases Xx3 aB hy with ⟨rfl,rfl⟩|⟨aG,hy⟩
    ·exact ⟨_,j1,j2,j3,fun _=>by simpa [Xem] using HG⟩
    ·obtain ⟨q,q1,q2,q3,q4⟩:=K.nn u y hy
     exact ⟨q,q1,q2,q3,fun _=>q4 (ne2 ω)⟩,
   fun _=>K.r (ne2 ω),
   K.rr,
   fun _=>K.k (ne2 ω),
   fun _=>K.cr (ne2 ω),
   K.cl,
   fun _=>K.o (ne2 ω),
   fun u l hl=>by
   obtain ⟨v,h1,h2⟩:=K.ol u l hl
   exact ⟨v,h1,fun _=>h2 (ne2 ω)⟩,
   fun _=>K.b (ne2 ω),
   fun u l hl=>by
   obtain ⟨v,h1,h2⟩:=K.bl u l hl
   exact ⟨v,h1,fun _=>h2 (ne2 ω)⟩,
   fun _=>K.e (ne2 ω),
   fun u l hl=>by
   obtain ⟨v,h1,h2⟩:=K.el u l hl
   exact ⟨v,h1,fun _=>h2 (ne2 ω)⟩,h.f64,h.s64⟩,(hB.keep hS ω).as rfl⟩,hS.nz⟩
theorem V2.viewA (h:V2 w c bt s):∃ na nc nx,w.cell? (π bt 1)=some (σ na s.mem.nodes.length nc)/\V3 w c 3 74 2 (σ na s.mem.nodes.length nc) s.mem.nodes.length nx/\
  ∀ w1 c1 w2 c2 lv (x:Nod) v',Chg NO c c1 w w1->(∀ b,w1.heap.size<=b->c1 b=0)->Xsp w1 c1 (10+5*s.mem.nodes.length) lv x.f->in64 x.type->Chg (fun k=>k=3) c1 c2 w1 w2->(∀ b,w2.heap.size<=b->c2 b=0)->V3 w2 c2 3 74 2 v' (s.mem.nodes.length+1) (nx++[ι x.type,lv])->
   V2 (w2.setCell (π bt 1) v') c2 bt { s with mem:={ s.mem with nodes:=s.mem.nodes++[x] } }/\Chg NZ c c2 w (w2.setCell (π bt 1) v'):=by
 obtain ⟨V,h,hB⟩:=h
 have hr:=h.n (no _)
 obtain ⟨oa,oc,eo,-⟩:=hr.form
 have b1:=hB.cell 1 (v:=V.nv) rfl
 have aD:=hr.1.1
 rw [eo] at hr b1
 refine ⟨oa,oc,V.nx,b1,hr,fun w1 c1 w2 c2 lv x v' aF aG hI aE aA aC hR=>?_⟩
 have hC:Chg (fun k=>k=3) c c2 w w2:=aA.aft aF
 have aB:c2 bt=1:=by rw [hC.old bt hB.lt];exact hB.lab
 have hS:Chg (fun k=>k=1) c2 c2 w2 (w2.setCell (π bt 1) v'):=Chg.set aB ω
 have K:=(h.kept hC aC).kept hS (fun b hb=>aC b (by simpa using hb))
 have HI:=(hI.keep aA ω).keep hS ω
 refine ⟨⟨{ V with nv:=v',nx:=V.nx++[ι x.type,lv] },⟨K.hi,fun _=>K.g (ne3 ω ω),
  fun _=>by rw [List.length_append];exact hR.keep hS ω,
  fun i y hy=>by
   by_cases hi:i<s.mem.nodes.length
   ·rw [Al hi] at hy
    obtain ⟨q,q1,q2,q3,q4⟩:=K.nn i y hy
    exact ⟨q,by rw [Al ω];exact q1,by rw [Al ω];exact q2,q3,fun _=>q4 (ne3 ω ω)⟩
   ·obtain ⟨rfl,rfl⟩:i=s.mem.nodes.length/\y=x:=by
     rw [Ar ω] at hy
     have:i - s.mem.nodes.length=0:=by have:=(Ll hy);simp at this;omega
     rw [this] at hy;simp at hy;exact ⟨ω,hy.symm⟩
    exact ⟨lv,by rw [Ar ω,aD,Nat.sub_self];rfl,by rw [Ar ω,aD,Nat.add_sub_cancel_left];rfl,aE,fun _=>HI⟩,
  fun _=>K.r (ne3 ω ω),
  K.rr,
  fun _=>K.k (ne3 ω ω),
  fun _=>K.cr (ne3 ω ω),
  K.cl,
  fun _=>K.o (ne3 ω ω),
  fun u l hl=>by
   obtain ⟨v,h1,h2⟩:=K.ol u l hl
   exact ⟨v,h1,fun _=>h2 (ne3 ω ω)⟩,
  fun _=>K.b (ne3 ω ω),
  fun u l hl=>by
   obtain ⟨v,h1,h2⟩:=K.bl u l hl
   exact ⟨v,h1,fun _=>h2 (ne3 ω ω)⟩,
  fun _=>K.e (ne3 ω ω),
  fun u l hl=>by
   obtain ⟨v,h1,h2⟩:=K.el u l hl
   exact ⟨v,h1,fun _=>h2 (ne3 ω ω)⟩,h.f64,h.s64⟩,⟨?_,aB⟩⟩,hC.nz.trans hS.nz⟩
 rw [heap_setCell_same _ _ _ _ _ _ ((hC.keep bt hB.lt (by show ¬c bt=3;rw [hB.lab];omega)).trans hB.row)]
 rfl
theorem X4b :(fun t=>NO t\/T t)=T:=funext fun t=>propext ⟨fun h=>h.elim False.elim id,.inr⟩
theorem V2.chg (h:V2 w c bt s) (hC:Chg T c c' w w') (hhi:∀ b,w'.heap.size<=b->c' b=0) (hT:∀ t,T t->t=14):V2 w' c' bt s:=by
 obtain ⟨V,h,hB⟩:=h
 have K:=h.kept hC hhi
 have n:∀ t,t≠14->¬(NO t\/T t):=fun t ht hh=>by
  rcases hh with hh|hh
  ·exact hh
  ·exact ht (hT t hh)
 exact ⟨V,⟨K.hi,fun _=>K.g (n _ ω),fun _=>K.n (n _ ω),fun i x hx=>by
  obtain ⟨lv,h1,h2,h3,h4⟩:=K.nn i x hx
  exact ⟨lv,h1,h2,h3,fun _=>h4 (n _ ω)⟩,fun _=>K.r (n _ ω),K.rr,fun _=>K.k (n _ ω),fun _=>K.cr (n _ ω),K.cl,fun _=>K.o (n _ ω),fun u l hl=>by
  obtain ⟨v,h1,h2⟩:=K.ol u l hl
  exact ⟨v,h1,fun _=>h2 (n _ ω)⟩,fun _=>K.b (n _ ω),fun u l hl=>by
  obtain ⟨v,h1,h2⟩:=K.bl u l hl
  exact ⟨v,h1,fun _=>h2 (n _ ω)⟩,fun _=>K.e (n _ ω),fun u l hl=>by
  obtain ⟨v,h1,h2⟩:=K.el u l hl
  exact ⟨v,h1,fun _=>h2 (n _ ω)⟩,K.f64,K.s64⟩,hB.keep hC (fun hh=>by have:=hT 1 hh;omega)⟩
