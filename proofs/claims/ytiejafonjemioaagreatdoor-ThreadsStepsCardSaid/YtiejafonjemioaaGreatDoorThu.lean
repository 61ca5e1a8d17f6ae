import Derived.Test.YtiejafonjemioaaGreatDoorTh4
import Derived.Test.YtiejafonjemioaaGreatDoorPly
set_option linter.all false
open Go renaming World→Ϣ,Value→ϒ,heap_setCell_same→ϡ
open Option renaming some→ς
open Bool renaming false→ϝ
open Go.Value renaming slice→σ
open Go.Obj renaming cells→χ
namespace Go.Proofs.YtiejafonjemioaaGreatDoor
open Go.RowKit
variable {α:Type} {e:TypeId} {w w' a d w1:Ϣ} {b B B' sz j size n tag cap u g bt t k:Nat} {v v' fv:ϒ} {l:List Int} {s:A3} {T T':Nat->Prop} {xs:List ϒ} {m:AV} {r:Rq} {E:Nat->Ϣ->Nat->Nat->α->Prop} {x y:α}
@[simp] theorem X9 {w:Ϣ} {b o c p:Nat} {x:ϒ} (h:¬b=c):(w.setCell (π c p) x).cell? (π b o)=w.cell? (π b o):=World.cell?_setCell_other _ _ _ _ (by simp;exact λe=>absurd e.symm h)
def Cb (w:Ϣ) (o:Obj):Below w w (w.alloc o).drew:=AG (AA w o) 1
def GB (b o j:Nat):((π b o):Addr).add j=(π b (o+j)):=by unfold Addr.add;split<;>simp_all
def Cy (w:Ϣ) (vs:Array ϒ) (T:TypeId) (j:Nat):(w.alloc (χ vs T)).drew.cell? (Addr.add (π w 0) j)=vs[j]?:=by
 rw [GB,Nat.zero_add];exact B6 w vs T j
abbrev A1:=Nat->Nat
def mask (w:Ϣ) (c:A1):Ϣ:={ w with heap:=w.heap.mapIdx λi o=>if c i=0 then o else χ #[] 0 (0,0) }
def Hk (w:Ϣ) (c:A1):(mask w c).heap.size=(w:Nat):=by simp [mask]
def GJ (w:Ϣ) (c:A1) (a:Addr):(mask w c).cell? a=if c a.block=0 then w.cell? a else none:=by
 unfold World.cell? mask;rw [Array.getElem?_mapIdx];cases h:w.heap[a.block]? with
 | none=>simp
 | some o=>
  by_cases b:c a.block=0
  .simp [b]
  .simp [b]
variable {c:A1}
def Jj (h:c b=0):(mask w c).heap[b]?=w.heap[b]?:=by
 simp [mask,Array.getElem?_mapIdx,h]
def JT (w w':Ϣ):Prop:=∀ a v,w.cell? a=ς v->w'.cell? a=ς v
def JT.mask (w:Ϣ) (c:A1):JT (mask w c) w:=λa v h=>by
 rw [GJ] at h;split at h
 .exact h
 .cases h
def JT.below (h:Below w w w'):JT w w':=λ_ _ a=>AB h a
def JT.trans {b c:Ϣ} (h:JT a b) (k:JT b c):JT a c:=λx v d=>k x v (h x v d)
def Tl {α:Type} (E:Nat->Ϣ->Nat->Nat->α->Prop):Prop:=∀ B B' w w' b o x,B<=B'->JT w w'->E B w b o x->E B' w' b o x
def AE.ups (g:Tl E) {l:List α} (f:B<=B') (j:JT w w') (h:AE B w sz (E B) v l):AE B' w' sz (E B') v l:=by
 obtain ⟨a,cap,rfl,c,d,e,h⟩:=h;refine ⟨a,cap,rfl,c,d,e,?_⟩;rcases h with h|⟨b,o,rfl,m,h⟩
 .exact .inl h
 .exact .inr ⟨b,o,rfl,ω,λi x k=>g _ _ _ _ _ _ _ f j (h i x k)⟩
def B5:Tl (λ_=>Aj):=λ_ _ _ _ _ _ _ _ a h=>⟨a _ _ h.1,h.2⟩
def WV:Tl (λ_=>FM):=λ_ _ _ _ _ _ _ _ a h=>⟨a _ _ h.1,a _ _ h.2.1,a _ _ h.2.2.1,a _ _ h.2.2.2.1,a _ _ h.2.2.2.2.1,h.2.2.2.2.2⟩
def Dx:Tl CK:=λ_ _ _ _ _ _ _ b a h=>by
 obtain ⟨c,d,⟨v,e,f⟩,⟨u,g,i⟩,j⟩:=h;exact ⟨a _ _ c,a _ _ d,⟨v,a _ _ e,f.ups B5 b a⟩,⟨u,a _ _ g,i.ups B5 b a⟩,j⟩
def WU:Tl GP:=λ_ _ _ _ _ _ _ f a h=>by
 obtain ⟨b,⟨v,c,d⟩,e⟩:=h;exact ⟨a _ _ b,⟨v,a _ _ c,d.ups B5 f a⟩,e⟩
def Hd:Tl DA:=λ_ _ _ _ _ _ _ f a h=>by
 obtain ⟨b,⟨v,c,d⟩,e⟩:=h;exact ⟨a _ _ b,⟨v,a _ _ c,d.ups B5 f a⟩,e⟩
def WT:Tl Ht:=λ_ _ _ _ _ _ _ e a h=>by
 obtain ⟨fv,b,c,d⟩:=h;exact ⟨fv,λj v f=>a _ _ (b j v f),c.ups Dx e a,d⟩
def Il (e:Tl E):Tl (λB=>Bg sz (E B) B):=λ_ _ _ _ _ _ _ d a h=>by
 obtain ⟨v,b,c⟩:=h;exact ⟨v,a _ _ b,c.ups e d a⟩
def CJ.ups (a:B<=B') (b:JT w w') (h:CJ B w v s):CJ B' w' v s:=by
 obtain ⟨g,r,x,t,e,u,d,f,i,j,k,l,m,n,o,p,q,c⟩:=h;exact ⟨g,r,x,t,e,u,d,f,i,j.ups B5 a b,k.ups WU a b,l.ups WT a b,m.ups B5 a b,n.ups (Il Hd) a b,o.ups (Il (E:=λ_=>FM) WV) a b,p.ups (Il (E:=λ_=>Aj) B5) a b,q.ups (Il (E:=λ_=>Aj) B5) a b,c⟩
structure AT (T:Nat->Prop) (c c':A1) (w w':Ϣ):Prop where
 os:w'.os=w.os
 tape:w'.tape=w.tape
 output:w'.output=w.output
 size:(w:Nat)<=w'
 kp:∀ b,b<(w:Nat)->¬T (c b)->w'.heap[b]?=w.heap[b]?
 old:∀ b,b<(w:Nat)->c' b=c b
 zero:¬T 0
def AT.ob (h:Below w w w') (a:¬T 0):AT T c c w w':=⟨h.os,h.tape,h.output,h.size,λb d _=>h.block b d,λ_ _=>rfl,a⟩
variable {c' c'':A1}
def AT.trans {b:Ϣ} (h:AT T c c' a b) (k:AT T c' c'' b d):AT T c c'' a d:=
 ⟨k.os.trans h.os,k.tape.trans h.tape,k.output.trans h.output,Nt h.size k.size,λi e f=>by
  rw [k.kp i (Nl e h.size) (by rw [h.old i e];exact f),h.kp i e f],λi e=>by rw [k.old i (Nl e h.size),h.old i e],h.zero⟩
def AT.mono (h:AT T c c' w w') (d:∀ t,T t->T' t) (a:¬T' 0):AT T' c c' w w':=⟨h.os,h.tape,h.output,h.size,λb e f=>h.kp b e (λg=>f (d _ g)),h.old,a⟩
def AT.aft {b:Ϣ} (h:AT T c' c'' b d) (k:AT T' c c' a b) (e:∀ t,T' t->T t:=by intro _ h;exact h.elim):AT T c c'' a d:=(k.mono e h.zero).trans h
def NZ (t:Nat):Prop:=t≠0/\t≠14
def Qx:¬NZ 0:=λh=>h.1 rfl
def Io:¬NZ 14:=λh=>h.2 rfl
def AT.nz (h:AT T c c' w w') (b:¬T 14:=by first|exact id|omega):AT NZ c c' w w':=h.mono (λt d=>⟨λa=>h.zero (a▸d),λa=>b (a▸d)⟩) Qx
def AT.below (h:AT T c c' w w') (d:∀ b,b<B->c b=0) (e:B<=w):Below B w w':=
 ⟨h.os,h.tape,h.output,h.size,λb a=>h.kp b ω (by rw [d b a];exact h.zero)⟩
def AT.low (h:AT T c c' w w') (d:∀ b,b<B->c b=0) (e:B<=w):∀ b,b<B->c' b=0:=λb a=>by rw [h.old b ω];exact d b a
def AT.sub (h:AT T c c' w w'):JT (mask w c) (mask w' c'):=λa v b=>by
 rw [GJ] at b ⊢;split at b
 .rename_i hc
  have d:=World.block_lt_of_cell? w a b;rw [if_pos (by rw [h.old _ d];exact hc),World.cell?_of_block (w:=w) (h.kp _ d (by rw [hc];exact h.zero))];exact b
 .cases b
def AT.cell (h:AT T c c' w w') {a:Addr} (b:w.cell? a=ς v) (d:¬T (c a.block)):w'.cell? a=ς v:=by
 rw [World.cell?_of_block (w:=w) (h.kp _ (World.block_lt_of_cell? w a b) d)];exact b
def AT.cd (h:AT T c c' w.drew w') {a:Addr} (d:w.cell? a=ς v) (b:¬T (c a.block)):w'.cell? a=ς v:=h.cell d b
def AT.frozen (h:AT T c c' w w') {a:Addr} (b:a.block<w) (e:w.frozen? a=ϝ) (d:¬T (c a.block)):w'.frozen? a=ϝ:=by
 rw [World.frozen?_of_block (w:=w) (h.kp _ b d)];exact e
def AT.set (h:T (c b)) (a:¬T 0):AT T c c w (w.setCell (π b j) v):=
 ⟨rfl,rfl,rfl,ψ,λk _ d=>heap_setCell_other _ _ _ _ (λe=>d (by rw [e];exact h)),λ_ _=>rfl,a⟩
def Ao (w:Ϣ) (c:A1) (tag:Nat) (e:TypeId) (sz:Nat) (v:ϒ) (n:Nat) (xs:List ϒ):Prop:=w.ownsRow 0 e sz v n xs/\(∀ b∈v.ownBlock.toList,c b=tag)/\n<=140737488355328
def Qy (h:w.ownsRow 0 e size v n xs):∀ b∈v.ownBlock.toList,b<(w:Nat):=λb a=>by
 rcases h.2 with ⟨rfl,_⟩|⟨g,cap,d,rfl,_,c,_⟩
 .simp [Value.ownBlock] at a
 .simp [Value.ownBlock] at a;subst a;exact (La c)
def JV (h:w.ownsRow 0 e size v n xs) (f:∀ b∈v.ownBlock.toList,w'.heap[b]?=w.heap[b]?):w'.ownsRow 0 e size v n xs:=by
 refine ⟨h.1,?_⟩;rcases h.2 with h|⟨g,cap,a,rfl,c,d,r⟩
 .exact .inl h
 .exact .inr ⟨g,cap,a,rfl,c,by rw [f g (by simp [Value.ownBlock])];exact d,r⟩
def Ao.kp (d:AT T c c' w w') (h:Ao w c tag e sz v n xs) (f:¬T tag):Ao w' c' tag e sz v n xs:=
 ⟨JV h.1 (λb a=>d.kp b (Qy h.1 b a) (by rw [h.2.1 b a];exact f)),λb a=>by rw [d.old b (Qy h.1 b a)];exact h.2.1 b a,h.2.2⟩
def Ao.nil (w:Ϣ) (c:A1) (tag:Nat) (e:TypeId) (sz:Nat):Ao w c tag e sz ν 0 []:=⟨World.ownsRow_nil _ _ _ _,by simp [Value.ownBlock],ω⟩
def Ao.form (h:Ao w c tag e sz v n xs):∃ a cap,v=σ a n cap/\n<=cap/\cap<=9223372036854775807:=by
 rcases h.1.2 with ⟨rfl,rfl⟩|⟨g,cap,f,rfl,_,_,b,d,_⟩
 .exact ⟨none,0,rfl,ω,ω⟩
 .exact ⟨_,cap,rfl,b,by unfold maxLen at d;omega⟩
def Ao.pos {a:Option Addr} (h:Ao w c tag e sz (σ a n cap) n xs) {u:ϒ} (m:xs[j]?=ς u) :
  ∃ g,a=ς (π g 0)/\c g=tag/\g<(w:Nat)/\(∀ (j:Nat) u,xs[j]?=ς u->w.cell? (π g j)=ς u)/\∀ j,w.frozen? (π g j)=ϝ:=by
 rcases h.1.2 with ⟨f,i⟩|⟨g,k,o,f,_,d,i,p,q,l⟩
 .subst i
  have:=h.1.1;simp at this;subst this;simp at m
 .obtain ⟨rfl,-,rfl⟩:a=ς (π g 0)/\True/\cap=k:=by simpa using f
  refine ⟨g,rfl,h.2.1 g (by simp [Value.ownBlock]),(La d),λj u b=>?_,λj=>Fz d⟩;rw [<-l,List.getElem?_take] at b;split at b
  .rw [cell_of_row _ _ _ _ _ _ d];simpa using b
  .cases b
def Ao.put (h:Ao w c tag e sz (σ (ς (π g 0)) n cap) n xs) (j:Nat) (u:ϒ):Ao (w.setCell (π g j) u) c tag e sz (σ (ς (π g 0)) n cap) n (xs.set j u):=
 ⟨(h.1.stored j u).1,h.2.1,h.2.2⟩
def Ao.reads {l:List α} {E:Ϣ->Nat->Nat->α->Prop} (h:Ao w c tag e sz v l.length xs) (p:∀ i x,l[i]?=ς x->∃ u,xs[i*sz]?=ς u)
  (f:∀ i x g,l[i]?=ς x->(∀ (j:Nat) u,xs[j]?=ς u->w.cell? (π g j)=ς u)->E w g (i*sz) x):AE w w sz E v l:=by
 obtain ⟨a,cap,rfl,b,d⟩:=h.form;refine ⟨a,cap,rfl,h.2.2,b,d,?_⟩;cases l with
 | nil=>exact .inl rfl
 | cons y l=>obtain ⟨u,o⟩:=p 0 y rfl;obtain ⟨g,rfl,_,m,k,_⟩:=h.pos o;exact .inr ⟨g,0,rfl,m,λi x n=>by rw [Nat.zero_add];exact f i x g n k⟩
def Dq (w:Ϣ) (c:A1) (tag:Nat) (v:ϒ) (l:List Int):Prop:=Ao w c tag 3 1 v l.length (l.map (Value.int .i64))/\∀ n∈l,in64 n
def Dq.kp (a:AT T c c' w w') (h:Dq w c tag v l) (b:¬T tag):Dq w' c' tag v l:=⟨h.1.kp a b,h.2⟩
def Dq.reads (h:Dq w c tag v l):AE w w 1 Aj v l:=
 h.1.reads (λi x a=>⟨_,by rw [Nat.mul_one,List.getElem?_map,a];rfl⟩) (λi x g a b=>⟨by rw [Nat.mul_one];exact b i _ (by rw [List.getElem?_map,a];rfl),h.2 x (Lm a)⟩)
def Dq.put (h:Dq w c tag (σ (ς (π g 0)) n cap) l) (a:n=l.length) (j:Nat) (v:Int) (b:in64 v):Dq (w.setCell (π g j) (ι v)) c tag (σ (ς (π g 0)) n cap) (l.set j v):=by
 subst a;refine ⟨?_,λn a=>?_⟩
 .have:=h.1.put j (ι v)
  rw [<-List.map_set] at this;simpa [Dq] using this
 .rcases List.mem_or_eq_of_mem_set a with a|rfl
  .exact h.2 n a
  .exact b
def Q9 (x:CD):Prop:=in64 x.X/\in64 x.V/\in64 x.C/\in64 x.N/\in64 x.more
def Dw (x:CD):List ϒ:=[ι x.X,ι x.V,ι x.C,ι x.N,ι x.more]
def Dk (l:List CD):List ϒ:=l.flatMap Dw
def Sb (l:List CD) (x:CD):Dk (l++[x])=Dk l++Dw x:=by simp [Dk]
def FU:∀ {l:List CD} {i:Nat} {x:CD} (_:l[i]?=ς x) (j:Nat) (v:ϒ),(Dw x)[j]?=ς v->(Dk l)[i*5+j]?=ς v
 | [],_,_,h,_,_,_=>by simp at h
 | y::l,0,x,h,j,v,hv=>by simp at h;subst h;have:Dk (y::l)=Dw y++Dk l:=rfl;rw [this,Nat.zero_mul,Nat.zero_add,Al ((Ll hv))];exact hv
 | y::l,i+1,x,h,j,v,hv=>by
  have:Dk (y::l)=Dw y++Dk l:=rfl;rw [this,Ar (by simp [Dw];omega)];have e:(i+1)*5+j - (Dw y).length=i*5+j:=by simp [Dw];omega
  rw [e];exact FU (by simpa using h) j v hv
def Hz (w:Ϣ) (c:A1) (tag:Nat) (v:ϒ) (l:List CD):Prop:=Ao w c tag 84 5 v l.length (Dk l)/\∀ x∈l,Q9 x
def Hz.kp (a:AT T c c' w w') {l:List CD} (h:Hz w c tag v l) (b:¬T tag):Hz w' c' tag v l:=⟨h.1.kp a b,h.2⟩
def Hz.reads {l:List CD} (h:Hz w c tag v l):AE w w 5 FM v l:=
 h.1.reads (λi x a=>⟨_,FU a 0 _ rfl⟩) (λi x g a b=>⟨b _ _ (FU a 0 _ rfl),b _ _ (FU a 1 _ rfl),b _ _ (FU a 2 _ rfl),b _ _ (FU a 3 _ rfl),b _ _ (FU a 4 _ rfl),h.2 x (Lm a)⟩)
def GC (m:AV):Prop:=m.Q.wf/\in64 m.Y/\in64 m.C/\in64 m.I
structure TV where
 gv:ϒ
 nv:ϒ
 rv:ϒ
 kv:ϒ
 cv:ϒ
 ov:ϒ
 bv:ϒ
 ev:ϒ
 nx:List ϒ
 rx:List ϒ
 cx:List ϒ
 ox:List ϒ
 bx:List ϒ
 ex:List ϒ
def Wq (V:TV) (s:A3):Array ϒ:=#[V.gv,V.nv,ι s.Y,V.rv,V.kv,V.cv,V.ov,V.bv,V.ev,ι s.U]
structure TK (T:Nat->Prop) (w:Ϣ) (c:A1) (s:A3) (V:TV):Prop where
 hi:∀ b,(w:Nat)<=b->c b=0
 g:¬T 2->Dq w c 2 V.gv s.M.G
 n:¬T 3->Ao w c 3 74 2 V.nv s.M.N.length V.nx
 nn:∀ (i:Nat) x,s.M.N[i]?=ς x->∃ lv,V.nx[i*2]?=ς (ι x.type)/\V.nx[i*2+1]?=ς lv/\in64 x.type/\(¬T (10+5*i)->Dq w c (10+5*i) lv x.f)
 r:¬T 4->Ao w c 4 51 9 V.rv s.R.length V.rx
 rr:∀ (t:Nat) m,s.R[t]?=ς m->∃ fv,(∀ (j:Nat) v,(FW fv m)[j]?=ς v->V.rx[t*9+j]?=ς v)/\AE w (mask w c) 4 (CK w) fv m.J/\GC m
 k:¬T 5->Dq w c 5 V.kv s.N
 cr:¬T 6->Ao w c 6 54 1 V.cv s.A.length V.cx
 cl:∀ (t:Nat) l,s.A[t]?=ς l->∃ v,V.cx[t]?=ς v/\AE w (mask w c) 2 (DA w) v l
 o:¬T 7->Ao w c 7 78 1 V.ov s.results.length V.ox
 ol:∀ (t:Nat) l,s.results[t]?=ς l->∃ v,V.ox[t]?=ς v/\(¬T (11+5*t)->Hz w c (11+5*t) v l)
 b:¬T 8->Ao w c 8 22 1 V.bv s.Z.length V.bx
 bl:∀ (t:Nat) l,s.Z[t]?=ς l->∃ v,V.bx[t]?=ς v/\(¬T (12+5*t)->Dq w c (12+5*t) v l)
 e:¬T 9->Ao w c 9 22 1 V.ev s.P.length V.ex
 el:∀ (t:Nat) l,s.P[t]?=ς l->∃ v,V.ex[t]?=ς v/\(¬T (13+5*t)->Dq w c (13+5*t) v l)
 f64:in64 s.Y
 s64:in64 s.U
def NO (_:Nat):Prop:=False
def no (t:Nat):¬NO t:=id
variable {V:TV}
def TK.kept (h:TK T w c s V) (a:AT T' c c' w w') (e:∀ b,(w':Nat)<=b->c' b=0):TK (λt=>T t\/T' t) w' c' s V:=by
 have f:=a.sub;have g:=a.size;refine ⟨e,λn=>(h.g (λk=>n (.inl k))).kp a (λk=>n (.inr k)),λn=>(h.n (λk=>n (.inl k))).kp a (λk=>n (.inr k)),λi x o=>?_,λn=>(h.r (λk=>n (.inl k))).kp a (λk=>n (.inr k)),λt m j=>?_,λn=>(h.k (λk=>n (.inl k))).kp a (λk=>n (.inr k)),λn=>(h.cr (λk=>n (.inl k))).kp a (λk=>n (.inr k)),λt l d=>?_,λn=>(h.o (λk=>n (.inl k))).kp a (λk=>n (.inr k)),λt l d=>?_,λn=>(h.b (λk=>n (.inl k))).kp a (λk=>n (.inr k)),λt l d=>?_,λn=>(h.e (λk=>n (.inl k))).kp a (λk=>n (.inr k)),λt l d=>?_,h.f64,h.s64⟩
 .obtain ⟨lv,h1,h2,h3,h4⟩:=h.nn i x o
  exact ⟨lv,h1,h2,h3,λn=>(h4 (λk=>n (.inl k))).kp a (λk=>n (.inr k))⟩
 .obtain ⟨fv,h1,h2,h3⟩:=h.rr t m j
  exact ⟨fv,h1,h2.ups Dx g f,h3⟩
 .obtain ⟨v,h1,h2⟩:=h.cl t l d
  exact ⟨v,h1,h2.ups Hd g f⟩
 .obtain ⟨v,h1,h2⟩:=h.ol t l d
  exact ⟨v,h1,λn=>(h2 (λk=>n (.inl k))).kp a (λk=>n (.inr k))⟩
 .obtain ⟨v,h1,h2⟩:=h.bl t l d
  exact ⟨v,h1,λn=>(h2 (λk=>n (.inl k))).kp a (λk=>n (.inr k))⟩
 .obtain ⟨v,h1,h2⟩:=h.el t l d
  exact ⟨v,h1,λn=>(h2 (λk=>n (.inl k))).kp a (λk=>n (.inr k))⟩
def TK.grow (h:TK NO w c s V) (a:Below w w w'):TK NO w' c s V:=by
 have:=h.kept (T':=NO) (AT.ob (c:=c) a (no 0)) (λb d=>h.hi b (Nt a.size d));exact cast (congrArg (λT=>TK T w' c s V) (funext λt=>propext ⟨λh=>h.elim id id,False.elim⟩)) this
def TK.reads (h:TK NO w c s V):CJ w w (.agg (Wq V s)) s:=by
 have f:=JT.mask w c;refine ⟨V.gv,V.nv,V.rv,V.kv,V.cv,V.ov,V.bv,V.ev,rfl,(h.g (no _)).reads,(h.n (no _)).reads (λi x e=>?_) (λi x g e b=>?_),(h.r (no _)).reads (λt m d=>?_) (λt m g d b=>?_),(h.k (no _)).reads,(h.cr (no _)).reads (λt l a=>?_) (λt l g a b=>?_),(h.o (no _)).reads (λt l a=>?_) (λt l g a b=>?_),(h.b (no _)).reads (λt l a=>?_) (λt l g a b=>?_),(h.e (no _)).reads (λt l a=>?_) (λt l g a b=>?_),h.f64,h.s64⟩
 .obtain ⟨lv,h1,_⟩:=h.nn i x e
  exact ⟨_,h1⟩
 .obtain ⟨lv,h1,h2,h3,h4⟩:=h.nn i x e
  exact ⟨b _ _ h1,⟨lv,b _ _ h2,(h4 (no _)).reads⟩,h3⟩
 .obtain ⟨fv,h1,_⟩:=h.rr t m d
  exact ⟨_,by simpa using h1 0 _ rfl⟩
 .obtain ⟨fv,h1,h2,h3⟩:=h.rr t m d
  exact ⟨fv,λj v k=>b _ _ (h1 j v k),h2.ups Dx (Nr _) f,h3⟩
 .obtain ⟨v,h1,_⟩:=h.cl t l a
  exact ⟨_,by rw [Nat.mul_one];exact h1⟩
 .obtain ⟨v,h1,h2⟩:=h.cl t l a
  exact ⟨v,by rw [Nat.mul_one];exact b _ _ h1,h2.ups Hd (Nr _) f⟩
 .obtain ⟨v,h1,_⟩:=h.ol t l a
  exact ⟨_,by rw [Nat.mul_one];exact h1⟩
 .obtain ⟨v,h1,h2⟩:=h.ol t l a
  exact ⟨v,by rw [Nat.mul_one];exact b _ _ h1,(h2 (no _)).reads⟩
 .obtain ⟨v,h1,_⟩:=h.bl t l a
  exact ⟨_,by rw [Nat.mul_one];exact h1⟩
 .obtain ⟨v,h1,h2⟩:=h.bl t l a
  exact ⟨v,by rw [Nat.mul_one];exact b _ _ h1,(h2 (no _)).reads⟩
 .obtain ⟨v,h1,_⟩:=h.el t l a
  exact ⟨_,by rw [Nat.mul_one];exact h1⟩
 .obtain ⟨v,h1,h2⟩:=h.el t l a
  exact ⟨v,by rw [Nat.mul_one];exact b _ _ h1,(h2 (no _)).reads⟩
structure JZ (w:Ϣ) (c:A1) (bt:Nat) (s:A3) (V:TV):Prop where
 row:w.heap[bt]?=ς (χ (Wq V s) 34 (0,0))
 lab:c bt=1
def JZ.kp (h:JZ w c bt s V) (a:AT T c c' w w') (b:¬T 1):JZ w' c' bt s V:=
 ⟨by rw [a.kp bt (La h.row) (by rw [h.lab];exact b)];exact h.row,by rw [a.old bt (La h.row)];exact h.lab⟩
def JZ.as {b:A3} {a:TV} (h:JZ w c bt s V) (d:Wq a b=Wq V s):JZ w c bt b a:=⟨by rw [d];exact h.row,h.lab⟩
def JZ.cell (h:JZ w c bt s V) (j:Nat) (a:(Wq V s)[j]?=ς v):w.cell? (π bt j)=ς v:=by
 rw [cell_of_row _ _ _ _ _ _ h.row];exact a
def JZ.frz (h:JZ w c bt s V) (j:Nat):w.frozen? (π bt j)=ϝ:=Fz h.row
def JZ.lt (h:JZ w c bt s V):bt<w:=(La h.row)
def FV {a d:Nat} (h:a≠b) (k:a≠d):¬((NO a\/a=b)\/a=d):=λx=>by
 rcases x with (x|x)|x
 .exact x
 .exact h x
 .exact k x
def DU {a:Nat} (h:a≠b):¬(NO a\/a=b):=λx=>by
 rcases x with x|x
 .exact x
 .exact h x
def Ut {l:List α} (h:(l.set t y)[u]?=ς x):(u=t/\x=y/\t<l.length)\/(u≠t/\l[u]?=ς x):=by
 rw [List.getElem?_set] at h;split at h
 .rename_i e
  split at h
  .left;cases h;exact ⟨e.symm,rfl,by assumption⟩
  .cases h
 .rename_i e;exact .inr ⟨λk=>e k.symm,h⟩
def NV {l:List α} {f:α->α} (a:l[t]?=ς y) (h:(l.modify t f)[u]?=ς x):(u=t/\x=f y)\/(u≠t/\l[u]?=ς x):=by
 rw [List.getElem?_modify] at h;by_cases e:t=u
 .subst e;rw [a] at h;left;simp at h;exact ⟨rfl,h.symm⟩
 .simp [e] at h;exact .inr ⟨λk=>e k.symm,h⟩
def Av {l:List α} (h:u≠t):(l.set t y)[u]?=l[u]?:=List.getElem?_set_ne (Ne.symm h)
def Li {l:List α} (h:l[t]?=ς x):(l.set t y)[t]?=ς y:=by simp [(Ll h)]
variable {c1:A1}
def TK.addO {l:List CD} {x:CD} (h:TK NO w c s V) (hl:s.results[t]?=ς l) (g:V.ov=σ (ς (π b 0)) n cap) (m:Ao w1 c1 (11+5*t) 84 5 v' (l.length+1) (Dk l++Dw x)) (C:AT (λk=>k=11+5*t) c c1 w w1) (j:∀ b,(w1:Nat)<=b->c1 b=0) (z:Q9 x) :
  TK NO (w1.setCell (π b t) v') c1 { s with results:=s.results.modify t (·++[x]) } { V with ox:=V.ox.set t v' }/\AT NZ c c1 w (w1.setCell (π b t) v'):=by
 obtain ⟨v,L,E⟩:=h.ol t l hl;have B:=h.kept C j;have o:=B.o (DU ω);have r:n=s.results.length:=by obtain ⟨N,O,e,_⟩:=o.form;rw [g] at e;cases e;rfl
 rw [g,<- r] at o;have F:=o.2.1 b (by simp [Value.ownBlock]);have p:AT (λk=>k=7) c1 c1 w1 (w1.setCell (π b t) v'):=AT.set F ω;have K:=B.kept p (λb J=>j b (by simpa using J));have A:=o.put t v';rw [r,show Value.slice (ς (π b 0)) s.results.length cap=V.ov by rw [g,r]] at A;have D:=Hz.kp p ⟨by rw [Sb,List.length_append];exact m,λy a=>by rcases List.mem_append.1 a with a|a;exact (E (no _)).2 y a;simp at a;subst a;exact z⟩ ω;refine ⟨⟨K.hi,λ_=>K.g (FV ω ω),
  λ_=>K.n (FV ω ω),
  λi x z=>by obtain ⟨M,d,f,H,I⟩:=K.nn i x z;exact ⟨M,d,f,H,λ_=>I (FV ω ω)⟩,
  λ_=>K.r (FV ω ω),
  K.rr,
  λ_=>K.k (FV ω ω),
  λ_=>K.cr (FV ω ω),
  K.cl,
  λ_=>by rw [List.length_modify];exact A,
  λu y a=>by
   rcases NV hl a with ⟨rfl,rfl⟩|⟨G,a⟩
   .exact ⟨v',Li L,λ_=>D⟩
   .obtain ⟨q,d,f⟩:=K.ol u y a
    exact ⟨q,by rw [Av G];exact d,λ_=>f (FV ω ω)⟩,
  λ_=>K.b (FV ω ω),
  λu l hl=>by obtain ⟨v,d,f⟩:=K.bl u l hl;exact ⟨v,d,λ_=>f (FV ω ω)⟩,
  λ_=>K.e (FV ω ω),
  λu l hl=>by
   obtain ⟨v,d,f⟩:=K.el u l hl;exact ⟨v,d,λ_=>f (FV ω ω)⟩,h.f64,h.s64⟩,C.nz.trans p.nz⟩
def TK.addB {x:Int} (h:TK NO w c s V) (hl:s.Z[t]?=ς l) (g:V.bv=σ (ς (π b 0)) n cap) (m:Ao w1 c1 (12+5*t) 3 1 v' (l.length+1) (l.map (Value.int .i64)++[ι x])) (C:AT (λk=>k=12+5*t) c c1 w w1) (j:∀ b,(w1:Nat)<=b->c1 b=0) (z:in64 x) :
  TK NO (w1.setCell (π b t) v') c1 { s with Z:=s.Z.modify t (·++[x]) } { V with bx:=V.bx.set t v' }/\AT NZ c c1 w (w1.setCell (π b t) v'):=by
 obtain ⟨v,L,E⟩:=h.bl t l hl;have B:=h.kept C j;have o:=B.b (DU ω);have r:n=s.Z.length:=by obtain ⟨N,O,e,_⟩:=o.form;rw [g] at e;cases e;rfl
 rw [g,<- r] at o;have F:=o.2.1 b (by simp [Value.ownBlock]);have p:AT (λk=>k=8) c1 c1 w1 (w1.setCell (π b t) v'):=AT.set F ω;have K:=B.kept p (λb J=>j b (by simpa using J));have A:=o.put t v';rw [r,show Value.slice (ς (π b 0)) s.Z.length cap=V.bv by rw [g,r]] at A;have D:Dq (w1.setCell (π b t) v') c1 (12+5*t) v' (l++[x]):=Dq.kp p ⟨by rw [List.map_append,List.length_append];exact m,λy a=>by rcases List.mem_append.1 a with a|a;exact (E (no _)).2 y a;simp at a;subst a;exact z⟩ ω;refine ⟨⟨K.hi,λ_=>K.g (FV ω ω),
  λ_=>K.n (FV ω ω),
  λi x z=>by obtain ⟨M,d,f,H,I⟩:=K.nn i x z;exact ⟨M,d,f,H,λ_=>I (FV ω ω)⟩,
  λ_=>K.r (FV ω ω),
  K.rr,
  λ_=>K.k (FV ω ω),
  λ_=>K.cr (FV ω ω),
  K.cl,
  λ_=>K.o (FV ω ω),
  λu l hl=>by obtain ⟨v,d,f⟩:=K.ol u l hl;exact ⟨v,d,λ_=>f (FV ω ω)⟩,
  λ_=>by rw [List.length_modify];exact A,
  λu y a=>by
   rcases NV hl a with ⟨rfl,rfl⟩|⟨G,a⟩
   .exact ⟨v',Li L,λ_=>D⟩
   .obtain ⟨q,d,f⟩:=K.bl u y a
    exact ⟨q,by rw [Av G];exact d,λ_=>f (FV ω ω)⟩,
  λ_=>K.e (FV ω ω),
  λu l hl=>by
   obtain ⟨v,d,f⟩:=K.el u l hl;exact ⟨v,d,λ_=>f (FV ω ω)⟩,h.f64,h.s64⟩,C.nz.trans p.nz⟩
def TK.addE {x:Int} (h:TK NO w c s V) (hl:s.P[t]?=ς l) (g:V.ev=σ (ς (π b 0)) n cap) (m:Ao w1 c1 (13+5*t) 3 1 v' (l.length+1) (l.map (Value.int .i64)++[ι x])) (C:AT (λk=>k=13+5*t) c c1 w w1) (j:∀ b,(w1:Nat)<=b->c1 b=0) (z:in64 x) :
  TK NO (w1.setCell (π b t) v') c1 { s with P:=s.P.modify t (·++[x]) } { V with ex:=V.ex.set t v' }/\AT NZ c c1 w (w1.setCell (π b t) v'):=by
 obtain ⟨v,L,E⟩:=h.el t l hl;have B:=h.kept C j;have o:=B.e (DU ω);have r:n=s.P.length:=by obtain ⟨N,O,e,_⟩:=o.form;rw [g] at e;cases e;rfl
 rw [g,<- r] at o;have F:=o.2.1 b (by simp [Value.ownBlock]);have p:AT (λk=>k=9) c1 c1 w1 (w1.setCell (π b t) v'):=AT.set F ω;have K:=B.kept p (λb J=>j b (by simpa using J));have A:=o.put t v';rw [r,show Value.slice (ς (π b 0)) s.P.length cap=V.ev by rw [g,r]] at A;have D:Dq (w1.setCell (π b t) v') c1 (13+5*t) v' (l++[x]):=Dq.kp p ⟨by rw [List.map_append,List.length_append];exact m,λy a=>by rcases List.mem_append.1 a with a|a;exact (E (no _)).2 y a;simp at a;subst a;exact z⟩ ω;refine ⟨⟨K.hi,λ_=>K.g (FV ω ω),
  λ_=>K.n (FV ω ω),
  λi x z=>by obtain ⟨M,d,f,H,I⟩:=K.nn i x z;exact ⟨M,d,f,H,λ_=>I (FV ω ω)⟩,
  λ_=>K.r (FV ω ω),
  K.rr,
  λ_=>K.k (FV ω ω),
  λ_=>K.cr (FV ω ω),
  K.cl,
  λ_=>K.o (FV ω ω),
  λu l hl=>by obtain ⟨v,d,f⟩:=K.ol u l hl;exact ⟨v,d,λ_=>f (FV ω ω)⟩,
  λ_=>K.b (FV ω ω),
  λu l hl=>by obtain ⟨v,d,f⟩:=K.bl u l hl;exact ⟨v,d,λ_=>f (FV ω ω)⟩,
  λ_=>by rw [List.length_modify];exact A,
  λu y a=>by
   rcases NV hl a with ⟨rfl,rfl⟩|⟨G,a⟩
   .exact ⟨v',Li L,λ_=>D⟩
   .obtain ⟨q,d,f⟩:=K.el u y a
    exact ⟨q,by rw [Av G];exact d,λ_=>f (FV ω ω)⟩,h.f64,h.s64⟩,C.nz.trans p.nz⟩
def put9 (xs:List ϒ) (k:Nat) (l:List ϒ):List ϒ:=(((((((((xs.set k (l.getD 0 undef)).set (k+1) (l.getD 1 undef)).set (k+2) (l.getD 2 undef)).set (k+3) (l.getD 3 undef)).set (k+4) (l.getD 4 undef)).set (k+5) (l.getD 5 undef)).set (k+6) (l.getD 6 undef)).set (k+7) (l.getD 7 undef)).set (k+8) (l.getD 8 undef))
def GK (w:Ϣ) (b k:Nat) (l:List ϒ):Ϣ:=((((((((w.setCell (π b k) (l.getD 0 undef)).setCell (π b (k+1)) (l.getD 1 undef)).setCell (π b (k+2)) (l.getD 2 undef)).setCell (π b (k+3)) (l.getD 3 undef)).setCell (π b (k+4)) (l.getD 4 undef)).setCell (π b (k+5)) (l.getD 5 undef)).setCell (π b (k+6)) (l.getD 6 undef)).setCell (π b (k+7)) (l.getD 7 undef)).setCell (π b (k+8)) (l.getD 8 undef)
def NT (h:(FW fv m)[j]?=ς v):j<9:=(Ll h)
def WD {l:List ϒ} (h:j<k\/k+9<=j):(put9 xs k l)[j]?=xs[j]?:=by
 unfold put9;rw [Av ω,Av ω,Av ω,Av ω,Av ω,Av ω,Av ω,Av ω,Av ω]
def WC (h:k+9<=xs.length) (j:Nat) (v:ϒ) (a:(FW fv m)[j]?=ς v):(put9 xs k (FW fv m))[k+j]?=ς v:=by
 have b:=NT a;unfold put9
 match j,a with
 | 0,a=>rw [Av ω,Av ω,Av ω,Av ω,Av ω,Av ω,Av ω,Av ω,Nat.add_zero,List.getElem?_set_self ω];cases a;rfl
 | 1,a=>rw [Av ω,Av ω,Av ω,Av ω,Av ω,Av ω,Av ω,List.getElem?_set_self φ];cases a;rfl
 | 2,a=>rw [Av ω,Av ω,Av ω,Av ω,Av ω,Av ω,List.getElem?_set_self φ];cases a;rfl
 | 3,a=>rw [Av ω,Av ω,Av ω,Av ω,Av ω,List.getElem?_set_self φ];cases a;rfl
 | 4,a=>rw [Av ω,Av ω,Av ω,Av ω,List.getElem?_set_self φ];cases a;rfl
 | 5,a=>rw [Av ω,Av ω,Av ω,List.getElem?_set_self φ];cases a;rfl
 | 6,a=>rw [Av ω,Av ω,List.getElem?_set_self φ];cases a;rfl
 | 7,a=>rw [Av ω,List.getElem?_set_self φ];cases a;rfl
 | 8,a=>rw [List.getElem?_set_self φ];cases a;rfl
def Ao.put9 (h:Ao w c tag e sz (σ (ς (π g 0)) n cap) n xs) (k:Nat) (l:List ϒ):Ao (GK w g k l) c tag e sz (σ (ς (π g 0)) n cap) n (Go.Proofs.YtiejafonjemioaaGreatDoor.put9 xs k l):=
 ((((((((h.put _ _).put _ _).put _ _).put _ _).put _ _).put _ _).put _ _).put _ _).put _ _
def XE {l:List ϒ} (h:T (c b)) (a:¬T 0):AT T c c w (GK w b k l):=
 (((((((AT.set h a).trans (AT.set h a)).trans (AT.set h a)).trans (AT.set h a)).trans (AT.set h a)).trans (AT.set h a)).trans (AT.set h a)).trans (AT.set h a) |>.trans (AT.set h a)
def QP (w:Ϣ) (b k:Nat) (l:List ϒ):(GK w b k l).heap.size=(w:Nat):=by simp [GK]
def TK.setR {m0:AV} (h:TK NO w c s V) (p:s.R[t]?=ς m0) (f:V.rv=σ (ς (π b 0)) n cap) (A:AE w (mask w c) 4 (CK w) fv m.J) (B:GC m) :
  TK NO (GK w b (t*9) (FW fv m)) c { s with R:=s.R.set t m } { V with rx:=put9 V.rx (t*9) (FW fv m) }/\AT NZ c c w (GK w b (t*9) (FW fv m)):=by
 have g:=h.r (no _);have y:n=s.R.length:=by obtain ⟨N,O,e,_⟩:=g.form;rw [f] at e;cases e;rfl
 rw [f,<- y] at g;have F:t<n:=by rw [y];exact (Ll p)
 have G:t*9+9<=V.rx.length:=by have:=g.1.1;omega
 have E:=g.2.1 b (by simp [Value.ownBlock]);have r:AT (λk=>k=4) c c w (GK w b (t*9) (FW fv m)):=XE E ω;have K:=h.kept r (λb D=>h.hi b (by rw [QP] at D;exact D));have C:=g.put9 (t*9) (FW fv m);rw [y,show Value.slice (ς (π b 0)) s.R.length cap=V.rv by rw [f,y]] at C;have J:=A.ups Dx r.size r.sub;refine ⟨⟨K.hi,λ_=>K.g (DU ω),
  λ_=>K.n (DU ω),
  λi x L=>by obtain ⟨M,a,d,H,I⟩:=K.nn i x L;exact ⟨M,a,d,H,λ_=>I (DU ω)⟩,
  λ_=>by rw [List.length_set];exact C,
  λu m p=>by
   rcases Ut p with ⟨rfl,rfl,F⟩|⟨P,p⟩
   .exact ⟨fv,λj v z=>WC G j v z,J,B⟩
   .obtain ⟨q,a,d⟩:=K.rr u m p
    exact ⟨q,λj v z=>by rw [WD (by have:=NT z;omega)];exact a j v z,d⟩,
  λ_=>K.k (DU ω),
  λ_=>K.cr (DU ω),
  K.cl,
  λ_=>K.o (DU ω),
  λu l o=>by obtain ⟨v,a,d⟩:=K.ol u l o;exact ⟨v,a,λ_=>d (DU ω)⟩,
  λ_=>K.b (DU ω),
  λu l o=>by obtain ⟨v,a,d⟩:=K.bl u l o;exact ⟨v,a,λ_=>d (DU ω)⟩,
  λ_=>K.e (DU ω),
  λu l o=>by
   obtain ⟨v,a,d⟩:=K.el u l o;exact ⟨v,a,λ_=>d (DU ω)⟩,h.f64,h.s64⟩,r.nz⟩
def TK.setK (t:Nat) (x:Int) (h:TK NO w c s V) (f:V.kv=σ (ς (π b 0)) n cap) (o:in64 x) :
  TK NO (w.setCell (π b t) (ι x)) c { s with N:=s.N.set t x } V/\AT NZ c c w (w.setCell (π b t) (ι x)):=by
 have j:=h.k (no _);have z:n=s.N.length:=by obtain ⟨B,C,e,_⟩:=j.1.form;rw [f] at e;cases e;rfl
 rw [f] at j;have m:=j.1.2.1 b (by simp [Value.ownBlock]);have q:AT (λk=>k=5) c c w (w.setCell (π b t) (ι x)):=AT.set m ω;have K:=h.kept q (λb m=>h.hi b (by simpa using m));have p:=j.put z t x o;rw [<-f] at p;refine ⟨⟨K.hi,λ_=>K.g (DU ω),
  λ_=>K.n (DU ω),
  λi x o=>by obtain ⟨A,a,d,r,y⟩:=K.nn i x o;exact ⟨A,a,d,r,λ_=>y (DU ω)⟩,
  λ_=>K.r (DU ω),
  K.rr,
  λ_=>p,
  λ_=>K.cr (DU ω),
  K.cl,
  λ_=>K.o (DU ω),
  λu l g=>by obtain ⟨v,a,d⟩:=K.ol u l g;exact ⟨v,a,λ_=>d (DU ω)⟩,
  λ_=>K.b (DU ω),
  λu l g=>by obtain ⟨v,a,d⟩:=K.bl u l g;exact ⟨v,a,λ_=>d (DU ω)⟩,
  λ_=>K.e (DU ω),
  λu l g=>by
   obtain ⟨v,a,d⟩:=K.el u l g;exact ⟨v,a,λ_=>d (DU ω)⟩,h.f64,h.s64⟩,q.nz⟩
def TK.setC {G z:List Bi} (h:TK NO w c s V) (E:s.A[t]?=ς G) (g:V.cv=σ (ς (π b 0)) n cap) (p:AE w (mask w c) 2 (DA w) v z) :
  TK NO (w.setCell (π b t) v) c { s with A:=s.A.set t z } { V with cx:=V.cx.set t v }/\AT NZ c c w (w.setCell (π b t) v):=by
 have j:=h.cr (no _);have r:n=s.A.length:=by obtain ⟨I,J,e,_⟩:=j.form;rw [g] at e;cases e;rfl
 rw [g,<- r] at j;have o:=j.2.1 b (by simp [Value.ownBlock]);have m:AT (λk=>k=6) c c w (w.setCell (π b t) v):=AT.set o ω;have K:=h.kept m (λb o=>h.hi b (by simpa using o));have y:=j.put t v;rw [r,show Value.slice (ς (π b 0)) s.A.length cap=V.cv by rw [g,r]] at y;have D:=p.ups Hd m.size m.sub;refine ⟨⟨K.hi,λ_=>K.g (DU ω),
  λ_=>K.n (DU ω),
  λi x F=>by obtain ⟨H,a,d,B,C⟩:=K.nn i x F;exact ⟨H,a,d,B,λ_=>C (DU ω)⟩,
  λ_=>K.r (DU ω),
  K.rr,
  λ_=>K.k (DU ω),
  λ_=>by rw [List.length_set];exact y,
  λu l f=>by
   rcases Ut f with ⟨rfl,rfl,L⟩|⟨A,f⟩
   .obtain ⟨q,a,_⟩:=h.cl _ _ E
    exact ⟨v,Li a,D⟩
   .obtain ⟨q,a,d⟩:=K.cl u l f
    exact ⟨q,by rw [Av A];exact a,d⟩,
  λ_=>K.o (DU ω),
  λu l f=>by obtain ⟨v,a,d⟩:=K.ol u l f;exact ⟨v,a,λ_=>d (DU ω)⟩,
  λ_=>K.b (DU ω),
  λu l f=>by obtain ⟨v,a,d⟩:=K.bl u l f;exact ⟨v,a,λ_=>d (DU ω)⟩,
  λ_=>K.e (DU ω),
  λu l f=>by
   obtain ⟨v,a,d⟩:=K.el u l f;exact ⟨v,a,λ_=>d (DU ω)⟩,h.f64,h.s64⟩,m.nz⟩
def Au (w:Ϣ) (c:A1) (bt:Nat) (s:A3):Prop:=∃ V,TK NO w c s V/\JZ w c bt s V
def Au.lab (h:Au w c bt s):c bt=1/\bt<w/\(∀ b,(w:Nat)<=b->c b=0)/\∀ j,w.frozen? (π bt j)=ϝ:=by
 obtain ⟨V,h,a⟩:=h;exact ⟨a.lab,a.lt,h.hi,a.frz⟩
def Au.grow (h:Au w c bt s) (a:Below w w w'):Au w' c bt s:=by
 obtain ⟨V,h,b⟩:=h;exact ⟨V,h.grow a,b.kp (AT.ob a (no 0)) (no 1)⟩
def Au.U (h:Au w c bt s):w.cell? (π bt 9)=ς (ι s.U)/\in64 s.U:=by
 obtain ⟨V,h,a⟩:=h;exact ⟨a.cell 9 rfl,h.s64⟩
def Au.Y (h:Au w c bt s):w.cell? (π bt 2)=ς (ι s.Y)/\in64 s.Y:=by
 obtain ⟨V,h,a⟩:=h;exact ⟨a.cell 2 rfl,h.f64⟩
def Au.setStep (n:Int) (h:Au w c bt s) (p:in64 n):Au (w.setCell (π bt 9) (ι n)) c bt { s with U:=n }/\AT NZ c c w (w.setCell (π bt 9) (ι n)):=by
 obtain ⟨V,h,f⟩:=h;have g:AT (λk=>k=1) c c w (w.setCell (π bt 9) (ι n)):=AT.set f.lab ω;have K:=h.kept g (λb o=>h.hi b (by simpa using o));refine ⟨⟨V,⟨K.hi,λ_=>K.g (DU ω),
  λ_=>K.n (DU ω),
  λi x q=>by obtain ⟨r,a,d,j,m⟩:=K.nn i x q;exact ⟨r,a,d,j,λ_=>m (DU ω)⟩,
  λ_=>K.r (DU ω),
  K.rr,
  λ_=>K.k (DU ω),
  λ_=>K.cr (DU ω),
  K.cl,
  λ_=>K.o (DU ω),
  λu l e=>by obtain ⟨v,a,d⟩:=K.ol u l e;exact ⟨v,a,λ_=>d (DU ω)⟩,
  λ_=>K.b (DU ω),
  λu l e=>by obtain ⟨v,a,d⟩:=K.bl u l e;exact ⟨v,a,λ_=>d (DU ω)⟩,
  λ_=>K.e (DU ω),
  λu l e=>by
   obtain ⟨v,a,d⟩:=K.el u l e;exact ⟨v,a,λ_=>d (DU ω)⟩,h.f64,p⟩,⟨?_,f.lab⟩⟩,g.nz⟩
 rw [ϡ _ _ _ _ _ _ f.row];rfl
def Au.viewO {l:List CD} (h:Au w c bt s) (hl:s.results[t]?=ς l) :
  ∃ a i d e,w.cell? (π bt 6)=ς (σ (ς (π a 0)) s.results i)/\w.cell? (π a t)=ς (σ d l e)/\c a=7/\a<w/\(∀ j,w.frozen? (π a j)=ϝ)/\Ao w c (11+5*t) 84 5 (σ d l e) l.length (Dk l)/\
   ∀ w1 c1 v' x,AT (λk=>k=11+5*t) c c1 w w1->(∀ b,w1.heap.size<=b->c1 b=0)->Ao w1 c1 (11+5*t) 84 5 v' (l.length+1) (Dk l++Dw x)->Q9 x->Au (w1.setCell (π a t) v') c1 bt { s with results:=s.results.modify t (·++[x]) }/\AT NZ c c1 w (w1.setCell (π a t) v'):=by
 obtain ⟨V,h,r⟩:=h;obtain ⟨v,u,m⟩:=h.ol t l hl;have g:=h.o (no _);obtain ⟨F,i,o,-⟩:=g.form;obtain ⟨d,e,rfl,-⟩:=(m (no _)).1.form;have n:=r.cell 6 (v:=V.ov) rfl;rw [o] at g n;obtain ⟨a,rfl,p,q,A,B⟩:=g.pos u;refine ⟨a,i,d,e,n,A t _ u,p,q,B,(m (no _)).1,λw1 c1 v' x f z y C=>?_⟩;obtain ⟨D,E⟩:=h.addO hl o y f z C;exact ⟨⟨_,D,((r.kp f ω).kp (T:=λk=>k=7) (AT.set (by rw [f.old a q];exact p) ω) ω).as rfl⟩,E⟩
def Au.viewB (h:Au w c bt s) (hl:s.Z[t]?=ς l) :
  ∃ a i d e,w.cell? (π bt 7)=ς (σ (ς (π a 0)) s.Z i)/\w.cell? (π a t)=ς (σ d l e)/\c a=8/\a<w/\(∀ j,w.frozen? (π a j)=ϝ)/\Ao w c (12+5*t) 3 1 (σ d l e) l.length (l.map (Value.int .i64))/\
   ∀ w1 c1 v' x,AT (λk=>k=12+5*t) c c1 w w1->(∀ b,w1.heap.size<=b->c1 b=0)->Ao w1 c1 (12+5*t) 3 1 v' (l.length+1) (l.map (Value.int .i64)++[ι x])->in64 x->Au (w1.setCell (π a t) v') c1 bt { s with Z:=s.Z.modify t (·++[x]) }/\AT NZ c c1 w (w1.setCell (π a t) v'):=by
 obtain ⟨V,h,r⟩:=h;obtain ⟨v,u,m⟩:=h.bl t l hl;have g:=h.b (no _);obtain ⟨F,i,o,-⟩:=g.form;obtain ⟨d,e,rfl,-⟩:=(m (no _)).1.form;have n:=r.cell 7 (v:=V.bv) rfl;rw [o] at g n;obtain ⟨a,rfl,p,q,A,B⟩:=g.pos u;refine ⟨a,i,d,e,n,A t _ u,p,q,B,(m (no _)).1,λw1 c1 v' x f z y C=>?_⟩;obtain ⟨D,E⟩:=h.addB hl o y f z C;exact ⟨⟨_,D,((r.kp f ω).kp (T:=λk=>k=8) (AT.set (by rw [f.old a q];exact p) ω) ω).as rfl⟩,E⟩
def Au.viewE (h:Au w c bt s) (hl:s.P[t]?=ς l) :
  ∃ a i d e,w.cell? (π bt 8)=ς (σ (ς (π a 0)) s.P i)/\w.cell? (π a t)=ς (σ d l e)/\c a=9/\a<w/\(∀ j,w.frozen? (π a j)=ϝ)/\Ao w c (13+5*t) 3 1 (σ d l e) l.length (l.map (Value.int .i64))/\
   ∀ w1 c1 v' x,AT (λk=>k=13+5*t) c c1 w w1->(∀ b,w1.heap.size<=b->c1 b=0)->Ao w1 c1 (13+5*t) 3 1 v' (l.length+1) (l.map (Value.int .i64)++[ι x])->in64 x->Au (w1.setCell (π a t) v') c1 bt { s with P:=s.P.modify t (·++[x]) }/\AT NZ c c1 w (w1.setCell (π a t) v'):=by
 obtain ⟨V,h,r⟩:=h;obtain ⟨v,u,m⟩:=h.el t l hl;have g:=h.e (no _);obtain ⟨F,i,o,-⟩:=g.form;obtain ⟨d,e,rfl,-⟩:=(m (no _)).1.form;have n:=r.cell 8 (v:=V.ev) rfl;rw [o] at g n;obtain ⟨a,rfl,p,q,A,B⟩:=g.pos u;refine ⟨a,i,d,e,n,A t _ u,p,q,B,(m (no _)).1,λw1 c1 v' x f z y C=>?_⟩;obtain ⟨D,E⟩:=h.addE hl o y f z C;exact ⟨⟨_,D,((r.kp f ω).kp (T:=λk=>k=9) (AT.set (by rw [f.old a q];exact p) ω) ω).as rfl⟩,E⟩
def Au.viewR (h:Au w c bt s) (hl:s.R[t]?=ς m) :
  ∃ d n e f,w.cell? (π bt 3)=ς (σ (ς (π d 0)) s.R n)/\(∀ (j:Nat) v,(FW (σ e m.J f) m)[j]?=ς v->w.cell? (π d (t*9+j))=ς v)/\c d=4/\d<w/\(∀ j,w.frozen? (π d j)=ϝ)/\AE w (mask w c) 4 (CK w) (σ e m.J f) m.J/\GC m/\
   ∀ g i,AE w (mask w c) 4 (CK w) i g.J->GC g->Au (GK w d (t*9) (FW i g)) c bt { s with R:=s.R.set t g }/\AT NZ c c w (GK w d (t*9) (FW i g)):=by
 obtain ⟨V,h,u⟩:=h;obtain ⟨fv,x,o,A⟩:=h.rr t m hl;have l:=h.r (no _);obtain ⟨H,n,q,-⟩:=l.form;obtain ⟨e,f,rfl⟩:∃ e f,fv=σ e m.J f:=by obtain ⟨a,b,rfl,_⟩:=o;exact ⟨a,b,rfl⟩
 have p:=u.cell 3 (v:=V.rv) rfl;rw [q] at l p;obtain ⟨d,rfl,r,B,C,D⟩:=l.pos (x 0 _ rfl);refine ⟨d,n,e,f,p,λj v E=>C _ _ (x j v E),r,B,D,o,A,λg i y z=>?_⟩;obtain ⟨F,G⟩:=h.setR hl q y z;exact ⟨⟨_,F,(u.kp (T:=λk=>k=4) (XE r ω) ω).as rfl⟩,G⟩
def Au.viewK {n:Int} (h:Au w c bt s) (hl:s.N[t]?=ς n) :
  ∃ a d,w.cell? (π bt 4)=ς (σ (ς (π a 0)) s.N d)/\w.cell? (π a t)=ς (ι n)/\c a=5/\a<w/\(∀ j,w.frozen? (π a j)=ϝ)/\in64 n/\
   ∀ x,in64 x->Au (w.setCell (π a t) (ι x)) c bt { s with N:=s.N.set t x }/\AT NZ c c w (w.setCell (π a t) (ι x)):=by
 obtain ⟨V,h,i⟩:=h;have b:=h.k (no _);obtain ⟨y,d,f,-⟩:=b.1.form;have e:=i.cell 4 (v:=V.kv) rfl;rw [f] at b e;obtain ⟨a,rfl,g,l,m,o⟩:=b.1.pos (j:=t) (u:=ι n) (by rw [List.getElem?_map,hl];rfl);refine ⟨a,d,e,m t _ (by rw [List.getElem?_map,hl];rfl),g,l,o,b.2 n (Lm hl),λx p=>?_⟩;obtain ⟨q,r⟩:=h.setK t x f p;exact ⟨⟨_,q,(i.kp (T:=λk=>k=5) (AT.set g ω) ω).as rfl⟩,r⟩
def Au.viewC {l:List Bi} (h:Au w c bt s) (hl:s.A[t]?=ς l) :
  ∃ d m e f,w.cell? (π bt 5)=ς (σ (ς (π d 0)) s.A m)/\w.cell? (π d t)=ς (σ e l f)/\c d=6/\d<w/\(∀ j,w.frozen? (π d j)=ϝ)/\AE w (mask w c) 2 (DA w) (σ e l f) l/\
   ∀ i v,AE w (mask w c) 2 (DA w) v i->Au (w.setCell (π d t) v) c bt { s with A:=s.A.set t i }/\AT NZ c c w (w.setCell (π d t) v):=by
 obtain ⟨V,h,r⟩:=h;obtain ⟨v,u,n⟩:=h.cl t l hl;have g:=h.cr (no _);obtain ⟨F,m,p,-⟩:=g.form;obtain ⟨e,f,rfl⟩:∃ y z,v=σ y l z:=by obtain ⟨a,b,rfl,_⟩:=n;exact ⟨a,b,rfl⟩
 have o:=r.cell 5 (v:=V.cv) rfl;rw [p] at g o;obtain ⟨d,rfl,q,A,B,C⟩:=g.pos u;refine ⟨d,m,e,f,o,B t _ u,q,A,C,n,λi v x=>?_⟩;obtain ⟨D,E⟩:=h.setC hl p x;exact ⟨⟨_,D,(r.kp (T:=λk=>k=6) (AT.set q ω) ω).as rfl⟩,E⟩
def XL:GC AI:=by unfold GC Rq.wf in64 AI;simp
def AE.none_ {E:Ϣ->Nat->Nat->α->Prop}:AE B w sz E ν ([]:List α):=⟨none,0,rfl,ψ,ψ,ω,.inl rfl⟩
def Au.viewRK {n:Int} (h:Au w c bt s) (C:s.R[t]?=ς m) (D:s.N[t]?=ς n) :
  ∃ d S f r g i,w.cell? (π bt 3)=ς (σ (ς (π d 0)) s.R S)/\w.cell? (π bt 4)=ς (σ (ς (π f 0)) s.N r)/\(∀ j,w.frozen? (π d j)=ϝ)/\(∀ j,w.frozen? (π f j)=ϝ)/\d<w/\f<w/\d≠f/\bt≠d/\(∀ (j:Nat) v,(FW (σ g m.J i) m)[j]?=ς v->w.cell? (π d (t*9+j))=ς v)/\w.cell? (π f t)=ς (ι n)/\
   Au ((GK w d (t*9) (FW ν AI)).setCell (π f t) (ι 0)) c bt { s with R:=s.R.set t AI,N:=s.N.set t 0 }/\AT NZ c c w ((GK w d (t*9) (FW ν AI)).setCell (π f t) (ι 0)):=by
 obtain ⟨V,h,o⟩:=h;obtain ⟨fv,E,F,U⟩:=h.rr t m C;have q:=h.r (no _);have p:=(h.k (no _)).1;obtain ⟨X,P,A,-⟩:=q.form;obtain ⟨W,r,z,-⟩:=p.form;have x:=o.cell 3 (v:=V.rv) rfl;have y:=o.cell 4 (v:=V.kv) rfl;rw [A] at q x;rw [z] at p y;obtain ⟨d,rfl,l,J,K,L⟩:=q.pos (E 0 _ rfl);obtain ⟨f,rfl,B,G,H,I⟩:=p.pos (j:=t) (u:=ι n) (by rw [List.getElem?_map,D];rfl);obtain ⟨N,O⟩:=h.setR (m:=AI) C A AE.none_ XL;obtain ⟨Q,R⟩:=N.setK t 0 z (by unfold in64;simp);obtain ⟨g,i,rfl⟩:∃ g i,fv=σ g m.J i:=by obtain ⟨a,b,rfl,_⟩:=F;exact ⟨a,b,rfl⟩
 exact ⟨d,P,f,r,g,i,x,y,L,I,J,G,λe=>(by rw [e,B] at l;cases l),λe=>(by have:=o.lab;rw [e,l] at this;cases this),λj v M=>K _ _ (E j v M),H t _ (by rw [List.getElem?_map,D];rfl),⟨_,Q,((o.kp (T:=λk=>k=4) (XE l ω) ω).kp (T:=λk=>k=5) (AT.set B ω) ω).as rfl⟩,O.trans R⟩
def Th (w:Ϣ) (bt:Nat) (r:Rq) (b:Nat):Prop:=(r.O=0/\∃ n k,w.cell? (π bt 0)=ς (σ (ς (π b 0)) n k))\/(1<=r.O/\∃ nb n k n2 k2,w.cell? (π bt 1)=ς (σ (ς (π nb 0)) n k)/\w.cell? (π nb ((r.O - 1).toNat*2+1))=ς (σ (ς (π b 0)) n2 k2))
def Th.kp (c:Below w w w') (h:Th w bt r b):Th w' bt r b:=by
 rcases h with ⟨h,n,k,a⟩|⟨h,g,n,k,f,e,a,d⟩
 .exact .inl ⟨h,n,k,AB c a⟩
 .exact .inr ⟨h,g,n,k,f,e,AB c a,AB c d⟩
def setM (m:Mm) (r:Rq) (x:Int):Mm:=if 0<r.O then { m with N:=m.N.modify (r.O - 1).toNat (λy=>Nm y r.D.toNat x) } else { m with G:=m.G.set r.D.toNat x }
def Au.viewG (h:Au w c bt s):∃ e i,w.cell? (π bt 0)=ς (σ e s.M.G i)/\∀ (j:Nat) v,s.M.G[j]?=ς v->∃ b,e=ς (π b 0)/\w.cell? (π b j)=ς (ι v)/\c b=2:=by
 obtain ⟨V,h,m⟩:=h;have a:=(h.g (no _)).1;obtain ⟨n,o,g,-⟩:=a.form;have d:=m.cell 0 (v:=V.gv) rfl;rw [g] at a d;refine ⟨n,o,d,λj v f=>?_⟩;obtain ⟨b,rfl,k,p,l,q⟩:=a.pos (j:=j) (u:=ι v) (by rw [List.getElem?_map,f];rfl);exact ⟨b,rfl,l j _ (by rw [List.getElem?_map,f];rfl),k⟩
def Au.viewN (h:Au w c bt s):∃ o C,w.cell? (π bt 1)=ς (σ o s.M.N C)/\∀ (i:Nat) x,s.M.N[i]?=ς x->∃ a d f,o=ς (π a 0)/\w.cell? (π a (i*2))=ς (ι x.type)/\w.cell? (π a (i*2+1))=ς (σ d x.f f)/\c a=3/\∀ (j:Nat) v,x.f[j]?=ς v->∃ b,d=ς (π b 0)/\w.cell? (π b j)=ς (ι v)/\c b=10+5*i:=by
 obtain ⟨V,h,y⟩:=h;have e:=h.n (no _);obtain ⟨D,E,p,-⟩:=e.form;have g:=y.cell 1 (v:=V.nv) rfl;rw [p] at e g;refine ⟨D,E,g,λi x z=>?_⟩;obtain ⟨K,n,A,J,B⟩:=h.nn i x z;obtain ⟨a,rfl,t,H,k,I⟩:=e.pos n;have l:=(B (no _)).1;obtain ⟨d,f,rfl,-⟩:=l.form;refine ⟨a,d,f,rfl,k _ _ n,k _ _ A,t,λj v m=>?_⟩;obtain ⟨b,rfl,q,F,r,G⟩:=l.pos (j:=j) (u:=ι v) (by rw [List.getElem?_map,m];rfl);exact ⟨b,rfl,r j _ (by rw [List.getElem?_map,m];rfl),q⟩
def Gm {m:Mm} (h:r.O=0):Bd m r=m.G:=by unfold Bd;rw [if_neg ω,if_neg ω]
def IJ {m:Mm} {x:Gl} (h:1<=r.O) (a:m.N[(r.O - 1).toNat]?=ς x):Bd m r=x.f:=by
 have:=(Ll a)
 unfold Bd;rw [if_neg ω,if_pos ω,a];rfl
def Jt {m:Mm} (h:1<=r.O) {f:Int} (b:0<=f) (hl:f<((Bd m r).length:Int)):∃ x,m.N[(r.O - 1).toNat]?=ς x:=by
 cases a:m.N[(r.O - 1).toNat]? with
 | some x=>exact ⟨x,rfl⟩
 | none=>
  exfalso;unfold Bd at hl;split at hl
  .simp at hl;omega
  .rw [if_pos ω,a] at hl;simp at hl;omega
def Au.put (h:Au w c bt s) (hp:Th w bt r b) (hf:0<=r.D) (hl:r.D<((Bd s.M r).length:Int)) :
  w.cell? (π b r.D.toNat)=ς (ι ((Bd s.M r).getD r.D.toNat 0))/\b<w/\w.frozen? (π b r.D.toNat)=ϝ/\in64 ((Bd s.M r).getD r.D.toNat 0)/\
   ∀ x,in64 x->Au (w.setCell (π b r.D.toNat) (ι x)) c bt { s with M:=setM s.M r x }/\AT NZ c c w (w.setCell (π b r.D.toNat) (ι x)):=by
 obtain ⟨V,h,C⟩:=h;rcases hp with ⟨B,n,k,a⟩|⟨B,nb,n,k,W,U,a,d⟩
 .rw [Gm B] at hl ⊢
  have f:=h.g (no _);obtain ⟨v,g⟩:∃ v,s.M.G[r.D.toNat]?=ς v:=⟨_,Lg ω⟩
  have R:=C.cell 0 (v:=V.gv) rfl;rw [a] at R;have e:V.gv=σ (ς (π b 0)) n k:=by simpa using R.symm
  obtain ⟨oa,oc,G,-⟩:=f.1.form;have D:n=s.M.G.length:=by rw [G] at e;cases e;rfl
  have Q:=f.1;rw [e,D] at Q;obtain ⟨Y,o,A,H,I,J⟩:=Q.pos (j:=r.D.toNat) (u:=ι v) (by rw [List.getElem?_map,g];rfl);cases o;rw [List.getD_eq_getElem?_getD,g];refine ⟨I _ _ (by rw [List.getElem?_map,g];rfl),H,J _,f.2 v (Lm g),λx t=>?_⟩;have m:AT (λk=>k=2) c c w (w.setCell (π b r.D.toNat) (ι x)):=AT.set A ω;have K:=h.kept m (λb L=>h.hi b (by simpa using L));rw [e] at f;have z:=f.put D r.D.toNat x t;rw [<-e] at z;have F:setM s.M r x={ s.M with G:=s.M.G.set r.D.toNat x }:=by unfold setM;rw [if_neg ω]
  rw [F];exact ⟨⟨V,⟨K.hi,λ_=>z,
   λ_=>K.n (DU ω),
   λi x t=>by
   obtain ⟨N,a,d,h3,h4⟩:=K.nn i x t;exact ⟨N,a,d,h3,λ_=>h4 (DU ω)⟩,
   λ_=>K.r (DU ω),
   K.rr,
   λ_=>K.k (DU ω),
   λ_=>K.cr (DU ω),
   K.cl,
   λ_=>K.o (DU ω),
   λu l hl=>by
   obtain ⟨v,a,d⟩:=K.ol u l hl;exact ⟨v,a,λ_=>d (DU ω)⟩,
   λ_=>K.b (DU ω),
   λu l hl=>by
   obtain ⟨v,a,d⟩:=K.bl u l hl;exact ⟨v,a,λ_=>d (DU ω)⟩,
   λ_=>K.e (DU ω),
   λu l hl=>by
   obtain ⟨v,a,d⟩:=K.el u l hl;exact ⟨v,a,λ_=>d (DU ω)⟩,h.f64,h.s64⟩,(C.kp m ω).as rfl⟩,m.nz⟩
 .obtain ⟨x1,aB⟩:=Jt B hf hl
  rw [IJ B aB] at hl ⊢;obtain ⟨N,T,E,j3,j4⟩:=h.nn _ _ aB;have f:=h.n (no _);have S:=C.cell 1 (v:=V.nv) rfl;rw [a] at S;have e:V.nv=σ (ς (π nb 0)) n k:=by simpa using S.symm
  obtain ⟨oa,oc,G,-⟩:=f.form;have D:n=s.M.N.length:=by rw [G] at e;cases e;rfl
  rw [e,D] at f;obtain ⟨aH,o,f1,f2,f3,f4⟩:=f.pos E;cases o;have P:=f3 _ _ E;rw [d] at P;have X:N=σ (ς (π b 0)) W U:=by simpa using P.symm
  subst X;obtain ⟨v,g⟩:∃ v,x1.f[r.D.toNat]?=ς v:=⟨_,Lg ω⟩
  have p:=j4 (no _);obtain ⟨la,lc,Z,-⟩:=p.1.form;obtain ⟨rfl,rfl,rfl⟩:ς ((π b 0):Addr)=la/\W=x1.f.length/\U=lc:=by simpa using Z
  obtain ⟨Y,o,A,H,I,J⟩:=p.1.pos (j:=r.D.toNat) (u:=ι v) (by rw [List.getElem?_map,g];rfl);cases o;rw [List.getD_eq_getElem?_getD,g];refine ⟨I _ _ (by rw [List.getElem?_map,g];rfl),H,J _,p.2 v (Lm g),λx t=>?_⟩;obtain ⟨i,O⟩:=ε ((r.O - 1).toNat);rw [<-O] at T E A aB p;have m:AT (λk=>k=10+5*i) c c w (w.setCell (π b r.D.toNat) (ι x)):=AT.set A ω;have K:=h.kept m (λb L=>h.hi b (by simpa using L));have z:=p.put rfl r.D.toNat x t;have F:setM s.M r x={ s.M with N:=s.M.N.modify i (λy=>Nm y r.D.toNat x) }:=by unfold setM;rw [if_pos ω,O]
  rw [F];exact ⟨⟨V,⟨K.hi,λ_=>K.g (DU ω),
   λ_=>by rw [List.length_modify];exact K.n (DU ω),
   λu y M=>by
    rcases NV aB M with ⟨rfl,rfl⟩|⟨aG,M⟩
    .exact ⟨_,T,E,j3,λ_=>by simpa [Nm] using z⟩
    .obtain ⟨q,q1,q2,q3,q4⟩:=K.nn u y M
     exact ⟨q,q1,q2,q3,λ_=>q4 (DU ω)⟩,
   λ_=>K.r (DU ω),
   K.rr,
   λ_=>K.k (DU ω),
   λ_=>K.cr (DU ω),
   K.cl,
   λ_=>K.o (DU ω),
   λu l hl=>by
   obtain ⟨v,a,d⟩:=K.ol u l hl;exact ⟨v,a,λ_=>d (DU ω)⟩,
   λ_=>K.b (DU ω),
   λu l hl=>by
   obtain ⟨v,a,d⟩:=K.bl u l hl;exact ⟨v,a,λ_=>d (DU ω)⟩,
   λ_=>K.e (DU ω),
   λu l hl=>by
   obtain ⟨v,a,d⟩:=K.el u l hl;exact ⟨v,a,λ_=>d (DU ω)⟩,h.f64,h.s64⟩,(C.kp m ω).as rfl⟩,m.nz⟩
def Au.viewA (h:Au w c bt s):∃ D E nx,w.cell? (π bt 1)=ς (σ D s.M.N E)/\Ao w c 3 74 2 (σ D s.M.N E) s.M.N.length nx/\
  ∀ w1 c1 d a n (x:Gl) v',AT NO c c1 w w1->(∀ b,(w1:Nat)<=b->c1 b=0)->Dq w1 c1 (10+5*s.M.N.length) n x.f->in64 x.type->AT (λk=>k=3) c1 a w1 d->(∀ b,(d:Nat)<=b->a b=0)->Ao d a 3 74 2 v' (s.M.N.length+1) (nx++[ι x.type,n])->
   Au (d.setCell (π bt 1) v') a bt { s with M:={ s.M with N:=s.M.N++[x] } }/\AT NZ c a w (d.setCell (π bt 1) v'):=by
 obtain ⟨V,h,f⟩:=h;have r:=h.n (no _);obtain ⟨O,P,I,-⟩:=r.form;have C:=f.cell 1 (v:=V.nv) rfl;have B:=r.1.1;rw [I] at r C;refine ⟨O,P,V.nx,C,r,λw1 c1 d a n x v' H U J G t A L=>?_⟩;have o:=t.aft H;have z:a bt=1:=by rw [o.old bt f.lt];exact f.lab
 have p:AT (λk=>k=1) a a d (d.setCell (π bt 1) v'):=AT.set z ω;have K:=(h.kept o A).kept p (λb M=>A b (by simpa using M));have F:=(J.kp t ω).kp p ω;refine ⟨⟨{ V with nv:=v',nx:=V.nx++[ι x.type,n] },⟨K.hi,λ_=>K.g (FV ω ω),
  λ_=>by rw [List.length_append];exact L.kp p ω,
  λi y e=>by
   by_cases N:i<s.M.N.length
   .rw [Al N] at e
    obtain ⟨q,Q,R,S,T⟩:=K.nn i y e;exact ⟨q,by rw [Al ω];exact Q,by rw [Al ω];exact R,S,λ_=>T (FV ω ω)⟩
   .obtain ⟨rfl,rfl⟩:i=s.M.N.length/\y=x:=by
     rw [Ar ω] at e;have:i - s.M.N.length=0:=by have:=(Ll e);simp at this;omega
     rw [this] at e;simp at e;exact ⟨ω,e.symm⟩
    exact ⟨n,by rw [Ar ω,B,Nat.sub_self];rfl,by rw [Ar ω,B,Nat.add_sub_cancel_left];rfl,G,λ_=>F⟩,
  λ_=>K.r (FV ω ω),
  K.rr,
  λ_=>K.k (FV ω ω),
  λ_=>K.cr (FV ω ω),
  K.cl,
  λ_=>K.o (FV ω ω),
  λu l m=>by obtain ⟨v,g,j⟩:=K.ol u l m;exact ⟨v,g,λ_=>j (FV ω ω)⟩,
  λ_=>K.b (FV ω ω),
  λu l m=>by obtain ⟨v,g,j⟩:=K.bl u l m;exact ⟨v,g,λ_=>j (FV ω ω)⟩,
  λ_=>K.e (FV ω ω),
  λu l m=>by
   obtain ⟨v,g,j⟩:=K.el u l m;exact ⟨v,g,λ_=>j (FV ω ω)⟩,h.f64,h.s64⟩,⟨?_,z⟩⟩,o.nz.trans p.nz⟩
 rw [ϡ _ _ _ _ _ _ ((o.kp bt f.lt (by show ¬c bt=3;rw [f.lab];omega)).trans f.row)];rfl
def Xk :(λt=>NO t\/T t)=T:=funext λt=>propext ⟨λh=>h.elim False.elim id,.inr⟩
def Au.chg (h:Au w c bt s) (j:AT T c c' w w') (g:∀ b,(w':Nat)<=b->c' b=0) (k:∀ t,T t->t=14):Au w' c' bt s:=by
 obtain ⟨V,h,p⟩:=h;have K:=h.kept j g;have n:∀ t,t≠14->¬(NO t\/T t):=λt q e=>by
  rcases e with e|e
  .exact e
  .exact q (k t e)
 exact ⟨V,⟨K.hi,λ_=>K.g (n _ ω),λ_=>K.n (n _ ω),λi x r=>by
  obtain ⟨y,a,d,m,o⟩:=K.nn i x r;exact ⟨y,a,d,m,λ_=>o (n _ ω)⟩,λ_=>K.r (n _ ω),K.rr,λ_=>K.k (n _ ω),λ_=>K.cr (n _ ω),K.cl,λ_=>K.o (n _ ω),λu l f=>by
  obtain ⟨v,a,d⟩:=K.ol u l f;exact ⟨v,a,λ_=>d (n _ ω)⟩,λ_=>K.b (n _ ω),λu l f=>by
  obtain ⟨v,a,d⟩:=K.bl u l f;exact ⟨v,a,λ_=>d (n _ ω)⟩,λ_=>K.e (n _ ω),λu l f=>by
  obtain ⟨v,a,d⟩:=K.el u l f;exact ⟨v,a,λ_=>d (n _ ω)⟩,K.f64,K.s64⟩,p.kp j (λe=>by have:=k 1 e;omega)⟩
