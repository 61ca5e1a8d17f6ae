import Derived.Test.YtigbfkiddlhhjaaGreatDoorTh4
import Derived.Test.YtigbfkiddlhhjaaGreatDoorPly
import Derived.Test.YtigbfkiddlhhjaaGreatDoorReg
set_option linter.all false
open Go renaming World→Ϣ,Value→ϒ
open Option renaming some→ς
open Go.Value renaming slice→σ
open Go.Obj renaming cells→χ
namespace Go.Proofs.YtigbfkiddlhhjaaGreatDoor
open Go.RowKit
variable {α:Type} {e:TypeId} {w w' a d:Ϣ} {b B sz j size n tag cap g:Nat} {v:ϒ} {l:List Int} {T T':Nat->Prop} {xs:List ϒ} {m:Mm} {r:Rq} {E:Nat->Ϣ->Nat->Nat->α->Prop}
@[simp] theorem X9 {w:Ϣ} {b o c p:Nat} {x:ϒ} (h:¬b=c):(w.setCell (π c p) x).cell? (π b o)=w.cell? (π b o):=World.cell?_setCell_other _ _ _ _ (by simp;exact λe=>absurd e.symm h)
def Cb (w:Ϣ) (o:Obj):Below w w (w.alloc o).drew:=AG (AA w o) 1
def GB (b o j:Nat):((π b o):Addr).add j=(π b (o+j)):=by unfold Addr.add;split<;>simp_all
abbrev A1:=Nat->Nat
def mask (w:Ϣ) (c:A1):Ϣ:={ w with heap:=w.heap.mapIdx λi o=>if c i=0 then o else χ #[] 0 (0,0) }
def Hk (w:Ϣ) (c:A1):(mask w c).heap.size=(w:Nat):=by simp [mask]
def GJ (w:Ϣ) (c:A1) (a:Addr):(mask w c).cell? a=if c a.block=0 then w.cell? a else none:=by
 unfold World.cell? mask;rw [Array.getElem?_mapIdx];cases h:w.heap[a.block]? with
 | none=>simp
 | some o=>
  by_cases b:c a.block=0
  .simp [b]
  .simp [b]
variable {c:A1}
def Jj (h:c b=0):(mask w c).heap[b]?=w.heap[b]?:=by
 simp [mask,Array.getElem?_mapIdx,h]
def JT (w w':Ϣ):Prop:=∀ a v,w.cell? a=ς v->w'.cell? a=ς v
def JT.mask (w:Ϣ) (c:A1):JT (mask w c) w:=λa v h=>by
 rw [GJ] at h;split at h
 .exact h
 .cases h
def JT.below (h:Below w w w'):JT w w':=λ_ _ a=>AB h a
def JT.trans {b c:Ϣ} (h:JT a b) (k:JT b c):JT a c:=λx v d=>k x v (h x v d)
def Tl {α:Type} (E:Nat->Ϣ->Nat->Nat->α->Prop):Prop:=∀ B B' w w' b o x,B<=B'->JT w w'->E B w b o x->E B' w' b o x
def AE.ups (j:Tl E) {c:Nat} {l:List α} (g:B<=c) (k:JT w w') (h:AE B w sz (E B) v l):AE c w' sz (E c) v l:=by
 obtain ⟨a,cap,rfl,d,e,f,h⟩:=h;refine ⟨a,cap,rfl,d,e,f,?_⟩;rcases h with h|⟨b,o,rfl,n,h⟩
 .exact .inl h
 .exact .inr ⟨b,o,rfl,ω,λi x m=>j _ _ _ _ _ _ _ g k (h i x m)⟩
def B5:Tl (λ_=>Aj):=λ_ _ _ _ _ _ _ _ a h=>⟨a _ _ h.1,h.2⟩
def WV:Tl (λ_=>FM):=λ_ _ _ _ _ _ _ _ a h=>⟨a _ _ h.1,a _ _ h.2.1,a _ _ h.2.2.1,a _ _ h.2.2.2.1,a _ _ h.2.2.2.2.1,h.2.2.2.2.2⟩
def Dx:Tl CK:=λ_ _ _ _ _ _ _ b a h=>by
 obtain ⟨c,d,⟨v,e,f⟩,⟨u,g,i⟩,j⟩:=h;exact ⟨a _ _ c,a _ _ d,⟨v,a _ _ e,f.ups B5 b a⟩,⟨u,a _ _ g,i.ups B5 b a⟩,j⟩
def WU:Tl GP:=λ_ _ _ _ _ _ _ f a h=>by
 obtain ⟨b,⟨v,c,d⟩,e⟩:=h;exact ⟨a _ _ b,⟨v,a _ _ c,d.ups B5 f a⟩,e⟩
def Hd:Tl DA:=λ_ _ _ _ _ _ _ f a h=>by
 obtain ⟨b,⟨v,c,d⟩,e⟩:=h;exact ⟨a _ _ b,⟨v,a _ _ c,d.ups B5 f a⟩,e⟩
def WT:Tl Ht:=λ_ _ _ _ _ _ _ f a h=>by
 obtain ⟨b,c,d,e⟩:=h;exact ⟨b,λj v g=>a _ _ (c j v g),d.ups Dx f a,e⟩
def Il (e:Tl E):Tl (λB=>Bg sz (E B) B):=λ_ _ _ _ _ _ _ d a h=>by
 obtain ⟨v,b,c⟩:=h;exact ⟨v,a _ _ b,c.ups e d a⟩
structure AT (T:Nat->Prop) (c c':A1) (w w':Ϣ):Prop where
 os:w'.os=w.os
 tape:w'.tape=w.tape
 output:w'.output=w.output
 size:(w:Nat)<=w'
 kp:∀ b,b<(w:Nat)->¬T (c b)->w'.heap[b]?=w.heap[b]?
 old:∀ b,b<(w:Nat)->c' b=c b
 zero:¬T 0
def AT.ob (h:Below w w w') (a:¬T 0):AT T c c w w':=⟨h.os,h.tape,h.output,h.size,λb d _=>h.block b d,λ_ _=>rfl,a⟩
variable {c' c'':A1}
def AT.trans {b:Ϣ} (h:AT T c c' a b) (k:AT T c' c'' b d):AT T c c'' a d:=
 ⟨k.os.trans h.os,k.tape.trans h.tape,k.output.trans h.output,Nt h.size k.size,λi e f=>by
  rw [k.kp i (Nl e h.size) (by rw [h.old i e];exact f),h.kp i e f],λi e=>by rw [k.old i (Nl e h.size),h.old i e],h.zero⟩
def AT.mono (h:AT T c c' w w') (d:∀ t,T t->T' t) (a:¬T' 0):AT T' c c' w w':=⟨h.os,h.tape,h.output,h.size,λb e f=>h.kp b e (λg=>f (d _ g)),h.old,a⟩
def AT.aft {b:Ϣ} (h:AT T c' c'' b d) (k:AT T' c c' a b) (e:∀ t,T' t->T t:=by intro _ h;exact h.elim):AT T c c'' a d:=(k.mono e h.zero).trans h
def NZ (t:Nat):Prop:=t≠0/\t≠14
def Qx:¬NZ 0:=λh=>h.1 rfl
def Io:¬NZ 14:=λh=>h.2 rfl
def AT.nz (h:AT T c c' w w') (b:¬T 14:=by first|exact id|omega):AT NZ c c' w w':=h.mono (λt d=>⟨λa=>h.zero (a▸d),λa=>b (a▸d)⟩) Qx
def AT.below (h:AT T c c' w w') (d:∀ b,b<B->c b=0) (e:B<=w):Below B w w':=
 ⟨h.os,h.tape,h.output,h.size,λb a=>h.kp b ω (by rw [d b a];exact h.zero)⟩
def AT.low (h:AT T c c' w w') (d:∀ b,b<B->c b=0) (e:B<=w):∀ b,b<B->c' b=0:=λb a=>by rw [h.old b ω];exact d b a
def AT.sub (h:AT T c c' w w'):JT (mask w c) (mask w' c'):=λa v b=>by
 rw [GJ] at b ⊢;split at b
 .rename_i hc
  have d:=World.block_lt_of_cell? w a b;rw [if_pos (by rw [h.old _ d];exact hc),World.cell?_of_block (w:=w) (h.kp _ d (by rw [hc];exact h.zero))];exact b
 .cases b
def AT.cell (h:AT T c c' w w') {a:Addr} (b:w.cell? a=ς v) (d:¬T (c a.block)):w'.cell? a=ς v:=by
 rw [World.cell?_of_block (w:=w) (h.kp _ (World.block_lt_of_cell? w a b) d)];exact b
def AT.cd (h:AT T c c' w.drew w') {a:Addr} (d:w.cell? a=ς v) (b:¬T (c a.block)):w'.cell? a=ς v:=h.cell d b
def AT.frozen (h:AT T c c' w w') {a:Addr} (b:a.block<w) (e:w.frozen? a=false) (d:¬T (c a.block)):w'.frozen? a=false:=by
 rw [World.frozen?_of_block (w:=w) (h.kp _ b d)];exact e
def AT.set (h:T (c b)) (a:¬T 0):AT T c c w (w.setCell (π b j) v):=
 ⟨rfl,rfl,rfl,ψ,λk _ d=>heap_setCell_other _ _ _ _ (λe=>d (by rw [e];exact h)),λ_ _=>rfl,a⟩
def Ao (w:Ϣ) (c:A1) (tag:Nat) (e:TypeId) (sz:Nat) (v:ϒ) (n:Nat) (xs:List ϒ):Prop:=w.ownsRow 0 e sz v n xs/\(∀ b∈v.ownBlock.toList,c b=tag)/\n<=140737488355328
def Qy (h:w.ownsRow 0 e size v n xs):∀ b∈v.ownBlock.toList,b<(w:Nat):=λb a=>by
 rcases h.2 with ⟨rfl,_⟩|⟨g,cap,d,rfl,_,c,_⟩
 .simp [Value.ownBlock] at a
 .simp [Value.ownBlock] at a;subst a;exact (La c)
def JV (h:w.ownsRow 0 e size v n xs) (f:∀ b∈v.ownBlock.toList,w'.heap[b]?=w.heap[b]?):w'.ownsRow 0 e size v n xs:=by
 refine ⟨h.1,?_⟩;rcases h.2 with h|⟨g,cap,a,rfl,c,d,r⟩
 .exact .inl h
 .exact .inr ⟨g,cap,a,rfl,c,by rw [f g (by simp [Value.ownBlock])];exact d,r⟩
def Ao.kp (d:AT T c c' w w') (h:Ao w c tag e sz v n xs) (f:¬T tag):Ao w' c' tag e sz v n xs:=
 ⟨JV h.1 (λb a=>d.kp b (Qy h.1 b a) (by rw [h.2.1 b a];exact f)),λb a=>by rw [d.old b (Qy h.1 b a)];exact h.2.1 b a,h.2.2⟩
def Ao.nil (w:Ϣ) (c:A1) (tag:Nat) (e:TypeId) (sz:Nat):Ao w c tag e sz ν 0 []:=⟨World.ownsRow_nil _ _ _ _,by simp [Value.ownBlock],ω⟩
def Ao.form (h:Ao w c tag e sz v n xs):∃ a cap,v=σ a n cap/\n<=cap/\cap<=9223372036854775807:=by
 rcases h.1.2 with ⟨rfl,rfl⟩|⟨g,cap,f,rfl,_,_,b,d,_⟩
 .exact ⟨none,0,rfl,ω,ω⟩
 .exact ⟨_,cap,rfl,b,by unfold maxLen at d;omega⟩
def Ao.pos {a:Option Addr} (h:Ao w c tag e sz (σ a n cap) n xs) {u:ϒ} (m:xs[j]?=ς u) :
  ∃ g,a=ς (π g 0)/\c g=tag/\g<(w:Nat)/\(∀ (j:Nat) u,xs[j]?=ς u->w.cell? (π g j)=ς u)/\∀ j,w.frozen? (π g j)=false:=by
 rcases h.1.2 with ⟨f,i⟩|⟨g,k,o,f,_,d,i,p,q,l⟩
 .subst i
  have:=h.1.1;simp at this;subst this;simp at m
 .obtain ⟨rfl,-,rfl⟩:a=ς (π g 0)/\True/\cap=k:=by simpa using f
  refine ⟨g,rfl,h.2.1 g (by simp [Value.ownBlock]),(La d),λj u b=>?_,λj=>Fz d⟩;rw [<-l,List.getElem?_take] at b;split at b
  .rw [cell_of_row _ _ _ _ _ _ d];simpa using b
  .cases b
def Ao.put (h:Ao w c tag e sz (σ (ς (π g 0)) n cap) n xs) (j:Nat) (u:ϒ):Ao (w.setCell (π g j) u) c tag e sz (σ (ς (π g 0)) n cap) n (xs.set j u):=
 ⟨(h.1.stored j u).1,h.2.1,h.2.2⟩
def Ao.reads {l:List α} {E:Ϣ->Nat->Nat->α->Prop} (h:Ao w c tag e sz v l.length xs) (p:∀ i x,l[i]?=ς x->∃ u,xs[i*sz]?=ς u)
  (f:∀ i x g,l[i]?=ς x->(∀ (j:Nat) u,xs[j]?=ς u->w.cell? (π g j)=ς u)->E w g (i*sz) x):AE w w sz E v l:=by
 obtain ⟨a,cap,rfl,b,d⟩:=h.form;refine ⟨a,cap,rfl,h.2.2,b,d,?_⟩;cases l with
 | nil=>exact .inl rfl
 | cons y l=>obtain ⟨u,o⟩:=p 0 y rfl;obtain ⟨g,rfl,_,m,k,_⟩:=h.pos o;exact .inr ⟨g,0,rfl,m,λi x n=>by rw [Nat.zero_add];exact f i x g n k⟩
def Dq (w:Ϣ) (c:A1) (tag:Nat) (v:ϒ) (l:List Int):Prop:=Ao w c tag 3 1 v l.length (l.map (Value.int .i64))/\∀ n∈l,in64 n
def Dq.kp (a:AT T c c' w w') (h:Dq w c tag v l) (b:¬T tag):Dq w' c' tag v l:=⟨h.1.kp a b,h.2⟩
def Dq.reads (h:Dq w c tag v l):AE w w 1 Aj v l:=
 h.1.reads (λi x a=>⟨_,by rw [Nat.mul_one,List.getElem?_map,a];rfl⟩) (λi x g a b=>⟨by rw [Nat.mul_one];exact b i _ (by rw [List.getElem?_map,a];rfl),h.2 x (Lm a)⟩)
def Dq.put (h:Dq w c tag (σ (ς (π g 0)) n cap) l) (a:n=l.length) (j:Nat) (v:Int) (b:in64 v):Dq (w.setCell (π g j) (ι v)) c tag (σ (ς (π g 0)) n cap) (l.set j v):=by
 subst a;refine ⟨?_,λn a=>?_⟩
 .have:=h.1.put j (ι v)
  rw [<-List.map_set] at this;simpa [Dq] using this
 .rcases List.mem_or_eq_of_mem_set a with a|rfl
  .exact h.2 n a
  .exact b
def Q9 (x:CD):Prop:=in64 x.X/\in64 x.V/\in64 x.C/\in64 x.N/\in64 x.more
def Dw (x:CD):List ϒ:=[ι x.X,ι x.V,ι x.C,ι x.N,ι x.more]
def Dk (l:List CD):List ϒ:=l.flatMap Dw
def Sb (l:List CD) (x:CD):Dk (l++[x])=Dk l++Dw x:=by simp [Dk]
def FU:∀ {l:List CD} {i:Nat} {x:CD} (_:l[i]?=ς x) (j:Nat) (v:ϒ),(Dw x)[j]?=ς v->(Dk l)[i*5+j]?=ς v
 | [],_,_,h,_,_,_=>by simp at h
 | y::l,0,x,h,j,v,hv=>by simp at h;subst h;have:Dk (y::l)=Dw y++Dk l:=rfl;rw [this,Nat.zero_mul,Nat.zero_add,Al ((Ll hv))];exact hv
 | y::l,i+1,x,h,j,v,hv=>by
  have:Dk (y::l)=Dw y++Dk l:=rfl;rw [this,Ar (by simp [Dw];omega)];have e:(i+1)*5+j - (Dw y).length=i*5+j:=by simp [Dw];omega
  rw [e];exact FU (by simpa using h) j v hv
def Hz (w:Ϣ) (c:A1) (tag:Nat) (v:ϒ) (l:List CD):Prop:=Ao w c tag 114 5 v l.length (Dk l)/\∀ x∈l,Q9 x
def Hz.kp (a:AT T c c' w w') {l:List CD} (h:Hz w c tag v l) (b:¬T tag):Hz w' c' tag v l:=⟨h.1.kp a b,h.2⟩
def Hz.reads {l:List CD} (h:Hz w c tag v l):AE w w 5 FM v l:=
 h.1.reads (λi x a=>⟨_,FU a 0 _ rfl⟩) (λi x g a b=>⟨b _ _ (FU a 0 _ rfl),b _ _ (FU a 1 _ rfl),b _ _ (FU a 2 _ rfl),b _ _ (FU a 3 _ rfl),b _ _ (FU a 4 _ rfl),h.2 x (Lm a)⟩)
def GC (m:AV):Prop:=m.Q.wf/\in64 m.Y/\in64 m.C/\in64 m.I
def NO (_:Nat):Prop:=False
def no (t:Nat):¬NO t:=id
def FV {a d:Nat} (h:a≠b) (k:a≠d):¬((NO a\/a=b)\/a=d):=λx=>by
 rcases x with (x|x)|x
 .exact x
 .exact h x
 .exact k x
def DU {a:Nat} (h:a≠b):¬(NO a\/a=b):=λx=>by
 rcases x with x|x
 .exact x
 .exact h x
def XL:GC AI:=by unfold GC Rq.wf in64 AI;simp
def setM (m:Mm) (r:Rq) (x:Int):Mm:=if 0<r.O then { m with N:=m.N.modify (r.O - 1).toNat (λy=>Nm y r.D.toNat x) } else { m with G:=m.G.set r.D.toNat x }
def Gm (h:r.O=0):Bd m r=m.G:=by unfold Bd;rw [if_neg ω,if_neg ω]
def IJ {x:Gl} (h:1<=r.O) (a:m.N[(r.O - 1).toNat]?=ς x):Bd m r=x.f:=by
 have:=(Ll a)
 unfold Bd;rw [if_neg ω,if_pos ω,a];rfl
def Jt (h:1<=r.O) {f:Int} (b:0<=f) (hl:f<((Bd m r).length:Int)):∃ x,m.N[(r.O - 1).toNat]?=ς x:=by
 cases a:m.N[(r.O - 1).toNat]? with
 | some x=>exact ⟨x,rfl⟩
 | none=>
  exfalso;unfold Bd at hl;split at hl
  .simp at hl;omega
  .rw [if_pos ω,a] at hl;simp at hl;omega
