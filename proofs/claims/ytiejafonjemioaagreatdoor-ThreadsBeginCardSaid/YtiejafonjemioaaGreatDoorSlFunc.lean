import Derived.WalkKit
import Derived.WalkSpells
import Derived.WalkLawsBesides
import Derived.Lib.Hide
import Derived.Test.YtiejafonjemioaaGreatDoorRows
set_option maxHeartbeats 400000
set_option maxRecDepth 100000
set_option linter.unusedVariables false
set_option linter.unusedSimpArgs false
namespace Go.RowKit
theorem Lh {p:Prop} (h:p):Hid p:=Lib.hid h
theorem Bl {w:World} {a:Addr} {u:Value} (h:w.cell? a=some u):a.block<w.heap.size:=World.block_lt_of_cell? w a h
theorem La {α:Type} {a:Array α} {i:Nat} {v:α} (h:a[i]?=some v):i<a.size:=(Array.getElem?_eq_some_iff.1 h).1
theorem Ll {α:Type} {a:List α} {i:Nat} {v:α} (h:a[i]?=some v):i<a.length:=(List.getElem?_eq_some_iff.1 h).1
theorem Fz {w:World} {b j:Nat} {c:Array Value} {t:TypeId} (h:w.heap[b]?=some (.cells c t (0,0))):w.frozen? ⟨b,j,none⟩=false:=frozen_of_row w b j c t h
theorem Cr {w:World} {b j:Nat} {c:Array Value} {t:TypeId} {f:Nat×Nat} {v:Value} (h:w.heap[b]?=some (.cells c t f)) (k:c[j]?=some v):w.cell? ⟨b,j,none⟩=some v:=(cell_of_row w b j c t f h).trans k
theorem Cw {w:World} {b:Nat} {l:List Value} {t:TypeId} {f:Nat×Nat} {v:Value} (h:w.heap[b]?=some (.cells l.toArray t f)) (j:Nat) (k:l[j]?=some v):w.cell? ⟨b,j,none⟩=some v:=Cr h (by simpa using k)
theorem Ap:(∀ (a:Act) (d:Tmp) (v:Value),a.put (some d) v={ a with tmps:=a.tmps.setIfInBounds d v })∧(∀ (a:Act) (v:Value),a.put none v=a)∧(∀ (l:List Value) (i:Nat) (v:Value),l.toArray.setIfInBounds i v=(l.set i v).toArray)∧(∀ (a b:Value) (l:List Value),(a::l).set 0 b=b::l)∧(∀ (a b:Value) (n:Nat) (l:List Value),(a::l).set (n+1) b=a::l.set n b):=⟨fun _ _ _=>rfl,fun _ _=>rfl,fun _ _ _=>by simp,fun _ _ _=>rfl,fun _ _ _ _=>rfl⟩
theorem Lg {α:Type} {l:List α} {i:Nat} (h:i<l.length):l[i]?=some l[i]:=List.getElem?_eq_getElem h
theorem Lm {α:Type} {l:List α} {i:Nat} {a:α} (h:l[i]?=some a):a∈l:=List.mem_of_getElem? h
theorem Al {α:Type} {l r:List α} {i:Nat} (h:i<l.length):(l++r)[i]?=l[i]?:=List.getElem?_append_left h
theorem Ar {α:Type} {l r:List α} {i:Nat} (h:l.length≤i):(l++r)[i]?=r[i - l.length]?:=List.getElem?_append_right h
theorem Nt {a b c:Nat} (h:a≤b) (k:b≤c):a≤c:=Nat.le_trans h k
theorem Nl {a b c:Nat} (h:a<b) (k:b≤c):a<c:=Nat.lt_of_lt_of_le h k
theorem Nr (n:Nat):n≤n:=Nat.le_refl n
theorem In (n:Nat):(0:Int)≤(n:Int):=Int.natCast_nonneg n
theorem Ha (w:World) (o:Obj) (k:Nat) (h:k<w.heap.size):(w.alloc o).heap[k]?=w.heap[k]?:=Below.heap_alloc w o k h
theorem Hn (w:World) (o:Obj):(w.alloc o).heap[w.heap.size]?=some o:=heap_alloc_new w o
theorem Br {B:Nat} {w:World}:Below B w w:=Below.refl B w
theorem Xa (w:World) (o:Obj):Below w.heap.size w (w.alloc o):=(Below.refl _ _).alloc (Nat.le_refl _) o
theorem Below.then {a b c:World} (h:Below a.heap.size a b) (k:Below b.heap.size b c):Below a.heap.size a c:=h.trans (k.mono h.size)
theorem Below.thenA {a b c:World} {o:Obj} (h:Below a.heap.size a b) (k:Below (b.alloc o).heap.size (b.alloc o) c):Below a.heap.size a c:=(h.then (Xa b o)).then k
abbrev ι (a:Int):Value:=.int .i64 a
abbrev π (b o:Nat):Addr:=⟨b,o,none⟩
abbrev ν:Value:=.slice none 0 0
theorem ω {p:Prop} (h:p:=by omega):p:=h
theorem δ {p:Prop} (h:p:=by decide):p:=h
theorem κ {p:Prop} (h:p:=by kernel_rfl):p:=h
theorem ψ {p:Prop} (h:p:=by simp):p:=h
theorem φ {p:Prop} (h:p:=by simp;omega):p:=h
theorem Hid.o {p:Prop} (h:Hid p):p:=h
end Go.RowKit
open Go.Value renaming slice→σ
open Go.Obj renaming cells→χ
namespace Go.Proofs.YtiejafonjemioaaGreatDoor
open Go.RowKit
structure Ins where
 op:Int
 a:Int
structure Fun where
 name:ByteArray
 params:Int
 locals:Int
 result:Bool
 code:List Ins
structure Cod where
 fields:List Int
 globals:Int
 funcs:List Fun
structure Fra where
 fn:Int
 pc:Int
 locals:List Int
 stack:List Int
structure Rq where
 kind:Int
 node:Int
 field:Int
 value:Int
 fault:Int
structure Mch where
 frames:List Fra
 req:Rq
 fuel:Int
 compares:Int
 idle:Int
structure Nod where
 type:Int
 f:List Int
structure Mm where
 globals:List Int
 nodes:List Nod
abbrev Bc (a:Option Addr) (b:Nat) (d:Option Addr) (e:Nat) (c:Cod):Array Value:=#[σ a c.fields.length b,ι c.globals,σ d c.funcs.length e]
abbrev Bm (a:Option Addr) (b:Nat) (d:Option Addr) (e:Nat) (m:Mm):Array Value:=#[σ a m.globals.length b,σ d m.nodes.length e]
abbrev Bz:Array Value:=#[ν,ν,ι 0,ν,ν,ν,ν,ν,ν,ι 0]
structure Cal where
 proc:ByteArray
 args:List Int
theorem Qd {k:IntKind} {a b:Int} (h:a=b):Ending.returned (.int k a)=.returned (.int k b):=by rw [h]
theorem Za {a b:Bool} (h:a=b):Ending.returned (.bool a)=.returned (.bool b):=by rw [h]
def in64 (n:Int):Prop:=-9223372036854775808<=n/\n<=9223372036854775807
def Xf {α:Type} (B:Nat) (w:World) (sz:Nat) (E:World->Nat->Nat->α->Prop) (v:Value) (l:List α):Prop:=
 ∃ a cap,v=σ a l.length cap/\l.length<=140737488355328/\l.length<=cap/\cap<=9223372036854775807/\(l=[]\/∃ b o,a=some (π b o)/\b<B/\∀ i x,l[i]?=some x->E w b (o+i*sz) x)
theorem Xf.mono {α:Type} {B:Nat} {w w':World} {sz:Nat} {E:World->Nat->Nat->α->Prop} {v:Value} {l:List α} (h:Xf B w sz E v l)
  (hE:∀ b o x,b<B->E w b o x->E w' b o x):Xf B w' sz E v l:=by
 obtain ⟨a,cap,rfl,hl,hl2,hl3,h⟩:=h
 refine ⟨a,cap,rfl,hl,hl2,hl3,?_⟩
 rcases h with h|⟨b,o,rfl,hb,h⟩
 ·exact .inl h
 ·exact .inr ⟨b,o,rfl,hb,fun i x hx=>hE _ _ _ hb (h i x hx)⟩
def Zd (w:World) (b o:Nat) (n:Int):Prop:=w.cell? (π b o)=some (ι n)/\in64 n
def Xbu (w:World) (b o:Nat) (x:Ins):Prop:=w.cell? (π b o)=some (ι x.op)/\w.cell? (π b (o+1))=some (ι x.a)/\in64 x.op/\in64 x.a
def Zl (B:Nat) (w:World) (b o:Nat) (f:Fun):Prop:=
 w.cell? (π b o)=some (.string f.name)/\w.cell? (π b (o+1))=some (ι f.params)/\w.cell? (π b (o+2))=some (ι f.locals)/\
 w.cell? (π b (o+3))=some (.bool f.result)/\(∃ v,w.cell? (π b (o+4))=some v/\Xf B w 2 Xbu v f.code)/\f.name.size<=140737488355328/\in64 f.params/\in64 f.locals
theorem Xbl {B:Nat} {w w':World} (hb:Below B w w') {b o:Nat} (h:b<B):w'.cell? (π b o)=w.cell? (π b o):=hb.cell (p:=(π b o)) h
theorem Zd.below {B:Nat} {w w':World} (hb:Below B w w') {b o:Nat} {n:Int} (h:b<B) (hE:Zd w b o n):Zd w' b o n:=by
 unfold Zd at *;rw [Xbl hb h];exact hE
theorem Xbu.below {B:Nat} {w w':World} (hb:Below B w w') {b o:Nat} {n:Ins} (h:b<B) (hE:Xbu w b o n):Xbu w' b o n:=by
 unfold Xbu at *;rw [Xbl hb h,Xbl hb h];exact hE
theorem Xf.ints {B:Nat} {w w':World} (hb:Below B w w') {v:Value} {l:List Int} (h:Xf B w 1 Zd v l):Xf B w' 1 Zd v l:=h.mono fun _ _ _ h=>Zd.below hb h
theorem Xf.inss {B:Nat} {w w':World} (hb:Below B w w') {v:Value} {l:List Ins} (h:Xf B w 2 Xbu v l):Xf B w' 2 Xbu v l:=h.mono fun _ _ _ h=>Xbu.below hb h
theorem Zl.below {B:Nat} {w w':World} (hb:Below B w w') {b o:Nat} {n:Fun} (h:b<B) (hE:Zl B w b o n):Zl B w' b o n:=by
 obtain ⟨h1,h2,h3,h4,⟨v,h5,h6⟩,h7⟩:=hE
 refine ⟨?_,?_,?_,?_,⟨v,?_,h6.inss hb⟩,h7⟩<;>rw [Xbl hb h]<;>assumption
theorem Xf.funs {B:Nat} {w w':World} (hb:Below B w w') {v:Value} {l:List Fun} (h:Xf B w 5 (Zl B) v l):Xf B w' 5 (Zl B) v l:=h.mono fun _ _ _ h=>Zl.below hb h
def Qw {α:Type} (p:α->Bool) (l:List α):Int:=match l.findIdx? p with|some i=>i|none=>-1
theorem Ue {α:Type} {p:α->Bool} {l:List α} {k:Nat} {x:α} (hx:l[k]?=some x) (hp:p x=true) (hno:∀ j y,j<k->l[j]?=some y->p y=false):Qw p l=k:=by
 have:l.findIdx? p=some k:=by
  rw [List.findIdx?_eq_some_iff_getElem]
  obtain ⟨h,rfl⟩:=List.getElem?_eq_some_iff.1 hx
  exact ⟨h,hp,fun j hj=>by rw [hno j _ hj (List.getElem?_eq_getElem ω)];simp⟩
 simp [Qw,this]
theorem Jk {α:Type} {p:α->Bool} {l:List α} (hno:∀ j y,j<l.length->l[j]?=some y->p y=false):Qw p l = -1:=by
 have:l.findIdx? p=none:=by
  rw [List.findIdx?_eq_none_iff]
  intro x hx
  obtain ⟨i,h,rfl⟩:=List.getElem_of_mem hx
  rw [hno i _ h (List.getElem?_eq_getElem h)]
 simp [Qw,this]
theorem Kd {α:Type} (p:α->Bool) (l:List α):decide (0<=Qw p l)=l.any p:=by
 unfold Qw
 cases h:l.findIdx? p with
 | none=>rw [List.findIdx?_eq_none_iff] at h;simp only [];symm;simp;exact h
 | some i=>rw [List.findIdx?_eq_some_iff_getElem] at h;obtain ⟨h1,h2,_⟩:=h;simp only [];rw [List.any_eq_true.2 ⟨_,List.getElem_mem h1,h2⟩];simp
def Qp (B:Nat) (w:World) (b o:Nat) (f:Fra):Prop:=
 w.cell? (π b o)=some (ι f.fn)/\w.cell? (π b (o+1))=some (ι f.pc)/\(∃ v,w.cell? (π b (o+2))=some v/\Xf B w 1 Zd v f.locals)/\
 (∃ v,w.cell? (π b (o+3))=some v/\Xf B w 1 Zd v f.stack)/\in64 f.fn/\in64 f.pc
theorem Qp.below {B:Nat} {w w':World} (hb:Below B w w') {b o:Nat} {n:Fra} (h:b<B) (hE:Qp B w b o n):Qp B w' b o n:=by
 obtain ⟨h1,h2,⟨v,h3,h4⟩,⟨u,h5,h6⟩,h7⟩:=hE
 refine ⟨?_,?_,⟨v,?_,h4.ints hb⟩,⟨u,?_,h6.ints hb⟩,h7⟩<;>rw [Xbl hb h]<;>assumption
theorem Xf.fras {B:Nat} {w w':World} (hb:Below B w w') {v:Value} {l:List Fra} (h:Xf B w 4 (Qp B) v l):Xf B w' 4 (Qp B) v l:=h.mono fun _ _ _ h=>Qp.below hb h
def Xbc (B:Nat) (w:World) (b o:Nat) (f:Nod):Prop:=
 w.cell? (π b o)=some (ι f.type)/\(∃ v,w.cell? (π b (o+1))=some v/\Xf B w 1 Zd v f.f)/\in64 f.type
theorem Xbc.below {B:Nat} {w w':World} (hb:Below B w w') {b o:Nat} {n:Nod} (h:b<B) (hE:Xbc B w b o n):Xbc B w' b o n:=by
 obtain ⟨h1,⟨v,h3,h4⟩,h7⟩:=hE
 refine ⟨?_,⟨v,?_,h4.ints hb⟩,h7⟩<;>rw [Xbl hb h]<;>assumption
theorem Xf.nods {B:Nat} {w w':World} (hb:Below B w w') {v:Value} {l:List Nod} (h:Xf B w 2 (Xbc B) v l):Xf B w' 2 (Xbc B) v l:=h.mono fun _ _ _ h=>Xbc.below hb h
def Xlj (_:Nat) (_:World) (v:Value) (n:Int):Prop:=v=ι n/\in64 n
def Xa3 (_:Nat) (_:World) (v:Value) (x:Ins):Prop:=v=.agg #[ι x.op,ι x.a]/\in64 x.op/\in64 x.a
def Xq0 (B:Nat) (w:World) (v:Value) (f:Fra):Prop:=
 ∃ lv sv,v=.agg #[ι f.fn,ι f.pc,lv,sv]/\Xf B w 1 Zd lv f.locals/\Xf B w 1 Zd sv f.stack/\in64 f.fn/\in64 f.pc
def Xpv (B:Nat) (w:World) (v:Value) (f:Nod):Prop:=∃ lv,v=.agg #[ι f.type,lv]/\Xf B w 1 Zd lv f.f/\in64 f.type
def Rq.wf (r:Rq):Prop:=in64 r.kind/\in64 r.node/\in64 r.field/\in64 r.value/\in64 r.fault
def Xq8 (B:Nat) (w:World) (v:Value) (m:Mch):Prop:=
 ∃ fv,v=.agg #[fv,ι m.req.kind,ι m.req.node,ι m.req.field,ι m.req.value,ι m.req.fault,ι m.fuel,ι m.compares,ι m.idle]/\
  Xf B w 4 (Qp B) fv m.frames/\m.req.wf/\in64 m.fuel/\in64 m.compares/\in64 m.idle
def MmV (B:Nat) (w:World) (v:Value) (m:Mm):Prop:=∃ gv nv,v=.agg #[gv,nv]/\Xf B w 1 Zd gv m.globals/\Xf B w 2 (Xbc B) nv m.nodes
def J8 (B:Nat) (w:World) (v:Value) (c:Cal):Prop:=∃ av,v=.agg #[.string c.proc,av]/\Xf B w 1 Zd av c.args/\c.proc.size<=140737488355328
theorem Xq8.below {B:Nat} {w w':World} (hb:Below B w w') {v:Value} {f:Mch} (h:Xq8 B w v f):Xq8 B w' v f:=by
 obtain ⟨fv,h1,h2,h3⟩:=h
 exact ⟨fv,h1,h2.fras hb,h3⟩
theorem MmV.below {B:Nat} {w w':World} (hb:Below B w w') {v:Value} {f:Mm} (h:MmV B w v f):MmV B w' v f:=by
 obtain ⟨gv,nv,h1,h2,h3⟩:=h
 exact ⟨gv,nv,h1,h2.ints hb,h3.nods hb⟩
theorem J8.below {B:Nat} {w w':World} (hb:Below B w w') {v:Value} {f:Cal} (h:J8 B w v f):J8 B w' v f:=by
 obtain ⟨av,h1,h2,h3⟩:=h
 exact ⟨av,h1,h2.ints hb,h3⟩
def J4 (B:Nat) (w:World) (v:Value) (f:Fun):Prop:=
 ∃ cv,v=.agg #[.string f.name,ι f.params,ι f.locals,.bool f.result,cv]/\Xf B w 2 Xbu cv f.code/\f.name.size<=140737488355328/\in64 f.params/\in64 f.locals
def Yj (B:Nat) (w:World) (v:Value) (c:Cod):Prop:=
 ∃ fv gv,v=.agg #[fv,ι c.globals,gv]/\Xf B w 1 Zd fv c.fields/\Xf B w 5 (Zl B) gv c.funcs/\in64 c.globals
theorem J4.below {B:Nat} {w w':World} (hb:Below B w w') {v:Value} {f:Fun} (h:J4 B w v f):J4 B w' v f:=by
 obtain ⟨cv,h1,h2,h3⟩:=h
 exact ⟨cv,h1,h2.inss hb,h3⟩
theorem Yj.below {B:Nat} {w w':World} (hb:Below B w w') {v:Value} {f:Cod} (h:Yj B w v f):Yj B w' v f:=by
 obtain ⟨fv,gv,h1,h2,h3,h4⟩:=h
 exact ⟨fv,gv,h1,h2.ints hb,h3.funs hb,h4⟩
theorem Xc {W w':World} (hb:Below W.heap.size W w') {a:Addr} {v:Value} (h:W.cell? a=some v):w'.cell? a=some v:=by
 rw [hb.cell (World.block_lt_of_cell? W a h),h]
theorem Y5 (w:World) (vs:Array Value) (T:TypeId) (j:Nat):(w.alloc (χ vs T)).cell? (π w.heap.size j)=vs[j]?:=cell_of_row _ _ _ _ _ _ (heap_alloc_new _ _)
theorem Zu {w w':World} {vs:Array Value} {T:TypeId} (hb:Below (w.alloc (χ vs T)).heap.size (w.alloc (χ vs T)) w') (j:Nat) (v:Value) (h:vs[j]?=some v):w'.cell? (π w.heap.size j)=some v:=
 Xc hb (by rw [Y5,h])
theorem keepA {w w':World} {o:Obj} (hb:Below (w.alloc o).heap.size (w.alloc o) w') {a:Addr} {v:Value} (h:w.cell? a=some v):w'.cell? a=some v:=
 Xc (((Below.refl _ _).alloc (Nat.le_refl _) o).trans (hb.mono ψ)) h
theorem Yi {w w':World} {o:Obj} (hb:Below (w.alloc o).heap.size (w.alloc o) w'):Below w.heap.size w w':=
 ((Below.refl _ _).alloc (Nat.le_refl _) o).trans (hb.mono ψ)
theorem Xf.take {α:Type} {B:Nat} {w:World} {sz:Nat} {E:World->Nat->Nat->α->Prop} {b o cap:Nat} {l:List α} (k:Nat) (hk:k<=l.length) (hl:l.length<=140737488355328) (hc:l.length<=cap) (hc2:cap<=9223372036854775807) (hb:b<B) (h:∀ i x,l[i]?=some x->E w b (o+i*sz) x) :
  Xf B w sz E (σ (some (π b o)) k cap) (l.take k):=by
 refine ⟨_,cap,by rw [List.length_take,Nat.min_eq_left hk],by rw [List.length_take];omega,by rw [List.length_take];omega,hc2,.inr ⟨b,o,rfl,hb,fun i x hx=>?_⟩⟩
 rw [List.getElem?_take] at hx
 split at hx
 ·exact h i x hx
 ·cases hx
def Xo (w:World) (b:Nat) (vs:List Value):Prop:=∀ j v,vs[j]?=some v->w.cell? (π b j)=some v
theorem Xo.keep {W w':World} (hb:Below W.heap.size W w') {b:Nat} {vs:List Value} (h:Xo W b vs):Xo w' b vs:=fun j v hv=>Xc hb (h j v hv)
theorem Xo.keepA {w w':World} {o:Obj} (hb:Below (w.alloc o).heap.size (w.alloc o) w') {b:Nat} {vs:List Value} (h:Xo w b vs):Xo w' b vs:=fun j v hv=>Go.Proofs.YtiejafonjemioaaGreatDoor.keepA hb (h j v hv)
theorem Xo.alloc {w:World} {b:Nat} {vs:List Value} (h:Xo w b vs) (o:Obj):Xo (w.alloc o) b vs:=fun j v hv=>Xc ((Below.refl _ _).alloc (Nat.le_refl _) o) (h j v hv)
theorem Xb1 {w w':World} {vs:Array Value} {T:TypeId} (hb:Below (w.alloc (χ vs T)).heap.size (w.alloc (χ vs T)) w'):Xo w' w.heap.size vs.toList:=fun j v hv=>Zu hb j v (by simpa using hv)
theorem Xd {w:World} {vs:Array Value} {T:TypeId}:Xo (w.alloc (χ vs T)) w.heap.size vs.toList:=Xb1 (Below.refl _ _)
def Zn (kf:Nat):Prop:=∀ args w,(callFunc kf args).run Tryz.prog w=.ok (.enter kf args) w
theorem Xae (kf:Nat) (caps:Array Value) (p:Fun->Bool) (l:List Fun) (v:Value) (B:Nat) (w:World) (he:Zn kf) (hB:B<=w.heap.size) (hv:Xf B w 5 (Zl B) v l)
  (hf:∀ (x:Fun) (w1:World) (av:Value),Below w.heap.size w w1->J4 B w1 av x->Calls Tryz.prog kf (#[av]++caps) w1 (fun e w2=>e=.returned (.bool (p x))/\Below w1.heap.size w1 w2)) :
  Calls Tryz.prog 90 #[v,.func (.func kf) #[] caps] w fun e w'=>e=.returned (ι (Qw p l))/\Below w.heap.size w w':=by
 obtain ⟨a,cap,rfl,hl,hl2,hl3,hv⟩:=hv
 have HV:=Lib.hid hv
 have HF:=Lib.hid hf
 unfold Zn at he
 clear hv hf
 go_enter Tryz.func90,Tryz.ntmps90
 go_wp2
 go_loopw [8] (fun i wr=>∃ k:Nat,k<=l.length/\i=ι k/\Below w.heap.size w wr/\Hid (∀ j x,j<k->l[j]?=some x->p x=false)) (fun i _=>l.length - (intOf i).toNat)
 case atStart=>exact ⟨0,Nat.zero_le _,rfl,Below.refl _ _,fun j x hj=>by omega⟩
 case round=>
  obtain ⟨k,hk,rfl,hb,hno⟩:=hrel
  by_cases hlt:k<l.length
  ·obtain ⟨x,hx⟩:∃ x,l[k]?=some x:=⟨_,List.getElem?_eq_getElem hlt⟩
   rcases HV.o with h|⟨b,o,rfl,hbB,hE⟩
   ·subst h;simp at hx
   have hE:=(hE k x hx).below (hb.mono hB) hbB
   obtain ⟨h1,h2,h3,h4,⟨cv,h5,h6⟩,h7⟩:=hE
   have H6:=Lib.hid h6
   clear h6
   have HX:=Lib.hid hx
   clear hx
   go_wp2_with fail
   refine (HF.o x wr _ hb ⟨cv,rfl,H6.o,h7⟩).mono ?_
   rintro e w2 ⟨rfl,hb2⟩
   have hb3:Below w.heap.size w w2:=hb.trans (hb2.mono hb.size)
   cases hp:p x with
   | true=>
    have hres:=Lib.hid (Ue HX.o hp hno)
    clear hp
    go_wp2
    go_ret
    exact ⟨by rw [hres.o];rfl,hb3⟩
   | false=>
    have hres:Hid (∀ j x,j<k+1->l[j]?=some x->p x=false):=by
     intro j y hj hy
     by_cases hjk:j=k
     ·subst hjk;have:=HX.o.symm.trans hy;simp at this;rw [<-this];exact hp
     ·exact hno j y ω hy
    clear hp
    go_wp2
    go_roundw
    case rel=>exact ⟨k+1,ω,by go_num,hb3,hres⟩
    case measure=>simp [intOf];omega
  ·have hres:=Lib.hid (Jk (p:=p) (l:=l) (fun j y hj hy=>hno j y ω hy))
   go_wp2
   go_ret
   exact ⟨by rw [hres.o];rfl,hb⟩
theorem Ui (kf:Nat) (caps:Array Value) (p:Fun->Bool) (l:List Fun) (v:Value) (B:Nat) (w:World) (he:Zn kf) (hB:B<=w.heap.size) (hv:Xf B w 5 (Zl B) v l)
  (hf:∀ (x:Fun) (w1:World) (av:Value),Below w.heap.size w w1->J4 B w1 av x->Calls Tryz.prog kf (#[av]++caps) w1 (fun e w2=>e=.returned (.bool (p x))/\Below w1.heap.size w1 w2)) :
  Calls Tryz.prog 147 #[v,.func (.func kf) #[] caps] w fun e w'=>e=.returned (.bool (l.any p))/\Below w.heap.size w w':=by
 have HV:=Lib.hid hv
 have HF:=Lib.hid hf
 have HE:=Lib.hid he
 have hany:=Lib.hid (Kd p l)
 clear hv hf he
 go_enter Tryz.func147,Tryz.ntmps147
 go_wp2_with fail
 refine (Xae kf caps p l v B w HE.o hB HV.o HF.o).mono ?_
 rintro e w' ⟨rfl,hb⟩
 go_wp2
 go_ret
 exact ⟨by rw [<-hany.o];rfl,hb⟩
theorem Xcx (kf:Nat) (caps:Array Value) (p:Fra->Bool) (l:List Fra) (v:Value) (B:Nat) (w:World) (he:Zn kf) (hB:B<=w.heap.size) (hv:Xf B w 4 (Qp B) v l)
  (hf:∀ (x:Fra) (w1:World) (av:Value),Below w.heap.size w w1->Xq0 B w1 av x->Calls Tryz.prog kf (#[av]++caps) w1 (fun e w2=>e=.returned (.bool (p x))/\Below w1.heap.size w1 w2)) :
  Calls Tryz.prog 117 #[v,.func (.func kf) #[] caps] w fun e w'=>e=.returned (ι (Qw p l))/\Below w.heap.size w w':=by
 obtain ⟨a,cap,rfl,hl,hl2,hl3,hv⟩:=hv
 have HV:=Lib.hid hv
 have HF:=Lib.hid hf
 unfold Zn at he
 clear hv hf
 go_enter Tryz.func117,Tryz.ntmps117
 go_wp2
 go_loopw [8] (fun i wr=>∃ k:Nat,k<=l.length/\i=ι k/\Below w.heap.size w wr/\Hid (∀ j x,j<k->l[j]?=some x->p x=false)) (fun i _=>l.length - (intOf i).toNat)
 case atStart=>exact ⟨0,Nat.zero_le _,rfl,Below.refl _ _,fun j x hj=>by omega⟩
 case round=>
  obtain ⟨k,hk,rfl,hb,hno⟩:=hrel
  by_cases hlt:k<l.length
  ·obtain ⟨x,hx⟩:∃ x,l[k]?=some x:=⟨_,List.getElem?_eq_getElem hlt⟩
   rcases HV.o with h|⟨b,o,rfl,hbB,hE⟩
   ·subst h;simp at hx
   have hE:=(hE k x hx).below (hb.mono hB) hbB
   obtain ⟨h1,h2,⟨lv,h3,h4⟩,⟨sv,h5,h6⟩,h7⟩:=hE
   have H6:=Lib.hid h6
   have H4:=Lib.hid h4
   clear h6 h4
   have HX:=Lib.hid hx
   clear hx
   go_wp2_with fail
   refine (HF.o x wr _ hb ⟨lv,sv,rfl,H4.o,H6.o,h7⟩).mono ?_
   rintro e w2 ⟨rfl,hb2⟩
   have hb3:Below w.heap.size w w2:=hb.trans (hb2.mono hb.size)
   cases hp:p x with
   | true=>
    have hres:=Lib.hid (Ue HX.o hp hno)
    clear hp
    go_wp2
    go_ret
    exact ⟨by rw [hres.o];rfl,hb3⟩
   | false=>
    have hres:Hid (∀ j x,j<k+1->l[j]?=some x->p x=false):=by
     intro j y hj hy
     by_cases hjk:j=k
     ·subst hjk;have:=HX.o.symm.trans hy;simp at this;rw [<-this];exact hp
     ·exact hno j y ω hy
    clear hp
    go_wp2
    go_roundw
    case rel=>exact ⟨k+1,ω,by go_num,hb3,hres⟩
    case measure=>simp [intOf];omega
  ·have hres:=Lib.hid (Jk (p:=p) (l:=l) (fun j y hj hy=>hno j y ω hy))
   go_wp2
   go_ret
   exact ⟨by rw [hres.o];rfl,hb⟩
theorem Xa7 (kf:Nat) (caps:Array Value) (p:Fra->Bool) (l:List Fra) (v:Value) (B:Nat) (w:World) (he:Zn kf) (hB:B<=w.heap.size) (hv:Xf B w 4 (Qp B) v l)
  (hf:∀ (x:Fra) (w1:World) (av:Value),Below w.heap.size w w1->Xq0 B w1 av x->Calls Tryz.prog kf (#[av]++caps) w1 (fun e w2=>e=.returned (.bool (p x))/\Below w1.heap.size w1 w2)) :
  Calls Tryz.prog 81 #[v,.func (.func kf) #[] caps] w fun e w'=>e=.returned (.bool (l.any p))/\Below w.heap.size w w':=by
 have HV:=Lib.hid hv
 have HF:=Lib.hid hf
 have HE:=Lib.hid he
 have hany:=Lib.hid (Kd p l)
 clear hv hf he
 go_enter Tryz.func81,Tryz.ntmps81
 go_wp2_with fail
 refine (Xcx kf caps p l v B w HE.o hB HV.o HF.o).mono ?_
 rintro e w' ⟨rfl,hb⟩
 go_wp2
 go_ret
 exact ⟨by rw [<-hany.o];rfl,hb⟩
theorem Xc6 (kf:Nat) (caps:Array Value) (p:Nod->Bool) (l:List Nod) (v:Value) (B:Nat) (w:World) (he:Zn kf) (hB:B<=w.heap.size) (hv:Xf B w 2 (Xbc B) v l)
  (hf:∀ (x:Nod) (w1:World) (av:Value),Below w.heap.size w w1->Xpv B w1 av x->Calls Tryz.prog kf (#[av]++caps) w1 (fun e w2=>e=.returned (.bool (p x))/\Below w1.heap.size w1 w2)) :
  Calls Tryz.prog 121 #[v,.func (.func kf) #[] caps] w fun e w'=>e=.returned (ι (Qw p l))/\Below w.heap.size w w':=by
 obtain ⟨a,cap,rfl,hl,hl2,hl3,hv⟩:=hv
 have HV:=Lib.hid hv
 have HF:=Lib.hid hf
 unfold Zn at he
 clear hv hf
 go_enter Tryz.func121,Tryz.ntmps121
 go_wp2
 go_loopw [8] (fun i wr=>∃ k:Nat,k<=l.length/\i=ι k/\Below w.heap.size w wr/\Hid (∀ j x,j<k->l[j]?=some x->p x=false)) (fun i _=>l.length - (intOf i).toNat)
 case atStart=>exact ⟨0,Nat.zero_le _,rfl,Below.refl _ _,fun j x hj=>by omega⟩
 case round=>
  obtain ⟨k,hk,rfl,hb,hno⟩:=hrel
  by_cases hlt:k<l.length
  ·obtain ⟨x,hx⟩:∃ x,l[k]?=some x:=⟨_,List.getElem?_eq_getElem hlt⟩
   rcases HV.o with h|⟨b,o,rfl,hbB,hE⟩
   ·subst h;simp at hx
   have hE:=(hE k x hx).below (hb.mono hB) hbB
   obtain ⟨h1,⟨lv,h3,h4⟩,h7⟩:=hE
   have H4:=Lib.hid h4
   clear h4
   have HX:=Lib.hid hx
   clear hx
   go_wp2_with fail
   refine (HF.o x wr _ hb ⟨lv,rfl,H4.o,h7⟩).mono ?_
   rintro e w2 ⟨rfl,hb2⟩
   have hb3:Below w.heap.size w w2:=hb.trans (hb2.mono hb.size)
   cases hp:p x with
   | true=>
    have hres:=Lib.hid (Ue HX.o hp hno)
    clear hp
    go_wp2
    go_ret
    exact ⟨by rw [hres.o];rfl,hb3⟩
   | false=>
    have hres:Hid (∀ j x,j<k+1->l[j]?=some x->p x=false):=by
     intro j y hj hy
     by_cases hjk:j=k
     ·subst hjk;have:=HX.o.symm.trans hy;simp at this;rw [<-this];exact hp
     ·exact hno j y ω hy
    clear hp
    go_wp2
    go_roundw
    case rel=>exact ⟨k+1,ω,by go_num,hb3,hres⟩
    case measure=>simp [intOf];omega
  ·have hres:=Lib.hid (Jk (p:=p) (l:=l) (fun j y hj hy=>hno j y ω hy))
   go_wp2
   go_ret
   exact ⟨by rw [hres.o];rfl,hb⟩
theorem Jy (kf:Nat) (caps:Array Value) (p:Nod->Bool) (l:List Nod) (v:Value) (B:Nat) (w:World) (he:Zn kf) (hB:B<=w.heap.size) (hv:Xf B w 2 (Xbc B) v l)
  (hf:∀ (x:Nod) (w1:World) (av:Value),Below w.heap.size w w1->Xpv B w1 av x->Calls Tryz.prog kf (#[av]++caps) w1 (fun e w2=>e=.returned (.bool (p x))/\Below w1.heap.size w1 w2)) :
  Calls Tryz.prog 88 #[v,.func (.func kf) #[] caps] w fun e w'=>e=.returned (.bool (l.any p))/\Below w.heap.size w w':=by
 have HV:=Lib.hid hv
 have HF:=Lib.hid hf
 have HE:=Lib.hid he
 have hany:=Lib.hid (Kd p l)
 clear hv hf he
 go_enter Tryz.func88,Tryz.ntmps88
 go_wp2_with fail
 refine (Xc6 kf caps p l v B w HE.o hB HV.o HF.o).mono ?_
 rintro e w' ⟨rfl,hb⟩
 go_wp2
 go_ret
 exact ⟨by rw [<-hany.o];rfl,hb⟩
theorem Xep (kf:Nat) (caps:Array Value) (p:Int->Bool) (l:List Int) (v:Value) (B:Nat) (w:World) (he:Zn kf) (hB:B<=w.heap.size) (hv:Xf B w 1 Zd v l)
  (hf:∀ (x:Int) (w1:World) (av:Value),Below w.heap.size w w1->Xlj B w1 av x->Calls Tryz.prog kf (#[av]++caps) w1 (fun e w2=>e=.returned (.bool (p x))/\Below w1.heap.size w1 w2)) :
  Calls Tryz.prog 80 #[v,.func (.func kf) #[] caps] w fun e w'=>e=.returned (ι (Qw p l))/\Below w.heap.size w w':=by
 obtain ⟨a,cap,rfl,hl,hl2,hl3,hv⟩:=hv
 have HV:=Lib.hid hv
 have HF:=Lib.hid hf
 unfold Zn at he
 clear hv hf
 go_enter Tryz.func80,Tryz.ntmps80
 go_wp2
 go_loopw [8] (fun i wr=>∃ k:Nat,k<=l.length/\i=ι k/\Below w.heap.size w wr/\Hid (∀ j x,j<k->l[j]?=some x->p x=false)) (fun i _=>l.length - (intOf i).toNat)
 case atStart=>exact ⟨0,Nat.zero_le _,rfl,Below.refl _ _,fun j x hj=>by omega⟩
 case round=>
  obtain ⟨k,hk,rfl,hb,hno⟩:=hrel
  by_cases hlt:k<l.length
  ·obtain ⟨x,hx⟩:∃ x,l[k]?=some x:=⟨_,List.getElem?_eq_getElem hlt⟩
   rcases HV.o with h|⟨b,o,rfl,hbB,hE⟩
   ·subst h;simp at hx
   have hE:=(hE k x hx).below (hb.mono hB) hbB
   obtain ⟨h1,h7⟩:=hE
   rw [Nat.mul_one] at h1
   have HX:=Lib.hid hx
   clear hx
   go_wp2_with fail
   refine (HF.o x wr _ hb ⟨rfl,h7⟩).mono ?_
   rintro e w2 ⟨rfl,hb2⟩
   have hb3:Below w.heap.size w w2:=hb.trans (hb2.mono hb.size)
   cases hp:p x with
   | true=>
    have hres:=Lib.hid (Ue HX.o hp hno)
    clear hp
    go_wp2
    go_ret
    exact ⟨by rw [hres.o];rfl,hb3⟩
   | false=>
    have hres:Hid (∀ j x,j<k+1->l[j]?=some x->p x=false):=by
     intro j y hj hy
     by_cases hjk:j=k
     ·subst hjk;have:=HX.o.symm.trans hy;simp at this;rw [<-this];exact hp
     ·exact hno j y ω hy
    clear hp
    go_wp2
    go_roundw
    case rel=>exact ⟨k+1,ω,by go_num,hb3,hres⟩
    case measure=>simp [intOf];omega
  ·have hres:=Lib.hid (Jk (p:=p) (l:=l) (fun j y hj hy=>hno j y ω hy))
   go_wp2
   go_ret
   exact ⟨by rw [hres.o];rfl,hb⟩
theorem Y3 (kf:Nat) (caps:Array Value) (p:Int->Bool) (l:List Int) (v:Value) (B:Nat) (w:World) (he:Zn kf) (hB:B<=w.heap.size) (hv:Xf B w 1 Zd v l)
  (hf:∀ (x:Int) (w1:World) (av:Value),Below w.heap.size w w1->Xlj B w1 av x->Calls Tryz.prog kf (#[av]++caps) w1 (fun e w2=>e=.returned (.bool (p x))/\Below w1.heap.size w1 w2)) :
  Calls Tryz.prog 40 #[v,.func (.func kf) #[] caps] w fun e w'=>e=.returned (.bool (l.any p))/\Below w.heap.size w w':=by
 have HV:=Lib.hid hv
 have HF:=Lib.hid hf
 have HE:=Lib.hid he
 have hany:=Lib.hid (Kd p l)
 clear hv hf he
 go_enter Tryz.func40,Tryz.ntmps40
 go_wp2_with fail
 refine (Xep kf caps p l v B w HE.o hB HV.o HF.o).mono ?_
 rintro e w' ⟨rfl,hb⟩
 go_wp2
 go_ret
 exact ⟨by rw [<-hany.o];rfl,hb⟩
theorem Xcw (kf:Nat) (caps:Array Value) (p:Ins->Bool) (l:List Ins) (v:Value) (B:Nat) (w:World) (he:Zn kf) (hB:B<=w.heap.size) (hv:Xf B w 2 Xbu v l)
  (hf:∀ (x:Ins) (w1:World) (av:Value),Below w.heap.size w w1->Xa3 B w1 av x->Calls Tryz.prog kf (#[av]++caps) w1 (fun e w2=>e=.returned (.bool (p x))/\Below w1.heap.size w1 w2)) :
  Calls Tryz.prog 149 #[v,.func (.func kf) #[] caps] w fun e w'=>e=.returned (ι (Qw p l))/\Below w.heap.size w w':=by
 obtain ⟨a,cap,rfl,hl,hl2,hl3,hv⟩:=hv
 have HV:=Lib.hid hv
 have HF:=Lib.hid hf
 unfold Zn at he
 clear hv hf
 go_enter Tryz.func149,Tryz.ntmps149
 go_wp2
 go_loopw [8] (fun i wr=>∃ k:Nat,k<=l.length/\i=ι k/\Below w.heap.size w wr/\Hid (∀ j x,j<k->l[j]?=some x->p x=false)) (fun i _=>l.length - (intOf i).toNat)
 case atStart=>exact ⟨0,Nat.zero_le _,rfl,Below.refl _ _,fun j x hj=>by omega⟩
 case round=>
  obtain ⟨k,hk,rfl,hb,hno⟩:=hrel
  by_cases hlt:k<l.length
  ·obtain ⟨x,hx⟩:∃ x,l[k]?=some x:=⟨_,List.getElem?_eq_getElem hlt⟩
   rcases HV.o with h|⟨b,o,rfl,hbB,hE⟩
   ·subst h;simp at hx
   have hE:=(hE k x hx).below (hb.mono hB) hbB
   obtain ⟨h1,h2,h7⟩:=hE
   have HX:=Lib.hid hx
   clear hx
   go_wp2_with fail
   refine (HF.o x wr _ hb ⟨rfl,h7⟩).mono ?_
   rintro e w2 ⟨rfl,hb2⟩
   have hb3:Below w.heap.size w w2:=hb.trans (hb2.mono hb.size)
   cases hp:p x with
   | true=>
    have hres:=Lib.hid (Ue HX.o hp hno)
    clear hp
    go_wp2
    go_ret
    exact ⟨by rw [hres.o];rfl,hb3⟩
   | false=>
    have hres:Hid (∀ j x,j<k+1->l[j]?=some x->p x=false):=by
     intro j y hj hy
     by_cases hjk:j=k
     ·subst hjk;have:=HX.o.symm.trans hy;simp at this;rw [<-this];exact hp
     ·exact hno j y ω hy
    clear hp
    go_wp2
    go_roundw
    case rel=>exact ⟨k+1,ω,by go_num,hb3,hres⟩
    case measure=>simp [intOf];omega
  ·have hres:=Lib.hid (Jk (p:=p) (l:=l) (fun j y hj hy=>hno j y ω hy))
   go_wp2
   go_ret
   exact ⟨by rw [hres.o];rfl,hb⟩
