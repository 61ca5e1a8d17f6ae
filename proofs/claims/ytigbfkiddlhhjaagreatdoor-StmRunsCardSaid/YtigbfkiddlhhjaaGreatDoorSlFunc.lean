import Derived.WalkKit
import Derived.WalkSpells
import Derived.WalkLawsBesides
import Derived.Lib.Hide
import Derived.Test.YtigbfkiddlhhjaaGreatDoorRows
set_option maxHeartbeats 400000
set_option maxRecDepth 100000
set_option linter.all false
namespace Go.RowKit
def Lh{p:Prop}(h:p):Hid p:=Lib.hid h
def Bl{w:World}{a:Addr}{u:Value}(h:w.cell? a=some u):a.block<w.heap.size:=World.block_lt_of_cell? w a h
def La{α:Type}{a:Array α}{i:Nat}{v:α}(h:a[i]?=some v):i<a.size:=(Array.getElem?_eq_some_iff.1 h).1
def Ll{α:Type}{a:List α}{i:Nat}{v:α}(h:a[i]?=some v):i<a.length:=(List.getElem?_eq_some_iff.1 h).1
def Fz{w:World}{b j:Nat}{c:Array Value}{t:TypeId}(h:w.heap[b]?=some (.cells c t (0,0))):w.frozen? ⟨b,j,none⟩=false:=frozen_of_row w b j c t h
def ϵ{w:World}{b:Nat}{l:List Value}{t:TypeId}{f:Nat×Nat}(h:w.heap[b]?=some (.cells l.toArray t f))(j:Nat):w.cell? ⟨b,j,none⟩=l[j]?:=by rw[World.cell?,h];simp
def ϴ{w:World}{b:Nat}{c:Array Value}{t:TypeId}(h:w.heap[b]?=some (.cells c t (0,0)))(j:Nat):w.frozen? ⟨b,j,none⟩=false:=frozen_of_row w b j c t h
def Cr{w:World}{b j:Nat}{c:Array Value}{t:TypeId}{f:Nat×Nat}{v:Value}(h:w.heap[b]?=some (.cells c t f))(k:c[j]?=some v):w.cell? ⟨b,j,none⟩=some v:=(cell_of_row w b j c t f h).trans k
def Cw{w:World}{b:Nat}{l:List Value}{t:TypeId}{f:Nat×Nat}{v:Value}(h:w.heap[b]?=some (.cells l.toArray t f))(j:Nat)(k:l[j]?=some v):w.cell? ⟨b,j,none⟩=some v:=Cr h (by simpa using k)
def Ap:(∀(a:Act)(d:Tmp)(v:Value),a.put (some d) v={a with tmps:=a.tmps.setIfInBounds d v})∧(∀(a:Act)(v:Value),a.put none v=a)∧(∀(l:List Value)(i:Nat)(v:Value),l.toArray.setIfInBounds i v=(l.set i v).toArray)∧(∀(a b:Value)(l:List Value),(a::l).set 0 b=b::l)∧(∀(a b:Value)(n:Nat)(l:List Value),(a::l).set (n+1) b=a::l.set n b):=⟨λ_ _ _=>rfl,λ_ _=>rfl,λ_ _ _=>by simp,λ_ _ _=>rfl,λ_ _ _ _=>rfl⟩
def Lg{α:Type}{l:List α}{i:Nat}(h:i<l.length):l[i]?=some l[i]:=List.getElem?_eq_getElem h
def Lm{α:Type}{l:List α}{i:Nat}{a:α}(h:l[i]?=some a):a∈l:=List.mem_of_getElem? h
def Al{α:Type}{l r:List α}{i:Nat}(h:i<l.length):(l++r)[i]?=l[i]?:=List.getElem?_append_left h
def Ar{α:Type}{l r:List α}{i:Nat}(h:l.length≤i):(l++r)[i]?=r[i-l.length]?:=List.getElem?_append_right h
def Nt{a b c:Nat}(h:a≤b)(k:b≤c):a≤c:=Nat.le_trans h k
def Nl{a b c:Nat}(h:a<b)(k:b≤c):a<c:=Nat.lt_of_lt_of_le h k
def Nr(n:Nat):n≤n:=Nat.le_refl n
def In(n:Nat):(0:Int)≤(n:Int):=Int.natCast_nonneg n
def Ha(w:World)(o:Obj)(k:Nat)(h:k<w.heap.size):(w.alloc o).heap[k]?=w.heap[k]?:=Below.heap_alloc w o k h
def Hn(w:World)(o:Obj):(w.alloc o).heap[w.heap.size]?=some o:=heap_alloc_new w o
def Br{B:Nat}{w:World}:Below B w w:=Below.refl B w
def AA(w:World)(o:Obj):Below w.heap.size w (w.alloc o):=(Below.refl _ _).alloc (Nat.le_refl _) o
def Below.th{a b c:World}(h:Below a.heap.size a b)(k:Below b.heap.size b c):Below a.heap.size a c:=h.trans (k.mono h.size)
def Below.thenA{a b c:World}{o:Obj}(h:Below a.heap.size a b)(k:Below (b.alloc o).heap.size (b.alloc o) c):Below a.heap.size a c:=(h.th (AA b o)).th k
def θ(p:Prop)[Decidable p](h:¬p:=by omega):decide p=false:=decide_eq_false h
def η(p:Prop)[Decidable p](h:p:=by omega):decide p=true:=decide_eq_true h
def ξ{α:Type}[BEq α][LawfulBEq α](a b:α)(h:¬a=b:=by omega):(a==b)=false:=beq_eq_false_iff_ne.2 h
def ζ{α:Type}[BEq α][LawfulBEq α](a b:α)(h:a=b:=by omega):(a==b)=true:=beq_iff_eq.2 h
def ρ{α:Type}[BEq α][LawfulBEq α](a b:α)(h:a=b:=by omega):(a !=b)=false:=by simpa using h
def τ{α:Type}[BEq α][LawfulBEq α](a b:α)(h:¬a=b:=by omega):(a !=b)=true:=by simpa using h
def Ω2{w:World}{b:Nat}{l:List Value}{t:TypeId}{f:Nat×Nat}{x0 x1:Value}(h:w.heap[b]?=some (.cells (x0::x1::l).toArray t f)):w.cell? ⟨b,0,none⟩=some x0∧w.cell? ⟨b,1,none⟩=some x1:=⟨Cw h 0 rfl,Cw h 1 rfl⟩
def Ω3{w:World}{b:Nat}{l:List Value}{t:TypeId}{f:Nat×Nat}{x0 x1 x2:Value}(h:w.heap[b]?=some (.cells (x0::x1::x2::l).toArray t f)):w.cell? ⟨b,0,none⟩=some x0∧w.cell? ⟨b,1,none⟩=some x1∧w.cell? ⟨b,2,none⟩=some x2:=⟨Cw h 0 rfl,Cw h 1 rfl,Cw h 2 rfl⟩
def Ω5{w:World}{b:Nat}{l:List Value}{t:TypeId}{f:Nat×Nat}{x0 x1 x2 x3 x4:Value}(h:w.heap[b]?=some (.cells (x0::x1::x2::x3::x4::l).toArray t f)):w.cell? ⟨b,0,none⟩=some x0∧w.cell? ⟨b,1,none⟩=some x1∧w.cell? ⟨b,2,none⟩=some x2∧w.cell? ⟨b,3,none⟩=some x3∧w.cell? ⟨b,4,none⟩=some x4:=⟨Cw h 0 rfl,Cw h 1 rfl,Cw h 2 rfl,Cw h 3 rfl,Cw h 4 rfl⟩
def Ω9{w:World}{b:Nat}{l:List Value}{t:TypeId}{f:Nat×Nat}{x0 x1 x2 x3 x4 x5 x6 x7 x8:Value}(h:w.heap[b]?=some (.cells (x0::x1::x2::x3::x4::x5::x6::x7::x8::l).toArray t f)):w.cell? ⟨b,0,none⟩=some x0∧w.cell? ⟨b,1,none⟩=some x1∧w.cell? ⟨b,2,none⟩=some x2∧w.cell? ⟨b,3,none⟩=some x3∧w.cell? ⟨b,4,none⟩=some x4∧w.cell? ⟨b,5,none⟩=some x5∧w.cell? ⟨b,6,none⟩=some x6∧w.cell? ⟨b,7,none⟩=some x7∧w.cell? ⟨b,8,none⟩=some x8:=⟨Cw h 0 rfl,Cw h 1 rfl,Cw h 2 rfl,Cw h 3 rfl,Cw h 4 rfl,Cw h 5 rfl,Cw h 6 rfl,Cw h 7 rfl,Cw h 8 rfl⟩
def Λ4{p0 p1 p2 p3:Prop}(h0:p0)(h1:p1)(h2:p2)(h3:p3):Hid p0∧Hid p1∧Hid p2∧Hid p3:=⟨Lh h0,Lh h1,Lh h2,Lh h3⟩
def Λ5{p0 p1 p2 p3 p4:Prop}(h0:p0)(h1:p1)(h2:p2)(h3:p3)(h4:p4):Hid p0∧Hid p1∧Hid p2∧Hid p3∧Hid p4:=⟨Lh h0,Lh h1,Lh h2,Lh h3,Lh h4⟩
def Λ6{p0 p1 p2 p3 p4 p5:Prop}(h0:p0)(h1:p1)(h2:p2)(h3:p3)(h4:p4)(h5:p5):Hid p0∧Hid p1∧Hid p2∧Hid p3∧Hid p4∧Hid p5:=⟨Lh h0,Lh h1,Lh h2,Lh h3,Lh h4,Lh h5⟩
instance:Coe World Nat:=⟨λw=>w.heap.size⟩
instance{α:Type}:CoeOut (List α) Nat:=⟨λl=>l.length⟩
def ε{α:Sort _}(a:α):∃b,b=a:=⟨a,rfl⟩
def bl1{w W:World}{a:Obj}(h:W=w.alloc a):Below w.heap.size w W:=by rw[h];exact AA _ _
def sz1{w W:World}{a:Obj}(h:W=w.alloc a):W.heap.size=w.heap.size+1:=by rw[h];simp
def Xao{w W:World}{a:Obj}(h:W=w.alloc a):W.heap[w.heap.size]?=some a:=by rw[h];exact heap_alloc_new _ _
def bl2{w W:World}{a b:Obj}(h:W=(w.alloc a).alloc b):Below w.heap.size w W:=by rw[h];exact(AA _ _).th (AA _ _)
def sz2{w W:World}{a b:Obj}(h:W=(w.alloc a).alloc b):W.heap.size=w.heap.size+2:=by rw[h];simp
def Xct{w W:World}{a b:Obj}(h:W=(w.alloc a).alloc b):W.heap[w.heap.size]?=some a:=by rw[h,Below.heap_alloc _ _ _ (by simp)];exact Xao rfl
def Xcm{w W:World}{a b:Obj}(h:W=(w.alloc a).alloc b):W.heap[w.heap.size+1]?=some b:=by rw[h];have:=heap_alloc_new (w.alloc a) b;simpa using this
def bl3{w W:World}{a b c:Obj}(h:W=((w.alloc a).alloc b).alloc c):Below w.heap.size w W:=by rw[h];exact((AA _ _).th (AA _ _)).th (AA _ _)
def sz3{w W:World}{a b c:Obj}(h:W=((w.alloc a).alloc b).alloc c):W.heap.size=w.heap.size+3:=by rw[h];simp
def Xda{w W:World}{a b c:Obj}(h:W=((w.alloc a).alloc b).alloc c):W.heap[w.heap.size]?=some a:=by rw[h,Below.heap_alloc _ _ _ (by simp;omega)];exact Xct rfl
def Xcs{w W:World}{a b c:Obj}(h:W=((w.alloc a).alloc b).alloc c):W.heap[w.heap.size+1]?=some b:=by rw[h,Below.heap_alloc _ _ _ (by simp)];exact Xcm rfl
def Xbs{w W:World}{a b c:Obj}(h:W=((w.alloc a).alloc b).alloc c):W.heap[w.heap.size+1+1]?=some c:=by rw[h];have:=heap_alloc_new ((w.alloc a).alloc b) c;simpa using this
def bl4{w W:World}{a b c d:Obj}(h:W=(((w.alloc a).alloc b).alloc c).alloc d):Below w.heap.size w W:=by rw[h];exact(((AA _ _).th (AA _ _)).th (AA _ _)).th (AA _ _)
def sz4{w W:World}{a b c d:Obj}(h:W=(((w.alloc a).alloc b).alloc c).alloc d):W.heap.size=w.heap.size+4:=by rw[h];simp
def Xp9{w W:World}{a b c d:Obj}(h:W=(((w.alloc a).alloc b).alloc c).alloc d):W.heap[w.heap.size]?=some a:=by rw[h,Below.heap_alloc _ _ _ (by simp;omega)];exact Xda rfl
def Xko{w W:World}{a b c d:Obj}(h:W=(((w.alloc a).alloc b).alloc c).alloc d):W.heap[w.heap.size+1]?=some b:=by rw[h,Below.heap_alloc _ _ _ (by simp<;>omega)];exact Xcs rfl
def Xpz{w W:World}{a b c d:Obj}(h:W=(((w.alloc a).alloc b).alloc c).alloc d):W.heap[w.heap.size+1+1]?=some c:=by rw[h,Below.heap_alloc _ _ _ (by simp)];exact Xbs rfl
def Xkl{w W:World}{a b c d:Obj}(h:W=(((w.alloc a).alloc b).alloc c).alloc d):W.heap[w.heap.size+1+1+1]?=some d:=by rw[h];have:=heap_alloc_new (((w.alloc a).alloc b).alloc c) d;simpa using this
abbrev ι(a:Int):Value:=.int .i64 a
abbrev π(b o:Nat):Addr:=⟨b,o,none⟩
def Ψ(o:Nat){w:World}{b:Nat}{c:Array Value}{t:TypeId}(h:w.heap[b]?=some (.cells c t (0,0))):w.frozen? (π b o)=false:=frozen_of_row w b o c t h
abbrev ν:Value:=.slice none 0 0
abbrev Ϛ(w:World)(b o:Nat)(v:Value):Prop:=w.cell? ⟨b,o,none⟩=some v
def ω{p:Prop}(h:p:=by omega):p:=h
def Ϝ{α:Type}(l:List α)(i:Nat)(h:i<l.length:=by omega):(0:Int)≤(i:Int)∧(i:Int)<(l.length:Int):=⟨Int.natCast_nonneg i,Int.ofNat_lt.2 h⟩
def Ϡ{α:Type}(l:List α)(i:Nat)(h:i<l.length:=by omega):∃x,l[i]?=some x:=⟨_,List.getElem?_eq_getElem h⟩
def Ϟ{a b t:Nat}(h:a=b)(k:¬b=t):¬a=t:=h▸k
def δ{p:Prop}(h:p:=by decide):p:=h
def κ{p:Prop}(h:p:=by kernel_rfl):p:=h
def ψ{p:Prop}(h:p:=by simp):p:=h
def φ{p:Prop}(h:p:=by simp;omega):p:=h
def Hid.o{p:Prop}(h:Hid p):p:=h
end Go.RowKit
open Go.Value renaming slice→σ
open Go.Obj renaming cells→χ
namespace Go.Proofs.YtigbfkiddlhhjaaGreatDoor
open Go.RowKit
structure Cd where
 op:Int
 a:Int
structure BK where
 name:ByteArray
 params:Int
 L:Int
 result:Bool
 q9:List Cd
structure AQ where
 H:List Int
 G:Int
 q0:List BK
structure AY where
 fn:Int
 pc:Int
 L:List Int
 S:List Int
structure Rq where
 K:Int
 O:Int
 D:Int
 V:Int
 X:Int
structure AV where
 J:List AY
 Q:Rq
 Y:Int
 C:Int
 I:Int
structure Gl where
 type:Int
 f:List Int
structure Mm where
 G:List Int
 N:List Gl
abbrev Bc(a:Option Addr)(b:Nat)(d:Option Addr)(e:Nat)(c:AQ):Array Value:=#[σ a c.H.length b,ι c.G,σ d c.q0.length e]
abbrev Bm(a:Option Addr)(b:Nat)(d:Option Addr)(e:Nat)(m:Mm):Array Value:=#[σ a m.G.length b,σ d m.N.length e]
abbrev Bz:Array Value:=#[ν,ν,ι 0,ν,ν,ν,ν,ν,ν,ι 0]
structure Bi where
 proc:ByteArray
 args:List Int
def E8{k:IntKind}{a b:Int}(h:a=b):Ending.returned (.int k a)=.returned (.int k b):=by rw[h]
def Ca{a b:Bool}(h:a=b):Ending.returned (.bool a)=.returned (.bool b):=by rw[h]
def in64(n:Int):Prop:=-9223372036854775808<=n/\n<=9223372036854775807
def AE{α:Type}(B:Nat)(w:World)(sz:Nat)(E:World->Nat->Nat->α->Prop)(v:Value)(l:List α):Prop:=
 ∃a cap,v=σ a l.length cap/\l.length<=140737488355328/\l.length<=cap/\cap<=9223372036854775807/\(l=[]\/∃b o,a=some (π b o)/\b<B/\∀i x,l[i]?=some x->E w b (o+i*sz) x)
def AE.mono{α:Type}{B:Nat}{w w':World}{sz:Nat}{E:World->Nat->Nat->α->Prop}{v:Value}{l:List α}(h:AE B w sz E v l)
  (hE:∀b o x,b<B->E w b o x->E w' b o x):AE B w' sz E v l:=by
 obtain⟨a,cap,rfl,hl,hl2,hl3,h⟩:=h;refine⟨a,cap,rfl,hl,hl2,hl3,?_⟩;rcases h with h|⟨b,o,rfl,hb,h⟩
 ·exact .inl h
 ·exact .inr ⟨b,o,rfl,hb,λi x hx=>hE _ _ _ hb (h i x hx)⟩
def Aj(w:World)(b o:Nat)(n:Int):Prop:=w.cell? (π b o)=some (ι n)/\in64 n
def JW(w:World)(b o:Nat)(x:Cd):Prop:=w.cell? (π b o)=some (ι x.op)/\w.cell? (π b (o+1))=some (ι x.a)/\in64 x.op/\in64 x.a
def CW(B:Nat)(w:World)(b o:Nat)(f:BK):Prop:=
 w.cell? (π b o)=some (.string f.name)/\w.cell? (π b (o+1))=some (ι f.params)/\w.cell? (π b (o+2))=some (ι f.L)/\
 w.cell? (π b (o+3))=some (.bool f.result)/\(∃v,w.cell? (π b (o+4))=some v/\AE B w 2 JW v f.q9)/\f.name.size<=140737488355328/\in64 f.params/\in64 f.L
def Di{B:Nat}{w w':World}(hb:Below B w w'){b o:Nat}(h:b<B):w'.cell? (π b o)=w.cell? (π b o):=hb.cell (p:=(π b o)) h
def Aj.below{B:Nat}{w w':World}(hb:Below B w w'){b o:Nat}{n:Int}(h:b<B)(hE:Aj w b o n):Aj w' b o n:=by
 unfold Aj at *;rw[Di hb h];exact hE
def JW.below{B:Nat}{w w':World}(hb:Below B w w'){b o:Nat}{n:Cd}(h:b<B)(hE:JW w b o n):JW w' b o n:=by
 unfold JW at *;rw[Di hb h,Di hb h];exact hE
def AE.ints{B:Nat}{w w':World}(hb:Below B w w'){v:Value}{l:List Int}(h:AE B w 1 Aj v l):AE B w' 1 Aj v l:=h.mono λ_ _ _ h=>Aj.below hb h
def AE.inss{B:Nat}{w w':World}(hb:Below B w w'){v:Value}{l:List Cd}(h:AE B w 2 JW v l):AE B w' 2 JW v l:=h.mono λ_ _ _ h=>JW.below hb h
def CW.below{B:Nat}{w w':World}(hb:Below B w w'){b o:Nat}{n:BK}(h:b<B)(hE:CW B w b o n):CW B w' b o n:=by
 obtain⟨h1,h2,h3,h4,⟨v,h5,h6⟩,h7⟩:=hE;refine⟨?_,?_,?_,?_,⟨v,?_,h6.inss hb⟩,h7⟩<;>rw[Di hb h]<;>assumption
def AE.funs{B:Nat}{w w':World}(hb:Below B w w'){v:Value}{l:List BK}(h:AE B w 5 (CW B) v l):AE B w' 5 (CW B) v l:=h.mono λ_ _ _ h=>CW.below hb h
def Cz{α:Type}(p:α->Bool)(l:List α):Int:=match l.findIdx? p with|some i=>i|none=>-1
def DO{α:Type}{p:α->Bool}{l:List α}{k:Nat}{x:α}(hx:l[k]?=some x)(hp:p x=true)(hno:∀j y,j<k->l[j]?=some y->p y=false):Cz p l=k:=by
 have:l.findIdx? p=some k:=by rw[List.findIdx?_eq_some_iff_getElem];obtain⟨h,rfl⟩:=List.getElem?_eq_some_iff.1 hx;exact⟨h,hp,λj hj=>by rw[hno j _ hj (List.getElem?_eq_getElem ω)];simp⟩
 simp[Cz,this]
def CR{α:Type}{p:α->Bool}{l:List α}(hno:∀j y,j<l.length->l[j]?=some y->p y=false):Cz p l = -1:=by
 have:l.findIdx? p=none:=by rw[List.findIdx?_eq_none_iff];intro x hx;obtain⟨i,h,rfl⟩:=List.getElem_of_mem hx;rw[hno i _ h (List.getElem?_eq_getElem h)]
 simp[Cz,this]
def Ci{α:Type}(p:α->Bool)(l:List α):decide (0<=Cz p l)=l.any p:=by
 unfold Cz;cases h:l.findIdx? p with
 |none=>rw[List.findIdx?_eq_none_iff]at h;simp only[];symm;simp;exact h
 |some i=>rw[List.findIdx?_eq_some_iff_getElem]at h;obtain⟨h1,h2,_⟩:=h;simp only[];rw[List.any_eq_true.2 ⟨_,List.getElem_mem h1,h2⟩];simp
def CK(B:Nat)(w:World)(b o:Nat)(f:AY):Prop:=
 w.cell? (π b o)=some (ι f.fn)/\w.cell? (π b (o+1))=some (ι f.pc)/\(∃v,w.cell? (π b (o+2))=some v/\AE B w 1 Aj v f.L)/\
 (∃v,w.cell? (π b (o+3))=some v/\AE B w 1 Aj v f.S)/\in64 f.fn/\in64 f.pc
def CK.below{B:Nat}{w w':World}(hb:Below B w w'){b o:Nat}{n:AY}(h:b<B)(hE:CK B w b o n):CK B w' b o n:=by
 obtain⟨h1,h2,⟨v,h3,h4⟩,⟨u,h5,h6⟩,h7⟩:=hE;refine⟨?_,?_,⟨v,?_,h4.ints hb⟩,⟨u,?_,h6.ints hb⟩,h7⟩<;>rw[Di hb h]<;>assumption
def AE.fras{B:Nat}{w w':World}(hb:Below B w w'){v:Value}{l:List AY}(h:AE B w 4 (CK B) v l):AE B w' 4 (CK B) v l:=h.mono λ_ _ _ h=>CK.below hb h
def GP(B:Nat)(w:World)(b o:Nat)(f:Gl):Prop:=
 w.cell? (π b o)=some (ι f.type)/\(∃v,w.cell? (π b (o+1))=some v/\AE B w 1 Aj v f.f)/\in64 f.type
def GP.below{B:Nat}{w w':World}(hb:Below B w w'){b o:Nat}{n:Gl}(h:b<B)(hE:GP B w b o n):GP B w' b o n:=by
 obtain⟨h1,⟨v,h3,h4⟩,h7⟩:=hE;refine⟨?_,⟨v,?_,h4.ints hb⟩,h7⟩<;>rw[Di hb h]<;>assumption
def AE.nods{B:Nat}{w w':World}(hb:Below B w w'){v:Value}{l:List Gl}(h:AE B w 2 (GP B) v l):AE B w' 2 (GP B) v l:=h.mono λ_ _ _ h=>GP.below hb h
def Ny(_:Nat)(_:World)(v:Value)(n:Int):Prop:=v=ι n/\in64 n
def IV(_:Nat)(_:World)(v:Value)(x:Cd):Prop:=v=.agg #[ι x.op,ι x.a]/\in64 x.op/\in64 x.a
def Wk(B:Nat)(w:World)(v:Value)(f:Gl):Prop:=∃lv,v=.agg #[ι f.type,lv]/\AE B w 1 Aj lv f.f/\in64 f.type
def Rq.wf(r:Rq):Prop:=in64 r.K/\in64 r.O/\in64 r.D/\in64 r.V/\in64 r.X
def Lw(B:Nat)(w:World)(v:Value)(m:Mm):Prop:=∃gv nv,v=.agg #[gv,nv]/\AE B w 1 Aj gv m.G/\AE B w 2 (GP B) nv m.N
def Gh(B:Nat)(w:World)(v:Value)(c:Bi):Prop:=∃av,v=.agg #[.string c.proc,av]/\AE B w 1 Aj av c.args/\c.proc.size<=140737488355328
def Lw.below{B:Nat}{w w':World}(hb:Below B w w'){v:Value}{f:Mm}(h:Lw B w v f):Lw B w' v f:=by
 obtain⟨gv,nv,h1,h2,h3⟩:=h;exact⟨gv,nv,h1,h2.ints hb,h3.nods hb⟩
def Gh.below{B:Nat}{w w':World}(hb:Below B w w'){v:Value}{f:Bi}(h:Gh B w v f):Gh B w' v f:=by
 obtain⟨av,h1,h2,h3⟩:=h;exact⟨av,h1,h2.ints hb,h3⟩
def EI(B:Nat)(w:World)(v:Value)(f:BK):Prop:=
 ∃cv,v=.agg #[.string f.name,ι f.params,ι f.L,.bool f.result,cv]/\AE B w 2 JW cv f.q9/\f.name.size<=140737488355328/\in64 f.params/\in64 f.L
def BF(B:Nat)(w:World)(v:Value)(c:AQ):Prop:=
 ∃fv gv,v=.agg #[fv,ι c.G,gv]/\AE B w 1 Aj fv c.H/\AE B w 5 (CW B) gv c.q0/\in64 c.G
def EI.below{B:Nat}{w w':World}(hb:Below B w w'){v:Value}{f:BK}(h:EI B w v f):EI B w' v f:=by
 obtain⟨cv,h1,h2,h3⟩:=h;exact⟨cv,h1,h2.inss hb,h3⟩
def BF.below{B:Nat}{w w':World}(hb:Below B w w'){v:Value}{f:AQ}(h:BF B w v f):BF B w' v f:=by
 obtain⟨fv,gv,h1,h2,h3,h4⟩:=h;exact⟨fv,gv,h1,h2.ints hb,h3.funs hb,h4⟩
def AB{W w':World}(hb:Below W.heap.size W w'){a:Addr}{v:Value}(h:W.cell? a=some v):w'.cell? a=some v:=by
 rw[hb.cell (World.block_lt_of_cell? W a h),h]
def keepD{w w':World}(hb:Below w.drew.heap.size w.drew w'){a:Addr}{v:Value}(h:w.cell? a=some v):w'.cell? a=some v:=AB hb h
def B6(w:World)(vs:Array Value)(T:TypeId)(j:Nat):(w.alloc (χ vs T)).cell? (π w.heap.size j)=vs[j]?:=cell_of_row _ _ _ _ _ _ (heap_alloc_new _ _)
def Cc{w w':World}{vs:Array Value}{T:TypeId}(hb:Below (w.alloc (χ vs T)).heap.size (w.alloc (χ vs T)) w')(j:Nat)(v:Value)(h:vs[j]?=some v):w'.cell? (π w.heap.size j)=some v:=
 AB hb (by rw[B6,h])
def keepA{w w':World}{o:Obj}(hb:Below (w.alloc o).heap.size (w.alloc o) w'){a:Addr}{v:Value}(h:w.cell? a=some v):w'.cell? a=some v:=
 AB (((Below.refl _ _).alloc (Nat.le_refl _) o).trans (hb.mono ψ)) h
def As{w w':World}{o:Obj}(hb:Below (w.alloc o).heap.size (w.alloc o) w'):Below w.heap.size w w':=
 ((Below.refl _ _).alloc (Nat.le_refl _) o).trans (hb.mono ψ)
def AE.take{α:Type}{B:Nat}{w:World}{sz:Nat}{E:World->Nat->Nat->α->Prop}{b o cap:Nat}{l:List α}(k:Nat)(hk:k<=l.length)(hl:l.length<=140737488355328)(hc:l.length<=cap)(hc2:cap<=9223372036854775807)(hb:b<B)(h:∀i x,l[i]?=some x->E w b (o+i*sz) x) :
  AE B w sz E (σ (some (π b o)) k cap) (l.take k):=by
 refine⟨_,cap,by rw[List.length_take,Nat.min_eq_left hk],by rw[List.length_take];omega,by rw[List.length_take];omega,hc2,.inr ⟨b,o,rfl,hb,λi x hx=>?_⟩⟩;rw[List.getElem?_take]at hx;split at hx
 ·exact h i x hx
 ·cases hx
def AR(w:World)(b:Nat)(vs:List Value):Prop:=∀j v,vs[j]?=some v->w.cell? (π b j)=some v
def AR.kp{W w':World}(hb:Below W.heap.size W w'){b:Nat}{vs:List Value}(h:AR W b vs):AR w' b vs:=λj v hv=>AB hb (h j v hv)
def AR.keepA{w w':World}{o:Obj}(hb:Below (w.alloc o).heap.size (w.alloc o) w'){b:Nat}{vs:List Value}(h:AR w b vs):AR w' b vs:=λj v hv=>Go.Proofs.YtigbfkiddlhhjaaGreatDoor.keepA hb (h j v hv)
def AR.alloc{w:World}{b:Nat}{vs:List Value}(h:AR w b vs)(o:Obj):AR (w.alloc o) b vs:=λj v hv=>AB ((Below.refl _ _).alloc (Nat.le_refl _) o) (h j v hv)
def Je{w w':World}{vs:Array Value}{T:TypeId}(hb:Below (w.alloc (χ vs T)).heap.size (w.alloc (χ vs T)) w'):AR w' w.heap.size vs.toList:=λj v hv=>Cc hb j v (by simpa using hv)
def Xbq{w W:World}{l:List Value}{t:TypeId}(h:W=w.alloc (χ l.toArray t)):AR W w.heap.size l:=λj v hv=>Cw (Xao h) j hv
def Xdu{w W:World}{b:Obj}{l:List Value}{t:TypeId}(h:W=(w.alloc (χ l.toArray t)).alloc b):AR W w.heap.size l:=λj v hv=>Cw (Xct h) j hv
def Xek{w W:World}{a:Obj}{l:List Value}{t:TypeId}(h:W=(w.alloc a).alloc (χ l.toArray t)):AR W (w.heap.size+1) l:=λj v hv=>Cw (Xcm h) j hv
def Xf2{w W:World}{b c:Obj}{l:List Value}{t:TypeId}(h:W=((w.alloc (χ l.toArray t)).alloc b).alloc c):AR W w.heap.size l:=λj v hv=>Cw (Xda h) j hv
def Xhh{w W:World}{a c:Obj}{l:List Value}{t:TypeId}(h:W=((w.alloc a).alloc (χ l.toArray t)).alloc c):AR W (w.heap.size+1) l:=λj v hv=>Cw (Xcs h) j hv
def Xo6{w W:World}{a b:Obj}{l:List Value}{t:TypeId}(h:W=((w.alloc a).alloc b).alloc (χ l.toArray t)):AR W (w.heap.size+1+1) l:=λj v hv=>Cw (Xbs h) j hv
def Xmk{w W:World}{b c d:Obj}{l:List Value}{t:TypeId}(h:W=(((w.alloc (χ l.toArray t)).alloc b).alloc c).alloc d):AR W w.heap.size l:=λj v hv=>Cw (Xp9 h) j hv
def Xl6{w W:World}{a b d:Obj}{l:List Value}{t:TypeId}(h:W=(((w.alloc a).alloc b).alloc (χ l.toArray t)).alloc d):AR W (w.heap.size+1+1) l:=λj v hv=>Cw (Xpz h) j hv
def Γ2{Q:Nat->Value->Prop}{l:List Value}{x0 x1:Value}(h:∀j v,(x0::x1::l)[j]?=some v->Q j v):Q 0 x0/\Q 1 x1:=⟨h 0 _ rfl,h 1 _ rfl⟩
def Γ3{Q:Nat->Value->Prop}{l:List Value}{x0 x1 x2:Value}(h:∀j v,(x0::x1::x2::l)[j]?=some v->Q j v):Q 0 x0/\Q 1 x1/\Q 2 x2:=⟨h 0 _ rfl,h 1 _ rfl,h 2 _ rfl⟩
def Γ4{Q:Nat->Value->Prop}{l:List Value}{x0 x1 x2 x3:Value}(h:∀j v,(x0::x1::x2::x3::l)[j]?=some v->Q j v):Q 0 x0/\Q 1 x1/\Q 2 x2/\Q 3 x3:=⟨h 0 _ rfl,h 1 _ rfl,h 2 _ rfl,h 3 _ rfl⟩
def Γ5{Q:Nat->Value->Prop}{l:List Value}{x0 x1 x2 x3 x4:Value}(h:∀j v,(x0::x1::x2::x3::x4::l)[j]?=some v->Q j v):Q 0 x0/\Q 1 x1/\Q 2 x2/\Q 3 x3/\Q 4 x4:=⟨h 0 _ rfl,h 1 _ rfl,h 2 _ rfl,h 3 _ rfl,h 4 _ rfl⟩
def Γ9{Q:Nat->Value->Prop}{l:List Value}{x0 x1 x2 x3 x4 x5 x6 x7 x8:Value}(h:∀j v,(x0::x1::x2::x3::x4::x5::x6::x7::x8::l)[j]?=some v->Q j v):Q 0 x0/\Q 1 x1/\Q 2 x2/\Q 3 x3/\Q 4 x4/\Q 5 x5/\Q 6 x6/\Q 7 x7/\Q 8 x8:=⟨h 0 _ rfl,h 1 _ rfl,h 2 _ rfl,h 3 _ rfl,h 4 _ rfl,h 5 _ rfl,h 6 _ rfl,h 7 _ rfl,h 8 _ rfl⟩
def Δ3{w W:World}(h:Below w.heap.size w W){a0 a1 a2:Addr}{v0 v1 v2:Value}(h0:w.cell? a0=some v0)(h1:w.cell? a1=some v1)(h2:w.cell? a2=some v2):W.cell? a0=some v0/\W.cell? a1=some v1/\W.cell? a2=some v2:=⟨AB h h0,AB h h1,AB h h2⟩
def Δ4{w W:World}(h:Below w.heap.size w W){a0 a1 a2 a3:Addr}{v0 v1 v2 v3:Value}(h0:w.cell? a0=some v0)(h1:w.cell? a1=some v1)(h2:w.cell? a2=some v2)(h3:w.cell? a3=some v3):W.cell? a0=some v0/\W.cell? a1=some v1/\W.cell? a2=some v2/\W.cell? a3=some v3:=⟨AB h h0,AB h h1,AB h h2,AB h h3⟩
def Δ5{w W:World}(h:Below w.heap.size w W){a0 a1 a2 a3 a4:Addr}{v0 v1 v2 v3 v4:Value}(h0:w.cell? a0=some v0)(h1:w.cell? a1=some v1)(h2:w.cell? a2=some v2)(h3:w.cell? a3=some v3)(h4:w.cell? a4=some v4):W.cell? a0=some v0/\W.cell? a1=some v1/\W.cell? a2=some v2/\W.cell? a3=some v3/\W.cell? a4=some v4:=⟨AB h h0,AB h h1,AB h h2,AB h h3,AB h h4⟩
def Δ9{w W:World}(h:Below w.heap.size w W){a0 a1 a2 a3 a4 a5 a6 a7 a8:Addr}{v0 v1 v2 v3 v4 v5 v6 v7 v8:Value}(h0:w.cell? a0=some v0)(h1:w.cell? a1=some v1)(h2:w.cell? a2=some v2)(h3:w.cell? a3=some v3)(h4:w.cell? a4=some v4)(h5:w.cell? a5=some v5)(h6:w.cell? a6=some v6)(h7:w.cell? a7=some v7)(h8:w.cell? a8=some v8):W.cell? a0=some v0/\W.cell? a1=some v1/\W.cell? a2=some v2/\W.cell? a3=some v3/\W.cell? a4=some v4/\W.cell? a5=some v5/\W.cell? a6=some v6/\W.cell? a7=some v7/\W.cell? a8=some v8:=⟨AB h h0,AB h h1,AB h h2,AB h h3,AB h h4,AB h h5,AB h h6,AB h h7,AB h h8⟩
def AF{w:World}{vs:Array Value}{T:TypeId}:AR (w.alloc (χ vs T)) w.heap.size vs.toList:=Je (Below.refl _ _)
def An(kf:Nat):Prop:=∀args w,(callFunc kf args).run Tryz.prog w=.ok (.enter kf args) w
def FQ(kf:Nat)(caps:Array Value)(p:BK->Bool)(l:List BK)(v:Value)(B:Nat)(w:World)(he:An kf)(hB:B<=w.heap.size)(hv:AE B w 5 (CW B) v l)
  (hf:∀(x:BK)(w1:World)(av:Value),Below w.heap.size w w1->EI B w1 av x->Calls Tryz.prog kf (#[av]++caps) w1 (λe w2=>e=.returned (.bool (p x))/\Below w1.heap.size w1 w2)) :
  Calls Tryz.prog 53 #[v,.func (.func kf) #[] caps] w λe w'=>e=.returned (ι (Cz p l))/\Below w.heap.size w w':=by
 obtain⟨a,cap,rfl,hl,hl2,hl3,hv⟩:=hv;have HV:=Lib.hid hv;have HF:=Lib.hid hf;unfold An at he;clear hv hf;go_enter Tryz.func53,Tryz.ntmps53;go_wp2;go_loopw[8] (λi wr=>∃k:Nat,k<=l.length/\i=ι k/\Below w.heap.size w wr/\Hid (∀j x,j<k->l[j]?=some x->p x=false)) (λi _=>l.length-(intOf i).toNat);exact⟨0,Nat.zero_le _,rfl,Below.refl _ _,λj x hj=>by omega⟩;obtain⟨k,hk,rfl,hb,hno⟩:=hrel;by_cases hlt:k<l.length
 ·obtain⟨x,hx⟩:∃x,l[k]?=some x:=⟨_,List.getElem?_eq_getElem hlt⟩
  rcases HV.o with h|⟨b,o,rfl,hbB,hE⟩
  ·subst h;simp at hx
  have hE:=(hE k x hx).below (hb.mono hB) hbB;obtain⟨h1,h2,h3,h4,⟨cv,h5,h6⟩,h7⟩:=hE;have H6:=Lib.hid h6;clear h6;have HX:=Lib.hid hx;clear hx;go_wp2_with fail;refine(HF.o x wr _ hb ⟨cv,rfl,H6.o,h7⟩).mono ?_;rintro e w2⟨rfl,hb2⟩;have hb3:=hb.trans (hb2.mono hb.size);cases hp:p x with
  |true=>have hres:=Lib.hid (DO HX.o hp hno);clear hp;go_wp2;go_ret;exact⟨by rw[hres.o];rfl,hb3⟩
  |false=>
   have hres:Hid (∀j x,j<k+1->l[j]?=some x->p x=false):=by
    intro j y hj hy;by_cases hjk:j=k
    ·subst hjk;have:=HX.o.symm.trans hy;simp at this;rw[<-this];exact hp
    ·exact hno j y ω hy
   clear hp;go_wp2;go_roundw;exact⟨k+1,ω,by go_num,hb3,hres⟩;simp[intOf];omega
 ·have hres:=Lib.hid (CR (p:=p) (l:=l) (λj y hj hy=>hno j y ω hy));go_wp2;go_ret;exact⟨by rw[hres.o];rfl,hb⟩
def Fc(kf:Nat)(caps:Array Value)(p:BK->Bool)(l:List BK)(v:Value)(B:Nat)(w:World)(he:An kf)(hB:B<=w.heap.size)(hv:AE B w 5 (CW B) v l)
  (hf:∀(x:BK)(w1:World)(av:Value),Below w.heap.size w w1->EI B w1 av x->Calls Tryz.prog kf (#[av]++caps) w1 (λe w2=>e=.returned (.bool (p x))/\Below w1.heap.size w1 w2)) :
  Calls Tryz.prog 123 #[v,.func (.func kf) #[] caps] w λe w'=>e=.returned (.bool (l.any p))/\Below w.heap.size w w':=by
 have HV:=Lib.hid hv;have HF:=Lib.hid hf;have HE:=Lib.hid he;have hany:=Lib.hid (Ci p l);clear hv hf he;go_enter Tryz.func123,Tryz.ntmps123;go_wp2_with fail;refine(FQ kf caps p l v B w HE.o hB HV.o HF.o).mono ?_;rintro e w'⟨rfl,hb⟩;go_wp2;go_ret;exact⟨by rw[<-hany.o];rfl,hb⟩
def LL(kf:Nat)(caps:Array Value)(p:Gl->Bool)(l:List Gl)(v:Value)(B:Nat)(w:World)(he:An kf)(hB:B<=w.heap.size)(hv:AE B w 2 (GP B) v l)
  (hf:∀(x:Gl)(w1:World)(av:Value),Below w.heap.size w w1->Wk B w1 av x->Calls Tryz.prog kf (#[av]++caps) w1 (λe w2=>e=.returned (.bool (p x))/\Below w1.heap.size w1 w2)) :
  Calls Tryz.prog 89 #[v,.func (.func kf) #[] caps] w λe w'=>e=.returned (ι (Cz p l))/\Below w.heap.size w w':=by
 obtain⟨a,cap,rfl,hl,hl2,hl3,hv⟩:=hv;have HV:=Lib.hid hv;have HF:=Lib.hid hf;unfold An at he;clear hv hf;go_enter Tryz.func89,Tryz.ntmps89;go_wp2;go_loopw[8] (λi wr=>∃k:Nat,k<=l.length/\i=ι k/\Below w.heap.size w wr/\Hid (∀j x,j<k->l[j]?=some x->p x=false)) (λi _=>l.length-(intOf i).toNat);exact⟨0,Nat.zero_le _,rfl,Below.refl _ _,λj x hj=>by omega⟩;obtain⟨k,hk,rfl,hb,hno⟩:=hrel;by_cases hlt:k<l.length
 ·obtain⟨x,hx⟩:∃x,l[k]?=some x:=⟨_,List.getElem?_eq_getElem hlt⟩
  rcases HV.o with h|⟨b,o,rfl,hbB,hE⟩
  ·subst h;simp at hx
  have hE:=(hE k x hx).below (hb.mono hB) hbB;obtain⟨h1,⟨lv,h3,h4⟩,h7⟩:=hE;have H4:=Lib.hid h4;clear h4;have HX:=Lib.hid hx;clear hx;go_wp2_with fail;refine(HF.o x wr _ hb ⟨lv,rfl,H4.o,h7⟩).mono ?_;rintro e w2⟨rfl,hb2⟩;have hb3:Below w.heap.size w w2:=hb.trans (hb2.mono hb.size);cases hp:p x with
  |true=>have hres:=Lib.hid (DO HX.o hp hno);clear hp;go_wp2;go_ret;exact⟨by rw[hres.o];rfl,hb3⟩
  |false=>
   have hres:Hid (∀j x,j<k+1->l[j]?=some x->p x=false):=by
    intro j y hj hy;by_cases hjk:j=k
    ·subst hjk;have:=HX.o.symm.trans hy;simp at this;rw[<-this];exact hp
    ·exact hno j y ω hy
   clear hp;go_wp2;go_roundw;exact⟨k+1,ω,by go_num,hb3,hres⟩;simp[intOf];omega
 ·have hres:=Lib.hid (CR (p:=p) (l:=l) (λj y hj hy=>hno j y ω hy));go_wp2;go_ret;exact⟨by rw[hres.o];rfl,hb⟩
def Ii(kf:Nat)(caps:Array Value)(p:Gl->Bool)(l:List Gl)(v:Value)(B:Nat)(w:World)(he:An kf)(hB:B<=w.heap.size)(hv:AE B w 2 (GP B) v l)
  (hf:∀(x:Gl)(w1:World)(av:Value),Below w.heap.size w w1->Wk B w1 av x->Calls Tryz.prog kf (#[av]++caps) w1 (λe w2=>e=.returned (.bool (p x))/\Below w1.heap.size w1 w2)) :
  Calls Tryz.prog 51 #[v,.func (.func kf) #[] caps] w λe w'=>e=.returned (.bool (l.any p))/\Below w.heap.size w w':=by
 have HV:=Lib.hid hv;have HF:=Lib.hid hf;have HE:=Lib.hid he;have hany:=Lib.hid (Ci p l);clear hv hf he;go_enter Tryz.func51,Tryz.ntmps51;go_wp2_with fail;refine(LL kf caps p l v B w HE.o hB HV.o HF.o).mono ?_;rintro e w'⟨rfl,hb⟩;go_wp2;go_ret;exact⟨by rw[<-hany.o];rfl,hb⟩
def L5(kf:Nat)(caps:Array Value)(p:Int->Bool)(l:List Int)(v:Value)(B:Nat)(w:World)(he:An kf)(hB:B<=w.heap.size)(hv:AE B w 1 Aj v l)
  (hf:∀(x:Int)(w1:World)(av:Value),Below w.heap.size w w1->Ny B w1 av x->Calls Tryz.prog kf (#[av]++caps) w1 (λe w2=>e=.returned (.bool (p x))/\Below w1.heap.size w1 w2)) :
  Calls Tryz.prog 87 #[v,.func (.func kf) #[] caps] w λe w'=>e=.returned (ι (Cz p l))/\Below w.heap.size w w':=by
 obtain⟨a,cap,rfl,hl,hl2,hl3,hv⟩:=hv;have HV:=Lib.hid hv;have HF:=Lib.hid hf;unfold An at he;clear hv hf;go_enter Tryz.func87,Tryz.ntmps87;go_wp2;go_loopw[8] (λi wr=>∃k:Nat,k<=l.length/\i=ι k/\Below w.heap.size w wr/\Hid (∀j x,j<k->l[j]?=some x->p x=false)) (λi _=>l.length-(intOf i).toNat);exact⟨0,Nat.zero_le _,rfl,Below.refl _ _,λj x hj=>by omega⟩;obtain⟨k,hk,rfl,hb,hno⟩:=hrel;by_cases hlt:k<l.length
 ·obtain⟨x,hx⟩:∃x,l[k]?=some x:=⟨_,List.getElem?_eq_getElem hlt⟩
  rcases HV.o with h|⟨b,o,rfl,hbB,hE⟩
  ·subst h;simp at hx
  have hE:=(hE k x hx).below (hb.mono hB) hbB;obtain⟨h1,h7⟩:=hE;rw[Nat.mul_one]at h1;have HX:=Lib.hid hx;clear hx;go_wp2_with fail;refine(HF.o x wr _ hb ⟨rfl,h7⟩).mono ?_;rintro e w2⟨rfl,hb2⟩;have hb3:Below w.heap.size w w2:=hb.trans (hb2.mono hb.size);cases hp:p x with
  |true=>have hres:=Lib.hid (DO HX.o hp hno);clear hp;go_wp2;go_ret;exact⟨by rw[hres.o];rfl,hb3⟩
  |false=>
   have hres:Hid (∀j x,j<k+1->l[j]?=some x->p x=false):=by
    intro j y hj hy;by_cases hjk:j=k
    ·subst hjk;have:=HX.o.symm.trans hy;simp at this;rw[<-this];exact hp
    ·exact hno j y ω hy
   clear hp;go_wp2;go_roundw;exact⟨k+1,ω,by go_num,hb3,hres⟩;simp[intOf];omega
 ·have hres:=Lib.hid (CR (p:=p) (l:=l) (λj y hj hy=>hno j y ω hy));go_wp2;go_ret;exact⟨by rw[hres.o];rfl,hb⟩
def BT(kf:Nat)(caps:Array Value)(p:Int->Bool)(l:List Int)(v:Value)(B:Nat)(w:World)(he:An kf)(hB:B<=w.heap.size)(hv:AE B w 1 Aj v l)
  (hf:∀(x:Int)(w1:World)(av:Value),Below w.heap.size w w1->Ny B w1 av x->Calls Tryz.prog kf (#[av]++caps) w1 (λe w2=>e=.returned (.bool (p x))/\Below w1.heap.size w1 w2)) :
  Calls Tryz.prog 49 #[v,.func (.func kf) #[] caps] w λe w'=>e=.returned (.bool (l.any p))/\Below w.heap.size w w':=by
 have HV:=Lib.hid hv;have HF:=Lib.hid hf;have HE:=Lib.hid he;have hany:=Lib.hid (Ci p l);clear hv hf he;go_enter Tryz.func49,Tryz.ntmps49;go_wp2_with fail;refine(L5 kf caps p l v B w HE.o hB HV.o HF.o).mono ?_;rintro e w'⟨rfl,hb⟩;go_wp2;go_ret;exact⟨by rw[<-hany.o];rfl,hb⟩
def KP(kf:Nat)(caps:Array Value)(p:Cd->Bool)(l:List Cd)(v:Value)(B:Nat)(w:World)(he:An kf)(hB:B<=w.heap.size)(hv:AE B w 2 JW v l)
  (hf:∀(x:Cd)(w1:World)(av:Value),Below w.heap.size w w1->IV B w1 av x->Calls Tryz.prog kf (#[av]++caps) w1 (λe w2=>e=.returned (.bool (p x))/\Below w1.heap.size w1 w2)) :
  Calls Tryz.prog 125 #[v,.func (.func kf) #[] caps] w λe w'=>e=.returned (ι (Cz p l))/\Below w.heap.size w w':=by
 obtain⟨a,cap,rfl,hl,hl2,hl3,hv⟩:=hv;have HV:=Lib.hid hv;have HF:=Lib.hid hf;unfold An at he;clear hv hf;go_enter Tryz.func125,Tryz.ntmps125;go_wp2;go_loopw[8] (λi wr=>∃k:Nat,k<=l.length/\i=ι k/\Below w.heap.size w wr/\Hid (∀j x,j<k->l[j]?=some x->p x=false)) (λi _=>l.length-(intOf i).toNat);exact⟨0,Nat.zero_le _,rfl,Below.refl _ _,λj x hj=>by omega⟩;obtain⟨k,hk,rfl,hb,hno⟩:=hrel;by_cases hlt:k<l.length
 ·obtain⟨x,hx⟩:∃x,l[k]?=some x:=⟨_,List.getElem?_eq_getElem hlt⟩
  rcases HV.o with h|⟨b,o,rfl,hbB,hE⟩
  ·subst h;simp at hx
  have hE:=(hE k x hx).below (hb.mono hB) hbB;obtain⟨h1,h2,h7⟩:=hE;have HX:=Lib.hid hx;clear hx;go_wp2_with fail;refine(HF.o x wr _ hb ⟨rfl,h7⟩).mono ?_;rintro e w2⟨rfl,hb2⟩;have hb3:Below w.heap.size w w2:=hb.trans (hb2.mono hb.size);cases hp:p x with
  |true=>have hres:=Lib.hid (DO HX.o hp hno);clear hp;go_wp2;go_ret;exact⟨by rw[hres.o];rfl,hb3⟩
  |false=>
   have hres:Hid (∀j x,j<k+1->l[j]?=some x->p x=false):=by
    intro j y hj hy;by_cases hjk:j=k
    ·subst hjk;have:=HX.o.symm.trans hy;simp at this;rw[<-this];exact hp
    ·exact hno j y ω hy
   clear hp;go_wp2;go_roundw;exact⟨k+1,ω,by go_num,hb3,hres⟩;simp[intOf];omega
 ·have hres:=Lib.hid (CR (p:=p) (l:=l) (λj y hj hy=>hno j y ω hy));go_wp2;go_ret;exact⟨by rw[hres.o];rfl,hb⟩
abbrev Ξ(w:World)(a:Addr)(v:Value):Prop:=w.cell? a=some v
variable{w W:World}{a b c d e f g h i j k l m n:Addr}{p q r s t u v x y z p1 q1 r1 s1:Value}
def Θ2(hb:Below w.heap.size w W):Ξ w m r1/\Ξ w n s1->Ξ W m r1/\Ξ W n s1:=And.imp (AB hb) (AB hb)
def Θ3(hb:Below w.heap.size w W):Ξ w l q1/\Ξ w m r1/\Ξ w n s1->Ξ W l q1/\Ξ W m r1/\Ξ W n s1:=And.imp (AB hb) (Θ2 hb)
def Θ4(hb:Below w.heap.size w W):Ξ w k p1/\Ξ w l q1/\Ξ w m r1/\Ξ w n s1->Ξ W k p1/\Ξ W l q1/\Ξ W m r1/\Ξ W n s1:=And.imp (AB hb) (Θ3 hb)
def Θ5(hb:Below w.heap.size w W):Ξ w j z/\Ξ w k p1/\Ξ w l q1/\Ξ w m r1/\Ξ w n s1->Ξ W j z/\Ξ W k p1/\Ξ W l q1/\Ξ W m r1/\Ξ W n s1:=And.imp (AB hb) (Θ4 hb)
def Θ6(hb:Below w.heap.size w W):Ξ w i y/\Ξ w j z/\Ξ w k p1/\Ξ w l q1/\Ξ w m r1/\Ξ w n s1->Ξ W i y/\Ξ W j z/\Ξ W k p1/\Ξ W l q1/\Ξ W m r1/\Ξ W n s1:=And.imp (AB hb) (Θ5 hb)
def Θ7(hb:Below w.heap.size w W):Ξ w h x/\Ξ w i y/\Ξ w j z/\Ξ w k p1/\Ξ w l q1/\Ξ w m r1/\Ξ w n s1->Ξ W h x/\Ξ W i y/\Ξ W j z/\Ξ W k p1/\Ξ W l q1/\Ξ W m r1/\Ξ W n s1:=And.imp (AB hb) (Θ6 hb)
def Θ8(hb:Below w.heap.size w W):Ξ w g v/\Ξ w h x/\Ξ w i y/\Ξ w j z/\Ξ w k p1/\Ξ w l q1/\Ξ w m r1/\Ξ w n s1->Ξ W g v/\Ξ W h x/\Ξ W i y/\Ξ W j z/\Ξ W k p1/\Ξ W l q1/\Ξ W m r1/\Ξ W n s1:=And.imp (AB hb) (Θ7 hb)
def Θ9(hb:Below w.heap.size w W):Ξ w f u/\Ξ w g v/\Ξ w h x/\Ξ w i y/\Ξ w j z/\Ξ w k p1/\Ξ w l q1/\Ξ w m r1/\Ξ w n s1->Ξ W f u/\Ξ W g v/\Ξ W h x/\Ξ W i y/\Ξ W j z/\Ξ W k p1/\Ξ W l q1/\Ξ W m r1/\Ξ W n s1:=And.imp (AB hb) (Θ8 hb)
def Θ10(hb:Below w.heap.size w W):Ξ w e t/\Ξ w f u/\Ξ w g v/\Ξ w h x/\Ξ w i y/\Ξ w j z/\Ξ w k p1/\Ξ w l q1/\Ξ w m r1/\Ξ w n s1->Ξ W e t/\Ξ W f u/\Ξ W g v/\Ξ W h x/\Ξ W i y/\Ξ W j z/\Ξ W k p1/\Ξ W l q1/\Ξ W m r1/\Ξ W n s1:=And.imp (AB hb) (Θ9 hb)
def Θ11(hb:Below w.heap.size w W):Ξ w d s/\Ξ w e t/\Ξ w f u/\Ξ w g v/\Ξ w h x/\Ξ w i y/\Ξ w j z/\Ξ w k p1/\Ξ w l q1/\Ξ w m r1/\Ξ w n s1->Ξ W d s/\Ξ W e t/\Ξ W f u/\Ξ W g v/\Ξ W h x/\Ξ W i y/\Ξ W j z/\Ξ W k p1/\Ξ W l q1/\Ξ W m r1/\Ξ W n s1:=And.imp (AB hb) (Θ10 hb)
def Θ12(hb:Below w.heap.size w W):Ξ w c r/\Ξ w d s/\Ξ w e t/\Ξ w f u/\Ξ w g v/\Ξ w h x/\Ξ w i y/\Ξ w j z/\Ξ w k p1/\Ξ w l q1/\Ξ w m r1/\Ξ w n s1->Ξ W c r/\Ξ W d s/\Ξ W e t/\Ξ W f u/\Ξ W g v/\Ξ W h x/\Ξ W i y/\Ξ W j z/\Ξ W k p1/\Ξ W l q1/\Ξ W m r1/\Ξ W n s1:=And.imp (AB hb) (Θ11 hb)
def Θ13(hb:Below w.heap.size w W):Ξ w b q/\Ξ w c r/\Ξ w d s/\Ξ w e t/\Ξ w f u/\Ξ w g v/\Ξ w h x/\Ξ w i y/\Ξ w j z/\Ξ w k p1/\Ξ w l q1/\Ξ w m r1/\Ξ w n s1->Ξ W b q/\Ξ W c r/\Ξ W d s/\Ξ W e t/\Ξ W f u/\Ξ W g v/\Ξ W h x/\Ξ W i y/\Ξ W j z/\Ξ W k p1/\Ξ W l q1/\Ξ W m r1/\Ξ W n s1:=And.imp (AB hb) (Θ12 hb)
def Θ14(hb:Below w.heap.size w W):Ξ w a p/\Ξ w b q/\Ξ w c r/\Ξ w d s/\Ξ w e t/\Ξ w f u/\Ξ w g v/\Ξ w h x/\Ξ w i y/\Ξ w j z/\Ξ w k p1/\Ξ w l q1/\Ξ w m r1/\Ξ w n s1->Ξ W a p/\Ξ W b q/\Ξ W c r/\Ξ W d s/\Ξ W e t/\Ξ W f u/\Ξ W g v/\Ξ W h x/\Ξ W i y/\Ξ W j z/\Ξ W k p1/\Ξ W l q1/\Ξ W m r1/\Ξ W n s1:=And.imp (AB hb) (Θ13 hb)
