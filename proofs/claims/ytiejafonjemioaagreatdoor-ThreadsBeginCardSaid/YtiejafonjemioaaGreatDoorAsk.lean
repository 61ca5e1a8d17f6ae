import Derived.Test.YtiejafonjemioaaGreatDoorPly
import Derived.Test.YtiejafonjemioaaGreatDoorReg
set_option linter.unusedVariables false
set_option linter.unusedSimpArgs false
open Go.Value renaming slice→σ
open Go.Obj renaming cells→χ
namespace Go.Proofs.YtiejafonjemioaaGreatDoor
open Go.RowKit
def Zj (w:World):List Value->List Nod->List Nat->Prop
 | cells,[],F=>cells=[]/\F=[]
 | cells,x::xs,F=>∃ lv cs Fl Fr,cells=ι x.type::lv::cs/\Yv w lv x.f Fl/\in64 x.type/\Zj w cs xs Fr/\F=Fl++Fr
theorem Zj.keep {w w':World}:∀ {xs:List Nod} {cells:List Value} {F:List Nat},Zj w cells xs F->(∀ b∈F,w'.heap[b]?=w.heap[b]?)->Zj w' cells xs F
 | [],_,_,h,_=>h
 | _::_,_,_,h,hk=>by
  obtain ⟨lv,cs,Fl,Fr,h1,h2,h3,h4,rfl⟩:=h
  exact ⟨lv,cs,Fl,Fr,h1,h2.keep (fun b hb=>hk b (by simp [hb])),h3,h4.keep (fun b hb=>hk b (by simp [hb])),rfl⟩
theorem Zj.lt {w:World}:∀ {xs:List Nod} {cells:List Value} {F:List Nat},Zj w cells xs F->∀ b∈F,b<w.heap.size
 | [],_,_,h,b,hb=>by obtain ⟨_,rfl⟩:=h;simp at hb
 | _::_,_,_,h,b,hb=>by
  obtain ⟨lv,cs,Fl,Fr,h1,h2,h3,h4,rfl⟩:=h
  rw [List.mem_append] at hb
  rcases hb with hb|hb
  ·exact h2.lt b hb
  ·exact h4.lt b hb
theorem Zj.len {w:World}:∀ {xs:List Nod} {cells:List Value} {F:List Nat},Zj w cells xs F->cells.length=xs.length*2
 | [],_,_,h=>by obtain ⟨rfl,_⟩:=h;rfl
 | _::_,_,_,h=>by
  obtain ⟨lv,cs,Fl,Fr,rfl,h2,h3,h4,rfl⟩:=h
  simp [h4.len]
  omega
theorem Zj.add {w:World}:∀ {xs:List Nod} {x:Nod} {cs:List Value} {lv:Value} {Fi Fl:List Nat},Zj w cs xs Fi->Yv w lv x.f Fl->in64 x.type->Zj w (cs++[ι x.type,lv]) (xs++[x]) (Fi++Fl)
 | [],x,cs,lv,Fi,Fl,h,h2,h4=>by
  obtain ⟨rfl,rfl⟩:=h
  exact ⟨lv,[],Fl,[],rfl,h2,h4,⟨rfl,rfl⟩,ψ⟩
 | g::xs,x,cs,lv,Fi,Fl,h,h2,h4=>by
  obtain ⟨lv',cs',aA,aB,rfl,k2,k3,k4,rfl⟩:=h
  exact ⟨lv',_,aA,aB++Fl,rfl,k2,k3,k4.add h2 h4,ψ⟩
theorem Yv.set {w:World} {lb cap:Nat} {l:List Int} {F:List Nat} (h:Yv w (σ (some (π lb 0)) l.length cap) l F) (j:Nat) (v:Int) (h64:in64 v):Yv (w.setCell (π lb j) (ι v)) (σ (some (π lb 0)) l.length cap) (l.set j v) F:=by
 obtain ⟨h1,h2,h3⟩:=h
 refine ⟨?_,h2,fun n hn=>?_⟩
 ·have:=(h1.stored j (ι v)).1
  rw [<-List.map_set] at this
  simpa using this
 ·rcases List.mem_or_eq_of_mem_set hn with h|h
  ·exact h3 n h
  ·rw [h];exact h64
theorem Zj.at_ {w:World}:∀ {xs:List Nod} {cells:List Value} {F:List Nat} {i:Nat} {x:Nod},Zj w cells xs F->F.Nodup->xs[i]?=some x->
  ∃ lv Fl,cells[i*2+1]?=some lv/\Yv w lv x.f Fl/\(∀ b∈Fl,b∈F)/\∀ lb cap (j:Nat) (v:Int),lv=σ (some (π lb 0)) x.f.length cap->lb∈Fl->in64 v->Zj (w.setCell (π lb j) (ι v)) cells (xs.modify i (fun x=>Xem x j v)) F
 | [],_,_,_,_,_,_,hx=>by simp at hx
 | g::xs,cells,F,0,x,h,hnd,hx=>by
  obtain ⟨lv,cs,Fl,Fr,rfl,h2,h3,h4,rfl⟩:=h
  simp at hx
  subst hx
  refine ⟨lv,Fl,ψ,h2,fun b hb=>by simp [hb],fun lb cap j v aC aA aB=>?_⟩
  subst aC
  rw [List.nodup_append] at hnd
  have hl:(Xem g j v).f.length=g.f.length:=by simp [Xem]
  refine ⟨σ (some (π lb 0)) g.f.length cap,cs,Fl,Fr,rfl,h2.set j v aB,h3,h4.keep (fun b hb=>heap_setCell_other _ _ _ _ (fun e=>hnd.2.2 lb aA b hb e.symm)),rfl⟩
 | g::xs,cells,F,i+1,x,h,hnd,hx=>by
  obtain ⟨lv,cs,Fl,Fr,rfl,h2,h3,h4,rfl⟩:=h
  rw [List.nodup_append] at hnd
  obtain ⟨lv',aD,k1,k2,k3,k4⟩:=h4.at_ hnd.2.1 (by simpa using hx)
  refine ⟨lv',aD,?_,k2,fun b hb=>by simp [k3 b hb],fun lb cap j v aC aA aB=>?_⟩
  ·rw [show (i+1)*2+1=(i*2+1)+1+1 by omega]
   simpa using k1
  ·exact ⟨lv,cs,Fl,Fr,rfl,h2.keep (fun b hb=>heap_setCell_other _ _ _ _ (fun e=>hnd.2.2 b hb lb (k3 lb aA) e)),h3,k4 lb cap j v aC aA aB,rfl⟩
structure Qs (w:World) (bo:Nat) (m:Mm) (gv nv:Value) (cells:List Value) (Fg Fn:List Nat):Prop where
 box:w.heap[bo]?=some (χ #[gv,nv] 28 (0,0))
 glob:Yv w gv m.globals Fg
 row:w.ownsRow 0 74 2 nv m.nodes.length cells
 nodes:Zj w cells m.nodes Fn
 nodup:(bo::(Fg++(nv.ownBlock.toList++Fn))).Nodup
theorem Ve {w:World} {e:TypeId} {size:Nat} {v:Value} {n:Nat} {xs:List Value} (h:w.ownsRow 0 e size v n xs):∀ b∈v.ownBlock.toList,b<w.heap.size:=fun b hb=>by
 rcases h.2 with ⟨rfl,_⟩|⟨g,cap,aA,rfl,_,hg,_⟩
 ·simp [Value.ownBlock] at hb
 ·simp [Value.ownBlock] at hb;subst hb;exact (La hg)
theorem Qi {w w':World} {e:TypeId} {size:Nat} {v:Value} {n:Nat} {xs:List Value} (h:w.ownsRow 0 e size v n xs) (hk:∀ b∈v.ownBlock.toList,w'.heap[b]?=w.heap[b]?):w'.ownsRow 0 e size v n xs:=by
 refine ⟨h.1,?_⟩
 rcases h.2 with h|⟨g,cap,aA,rfl,hb,hg,r⟩
 ·exact .inl h
 ·exact .inr ⟨g,cap,aA,rfl,hb,by rw [hk g (by simp [Value.ownBlock])];exact hg,r⟩
theorem Qs.lt {w:World} {bo:Nat} {m:Mm} {gv nv:Value} {cells:List Value} {Fg Fn:List Nat} (h:Qs w bo m gv nv cells Fg Fn):∀ b∈bo::(Fg++(nv.ownBlock.toList++Fn)),b<w.heap.size:=fun b hb=>by
 rw [List.mem_cons,List.mem_append,List.mem_append] at hb
 rcases hb with rfl|hb|hb|hb
 ·exact (La h.box)
 ·exact h.glob.lt b hb
 ·exact Ve h.row b hb
 ·exact h.nodes.lt b hb
theorem Qs.keep {w w':World} {bo:Nat} {m:Mm} {gv nv:Value} {cells:List Value} {Fg Fn:List Nat} (h:Qs w bo m gv nv cells Fg Fn) (hk:∀ b∈bo::(Fg++(nv.ownBlock.toList++Fn)),w'.heap[b]?=w.heap[b]?):Qs w' bo m gv nv cells Fg Fn:=
 ⟨by rw [hk bo ψ];exact h.box,h.glob.keep (fun b hb=>hk b (by simp [hb])),Qi h.row (fun b hb=>hk b (by simp only [List.mem_cons,List.mem_append];exact .inr (.inr (.inl hb)))),h.nodes.keep (fun b hb=>hk b (by simp [hb])),h.nodup⟩
def Zf (l:List Acc):List Value:=l.flatMap (fun a=>[ι a.kind,ι a.node,ι a.field])
structure Vm (w:World) (bl:Nat) (l:List Acc) (v:Value):Prop where
 box:w.heap[bl]?=some (χ #[v] 120 (0,0))
 row:w.ownsRow 0 64 3 v l.length (Zf l)
 ne:bl∉v.ownBlock.toList
theorem Vm.keep {w w':World} {bl:Nat} {l:List Acc} {v:Value} (h:Vm w bl l v) (hk:∀ b∈bl::v.ownBlock.toList,w'.heap[b]?=w.heap[b]?):Vm w' bl l v:=
 ⟨by rw [hk bl ψ];exact h.box,Qi h.row (fun b hb=>hk b (by rw [List.mem_cons];exact .inr hb)),h.ne⟩
theorem Vm.lt {w:World} {bl:Nat} {l:List Acc} {v:Value} (h:Vm w bl l v):∀ b∈bl::v.ownBlock.toList,b<w.heap.size:=fun b hb=>by
 rw [List.mem_cons] at hb
 rcases hb with rfl|hb
 ·exact (La h.box)
 ·exact Ve h.row b hb
def X8 (fault value compares nodes:Int):Array Value:=#[ι fault,ι value,ι compares,ι nodes,ι 0]
def Y7 (w:World) (bc:Nat) (fault value compares nodes:Int):Prop:=w.heap[bc]?=some (χ (X8 fault value compares nodes) 84 (0,0))
theorem Xg {w:World} {g i:Nat} {cs:Array Value} {t:TypeId} {v:Value} (hg:w.heap[g]?=some (χ cs t (0,0))) (hv:cs[i]?=some v):w.setCell (π g i) v=w:=by
 have h:(w.setCell (π g i) v).heap=w.heap:=by
  apply Array.ext_getElem?
  intro k
  by_cases hk:k=g
  ·subst hk
   rw [heap_setCell_same _ _ _ _ _ _ hg,hg]
   have:cs.setIfInBounds i v=cs:=by
    apply Array.ext_getElem?
    intro j
    rw [Array.getElem?_setIfInBounds]
    split
    ·rename_i e;subst e
     rw [if_pos (La hv),hv]
    ·rfl
   rw [this]
  ·exact heap_setCell_other _ _ _ _ hk
 unfold World.setCell at *
 cases w
 simp only [World.mk.injEq] at *
 exact ⟨h,trivial,trivial,trivial,trivial⟩
def Xap (o:Ks):Value:=.agg (X8 o.fault o.value o.compares o.nodes)
def Xc8:Ks:=⟨0,0,0,0⟩
def Xjr (e:Int):Value:=.tuple #[Xap Xc8,.agg #[ν,ν],ν,ι e]
theorem Yk {w w':World} (hb:Below w.heap.size w w') {b:Nat} {o:Obj} (h:w.heap[b]?=some o):w'.heap[b]?=some o:=by rw [hb.block b (La h)];exact h
def Xdz (c:Cod) (m:Mm) (x:Cal) (fuel:Int) (w:World) (e:Ending) (w':World):Prop:=
 (Yd c x fuel≠0/\e=.returned (Xjr (Yd c x fuel))/\Below w.heap.size w w')\/
 (Yd c x fuel=0/\∃ m1 o p gv nv lv bo bl cells Fg Fn,Zm c (Zo c x fuel) m1/\Zx c m1 ⟨m,[],0⟩ o p/\e=.returned (.tuple #[Xap o,.agg #[gv,nv],lv,ι 0])/\Qs w' bo p.mem gv nv cells Fg Fn/\Vm w' bl p.log lv/\Uv c p.mem/\p.log.length<=1000000000000/\(∀ b∈bo::(Fg++(nv.ownBlock.toList++Fn)),w.heap.size<=b)/\(∀ b∈bl::lv.ownBlock.toList,w.heap.size<=b)/\Below w.heap.size w w')
def Uf (bo:Nat) (nv:Value) (Fg Fn:List Nat):List Nat:=bo::(Fg++(nv.ownBlock.toList++Fn))
def Vh (bl:Nat) (lv:Value):List Nat:=bl::lv.ownBlock.toList
def Dj (X Y:List Nat):Prop:=∀ b∈X,b∉Y
theorem Dj.symm {X Y:List Nat} (h:Dj X Y):Dj Y X:=fun b hb hx=>h b hx hb
theorem Dj.keep {X X' Y:List Nat} {w w':World} (h:Dj X Y) (hM:Xp X X' w w') (hY:∀ b∈Y,b<w.heap.size):∀ b∈Y,w'.heap[b]?=w.heap[b]?:=fun b hb=>hM.block b (hY b hb) (fun e=>h b e hb)
structure PSt (A:Nat) (W wr:World) (bm bo bl bc:Nat) (m:Mch) (p:Ply) (fault value cmp:Int) (Fm:List Nat) (gv nv:Value) (cells:List Value) (Fg Fn:List Nat) (lv:Value):Prop where
 mach:X3 wr bm m Fm
 mem:Qs wr bo p.mem gv nv cells Fg Fn
 log:Vm wr bl p.log lv
 out:Y7 wr bc fault value cmp p.nodes
 d1:Dj Fm (Uf bo nv Fg Fn)
 d2:Dj Fm (Vh bl lv)
 d3:Dj Fm [bc]
 d4:Dj (Uf bo nv Fg Fn) (Vh bl lv)
 d5:Dj (Uf bo nv Fg Fn) [bc]
 d6:Dj (Vh bl lv) [bc]
 g1:∀ b∈Fm,A<=b
 g2:∀ b∈Uf bo nv Fg Fn,A<=b
 g3:∀ b∈Vh bl lv,A<=b
 g4:A<=bc
 aw:A<=W.heap.size
 bel:Below A W wr
variable {A:Nat} {W wr w':World} {bm bo bl bc:Nat} {m:Mch} {p:Ply} {fault value cmp:Int} {Fm:List Nat} {gv nv:Value} {cells:List Value} {Fg Fn:List Nat} {lv:Value}
theorem PSt.ltO (h:PSt A W wr bm bo bl bc m p fault value cmp Fm gv nv cells Fg Fn lv):∀ b∈Uf bo nv Fg Fn,b<wr.heap.size:=h.mem.lt
theorem PSt.ltL (h:PSt A W wr bm bo bl bc m p fault value cmp Fm gv nv cells Fg Fn lv):∀ b∈Vh bl lv,b<wr.heap.size:=h.log.lt
theorem PSt.aWr (h:PSt A W wr bm bo bl bc m p fault value cmp Fm gv nv cells Fg Fn lv):A<=wr.heap.size:=Nt h.aw h.bel.size
theorem PSt.keep (h:PSt A W wr bm bo bl bc m p fault value cmp Fm gv nv cells Fg Fn lv) (hb:Below wr.heap.size wr w'):PSt A W w' bm bo bl bc m p fault value cmp Fm gv nv cells Fg Fn lv:=
 ⟨h.mach.keep hb,h.mem.keep (fun b aA=>hb.block b (h.ltO b aA)),h.log.keep (fun b aA=>hb.block b (h.ltL b aA)),Yk hb h.out,h.d1,h.d2,h.d3,h.d4,h.d5,h.d6,h.g1,h.g2,h.g3,h.g4,h.aw,h.bel.trans (hb.mono h.aWr)⟩
theorem Yv.frozen {w:World} {lb n cap:Nat} {l:List Int} {F:List Nat} (h:Yv w (σ (some (π lb 0)) n cap) l F) (j:Nat):w.frozen? (π lb j)=false:=by
 rcases h.1.2 with ⟨h1,_⟩|⟨g,cap,aA,h1,hb,hg,_⟩
 ·simp at h1
 ·simp at h1
  obtain ⟨⟨rfl,_⟩,_⟩:=h1
  exact Fz hg
theorem Yj.funs {B:Nat} {w:World} {fv g gv:Value} {c:Cod} (h:Yj B w (.agg #[fv,g,gv]) c):Xf B w 5 (Zl B) gv c.funcs:=by
 obtain ⟨a,b,h1,_,h2,_⟩:=h
 simp only [Value.agg.injEq,Array.mk.injEq,List.cons.injEq,and_true] at h1
 rw [h1.2.2];exact h2
def Xvb (W:World) (b j:Nat) (v:Value):Prop:=W.setCell (π b j) v=W/\W.cell? (π b j)=some v/\W.frozen? (π b j)=false
theorem Xs7 {W:World} {b j:Nat} {v:Value} {cs:Array Value} {t:TypeId} (h:W.heap[b]?=some (χ cs t (0,0))) (hv:cs[j]?=some v):Xvb W b j v:=
 ⟨Xg h hv,by rw [cell_of_row _ _ _ _ _ _ h];exact hv,Fz h⟩
def PBx (c0 c1 c2 m0 m1 x0 x1:Value) (n:Nat) (V:World):Prop:=V.heap[n]?=some (χ #[c0,c1,c2] 25 (0,0))/\V.heap[n+1]?=some (χ #[m0,m1] 28 (0,0))/\V.heap[n+1+1]?=some (χ #[x0,x1] 80 (0,0))/\Y7 V (n+1+1+1) 0 0 0 0/\V.heap[n+1+1+1+1]?=some (χ #[ν,ν] 28 (0,0))/\V.heap[n+1+1+1+1+1]?=some (χ #[ν] 120 (0,0))
theorem PBx.keep {c0 c1 c2 m0 m1 x0 x1:Value} {n:Nat} {V V':World} (h:PBx c0 c1 c2 m0 m1 x0 x1 n V) (hb:Below V.heap.size V V'):PBx c0 c1 c2 m0 m1 x0 x1 n V':=⟨Yk hb h.1,Yk hb h.2.1,Yk hb h.2.2.1,Yk hb h.2.2.2.1,Yk hb h.2.2.2.2.1,Yk hb h.2.2.2.2.2⟩
theorem cell_row {V:World} {b j:Nat} {cs:Array Value} {t:TypeId} (h:V.heap[b]?=some (χ cs t (0,0))):V.cell? (π b j)=cs[j]?:=cell_of_row _ _ _ _ _ _ h
theorem PBx.code {c0 c1 c2 m0 m1 x0 x1:Value} {n:Nat} {V V':World} (h:PBx c0 c1 c2 m0 m1 x0 x1 n V) (e:V'.heap[n]?=V.heap[n]?):V'.cell? (π n 0)=some c0/\V'.cell? (π n 1)=some c1/\V'.cell? (π n 2)=some c2/\n<V'.heap.size:=
 have h:=e.trans h.1
 ⟨cell_row h,cell_row h,cell_row h,(La h)⟩
theorem PBx.outs {c0 c1 c2 m0 m1 x0 x1:Value} {n:Nat} {V:World} (h:PBx c0 c1 c2 m0 m1 x0 x1 n V) :
  Xvb V (n+1+1+1) 0 (ι 0)/\Xvb V (n+1+1+1) 1 (ι 0)/\Xvb V (n+1+1+1) 2 (ι 0)/\Xvb V (n+1+1+1) 3 (ι 0)/\Xvb V (n+1+1+1) 4 (ι 0)/\Xvb V (n+1+1+1+1) 0 ν/\Xvb V (n+1+1+1+1) 1 ν/\Xvb V (n+1+1+1+1+1) 0 ν/\n+1+1+1<V.heap.size/\n+1+1+1+1<V.heap.size/\n+1+1+1+1+1<V.heap.size:=
 ⟨Xs7 h.2.2.2.1 rfl,Xs7 h.2.2.2.1 rfl,Xs7 h.2.2.2.1 rfl,Xs7 h.2.2.2.1 rfl,Xs7 h.2.2.2.1 rfl,Xs7 h.2.2.2.2.1 rfl,Xs7 h.2.2.2.2.1 rfl,Xs7 h.2.2.2.2.2 rfl,(La h.2.2.2.1),(La h.2.2.2.2.1),(La h.2.2.2.2.2)⟩
theorem PSt.outs {A:Nat} {W wr:World} {bm bo bl bc:Nat} {m:Mch} {p:Ply} {f v k:Int} {Fm Fg Fn:List Nat} {gv nv lv:Value} {cells:List Value} (h:PSt A W wr bm bo bl bc m p f v k Fm gv nv cells Fg Fn lv) :
  Xvb wr bc 0 (ι f)/\Xvb wr bc 1 (ι v)/\Xvb wr bc 2 (ι k)/\Xvb wr bc 3 (ι p.nodes)/\Xvb wr bc 4 (ι 0)/\Xvb wr bo 0 gv/\Xvb wr bo 1 nv/\Xvb wr bl 0 lv/\bc<wr.heap.size/\bo<wr.heap.size/\bl<wr.heap.size:=
 ⟨Xs7 h.out rfl,Xs7 h.out rfl,Xs7 h.out rfl,Xs7 h.out rfl,Xs7 h.out rfl,Xs7 h.mem.box rfl,Xs7 h.mem.box rfl,Xs7 h.log.box rfl,(La h.out),(La h.mem.box),(La h.log.box)⟩
theorem Zj.rd {w:World}:∀ {xs:List Nod} {cells:List Value} {F:List Nat} {i:Nat} {x:Nod},Zj w cells xs F->xs[i]?=some x->∃ lv Fl,cells[i*2]?=some (ι x.type)/\cells[i*2+1]?=some lv/\Yv w lv x.f Fl/\in64 x.type
 | [],_,_,_,_,_,hx=>by simp at hx
 | g::xs,cells,F,0,x,h,hx=>by
  obtain ⟨lv,cs,Fl,Fr,rfl,h2,h3,h4,rfl⟩:=h
  simp at hx
  subst hx
  exact ⟨lv,Fl,rfl,rfl,h2,h3⟩
 | g::xs,cells,F,i+1,x,h,hx=>by
  obtain ⟨lv,cs,Fl,Fr,rfl,h2,h3,h4,rfl⟩:=h
  obtain ⟨lv',aA,k1,k2,k3⟩:=h4.rd (by simpa using hx)
  refine ⟨lv',aA,?_,?_,k3⟩
  ·rw [show (i+1)*2=i*2+1+1 by omega];simpa using k1
  ·rw [show (i+1)*2+1=(i*2+1)+1+1 by omega];simpa using k2
theorem Qs.reads {w:World} {bo:Nat} {m:Mm} {gv nv:Value} {cells:List Value} {Fg Fn:List Nat} (h:Qs w bo m gv nv cells Fg Fn) (hg:m.globals.length<=140737488355328) (hn:m.nodes.length<=140737488355328) (hf:∀ x∈m.nodes,x.f.length<=140737488355328):MmV w.heap.size w (.agg #[gv,nv]) m:=by
 refine ⟨gv,nv,rfl,h.glob.reads hg,?_⟩
 have hc:=h.nodes.len
 rcases h.row.2 with ⟨rfl,h0⟩|⟨g,cap,aC,rfl,_,hg,aA,aB,_⟩
 ·have h3:m.nodes=[]:=List.eq_nil_of_length_eq_zero h0
  rw [h3]
  exact ⟨none,0,rfl,ψ,ψ,ω,.inl rfl⟩
 ·refine ⟨some (π g 0),cap,rfl,hn,aA,by unfold maxLen at aB;omega,.inr ⟨g,0,rfl,(La hg),fun i x hx=>?_⟩⟩
  obtain ⟨lv,Fl,k1,k2,k3,k4⟩:=h.nodes.rd hx
  have hi:=(Ll hx)
  rw [Nat.zero_add]
  refine ⟨?_,⟨lv,?_,k3.reads (hf x (Lm hx))⟩,k4⟩
  ·rw [h.row.cellAt _ ω];exact k1
  ·rw [h.row.cellAt _ ω];exact k2
theorem Uv.lens {c:Cod} (hs:Xv c) {m:Mm} (h:Uv c m):m.globals.length<=8/\m.nodes.length<=4096/\∀ x∈m.nodes,x.f.length<=12:=by
 refine ⟨by have h1:=h.gl;have h2:=hs.1.2.2.2.1;omega,h.len,fun x hx=>?_⟩
 have h1:=(h.nodes x hx).2.1
 have h2:=hs.1.2.1
 rw [List.any_eq_false] at h2
 have:=h2 _ (Lm h1)
 simp at this
 omega
def Xf4 (w:World) (b o:Nat) (a:Acc):Prop:=w.cell? (π b o)=some (ι a.kind)/\w.cell? (π b (o+1))=some (ι a.node)/\w.cell? (π b (o+2))=some (ι a.field)
theorem Xf4.below {B:Nat} {w w':World} (hb:Below B w w') {b o:Nat} {a:Acc} (h:b<B) (hE:Xf4 w b o a):Xf4 w' b o a:=by
 unfold Xf4 at *;rw [Xbl hb h,Xbl hb h,Xbl hb h];exact hE
theorem Xci:∀ {l:List Acc} {i:Nat} {a:Acc},l[i]?=some a->(Zf l)[i*3]?=some (ι a.kind)/\(Zf l)[i*3+1]?=some (ι a.node)/\(Zf l)[i*3+2]?=some (ι a.field)
 | [],_,_,h=>by simp at h
 | x::l,0,a,h=>by
  simp at h
  subst h
  simp [Zf]
 | x::l,i+1,a,h=>by
  obtain ⟨h1,h2,h3⟩:=Xci (l:=l) (i:=i) (a:=a) (by simpa using h)
  have e:Zf (x::l)=[ι x.kind,ι x.node,ι x.field]++Zf l:=rfl
  rw [e]
  refine ⟨?_,?_,?_⟩
  ·rw [show (i+1)*3=i*3+1+1+1 by omega];simpa using h1
  ·rw [show (i+1)*3+1=(i*3+1)+1+1+1 by omega];simpa using h2
  ·rw [show (i+1)*3+2=(i*3+2)+1+1+1 by omega];simpa using h3
theorem Vm.reads {w:World} {bl:Nat} {l:List Acc} {v:Value} (h:Vm w bl l v) (hl:l.length<=140737488355328):Xf w.heap.size w 3 Xf4 v l:=by
 rcases h.row.2 with ⟨rfl,h0⟩|⟨g,cap,aC,rfl,_,hg,aA,aB,_⟩
 ·have h3:l=[]:=List.eq_nil_of_length_eq_zero h0
  subst h3
  exact ⟨none,0,rfl,ψ,ψ,ω,.inl rfl⟩
 ·refine ⟨some (π g 0),cap,rfl,hl,aA,by unfold maxLen at aB;omega,.inr ⟨g,0,rfl,(La hg),fun i x hx=>?_⟩⟩
  obtain ⟨k1,k2,k3⟩:=Xci hx
  have hi:=(Ll hx)
  rw [Nat.zero_add]
  refine ⟨?_,?_,?_⟩
  ·rw [h.row.cellAt _ ω];exact k1
  ·rw [h.row.cellAt _ ω];exact k2
  ·rw [h.row.cellAt _ ω];exact k3
def Xmb (c:Cod) (m:Mm) (x:Cal) (fuel er:Int):Prop:=(¬(Xv c/\Q7 c m=true)/\er=1)\/(Xv c/\Q7 c m=true/\er=Yd c x fuel)
theorem Xmb.det {c:Cod} {m:Mm} {x:Cal} {fuel a b:Int} (h:Xmb c m x fuel a) (k:Xmb c m x fuel b):a=b:=by
 rcases h with ⟨h1,h2⟩|⟨h1,h2,h3⟩
 ·rcases k with ⟨_,k2⟩|⟨k1,k2,_⟩
  ·rw [h2,k2]
  ·exact absurd ⟨k1,k2⟩ h1
 ·rcases k with ⟨k1,_⟩|⟨_,_,k3⟩
  ·exact absurd ⟨h1,h2⟩ k1
  ·rw [h3,k3]
def Xb4 (c:Cod) (m:Mm) (x:Cal) (fuel:Int) (w:World) (e:Ending) (w':World):Prop:=
 (¬(Xv c/\Q7 c m=true)/\e=.returned (Xjr 1)/\Below w.heap.size w w')\/(Xv c/\Q7 c m=true/\Xdz c m x fuel w e w')
def Xbg (A:Nat) (c:Cod) (m:Mm) (x:Cal) (fuel er:Int) (o:Ks) (gv nv lv:Value) (w':World):Prop:=
 (er≠0/\o=Xc8/\gv=ν/\nv=ν/\lv=ν)\/
 (er=0/\Xv c/\Q7 c m=true/\∃ m1 p bo bl cells Fg Fn,Zm c (Zo c x fuel) m1/\Zx c m1 ⟨m,[],0⟩ o p/\Qs w' bo p.mem gv nv cells Fg Fn/\Vm w' bl p.log lv/\Uv c p.mem/\p.log.length<=1000000000000/\(∀ b∈bo::(Fg++(nv.ownBlock.toList++Fn)),A<=b)/\(∀ b∈bl::lv.ownBlock.toList,A<=b))
theorem Xbg.keep {A:Nat} {c:Cod} {m:Mm} {x:Cal} {fuel er:Int} {o:Ks} {gv nv lv:Value} {w w':World} (h:Xbg A c m x fuel er o gv nv lv w) (hb:∀ b,A<=b->b<w.heap.size->w'.heap[b]?=w.heap[b]?):Xbg A c m x fuel er o gv nv lv w':=by
 rcases h with h|⟨h1,h2,h3,m1,p,bo,bl,cells,Fg,Fn,h4,h5,h6,h7,h8,h9,aB,aC⟩
 ·exact .inl h
 ·exact .inr ⟨h1,h2,h3,m1,p,bo,bl,cells,Fg,Fn,h4,h5,h6.keep (fun b aA=>hb b (aB b aA) (h6.lt b aA)),h7.keep (fun b aA=>hb b (aC b aA) (h7.lt b aA)),h8,h9,aB,aC⟩
theorem Xbg.low {A A':Nat} {c:Cod} {m:Mm} {x:Cal} {fuel er:Int} {o:Ks} {gv nv lv:Value} {w:World} (h:Xbg A c m x fuel er o gv nv lv w) (hA:A'<=A):Xbg A' c m x fuel er o gv nv lv w:=by
 rcases h with h|⟨h1,h2,h3,m1,p,bo,bl,cells,Fg,Fn,h4,h5,h6,h7,h8,h9,aA,aB⟩
 ·exact .inl h
 ·exact .inr ⟨h1,h2,h3,m1,p,bo,bl,cells,Fg,Fn,h4,h5,h6,h7,h8,h9,fun b hb=>Nt hA (aA b hb),fun b hb=>Nt hA (aB b hb)⟩
theorem Xbg.reads {A:Nat} {c:Cod} {m:Mm} {x:Cal} {fuel:Int} {o:Ks} {gv nv lv:Value} {w:World} (h:Xbg A c m x fuel 0 o gv nv lv w):∃ m1 p,Zm c (Zo c x fuel) m1/\Zx c m1 ⟨m,[],0⟩ o p/\MmV w.heap.size w (.agg #[gv,nv]) p.mem/\Xf w.heap.size w 3 Xf4 lv p.log/\Uv c p.mem/\p.log.length<=1000000000000:=by
 rcases h with ⟨h,_⟩|⟨h1,hs,h3,m1,p,bo,bl,cells,Fg,Fn,h4,h5,h6,h7,h8,h9,aA,aB⟩
 ·exact absurd rfl h
 ·obtain ⟨k1,k2,k3⟩:=h8.lens hs
  exact ⟨m1,p,h4,h5,h6.reads ω ω (fun x hx=>by have:=k3 x hx;omega),h7.reads ω,h8,h9⟩
def Xqg (c:Cod) (m:Mm) (x:Cal) (fuel:Int) (w:World) (e:Ending) (w':World):Prop:=
 ∃ (er:Int) (o:Ks) (ga na la:Option Addr) (gn gc nn nc ln lc:Nat),e=.returned (.tuple #[Xap o,.agg #[σ ga gn gc,σ na nn nc],σ la ln lc,ι er])/\Xmb c m x fuel er/\Xbg w.heap.size c m x fuel er o (σ ga gn gc) (σ na nn nc) (σ la ln lc) w'/\Below w.heap.size w w'
theorem Xb4.rd {c:Cod} {m:Mm} {x:Cal} {fuel:Int} {w:World} {e:Ending} {w':World} (h:Xb4 c m x fuel w e w'):Xqg c m x fuel w e w':=by
 rcases h with ⟨h1,rfl,hb⟩|⟨hs,hf,⟨h1,rfl,hb⟩|⟨h1,m1,o,p,gv,nv,lv,bo,bl,cells,Fg,Fn,h2,h3,rfl,h4,h5,h6,h7,h8,h9,hb⟩⟩
 ·exact ⟨1,Xc8,none,none,none,0,0,0,0,0,0,rfl,.inl ⟨h1,rfl⟩,.inl ⟨δ,rfl,rfl,rfl,rfl⟩,hb⟩
 ·exact ⟨_,Xc8,none,none,none,0,0,0,0,0,0,rfl,.inr ⟨hs,hf,rfl⟩,.inl ⟨h1,rfl,rfl,rfl,rfl⟩,hb⟩
 ·obtain ⟨ga,gc,rfl⟩:=(Zs h4.glob.1).2.2
  obtain ⟨na,nc,rfl⟩:=(Zs h4.row).2.2
  obtain ⟨la,lc,rfl⟩:=(Zs h5.row).2.2
  exact ⟨0,o,ga,na,la,_,gc,_,nc,_,lc,rfl,.inr ⟨hs,hf,h1.symm⟩,.inr ⟨rfl,hs,hf,m1,p,bo,bl,cells,Fg,Fn,h2,h3,h4,h5,h6,h7,h8,h9⟩,hb⟩
