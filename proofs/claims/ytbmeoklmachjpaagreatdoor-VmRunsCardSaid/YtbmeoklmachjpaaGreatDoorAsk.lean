/- A memory and a log that the call owns. The contract of the function that notes an access. play: its results; where it returns an error at once. MADE BY wip/gen_pla.py A node is added to a memory that the call owns. play behind its tests: the copy of the memory. MADE BY wip/gen_pla.py The state of a run over a memory, and what the steps do to it. What holds while a machine plays over a memory. -/
import Derived.Test.YtbmeoklmachjpaaGreatDoorPly
import Derived.Deep.AppendLies
import Derived.Outline
import Derived.Deep.RegionLaw
import Derived.Deep.DeepCutAuto
import Derived.Deep.RegionWith
set_option maxHeartbeats 2000000
set_option maxRecDepth 1000000
set_option linter.unusedVariables false
set_option linter.unusedSimpArgs false
namespace Go.Proofs.YtbmeoklmachjpaaGreatDoor
open Go.RowKit
def Zj (w:World):List Value→List Nod→List Nat→Prop
 | cells,[],F=>cells=[]∧F=[]
 | cells,x::xs,F=>∃ lv cs Fl Fr,cells=.int .i64 x.type::lv::cs∧Yv w lv x.f Fl∧in64 x.type∧Zj w cs xs Fr∧F=Fl++Fr
theorem Zj.keep {w w':World}:∀ {xs:List Nod} {cells:List Value} {F:List Nat},Zj w cells xs F→(∀ b∈F,w'.heap[b]?=w.heap[b]?)→Zj w' cells xs F
 | [],_,_,h,_=>h
 | _::_,_,_,h,hk=>by
  obtain ⟨lv,cs,Fl,Fr,h1,h2,h3,h4,rfl⟩:=h
  exact ⟨lv,cs,Fl,Fr,h1,h2.keep (fun b hb=>hk b (by simp [hb])),h3,h4.keep (fun b hb=>hk b (by simp [hb])),rfl⟩
theorem Zj.lt {w:World}:∀ {xs:List Nod} {cells:List Value} {F:List Nat},Zj w cells xs F→∀ b∈F,b<w.heap.size
 | [],_,_,h,b,hb=>by obtain ⟨_,rfl⟩:=h;simp at hb
 | _::_,_,_,h,b,hb=>by
  obtain ⟨lv,cs,Fl,Fr,h1,h2,h3,h4,rfl⟩:=h
  rw [List.mem_append] at hb
  rcases hb with hb|hb
  ·exact h2.lt b hb
  ·exact h4.lt b hb
theorem Zj.len {w:World}:∀ {xs:List Nod} {cells:List Value} {F:List Nat},Zj w cells xs F→cells.length=xs.length*2
 | [],_,_,h=>by obtain ⟨rfl,_⟩:=h;rfl
 | _::_,_,_,h=>by
  obtain ⟨lv,cs,Fl,Fr,rfl,h2,h3,h4,rfl⟩:=h
  simp [h4.len]
  omega
theorem Zj.add {w:World}:∀ {xs:List Nod} {x:Nod} {cs:List Value} {lv:Value} {Fi Fl:List Nat},Zj w cs xs Fi→Yv w lv x.f Fl→in64 x.type→Zj w (cs++[.int .i64 x.type,lv]) (xs++[x]) (Fi++Fl)
 | [],x,cs,lv,Fi,Fl,h,h2,h4=>by
  obtain ⟨rfl,rfl⟩:=h
  exact ⟨lv,[],Fl,[],rfl,h2,h4,⟨rfl,rfl⟩,by simp⟩
 | g::xs,x,cs,lv,Fi,Fl,h,h2,h4=>by
  obtain ⟨lv',cs',Fl',Fr',rfl,k2,k3,k4,rfl⟩:=h
  exact ⟨lv',_,Fl',Fr'++Fl,rfl,k2,k3,k4.add h2 h4,by simp⟩
theorem Yv.set {w:World} {lb cap:Nat} {l:List Int} {F:List Nat} (h:Yv w (.slice (some ⟨lb,0,none⟩) l.length cap) l F) (j:Nat) (v:Int) (h64:in64 v):Yv (w.setCell ⟨lb,j,none⟩ (.int .i64 v)) (.slice (some ⟨lb,0,none⟩) l.length cap) (l.set j v) F:=by
 obtain ⟨h1,h2,h3⟩:=h
 refine ⟨?_,h2,fun n hn=>?_⟩
 ·have:=(h1.stored j (.int .i64 v)).1
  rw [←List.map_set] at this
  simpa using this
 ·rcases List.mem_or_eq_of_mem_set hn with h|h
  ·exact h3 n h
  ·rw [h];exact h64
/-- node i: where its list lies, and what a write into it leaves -/
theorem Zj.at_ {w:World}:∀ {xs:List Nod} {cells:List Value} {F:List Nat} {i:Nat} {x:Nod},Zj w cells xs F→F.Nodup→xs[i]?=some x→
  ∃ lv Fl,cells[i*2+1]?=some lv∧Yv w lv x.f Fl∧(∀ b∈Fl,b∈F)∧∀ lb cap (j:Nat) (v:Int),lv=.slice (some ⟨lb,0,none⟩) x.f.length cap→lb∈Fl→in64 v→Zj (w.setCell ⟨lb,j,none⟩ (.int .i64 v)) cells (xs.modify i (fun x=>Xem x j v)) F
 | [],_,_,_,_,_,_,hx=>by simp at hx
 | g::xs,cells,F,0,x,h,hnd,hx=>by
  obtain ⟨lv,cs,Fl,Fr,rfl,h2,h3,h4,rfl⟩:=h
  simp at hx
  subst hx
  refine ⟨lv,Fl,by simp,h2,fun b hb=>by simp [hb],fun lb cap j v hlv hlb h64=>?_⟩
  subst hlv
  rw [List.nodup_append] at hnd
  have hl:(Xem g j v).f.length=g.f.length:=by simp [Xem]
  refine ⟨.slice (some ⟨lb,0,none⟩) g.f.length cap,cs,Fl,Fr,rfl,h2.set j v h64,h3,h4.keep (fun b hb=>heap_setCell_other _ _ _ _ (fun e=>hnd.2.2 lb hlb b hb e.symm)),rfl⟩
 | g::xs,cells,F,i+1,x,h,hnd,hx=>by
  obtain ⟨lv,cs,Fl,Fr,rfl,h2,h3,h4,rfl⟩:=h
  rw [List.nodup_append] at hnd
  obtain ⟨lv',Fl',k1,k2,k3,k4⟩:=h4.at_ hnd.2.1 (by simpa using hx)
  refine ⟨lv',Fl',?_,k2,fun b hb=>by simp [k3 b hb],fun lb cap j v hlv hlb h64=>?_⟩
  ·rw [show (i+1)*2+1=(i*2+1)+1+1 by omega]
   simpa using k1
  ·exact ⟨lv,cs,Fl,Fr,rfl,h2.keep (fun b hb=>heap_setCell_other _ _ _ _ (fun e=>hnd.2.2 b hb lb (k3 lb hlb) e)),h3,k4 lb cap j v hlv hlb h64,rfl⟩
/-- a memory in block bo, its nodes in row nv -/
structure Qs (w:World) (bo:Nat) (m:Mm) (gv nv:Value) (cells:List Value) (Fg Fn:List Nat):Prop where
 box:w.heap[bo]?=some (.cells #[gv,nv] 52 (0,0))
 glob:Yv w gv m.globals Fg
 row:w.ownsRow 0 107 2 nv m.nodes.length cells
 nodes:Zj w cells m.nodes Fn
 nodup:(bo::(Fg++(nv.ownBlock.toList++Fn))).Nodup
def Xrv (w:World) (bo:Nat) (m:Mm) (F:List Nat):Prop:=∃ gv nv cells Fg Fn,Qs w bo m gv nv cells Fg Fn∧F=bo::(Fg++(nv.ownBlock.toList++Fn))
theorem Ve {w:World} {e:TypeId} {size:Nat} {v:Value} {n:Nat} {xs:List Value} (h:w.ownsRow 0 e size v n xs):∀ b∈v.ownBlock.toList,b<w.heap.size:=fun b hb=>by
 rcases h.2 with ⟨rfl,_⟩|⟨g,cap,cur,rfl,_,hg,_⟩
 ·simp [Value.ownBlock] at hb
 ·simp [Value.ownBlock] at hb;subst hb;exact (La hg)
theorem Qi {w w':World} {e:TypeId} {size:Nat} {v:Value} {n:Nat} {xs:List Value} (h:w.ownsRow 0 e size v n xs) (hk:∀ b∈v.ownBlock.toList,w'.heap[b]?=w.heap[b]?):w'.ownsRow 0 e size v n xs:=by
 refine ⟨h.1,?_⟩
 rcases h.2 with h|⟨g,cap,cur,rfl,hb,hg,r⟩
 ·exact .inl h
 ·exact .inr ⟨g,cap,cur,rfl,hb,by rw [hk g (by simp [Value.ownBlock])];exact hg,r⟩
theorem Qs.lt {w:World} {bo:Nat} {m:Mm} {gv nv:Value} {cells:List Value} {Fg Fn:List Nat} (h:Qs w bo m gv nv cells Fg Fn):∀ b∈bo::(Fg++(nv.ownBlock.toList++Fn)),b<w.heap.size:=fun b hb=>by
 rw [List.mem_cons,List.mem_append,List.mem_append] at hb
 rcases hb with rfl|hb|hb|hb
 ·exact (La h.box)
 ·exact h.glob.lt b hb
 ·exact Ve h.row b hb
 ·exact h.nodes.lt b hb
theorem Qs.keep {w w':World} {bo:Nat} {m:Mm} {gv nv:Value} {cells:List Value} {Fg Fn:List Nat} (h:Qs w bo m gv nv cells Fg Fn) (hk:∀ b∈bo::(Fg++(nv.ownBlock.toList++Fn)),w'.heap[b]?=w.heap[b]?):Qs w' bo m gv nv cells Fg Fn:=
 ⟨by rw [hk bo (by simp)];exact h.box,h.glob.keep (fun b hb=>hk b (by simp [hb])),Qi h.row (fun b hb=>hk b (by simp only [List.mem_cons,List.mem_append];exact .inr (.inr (.inl hb)))),h.nodes.keep (fun b hb=>hk b (by simp [hb])),h.nodup⟩
/-- a write into the globals -/
theorem Qs.setG {w:World} {bo:Nat} {m:Mm} {nv:Value} {cells:List Value} {Fg Fn:List Nat} {gb gc:Nat} (h:Qs w bo m (.slice (some ⟨gb,0,none⟩) m.globals.length gc) nv cells Fg Fn) (j:Nat) (v:Int) (h64:in64 v) :
  Qs (w.setCell ⟨gb,j,none⟩ (.int .i64 v)) bo { m with globals:=m.globals.set j v } (.slice (some ⟨gb,0,none⟩) m.globals.length gc) nv cells Fg Fn∧gb∈Fg:=by
 have hgb:gb∈Fg:=by rw [h.glob.2.1];simp [Value.ownBlock]
 have hnd:=h.nodup
 rw [List.nodup_cons,List.nodup_append] at hnd
 have ho:∀ b,b≠gb→(w.setCell ⟨gb,j,none⟩ (.int .i64 v)).heap[b]?=w.heap[b]?:=fun b hb=>heap_setCell_other _ _ _ _ hb
 refine ⟨⟨?_,h.glob.set j v h64,Qi h.row (fun b hb=>ho b (fun e=>hnd.2.2.2 gb hgb b (by simp only [List.mem_append];exact .inl hb) e.symm)),h.nodes.keep (fun b hb=>ho b (fun e=>hnd.2.2.2 gb hgb b (by simp [hb]) e.symm)),h.nodup⟩,hgb⟩
 rw [ho bo (fun e=>hnd.1 (by rw [e];simp [hgb]))]
 exact h.box
/-- a write into a node -/
theorem Qs.setN {w:World} {bo:Nat} {m:Mm} {gv nv:Value} {cells:List Value} {Fg Fn:List Nat} (h:Qs w bo m gv nv cells Fg Fn) {i:Nat} {x:Nod} (hx:m.nodes[i]?=some x) :
  ∃ lv Fl,cells[i*2+1]?=some lv∧Yv w lv x.f Fl∧(∀ b∈Fl,b∈Fn)∧∀ lb cap (j:Nat) (v:Int),lv=.slice (some ⟨lb,0,none⟩) x.f.length cap→lb∈Fl→in64 v→Qs (w.setCell ⟨lb,j,none⟩ (.int .i64 v)) bo { m with nodes:=m.nodes.modify i (fun x=>Xem x j v) } gv nv cells Fg Fn:=by
 have hnd:=h.nodup
 rw [List.nodup_cons,List.nodup_append,List.nodup_append] at hnd
 obtain ⟨lv,Fl,k1,k2,k3,k4⟩:=h.nodes.at_ hnd.2.2.1.2.1 hx
 refine ⟨lv,Fl,k1,k2,k3,fun lb cap j v hlv hlb h64=>?_⟩
 have hlb2:=k3 lb hlb
 have ho:∀ b,b≠lb→(w.setCell ⟨lb,j,none⟩ (.int .i64 v)).heap[b]?=w.heap[b]?:=fun b hb=>heap_setCell_other _ _ _ _ hb
 refine ⟨?_,h.glob.keep (fun b hb=>ho b (fun e=>hnd.2.2.2 b hb lb (by simp [hlb2]) e)),?_,k4 lb cap j v hlv hlb h64,h.nodup⟩
 ·rw [ho bo (fun e=>hnd.1 (by rw [e];simp [hlb2]))];exact h.box
 ·have:=Qi (w':=w.setCell ⟨lb,j,none⟩ (.int .i64 v)) h.row (fun b hb=>ho b (fun e=>hnd.2.2.1.2.2 b hb lb hlb2 e))
  simpa using this
/-- a log in block bl -/
def Zf (l:List Acc):List Value:=l.flatMap (fun a=>[.int .i64 a.kind,.int .i64 a.node,.int .i64 a.field])
theorem Xoq (l:List Acc):(Zf l).length=l.length*3:=by
 induction l with
 | nil=>rfl
 | cons a l ih=>
  unfold Zf at *
  simp only [List.flatMap_cons,List.length_append,ih,List.length_cons,List.length_nil]
  omega
structure Vm (w:World) (bl:Nat) (l:List Acc) (v:Value):Prop where
 box:w.heap[bl]?=some (.cells #[v] 60 (0,0))
 row:w.ownsRow 0 70 3 v l.length (Zf l)
 ne:bl∉v.ownBlock.toList
theorem Vm.keep {w w':World} {bl:Nat} {l:List Acc} {v:Value} (h:Vm w bl l v) (hk:∀ b∈bl::v.ownBlock.toList,w'.heap[b]?=w.heap[b]?):Vm w' bl l v:=
 ⟨by rw [hk bl (by simp)];exact h.box,Qi h.row (fun b hb=>hk b (by rw [List.mem_cons];exact .inr hb)),h.ne⟩
theorem Vm.lt {w:World} {bl:Nat} {l:List Acc} {v:Value} (h:Vm w bl l v):∀ b∈bl::v.ownBlock.toList,b<w.heap.size:=fun b hb=>by
 rw [List.mem_cons] at hb
 rcases hb with rfl|hb
 ·exact (La h.box)
 ·exact Ve h.row b hb
theorem Xgo:(Tryz.prog.info? 70).map (fun i=>(i.zero,i.size,i.bytes))=some (some (.agg #[.int .i64 0,.int .i64 0,.int .i64 0]),3,24):=by kernel_rfl
theorem Xfb:(Tryz.prog.info? 107).map (fun i=>(i.zero,i.size,i.bytes))=some (some (.agg #[.int .i64 0,.slice none 0 0]),2,32):=by kernel_rfl
def X8 (fault value compares nodes:Int):Array Value:=#[.int .i64 fault,.int .i64 value,.int .i64 compares,.int .i64 nodes,.int .i64 0]
def Y7 (w:World) (bc:Nat) (fault value compares nodes:Int):Prop:=w.heap[bc]?=some (.cells (X8 fault value compares nodes) 57 (0,0))
def Xc4 (w:World) (bl bc:Nat) (l:List Acc) (v:Value) (a:Acc) (fault value compares nodes:Int) (e:Ending) (w':World):Prop:=
 e=.returned (.tuple #[])∧∃ v',Vm w' bl (l++[a]) v'∧Y7 w' bc fault value compares (nodes+(if 0<a.node then 1 else 0))∧Xp (bc::bl::v.ownBlock.toList) (bc::bl::v'.ownBlock.toList) w w'∧bc∉bl::v'.ownBlock.toList
theorem Xs {w:World} {bc:Nat} {fault value compares nodes:Int} (h:Y7 w bc fault value compares nodes) (j:Nat) (v:Value) (hv:(X8 fault value compares nodes)[j]?=some v):w.cell? ⟨bc,j,none⟩=some v:=by
 rw [cell_of_row _ _ _ _ _ _ h];exact hv
theorem Xgd (l:List Acc) (a:Acc):Zf (l++[a])=Zf l++[.int .i64 a.kind,.int .i64 a.node,.int .i64 a.field]:=by
 unfold Zf;simp
theorem Vs {w:World} {bl bc:Nat} {l:List Acc} {v:Value} (kind node field fault value compares nodes:Int) (hL:Vm w bl l v) (hc:Y7 w bc fault value compares nodes) (hne:bc∉bl::v.ownBlock.toList) (hl:l.length≤1000000000000) (hn:0≤nodes∧nodes≤4611686018427387904) :
  Calls Tryz.prog 87 #[.int .i64 kind,.int .i64 node,.int .i64 field,.pointer (some ⟨bl,0,none⟩),.pointer (some ⟨bc,0,none⟩)] w (Xc4 w bl bc l v ⟨kind,node,field⟩ fault value compares nodes):=by
 obtain ⟨va,vc,rfl⟩:=(Zs hL.row).2.2
 obtain ⟨ti,hti,hz0,hz1,hz2⟩:=info_parts Xgo
 have k0:w.cell? ⟨bl,0,none⟩=some (.slice va l.length vc):=by rw [cell_of_row _ _ _ _ _ _ hL.box];rfl
 have zb:=(La hL.box)
 have zc:=(La hc)
 have HL:=Lh hL
 have HC:=Lh hc
 obtain ⟨W,hW⟩:∃ W,W=w.alloc (.cells #[.int .i64 kind,.int .i64 node,.int .i64 field] 70):=⟨_,rfl⟩
 have hb:Hid (Below w.heap.size w W):=by rw [hW];exact Xa _ _
 have hown:Hid (W.ownsRow 0 70 3 (.slice va l.length vc) l.length (Zf l)):=Lh (Qi hL.row (fun b hb'=>hb.out.block b (Ve hL.row b hb')))
 have hnews:Hid (∀ j u,([.int .i64 kind,.int .i64 node,.int .i64 field]:List Value)[j]?=some u→W.cell? ((⟨w.heap.size,0,none⟩:Addr).add j)=some u):=Lh (fun j u hu=>by
  rw [hW,Xbt,Nat.zero_add,Y5]
  simpa using hu)
 have hne1:bc≠bl:=fun e=>hne (by simp [e])
 have hne2:bc∉(Value.slice va l.length vc).ownBlock.toList:=fun e=>hne (List.mem_cons_of_mem _ e)
 have hne3:=hL.ne
 have hszW:W.heap.size=w.heap.size+1:=by rw [hW];simp
 have HSZ:=Lh hszW
 have step:∀ g cap w2,w2.ownsRow 0 70 3 (.slice (some ⟨g,0,none⟩) (l.length+1) cap) (l.length+1) (Zf l++[.int .i64 kind,.int .i64 node,.int .i64 field])→W.grownBy w2 (Value.slice va l.length vc).ownBlock→((Value.slice va l.length vc).ownBlock=some g∨g=w.heap.size+1)→
   g≠bl∧g≠bc∧w2.heap[bl]?=some (.cells #[.slice va l.length vc] 60 (0,0))∧Y7 w2 bc fault value compares nodes∧Xp (bc::bl::(Value.slice va l.length vc).ownBlock.toList) (bc::bl::[g]) w w2:=fun g cap w2 ho hg hlies=>by
  have hbl:w2.heap[bl]?=W.heap[bl]?:=hg.block bl (by omega) (fun e=>hne3 (by rw [←e];simp))
  have hbc:w2.heap[bc]?=W.heap[bc]?:=hg.block bc (by omega) (fun e=>hne2 (by rw [←e];simp))
  have hgb:g≠bl∧g≠bc:=by
   rcases hlies with h|h
   ·exact ⟨fun e=>hne3 (by rw [h,e];simp),fun e=>hne2 (by rw [h,e];simp)⟩
   ·exact ⟨by omega,by omega⟩
  refine ⟨hgb.1,hgb.2,by rw [hbl,hb.out.block bl zb];exact HL.out.box,by show w2.heap[bc]?=_;rw [hbc,hb.out.block bc zc];exact HC.out,⟨hg.os.trans hb.out.os,hg.tape.trans hb.out.tape,hg.output.trans hb.out.output,Nat.le_trans hb.out.size hg.size,fun k hk hF=>?_,fun b hb'=>?_⟩⟩
  ·rw [hg.block k (by omega) (fun e=>hF (by rw [←e];simp)),hb.out.block k hk]
  ·simp only [List.mem_cons,List.not_mem_nil,or_false] at hb'
   rcases hb' with rfl|rfl|rfl
   ·left;simp
   ·left;simp
   ·rcases hlies with h|h
    ·left;rw [h];simp
    ·right;omega
 have STEP:=Lh step
 clear hL hc hne hszW step
 have fin:∀ g cap w3 w4,w3.ownsRow 0 70 3 (.slice (some ⟨g,0,none⟩) (l.length+1) cap) (l.length+1) (Zf l++[.int .i64 kind,.int .i64 node,.int .i64 field])→g≠bl→g≠bc→w3.heap[bl]?=some (.cells #[.slice va l.length vc] 60 (0,0))→Y7 w3 bc fault value compares nodes→Xp (bc::bl::(Value.slice va l.length vc).ownBlock.toList) (bc::bl::[g]) w w3→
   (w4=w3.setCell ⟨bl,0,none⟩ (.slice (some ⟨g,0,none⟩) (l.length+1) cap)∧¬0<node∨w4=(w3.setCell ⟨bl,0,none⟩ (.slice (some ⟨g,0,none⟩) (l.length+1) cap)).setCell ⟨bc,3,none⟩ (.int .i64 (nodes+1))∧0<node)→Xc4 w bl bc l (.slice va l.length vc) ⟨kind,node,field⟩ fault value compares nodes (.returned (.tuple #[])) w4:=fun g cap w3 w4 ho h1 h2 h3 h4 hM hw=>by
  obtain ⟨W4,hW4⟩:∃ u,u=w3.setCell ⟨bl,0,none⟩ (.slice (some ⟨g,0,none⟩) (l.length+1) cap):=⟨_,rfl⟩
  have r1:W4.heap[bl]?=some (.cells #[.slice (some ⟨g,0,none⟩) (l.length+1) cap] 60 (0,0)):=by rw [hW4];exact heap_setCell_same _ _ _ _ _ _ h3
  have r2:Y7 W4 bc fault value compares nodes:=by show W4.heap[bc]?=_;rw [hW4,heap_setCell_other _ _ _ _ hne1];exact h4
  have r3:W4.ownsRow 0 70 3 (.slice (some ⟨g,0,none⟩) (l++[(⟨kind,node,field⟩:Acc)]).length cap) (l++[(⟨kind,node,field⟩:Acc)]).length (Zf (l++[(⟨kind,node,field⟩:Acc)])):=by
   rw [Xgd,List.length_append]
   exact Qi ho (fun b hb=>by simp [Value.ownBlock] at hb;subst hb;rw [hW4,heap_setCell_other _ _ _ _ h1])
  have r4:Xp (bc::bl::(Value.slice va l.length vc).ownBlock.toList) (bc::bl::[g]) w W4:=by
   rw [hW4]
   exact hM.trans ((Xw (bm:=bl)).wide (fun b hb=>by simp at hb;simp [hb]) (fun b hb=>.inr hb))
  have hle:(l++[(⟨kind,node,field⟩:Acc)]).length=l.length+1:=by simp
  rw [hle] at r3
  have hmem:bc∉bl::(Value.slice (some ⟨g,0,none⟩) (l.length+1) cap).ownBlock.toList:=by simp [Value.ownBlock];exact ⟨hne1,fun e=>h2 e.symm⟩
  rcases hw with ⟨rfl,hn0⟩|⟨rfl,hn0⟩
  ·rw [←hW4]
   exact ⟨rfl,_,⟨r1,by rw [hle];exact r3,by simp [Value.ownBlock];exact fun e=>h1 e.symm⟩,by rw [if_neg hn0,Int.add_zero];exact r2,r4,hmem⟩
  ·rw [←hW4]
   have ho5:∀ b,b≠bc→(W4.setCell ⟨bc,3,none⟩ (.int .i64 (nodes+1))).heap[b]?=W4.heap[b]?:=fun b hb=>heap_setCell_other _ _ _ _ hb
   refine ⟨rfl,.slice (some ⟨g,0,none⟩) (l.length+1) cap,⟨by rw [ho5 bl (fun e=>hne1 e.symm)];exact r1,by rw [hle];exact Qi r3 (fun b hb=>by simp [Value.ownBlock] at hb;subst hb;exact ho5 b h2),by simp [Value.ownBlock];exact fun e=>h1 e.symm⟩,?_,r4.trans ((Xw (bm:=bc)).wide (fun b hb=>by simp at hb;simp [hb]) (fun b hb=>.inr hb)),hmem⟩
   rw [if_pos hn0]
   have:=heap_setCell_same _ bc 3 _ _ (.int .i64 (nodes+1)) r2
   exact this
 have FIN:=Lh fin
 clear fin
 by_cases hnode:0<node
 ·have dn:decide (0<node)=true:=by simp [hnode]
  go_enter Tryz.func87,Tryz.ntmps87
  go_wp2_with (at_builtin;rw [←hW];clear hW;refine wpList_append_lies _ rfl (.tmp 8) (.tmp 13) 60 rfl 0 70 ti (.agg #[.int .i64 0,.int .i64 0,.int .i64 0]) 3 24 Tryz.underlying60 hti hz0 hz1 hz2 rfl (by decide) (.slice va l.length vc) l.length (Zf l) rfl hown.out ⟨w.heap.size,0,none⟩ 1 1 [.int .i64 kind,.int .i64 node,.int .i64 field] rfl rfl hnews.out (by simp [Value.oneCell']) (by omega) (by unfold maxLen;omega) (by omega) (Nat.zero_le _) (w.heap.size+1) HSZ.out ?_;intro g cap w2 ho hg hlies hglt;obtain ⟨s1,s2,s3,s4,s5⟩:=STEP.out g cap w2 ho hg hlies;have S3:=Lh s3;have S4:=Lh s4;have S5:=Lh s5;have HO:=Lh ho;have t0:w2.cell? ⟨bl,0,none⟩=some (.slice va l.length vc):=(by rw [cell_of_row _ _ _ _ _ _ S3.out];rfl);have tf:w2.frozen? ⟨bl,0,none⟩=false:=Fz S3.out;have u3:=Xs s4 3 (.int .i64 nodes) rfl;have uf:w2.frozen? ⟨bc,3,none⟩=false:=Fz S4.out;have zb2:=Bl t0;have zc2:=Bl u3;clear ho hg hlies s3 s4 s5)
  go_end0
  exact FIN.out g cap w2 _ HO.out s1 s2 S3.out S4.out S5.out (.inr ⟨rfl,hnode⟩)
 ·have dn:decide (0<node)=false:=by simp;omega
  go_enter Tryz.func87,Tryz.ntmps87
  go_wp2_with (at_builtin;rw [←hW];clear hW;refine wpList_append_lies _ rfl (.tmp 8) (.tmp 13) 60 rfl 0 70 ti (.agg #[.int .i64 0,.int .i64 0,.int .i64 0]) 3 24 Tryz.underlying60 hti hz0 hz1 hz2 rfl (by decide) (.slice va l.length vc) l.length (Zf l) rfl hown.out ⟨w.heap.size,0,none⟩ 1 1 [.int .i64 kind,.int .i64 node,.int .i64 field] rfl rfl hnews.out (by simp [Value.oneCell']) (by omega) (by unfold maxLen;omega) (by omega) (Nat.zero_le _) (w.heap.size+1) HSZ.out ?_;intro g cap w2 ho hg hlies hglt;obtain ⟨s1,s2,s3,s4,s5⟩:=STEP.out g cap w2 ho hg hlies;have S3:=Lh s3;have S4:=Lh s4;have S5:=Lh s5;have HO:=Lh ho;have t0:w2.cell? ⟨bl,0,none⟩=some (.slice va l.length vc):=(by rw [cell_of_row _ _ _ _ _ _ S3.out];rfl);have tf:w2.frozen? ⟨bl,0,none⟩=false:=Fz S3.out;have zb2:=Bl t0;clear ho hg hlies s3 s4 s5)
  go_end0
  exact FIN.out g cap w2 _ HO.out s1 s2 S3.out S4.out S5.out (.inl ⟨rfl,hnode⟩)
theorem Xg {w:World} {g i:Nat} {cs:Array Value} {t:TypeId} {v:Value} (hg:w.heap[g]?=some (.cells cs t (0,0))) (hv:cs[i]?=some v):w.setCell ⟨g,i,none⟩ v=w:=by
 have h:(w.setCell ⟨g,i,none⟩ v).heap=w.heap:=by
  apply Array.ext_getElem?
  intro k
  by_cases hk:k=g
  ·subst hk
   rw [heap_setCell_same _ _ _ _ _ _ hg,hg]
   have:cs.setIfInBounds i v=cs:=by
    apply Array.ext_getElem?
    intro j
    rw [Array.getElem?_setIfInBounds]
    split
    ·rename_i e;subst e
     rw [if_pos (La hv),hv]
    ·rfl
   rw [this]
  ·exact heap_setCell_other _ _ _ _ hk
 unfold World.setCell at *
 cases w
 simp only [World.mk.injEq] at *
 exact ⟨h,trivial,trivial,trivial,trivial⟩
def Xap (o:Ks):Value:=.agg (X8 o.fault o.value o.compares o.nodes)
def Xc8:Ks:=⟨0,0,0,0⟩
theorem Xhg {W:World} {R:Nat} {f v k n:Int} (h:Y7 W R f v k n):(loadVar 57 ⟨R,0,none⟩).run Tryz.prog W=.ok (.agg (X8 f v k n)) W:=by
 have c0:=Xs h 0 (.int .i64 f) rfl
 have c1:=Xs h 1 (.int .i64 v) rfl
 have c2:=Xs h 2 (.int .i64 k) rfl
 have c3:=Xs h 3 (.int .i64 n) rfl
 have c4:=Xs h 4 (.int .i64 0) rfl
 simp [go_sem,X8,c0,c1,c2,c3,c4]
theorem Xhz {W:World} {R:Nat} {gv nv:Value} (h:W.heap[R]?=some (.cells #[gv,nv] 52 (0,0))):(loadVar 52 ⟨R,0,none⟩).run Tryz.prog W=.ok (.agg #[gv,nv]) W:=by
 have c0:W.cell? ⟨R,0,none⟩=some gv:=by rw [cell_of_row _ _ _ _ _ _ h];rfl
 have c1:W.cell? ⟨R,1,none⟩=some nv:=by rw [cell_of_row _ _ _ _ _ _ h];rfl
 simp [go_sem,c0,c1]
theorem Xnx {W:World} {R:Nat} {v:Value} (h:W.heap[R]?=some (.cells #[v] 60 (0,0))):(loadVar 60 ⟨R,0,none⟩).run Tryz.prog W=.ok v W:=by
 have c0:W.cell? ⟨R,0,none⟩=some v:=by rw [cell_of_row _ _ _ _ _ _ h];rfl
 simp [go_sem,c0]
theorem Z4 {fn:Func} {p q r u:Tmp} (hf:fn.results=#[.cell p 57,.cell q 52,.cell r 60,.tmp u]) {W:World} {R1 R2 R3:Nat} {o:Ks} {gv nv lv:Value} (h1:Y7 W R1 o.fault o.value o.compares o.nodes) (h2:W.heap[R2]?=some (.cells #[gv,nv] 52 (0,0))) (h3:W.heap[R3]?=some (.cells #[lv] 60 (0,0))) (tmps:Array Value) (e:Value)
  (k1:tmps.getD p undef=.pointer (some ⟨R1,0,none⟩)) (k2:tmps.getD q undef=.pointer (some ⟨R2,0,none⟩)) (k3:tmps.getD r undef=.pointer (some ⟨R3,0,none⟩)) (k4:tmps.getD u undef=e) :
  (results fn tmps).run Tryz.prog W=.ok (.tuple #[Xap o,.agg #[gv,nv],lv,e]) W:=by
 simp only [results,hf]
 rw [Array.getD_eq_getD_getElem?] at k1 k2 k3 k4
 simp [k1,k2,k3,k4,asAddr,Xhg h1,Xhz h2,Xnx h3,Result.andThen,Sem.run_bind,Xap]
/-- what play returns with an error -/
def Xjr (e:Int):Value:=.tuple #[Xap Xc8,.agg #[.slice none 0 0,.slice none 0 0],.slice none 0 0,.int .i64 e]
theorem Yk {w w':World} (hb:Below w.heap.size w w') {b:Nat} {o:Obj} (h:w.heap[b]?=some o):w'.heap[b]?=some o:=by rw [hb.block b (La h)];exact h
theorem Xfm (c:Cod) (m:Mm) (x:Cal) (fuel:Int) (fa ga va na xa:Option Addr) (fc gc vc nc xc B:Nat) (w:World) (hL:Qa w) (hB:B≤w.heap.size) (hc:Yj B w (.agg #[.slice fa c.fields.length fc,.int .i64 c.globals,.slice ga c.funcs.length gc]) c) (hm:MmV B w (.agg #[.slice va m.globals.length vc,.slice na m.nodes.length nc]) m) (hx:J8 B w (.agg #[.string x.proc,.slice xa x.args.length xc]) x) (hs:¬Xv c) :
  Calls Tryz.prog 58 #[.agg #[.slice fa c.fields.length fc,.int .i64 c.globals,.slice ga c.funcs.length gc],.agg #[.slice va m.globals.length vc,.slice na m.nodes.length nc],.agg #[.string x.proc,.slice xa x.args.length xc],.int .i64 fuel] w (fun e w'=>e=.returned (Xjr 1)∧Below w.heap.size w w'):=by
 obtain ⟨W,hW⟩:∃ W,W=(((((w.alloc (.cells #[.slice fa c.fields.length fc,.int .i64 c.globals,.slice ga c.funcs.length gc] 25)).alloc (.cells #[.slice va m.globals.length vc,.slice na m.nodes.length nc] 52)).alloc (.cells #[.string x.proc,.slice xa x.args.length xc] 27)).alloc (.cells (X8 0 0 0 0) 57)).alloc (.cells #[.slice none 0 0,.slice none 0 0] 52)).alloc (.cells #[.slice none 0 0] 60):=⟨_,rfl⟩
 have hWb:Hid (Below w.heap.size w W):=by rw [hW];exact (((((Xa _ _).then (Xa _ _)).then (Xa _ _)).then (Xa _ _)).then (Xa _ _)).then (Xa _ _)
 have hsz:Hid (W.heap.size=w.heap.size+6):=by rw [hW];exact Lh (by simp)
 have bb:Hid (W.heap[w.heap.size]?=some (.cells #[.slice fa c.fields.length fc,.int .i64 c.globals,.slice ga c.funcs.length gc] 25 (0,0))∧W.heap[w.heap.size+1]?=some (.cells #[.slice va m.globals.length vc,.slice na m.nodes.length nc] 52 (0,0))∧W.heap[w.heap.size+1+1]?=some (.cells #[.string x.proc,.slice xa x.args.length xc] 27 (0,0))∧Y7 W (w.heap.size+1+1+1) 0 0 0 0∧W.heap[w.heap.size+1+1+1+1]?=some (.cells #[.slice none 0 0,.slice none 0 0] 52 (0,0))∧W.heap[w.heap.size+1+1+1+1+1]?=some (.cells #[.slice none 0 0] 60 (0,0))):=Lh (by
  rw [hW]
  refine ⟨?_,?_,?_,?_,?_,?_⟩
  ·rw [Below.heap_alloc _ _ _ (by simp<;>omega),Below.heap_alloc _ _ _ (by simp<;>omega),Below.heap_alloc _ _ _ (by simp<;>omega),Below.heap_alloc _ _ _ (by simp<;>omega),Below.heap_alloc _ _ _ (by simp<;>omega)]
   exact heap_alloc_new _ _
  ·rw [Below.heap_alloc _ _ _ (by simp<;>omega),Below.heap_alloc _ _ _ (by simp<;>omega),Below.heap_alloc _ _ _ (by simp<;>omega),Below.heap_alloc _ _ _ (by simp<;>omega)]
   have:=heap_alloc_new (w.alloc (.cells #[.slice fa c.fields.length fc,.int .i64 c.globals,.slice ga c.funcs.length gc] 25)) (.cells #[.slice va m.globals.length vc,.slice na m.nodes.length nc] 52)
   simpa using this
  ·rw [Below.heap_alloc _ _ _ (by simp<;>omega),Below.heap_alloc _ _ _ (by simp<;>omega),Below.heap_alloc _ _ _ (by simp<;>omega)]
   have:=heap_alloc_new ((w.alloc (.cells #[.slice fa c.fields.length fc,.int .i64 c.globals,.slice ga c.funcs.length gc] 25)).alloc (.cells #[.slice va m.globals.length vc,.slice na m.nodes.length nc] 52)) (.cells #[.string x.proc,.slice xa x.args.length xc] 27)
   simpa using this
  ·unfold Y7
   rw [Below.heap_alloc _ _ _ (by simp<;>omega),Below.heap_alloc _ _ _ (by simp<;>omega)]
   have:=heap_alloc_new (((w.alloc (.cells #[.slice fa c.fields.length fc,.int .i64 c.globals,.slice ga c.funcs.length gc] 25)).alloc (.cells #[.slice va m.globals.length vc,.slice na m.nodes.length nc] 52)).alloc (.cells #[.string x.proc,.slice xa x.args.length xc] 27)) (.cells (X8 0 0 0 0) 57)
   simpa using this
  ·rw [Below.heap_alloc _ _ _ (by simp<;>omega)]
   have:=heap_alloc_new ((((w.alloc (.cells #[.slice fa c.fields.length fc,.int .i64 c.globals,.slice ga c.funcs.length gc] 25)).alloc (.cells #[.slice va m.globals.length vc,.slice na m.nodes.length nc] 52)).alloc (.cells #[.string x.proc,.slice xa x.args.length xc] 27)).alloc (.cells (X8 0 0 0 0) 57)) (.cells #[.slice none 0 0,.slice none 0 0] 52)
   simpa using this
  ·have:=heap_alloc_new (((((w.alloc (.cells #[.slice fa c.fields.length fc,.int .i64 c.globals,.slice ga c.funcs.length gc] 25)).alloc (.cells #[.slice va m.globals.length vc,.slice na m.nodes.length nc] 52)).alloc (.cells #[.string x.proc,.slice xa x.args.length xc] 27)).alloc (.cells (X8 0 0 0 0) 57)).alloc (.cells #[.slice none 0 0,.slice none 0 0] 52)) (.cells #[.slice none 0 0] 60)
   simpa using this)
 have HC:=Lh hc
 have HM:=Lh hm
 have HX:=Lh hx
 have HL:=Lh hL
 have hWB:B≤W.heap.size:=by have:=hsz.out;omega
 clear hc hm hx hL
 have i0:W.cell? ⟨w.heap.size,0,none⟩=some (.slice fa c.fields.length fc):=by rw [cell_of_row _ _ _ _ _ _ bb.out.1];rfl
 have i1:W.cell? ⟨w.heap.size,1,none⟩=some (.int .i64 c.globals):=by rw [cell_of_row _ _ _ _ _ _ bb.out.1];rfl
 have i2:W.cell? ⟨w.heap.size,2,none⟩=some (.slice ga c.funcs.length gc):=by rw [cell_of_row _ _ _ _ _ _ bb.out.1];rfl
 have m0:W.cell? ⟨w.heap.size+1,0,none⟩=some (.slice va m.globals.length vc):=by rw [cell_of_row _ _ _ _ _ _ bb.out.2.1];rfl
 have m1:W.cell? ⟨w.heap.size+1,1,none⟩=some (.slice na m.nodes.length nc):=by rw [cell_of_row _ _ _ _ _ _ bb.out.2.1];rfl
 have x0:W.cell? ⟨w.heap.size+1+1,0,none⟩=some (.string x.proc):=by rw [cell_of_row _ _ _ _ _ _ bb.out.2.2.1];rfl
 have x1:W.cell? ⟨w.heap.size+1+1,1,none⟩=some (.slice xa x.args.length xc):=by rw [cell_of_row _ _ _ _ _ _ bb.out.2.2.1];rfl
 have z0:=Bl i0
 have z1:=Bl m0
 have z2:=Bl x0
 go_enter Tryz.func58,Tryz.ntmps58
 unfold X8 at hW
 go_upto_region 1 with fail
 rw [←hW]
 have HW:=Lh hW
 clear hW
 go_wp2_with fail
 refine (Jm c _ B W (HL.out.below hWb.out) hWB (HC.out.below (hWb.out.mono hB))).mono ?_
 rintro e w1 ⟨rfl,hb1⟩
 rw [Jp hs]
 have HB1:=Lh (hWb.out.then hb1)
 have bb1:Hid (w1.heap[w.heap.size]?=some (.cells #[.slice fa c.fields.length fc,.int .i64 c.globals,.slice ga c.funcs.length gc] 25 (0,0))∧w1.heap[w.heap.size+1]?=some (.cells #[.slice va m.globals.length vc,.slice na m.nodes.length nc] 52 (0,0))∧w1.heap[w.heap.size+1+1]?=some (.cells #[.string x.proc,.slice xa x.args.length xc] 27 (0,0))∧Y7 w1 (w.heap.size+1+1+1) 0 0 0 0∧w1.heap[w.heap.size+1+1+1+1]?=some (.cells #[.slice none 0 0,.slice none 0 0] 52 (0,0))∧w1.heap[w.heap.size+1+1+1+1+1]?=some (.cells #[.slice none 0 0] 60 (0,0))):=Lh ⟨Yk hb1 bb.out.1,Yk hb1 bb.out.2.1,Yk hb1 bb.out.2.2.1,Yk hb1 bb.out.2.2.2.1,Yk hb1 bb.out.2.2.2.2.1,Yk hb1 bb.out.2.2.2.2.2⟩
 clear hb1
 have i0:w1.cell? ⟨w.heap.size,0,none⟩=some (.slice fa c.fields.length fc):=by rw [cell_of_row _ _ _ _ _ _ bb1.out.1];rfl
 have i1:w1.cell? ⟨w.heap.size,1,none⟩=some (.int .i64 c.globals):=by rw [cell_of_row _ _ _ _ _ _ bb1.out.1];rfl
 have i2:w1.cell? ⟨w.heap.size,2,none⟩=some (.slice ga c.funcs.length gc):=by rw [cell_of_row _ _ _ _ _ _ bb1.out.1];rfl
 have m0:w1.cell? ⟨w.heap.size+1,0,none⟩=some (.slice va m.globals.length vc):=by rw [cell_of_row _ _ _ _ _ _ bb1.out.2.1];rfl
 have m1:w1.cell? ⟨w.heap.size+1,1,none⟩=some (.slice na m.nodes.length nc):=by rw [cell_of_row _ _ _ _ _ _ bb1.out.2.1];rfl
 have x0:w1.cell? ⟨w.heap.size+1+1,0,none⟩=some (.string x.proc):=by rw [cell_of_row _ _ _ _ _ _ bb1.out.2.2.1];rfl
 have x1:w1.cell? ⟨w.heap.size+1+1,1,none⟩=some (.slice xa x.args.length xc):=by rw [cell_of_row _ _ _ _ _ _ bb1.out.2.2.1];rfl
 have z0:=Bl i0
 have z1:=Bl m0
 have z2:=Bl x0
 have o0:=Xs bb1.out.2.2.2.1 0 (.int .i64 0) rfl
 have fo0:w1.frozen? ⟨w.heap.size+1+1+1,0,none⟩=false:=Fz bb1.out.2.2.2.1
 have o1:=Xs bb1.out.2.2.2.1 1 (.int .i64 0) rfl
 have fo1:w1.frozen? ⟨w.heap.size+1+1+1,1,none⟩=false:=Fz bb1.out.2.2.2.1
 have o2:=Xs bb1.out.2.2.2.1 2 (.int .i64 0) rfl
 have fo2:w1.frozen? ⟨w.heap.size+1+1+1,2,none⟩=false:=Fz bb1.out.2.2.2.1
 have o3:=Xs bb1.out.2.2.2.1 3 (.int .i64 0) rfl
 have fo3:w1.frozen? ⟨w.heap.size+1+1+1,3,none⟩=false:=Fz bb1.out.2.2.2.1
 have o4:=Xs bb1.out.2.2.2.1 4 (.int .i64 0) rfl
 have fo4:w1.frozen? ⟨w.heap.size+1+1+1,4,none⟩=false:=Fz bb1.out.2.2.2.1
 have u0:w1.cell? ⟨w.heap.size+1+1+1+1,0,none⟩=some (.slice none 0 0):=by rw [cell_of_row _ _ _ _ _ _ bb1.out.2.2.2.2.1];rfl
 have fu0:w1.frozen? ⟨w.heap.size+1+1+1+1,0,none⟩=false:=Fz bb1.out.2.2.2.2.1
 have u1:w1.cell? ⟨w.heap.size+1+1+1+1,1,none⟩=some (.slice none 0 0):=by rw [cell_of_row _ _ _ _ _ _ bb1.out.2.2.2.2.1];rfl
 have fu1:w1.frozen? ⟨w.heap.size+1+1+1+1,1,none⟩=false:=Fz bb1.out.2.2.2.2.1
 have l0:w1.cell? ⟨w.heap.size+1+1+1+1+1,0,none⟩=some (.slice none 0 0):=by rw [cell_of_row _ _ _ _ _ _ bb1.out.2.2.2.2.2];rfl
 have fl0:w1.frozen? ⟨w.heap.size+1+1+1+1+1,0,none⟩=false:=Fz bb1.out.2.2.2.2.2
 have so0:w1.setCell ⟨w.heap.size+1+1+1,0,none⟩ (.int .i64 0)=w1:=Xg bb1.out.2.2.2.1 rfl
 have so1:w1.setCell ⟨w.heap.size+1+1+1,1,none⟩ (.int .i64 0)=w1:=Xg bb1.out.2.2.2.1 rfl
 have so2:w1.setCell ⟨w.heap.size+1+1+1,2,none⟩ (.int .i64 0)=w1:=Xg bb1.out.2.2.2.1 rfl
 have so3:w1.setCell ⟨w.heap.size+1+1+1,3,none⟩ (.int .i64 0)=w1:=Xg bb1.out.2.2.2.1 rfl
 have so4:w1.setCell ⟨w.heap.size+1+1+1,4,none⟩ (.int .i64 0)=w1:=Xg bb1.out.2.2.2.1 rfl
 have su0:w1.setCell ⟨w.heap.size+1+1+1+1,0,none⟩ (.slice none 0 0)=w1:=Xg bb1.out.2.2.2.2.1 rfl
 have su1:w1.setCell ⟨w.heap.size+1+1+1+1,1,none⟩ (.slice none 0 0)=w1:=Xg bb1.out.2.2.2.2.1 rfl
 have sl0:w1.setCell ⟨w.heap.size+1+1+1+1+1,0,none⟩ (.slice none 0 0)=w1:=Xg bb1.out.2.2.2.2.2 rfl
 have z3:=Bl o0
 have z4:=Bl u0
 have z5:=Bl l0
 go_wp2_with fail
 go_region
 all_goals (go_wp2_with fail;exact bodyPost_ret (v:=Xjr 1) (Z4 (W:=w1.drew) (o:=Xc8) (p:=8) (q:=9) (r:=10) (u:=11) rfl bb1.out.2.2.2.1 bb1.out.2.2.2.2.1 bb1.out.2.2.2.2.2 _ _ rfl rfl rfl rfl) rfl ⟨rfl,Xh HB1.out 1⟩)
theorem Xi7 (c:Cod) (m:Mm) (x:Cal) (fuel:Int) (fa ga va na xa:Option Addr) (fc gc vc nc xc B:Nat) (w:World) (hL:Qa w) (hB:B≤w.heap.size) (hc:Yj B w (.agg #[.slice fa c.fields.length fc,.int .i64 c.globals,.slice ga c.funcs.length gc]) c) (hm:MmV B w (.agg #[.slice va m.globals.length vc,.slice na m.nodes.length nc]) m) (hx:J8 B w (.agg #[.string x.proc,.slice xa x.args.length xc]) x) (hs:Xv c) (hft:Q7 c m=false) :
  Calls Tryz.prog 58 #[.agg #[.slice fa c.fields.length fc,.int .i64 c.globals,.slice ga c.funcs.length gc],.agg #[.slice va m.globals.length vc,.slice na m.nodes.length nc],.agg #[.string x.proc,.slice xa x.args.length xc],.int .i64 fuel] w (fun e w'=>e=.returned (Xjr 1)∧Below w.heap.size w w'):=by
 have HFT:=Lh hft
 clear hft
 obtain ⟨W,hW⟩:∃ W,W=(((((w.alloc (.cells #[.slice fa c.fields.length fc,.int .i64 c.globals,.slice ga c.funcs.length gc] 25)).alloc (.cells #[.slice va m.globals.length vc,.slice na m.nodes.length nc] 52)).alloc (.cells #[.string x.proc,.slice xa x.args.length xc] 27)).alloc (.cells (X8 0 0 0 0) 57)).alloc (.cells #[.slice none 0 0,.slice none 0 0] 52)).alloc (.cells #[.slice none 0 0] 60):=⟨_,rfl⟩
 have hWb:Hid (Below w.heap.size w W):=by rw [hW];exact (((((Xa _ _).then (Xa _ _)).then (Xa _ _)).then (Xa _ _)).then (Xa _ _)).then (Xa _ _)
 have hsz:Hid (W.heap.size=w.heap.size+6):=by rw [hW];exact Lh (by simp)
 have bb:Hid (W.heap[w.heap.size]?=some (.cells #[.slice fa c.fields.length fc,.int .i64 c.globals,.slice ga c.funcs.length gc] 25 (0,0))∧W.heap[w.heap.size+1]?=some (.cells #[.slice va m.globals.length vc,.slice na m.nodes.length nc] 52 (0,0))∧W.heap[w.heap.size+1+1]?=some (.cells #[.string x.proc,.slice xa x.args.length xc] 27 (0,0))∧Y7 W (w.heap.size+1+1+1) 0 0 0 0∧W.heap[w.heap.size+1+1+1+1]?=some (.cells #[.slice none 0 0,.slice none 0 0] 52 (0,0))∧W.heap[w.heap.size+1+1+1+1+1]?=some (.cells #[.slice none 0 0] 60 (0,0))):=Lh (by
  rw [hW]
  refine ⟨?_,?_,?_,?_,?_,?_⟩
  ·rw [Below.heap_alloc _ _ _ (by simp<;>omega),Below.heap_alloc _ _ _ (by simp<;>omega),Below.heap_alloc _ _ _ (by simp<;>omega),Below.heap_alloc _ _ _ (by simp<;>omega),Below.heap_alloc _ _ _ (by simp<;>omega)]
   exact heap_alloc_new _ _
  ·rw [Below.heap_alloc _ _ _ (by simp<;>omega),Below.heap_alloc _ _ _ (by simp<;>omega),Below.heap_alloc _ _ _ (by simp<;>omega),Below.heap_alloc _ _ _ (by simp<;>omega)]
   have:=heap_alloc_new (w.alloc (.cells #[.slice fa c.fields.length fc,.int .i64 c.globals,.slice ga c.funcs.length gc] 25)) (.cells #[.slice va m.globals.length vc,.slice na m.nodes.length nc] 52)
   simpa using this
  ·rw [Below.heap_alloc _ _ _ (by simp<;>omega),Below.heap_alloc _ _ _ (by simp<;>omega),Below.heap_alloc _ _ _ (by simp<;>omega)]
   have:=heap_alloc_new ((w.alloc (.cells #[.slice fa c.fields.length fc,.int .i64 c.globals,.slice ga c.funcs.length gc] 25)).alloc (.cells #[.slice va m.globals.length vc,.slice na m.nodes.length nc] 52)) (.cells #[.string x.proc,.slice xa x.args.length xc] 27)
   simpa using this
  ·unfold Y7
   rw [Below.heap_alloc _ _ _ (by simp<;>omega),Below.heap_alloc _ _ _ (by simp<;>omega)]
   have:=heap_alloc_new (((w.alloc (.cells #[.slice fa c.fields.length fc,.int .i64 c.globals,.slice ga c.funcs.length gc] 25)).alloc (.cells #[.slice va m.globals.length vc,.slice na m.nodes.length nc] 52)).alloc (.cells #[.string x.proc,.slice xa x.args.length xc] 27)) (.cells (X8 0 0 0 0) 57)
   simpa using this
  ·rw [Below.heap_alloc _ _ _ (by simp<;>omega)]
   have:=heap_alloc_new ((((w.alloc (.cells #[.slice fa c.fields.length fc,.int .i64 c.globals,.slice ga c.funcs.length gc] 25)).alloc (.cells #[.slice va m.globals.length vc,.slice na m.nodes.length nc] 52)).alloc (.cells #[.string x.proc,.slice xa x.args.length xc] 27)).alloc (.cells (X8 0 0 0 0) 57)) (.cells #[.slice none 0 0,.slice none 0 0] 52)
   simpa using this
  ·have:=heap_alloc_new (((((w.alloc (.cells #[.slice fa c.fields.length fc,.int .i64 c.globals,.slice ga c.funcs.length gc] 25)).alloc (.cells #[.slice va m.globals.length vc,.slice na m.nodes.length nc] 52)).alloc (.cells #[.string x.proc,.slice xa x.args.length xc] 27)).alloc (.cells (X8 0 0 0 0) 57)).alloc (.cells #[.slice none 0 0,.slice none 0 0] 52)) (.cells #[.slice none 0 0] 60)
   simpa using this)
 have HC:=Lh hc
 have HM:=Lh hm
 have HX:=Lh hx
 have HL:=Lh hL
 have hWB:B≤W.heap.size:=by have:=hsz.out;omega
 clear hc hm hx hL
 have i0:W.cell? ⟨w.heap.size,0,none⟩=some (.slice fa c.fields.length fc):=by rw [cell_of_row _ _ _ _ _ _ bb.out.1];rfl
 have i1:W.cell? ⟨w.heap.size,1,none⟩=some (.int .i64 c.globals):=by rw [cell_of_row _ _ _ _ _ _ bb.out.1];rfl
 have i2:W.cell? ⟨w.heap.size,2,none⟩=some (.slice ga c.funcs.length gc):=by rw [cell_of_row _ _ _ _ _ _ bb.out.1];rfl
 have m0:W.cell? ⟨w.heap.size+1,0,none⟩=some (.slice va m.globals.length vc):=by rw [cell_of_row _ _ _ _ _ _ bb.out.2.1];rfl
 have m1:W.cell? ⟨w.heap.size+1,1,none⟩=some (.slice na m.nodes.length nc):=by rw [cell_of_row _ _ _ _ _ _ bb.out.2.1];rfl
 have x0:W.cell? ⟨w.heap.size+1+1,0,none⟩=some (.string x.proc):=by rw [cell_of_row _ _ _ _ _ _ bb.out.2.2.1];rfl
 have x1:W.cell? ⟨w.heap.size+1+1,1,none⟩=some (.slice xa x.args.length xc):=by rw [cell_of_row _ _ _ _ _ _ bb.out.2.2.1];rfl
 have z0:=Bl i0
 have z1:=Bl m0
 have z2:=Bl x0
 go_enter Tryz.func58,Tryz.ntmps58
 unfold X8 at hW
 go_upto_region 1 with fail
 rw [←hW]
 have HW:=Lh hW
 clear hW
 go_wp2_with fail
 refine (Jm c _ B W (HL.out.below hWb.out) hWB (HC.out.below (hWb.out.mono hB))).mono ?_
 rintro e w1 ⟨rfl,hb1⟩
 rw [Zg hs]
 have HB1:=Lh (hWb.out.then hb1)
 have bb1:Hid (w1.heap[w.heap.size]?=some (.cells #[.slice fa c.fields.length fc,.int .i64 c.globals,.slice ga c.funcs.length gc] 25 (0,0))∧w1.heap[w.heap.size+1]?=some (.cells #[.slice va m.globals.length vc,.slice na m.nodes.length nc] 52 (0,0))∧w1.heap[w.heap.size+1+1]?=some (.cells #[.string x.proc,.slice xa x.args.length xc] 27 (0,0))∧Y7 w1 (w.heap.size+1+1+1) 0 0 0 0∧w1.heap[w.heap.size+1+1+1+1]?=some (.cells #[.slice none 0 0,.slice none 0 0] 52 (0,0))∧w1.heap[w.heap.size+1+1+1+1+1]?=some (.cells #[.slice none 0 0] 60 (0,0))):=Lh ⟨Yk hb1 bb.out.1,Yk hb1 bb.out.2.1,Yk hb1 bb.out.2.2.1,Yk hb1 bb.out.2.2.2.1,Yk hb1 bb.out.2.2.2.2.1,Yk hb1 bb.out.2.2.2.2.2⟩
 clear hb1
 have i0:w1.cell? ⟨w.heap.size,0,none⟩=some (.slice fa c.fields.length fc):=by rw [cell_of_row _ _ _ _ _ _ bb1.out.1];rfl
 have i1:w1.cell? ⟨w.heap.size,1,none⟩=some (.int .i64 c.globals):=by rw [cell_of_row _ _ _ _ _ _ bb1.out.1];rfl
 have i2:w1.cell? ⟨w.heap.size,2,none⟩=some (.slice ga c.funcs.length gc):=by rw [cell_of_row _ _ _ _ _ _ bb1.out.1];rfl
 have m0:w1.cell? ⟨w.heap.size+1,0,none⟩=some (.slice va m.globals.length vc):=by rw [cell_of_row _ _ _ _ _ _ bb1.out.2.1];rfl
 have m1:w1.cell? ⟨w.heap.size+1,1,none⟩=some (.slice na m.nodes.length nc):=by rw [cell_of_row _ _ _ _ _ _ bb1.out.2.1];rfl
 have x0:w1.cell? ⟨w.heap.size+1+1,0,none⟩=some (.string x.proc):=by rw [cell_of_row _ _ _ _ _ _ bb1.out.2.2.1];rfl
 have x1:w1.cell? ⟨w.heap.size+1+1,1,none⟩=some (.slice xa x.args.length xc):=by rw [cell_of_row _ _ _ _ _ _ bb1.out.2.2.1];rfl
 have z0:=Bl i0
 have z1:=Bl m0
 have z2:=Bl x0
 go_wp2_with fail
 refine (Xdi c _ m _ B w1 (Nat.le_trans hB HB1.out.size) (HC.out.below (HB1.out.mono hB)) (HM.out.below (HB1.out.mono hB))).mono ?_
 rintro e w2 ⟨rfl,hb2⟩
 rw [HFT.out]
 have HB2:=Lh (HB1.out.then hb2)
 have bb2:Hid (w2.heap[w.heap.size]?=some (.cells #[.slice fa c.fields.length fc,.int .i64 c.globals,.slice ga c.funcs.length gc] 25 (0,0))∧w2.heap[w.heap.size+1]?=some (.cells #[.slice va m.globals.length vc,.slice na m.nodes.length nc] 52 (0,0))∧w2.heap[w.heap.size+1+1]?=some (.cells #[.string x.proc,.slice xa x.args.length xc] 27 (0,0))∧Y7 w2 (w.heap.size+1+1+1) 0 0 0 0∧w2.heap[w.heap.size+1+1+1+1]?=some (.cells #[.slice none 0 0,.slice none 0 0] 52 (0,0))∧w2.heap[w.heap.size+1+1+1+1+1]?=some (.cells #[.slice none 0 0] 60 (0,0))):=Lh ⟨Yk hb2 bb1.out.1,Yk hb2 bb1.out.2.1,Yk hb2 bb1.out.2.2.1,Yk hb2 bb1.out.2.2.2.1,Yk hb2 bb1.out.2.2.2.2.1,Yk hb2 bb1.out.2.2.2.2.2⟩
 clear hb2
 have i0:w2.cell? ⟨w.heap.size,0,none⟩=some (.slice fa c.fields.length fc):=by rw [cell_of_row _ _ _ _ _ _ bb2.out.1];rfl
 have i1:w2.cell? ⟨w.heap.size,1,none⟩=some (.int .i64 c.globals):=by rw [cell_of_row _ _ _ _ _ _ bb2.out.1];rfl
 have i2:w2.cell? ⟨w.heap.size,2,none⟩=some (.slice ga c.funcs.length gc):=by rw [cell_of_row _ _ _ _ _ _ bb2.out.1];rfl
 have m0:w2.cell? ⟨w.heap.size+1,0,none⟩=some (.slice va m.globals.length vc):=by rw [cell_of_row _ _ _ _ _ _ bb2.out.2.1];rfl
 have m1:w2.cell? ⟨w.heap.size+1,1,none⟩=some (.slice na m.nodes.length nc):=by rw [cell_of_row _ _ _ _ _ _ bb2.out.2.1];rfl
 have x0:w2.cell? ⟨w.heap.size+1+1,0,none⟩=some (.string x.proc):=by rw [cell_of_row _ _ _ _ _ _ bb2.out.2.2.1];rfl
 have x1:w2.cell? ⟨w.heap.size+1+1,1,none⟩=some (.slice xa x.args.length xc):=by rw [cell_of_row _ _ _ _ _ _ bb2.out.2.2.1];rfl
 have z0:=Bl i0
 have z1:=Bl m0
 have z2:=Bl x0
 have o0:=Xs bb2.out.2.2.2.1 0 (.int .i64 0) rfl
 have fo0:w2.frozen? ⟨w.heap.size+1+1+1,0,none⟩=false:=Fz bb2.out.2.2.2.1
 have o1:=Xs bb2.out.2.2.2.1 1 (.int .i64 0) rfl
 have fo1:w2.frozen? ⟨w.heap.size+1+1+1,1,none⟩=false:=Fz bb2.out.2.2.2.1
 have o2:=Xs bb2.out.2.2.2.1 2 (.int .i64 0) rfl
 have fo2:w2.frozen? ⟨w.heap.size+1+1+1,2,none⟩=false:=Fz bb2.out.2.2.2.1
 have o3:=Xs bb2.out.2.2.2.1 3 (.int .i64 0) rfl
 have fo3:w2.frozen? ⟨w.heap.size+1+1+1,3,none⟩=false:=Fz bb2.out.2.2.2.1
 have o4:=Xs bb2.out.2.2.2.1 4 (.int .i64 0) rfl
 have fo4:w2.frozen? ⟨w.heap.size+1+1+1,4,none⟩=false:=Fz bb2.out.2.2.2.1
 have u0:w2.cell? ⟨w.heap.size+1+1+1+1,0,none⟩=some (.slice none 0 0):=by rw [cell_of_row _ _ _ _ _ _ bb2.out.2.2.2.2.1];rfl
 have fu0:w2.frozen? ⟨w.heap.size+1+1+1+1,0,none⟩=false:=Fz bb2.out.2.2.2.2.1
 have u1:w2.cell? ⟨w.heap.size+1+1+1+1,1,none⟩=some (.slice none 0 0):=by rw [cell_of_row _ _ _ _ _ _ bb2.out.2.2.2.2.1];rfl
 have fu1:w2.frozen? ⟨w.heap.size+1+1+1+1,1,none⟩=false:=Fz bb2.out.2.2.2.2.1
 have l0:w2.cell? ⟨w.heap.size+1+1+1+1+1,0,none⟩=some (.slice none 0 0):=by rw [cell_of_row _ _ _ _ _ _ bb2.out.2.2.2.2.2];rfl
 have fl0:w2.frozen? ⟨w.heap.size+1+1+1+1+1,0,none⟩=false:=Fz bb2.out.2.2.2.2.2
 have so0:w2.setCell ⟨w.heap.size+1+1+1,0,none⟩ (.int .i64 0)=w2:=Xg bb2.out.2.2.2.1 rfl
 have so1:w2.setCell ⟨w.heap.size+1+1+1,1,none⟩ (.int .i64 0)=w2:=Xg bb2.out.2.2.2.1 rfl
 have so2:w2.setCell ⟨w.heap.size+1+1+1,2,none⟩ (.int .i64 0)=w2:=Xg bb2.out.2.2.2.1 rfl
 have so3:w2.setCell ⟨w.heap.size+1+1+1,3,none⟩ (.int .i64 0)=w2:=Xg bb2.out.2.2.2.1 rfl
 have so4:w2.setCell ⟨w.heap.size+1+1+1,4,none⟩ (.int .i64 0)=w2:=Xg bb2.out.2.2.2.1 rfl
 have su0:w2.setCell ⟨w.heap.size+1+1+1+1,0,none⟩ (.slice none 0 0)=w2:=Xg bb2.out.2.2.2.2.1 rfl
 have su1:w2.setCell ⟨w.heap.size+1+1+1+1,1,none⟩ (.slice none 0 0)=w2:=Xg bb2.out.2.2.2.2.1 rfl
 have sl0:w2.setCell ⟨w.heap.size+1+1+1+1+1,0,none⟩ (.slice none 0 0)=w2:=Xg bb2.out.2.2.2.2.2 rfl
 have z3:=Bl o0
 have z4:=Bl u0
 have z5:=Bl l0
 go_wp2_with fail
 go_region
 all_goals (go_wp2_with fail;exact bodyPost_ret (v:=Xjr 1) (Z4 (W:=w2.drew) (o:=Xc8) (p:=8) (q:=9) (r:=10) (u:=11) rfl bb2.out.2.2.2.1 bb2.out.2.2.2.2.1 bb2.out.2.2.2.2.2 _ _ rfl rfl rfl rfl) rfl ⟨rfl,Xh HB2.out 1⟩)
theorem Qs.addN {wr w4 w5:World} {bo:Nat} {m:Mm} {gv nv:Value} {cells:List Value} {Fg Fn Fl:List Nat} {x:Nod} {lv:Value} {g cap:Nat} (h:Qs wr bo m gv nv cells Fg Fn) (hb:Below wr.heap.size wr w4) (hO:Yv w4 lv x.f Fl) (hFl:∀ b∈Fl,wr.heap.size≤b) (hF1:Fl.length≤1) (h64:in64 x.type)
  (ho:w5.ownsRow 0 107 2 (.slice (some ⟨g,0,none⟩) (m.nodes.length+1) cap) (m.nodes.length+1) (cells++[.int .i64 x.type,lv])) (hg:w4.grownBy w5 nv.ownBlock) (hlies:nv.ownBlock=some g∨g=w4.heap.size) :
  Qs (w5.setCell ⟨bo,1,none⟩ (.slice (some ⟨g,0,none⟩) (m.nodes.length+1) cap)) bo { m with nodes:=m.nodes++[x] } gv (.slice (some ⟨g,0,none⟩) (m.nodes.length+1) cap) (cells++[.int .i64 x.type,lv]) Fg (Fn++Fl)∧
   Xp (bo::(Fg++(nv.ownBlock.toList++Fn))) (bo::(Fg++([g]++(Fn++Fl)))) wr (w5.setCell ⟨bo,1,none⟩ (.slice (some ⟨g,0,none⟩) (m.nodes.length+1) cap))∧(∀ b∈bo::(Fg++([g]++(Fn++Fl))),b<w5.heap.size):=by
 have hlt:=h.lt
 have hnd:=h.nodup
 have hsz:=hb.size
 have hsz5:=hg.size
 rw [List.nodup_cons,List.nodup_append,List.nodup_append] at hnd
 obtain ⟨hbo,hFg,⟨hnv,hFn,hd2⟩,hd1⟩:=hnd
 have hbol:=hlt bo (by simp)
 have hgn:∀ b,b<wr.heap.size→b∉nv.ownBlock.toList→b≠g:=fun b hb1 hb2 e=>by
  rcases hlies with h1|h1
  ·exact hb2 (by rw [h1,e];simp)
  ·omega
 have hbog:bo≠g:=hgn bo hbol (fun e=>hbo (by simp only [List.mem_append];exact .inr (.inl e)))
 have ho5:∀ b,b<wr.heap.size→b∉nv.ownBlock.toList→w5.heap[b]?=wr.heap[b]?:=fun b hb1 hb2=>by
  rw [hg.block b (by omega) (fun e=>hb2 (by rw [←e];simp)),hb.block b hb1]
 have hos:∀ b,b≠bo→(w5.setCell ⟨bo,1,none⟩ (.slice (some ⟨g,0,none⟩) (m.nodes.length+1) cap)).heap[b]?=w5.heap[b]?:=fun b hb1=>heap_setCell_other _ _ _ _ hb1
 have hFgn:∀ b∈Fg,b∉nv.ownBlock.toList:=fun b hb1 hb2=>hd1 b hb1 b (by simp only [List.mem_append];exact .inl hb2) rfl
 have hFnn:∀ b∈Fn,b∉nv.ownBlock.toList:=fun b hb1 hb2=>hd2 b hb2 b hb1 rfl
 have hFgl:∀ b∈Fg,b<wr.heap.size:=fun b hb1=>hlt b (by simp [hb1])
 have hFnl:∀ b∈Fn,b<wr.heap.size:=fun b hb1=>hlt b (by simp [hb1])
 have hFll:∀ b∈Fl,b<w4.heap.size:=hO.lt
 have hnvl:∀ b∈nv.ownBlock.toList,b<wr.heap.size:=Ve h.row
 have hFlg:∀ b∈Fl,b≠g:=fun b hb1 e=>by
  have h1:=hFl b hb1
  have h2:=hFll b hb1
  rcases hlies with h3|h3
  ·have:=hnvl g (by rw [h3];simp);omega
  ·omega
 have hkF:∀ b∈Fg,(w5.setCell ⟨bo,1,none⟩ (.slice (some ⟨g,0,none⟩) (m.nodes.length+1) cap)).heap[b]?=wr.heap[b]?:=fun b hb1=>by
  rw [hos b (fun e=>hbo (by rw [←e];simp [hb1])),ho5 b (hFgl b hb1) (hFgn b hb1)]
 have hkN:∀ b∈Fn,(w5.setCell ⟨bo,1,none⟩ (.slice (some ⟨g,0,none⟩) (m.nodes.length+1) cap)).heap[b]?=wr.heap[b]?:=fun b hb1=>by
  rw [hos b (fun e=>hbo (by rw [←e];simp [hb1])),ho5 b (hFnl b hb1) (hFnn b hb1)]
 have hkL:∀ b∈Fl,(w5.setCell ⟨bo,1,none⟩ (.slice (some ⟨g,0,none⟩) (m.nodes.length+1) cap)).heap[b]?=w4.heap[b]?:=fun b hb1=>by
  have h1:=hFl b hb1
  rw [hos b (by omega),hg.block b (hFll b hb1) (fun e=>by have:=hnvl b (by rw [←e];simp);omega)]
 refine ⟨⟨?_,h.glob.keep hkF,?_,(h.nodes.keep hkN).add (hO.keep hkL) h64,?_⟩,⟨hg.os.trans hb.os,hg.tape.trans hb.tape,hg.output.trans hb.output,by simp;omega,fun k hk hF=>?_,fun b hb1=>?_⟩,fun b hb1=>?_⟩
 ·have h1:w5.heap[bo]?=some (.cells #[gv,nv] 52 (0,0)):=by rw [ho5 bo hbol (fun e=>hbo (by simp only [List.mem_append];exact .inr (.inl e)))];exact h.box
  have:=heap_setCell_same _ bo 1 _ _ (.slice (some ⟨g,0,none⟩) (m.nodes.length+1) cap) h1
  simpa using this
 ·have e:({ m with nodes:=m.nodes++[x] }:Mm).nodes.length=m.nodes.length+1:=by simp
  rw [e]
  exact Qi ho (fun b hb1=>by simp [Value.ownBlock] at hb1;subst hb1;exact hos b (fun e=>hbog e.symm))
 ·have one:Fl.Nodup:=by
   match Fl,hF1 with
   | [],_=>simp
   | [a],_=>simp
  have eo:(Value.slice (some ⟨g,0,none⟩) (m.nodes.length+1) cap).ownBlock.toList=[g]:=rfl
  rw [eo,List.nodup_cons,List.nodup_append,List.nodup_append,List.nodup_append]
  refine ⟨fun hm=>?_,hFg,⟨by simp,⟨hFn,one,fun a ha b hb1 e=>by have:=hFnl a ha;have:=hFl b hb1;omega⟩,fun a ha b hb1 e=>?_⟩,fun a ha b hb1 e=>?_⟩
  ·simp only [List.mem_append,List.mem_singleton] at hm
   rcases hm with hm|hm|hm|hm
   ·exact hbo (by simp [hm])
   ·exact hbog hm
   ·exact hbo (by simp [hm])
   ·have:=hFl bo hm;omega
  ·simp only [List.mem_singleton] at ha
   subst ha
   rw [List.mem_append] at hb1
   rcases hb1 with hb1|hb1
   ·exact hgn b (hFnl b hb1) (hFnn b hb1) e.symm
   ·exact hFlg b hb1 e.symm
  ·simp only [List.mem_append,List.mem_singleton] at hb1
   rcases hb1 with hb1|hb1|hb1
   ·exact hgn a (hFgl a ha) (hFgn a ha) (e.trans hb1)
   ·exact hd1 a ha b (by simp [hb1]) e
   ·have:=hFgl a ha;have:=hFl b hb1;omega
 ·simp only [List.mem_cons,List.mem_append,not_or] at hF
  rw [hos k hF.1,ho5 k hk hF.2.2.1]
 ·simp only [List.mem_cons,List.mem_append,List.not_mem_nil,or_false] at hb1 ⊢
  rcases hb1 with hb1|hb1|hb1|hb1|hb1
  ·left;left;exact hb1
  ·left;right;left;exact hb1
  ·rcases hlies with h3|h3
   ·left;right;right;left;rw [h3,hb1];simp
   ·right;omega
  ·left;right;right;right;exact hb1
  ·right;exact hFl b hb1
 ·simp only [List.mem_cons,List.mem_append,List.not_mem_nil,or_false] at hb1
  rcases hb1 with hb1|hb1|hb1|hb1|hb1
  ·omega
  ·have:=hFgl b hb1;omega
  ·have:=Ve ho g (by simp [Value.ownBlock]);omega
  ·have:=hFnl b hb1;omega
  ·have:=hFll b hb1;omega
/-- what play comes to, for a sound code and a memory that fits -/
def Xdz (c:Cod) (m:Mm) (x:Cal) (fuel:Int) (w:World) (e:Ending) (w':World):Prop:=
 (Yd c x fuel≠0∧e=.returned (Xjr (Yd c x fuel))∧Below w.heap.size w w')∨
 (Yd c x fuel=0∧∃ m1 o p gv nv lv bo bl cells Fg Fn,Zm c (Zo c x fuel) m1∧Zx c m1 ⟨m,[],0⟩ o p∧e=.returned (.tuple #[Xap o,.agg #[gv,nv],lv,.int .i64 0])∧Qs w' bo p.mem gv nv cells Fg Fn∧Vm w' bl p.log lv∧Uv c p.mem∧p.log.length≤1000000000000∧(∀ b∈bo::(Fg++(nv.ownBlock.toList++Fn)),w.heap.size≤b)∧(∀ b∈bl::lv.ownBlock.toList,w.heap.size≤b)∧Below w.heap.size w w')
theorem Xjm (c:Cod) (m:Mm) (x:Cal) (fuel:Int) (fa ga va na xa:Option Addr) (fc gc vc nc xc B:Nat) (w:World) (hL:Qa w) (hB:B≤w.heap.size) (hc:Yj B w (.agg #[.slice fa c.fields.length fc,.int .i64 c.globals,.slice ga c.funcs.length gc]) c) (hm:MmV B w (.agg #[.slice va m.globals.length vc,.slice na m.nodes.length nc]) m) (hx:J8 B w (.agg #[.string x.proc,.slice xa x.args.length xc]) x) (hs:Xv c) (hft:Q7 c m=true) (hsm:Zb c) (hgv:Yd c x fuel≠0) :
  Calls Tryz.prog 58 #[.agg #[.slice fa c.fields.length fc,.int .i64 c.globals,.slice ga c.funcs.length gc],.agg #[.slice va m.globals.length vc,.slice na m.nodes.length nc],.agg #[.string x.proc,.slice xa x.args.length xc],.int .i64 fuel] w (Xdz c m x fuel w):=by
 have HFT:=Lh hft
 have HGV:=Lh hgv
 clear hft hgv
 obtain ⟨W,hW⟩:∃ W,W=(((((w.alloc (.cells #[.slice fa c.fields.length fc,.int .i64 c.globals,.slice ga c.funcs.length gc] 25)).alloc (.cells #[.slice va m.globals.length vc,.slice na m.nodes.length nc] 52)).alloc (.cells #[.string x.proc,.slice xa x.args.length xc] 27)).alloc (.cells (X8 0 0 0 0) 57)).alloc (.cells #[.slice none 0 0,.slice none 0 0] 52)).alloc (.cells #[.slice none 0 0] 60):=⟨_,rfl⟩
 have hWb:Hid (Below w.heap.size w W):=by rw [hW];exact (((((Xa _ _).then (Xa _ _)).then (Xa _ _)).then (Xa _ _)).then (Xa _ _)).then (Xa _ _)
 have hsz:Hid (W.heap.size=w.heap.size+6):=by rw [hW];exact Lh (by simp)
 have bb:Hid (W.heap[w.heap.size]?=some (.cells #[.slice fa c.fields.length fc,.int .i64 c.globals,.slice ga c.funcs.length gc] 25 (0,0))∧W.heap[w.heap.size+1]?=some (.cells #[.slice va m.globals.length vc,.slice na m.nodes.length nc] 52 (0,0))∧W.heap[w.heap.size+1+1]?=some (.cells #[.string x.proc,.slice xa x.args.length xc] 27 (0,0))∧Y7 W (w.heap.size+1+1+1) 0 0 0 0∧W.heap[w.heap.size+1+1+1+1]?=some (.cells #[.slice none 0 0,.slice none 0 0] 52 (0,0))∧W.heap[w.heap.size+1+1+1+1+1]?=some (.cells #[.slice none 0 0] 60 (0,0))):=Lh (by
  rw [hW]
  refine ⟨?_,?_,?_,?_,?_,?_⟩
  ·rw [Below.heap_alloc _ _ _ (by simp<;>omega),Below.heap_alloc _ _ _ (by simp<;>omega),Below.heap_alloc _ _ _ (by simp<;>omega),Below.heap_alloc _ _ _ (by simp<;>omega),Below.heap_alloc _ _ _ (by simp<;>omega)]
   exact heap_alloc_new _ _
  ·rw [Below.heap_alloc _ _ _ (by simp<;>omega),Below.heap_alloc _ _ _ (by simp<;>omega),Below.heap_alloc _ _ _ (by simp<;>omega),Below.heap_alloc _ _ _ (by simp<;>omega)]
   have:=heap_alloc_new (w.alloc (.cells #[.slice fa c.fields.length fc,.int .i64 c.globals,.slice ga c.funcs.length gc] 25)) (.cells #[.slice va m.globals.length vc,.slice na m.nodes.length nc] 52)
   simpa using this
  ·rw [Below.heap_alloc _ _ _ (by simp<;>omega),Below.heap_alloc _ _ _ (by simp<;>omega),Below.heap_alloc _ _ _ (by simp<;>omega)]
   have:=heap_alloc_new ((w.alloc (.cells #[.slice fa c.fields.length fc,.int .i64 c.globals,.slice ga c.funcs.length gc] 25)).alloc (.cells #[.slice va m.globals.length vc,.slice na m.nodes.length nc] 52)) (.cells #[.string x.proc,.slice xa x.args.length xc] 27)
   simpa using this
  ·unfold Y7
   rw [Below.heap_alloc _ _ _ (by simp<;>omega),Below.heap_alloc _ _ _ (by simp<;>omega)]
   have:=heap_alloc_new (((w.alloc (.cells #[.slice fa c.fields.length fc,.int .i64 c.globals,.slice ga c.funcs.length gc] 25)).alloc (.cells #[.slice va m.globals.length vc,.slice na m.nodes.length nc] 52)).alloc (.cells #[.string x.proc,.slice xa x.args.length xc] 27)) (.cells (X8 0 0 0 0) 57)
   simpa using this
  ·rw [Below.heap_alloc _ _ _ (by simp<;>omega)]
   have:=heap_alloc_new ((((w.alloc (.cells #[.slice fa c.fields.length fc,.int .i64 c.globals,.slice ga c.funcs.length gc] 25)).alloc (.cells #[.slice va m.globals.length vc,.slice na m.nodes.length nc] 52)).alloc (.cells #[.string x.proc,.slice xa x.args.length xc] 27)).alloc (.cells (X8 0 0 0 0) 57)) (.cells #[.slice none 0 0,.slice none 0 0] 52)
   simpa using this
  ·have:=heap_alloc_new (((((w.alloc (.cells #[.slice fa c.fields.length fc,.int .i64 c.globals,.slice ga c.funcs.length gc] 25)).alloc (.cells #[.slice va m.globals.length vc,.slice na m.nodes.length nc] 52)).alloc (.cells #[.string x.proc,.slice xa x.args.length xc] 27)).alloc (.cells (X8 0 0 0 0) 57)).alloc (.cells #[.slice none 0 0,.slice none 0 0] 52)) (.cells #[.slice none 0 0] 60)
   simpa using this)
 have HC:=Lh hc
 have HM:=Lh hm
 have HX:=Lh hx
 have HL:=Lh hL
 have hWB:B≤W.heap.size:=by have:=hsz.out;omega
 clear hc hm hx hL
 have i0:W.cell? ⟨w.heap.size,0,none⟩=some (.slice fa c.fields.length fc):=by rw [cell_of_row _ _ _ _ _ _ bb.out.1];rfl
 have i1:W.cell? ⟨w.heap.size,1,none⟩=some (.int .i64 c.globals):=by rw [cell_of_row _ _ _ _ _ _ bb.out.1];rfl
 have i2:W.cell? ⟨w.heap.size,2,none⟩=some (.slice ga c.funcs.length gc):=by rw [cell_of_row _ _ _ _ _ _ bb.out.1];rfl
 have m0:W.cell? ⟨w.heap.size+1,0,none⟩=some (.slice va m.globals.length vc):=by rw [cell_of_row _ _ _ _ _ _ bb.out.2.1];rfl
 have m1:W.cell? ⟨w.heap.size+1,1,none⟩=some (.slice na m.nodes.length nc):=by rw [cell_of_row _ _ _ _ _ _ bb.out.2.1];rfl
 have x0:W.cell? ⟨w.heap.size+1+1,0,none⟩=some (.string x.proc):=by rw [cell_of_row _ _ _ _ _ _ bb.out.2.2.1];rfl
 have x1:W.cell? ⟨w.heap.size+1+1,1,none⟩=some (.slice xa x.args.length xc):=by rw [cell_of_row _ _ _ _ _ _ bb.out.2.2.1];rfl
 have z0:=Bl i0
 have z1:=Bl m0
 have z2:=Bl x0
 go_enter Tryz.func58,Tryz.ntmps58
 unfold X8 at hW
 go_upto_region 1 with fail
 rw [←hW]
 have HW:=Lh hW
 clear hW
 go_wp2_with fail
 refine (Jm c _ B W (HL.out.below hWb.out) hWB (HC.out.below (hWb.out.mono hB))).mono ?_
 rintro e w1 ⟨rfl,hb1⟩
 rw [Zg hs]
 have HB1:=Lh (hWb.out.then hb1)
 have bb1:Hid (w1.heap[w.heap.size]?=some (.cells #[.slice fa c.fields.length fc,.int .i64 c.globals,.slice ga c.funcs.length gc] 25 (0,0))∧w1.heap[w.heap.size+1]?=some (.cells #[.slice va m.globals.length vc,.slice na m.nodes.length nc] 52 (0,0))∧w1.heap[w.heap.size+1+1]?=some (.cells #[.string x.proc,.slice xa x.args.length xc] 27 (0,0))∧Y7 w1 (w.heap.size+1+1+1) 0 0 0 0∧w1.heap[w.heap.size+1+1+1+1]?=some (.cells #[.slice none 0 0,.slice none 0 0] 52 (0,0))∧w1.heap[w.heap.size+1+1+1+1+1]?=some (.cells #[.slice none 0 0] 60 (0,0))):=Lh ⟨Yk hb1 bb.out.1,Yk hb1 bb.out.2.1,Yk hb1 bb.out.2.2.1,Yk hb1 bb.out.2.2.2.1,Yk hb1 bb.out.2.2.2.2.1,Yk hb1 bb.out.2.2.2.2.2⟩
 clear hb1
 have i0:w1.cell? ⟨w.heap.size,0,none⟩=some (.slice fa c.fields.length fc):=by rw [cell_of_row _ _ _ _ _ _ bb1.out.1];rfl
 have i1:w1.cell? ⟨w.heap.size,1,none⟩=some (.int .i64 c.globals):=by rw [cell_of_row _ _ _ _ _ _ bb1.out.1];rfl
 have i2:w1.cell? ⟨w.heap.size,2,none⟩=some (.slice ga c.funcs.length gc):=by rw [cell_of_row _ _ _ _ _ _ bb1.out.1];rfl
 have m0:w1.cell? ⟨w.heap.size+1,0,none⟩=some (.slice va m.globals.length vc):=by rw [cell_of_row _ _ _ _ _ _ bb1.out.2.1];rfl
 have m1:w1.cell? ⟨w.heap.size+1,1,none⟩=some (.slice na m.nodes.length nc):=by rw [cell_of_row _ _ _ _ _ _ bb1.out.2.1];rfl
 have x0:w1.cell? ⟨w.heap.size+1+1,0,none⟩=some (.string x.proc):=by rw [cell_of_row _ _ _ _ _ _ bb1.out.2.2.1];rfl
 have x1:w1.cell? ⟨w.heap.size+1+1,1,none⟩=some (.slice xa x.args.length xc):=by rw [cell_of_row _ _ _ _ _ _ bb1.out.2.2.1];rfl
 have z0:=Bl i0
 have z1:=Bl m0
 have z2:=Bl x0
 go_wp2_with fail
 refine (Xdi c _ m _ B w1 (Nat.le_trans hB HB1.out.size) (HC.out.below (HB1.out.mono hB)) (HM.out.below (HB1.out.mono hB))).mono ?_
 rintro e w2 ⟨rfl,hb2⟩
 rw [HFT.out]
 have HB2:=Lh (HB1.out.then hb2)
 have bb2:Hid (w2.heap[w.heap.size]?=some (.cells #[.slice fa c.fields.length fc,.int .i64 c.globals,.slice ga c.funcs.length gc] 25 (0,0))∧w2.heap[w.heap.size+1]?=some (.cells #[.slice va m.globals.length vc,.slice na m.nodes.length nc] 52 (0,0))∧w2.heap[w.heap.size+1+1]?=some (.cells #[.string x.proc,.slice xa x.args.length xc] 27 (0,0))∧Y7 w2 (w.heap.size+1+1+1) 0 0 0 0∧w2.heap[w.heap.size+1+1+1+1]?=some (.cells #[.slice none 0 0,.slice none 0 0] 52 (0,0))∧w2.heap[w.heap.size+1+1+1+1+1]?=some (.cells #[.slice none 0 0] 60 (0,0))):=Lh ⟨Yk hb2 bb1.out.1,Yk hb2 bb1.out.2.1,Yk hb2 bb1.out.2.2.1,Yk hb2 bb1.out.2.2.2.1,Yk hb2 bb1.out.2.2.2.2.1,Yk hb2 bb1.out.2.2.2.2.2⟩
 clear hb2
 have i0:w2.cell? ⟨w.heap.size,0,none⟩=some (.slice fa c.fields.length fc):=by rw [cell_of_row _ _ _ _ _ _ bb2.out.1];rfl
 have i1:w2.cell? ⟨w.heap.size,1,none⟩=some (.int .i64 c.globals):=by rw [cell_of_row _ _ _ _ _ _ bb2.out.1];rfl
 have i2:w2.cell? ⟨w.heap.size,2,none⟩=some (.slice ga c.funcs.length gc):=by rw [cell_of_row _ _ _ _ _ _ bb2.out.1];rfl
 have m0:w2.cell? ⟨w.heap.size+1,0,none⟩=some (.slice va m.globals.length vc):=by rw [cell_of_row _ _ _ _ _ _ bb2.out.2.1];rfl
 have m1:w2.cell? ⟨w.heap.size+1,1,none⟩=some (.slice na m.nodes.length nc):=by rw [cell_of_row _ _ _ _ _ _ bb2.out.2.1];rfl
 have x0:w2.cell? ⟨w.heap.size+1+1,0,none⟩=some (.string x.proc):=by rw [cell_of_row _ _ _ _ _ _ bb2.out.2.2.1];rfl
 have x1:w2.cell? ⟨w.heap.size+1+1,1,none⟩=some (.slice xa x.args.length xc):=by rw [cell_of_row _ _ _ _ _ _ bb2.out.2.2.1];rfl
 have z0:=Bl i0
 have z1:=Bl m0
 have z2:=Bl x0
 go_wp2_with fail
 refine (Xb5 c x fuel _ _ B w2 (Nat.le_trans hB HB2.out.size) (HC.out.below (HB2.out.mono hB)) (HX.out.below (HB2.out.mono hB)) hs hsm).mono ?_
 rintro e w3 hP
 rcases hP with ⟨h0,rfl,hb3⟩|⟨h0,_⟩
 rotate_left
 ·exact absurd h0 HGV.out
 obtain ⟨er,her⟩:∃ er,er=Yd c x fuel:=⟨_,rfl⟩
 rw [←her]
 rw [←her] at h0
 have HER:=Lh her
 clear her
 have hne:(er != 0)=true:=by simp [h0]
 have HB3:=Lh (HB2.out.then hb3)
 have bb3:Hid (w3.heap[w.heap.size]?=some (.cells #[.slice fa c.fields.length fc,.int .i64 c.globals,.slice ga c.funcs.length gc] 25 (0,0))∧w3.heap[w.heap.size+1]?=some (.cells #[.slice va m.globals.length vc,.slice na m.nodes.length nc] 52 (0,0))∧w3.heap[w.heap.size+1+1]?=some (.cells #[.string x.proc,.slice xa x.args.length xc] 27 (0,0))∧Y7 w3 (w.heap.size+1+1+1) 0 0 0 0∧w3.heap[w.heap.size+1+1+1+1]?=some (.cells #[.slice none 0 0,.slice none 0 0] 52 (0,0))∧w3.heap[w.heap.size+1+1+1+1+1]?=some (.cells #[.slice none 0 0] 60 (0,0))):=Lh ⟨Yk hb3 bb2.out.1,Yk hb3 bb2.out.2.1,Yk hb3 bb2.out.2.2.1,Yk hb3 bb2.out.2.2.2.1,Yk hb3 bb2.out.2.2.2.2.1,Yk hb3 bb2.out.2.2.2.2.2⟩
 clear hb3
 obtain ⟨W4,hW4⟩:∃ W,W=w3.alloc (.cells (Xb (.slice none 0 0) Xl) 36):=⟨_,rfl⟩
 have hb4:Below w3.heap.size w3 W4:=by rw [hW4];exact Xa _ _
 have HB4:=Lh (HB3.out.then hb4)
 have bb4:Hid (W4.heap[w.heap.size]?=some (.cells #[.slice fa c.fields.length fc,.int .i64 c.globals,.slice ga c.funcs.length gc] 25 (0,0))∧W4.heap[w.heap.size+1]?=some (.cells #[.slice va m.globals.length vc,.slice na m.nodes.length nc] 52 (0,0))∧W4.heap[w.heap.size+1+1]?=some (.cells #[.string x.proc,.slice xa x.args.length xc] 27 (0,0))∧Y7 W4 (w.heap.size+1+1+1) 0 0 0 0∧W4.heap[w.heap.size+1+1+1+1]?=some (.cells #[.slice none 0 0,.slice none 0 0] 52 (0,0))∧W4.heap[w.heap.size+1+1+1+1+1]?=some (.cells #[.slice none 0 0] 60 (0,0))):=Lh ⟨Yk hb4 bb3.out.1,Yk hb4 bb3.out.2.1,Yk hb4 bb3.out.2.2.1,Yk hb4 bb3.out.2.2.2.1,Yk hb4 bb3.out.2.2.2.2.1,Yk hb4 bb3.out.2.2.2.2.2⟩
 have i0:w3.cell? ⟨w.heap.size,0,none⟩=some (.slice fa c.fields.length fc):=by rw [cell_of_row _ _ _ _ _ _ bb3.out.1];rfl
 have i1:w3.cell? ⟨w.heap.size,1,none⟩=some (.int .i64 c.globals):=by rw [cell_of_row _ _ _ _ _ _ bb3.out.1];rfl
 have i2:w3.cell? ⟨w.heap.size,2,none⟩=some (.slice ga c.funcs.length gc):=by rw [cell_of_row _ _ _ _ _ _ bb3.out.1];rfl
 have m0:w3.cell? ⟨w.heap.size+1,0,none⟩=some (.slice va m.globals.length vc):=by rw [cell_of_row _ _ _ _ _ _ bb3.out.2.1];rfl
 have m1:w3.cell? ⟨w.heap.size+1,1,none⟩=some (.slice na m.nodes.length nc):=by rw [cell_of_row _ _ _ _ _ _ bb3.out.2.1];rfl
 have x0:w3.cell? ⟨w.heap.size+1+1,0,none⟩=some (.string x.proc):=by rw [cell_of_row _ _ _ _ _ _ bb3.out.2.2.1];rfl
 have x1:w3.cell? ⟨w.heap.size+1+1,1,none⟩=some (.slice xa x.args.length xc):=by rw [cell_of_row _ _ _ _ _ _ bb3.out.2.2.1];rfl
 have z0:=Bl i0
 have z1:=Bl m0
 have z2:=Bl x0
 unfold Xi
 unfold Xb Xl at hW4 ⊢
 dsimp only at hW4 ⊢
 clear hb4
 go_upto_region 5 with fail
 rw [←hW4]
 clear hW4
 have i0:W4.cell? ⟨w.heap.size,0,none⟩=some (.slice fa c.fields.length fc):=by rw [cell_of_row _ _ _ _ _ _ bb4.out.1];rfl
 have i1:W4.cell? ⟨w.heap.size,1,none⟩=some (.int .i64 c.globals):=by rw [cell_of_row _ _ _ _ _ _ bb4.out.1];rfl
 have i2:W4.cell? ⟨w.heap.size,2,none⟩=some (.slice ga c.funcs.length gc):=by rw [cell_of_row _ _ _ _ _ _ bb4.out.1];rfl
 have m0:W4.cell? ⟨w.heap.size+1,0,none⟩=some (.slice va m.globals.length vc):=by rw [cell_of_row _ _ _ _ _ _ bb4.out.2.1];rfl
 have m1:W4.cell? ⟨w.heap.size+1,1,none⟩=some (.slice na m.nodes.length nc):=by rw [cell_of_row _ _ _ _ _ _ bb4.out.2.1];rfl
 have x0:W4.cell? ⟨w.heap.size+1+1,0,none⟩=some (.string x.proc):=by rw [cell_of_row _ _ _ _ _ _ bb4.out.2.2.1];rfl
 have x1:W4.cell? ⟨w.heap.size+1+1,1,none⟩=some (.slice xa x.args.length xc):=by rw [cell_of_row _ _ _ _ _ _ bb4.out.2.2.1];rfl
 have z0:=Bl i0
 have z1:=Bl m0
 have z2:=Bl x0
 have o0:=Xs bb4.out.2.2.2.1 0 (.int .i64 0) rfl
 have fo0:W4.frozen? ⟨w.heap.size+1+1+1,0,none⟩=false:=Fz bb4.out.2.2.2.1
 have o1:=Xs bb4.out.2.2.2.1 1 (.int .i64 0) rfl
 have fo1:W4.frozen? ⟨w.heap.size+1+1+1,1,none⟩=false:=Fz bb4.out.2.2.2.1
 have o2:=Xs bb4.out.2.2.2.1 2 (.int .i64 0) rfl
 have fo2:W4.frozen? ⟨w.heap.size+1+1+1,2,none⟩=false:=Fz bb4.out.2.2.2.1
 have o3:=Xs bb4.out.2.2.2.1 3 (.int .i64 0) rfl
 have fo3:W4.frozen? ⟨w.heap.size+1+1+1,3,none⟩=false:=Fz bb4.out.2.2.2.1
 have o4:=Xs bb4.out.2.2.2.1 4 (.int .i64 0) rfl
 have fo4:W4.frozen? ⟨w.heap.size+1+1+1,4,none⟩=false:=Fz bb4.out.2.2.2.1
 have u0:W4.cell? ⟨w.heap.size+1+1+1+1,0,none⟩=some (.slice none 0 0):=by rw [cell_of_row _ _ _ _ _ _ bb4.out.2.2.2.2.1];rfl
 have fu0:W4.frozen? ⟨w.heap.size+1+1+1+1,0,none⟩=false:=Fz bb4.out.2.2.2.2.1
 have u1:W4.cell? ⟨w.heap.size+1+1+1+1,1,none⟩=some (.slice none 0 0):=by rw [cell_of_row _ _ _ _ _ _ bb4.out.2.2.2.2.1];rfl
 have fu1:W4.frozen? ⟨w.heap.size+1+1+1+1,1,none⟩=false:=Fz bb4.out.2.2.2.2.1
 have l0:W4.cell? ⟨w.heap.size+1+1+1+1+1,0,none⟩=some (.slice none 0 0):=by rw [cell_of_row _ _ _ _ _ _ bb4.out.2.2.2.2.2];rfl
 have fl0:W4.frozen? ⟨w.heap.size+1+1+1+1+1,0,none⟩=false:=Fz bb4.out.2.2.2.2.2
 have so0:W4.setCell ⟨w.heap.size+1+1+1,0,none⟩ (.int .i64 0)=W4:=Xg bb4.out.2.2.2.1 rfl
 have so1:W4.setCell ⟨w.heap.size+1+1+1,1,none⟩ (.int .i64 0)=W4:=Xg bb4.out.2.2.2.1 rfl
 have so2:W4.setCell ⟨w.heap.size+1+1+1,2,none⟩ (.int .i64 0)=W4:=Xg bb4.out.2.2.2.1 rfl
 have so3:W4.setCell ⟨w.heap.size+1+1+1,3,none⟩ (.int .i64 0)=W4:=Xg bb4.out.2.2.2.1 rfl
 have so4:W4.setCell ⟨w.heap.size+1+1+1,4,none⟩ (.int .i64 0)=W4:=Xg bb4.out.2.2.2.1 rfl
 have su0:W4.setCell ⟨w.heap.size+1+1+1+1,0,none⟩ (.slice none 0 0)=W4:=Xg bb4.out.2.2.2.2.1 rfl
 have su1:W4.setCell ⟨w.heap.size+1+1+1+1,1,none⟩ (.slice none 0 0)=W4:=Xg bb4.out.2.2.2.2.1 rfl
 have sl0:W4.setCell ⟨w.heap.size+1+1+1+1+1,0,none⟩ (.slice none 0 0)=W4:=Xg bb4.out.2.2.2.2.2 rfl
 have z3:=Bl o0
 have z4:=Bl u0
 have z5:=Bl l0
 go_region
 all_goals (go_wp2_with fail;exact bodyPost_ret (v:=Xjr er) (Z4 (W:=W4.drew) (o:=Xc8) (p:=8) (q:=9) (r:=10) (u:=11) rfl bb4.out.2.2.2.1 bb4.out.2.2.2.2.1 bb4.out.2.2.2.2.2 _ _ rfl rfl rfl rfl) rfl (.inl ⟨HGV.out,by rw [HER.out],Xh HB4.out 1⟩))
def Uf (bo:Nat) (nv:Value) (Fg Fn:List Nat):List Nat:=bo::(Fg++(nv.ownBlock.toList++Fn))
def Vh (bl:Nat) (lv:Value):List Nat:=bl::lv.ownBlock.toList
def Dj (X Y:List Nat):Prop:=∀ b∈X,b∉Y
theorem Dj.symm {X Y:List Nat} (h:Dj X Y):Dj Y X:=fun b hb hx=>h b hx hb
theorem Dj.mods {X X' Y:List Nat} {w w':World} (h:Dj X Y) (hM:Xp X X' w w') (hY:∀ b∈Y,b<w.heap.size):Dj X' Y:=fun b hb hy=>by
 rcases hM.new b hb with h1|h1
 ·exact h b h1 hy
 ·have:=hY b hy;omega
theorem Dj.keep {X X' Y:List Nat} {w w':World} (h:Dj X Y) (hM:Xp X X' w w') (hY:∀ b∈Y,b<w.heap.size):∀ b∈Y,w'.heap[b]?=w.heap[b]?:=fun b hb=>hM.block b (hY b hb) (fun e=>h b e hb)
structure PSt (A:Nat) (W wr:World) (bm bo bl bc:Nat) (m:Mch) (p:Ply) (fault value cmp:Int) (Fm:List Nat) (gv nv:Value) (cells:List Value) (Fg Fn:List Nat) (lv:Value):Prop where
 mach:X3 wr bm m Fm
 mem:Qs wr bo p.mem gv nv cells Fg Fn
 log:Vm wr bl p.log lv
 out:Y7 wr bc fault value cmp p.nodes
 d1:Dj Fm (Uf bo nv Fg Fn)
 d2:Dj Fm (Vh bl lv)
 d3:Dj Fm [bc]
 d4:Dj (Uf bo nv Fg Fn) (Vh bl lv)
 d5:Dj (Uf bo nv Fg Fn) [bc]
 d6:Dj (Vh bl lv) [bc]
 g1:∀ b∈Fm,A≤b
 g2:∀ b∈Uf bo nv Fg Fn,A≤b
 g3:∀ b∈Vh bl lv,A≤b
 g4:A≤bc
 aw:A≤W.heap.size
 bel:Below A W wr
variable {A:Nat} {W wr w':World} {bm bo bl bc:Nat} {m:Mch} {p:Ply} {fault value cmp:Int} {Fm:List Nat} {gv nv:Value} {cells:List Value} {Fg Fn:List Nat} {lv:Value}
theorem PSt.ltM (h:PSt A W wr bm bo bl bc m p fault value cmp Fm gv nv cells Fg Fn lv):∀ b∈Fm,b<wr.heap.size:=h.mach.lt
theorem PSt.ltO (h:PSt A W wr bm bo bl bc m p fault value cmp Fm gv nv cells Fg Fn lv):∀ b∈Uf bo nv Fg Fn,b<wr.heap.size:=h.mem.lt
theorem PSt.ltL (h:PSt A W wr bm bo bl bc m p fault value cmp Fm gv nv cells Fg Fn lv):∀ b∈Vh bl lv,b<wr.heap.size:=h.log.lt
theorem PSt.ltC (h:PSt A W wr bm bo bl bc m p fault value cmp Fm gv nv cells Fg Fn lv):∀ b∈[bc],b<wr.heap.size:=fun b hb=>by
 rw [List.mem_singleton] at hb;rw [hb];exact (La h.out)
theorem PSt.aWr (h:PSt A W wr bm bo bl bc m p fault value cmp Fm gv nv cells Fg Fn lv):A≤wr.heap.size:=Nat.le_trans h.aw h.bel.size
theorem PSt.keep (h:PSt A W wr bm bo bl bc m p fault value cmp Fm gv nv cells Fg Fn lv) (hb:Below wr.heap.size wr w'):PSt A W w' bm bo bl bc m p fault value cmp Fm gv nv cells Fg Fn lv:=
 ⟨h.mach.keep hb,h.mem.keep (fun b hb'=>hb.block b (h.ltO b hb')),h.log.keep (fun b hb'=>hb.block b (h.ltL b hb')),Yk hb h.out,h.d1,h.d2,h.d3,h.d4,h.d5,h.d6,h.g1,h.g2,h.g3,h.g4,h.aw,h.bel.trans (hb.mono h.aWr)⟩
/-- another machine -/
theorem PSt.machM (h:PSt A W wr bm bo bl bc m p fault value cmp Fm gv nv cells Fg Fn lv) {m':Mch} {F':List Nat} (hO:X3 w' bm m' F') (hM:Xp Fm F' wr w'):PSt A W w' bm bo bl bc m' p fault value cmp F' gv nv cells Fg Fn lv:=
 ⟨hO,h.mem.keep (h.d1.keep hM h.ltO),h.log.keep (h.d2.keep hM h.ltL),by show w'.heap[bc]?=_;rw [h.d3.keep hM h.ltC bc (by simp)];exact h.out,h.d1.mods hM h.ltO,h.d2.mods hM h.ltL,h.d3.mods hM h.ltC,h.d4,h.d5,h.d6,hM.ge h.g1 h.aWr,h.g2,h.g3,h.g4,h.aw,h.bel.trans (hM.below h.g1 h.aWr)⟩
/-- another memory -/
theorem PSt.memM (h:PSt A W wr bm bo bl bc m p fault value cmp Fm gv nv cells Fg Fn lv) {mm:Mm} {gv' nv':Value} {cells':List Value} {Fg' Fn':List Nat} (hO:Qs w' bo mm gv' nv' cells' Fg' Fn') (hM:Xp (Uf bo nv Fg Fn) (Uf bo nv' Fg' Fn') wr w'):PSt A W w' bm bo bl bc m { p with mem:=mm } fault value cmp Fm gv' nv' cells' Fg' Fn' lv:=by
 refine ⟨?_,hO,h.log.keep (h.d4.keep hM h.ltL),by show w'.heap[bc]?=_;rw [h.d5.keep hM h.ltC bc (by simp)];exact h.out,(h.d1.symm.mods hM h.ltM).symm,h.d2,h.d3,h.d4.mods hM h.ltL,h.d5.mods hM h.ltC,h.d6,h.g1,hM.ge h.g2 h.aWr,h.g3,h.g4,h.aw,h.bel.trans (hM.below h.g2 h.aWr)⟩
 obtain ⟨fv,F0,h1,h2,h3,h4⟩:=Xt.1 h.mach
 have hk:=h.d1.symm.keep hM h.ltM
 exact Xt.2 ⟨fv,F0,by rw [hk bm (by rw [h3];simp)];exact h1,h2.keep (fun b hb=>hk b (by rw [h3];simp [hb])),h3,h4⟩
/-- an access is noted -/
theorem PSt.noteM (h:PSt A W wr bm bo bl bc m p fault value cmp Fm gv nv cells Fg Fn lv) {a:Acc} {e:Ending} (hP:Xc4 wr bl bc p.log lv a fault value cmp p.nodes e w'):e=.returned (.tuple #[])∧∃ lv',PSt A W w' bm bo bl bc m ⟨p.mem,p.log++[a],p.nodes+(if 0<a.node then 1 else 0)⟩ fault value cmp Fm gv nv cells Fg Fn lv':=by
 obtain ⟨he,lv',hL,hO,hM,hn⟩:=hP
 have dj:∀ {Y:List Nat},Dj Y [bc]→Dj Y (Vh bl lv)→Dj (bc::Vh bl lv) Y:=fun h1 h2 b hb hy=>by
  rw [List.mem_cons] at hb
  rcases hb with hb|hb
  ·exact h1 b hy (by simp [hb])
  ·exact h2 b hy hb
 have hM':Xp (bc::Vh bl lv) (bc::Vh bl lv') wr w':=hM
 have e1:Dj (bc::Vh bl lv) Fm:=dj h.d3 h.d2
 have e2:Dj (bc::Vh bl lv) (Uf bo nv Fg Fn):=dj h.d5 h.d4
 have gg:∀ b∈bc::Vh bl lv,A≤b:=fun b hb=>by
  rw [List.mem_cons] at hb
  rcases hb with hb|hb
  ·rw [hb];exact h.g4
  ·exact h.g3 b hb
 have sub:Dj (bc::Vh bl lv') Fm:=e1.mods hM' h.ltM
 have sub2:Dj (bc::Vh bl lv') (Uf bo nv Fg Fn):=e2.mods hM' h.ltO
 refine ⟨he,lv',?_,h.mem.keep (e2.keep hM' h.ltO),hL,hO,h.d1,fun b hb hb'=>sub b (List.mem_cons_of_mem _ hb') hb,h.d3,fun b hb hb'=>sub2 b (List.mem_cons_of_mem _ hb') hb,h.d5,fun b hb hb'=>hn (by rw [List.mem_singleton] at hb';rw [←hb'];exact hb),h.g1,h.g2,fun b hb=>hM'.ge gg h.aWr b (List.mem_cons_of_mem _ hb),h.g4,h.aw,h.bel.trans (hM'.below gg h.aWr)⟩
 obtain ⟨fv,F0,h1,h2,h3,h4⟩:=Xt.1 h.mach
 have hk:=e1.keep hM' h.ltM
 exact Xt.2 ⟨fv,F0,by rw [hk bm (by rw [h3];simp)];exact h1,h2.keep (fun b hb=>hk b (by rw [h3];simp [hb])),h3,h4⟩
/-- a cell of the outcome is written -/
theorem PSt.outM (h:PSt A W wr bm bo bl bc m p fault value cmp Fm gv nv cells Fg Fn lv) (j:Nat) (u:Value) {f' v' c':Int} (hj:(X8 fault value cmp p.nodes).setIfInBounds j u=X8 f' v' c' p.nodes):PSt A W (wr.setCell ⟨bc,j,none⟩ u) bm bo bl bc m p f' v' c' Fm gv nv cells Fg Fn lv:=by
 have ho:∀ b,b≠bc→(wr.setCell ⟨bc,j,none⟩ u).heap[b]?=wr.heap[b]?:=fun b hb=>heap_setCell_other _ _ _ _ hb
 have n1:∀ b∈Fm,b≠bc:=fun b hb e=>h.d3 b hb (by simp [e])
 have n2:∀ b∈Uf bo nv Fg Fn,b≠bc:=fun b hb e=>h.d5 b hb (by simp [e])
 have n3:∀ b∈Vh bl lv,b≠bc:=fun b hb e=>h.d6 b hb (by simp [e])
 refine ⟨?_,h.mem.keep (fun b hb=>ho b (n2 b hb)),h.log.keep (fun b hb=>ho b (n3 b hb)),?_,h.d1,h.d2,h.d3,h.d4,h.d5,h.d6,h.g1,h.g2,h.g3,h.g4,h.aw,h.bel.trans ((Below.refl _ _).setCell h.g4 _)⟩
 ·obtain ⟨fv,F0,h1,h2,h3,h4⟩:=Xt.1 h.mach
  exact Xt.2 ⟨fv,F0,by rw [ho bm (n1 bm (by rw [h3];simp))];exact h1,h2.keep (fun b hb=>ho b (n1 b (by rw [h3];simp [hb]))),h3,h4⟩
 ·have:=heap_setCell_same _ bc j _ _ u h.out
  rw [hj] at this
  exact this
/-- what holds while a machine plays -/
structure Kt (c:Cod) (m:Mch) (p:Ply):Prop where
 ends:Us c m∨(m.frames=[]∧m.req=X0 21∧Ug m)
 mem:Uv c p.mem
 len:p.log.length+mu m≤1000000000000
 nodes:0≤p.nodes∧p.nodes≤p.log.length
theorem Xch {c:Cod} (hs:Xv c) {x:Cal} {fuel:Int} (h:Yd c x fuel=0) {m:Mch} (hr:Zm c (Zo c x fuel) m):Us c m∧mu m≤300000000000:=by
 obtain ⟨fs,f,hg,hp⟩:∃ fs f,Ja c (Zo c x fuel) fs f∧pot (Zo c x fuel)≤110000000000:=by
  unfold Yd at h
  by_cases h2:fuel<0∨1048576<fuel
  ·rw [if_pos h2] at h;omega
  rw [if_neg h2] at h
  cases hy:c.funcs[(Q8 c x.proc).toNat]? with
  | none=>rw [hy] at h;simp at h
  | some y=>
   rw [hy] at h
   simp only [] at h
   by_cases h3:Q8 c x.proc<0
   ·rw [if_pos h3] at h;omega
   rw [if_neg h3] at h
   by_cases h4:(x.args.length:Int)=y.params
   rotate_left
   ·rw [if_pos h4] at h;omega
   rw [if_neg (by simp [h4])] at h
   cases h5:x.args.any (fun n=>!X1 n) with
   | true=>rw [h5] at h;simp at h
   | false=>
    have hfo:=hs.fok hy
    unfold Zr at hfo
    have e:Zo c x fuel=⟨[⟨Q8 c x.proc,0,x.args++List.replicate (y.locals - y.params).toNat 0,[]⟩],⟨0,0,0,0,0⟩,fuel,0,0⟩:=by unfold Zo;rw [hy];rfl
    rw [e]
    refine ⟨[],_,⟨rfl,⟨y,⟨by show 0≤Q8 c x.proc;omega,hy,by show (0:Int)≤0;omega,by show ((x.args++List.replicate (y.locals - y.params).toNat 0).length:Int)=y.locals;rw [List.length_append,List.length_replicate];omega,fun n hn=>?_,by simp⟩,Reach.zero c y⟩,trivial,by simp,⟨by show 0≤fuel;omega,by show (0:Int)≤0;omega,by show (0:Int)≤100000;omega,by show (0:Int)≤0;omega,by show (0:Int)+(fuel*100001+(100000 - 0))≤_;omega⟩⟩,by show fuel*100001+(100000 - 0)≤_;omega⟩
    simp only [List.mem_append,List.mem_replicate] at hn
    rcases hn with hn|hn
    ·exact Xfj.1 h5 n hn
    ·rw [hn.2];unfold isV;omega
 obtain ⟨h1,h2⟩:=Xew hs hr fs f hg
 refine ⟨h1,?_⟩
 unfold mu
 split<;>omega
/-- a machine that plays and has not ended waits for an answer -/
theorem Kt.waits {c:Cod} {m:Mch} {p:Ply} (h:Kt c m p) (h4:m.req.kind≠4) (h5:m.req.kind≠5):Us c m∧∃ fs f,Qr c m m.req fs f:=by
 rcases h.ends with h|⟨_,hr,_⟩
 ·refine ⟨h,?_⟩
  rcases h.2 with ⟨e,_,hr,_⟩|⟨v,_,hr,_⟩|h
  ·exact absurd (by rw [hr];rfl) h5
  ·exact absurd (by rw [hr];rfl) h4
  ·exact h
 ·exact absurd (by rw [hr];rfl) h5
/-- a request that a sound code makes -/
structure Xm4 (c:Cod) (r:Rq):Prop where
 kind:r.kind=1∨r.kind=2∨r.kind=3
 field:0≤r.field
 field2:r.field≤100
 node:0≤r.node
 nodeV:isV r.node
 value:isV r.value
 alloc:r.kind=3→∃ n,c.fields[r.field.toNat]?=some n∧0≤n∧n≤12
theorem Qr.req {c:Cod} (hs:Xv c) {m:Mch} {r:Rq} {fs:List Fra} {f:Fra} (h:Qr c m r fs f):Xm4 c r:=by
 obtain ⟨y,x,_,hb,_,hx,ha,_⟩:=h.top
 have lim:=fun {n:Int} hn=>hs.lim (n:=n) hb.fn hx hn
 have z:isV 0:=by unfold isV;omega
 have hg:=hs.1.2.2.2.1
 have hfl:=hs.1.1
 rcases ha with ⟨ho,rfl⟩|⟨v,ho,hv,rfl⟩|⟨n,ho,h1,h2,rfl⟩|⟨n,v,ho,h1,h2,hv,rfl⟩|⟨ho,rfl⟩
 ·have:=lim (n:=c.globals) (by rw [ho];rfl)
  exact ⟨by simp,this.1,by show x.a≤100;omega,by simp,z,z,by simp⟩
 ·have:=lim (n:=c.globals) (by rw [ho];rfl)
  exact ⟨by simp,this.1,by show x.a≤100;omega,by simp,z,hv,by simp⟩
 ·have:=lim (n:=12) (by rw [ho];rfl)
  exact ⟨by simp,this.1,by show x.a≤100;omega,by show 0≤n;omega,h2,z,by simp⟩
 ·have:=lim (n:=12) (by rw [ho];rfl)
  exact ⟨by simp,this.1,by show x.a≤100;omega,by show 0≤n;omega,h2,hv,by simp⟩
 ·have:=lim (n:=(c.fields.length:Int)) (by rw [ho];rfl)
  refine ⟨by simp,this.1,by show x.a≤100;omega,by simp,z,z,fun _=>?_⟩
  have hlt:x.a.toNat<c.fields.length:=by omega
  refine ⟨c.fields[x.a.toNat],List.getElem?_eq_getElem hlt,?_⟩
  have h2:=hs.1.2.1
  rw [List.any_eq_false] at h2
  have:=h2 _ (List.getElem_mem hlt)
  simp at this
  omega
theorem Xk9 {c:Cod} {m:Mm} (h:Uv c m) (r:Rq):∀ n∈Un m r,isV n:=by
 unfold Un
 split
 ·simp
 split
 ·cases hx:m.nodes[(r.node - 1).toNat]? with
  | none=>simp
  | some x=>
   simp
   exact (h.nodes x (List.mem_of_getElem? hx)).2.2
 ·exact h.gv
theorem Ji {c:Cod} {p p':Ply} {r:Rq} {n:Int} (hm:Uv c p.mem) (hr:Xm4 c r) (h:J5 c p r=some (p',n)):Yr r n=true:=by
 unfold J5 at h
 unfold Yr
 by_cases h3:r.kind=3
 ·rw [if_neg (by omega),if_pos h3]
  rw [if_pos h3] at h
  have hl:=hm.len
  split at h
  ·simp at h;simp;omega
  ·simp at h;simp;omega
 ·rw [if_neg h3] at h
  by_cases h1:r.kind=1
  ·rw [if_pos h1]
   split at h
   ·simp at h
   ·rename_i hlt
    simp at h
    have h2:=h.2
    rw [if_neg (by omega)] at h2
    have hlt2:r.field.toNat<(Un p.mem r).length:=by have:=hr.field;omega
    rw [List.getElem?_eq_getElem hlt2] at h2
    simp at h2
    rw [←h2]
    exact Ye.2 (Xk9 hm r _ (List.getElem_mem hlt2))
  ·rw [if_neg h1,if_neg h3]
theorem Xpw {c:Cod} {m:Mm} {r:Rq} (h:Uv c m) (hv:isV r.value):Uv c (putM m r):=by
 unfold putM
 split
 ·exact h
 split
 ·refine ⟨h.gl,h.gv,by simp;exact h.len,fun x hx=>?_⟩
  obtain ⟨i,hi⟩:=List.mem_iff_getElem?.1 hx
  simp only [List.getElem?_modify] at hi
  cases hy:m.nodes[i]? with
  | none=>rw [hy] at hi;simp at hi
  | some y=>
   rw [hy] at hi
   have hyo:=h.nodes y (List.mem_of_getElem? hy)
   simp at hi
   split at hi
   ·subst hi
    refine ⟨hyo.1,by simp only [Xem,List.length_set];exact hyo.2.1,fun n hn=>?_⟩
    rcases List.mem_or_eq_of_mem_set hn with h1|h1
    ·exact hyo.2.2 n h1
    ·rw [h1];exact hv
   ·subst hi;exact hyo
 ·refine ⟨by simp;exact h.gl,fun n hn=>?_,h.len,h.nodes⟩
  rcases List.mem_or_eq_of_mem_set hn with h1|h1
  ·exact h.gv n h1
  ·rw [h1];exact hv
theorem Xq1 {c:Cod} {p p':Ply} {r:Rq} {n:Int} (hm:Uv c p.mem) (hr:Xm4 c r) (h:J5 c p r=some (p',n)):Uv c p'.mem∧(p'.log.length≤p.log.length+1)∧((0≤p.nodes∧p.nodes≤p.log.length)→0≤p'.nodes∧p'.nodes≤p'.log.length):=by
 unfold J5 at h
 by_cases h3:r.kind=3
 ·rw [if_pos h3] at h
  obtain ⟨k,hk,hk0,hk1⟩:=hr.alloc h3
  split at h
  ·rename_i hl
   simp at h
   obtain ⟨rfl,_⟩:=h
   refine ⟨⟨hm.gl,hm.gv,by simp;omega,fun x hx=>?_⟩,by simp,fun h=>by simp;omega⟩
   simp at hx
   rcases hx with hx|rfl
   ·exact hm.nodes x hx
   ·refine ⟨hr.field,by rw [hk];simp;omega,fun n hn=>?_⟩
    simp at hn
    rw [hn.2];unfold isV;omega
  ·simp at h
   obtain ⟨rfl,_⟩:=h
   exact ⟨hm,by omega,fun h=>h⟩
 ·rw [if_neg h3] at h
  split at h
  ·simp at h
  ·simp at h
   obtain ⟨rfl,_⟩:=h
   exact ⟨Xpw hm hr.value,by simp,fun h=>by simp;split<;>omega⟩
theorem Kt.step {c:Cod} (hs:Xv c) {m m':Mch} {p p':Ply} {n:Int} (h:Kt c m p) (h4:m.req.kind≠4) (h5:m.req.kind≠5) (ha:J5 c p m.req=some (p',n)) (hn:Jv c m n m'):Kt c m' p'∧mu m'<mu m:=by
 obtain ⟨hE,fs,f,hw⟩:=h.waits h4 h5
 have hr:=hw.req hs
 obtain ⟨h1,h2⟩:=Xd7 hs hE h4 h5 (Ji h.mem hr ha) hn
 obtain ⟨k1,k2,k3⟩:=Xq1 h.mem hr ha
 exact ⟨⟨h1,k1,by have:=h.len;omega,k3 h.nodes⟩,h2⟩
theorem Xkq {w:World} {F:List Nat} {b j:Nat} {v:Value} (hb:b∈F):Xp F F w (w.setCell ⟨b,j,none⟩ v):=⟨rfl,rfl,rfl,by simp,fun k _ hF=>heap_setCell_other _ _ _ _ (fun e=>hF (by rw [e];exact hb)),fun _ h=>.inl h⟩
theorem Yv.frozen {w:World} {lb n cap:Nat} {l:List Int} {F:List Nat} (h:Yv w (.slice (some ⟨lb,0,none⟩) n cap) l F) (j:Nat):w.frozen? ⟨lb,j,none⟩=false:=by
 rcases h.1.2 with ⟨h1,_⟩|⟨g,cap,cur,h1,hb,hg,_⟩
 ·simp at h1
 ·simp at h1
  obtain ⟨⟨rfl,_⟩,_⟩:=h1
  exact Fz hg
theorem PSt.nodeAt {A:Nat} {W wr:World} {bm bo bl bc:Nat} {m:Mch} {p:Ply} {fault value cmp:Int} {Fm:List Nat} {gv:Value} {na:Option Addr} {n nc:Nat} {cells:List Value} {Fg Fn:List Nat} {lv:Value} (h:PSt A W wr bm bo bl bc m p fault value cmp Fm gv (.slice na n nc) cells Fg Fn lv) {i:Nat} {x:Nod} (hx:p.mem.nodes[i]?=some x) :
  ∃ nb fv Fl,na=some ⟨nb,0,none⟩∧wr.cell? ⟨nb,i*2+1,none⟩=some fv∧Yv wr fv x.f Fl∧(∀ b∈Fl,b∈Uf bo (.slice na n nc) Fg Fn)∧∀ lb cap (j:Nat) (v:Int),fv=.slice (some ⟨lb,0,none⟩) x.f.length cap→in64 v→PSt A W (wr.setCell ⟨lb,j,none⟩ (.int .i64 v)) bm bo bl bc m { p with mem:={ p.mem with nodes:=p.mem.nodes.modify i (fun x=>Xem x j v) } } fault value cmp Fm gv (.slice na n nc) cells Fg Fn lv:=by
 obtain ⟨fv,Fl,h1,h2,h3,h4⟩:=h.mem.setN hx
 have hlt:=(Ll hx)
 have hsub:∀ b∈Fl,b∈Uf bo (.slice na n nc) Fg Fn:=fun b hb=>by unfold Uf;simp [h3 b hb]
 rcases hr:h.mem.row.2 with ⟨e1,e2⟩|⟨g,cap,cur,e1,hb,hg,hc,hcm,hs,ht⟩
 ·omega
 ·simp at e1
  obtain ⟨rfl,rfl,rfl⟩:=e1
  refine ⟨g,fv,Fl,rfl,?_,h2,hsub,fun lb cap j v hlv h64=>?_⟩
  ·rw [h.mem.row.cellAt (i*2+1) (by omega)];exact h1
  ·have hlb:lb∈Fl:=by rw [h2.2.1,hlv];simp [Value.ownBlock]
   exact h.memM (h4 lb cap j v hlv hlb h64) (Xkq (hsub lb hlb))
theorem PSt.globSet {A:Nat} {W wr:World} {bm bo bl bc:Nat} {m:Mch} {p:Ply} {fault value cmp:Int} {Fm:List Nat} {nv:Value} {gb gn gc:Nat} {cells:List Value} {Fg Fn:List Nat} {lv:Value} (h:PSt A W wr bm bo bl bc m p fault value cmp Fm (.slice (some ⟨gb,0,none⟩) gn gc) nv cells Fg Fn lv) (hn:gn=p.mem.globals.length) (j:Nat) (v:Int) (h64:in64 v) :
  PSt A W (wr.setCell ⟨gb,j,none⟩ (.int .i64 v)) bm bo bl bc m { p with mem:={ p.mem with globals:=p.mem.globals.set j v } } fault value cmp Fm (.slice (some ⟨gb,0,none⟩) gn gc) nv cells Fg Fn lv:=by
 subst hn
 obtain ⟨h1,h2⟩:=h.mem.setG j v h64
 exact h.memM h1 (Xkq (by unfold Uf;simp [h2]))
end Go.Proofs.YtbmeoklmachjpaaGreatDoor
