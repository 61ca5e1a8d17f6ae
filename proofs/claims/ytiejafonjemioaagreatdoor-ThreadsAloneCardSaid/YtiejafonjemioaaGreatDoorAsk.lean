import Derived.Test.YtiejafonjemioaaGreatDoorPly
import Derived.Deep.AppendLies
import Derived.Outline
import Derived.Deep.RegionLaw
import Derived.Deep.DeepCutAuto
import Derived.Deep.RegionWith
set_option maxHeartbeats 2000000
set_option maxRecDepth 1000000
set_option linter.unusedVariables false
set_option linter.unusedSimpArgs false
namespace Go.Proofs.YtiejafonjemioaaGreatDoor
open Go.RowKit
variable {e:TypeId} {w w' W wr:World} {lb cap size n bo gb gc i bl bc g R b A bm:Nat} {l:List Acc} {F Fg Fn X Y X' Fm:List Nat} {v gv nv lv:Value} {xs cells:List Value} {m:Mm} {x:Nod} {fault value cmp:Int} {p:Ply}
def Zj (w:World):List Value→List Nod→List Nat→Prop
 | cells,[],F=>cells=[]∧F=[]
 | cells,x::xs,F=>∃ lv cs Fl Fr,cells=.int .i64 x.type::lv::cs∧Yv w lv x.f Fl∧in64 x.type∧Zj w cs xs Fr∧F=Fl++Fr
theorem Zj.keep :∀ {xs:List Nod} {cells:List Value} {F:List Nat},Zj w cells xs F→(∀ b∈F,w'.heap[b]?=w.heap[b]?)→Zj w' cells xs F
 | [],_,_,h,_=>h
 | _::_,_,_,h,hk=>by
  obtain ⟨lv,cs,Fl,Fr,h1,h2,h3,h4,rfl⟩:=h
  exact ⟨lv,cs,Fl,Fr,h1,h2.keep (fun b hb=>hk b (by simp [hb])),h3,h4.keep (fun b hb=>hk b (by simp [hb])),rfl⟩
theorem Zj.lt :∀ {xs:List Nod} {cells:List Value} {F:List Nat},Zj w cells xs F→∀ b∈F,b<w.heap.size
 | [],_,_,h,b,hb=>by obtain ⟨_,rfl⟩:=h;simp at hb
 | _::_,_,_,h,b,hb=>by
  obtain ⟨lv,cs,Fl,Fr,h1,h2,h3,h4,rfl⟩:=h
  rw [List.mem_append] at hb
  rcases hb with hb|hb
  ·exact h2.lt b hb
  ·exact h4.lt b hb
theorem Zj.len :∀ {xs:List Nod} {cells:List Value} {F:List Nat},Zj w cells xs F→cells.length=xs.length*2
 | [],_,_,h=>by obtain ⟨rfl,_⟩:=h;rfl
 | _::_,_,_,h=>by
  obtain ⟨lv,cs,Fl,Fr,rfl,h2,h3,h4,rfl⟩:=h
  simp [h4.len]
  omega
theorem Zj.add :∀ {xs:List Nod} {x:Nod} {cs:List Value} {lv:Value} {Fi Fl:List Nat},Zj w cs xs Fi→Yv w lv x.f Fl→in64 x.type→Zj w (cs++[.int .i64 x.type,lv]) (xs++[x]) (Fi++Fl)
 | [],x,cs,lv,Fi,Fl,h,h2,h4=>by
  obtain ⟨rfl,rfl⟩:=h
  exact ⟨lv,[],Fl,[],rfl,h2,h4,⟨rfl,rfl⟩,by simp⟩
 | g::xs,x,cs,lv,Fi,Fl,h,h2,h4=>by
  obtain ⟨lv',cs',aA,aB,rfl,k2,k3,k4,rfl⟩:=h
  exact ⟨lv',_,aA,aB++Fl,rfl,k2,k3,k4.add h2 h4,by simp⟩
theorem Yv.set {l:List Int} (h:Yv w (.slice (some ⟨lb,0,none⟩) l.length cap) l F) (j:Nat) (v:Int) (h64:in64 v):Yv (w.setCell ⟨lb,j,none⟩ (.int .i64 v)) (.slice (some ⟨lb,0,none⟩) l.length cap) (l.set j v) F:=by
 obtain ⟨h1,h2,h3⟩:=h
 refine ⟨?_,h2,fun n hn=>?_⟩
 ·have:=(h1.stored j (.int .i64 v)).1
  rw [←List.map_set] at this
  simpa using this
 ·rcases List.mem_or_eq_of_mem_set hn with h|h
  ·exact h3 n h
  ·rw [h];exact h64
theorem Zj.at_ :∀ {xs:List Nod} {cells:List Value} {F:List Nat} {i:Nat} {x:Nod},Zj w cells xs F→F.Nodup→xs[i]?=some x→
  ∃ lv Fl,cells[i*2+1]?=some lv∧Yv w lv x.f Fl∧(∀ b∈Fl,b∈F)∧∀ lb cap (j:Nat) (v:Int),lv=.slice (some ⟨lb,0,none⟩) x.f.length cap→lb∈Fl→in64 v→Zj (w.setCell ⟨lb,j,none⟩ (.int .i64 v)) cells (xs.modify i (fun x=>Xem x j v)) F
 | [],_,_,_,_,_,_,hx=>by simp at hx
 | g::xs,cells,F,0,x,h,hnd,hx=>by
  obtain ⟨lv,cs,Fl,Fr,rfl,h2,h3,h4,rfl⟩:=h
  simp at hx
  subst hx
  refine ⟨lv,Fl,by simp,h2,fun b hb=>by simp [hb],fun lb cap j v aC aA aB=>?_⟩
  subst aC
  rw [List.nodup_append] at hnd
  have hl:(Xem g j v).f.length=g.f.length:=by simp [Xem]
  refine ⟨.slice (some ⟨lb,0,none⟩) g.f.length cap,cs,Fl,Fr,rfl,h2.set j v aB,h3,h4.keep (fun b hb=>heap_setCell_other _ _ _ _ (fun e=>hnd.2.2 lb aA b hb e.symm)),rfl⟩
 | g::xs,cells,F,i+1,x,h,hnd,hx=>by
  obtain ⟨lv,cs,Fl,Fr,rfl,h2,h3,h4,rfl⟩:=h
  rw [List.nodup_append] at hnd
  obtain ⟨lv',aD,k1,k2,k3,k4⟩:=h4.at_ hnd.2.1 (by simpa using hx)
  refine ⟨lv',aD,?_,k2,fun b hb=>by simp [k3 b hb],fun lb cap j v aC aA aB=>?_⟩
  ·rw [show (i+1)*2+1=(i*2+1)+1+1 by omega]
   simpa using k1
  ·exact ⟨lv,cs,Fl,Fr,rfl,h2.keep (fun b hb=>heap_setCell_other _ _ _ _ (fun e=>hnd.2.2 b hb lb (k3 lb aA) e)),h3,k4 lb cap j v aC aA aB,rfl⟩
structure Qs (w:World) (bo:Nat) (m:Mm) (gv nv:Value) (cells:List Value) (Fg Fn:List Nat):Prop where
 box:w.heap[bo]?=some (.cells #[gv,nv] 28 (0,0))
 glob:Yv w gv m.globals Fg
 row:w.ownsRow 0 74 2 nv m.nodes.length cells
 nodes:Zj w cells m.nodes Fn
 nodup:(bo::(Fg++(nv.ownBlock.toList++Fn))).Nodup
theorem Ve (h:w.ownsRow 0 e size v n xs):∀ b∈v.ownBlock.toList,b<w.heap.size:=fun b hb=>by
 rcases h.2 with ⟨rfl,_⟩|⟨g,cap,aA,rfl,_,hg,_⟩
 ·simp [Value.ownBlock] at hb
 ·simp [Value.ownBlock] at hb;subst hb;exact (La hg)
theorem Qi (h:w.ownsRow 0 e size v n xs) (hk:∀ b∈v.ownBlock.toList,w'.heap[b]?=w.heap[b]?):w'.ownsRow 0 e size v n xs:=by
 refine ⟨h.1,?_⟩
 rcases h.2 with h|⟨g,cap,aA,rfl,hb,hg,r⟩
 ·exact .inl h
 ·exact .inr ⟨g,cap,aA,rfl,hb,by rw [hk g (by simp [Value.ownBlock])];exact hg,r⟩
theorem Qs.lt (h:Qs w bo m gv nv cells Fg Fn):∀ b∈bo::(Fg++(nv.ownBlock.toList++Fn)),b<w.heap.size:=fun b hb=>by
 rw [List.mem_cons,List.mem_append,List.mem_append] at hb
 rcases hb with rfl|hb|hb|hb
 ·exact (La h.box)
 ·exact h.glob.lt b hb
 ·exact Ve h.row b hb
 ·exact h.nodes.lt b hb
theorem Qs.keep (h:Qs w bo m gv nv cells Fg Fn) (hk:∀ b∈bo::(Fg++(nv.ownBlock.toList++Fn)),w'.heap[b]?=w.heap[b]?):Qs w' bo m gv nv cells Fg Fn:=
 ⟨by rw [hk bo (by simp)];exact h.box,h.glob.keep (fun b hb=>hk b (by simp [hb])),Qi h.row (fun b hb=>hk b (by simp only [List.mem_cons,List.mem_append];exact .inr (.inr (.inl hb)))),h.nodes.keep (fun b hb=>hk b (by simp [hb])),h.nodup⟩
theorem Qs.setG (h:Qs w bo m (.slice (some ⟨gb,0,none⟩) m.globals.length gc) nv cells Fg Fn) (j:Nat) (v:Int) (h64:in64 v) :
  Qs (w.setCell ⟨gb,j,none⟩ (.int .i64 v)) bo { m with globals:=m.globals.set j v } (.slice (some ⟨gb,0,none⟩) m.globals.length gc) nv cells Fg Fn∧gb∈Fg:=by
 have aA:gb∈Fg:=by rw [h.glob.2.1];simp [Value.ownBlock]
 have aB:=h.nodup
 rw [List.nodup_cons,List.nodup_append] at aB
 have ho:∀ b,b≠gb→(w.setCell ⟨gb,j,none⟩ (.int .i64 v)).heap[b]?=w.heap[b]?:=fun b hb=>heap_setCell_other _ _ _ _ hb
 refine ⟨⟨?_,h.glob.set j v h64,Qi h.row (fun b hb=>ho b (fun e=>aB.2.2.2 gb aA b (by simp only [List.mem_append];exact .inl hb) e.symm)),h.nodes.keep (fun b hb=>ho b (fun e=>aB.2.2.2 gb aA b (by simp [hb]) e.symm)),h.nodup⟩,aA⟩
 rw [ho bo (fun e=>aB.1 (by rw [e];simp [aA]))]
 exact h.box
theorem Qs.setN (h:Qs w bo m gv nv cells Fg Fn) (hx:m.nodes[i]?=some x) :
  ∃ lv Fl,cells[i*2+1]?=some lv∧Yv w lv x.f Fl∧(∀ b∈Fl,b∈Fn)∧∀ lb cap (j:Nat) (v:Int),lv=.slice (some ⟨lb,0,none⟩) x.f.length cap→lb∈Fl→in64 v→Qs (w.setCell ⟨lb,j,none⟩ (.int .i64 v)) bo { m with nodes:=m.nodes.modify i (fun x=>Xem x j v) } gv nv cells Fg Fn:=by
 have aB:=h.nodup
 rw [List.nodup_cons,List.nodup_append,List.nodup_append] at aB
 obtain ⟨lv,Fl,k1,k2,k3,k4⟩:=h.nodes.at_ aB.2.2.1.2.1 hx
 refine ⟨lv,Fl,k1,k2,k3,fun lb cap j v aE aC aD=>?_⟩
 have aA:=k3 lb aC
 have ho:∀ b,b≠lb→(w.setCell ⟨lb,j,none⟩ (.int .i64 v)).heap[b]?=w.heap[b]?:=fun b hb=>heap_setCell_other _ _ _ _ hb
 refine ⟨?_,h.glob.keep (fun b hb=>ho b (fun e=>aB.2.2.2 b hb lb (by simp [aA]) e)),?_,k4 lb cap j v aE aC aD,h.nodup⟩
 ·rw [ho bo (fun e=>aB.1 (by rw [e];simp [aA]))];exact h.box
 ·have:=Qi (w':=w.setCell ⟨lb,j,none⟩ (.int .i64 v)) h.row (fun b hb=>ho b (fun e=>aB.2.2.1.2.2 b hb lb aA e))
  simpa using this
def Zf (l:List Acc):List Value:=l.flatMap (fun a=>[.int .i64 a.kind,.int .i64 a.node,.int .i64 a.field])
structure Vm (w:World) (bl:Nat) (l:List Acc) (v:Value):Prop where
 box:w.heap[bl]?=some (.cells #[v] 120 (0,0))
 row:w.ownsRow 0 64 3 v l.length (Zf l)
 ne:bl∉v.ownBlock.toList
theorem Vm.keep (h:Vm w bl l v) (hk:∀ b∈bl::v.ownBlock.toList,w'.heap[b]?=w.heap[b]?):Vm w' bl l v:=
 ⟨by rw [hk bl (by simp)];exact h.box,Qi h.row (fun b hb=>hk b (by rw [List.mem_cons];exact .inr hb)),h.ne⟩
theorem Vm.lt (h:Vm w bl l v):∀ b∈bl::v.ownBlock.toList,b<w.heap.size:=fun b hb=>by
 rw [List.mem_cons] at hb
 rcases hb with rfl|hb
 ·exact (La h.box)
 ·exact Ve h.row b hb
theorem Xgo:(Tryz.prog.info? 64).map (fun i=>(i.zero,i.size,i.bytes))=some (some (.agg #[.int .i64 0,.int .i64 0,.int .i64 0]),3,24):=by kernel_rfl
theorem Xfb:(Tryz.prog.info? 74).map (fun i=>(i.zero,i.size,i.bytes))=some (some (.agg #[.int .i64 0,.slice none 0 0]),2,32):=by kernel_rfl
def X8 (fault value compares nodes:Int):Array Value:=#[.int .i64 fault,.int .i64 value,.int .i64 compares,.int .i64 nodes,.int .i64 0]
def Y7 (w:World) (bc:Nat) (fault value compares nodes:Int):Prop:=w.heap[bc]?=some (.cells (X8 fault value compares nodes) 84 (0,0))
def Xc4 (w:World) (bl bc:Nat) (l:List Acc) (v:Value) (a:Acc) (fault value compares nodes:Int) (e:Ending) (w':World):Prop:=
 e=.returned (.tuple #[])∧∃ v',Vm w' bl (l++[a]) v'∧Y7 w' bc fault value compares (nodes+(if 0<a.node then 1 else 0))∧Xp (bc::bl::v.ownBlock.toList) (bc::bl::v'.ownBlock.toList) w w'∧bc∉bl::v'.ownBlock.toList
theorem Xs {compares nodes:Int} (h:Y7 w bc fault value compares nodes) (j:Nat) (v:Value) (hv:(X8 fault value compares nodes)[j]?=some v):w.cell? ⟨bc,j,none⟩=some v:=by
 rw [cell_of_row _ _ _ _ _ _ h];exact hv
theorem Xgd (l:List Acc) (a:Acc):Zf (l++[a])=Zf l++[.int .i64 a.kind,.int .i64 a.node,.int .i64 a.field]:=by
 unfold Zf;simp
theorem Vs (kind node field fault value compares nodes:Int) (hL:Vm w bl l v) (hc:Y7 w bc fault value compares nodes) (hne:bc∉bl::v.ownBlock.toList) (hl:l.length≤1000000000000) (hn:0≤nodes∧nodes≤4611686018427387904) :
  Calls Tryz.prog 115 #[.int .i64 kind,.int .i64 node,.int .i64 field,.pointer (some ⟨bl,0,none⟩),.pointer (some ⟨bc,0,none⟩)] w (Xc4 w bl bc l v ⟨kind,node,field⟩ fault value compares nodes):=by
 obtain ⟨va,vc,rfl⟩:=(Zs hL.row).2.2
 obtain ⟨ti,aT,aU,aV,aW⟩:=info_parts Xgo
 have k0:=Cw hL.box 0 rfl
 have zb:=(La hL.box)
 have zc:=(La hc)
 have HL:=Lh hL
 have HC:=Lh hc
 obtain ⟨W,hW⟩:∃ W,W=w.alloc (.cells #[.int .i64 kind,.int .i64 node,.int .i64 field] 64):=⟨_,rfl⟩
 have hb:Hid (Below w.heap.size w W):=by rw [hW];exact Xa _ _
 have aJ:Hid (W.ownsRow 0 64 3 (.slice va l.length vc) l.length (Zf l)):=Lh (Qi hL.row (fun b aL=>hb.out.block b (Ve hL.row b aL)))
 have aC:Hid (∀ j u,([.int .i64 kind,.int .i64 node,.int .i64 field]:List Value)[j]?=some u→W.cell? ((⟨w.heap.size,0,none⟩:Addr).add j)=some u):=Lh (fun j u hu=>by
  rw [hW,Xbt,Nat.zero_add,Y5]
  simpa using hu)
 have aD:bc≠bl:=fun e=>hne (by simp [e])
 have aH:bc∉(Value.slice va l.length vc).ownBlock.toList:=fun e=>hne (List.mem_cons_of_mem _ e)
 have aI:=hL.ne
 have aK:W.heap.size=w.heap.size+1:=by rw [hW];simp
 have aQ:=Lh aK
 have step:∀ g cap w2,w2.ownsRow 0 64 3 (.slice (some ⟨g,0,none⟩) (l.length+1) cap) (l.length+1) (Zf l++[.int .i64 kind,.int .i64 node,.int .i64 field])→W.grownBy w2 (Value.slice va l.length vc).ownBlock→((Value.slice va l.length vc).ownBlock=some g∨g=w.heap.size+1)→
   g≠bl∧g≠bc∧w2.heap[bl]?=some (.cells #[.slice va l.length vc] 120 (0,0))∧Y7 w2 bc fault value compares nodes∧Xp (bc::bl::(Value.slice va l.length vc).ownBlock.toList) (bc::bl::[g]) w w2:=fun g cap w2 ho hg aA=>by
  have aY:w2.heap[bl]?=W.heap[bl]?:=hg.block bl (by omega) (fun e=>aI (by rw [←e];simp))
  have aX:w2.heap[bc]?=W.heap[bc]?:=hg.block bc (by omega) (fun e=>aH (by rw [←e];simp))
  have aR:g≠bl∧g≠bc:=by
   rcases aA with h|h
   ·exact ⟨fun e=>aI (by rw [h,e];simp),fun e=>aH (by rw [h,e];simp)⟩
   ·exact ⟨by omega,by omega⟩
  refine ⟨aR.1,aR.2,by rw [aY,hb.out.block bl zb];exact HL.out.box,by show w2.heap[bc]?=_;rw [aX,hb.out.block bc zc];exact HC.out,⟨hg.os.trans hb.out.os,hg.tape.trans hb.out.tape,hg.output.trans hb.out.output,Nt hb.out.size hg.size,fun k hk hF=>?_,fun b aL=>?_⟩⟩
  ·rw [hg.block k (by omega) (fun e=>hF (by rw [←e];simp)),hb.out.block k hk]
  ·simp only [List.mem_cons,List.not_mem_nil,or_false] at aL
   rcases aL with rfl|rfl|rfl
   ·left;simp
   ·left;simp
   ·rcases aA with h|h
    ·left;rw [h];simp
    ·right;omega
 have aF:=Lh step
 clear hL hc hne aK step
 have fin:∀ g cap w3 w4,w3.ownsRow 0 64 3 (.slice (some ⟨g,0,none⟩) (l.length+1) cap) (l.length+1) (Zf l++[.int .i64 kind,.int .i64 node,.int .i64 field])→g≠bl→g≠bc→w3.heap[bl]?=some (.cells #[.slice va l.length vc] 120 (0,0))→Y7 w3 bc fault value compares nodes→Xp (bc::bl::(Value.slice va l.length vc).ownBlock.toList) (bc::bl::[g]) w w3→
   (w4=w3.setCell ⟨bl,0,none⟩ (.slice (some ⟨g,0,none⟩) (l.length+1) cap)∧¬0<node∨w4=(w3.setCell ⟨bl,0,none⟩ (.slice (some ⟨g,0,none⟩) (l.length+1) cap)).setCell ⟨bc,3,none⟩ (.int .i64 (nodes+1))∧0<node)→Xc4 w bl bc l (.slice va l.length vc) ⟨kind,node,field⟩ fault value compares nodes (.returned (.tuple #[])) w4:=fun g cap w3 w4 ho h1 h2 h3 h4 hM hw=>by
  obtain ⟨W4,aE⟩:∃ u,u=w3.setCell ⟨bl,0,none⟩ (.slice (some ⟨g,0,none⟩) (l.length+1) cap):=⟨_,rfl⟩
  have r1:W4.heap[bl]?=some (.cells #[.slice (some ⟨g,0,none⟩) (l.length+1) cap] 120 (0,0)):=by rw [aE];exact heap_setCell_same _ _ _ _ _ _ h3
  have r2:Y7 W4 bc fault value compares nodes:=by show W4.heap[bc]?=_;rw [aE,heap_setCell_other _ _ _ _ aD];exact h4
  have r3:W4.ownsRow 0 64 3 (.slice (some ⟨g,0,none⟩) (l++[(⟨kind,node,field⟩:Acc)]).length cap) (l++[(⟨kind,node,field⟩:Acc)]).length (Zf (l++[(⟨kind,node,field⟩:Acc)])):=by
   rw [Xgd,List.length_append]
   exact Qi ho (fun b hb=>by simp [Value.ownBlock] at hb;subst hb;rw [aE,heap_setCell_other _ _ _ _ h1])
  have r4:Xp (bc::bl::(Value.slice va l.length vc).ownBlock.toList) (bc::bl::[g]) w W4:=by
   rw [aE]
   exact hM.trans ((Xw (bm:=bl)).wide (fun b hb=>by simp at hb;simp [hb]) (fun b hb=>.inr hb))
  have aN:(l++[(⟨kind,node,field⟩:Acc)]).length=l.length+1:=by simp
  rw [aN] at r3
  have aG:bc∉bl::(Value.slice (some ⟨g,0,none⟩) (l.length+1) cap).ownBlock.toList:=by simp [Value.ownBlock];exact ⟨aD,fun e=>h2 e.symm⟩
  rcases hw with ⟨rfl,aO⟩|⟨rfl,aO⟩
  ·rw [←aE]
   exact ⟨rfl,_,⟨r1,by rw [aN];exact r3,by simp [Value.ownBlock];exact fun e=>h1 e.symm⟩,by rw [if_neg aO,Int.add_zero];exact r2,r4,aG⟩
  ·rw [←aE]
   have aS:∀ b,b≠bc→(W4.setCell ⟨bc,3,none⟩ (.int .i64 (nodes+1))).heap[b]?=W4.heap[b]?:=fun b hb=>heap_setCell_other _ _ _ _ hb
   refine ⟨rfl,.slice (some ⟨g,0,none⟩) (l.length+1) cap,⟨by rw [aS bl (fun e=>aD e.symm)];exact r1,by rw [aN];exact Qi r3 (fun b hb=>by simp [Value.ownBlock] at hb;subst hb;exact aS b h2),by simp [Value.ownBlock];exact fun e=>h1 e.symm⟩,?_,r4.trans ((Xw (bm:=bc)).wide (fun b hb=>by simp at hb;simp [hb]) (fun b hb=>.inr hb)),aG⟩
   rw [if_pos aO]
   have:=heap_setCell_same _ bc 3 _ _ (.int .i64 (nodes+1)) r2
   exact this
 have aP:=Lh fin
 clear fin
 by_cases aB:0<node
 ·have dn:decide (0<node)=true:=by simp [aB]
  go_enter Tryz.func115,Tryz.ntmps115
  go_wp2_with (at_builtin;rw [←hW];clear hW;refine wpList_append_lies _ rfl (.tmp 8) (.tmp 13) 120 rfl 0 64 ti (.agg #[.int .i64 0,.int .i64 0,.int .i64 0]) 3 24 Tryz.underlying120 aT aU aV aW rfl (by decide) (.slice va l.length vc) l.length (Zf l) rfl aJ.out ⟨w.heap.size,0,none⟩ 1 1 [.int .i64 kind,.int .i64 node,.int .i64 field] rfl rfl aC.out (by simp [Value.oneCell']) (by omega) (by unfold maxLen;omega) (by omega) (Nat.zero_le _) (w.heap.size+1) aQ.out ?_;intro g cap w2 ho hg aA aM;obtain ⟨s1,s2,s3,s4,s5⟩:=aF.out g cap w2 ho hg aA;have S3:=Lh s3;have S4:=Lh s4;have S5:=Lh s5;have HO:=Lh ho;have t0:w2.cell? ⟨bl,0,none⟩=some (.slice va l.length vc):=(Cr S3.out rfl);have tf:w2.frozen? ⟨bl,0,none⟩=false:=Fz S3.out;have u3:=Xs s4 3 (.int .i64 nodes) rfl;have uf:w2.frozen? ⟨bc,3,none⟩=false:=Fz S4.out;have aZ:=Bl t0;have bA:=Bl u3;clear ho hg aA s3 s4 s5)
  go_end0
  exact aP.out g cap w2 _ HO.out s1 s2 S3.out S4.out S5.out (.inr ⟨rfl,aB⟩)
 ·have dn:decide (0<node)=false:=by simp;omega
  go_enter Tryz.func115,Tryz.ntmps115
  go_wp2_with (at_builtin;rw [←hW];clear hW;refine wpList_append_lies _ rfl (.tmp 8) (.tmp 13) 120 rfl 0 64 ti (.agg #[.int .i64 0,.int .i64 0,.int .i64 0]) 3 24 Tryz.underlying120 aT aU aV aW rfl (by decide) (.slice va l.length vc) l.length (Zf l) rfl aJ.out ⟨w.heap.size,0,none⟩ 1 1 [.int .i64 kind,.int .i64 node,.int .i64 field] rfl rfl aC.out (by simp [Value.oneCell']) (by omega) (by unfold maxLen;omega) (by omega) (Nat.zero_le _) (w.heap.size+1) aQ.out ?_;intro g cap w2 ho hg aA aM;obtain ⟨s1,s2,s3,s4,s5⟩:=aF.out g cap w2 ho hg aA;have S3:=Lh s3;have S4:=Lh s4;have S5:=Lh s5;have HO:=Lh ho;have t0:w2.cell? ⟨bl,0,none⟩=some (.slice va l.length vc):=(Cr S3.out rfl);have tf:w2.frozen? ⟨bl,0,none⟩=false:=Fz S3.out;have aZ:=Bl t0;clear ho hg aA s3 s4 s5)
  go_end0
  exact aP.out g cap w2 _ HO.out s1 s2 S3.out S4.out S5.out (.inl ⟨rfl,aB⟩)
theorem Xg {cs:Array Value} {t:TypeId} (hg:w.heap[g]?=some (.cells cs t (0,0))) (hv:cs[i]?=some v):w.setCell ⟨g,i,none⟩ v=w:=by
 have h:(w.setCell ⟨g,i,none⟩ v).heap=w.heap:=by
  apply Array.ext_getElem?
  intro k
  by_cases hk:k=g
  ·subst hk
   rw [heap_setCell_same _ _ _ _ _ _ hg,hg]
   have:cs.setIfInBounds i v=cs:=by
    apply Array.ext_getElem?
    intro j
    rw [Array.getElem?_setIfInBounds]
    split
    ·rename_i e;subst e
     rw [if_pos (La hv),hv]
    ·rfl
   rw [this]
  ·exact heap_setCell_other _ _ _ _ hk
 unfold World.setCell at *
 cases w
 simp only [World.mk.injEq] at *
 exact ⟨h,trivial,trivial,trivial,trivial⟩
def Xap (o:Ks):Value:=.agg (X8 o.fault o.value o.compares o.nodes)
def Xc8:Ks:=⟨0,0,0,0⟩
theorem Xhg {f v k n:Int} (h:Y7 W R f v k n):(loadVar 84 ⟨R,0,none⟩).run Tryz.prog W=.ok (.agg (X8 f v k n)) W:=by
 have c0:=Xs h 0 (.int .i64 f) rfl
 have c1:=Xs h 1 (.int .i64 v) rfl
 have c2:=Xs h 2 (.int .i64 k) rfl
 have c3:=Xs h 3 (.int .i64 n) rfl
 have c4:=Xs h 4 (.int .i64 0) rfl
 simp [go_sem,X8,c0,c1,c2,c3,c4]
theorem Xhz (h:W.heap[R]?=some (.cells #[gv,nv] 28 (0,0))):(loadVar 28 ⟨R,0,none⟩).run Tryz.prog W=.ok (.agg #[gv,nv]) W:=by
 have c0:=Cw h 0 rfl
 have c1:=Cw h 1 rfl
 simp [go_sem,c0,c1]
theorem Xnx (h:W.heap[R]?=some (.cells #[v] 120 (0,0))):(loadVar 120 ⟨R,0,none⟩).run Tryz.prog W=.ok v W:=by
 have c0:=Cw h 0 rfl
 simp [go_sem,c0]
theorem Z4 {fn:Func} {p q r u:Tmp} (hf:fn.results=#[.cell p 84,.cell q 28,.cell r 120,.tmp u]) {R1 R2 R3:Nat} {o:Ks} (h1:Y7 W R1 o.fault o.value o.compares o.nodes) (h2:W.heap[R2]?=some (.cells #[gv,nv] 28 (0,0))) (h3:W.heap[R3]?=some (.cells #[lv] 120 (0,0))) (tmps:Array Value) (e:Value)
  (k1:tmps.getD p undef=.pointer (some ⟨R1,0,none⟩)) (k2:tmps.getD q undef=.pointer (some ⟨R2,0,none⟩)) (k3:tmps.getD r undef=.pointer (some ⟨R3,0,none⟩)) (k4:tmps.getD u undef=e) :
  (results fn tmps).run Tryz.prog W=.ok (.tuple #[Xap o,.agg #[gv,nv],lv,e]) W:=by
 simp only [results,hf]
 rw [Array.getD_eq_getD_getElem?] at k1 k2 k3 k4
 simp [k1,k2,k3,k4,asAddr,Xhg h1,Xhz h2,Xnx h3,Result.andThen,Sem.run_bind,Xap]
def Xjr (e:Int):Value:=.tuple #[Xap Xc8,.agg #[.slice none 0 0,.slice none 0 0],.slice none 0 0,.int .i64 e]
theorem Yk (hb:Below w.heap.size w w') {o:Obj} (h:w.heap[b]?=some o):w'.heap[b]?=some o:=by rw [hb.block b (La h)];exact h
theorem Xfm (c:Cod) (m:Mm) (x:Cal) (fuel:Int) (fa ga va na xa:Option Addr) (fc gc vc nc xc B:Nat) (w:World) (hL:Qa w) (hB:B≤w.heap.size) (hc:Yj B w (.agg #[.slice fa c.fields.length fc,.int .i64 c.globals,.slice ga c.funcs.length gc]) c) (hm:MmV B w (.agg #[.slice va m.globals.length vc,.slice na m.nodes.length nc]) m) (hx:J8 B w (.agg #[.string x.proc,.slice xa x.args.length xc]) x) (hs:¬Xv c) :
  Calls Tryz.prog 78 #[.agg #[.slice fa c.fields.length fc,.int .i64 c.globals,.slice ga c.funcs.length gc],.agg #[.slice va m.globals.length vc,.slice na m.nodes.length nc],.agg #[.string x.proc,.slice xa x.args.length xc],.int .i64 fuel] w (fun e w'=>e=.returned (Xjr 1)∧Below w.heap.size w w'):=by
 obtain ⟨W,hW⟩:∃ W,W=(((((w.alloc (.cells #[.slice fa c.fields.length fc,.int .i64 c.globals,.slice ga c.funcs.length gc] 25)).alloc (.cells #[.slice va m.globals.length vc,.slice na m.nodes.length nc] 28)).alloc (.cells #[.string x.proc,.slice xa x.args.length xc] 80)).alloc (.cells (X8 0 0 0 0) 84)).alloc (.cells #[.slice none 0 0,.slice none 0 0] 28)).alloc (.cells #[.slice none 0 0] 120):=⟨_,rfl⟩
 have aC:Hid (Below w.heap.size w W):=by rw [hW];exact (((((Xa _ _).then (Xa _ _)).then (Xa _ _)).then (Xa _ _)).then (Xa _ _)).then (Xa _ _)
 have aF:Hid (W.heap.size=w.heap.size+6):=by rw [hW];exact Lh (by simp)
 have bb:Hid (W.heap[w.heap.size]?=some (.cells #[.slice fa c.fields.length fc,.int .i64 c.globals,.slice ga c.funcs.length gc] 25 (0,0))∧W.heap[w.heap.size+1]?=some (.cells #[.slice va m.globals.length vc,.slice na m.nodes.length nc] 28 (0,0))∧W.heap[w.heap.size+1+1]?=some (.cells #[.string x.proc,.slice xa x.args.length xc] 80 (0,0))∧Y7 W (w.heap.size+1+1+1) 0 0 0 0∧W.heap[w.heap.size+1+1+1+1]?=some (.cells #[.slice none 0 0,.slice none 0 0] 28 (0,0))∧W.heap[w.heap.size+1+1+1+1+1]?=some (.cells #[.slice none 0 0] 120 (0,0))):=Lh (by
  rw [hW]
  refine ⟨?_,?_,?_,?_,?_,?_⟩
  ·rw [Ha _ _ _ (by simp<;>omega),Ha _ _ _ (by simp<;>omega),Ha _ _ _ (by simp<;>omega),Ha _ _ _ (by simp<;>omega),Ha _ _ _ (by simp<;>omega)]
   exact Hn _ _
  ·rw [Ha _ _ _ (by simp<;>omega),Ha _ _ _ (by simp<;>omega),Ha _ _ _ (by simp<;>omega),Ha _ _ _ (by simp<;>omega)]
   have:=Hn (w.alloc (.cells #[.slice fa c.fields.length fc,.int .i64 c.globals,.slice ga c.funcs.length gc] 25)) (.cells #[.slice va m.globals.length vc,.slice na m.nodes.length nc] 28)
   simpa using this
  ·rw [Ha _ _ _ (by simp<;>omega),Ha _ _ _ (by simp<;>omega),Ha _ _ _ (by simp<;>omega)]
   have:=Hn ((w.alloc (.cells #[.slice fa c.fields.length fc,.int .i64 c.globals,.slice ga c.funcs.length gc] 25)).alloc (.cells #[.slice va m.globals.length vc,.slice na m.nodes.length nc] 28)) (.cells #[.string x.proc,.slice xa x.args.length xc] 80)
   simpa using this
  ·unfold Y7
   rw [Ha _ _ _ (by simp<;>omega),Ha _ _ _ (by simp<;>omega)]
   have:=Hn (((w.alloc (.cells #[.slice fa c.fields.length fc,.int .i64 c.globals,.slice ga c.funcs.length gc] 25)).alloc (.cells #[.slice va m.globals.length vc,.slice na m.nodes.length nc] 28)).alloc (.cells #[.string x.proc,.slice xa x.args.length xc] 80)) (.cells (X8 0 0 0 0) 84)
   simpa using this
  ·rw [Ha _ _ _ (by simp<;>omega)]
   have:=Hn ((((w.alloc (.cells #[.slice fa c.fields.length fc,.int .i64 c.globals,.slice ga c.funcs.length gc] 25)).alloc (.cells #[.slice va m.globals.length vc,.slice na m.nodes.length nc] 28)).alloc (.cells #[.string x.proc,.slice xa x.args.length xc] 80)).alloc (.cells (X8 0 0 0 0) 84)) (.cells #[.slice none 0 0,.slice none 0 0] 28)
   simpa using this
  ·have:=Hn (((((w.alloc (.cells #[.slice fa c.fields.length fc,.int .i64 c.globals,.slice ga c.funcs.length gc] 25)).alloc (.cells #[.slice va m.globals.length vc,.slice na m.nodes.length nc] 28)).alloc (.cells #[.string x.proc,.slice xa x.args.length xc] 80)).alloc (.cells (X8 0 0 0 0) 84)).alloc (.cells #[.slice none 0 0,.slice none 0 0] 28)) (.cells #[.slice none 0 0] 120)
   simpa using this)
 have HC:=Lh hc
 have HM:=Lh hm
 have HX:=Lh hx
 have HL:=Lh hL
 have aE:B≤W.heap.size:=by have:=aF.out;omega
 clear hc hm hx hL
 have i0:=Cw bb.out.1 0 rfl
 have i1:=Cw bb.out.1 1 rfl
 have i2:=Cw bb.out.1 2 rfl
 have m0:=Cw bb.out.2.1 0 rfl
 have m1:=Cw bb.out.2.1 1 rfl
 have x0:=Cw bb.out.2.2.1 0 rfl
 have x1:=Cw bb.out.2.2.1 1 rfl
 have z0:=Bl i0
 have z1:=Bl m0
 have z2:=Bl x0
 go_enter Tryz.func78,Tryz.ntmps78
 unfold X8 at hW
 go_upto_region 1 with fail
 rw [←hW]
 have HW:=Lh hW
 clear hW
 go_wp2_with fail
 refine (Jm c _ B W (HL.out.below aC.out) aE (HC.out.below (aC.out.mono hB))).mono ?_
 rintro e w1 ⟨rfl,aB⟩
 rw [Jp hs]
 have aD:=Lh (aC.out.then aB)
 have aA:Hid (w1.heap[w.heap.size]?=some (.cells #[.slice fa c.fields.length fc,.int .i64 c.globals,.slice ga c.funcs.length gc] 25 (0,0))∧w1.heap[w.heap.size+1]?=some (.cells #[.slice va m.globals.length vc,.slice na m.nodes.length nc] 28 (0,0))∧w1.heap[w.heap.size+1+1]?=some (.cells #[.string x.proc,.slice xa x.args.length xc] 80 (0,0))∧Y7 w1 (w.heap.size+1+1+1) 0 0 0 0∧w1.heap[w.heap.size+1+1+1+1]?=some (.cells #[.slice none 0 0,.slice none 0 0] 28 (0,0))∧w1.heap[w.heap.size+1+1+1+1+1]?=some (.cells #[.slice none 0 0] 120 (0,0))):=Lh ⟨Yk aB bb.out.1,Yk aB bb.out.2.1,Yk aB bb.out.2.2.1,Yk aB bb.out.2.2.2.1,Yk aB bb.out.2.2.2.2.1,Yk aB bb.out.2.2.2.2.2⟩
 clear aB
 have i0:=Cw aA.out.1 0 rfl
 have i1:=Cw aA.out.1 1 rfl
 have i2:=Cw aA.out.1 2 rfl
 have m0:=Cw aA.out.2.1 0 rfl
 have m1:=Cw aA.out.2.1 1 rfl
 have x0:=Cw aA.out.2.2.1 0 rfl
 have x1:=Cw aA.out.2.2.1 1 rfl
 have z0:=Bl i0
 have z1:=Bl m0
 have z2:=Bl x0
 have o0:=Xs aA.out.2.2.2.1 0 (.int .i64 0) rfl
 have aH:w1.frozen? ⟨w.heap.size+1+1+1,0,none⟩=false:=Fz aA.out.2.2.2.1
 have o1:=Xs aA.out.2.2.2.1 1 (.int .i64 0) rfl
 have aI:w1.frozen? ⟨w.heap.size+1+1+1,1,none⟩=false:=Fz aA.out.2.2.2.1
 have o2:=Xs aA.out.2.2.2.1 2 (.int .i64 0) rfl
 have aJ:w1.frozen? ⟨w.heap.size+1+1+1,2,none⟩=false:=Fz aA.out.2.2.2.1
 have o3:=Xs aA.out.2.2.2.1 3 (.int .i64 0) rfl
 have aK:w1.frozen? ⟨w.heap.size+1+1+1,3,none⟩=false:=Fz aA.out.2.2.2.1
 have o4:=Xs aA.out.2.2.2.1 4 (.int .i64 0) rfl
 have aL:w1.frozen? ⟨w.heap.size+1+1+1,4,none⟩=false:=Fz aA.out.2.2.2.1
 have u0:=Cw aA.out.2.2.2.2.1 0 rfl
 have aM:w1.frozen? ⟨w.heap.size+1+1+1+1,0,none⟩=false:=Fz aA.out.2.2.2.2.1
 have u1:=Cw aA.out.2.2.2.2.1 1 rfl
 have aN:w1.frozen? ⟨w.heap.size+1+1+1+1,1,none⟩=false:=Fz aA.out.2.2.2.2.1
 have l0:=Cw aA.out.2.2.2.2.2 0 rfl
 have aG:w1.frozen? ⟨w.heap.size+1+1+1+1+1,0,none⟩=false:=Fz aA.out.2.2.2.2.2
 have aP:w1.setCell ⟨w.heap.size+1+1+1,0,none⟩ (.int .i64 0)=w1:=Xg aA.out.2.2.2.1 rfl
 have aQ:w1.setCell ⟨w.heap.size+1+1+1,1,none⟩ (.int .i64 0)=w1:=Xg aA.out.2.2.2.1 rfl
 have aR:w1.setCell ⟨w.heap.size+1+1+1,2,none⟩ (.int .i64 0)=w1:=Xg aA.out.2.2.2.1 rfl
 have aS:w1.setCell ⟨w.heap.size+1+1+1,3,none⟩ (.int .i64 0)=w1:=Xg aA.out.2.2.2.1 rfl
 have aT:w1.setCell ⟨w.heap.size+1+1+1,4,none⟩ (.int .i64 0)=w1:=Xg aA.out.2.2.2.1 rfl
 have aU:w1.setCell ⟨w.heap.size+1+1+1+1,0,none⟩ (.slice none 0 0)=w1:=Xg aA.out.2.2.2.2.1 rfl
 have aV:w1.setCell ⟨w.heap.size+1+1+1+1,1,none⟩ (.slice none 0 0)=w1:=Xg aA.out.2.2.2.2.1 rfl
 have aO:w1.setCell ⟨w.heap.size+1+1+1+1+1,0,none⟩ (.slice none 0 0)=w1:=Xg aA.out.2.2.2.2.2 rfl
 have z3:=Bl o0
 have z4:=Bl u0
 have z5:=Bl l0
 go_wp2_with fail
 go_region
 all_goals (go_wp2_with fail;exact bodyPost_ret (v:=Xjr 1) (Z4 (W:=w1.drew) (o:=Xc8) (p:=8) (q:=9) (r:=10) (u:=11) rfl aA.out.2.2.2.1 aA.out.2.2.2.2.1 aA.out.2.2.2.2.2 _ _ rfl rfl rfl rfl) rfl ⟨rfl,Xh aD.out 1⟩)
theorem Xi7 (c:Cod) (m:Mm) (x:Cal) (fuel:Int) (fa ga va na xa:Option Addr) (fc gc vc nc xc B:Nat) (w:World) (hL:Qa w) (hB:B≤w.heap.size) (hc:Yj B w (.agg #[.slice fa c.fields.length fc,.int .i64 c.globals,.slice ga c.funcs.length gc]) c) (hm:MmV B w (.agg #[.slice va m.globals.length vc,.slice na m.nodes.length nc]) m) (hx:J8 B w (.agg #[.string x.proc,.slice xa x.args.length xc]) x) (hs:Xv c) (hft:Q7 c m=false) :
  Calls Tryz.prog 78 #[.agg #[.slice fa c.fields.length fc,.int .i64 c.globals,.slice ga c.funcs.length gc],.agg #[.slice va m.globals.length vc,.slice na m.nodes.length nc],.agg #[.string x.proc,.slice xa x.args.length xc],.int .i64 fuel] w (fun e w'=>e=.returned (Xjr 1)∧Below w.heap.size w w'):=by
 have aH:=Lh hft
 clear hft
 obtain ⟨W,hW⟩:∃ W,W=(((((w.alloc (.cells #[.slice fa c.fields.length fc,.int .i64 c.globals,.slice ga c.funcs.length gc] 25)).alloc (.cells #[.slice va m.globals.length vc,.slice na m.nodes.length nc] 28)).alloc (.cells #[.string x.proc,.slice xa x.args.length xc] 80)).alloc (.cells (X8 0 0 0 0) 84)).alloc (.cells #[.slice none 0 0,.slice none 0 0] 28)).alloc (.cells #[.slice none 0 0] 120):=⟨_,rfl⟩
 have aF:Hid (Below w.heap.size w W):=by rw [hW];exact (((((Xa _ _).then (Xa _ _)).then (Xa _ _)).then (Xa _ _)).then (Xa _ _)).then (Xa _ _)
 have aJ:Hid (W.heap.size=w.heap.size+6):=by rw [hW];exact Lh (by simp)
 have bb:Hid (W.heap[w.heap.size]?=some (.cells #[.slice fa c.fields.length fc,.int .i64 c.globals,.slice ga c.funcs.length gc] 25 (0,0))∧W.heap[w.heap.size+1]?=some (.cells #[.slice va m.globals.length vc,.slice na m.nodes.length nc] 28 (0,0))∧W.heap[w.heap.size+1+1]?=some (.cells #[.string x.proc,.slice xa x.args.length xc] 80 (0,0))∧Y7 W (w.heap.size+1+1+1) 0 0 0 0∧W.heap[w.heap.size+1+1+1+1]?=some (.cells #[.slice none 0 0,.slice none 0 0] 28 (0,0))∧W.heap[w.heap.size+1+1+1+1+1]?=some (.cells #[.slice none 0 0] 120 (0,0))):=Lh (by
  rw [hW]
  refine ⟨?_,?_,?_,?_,?_,?_⟩
  ·rw [Ha _ _ _ (by simp<;>omega),Ha _ _ _ (by simp<;>omega),Ha _ _ _ (by simp<;>omega),Ha _ _ _ (by simp<;>omega),Ha _ _ _ (by simp<;>omega)]
   exact Hn _ _
  ·rw [Ha _ _ _ (by simp<;>omega),Ha _ _ _ (by simp<;>omega),Ha _ _ _ (by simp<;>omega),Ha _ _ _ (by simp<;>omega)]
   have:=Hn (w.alloc (.cells #[.slice fa c.fields.length fc,.int .i64 c.globals,.slice ga c.funcs.length gc] 25)) (.cells #[.slice va m.globals.length vc,.slice na m.nodes.length nc] 28)
   simpa using this
  ·rw [Ha _ _ _ (by simp<;>omega),Ha _ _ _ (by simp<;>omega),Ha _ _ _ (by simp<;>omega)]
   have:=Hn ((w.alloc (.cells #[.slice fa c.fields.length fc,.int .i64 c.globals,.slice ga c.funcs.length gc] 25)).alloc (.cells #[.slice va m.globals.length vc,.slice na m.nodes.length nc] 28)) (.cells #[.string x.proc,.slice xa x.args.length xc] 80)
   simpa using this
  ·unfold Y7
   rw [Ha _ _ _ (by simp<;>omega),Ha _ _ _ (by simp<;>omega)]
   have:=Hn (((w.alloc (.cells #[.slice fa c.fields.length fc,.int .i64 c.globals,.slice ga c.funcs.length gc] 25)).alloc (.cells #[.slice va m.globals.length vc,.slice na m.nodes.length nc] 28)).alloc (.cells #[.string x.proc,.slice xa x.args.length xc] 80)) (.cells (X8 0 0 0 0) 84)
   simpa using this
  ·rw [Ha _ _ _ (by simp<;>omega)]
   have:=Hn ((((w.alloc (.cells #[.slice fa c.fields.length fc,.int .i64 c.globals,.slice ga c.funcs.length gc] 25)).alloc (.cells #[.slice va m.globals.length vc,.slice na m.nodes.length nc] 28)).alloc (.cells #[.string x.proc,.slice xa x.args.length xc] 80)).alloc (.cells (X8 0 0 0 0) 84)) (.cells #[.slice none 0 0,.slice none 0 0] 28)
   simpa using this
  ·have:=Hn (((((w.alloc (.cells #[.slice fa c.fields.length fc,.int .i64 c.globals,.slice ga c.funcs.length gc] 25)).alloc (.cells #[.slice va m.globals.length vc,.slice na m.nodes.length nc] 28)).alloc (.cells #[.string x.proc,.slice xa x.args.length xc] 80)).alloc (.cells (X8 0 0 0 0) 84)).alloc (.cells #[.slice none 0 0,.slice none 0 0] 28)) (.cells #[.slice none 0 0] 120)
   simpa using this)
 have HC:=Lh hc
 have HM:=Lh hm
 have HX:=Lh hx
 have HL:=Lh hL
 have aI:B≤W.heap.size:=by have:=aJ.out;omega
 clear hc hm hx hL
 have i0:=Cw bb.out.1 0 rfl
 have i1:=Cw bb.out.1 1 rfl
 have i2:=Cw bb.out.1 2 rfl
 have m0:=Cw bb.out.2.1 0 rfl
 have m1:=Cw bb.out.2.1 1 rfl
 have x0:=Cw bb.out.2.2.1 0 rfl
 have x1:=Cw bb.out.2.2.1 1 rfl
 have z0:=Bl i0
 have z1:=Bl m0
 have z2:=Bl x0
 go_enter Tryz.func78,Tryz.ntmps78
 unfold X8 at hW
 go_upto_region 1 with fail
 rw [←hW]
 have HW:=Lh hW
 clear hW
 go_wp2_with fail
 refine (Jm c _ B W (HL.out.below aF.out) aI (HC.out.below (aF.out.mono hB))).mono ?_
 rintro e w1 ⟨rfl,aC⟩
 rw [Zg hs]
 have aE:=Lh (aF.out.then aC)
 have aB:Hid (w1.heap[w.heap.size]?=some (.cells #[.slice fa c.fields.length fc,.int .i64 c.globals,.slice ga c.funcs.length gc] 25 (0,0))∧w1.heap[w.heap.size+1]?=some (.cells #[.slice va m.globals.length vc,.slice na m.nodes.length nc] 28 (0,0))∧w1.heap[w.heap.size+1+1]?=some (.cells #[.string x.proc,.slice xa x.args.length xc] 80 (0,0))∧Y7 w1 (w.heap.size+1+1+1) 0 0 0 0∧w1.heap[w.heap.size+1+1+1+1]?=some (.cells #[.slice none 0 0,.slice none 0 0] 28 (0,0))∧w1.heap[w.heap.size+1+1+1+1+1]?=some (.cells #[.slice none 0 0] 120 (0,0))):=Lh ⟨Yk aC bb.out.1,Yk aC bb.out.2.1,Yk aC bb.out.2.2.1,Yk aC bb.out.2.2.2.1,Yk aC bb.out.2.2.2.2.1,Yk aC bb.out.2.2.2.2.2⟩
 clear aC
 have i0:=Cw aB.out.1 0 rfl
 have i1:=Cw aB.out.1 1 rfl
 have i2:=Cw aB.out.1 2 rfl
 have m0:=Cw aB.out.2.1 0 rfl
 have m1:=Cw aB.out.2.1 1 rfl
 have x0:=Cw aB.out.2.2.1 0 rfl
 have x1:=Cw aB.out.2.2.1 1 rfl
 have z0:=Bl i0
 have z1:=Bl m0
 have z2:=Bl x0
 go_wp2_with fail
 refine (Xdi c _ m _ B w1 (Nt hB aE.out.size) (HC.out.below (aE.out.mono hB)) (HM.out.below (aE.out.mono hB))).mono ?_
 rintro e w2 ⟨rfl,aD⟩
 rw [aH.out]
 have aG:=Lh (aE.out.then aD)
 have aA:Hid (w2.heap[w.heap.size]?=some (.cells #[.slice fa c.fields.length fc,.int .i64 c.globals,.slice ga c.funcs.length gc] 25 (0,0))∧w2.heap[w.heap.size+1]?=some (.cells #[.slice va m.globals.length vc,.slice na m.nodes.length nc] 28 (0,0))∧w2.heap[w.heap.size+1+1]?=some (.cells #[.string x.proc,.slice xa x.args.length xc] 80 (0,0))∧Y7 w2 (w.heap.size+1+1+1) 0 0 0 0∧w2.heap[w.heap.size+1+1+1+1]?=some (.cells #[.slice none 0 0,.slice none 0 0] 28 (0,0))∧w2.heap[w.heap.size+1+1+1+1+1]?=some (.cells #[.slice none 0 0] 120 (0,0))):=Lh ⟨Yk aD aB.out.1,Yk aD aB.out.2.1,Yk aD aB.out.2.2.1,Yk aD aB.out.2.2.2.1,Yk aD aB.out.2.2.2.2.1,Yk aD aB.out.2.2.2.2.2⟩
 clear aD
 have i0:=Cw aA.out.1 0 rfl
 have i1:=Cw aA.out.1 1 rfl
 have i2:=Cw aA.out.1 2 rfl
 have m0:=Cw aA.out.2.1 0 rfl
 have m1:=Cw aA.out.2.1 1 rfl
 have x0:=Cw aA.out.2.2.1 0 rfl
 have x1:=Cw aA.out.2.2.1 1 rfl
 have z0:=Bl i0
 have z1:=Bl m0
 have z2:=Bl x0
 have o0:=Xs aA.out.2.2.2.1 0 (.int .i64 0) rfl
 have aL:w2.frozen? ⟨w.heap.size+1+1+1,0,none⟩=false:=Fz aA.out.2.2.2.1
 have o1:=Xs aA.out.2.2.2.1 1 (.int .i64 0) rfl
 have aM:w2.frozen? ⟨w.heap.size+1+1+1,1,none⟩=false:=Fz aA.out.2.2.2.1
 have o2:=Xs aA.out.2.2.2.1 2 (.int .i64 0) rfl
 have aN:w2.frozen? ⟨w.heap.size+1+1+1,2,none⟩=false:=Fz aA.out.2.2.2.1
 have o3:=Xs aA.out.2.2.2.1 3 (.int .i64 0) rfl
 have aO:w2.frozen? ⟨w.heap.size+1+1+1,3,none⟩=false:=Fz aA.out.2.2.2.1
 have o4:=Xs aA.out.2.2.2.1 4 (.int .i64 0) rfl
 have aP:w2.frozen? ⟨w.heap.size+1+1+1,4,none⟩=false:=Fz aA.out.2.2.2.1
 have u0:=Cw aA.out.2.2.2.2.1 0 rfl
 have aQ:w2.frozen? ⟨w.heap.size+1+1+1+1,0,none⟩=false:=Fz aA.out.2.2.2.2.1
 have u1:=Cw aA.out.2.2.2.2.1 1 rfl
 have aR:w2.frozen? ⟨w.heap.size+1+1+1+1,1,none⟩=false:=Fz aA.out.2.2.2.2.1
 have l0:=Cw aA.out.2.2.2.2.2 0 rfl
 have aK:w2.frozen? ⟨w.heap.size+1+1+1+1+1,0,none⟩=false:=Fz aA.out.2.2.2.2.2
 have aT:w2.setCell ⟨w.heap.size+1+1+1,0,none⟩ (.int .i64 0)=w2:=Xg aA.out.2.2.2.1 rfl
 have aU:w2.setCell ⟨w.heap.size+1+1+1,1,none⟩ (.int .i64 0)=w2:=Xg aA.out.2.2.2.1 rfl
 have aV:w2.setCell ⟨w.heap.size+1+1+1,2,none⟩ (.int .i64 0)=w2:=Xg aA.out.2.2.2.1 rfl
 have aW:w2.setCell ⟨w.heap.size+1+1+1,3,none⟩ (.int .i64 0)=w2:=Xg aA.out.2.2.2.1 rfl
 have aX:w2.setCell ⟨w.heap.size+1+1+1,4,none⟩ (.int .i64 0)=w2:=Xg aA.out.2.2.2.1 rfl
 have aY:w2.setCell ⟨w.heap.size+1+1+1+1,0,none⟩ (.slice none 0 0)=w2:=Xg aA.out.2.2.2.2.1 rfl
 have aZ:w2.setCell ⟨w.heap.size+1+1+1+1,1,none⟩ (.slice none 0 0)=w2:=Xg aA.out.2.2.2.2.1 rfl
 have aS:w2.setCell ⟨w.heap.size+1+1+1+1+1,0,none⟩ (.slice none 0 0)=w2:=Xg aA.out.2.2.2.2.2 rfl
 have z3:=Bl o0
 have z4:=Bl u0
 have z5:=Bl l0
 go_wp2_with fail
 go_region
 all_goals (go_wp2_with fail;exact bodyPost_ret (v:=Xjr 1) (Z4 (W:=w2.drew) (o:=Xc8) (p:=8) (q:=9) (r:=10) (u:=11) rfl aA.out.2.2.2.1 aA.out.2.2.2.2.1 aA.out.2.2.2.2.2 _ _ rfl rfl rfl rfl) rfl ⟨rfl,Xh aG.out 1⟩)
theorem Qs.addN {w4 w5:World} {Fl:List Nat} (h:Qs wr bo m gv nv cells Fg Fn) (hb:Below wr.heap.size wr w4) (hO:Yv w4 lv x.f Fl) (hFl:∀ b∈Fl,wr.heap.size≤b) (hF1:Fl.length≤1) (h64:in64 x.type)
  (ho:w5.ownsRow 0 74 2 (.slice (some ⟨g,0,none⟩) (m.nodes.length+1) cap) (m.nodes.length+1) (cells++[.int .i64 x.type,lv])) (hg:w4.grownBy w5 nv.ownBlock) (hlies:nv.ownBlock=some g∨g=w4.heap.size) :
  Qs (w5.setCell ⟨bo,1,none⟩ (.slice (some ⟨g,0,none⟩) (m.nodes.length+1) cap)) bo { m with nodes:=m.nodes++[x] } gv (.slice (some ⟨g,0,none⟩) (m.nodes.length+1) cap) (cells++[.int .i64 x.type,lv]) Fg (Fn++Fl)∧
   Xp (bo::(Fg++(nv.ownBlock.toList++Fn))) (bo::(Fg++([g]++(Fn++Fl)))) wr (w5.setCell ⟨bo,1,none⟩ (.slice (some ⟨g,0,none⟩) (m.nodes.length+1) cap))∧(∀ b∈bo::(Fg++([g]++(Fn++Fl))),b<w5.heap.size):=by
 have aP:=h.lt
 have aR:=h.nodup
 have bA:=hb.size
 have aY:=hg.size
 rw [List.nodup_cons,List.nodup_append,List.nodup_append] at aR
 obtain ⟨aF,aS,⟨aZ,aT,aU⟩,aQ⟩:=aR
 have aJ:=aP bo (by simp)
 have aO:∀ b,b<wr.heap.size→b∉nv.ownBlock.toList→b≠g:=fun b aA aE e=>by
  rcases hlies with h1|h1
  ·exact aE (by rw [h1,e];simp)
  ·omega
 have aI:bo≠g:=aO bo aJ (fun e=>aF (by simp only [List.mem_append];exact .inr (.inl e)))
 have aM:∀ b,b<wr.heap.size→b∉nv.ownBlock.toList→w5.heap[b]?=wr.heap[b]?:=fun b aA aE=>by
  rw [hg.block b (by omega) (fun e=>aE (by rw [←e];simp)),hb.block b aA]
 have aL:∀ b,b≠bo→(w5.setCell ⟨bo,1,none⟩ (.slice (some ⟨g,0,none⟩) (m.nodes.length+1) cap)).heap[b]?=w5.heap[b]?:=fun b aA=>heap_setCell_other _ _ _ _ aA
 have aG:∀ b∈Fg,b∉nv.ownBlock.toList:=fun b aA aE=>aQ b aA b (by simp only [List.mem_append];exact .inl aE) rfl
 have aH:∀ b∈Fn,b∉nv.ownBlock.toList:=fun b aA aE=>aU b aE b aA rfl
 have aB:∀ b∈Fg,b<wr.heap.size:=fun b aA=>aP b (by simp [aA])
 have aC:∀ b∈Fn,b<wr.heap.size:=fun b aA=>aP b (by simp [aA])
 have aD:∀ b∈Fl,b<w4.heap.size:=hO.lt
 have aK:∀ b∈nv.ownBlock.toList,b<wr.heap.size:=Ve h.row
 have aN:∀ b∈Fl,b≠g:=fun b aA e=>by
  have h1:=hFl b aA
  have h2:=aD b aA
  rcases hlies with h3|h3
  ·have:=aK g (by rw [h3];simp);omega
  ·omega
 have aV:∀ b∈Fg,(w5.setCell ⟨bo,1,none⟩ (.slice (some ⟨g,0,none⟩) (m.nodes.length+1) cap)).heap[b]?=wr.heap[b]?:=fun b aA=>by
  rw [aL b (fun e=>aF (by rw [←e];simp [aA])),aM b (aB b aA) (aG b aA)]
 have aX:∀ b∈Fn,(w5.setCell ⟨bo,1,none⟩ (.slice (some ⟨g,0,none⟩) (m.nodes.length+1) cap)).heap[b]?=wr.heap[b]?:=fun b aA=>by
  rw [aL b (fun e=>aF (by rw [←e];simp [aA])),aM b (aC b aA) (aH b aA)]
 have aW:∀ b∈Fl,(w5.setCell ⟨bo,1,none⟩ (.slice (some ⟨g,0,none⟩) (m.nodes.length+1) cap)).heap[b]?=w4.heap[b]?:=fun b aA=>by
  have h1:=hFl b aA
  rw [aL b (by omega),hg.block b (aD b aA) (fun e=>by have:=aK b (by rw [←e];simp);omega)]
 refine ⟨⟨?_,h.glob.keep aV,?_,(h.nodes.keep aX).add (hO.keep aW) h64,?_⟩,⟨hg.os.trans hb.os,hg.tape.trans hb.tape,hg.output.trans hb.output,by simp;omega,fun k hk hF=>?_,fun b aA=>?_⟩,fun b aA=>?_⟩
 ·have h1:w5.heap[bo]?=some (.cells #[gv,nv] 28 (0,0)):=by rw [aM bo aJ (fun e=>aF (by simp only [List.mem_append];exact .inr (.inl e)))];exact h.box
  have:=heap_setCell_same _ bo 1 _ _ (.slice (some ⟨g,0,none⟩) (m.nodes.length+1) cap) h1
  simpa using this
 ·have e:({ m with nodes:=m.nodes++[x] }:Mm).nodes.length=m.nodes.length+1:=by simp
  rw [e]
  exact Qi ho (fun b aA=>by simp [Value.ownBlock] at aA;subst aA;exact aL b (fun e=>aI e.symm))
 ·have one:Fl.Nodup:=by
   match Fl,hF1 with
   | [],_=>simp
   | [a],_=>simp
  have eo:(Value.slice (some ⟨g,0,none⟩) (m.nodes.length+1) cap).ownBlock.toList=[g]:=rfl
  rw [eo,List.nodup_cons,List.nodup_append,List.nodup_append,List.nodup_append]
  refine ⟨fun hm=>?_,aS,⟨by simp,⟨aT,one,fun a ha b aA e=>by have:=aC a ha;have:=hFl b aA;omega⟩,fun a ha b aA e=>?_⟩,fun a ha b aA e=>?_⟩
  ·simp only [List.mem_append,List.mem_singleton] at hm
   rcases hm with hm|hm|hm|hm
   ·exact aF (by simp [hm])
   ·exact aI hm
   ·exact aF (by simp [hm])
   ·have:=hFl bo hm;omega
  ·simp only [List.mem_singleton] at ha
   subst ha
   rw [List.mem_append] at aA
   rcases aA with aA|aA
   ·exact aO b (aC b aA) (aH b aA) e.symm
   ·exact aN b aA e.symm
  ·simp only [List.mem_append,List.mem_singleton] at aA
   rcases aA with aA|aA|aA
   ·exact aO a (aB a ha) (aG a ha) (e.trans aA)
   ·exact aQ a ha b (by simp [aA]) e
   ·have:=aB a ha;have:=hFl b aA;omega
 ·simp only [List.mem_cons,List.mem_append,not_or] at hF
  rw [aL k hF.1,aM k hk hF.2.2.1]
 ·simp only [List.mem_cons,List.mem_append,List.not_mem_nil,or_false] at aA ⊢
  rcases aA with aA|aA|aA|aA|aA
  ·left;left;exact aA
  ·left;right;left;exact aA
  ·rcases hlies with h3|h3
   ·left;right;right;left;rw [h3,aA];simp
   ·right;omega
  ·left;right;right;right;exact aA
  ·right;exact hFl b aA
 ·simp only [List.mem_cons,List.mem_append,List.not_mem_nil,or_false] at aA
  rcases aA with aA|aA|aA|aA|aA
  ·omega
  ·have:=aB b aA;omega
  ·have:=Ve ho g (by simp [Value.ownBlock]);omega
  ·have:=aC b aA;omega
  ·have:=aD b aA;omega
def Xdz (c:Cod) (m:Mm) (x:Cal) (fuel:Int) (w:World) (e:Ending) (w':World):Prop:=
 (Yd c x fuel≠0∧e=.returned (Xjr (Yd c x fuel))∧Below w.heap.size w w')∨
 (Yd c x fuel=0∧∃ m1 o p gv nv lv bo bl cells Fg Fn,Zm c (Zo c x fuel) m1∧Zx c m1 ⟨m,[],0⟩ o p∧e=.returned (.tuple #[Xap o,.agg #[gv,nv],lv,.int .i64 0])∧Qs w' bo p.mem gv nv cells Fg Fn∧Vm w' bl p.log lv∧Uv c p.mem∧p.log.length≤1000000000000∧(∀ b∈bo::(Fg++(nv.ownBlock.toList++Fn)),w.heap.size≤b)∧(∀ b∈bl::lv.ownBlock.toList,w.heap.size≤b)∧Below w.heap.size w w')
theorem Xjm (c:Cod) (m:Mm) (x:Cal) (fuel:Int) (fa ga va na xa:Option Addr) (fc gc vc nc xc B:Nat) (w:World) (hL:Qa w) (hB:B≤w.heap.size) (hc:Yj B w (.agg #[.slice fa c.fields.length fc,.int .i64 c.globals,.slice ga c.funcs.length gc]) c) (hm:MmV B w (.agg #[.slice va m.globals.length vc,.slice na m.nodes.length nc]) m) (hx:J8 B w (.agg #[.string x.proc,.slice xa x.args.length xc]) x) (hs:Xv c) (hft:Q7 c m=true) (hsm:Zb c) (hgv:Yd c x fuel≠0) :
  Calls Tryz.prog 78 #[.agg #[.slice fa c.fields.length fc,.int .i64 c.globals,.slice ga c.funcs.length gc],.agg #[.slice va m.globals.length vc,.slice na m.nodes.length nc],.agg #[.string x.proc,.slice xa x.args.length xc],.int .i64 fuel] w (Xdz c m x fuel w):=by
 have aR:=Lh hft
 have aN:=Lh hgv
 clear hft hgv
 obtain ⟨W,hW⟩:∃ W,W=(((((w.alloc (.cells #[.slice fa c.fields.length fc,.int .i64 c.globals,.slice ga c.funcs.length gc] 25)).alloc (.cells #[.slice va m.globals.length vc,.slice na m.nodes.length nc] 28)).alloc (.cells #[.string x.proc,.slice xa x.args.length xc] 80)).alloc (.cells (X8 0 0 0 0) 84)).alloc (.cells #[.slice none 0 0,.slice none 0 0] 28)).alloc (.cells #[.slice none 0 0] 120):=⟨_,rfl⟩
 have aM:Hid (Below w.heap.size w W):=by rw [hW];exact (((((Xa _ _).then (Xa _ _)).then (Xa _ _)).then (Xa _ _)).then (Xa _ _)).then (Xa _ _)
 have aT:Hid (W.heap.size=w.heap.size+6):=by rw [hW];exact Lh (by simp)
 have bb:Hid (W.heap[w.heap.size]?=some (.cells #[.slice fa c.fields.length fc,.int .i64 c.globals,.slice ga c.funcs.length gc] 25 (0,0))∧W.heap[w.heap.size+1]?=some (.cells #[.slice va m.globals.length vc,.slice na m.nodes.length nc] 28 (0,0))∧W.heap[w.heap.size+1+1]?=some (.cells #[.string x.proc,.slice xa x.args.length xc] 80 (0,0))∧Y7 W (w.heap.size+1+1+1) 0 0 0 0∧W.heap[w.heap.size+1+1+1+1]?=some (.cells #[.slice none 0 0,.slice none 0 0] 28 (0,0))∧W.heap[w.heap.size+1+1+1+1+1]?=some (.cells #[.slice none 0 0] 120 (0,0))):=Lh (by
  rw [hW]
  refine ⟨?_,?_,?_,?_,?_,?_⟩
  ·rw [Ha _ _ _ (by simp<;>omega),Ha _ _ _ (by simp<;>omega),Ha _ _ _ (by simp<;>omega),Ha _ _ _ (by simp<;>omega),Ha _ _ _ (by simp<;>omega)]
   exact Hn _ _
  ·rw [Ha _ _ _ (by simp<;>omega),Ha _ _ _ (by simp<;>omega),Ha _ _ _ (by simp<;>omega),Ha _ _ _ (by simp<;>omega)]
   have:=Hn (w.alloc (.cells #[.slice fa c.fields.length fc,.int .i64 c.globals,.slice ga c.funcs.length gc] 25)) (.cells #[.slice va m.globals.length vc,.slice na m.nodes.length nc] 28)
   simpa using this
  ·rw [Ha _ _ _ (by simp<;>omega),Ha _ _ _ (by simp<;>omega),Ha _ _ _ (by simp<;>omega)]
   have:=Hn ((w.alloc (.cells #[.slice fa c.fields.length fc,.int .i64 c.globals,.slice ga c.funcs.length gc] 25)).alloc (.cells #[.slice va m.globals.length vc,.slice na m.nodes.length nc] 28)) (.cells #[.string x.proc,.slice xa x.args.length xc] 80)
   simpa using this
  ·unfold Y7
   rw [Ha _ _ _ (by simp<;>omega),Ha _ _ _ (by simp<;>omega)]
   have:=Hn (((w.alloc (.cells #[.slice fa c.fields.length fc,.int .i64 c.globals,.slice ga c.funcs.length gc] 25)).alloc (.cells #[.slice va m.globals.length vc,.slice na m.nodes.length nc] 28)).alloc (.cells #[.string x.proc,.slice xa x.args.length xc] 80)) (.cells (X8 0 0 0 0) 84)
   simpa using this
  ·rw [Ha _ _ _ (by simp<;>omega)]
   have:=Hn ((((w.alloc (.cells #[.slice fa c.fields.length fc,.int .i64 c.globals,.slice ga c.funcs.length gc] 25)).alloc (.cells #[.slice va m.globals.length vc,.slice na m.nodes.length nc] 28)).alloc (.cells #[.string x.proc,.slice xa x.args.length xc] 80)).alloc (.cells (X8 0 0 0 0) 84)) (.cells #[.slice none 0 0,.slice none 0 0] 28)
   simpa using this
  ·have:=Hn (((((w.alloc (.cells #[.slice fa c.fields.length fc,.int .i64 c.globals,.slice ga c.funcs.length gc] 25)).alloc (.cells #[.slice va m.globals.length vc,.slice na m.nodes.length nc] 28)).alloc (.cells #[.string x.proc,.slice xa x.args.length xc] 80)).alloc (.cells (X8 0 0 0 0) 84)).alloc (.cells #[.slice none 0 0,.slice none 0 0] 28)) (.cells #[.slice none 0 0] 120)
   simpa using this)
 have HC:=Lh hc
 have HM:=Lh hm
 have HX:=Lh hx
 have HL:=Lh hL
 have aS:B≤W.heap.size:=by have:=aT.out;omega
 clear hc hm hx hL
 have i0:=Cw bb.out.1 0 rfl
 have i1:=Cw bb.out.1 1 rfl
 have i2:=Cw bb.out.1 2 rfl
 have m0:=Cw bb.out.2.1 0 rfl
 have m1:=Cw bb.out.2.1 1 rfl
 have x0:=Cw bb.out.2.2.1 0 rfl
 have x1:=Cw bb.out.2.2.1 1 rfl
 have z0:=Bl i0
 have z1:=Bl m0
 have z2:=Bl x0
 go_enter Tryz.func78,Tryz.ntmps78
 unfold X8 at hW
 go_upto_region 1 with fail
 rw [←hW]
 have HW:=Lh hW
 clear hW
 go_wp2_with fail
 refine (Jm c _ B W (HL.out.below aM.out) aS (HC.out.below (aM.out.mono hB))).mono ?_
 rintro e w1 ⟨rfl,aE⟩
 rw [Zg hs]
 have aJ:=Lh (aM.out.then aE)
 have aB:Hid (w1.heap[w.heap.size]?=some (.cells #[.slice fa c.fields.length fc,.int .i64 c.globals,.slice ga c.funcs.length gc] 25 (0,0))∧w1.heap[w.heap.size+1]?=some (.cells #[.slice va m.globals.length vc,.slice na m.nodes.length nc] 28 (0,0))∧w1.heap[w.heap.size+1+1]?=some (.cells #[.string x.proc,.slice xa x.args.length xc] 80 (0,0))∧Y7 w1 (w.heap.size+1+1+1) 0 0 0 0∧w1.heap[w.heap.size+1+1+1+1]?=some (.cells #[.slice none 0 0,.slice none 0 0] 28 (0,0))∧w1.heap[w.heap.size+1+1+1+1+1]?=some (.cells #[.slice none 0 0] 120 (0,0))):=Lh ⟨Yk aE bb.out.1,Yk aE bb.out.2.1,Yk aE bb.out.2.2.1,Yk aE bb.out.2.2.2.1,Yk aE bb.out.2.2.2.2.1,Yk aE bb.out.2.2.2.2.2⟩
 clear aE
 have i0:=Cw aB.out.1 0 rfl
 have i1:=Cw aB.out.1 1 rfl
 have i2:=Cw aB.out.1 2 rfl
 have m0:=Cw aB.out.2.1 0 rfl
 have m1:=Cw aB.out.2.1 1 rfl
 have x0:=Cw aB.out.2.2.1 0 rfl
 have x1:=Cw aB.out.2.2.1 1 rfl
 have z0:=Bl i0
 have z1:=Bl m0
 have z2:=Bl x0
 go_wp2_with fail
 refine (Xdi c _ m _ B w1 (Nt hB aJ.out.size) (HC.out.below (aJ.out.mono hB)) (HM.out.below (aJ.out.mono hB))).mono ?_
 rintro e w2 ⟨rfl,aF⟩
 rw [aR.out]
 have aK:=Lh (aJ.out.then aF)
 have aC:Hid (w2.heap[w.heap.size]?=some (.cells #[.slice fa c.fields.length fc,.int .i64 c.globals,.slice ga c.funcs.length gc] 25 (0,0))∧w2.heap[w.heap.size+1]?=some (.cells #[.slice va m.globals.length vc,.slice na m.nodes.length nc] 28 (0,0))∧w2.heap[w.heap.size+1+1]?=some (.cells #[.string x.proc,.slice xa x.args.length xc] 80 (0,0))∧Y7 w2 (w.heap.size+1+1+1) 0 0 0 0∧w2.heap[w.heap.size+1+1+1+1]?=some (.cells #[.slice none 0 0,.slice none 0 0] 28 (0,0))∧w2.heap[w.heap.size+1+1+1+1+1]?=some (.cells #[.slice none 0 0] 120 (0,0))):=Lh ⟨Yk aF aB.out.1,Yk aF aB.out.2.1,Yk aF aB.out.2.2.1,Yk aF aB.out.2.2.2.1,Yk aF aB.out.2.2.2.2.1,Yk aF aB.out.2.2.2.2.2⟩
 clear aF
 have i0:=Cw aC.out.1 0 rfl
 have i1:=Cw aC.out.1 1 rfl
 have i2:=Cw aC.out.1 2 rfl
 have m0:=Cw aC.out.2.1 0 rfl
 have m1:=Cw aC.out.2.1 1 rfl
 have x0:=Cw aC.out.2.2.1 0 rfl
 have x1:=Cw aC.out.2.2.1 1 rfl
 have z0:=Bl i0
 have z1:=Bl m0
 have z2:=Bl x0
 go_wp2_with fail
 refine (Xb5 c x fuel _ _ B w2 (Nt hB aK.out.size) (HC.out.below (aK.out.mono hB)) (HX.out.below (aK.out.mono hB)) hs hsm).mono ?_
 rintro e w3 hP
 rcases hP with ⟨h0,rfl,aG⟩|⟨h0,_⟩
 rotate_left
 ·exact absurd h0 aN.out
 obtain ⟨er,aL⟩:∃ er,er=Yd c x fuel:=⟨_,rfl⟩
 rw [←aL]
 rw [←aL] at h0
 have aQ:=Lh aL
 clear aL
 have bC:(er != 0)=true:=by simp [h0]
 have aO:=Lh (aK.out.then aG)
 have aD:Hid (w3.heap[w.heap.size]?=some (.cells #[.slice fa c.fields.length fc,.int .i64 c.globals,.slice ga c.funcs.length gc] 25 (0,0))∧w3.heap[w.heap.size+1]?=some (.cells #[.slice va m.globals.length vc,.slice na m.nodes.length nc] 28 (0,0))∧w3.heap[w.heap.size+1+1]?=some (.cells #[.string x.proc,.slice xa x.args.length xc] 80 (0,0))∧Y7 w3 (w.heap.size+1+1+1) 0 0 0 0∧w3.heap[w.heap.size+1+1+1+1]?=some (.cells #[.slice none 0 0,.slice none 0 0] 28 (0,0))∧w3.heap[w.heap.size+1+1+1+1+1]?=some (.cells #[.slice none 0 0] 120 (0,0))):=Lh ⟨Yk aG aC.out.1,Yk aG aC.out.2.1,Yk aG aC.out.2.2.1,Yk aG aC.out.2.2.2.1,Yk aG aC.out.2.2.2.2.1,Yk aG aC.out.2.2.2.2.2⟩
 clear aG
 obtain ⟨W4,aI⟩:∃ W,W=w3.alloc (.cells (Xb (.slice none 0 0) Xl) 51):=⟨_,rfl⟩
 have aH:Below w3.heap.size w3 W4:=by rw [aI];exact Xa _ _
 have aP:=Lh (aO.out.then aH)
 have aA:Hid (W4.heap[w.heap.size]?=some (.cells #[.slice fa c.fields.length fc,.int .i64 c.globals,.slice ga c.funcs.length gc] 25 (0,0))∧W4.heap[w.heap.size+1]?=some (.cells #[.slice va m.globals.length vc,.slice na m.nodes.length nc] 28 (0,0))∧W4.heap[w.heap.size+1+1]?=some (.cells #[.string x.proc,.slice xa x.args.length xc] 80 (0,0))∧Y7 W4 (w.heap.size+1+1+1) 0 0 0 0∧W4.heap[w.heap.size+1+1+1+1]?=some (.cells #[.slice none 0 0,.slice none 0 0] 28 (0,0))∧W4.heap[w.heap.size+1+1+1+1+1]?=some (.cells #[.slice none 0 0] 120 (0,0))):=Lh ⟨Yk aH aD.out.1,Yk aH aD.out.2.1,Yk aH aD.out.2.2.1,Yk aH aD.out.2.2.2.1,Yk aH aD.out.2.2.2.2.1,Yk aH aD.out.2.2.2.2.2⟩
 have i0:=Cw aD.out.1 0 rfl
 have i1:=Cw aD.out.1 1 rfl
 have i2:=Cw aD.out.1 2 rfl
 have m0:=Cw aD.out.2.1 0 rfl
 have m1:=Cw aD.out.2.1 1 rfl
 have x0:=Cw aD.out.2.2.1 0 rfl
 have x1:=Cw aD.out.2.2.1 1 rfl
 have z0:=Bl i0
 have z1:=Bl m0
 have z2:=Bl x0
 unfold Xi
 unfold Xb Xl at aI ⊢
 dsimp only at aI ⊢
 clear aH
 go_upto_region 5 with fail
 rw [←aI]
 clear aI
 have i0:=Cw aA.out.1 0 rfl
 have i1:=Cw aA.out.1 1 rfl
 have i2:=Cw aA.out.1 2 rfl
 have m0:=Cw aA.out.2.1 0 rfl
 have m1:=Cw aA.out.2.1 1 rfl
 have x0:=Cw aA.out.2.2.1 0 rfl
 have x1:=Cw aA.out.2.2.1 1 rfl
 have z0:=Bl i0
 have z1:=Bl m0
 have z2:=Bl x0
 have o0:=Xs aA.out.2.2.2.1 0 (.int .i64 0) rfl
 have aV:W4.frozen? ⟨w.heap.size+1+1+1,0,none⟩=false:=Fz aA.out.2.2.2.1
 have o1:=Xs aA.out.2.2.2.1 1 (.int .i64 0) rfl
 have aW:W4.frozen? ⟨w.heap.size+1+1+1,1,none⟩=false:=Fz aA.out.2.2.2.1
 have o2:=Xs aA.out.2.2.2.1 2 (.int .i64 0) rfl
 have aX:W4.frozen? ⟨w.heap.size+1+1+1,2,none⟩=false:=Fz aA.out.2.2.2.1
 have o3:=Xs aA.out.2.2.2.1 3 (.int .i64 0) rfl
 have aY:W4.frozen? ⟨w.heap.size+1+1+1,3,none⟩=false:=Fz aA.out.2.2.2.1
 have o4:=Xs aA.out.2.2.2.1 4 (.int .i64 0) rfl
 have aZ:W4.frozen? ⟨w.heap.size+1+1+1,4,none⟩=false:=Fz aA.out.2.2.2.1
 have u0:=Cw aA.out.2.2.2.2.1 0 rfl
 have bA:W4.frozen? ⟨w.heap.size+1+1+1+1,0,none⟩=false:=Fz aA.out.2.2.2.2.1
 have u1:=Cw aA.out.2.2.2.2.1 1 rfl
 have bB:W4.frozen? ⟨w.heap.size+1+1+1+1,1,none⟩=false:=Fz aA.out.2.2.2.2.1
 have l0:=Cw aA.out.2.2.2.2.2 0 rfl
 have aU:W4.frozen? ⟨w.heap.size+1+1+1+1+1,0,none⟩=false:=Fz aA.out.2.2.2.2.2
 have bE:W4.setCell ⟨w.heap.size+1+1+1,0,none⟩ (.int .i64 0)=W4:=Xg aA.out.2.2.2.1 rfl
 have bF:W4.setCell ⟨w.heap.size+1+1+1,1,none⟩ (.int .i64 0)=W4:=Xg aA.out.2.2.2.1 rfl
 have bG:W4.setCell ⟨w.heap.size+1+1+1,2,none⟩ (.int .i64 0)=W4:=Xg aA.out.2.2.2.1 rfl
 have bH:W4.setCell ⟨w.heap.size+1+1+1,3,none⟩ (.int .i64 0)=W4:=Xg aA.out.2.2.2.1 rfl
 have bI:W4.setCell ⟨w.heap.size+1+1+1,4,none⟩ (.int .i64 0)=W4:=Xg aA.out.2.2.2.1 rfl
 have bJ:W4.setCell ⟨w.heap.size+1+1+1+1,0,none⟩ (.slice none 0 0)=W4:=Xg aA.out.2.2.2.2.1 rfl
 have bK:W4.setCell ⟨w.heap.size+1+1+1+1,1,none⟩ (.slice none 0 0)=W4:=Xg aA.out.2.2.2.2.1 rfl
 have bD:W4.setCell ⟨w.heap.size+1+1+1+1+1,0,none⟩ (.slice none 0 0)=W4:=Xg aA.out.2.2.2.2.2 rfl
 have z3:=Bl o0
 have z4:=Bl u0
 have z5:=Bl l0
 go_region
 all_goals (go_wp2_with fail;exact bodyPost_ret (v:=Xjr er) (Z4 (W:=W4.drew) (o:=Xc8) (p:=8) (q:=9) (r:=10) (u:=11) rfl aA.out.2.2.2.1 aA.out.2.2.2.2.1 aA.out.2.2.2.2.2 _ _ rfl rfl rfl rfl) rfl (.inl ⟨aN.out,by rw [aQ.out],Xh aP.out 1⟩))
def Uf (bo:Nat) (nv:Value) (Fg Fn:List Nat):List Nat:=bo::(Fg++(nv.ownBlock.toList++Fn))
def Vh (bl:Nat) (lv:Value):List Nat:=bl::lv.ownBlock.toList
def Dj (X Y:List Nat):Prop:=∀ b∈X,b∉Y
theorem Dj.symm (h:Dj X Y):Dj Y X:=fun b hb hx=>h b hx hb
theorem Dj.mods (h:Dj X Y) (hM:Xp X X' w w') (hY:∀ b∈Y,b<w.heap.size):Dj X' Y:=fun b hb hy=>by
 rcases hM.new b hb with h1|h1
 ·exact h b h1 hy
 ·have:=hY b hy;omega
theorem Dj.keep (h:Dj X Y) (hM:Xp X X' w w') (hY:∀ b∈Y,b<w.heap.size):∀ b∈Y,w'.heap[b]?=w.heap[b]?:=fun b hb=>hM.block b (hY b hb) (fun e=>h b e hb)
structure PSt (A:Nat) (W wr:World) (bm bo bl bc:Nat) (m:Mch) (p:Ply) (fault value cmp:Int) (Fm:List Nat) (gv nv:Value) (cells:List Value) (Fg Fn:List Nat) (lv:Value):Prop where
 mach:X3 wr bm m Fm
 mem:Qs wr bo p.mem gv nv cells Fg Fn
 log:Vm wr bl p.log lv
 out:Y7 wr bc fault value cmp p.nodes
 d1:Dj Fm (Uf bo nv Fg Fn)
 d2:Dj Fm (Vh bl lv)
 d3:Dj Fm [bc]
 d4:Dj (Uf bo nv Fg Fn) (Vh bl lv)
 d5:Dj (Uf bo nv Fg Fn) [bc]
 d6:Dj (Vh bl lv) [bc]
 g1:∀ b∈Fm,A≤b
 g2:∀ b∈Uf bo nv Fg Fn,A≤b
 g3:∀ b∈Vh bl lv,A≤b
 g4:A≤bc
 aw:A≤W.heap.size
 bel:Below A W wr
variable {A:Nat} {W wr w':World} {bm bo bl bc:Nat} {m:Mch} {p:Ply} {fault value cmp:Int} {Fm:List Nat} {gv nv:Value} {cells:List Value} {Fg Fn:List Nat} {lv:Value}
theorem PSt.ltM (h:PSt A W wr bm bo bl bc m p fault value cmp Fm gv nv cells Fg Fn lv):∀ b∈Fm,b<wr.heap.size:=h.mach.lt
theorem PSt.ltO (h:PSt A W wr bm bo bl bc m p fault value cmp Fm gv nv cells Fg Fn lv):∀ b∈Uf bo nv Fg Fn,b<wr.heap.size:=h.mem.lt
theorem PSt.ltL (h:PSt A W wr bm bo bl bc m p fault value cmp Fm gv nv cells Fg Fn lv):∀ b∈Vh bl lv,b<wr.heap.size:=h.log.lt
theorem PSt.ltC (h:PSt A W wr bm bo bl bc m p fault value cmp Fm gv nv cells Fg Fn lv):∀ b∈[bc],b<wr.heap.size:=fun b hb=>by
 rw [List.mem_singleton] at hb;rw [hb];exact (La h.out)
theorem PSt.aWr (h:PSt A W wr bm bo bl bc m p fault value cmp Fm gv nv cells Fg Fn lv):A≤wr.heap.size:=Nt h.aw h.bel.size
theorem PSt.keep (h:PSt A W wr bm bo bl bc m p fault value cmp Fm gv nv cells Fg Fn lv) (hb:Below wr.heap.size wr w'):PSt A W w' bm bo bl bc m p fault value cmp Fm gv nv cells Fg Fn lv:=
 ⟨h.mach.keep hb,h.mem.keep (fun b aA=>hb.block b (h.ltO b aA)),h.log.keep (fun b aA=>hb.block b (h.ltL b aA)),Yk hb h.out,h.d1,h.d2,h.d3,h.d4,h.d5,h.d6,h.g1,h.g2,h.g3,h.g4,h.aw,h.bel.trans (hb.mono h.aWr)⟩
theorem PSt.machM (h:PSt A W wr bm bo bl bc m p fault value cmp Fm gv nv cells Fg Fn lv) {m':Mch} {F':List Nat} (hO:X3 w' bm m' F') (hM:Xp Fm F' wr w'):PSt A W w' bm bo bl bc m' p fault value cmp F' gv nv cells Fg Fn lv:=
 ⟨hO,h.mem.keep (h.d1.keep hM h.ltO),h.log.keep (h.d2.keep hM h.ltL),by show w'.heap[bc]?=_;rw [h.d3.keep hM h.ltC bc (by simp)];exact h.out,h.d1.mods hM h.ltO,h.d2.mods hM h.ltL,h.d3.mods hM h.ltC,h.d4,h.d5,h.d6,hM.ge h.g1 h.aWr,h.g2,h.g3,h.g4,h.aw,h.bel.trans (hM.below h.g1 h.aWr)⟩
theorem PSt.memM (h:PSt A W wr bm bo bl bc m p fault value cmp Fm gv nv cells Fg Fn lv) {mm:Mm} {gv' nv':Value} {cells':List Value} {Fg' Fn':List Nat} (hO:Qs w' bo mm gv' nv' cells' Fg' Fn') (hM:Xp (Uf bo nv Fg Fn) (Uf bo nv' Fg' Fn') wr w'):PSt A W w' bm bo bl bc m { p with mem:=mm } fault value cmp Fm gv' nv' cells' Fg' Fn' lv:=by
 refine ⟨?_,hO,h.log.keep (h.d4.keep hM h.ltL),by show w'.heap[bc]?=_;rw [h.d5.keep hM h.ltC bc (by simp)];exact h.out,(h.d1.symm.mods hM h.ltM).symm,h.d2,h.d3,h.d4.mods hM h.ltL,h.d5.mods hM h.ltC,h.d6,h.g1,hM.ge h.g2 h.aWr,h.g3,h.g4,h.aw,h.bel.trans (hM.below h.g2 h.aWr)⟩
 obtain ⟨fv,F0,h1,h2,h3,h4⟩:=Xt.1 h.mach
 have hk:=h.d1.symm.keep hM h.ltM
 exact Xt.2 ⟨fv,F0,by rw [hk bm (by rw [h3];simp)];exact h1,h2.keep (fun b hb=>hk b (by rw [h3];simp [hb])),h3,h4⟩
theorem PSt.noteM (h:PSt A W wr bm bo bl bc m p fault value cmp Fm gv nv cells Fg Fn lv) {a:Acc} {e:Ending} (hP:Xc4 wr bl bc p.log lv a fault value cmp p.nodes e w'):e=.returned (.tuple #[])∧∃ lv',PSt A W w' bm bo bl bc m ⟨p.mem,p.log++[a],p.nodes+(if 0<a.node then 1 else 0)⟩ fault value cmp Fm gv nv cells Fg Fn lv':=by
 obtain ⟨he,lv',hL,hO,hM,hn⟩:=hP
 have dj:∀ {Y:List Nat},Dj Y [bc]→Dj Y (Vh bl lv)→Dj (bc::Vh bl lv) Y:=fun h1 h2 b hb hy=>by
  rw [List.mem_cons] at hb
  rcases hb with hb|hb
  ·exact h1 b hy (by simp [hb])
  ·exact h2 b hy hb
 have aA:Xp (bc::Vh bl lv) (bc::Vh bl lv') wr w':=hM
 have e1:Dj (bc::Vh bl lv) Fm:=dj h.d3 h.d2
 have e2:Dj (bc::Vh bl lv) (Uf bo nv Fg Fn):=dj h.d5 h.d4
 have gg:∀ b∈bc::Vh bl lv,A≤b:=fun b hb=>by
  rw [List.mem_cons] at hb
  rcases hb with hb|hb
  ·rw [hb];exact h.g4
  ·exact h.g3 b hb
 have sub:Dj (bc::Vh bl lv') Fm:=e1.mods aA h.ltM
 have aC:Dj (bc::Vh bl lv') (Uf bo nv Fg Fn):=e2.mods aA h.ltO
 refine ⟨he,lv',?_,h.mem.keep (e2.keep aA h.ltO),hL,hO,h.d1,fun b hb aB=>sub b (List.mem_cons_of_mem _ aB) hb,h.d3,fun b hb aB=>aC b (List.mem_cons_of_mem _ aB) hb,h.d5,fun b hb aB=>hn (by rw [List.mem_singleton] at aB;rw [←aB];exact hb),h.g1,h.g2,fun b hb=>aA.ge gg h.aWr b (List.mem_cons_of_mem _ hb),h.g4,h.aw,h.bel.trans (aA.below gg h.aWr)⟩
 obtain ⟨fv,F0,h1,h2,h3,h4⟩:=Xt.1 h.mach
 have hk:=e1.keep aA h.ltM
 exact Xt.2 ⟨fv,F0,by rw [hk bm (by rw [h3];simp)];exact h1,h2.keep (fun b hb=>hk b (by rw [h3];simp [hb])),h3,h4⟩
theorem PSt.outM (h:PSt A W wr bm bo bl bc m p fault value cmp Fm gv nv cells Fg Fn lv) (j:Nat) (u:Value) {f' v' c':Int} (hj:(X8 fault value cmp p.nodes).setIfInBounds j u=X8 f' v' c' p.nodes):PSt A W (wr.setCell ⟨bc,j,none⟩ u) bm bo bl bc m p f' v' c' Fm gv nv cells Fg Fn lv:=by
 have ho:∀ b,b≠bc→(wr.setCell ⟨bc,j,none⟩ u).heap[b]?=wr.heap[b]?:=fun b hb=>heap_setCell_other _ _ _ _ hb
 have n1:∀ b∈Fm,b≠bc:=fun b hb e=>h.d3 b hb (by simp [e])
 have n2:∀ b∈Uf bo nv Fg Fn,b≠bc:=fun b hb e=>h.d5 b hb (by simp [e])
 have n3:∀ b∈Vh bl lv,b≠bc:=fun b hb e=>h.d6 b hb (by simp [e])
 refine ⟨?_,h.mem.keep (fun b hb=>ho b (n2 b hb)),h.log.keep (fun b hb=>ho b (n3 b hb)),?_,h.d1,h.d2,h.d3,h.d4,h.d5,h.d6,h.g1,h.g2,h.g3,h.g4,h.aw,h.bel.trans (Br.setCell h.g4 _)⟩
 ·obtain ⟨fv,F0,h1,h2,h3,h4⟩:=Xt.1 h.mach
  exact Xt.2 ⟨fv,F0,by rw [ho bm (n1 bm (by rw [h3];simp))];exact h1,h2.keep (fun b hb=>ho b (n1 b (by rw [h3];simp [hb]))),h3,h4⟩
 ·have:=heap_setCell_same _ bc j _ _ u h.out
  rw [hj] at this
  exact this
theorem Xkq {j:Nat} (hb:b∈F):Xp F F w (w.setCell ⟨b,j,none⟩ v):=⟨rfl,rfl,rfl,by simp,fun k _ hF=>heap_setCell_other _ _ _ _ (fun e=>hF (by rw [e];exact hb)),fun _ h=>.inl h⟩
theorem Yv.frozen {l:List Int} (h:Yv w (.slice (some ⟨lb,0,none⟩) n cap) l F) (j:Nat):w.frozen? ⟨lb,j,none⟩=false:=by
 rcases h.1.2 with ⟨h1,_⟩|⟨g,cap,aA,h1,hb,hg,_⟩
 ·simp at h1
 ·simp at h1
  obtain ⟨⟨rfl,_⟩,_⟩:=h1
  exact Fz hg
theorem PSt.nodeAt {m:Mch} {na:Option Addr} {nc:Nat} (h:PSt A W wr bm bo bl bc m p fault value cmp Fm gv (.slice na n nc) cells Fg Fn lv) (hx:p.mem.nodes[i]?=some x) :
  ∃ nb fv Fl,na=some ⟨nb,0,none⟩∧wr.cell? ⟨nb,i*2+1,none⟩=some fv∧Yv wr fv x.f Fl∧(∀ b∈Fl,b∈Uf bo (.slice na n nc) Fg Fn)∧∀ lb cap (j:Nat) (v:Int),fv=.slice (some ⟨lb,0,none⟩) x.f.length cap→in64 v→PSt A W (wr.setCell ⟨lb,j,none⟩ (.int .i64 v)) bm bo bl bc m { p with mem:={ p.mem with nodes:=p.mem.nodes.modify i (fun x=>Xem x j v) } } fault value cmp Fm gv (.slice na n nc) cells Fg Fn lv:=by
 obtain ⟨fv,Fl,h1,h2,h3,h4⟩:=h.mem.setN hx
 have aG:=(Ll hx)
 have aA:∀ b∈Fl,b∈Uf bo (.slice na n nc) Fg Fn:=fun b hb=>by unfold Uf;simp [h3 b hb]
 rcases hr:h.mem.row.2 with ⟨e1,e2⟩|⟨g,cap,aE,e1,hb,hg,hc,aF,hs,ht⟩
 ·omega
 ·simp at e1
  obtain ⟨rfl,rfl,rfl⟩:=e1
  refine ⟨g,fv,Fl,rfl,?_,h2,aA,fun lb cap j v aC aD=>?_⟩
  ·rw [h.mem.row.cellAt (i*2+1) (by omega)];exact h1
  ·have aB:lb∈Fl:=by rw [h2.2.1,aC];simp [Value.ownBlock]
   exact h.memM (h4 lb cap j v aC aB aD) (Xkq (aA lb aB))
theorem PSt.globSet {m:Mch} {gn:Nat} (h:PSt A W wr bm bo bl bc m p fault value cmp Fm (.slice (some ⟨gb,0,none⟩) gn gc) nv cells Fg Fn lv) (hn:gn=p.mem.globals.length) (j:Nat) (v:Int) (h64:in64 v) :
  PSt A W (wr.setCell ⟨gb,j,none⟩ (.int .i64 v)) bm bo bl bc m { p with mem:={ p.mem with globals:=p.mem.globals.set j v } } fault value cmp Fm (.slice (some ⟨gb,0,none⟩) gn gc) nv cells Fg Fn lv:=by
 subst hn
 obtain ⟨h1,h2⟩:=h.mem.setG j v h64
 exact h.memM h1 (Xkq (by unfold Uf;simp [h2]))
