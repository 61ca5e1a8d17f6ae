/- A played memory as values: two lists and the log, without boxes. The contract of the reference's copied: a copy of a memory. Contracts of the reference's next. -/
import Derived.Test.YtbmeoklmachjpaaGreatDoorRdb
import Derived.Test.YtbmeoklmachjpaaGreatDoorRa
import Derived.Test.YtbmeoklmachjpaaGreatDoorSam
import Derived.OwnWalk
import Derived.Deep.AppendLies
import Derived.Deep.RegionHeld3
import Derived.Test.YtbmeoklmachjpaaGreatDoorRst
set_option maxHeartbeats 4000000
set_option maxRecDepth 1000000
set_option linter.unusedVariables false
set_option linter.unusedSimpArgs false
namespace Go.Proofs.YtbmeoklmachjpaaGreatDoor
open Go.RowKit
/-- a memory whose lists are the values gv and nv -/
structure MRow (w:World) (m:Mm) (gv nv:Value) (cells:List Value) (Fg Fn:List Nat):Prop where
 glob:Yv w gv m.globals Fg
 row:w.ownsRow 0 107 2 nv m.nodes.length cells
 nodes:Zj w cells m.nodes Fn
 nodup:(Fg++(nv.ownBlock.toList++Fn)).Nodup
theorem MRow.lt {w:World} {m:Mm} {gv nv:Value} {cells:List Value} {Fg Fn:List Nat} (h:MRow w m gv nv cells Fg Fn):∀ b∈Fg++(nv.ownBlock.toList++Fn),b<w.heap.size:=fun b hb=>by
 rw [List.mem_append,List.mem_append] at hb
 rcases hb with hb|hb|hb
 ·exact h.glob.lt b hb
 ·exact Ve h.row b hb
 ·exact h.nodes.lt b hb
theorem MRow.keep {w w':World} {m:Mm} {gv nv:Value} {cells:List Value} {Fg Fn:List Nat} (h:MRow w m gv nv cells Fg Fn) (hk:∀ b∈Fg++(nv.ownBlock.toList++Fn),w'.heap[b]?=w.heap[b]?):MRow w' m gv nv cells Fg Fn:=
 ⟨h.glob.keep (fun b hb=>hk b (by simp [hb])),Qi h.row (fun b hb=>hk b (by simp only [List.mem_append];exact .inr (.inl hb))),h.nodes.keep (fun b hb=>hk b (by simp [hb])),h.nodup⟩
theorem MRow.at_ {w:World} {m:Mm} {gv nv:Value} {cells:List Value} {Fg Fn:List Nat} (h:MRow w m gv nv cells Fg Fn):Qs (w.alloc (.cells #[gv,nv] 52)) w.heap.size m gv nv cells Fg Fn:=by
 have h2:=h.keep (w':=w.alloc (.cells #[gv,nv] 52)) (fun b hb=>Below.heap_alloc _ _ _ (h.lt b hb))
 refine ⟨heap_alloc_new _ _,h2.glob,h2.row,h2.nodes,?_⟩
 rw [List.nodup_cons]
 exact ⟨fun e=>by have:=h.lt _ e;omega,h.nodup⟩
theorem MRow.setG {w:World} {m:Mm} {nv:Value} {cells:List Value} {Fg Fn:List Nat} {gb gc:Nat} (h:MRow w m (.slice (some ⟨gb,0,none⟩) m.globals.length gc) nv cells Fg Fn) (j:Nat) (v:Int) (h64:in64 v) :
  MRow (w.setCell ⟨gb,j,none⟩ (.int .i64 v)) { m with globals:=m.globals.set j v } (.slice (some ⟨gb,0,none⟩) m.globals.length gc) nv cells Fg Fn∧gb∈Fg:=by
 have hgb:gb∈Fg:=by rw [h.glob.2.1];simp [Value.ownBlock]
 have hnd:=h.nodup
 rw [List.nodup_append] at hnd
 have ho:∀ b,b≠gb→(w.setCell ⟨gb,j,none⟩ (.int .i64 v)).heap[b]?=w.heap[b]?:=fun b hb=>heap_setCell_other _ _ _ _ hb
 exact ⟨⟨h.glob.set j v h64,Qi h.row (fun b hb=>ho b (fun e=>hnd.2.2 gb hgb b (by simp only [List.mem_append];exact .inl hb) e.symm)),h.nodes.keep (fun b hb=>ho b (fun e=>hnd.2.2 gb hgb b (by simp [hb]) e.symm)),h.nodup⟩,hgb⟩
theorem MRow.setN {w:World} {m:Mm} {gv nv:Value} {cells:List Value} {Fg Fn:List Nat} (h:MRow w m gv nv cells Fg Fn) {i:Nat} {x:Nod} (hx:m.nodes[i]?=some x) :
  ∃ lv Fl,cells[i*2+1]?=some lv∧Yv w lv x.f Fl∧(∀ b∈Fl,b∈Fn)∧∀ lb cap (j:Nat) (v:Int),lv=.slice (some ⟨lb,0,none⟩) x.f.length cap→lb∈Fl→in64 v→MRow (w.setCell ⟨lb,j,none⟩ (.int .i64 v)) { m with nodes:=m.nodes.modify i (fun x=>Xem x j v) } gv nv cells Fg Fn:=by
 have hnd:=h.nodup
 rw [List.nodup_append,List.nodup_append] at hnd
 obtain ⟨lv,Fl,k1,k2,k3,k4⟩:=h.nodes.at_ hnd.2.1.2.1 hx
 refine ⟨lv,Fl,k1,k2,k3,fun lb cap j v hlv hlb h64=>?_⟩
 have hlb2:=k3 lb hlb
 have ho:∀ b,b≠lb→(w.setCell ⟨lb,j,none⟩ (.int .i64 v)).heap[b]?=w.heap[b]?:=fun b hb=>heap_setCell_other _ _ _ _ hb
 refine ⟨h.glob.keep (fun b hb=>ho b (fun e=>hnd.2.2 b hb lb (by simp [hlb2]) e)),?_,k4 lb cap j v hlv hlb h64,h.nodup⟩
 have:=Qi (w':=w.setCell ⟨lb,j,none⟩ (.int .i64 v)) h.row (fun b hb=>ho b (fun e=>hnd.2.1.2.2 b hb lb hlb2 e))
 simpa using this
theorem MRow.addN {wr w4 w5:World} {m:Mm} {gv nv:Value} {cells:List Value} {Fg Fn Fl:List Nat} {x:Nod} {lv:Value} {g cap:Nat} (h:MRow wr m gv nv cells Fg Fn) (hb:Below wr.heap.size wr w4) (hO:Yv w4 lv x.f Fl) (hFl:∀ b∈Fl,wr.heap.size≤b) (hF1:Fl.length≤1) (h64:in64 x.type)
  (ho:w5.ownsRow 0 107 2 (.slice (some ⟨g,0,none⟩) (m.nodes.length+1) cap) (m.nodes.length+1) (cells++[.int .i64 x.type,lv])) (hg:w4.grownBy w5 nv.ownBlock) (hlies:nv.ownBlock=some g∨g=w4.heap.size) :
  MRow w5 { m with nodes:=m.nodes++[x] } gv (.slice (some ⟨g,0,none⟩) (m.nodes.length+1) cap) (cells++[.int .i64 x.type,lv]) Fg (Fn++Fl)∧
   Xp (Fg++(nv.ownBlock.toList++Fn)) (Fg++([g]++(Fn++Fl))) wr w5:=by
 have hlt:=h.lt
 have hnd:=h.nodup
 have hsz:=hb.size
 have hsz5:=hg.size
 rw [List.nodup_append,List.nodup_append] at hnd
 obtain ⟨hFg,⟨hnv,hFn,hd2⟩,hd1⟩:=hnd
 have hgn:∀ b,b<wr.heap.size→b∉nv.ownBlock.toList→b≠g:=fun b hb1 hb2 e=>by
  rcases hlies with h1|h1
  ·exact hb2 (by rw [h1,e];simp)
  ·omega
 have ho5:∀ b,b<wr.heap.size→b∉nv.ownBlock.toList→w5.heap[b]?=wr.heap[b]?:=fun b hb1 hb2=>by
  rw [hg.block b (by omega) (fun e=>hb2 (by rw [←e];simp)),hb.block b hb1]
 have hFgn:∀ b∈Fg,b∉nv.ownBlock.toList:=fun b hb1 hb2=>hd1 b hb1 b (by simp only [List.mem_append];exact .inl hb2) rfl
 have hFnn:∀ b∈Fn,b∉nv.ownBlock.toList:=fun b hb1 hb2=>hd2 b hb2 b hb1 rfl
 have hFgl:∀ b∈Fg,b<wr.heap.size:=fun b hb1=>hlt b (by simp [hb1])
 have hFnl:∀ b∈Fn,b<wr.heap.size:=fun b hb1=>hlt b (by simp [hb1])
 have hFll:∀ b∈Fl,b<w4.heap.size:=hO.lt
 have hnvl:∀ b∈nv.ownBlock.toList,b<wr.heap.size:=Ve h.row
 have hFlg:∀ b∈Fl,b≠g:=fun b hb1 e=>by
  have h1:=hFl b hb1
  have h2:=hFll b hb1
  rcases hlies with h3|h3
  ·have:=hnvl g (by rw [h3];simp);omega
  ·omega
 have hkF:∀ b∈Fg,w5.heap[b]?=wr.heap[b]?:=fun b hb1=>ho5 b (hFgl b hb1) (hFgn b hb1)
 have hkN:∀ b∈Fn,w5.heap[b]?=wr.heap[b]?:=fun b hb1=>ho5 b (hFnl b hb1) (hFnn b hb1)
 have hkL:∀ b∈Fl,w5.heap[b]?=w4.heap[b]?:=fun b hb1=>by
  have h1:=hFl b hb1
  rw [hg.block b (hFll b hb1) (fun e=>by have:=hnvl b (by rw [←e];simp);omega)]
 refine ⟨⟨h.glob.keep hkF,?_,(h.nodes.keep hkN).add (hO.keep hkL) h64,?_⟩,⟨hg.os.trans hb.os,hg.tape.trans hb.tape,hg.output.trans hb.output,by omega,fun k hk hF=>?_,fun b hb1=>?_⟩⟩
 ·have e:({ m with nodes:=m.nodes++[x] }:Mm).nodes.length=m.nodes.length+1:=by simp
  rw [e]
  exact ho
 ·have one:Fl.Nodup:=by
   match Fl,hF1 with
   | [],_=>simp
   | [a],_=>simp
  have eo:(Value.slice (some ⟨g,0,none⟩) (m.nodes.length+1) cap).ownBlock.toList=[g]:=rfl
  rw [eo,List.nodup_append,List.nodup_append,List.nodup_append]
  refine ⟨hFg,⟨by simp,⟨hFn,one,fun a ha b hb1 e=>by have:=hFnl a ha;have:=hFl b hb1;omega⟩,fun a ha b hb1 e=>?_⟩,fun a ha b hb1 e=>?_⟩
  ·simp only [List.mem_singleton] at ha
   subst ha
   rw [List.mem_append] at hb1
   rcases hb1 with hb1|hb1
   ·exact hgn b (hFnl b hb1) (hFnn b hb1) e.symm
   ·exact hFlg b hb1 e.symm
  ·simp only [List.mem_append,List.mem_singleton] at hb1
   rcases hb1 with hb1|hb1|hb1
   ·exact hgn a (hFgl a ha) (hFgn a ha) (e.trans hb1)
   ·exact hd1 a ha b (by simp [hb1]) e
   ·have:=hFgl a ha;have:=hFl b hb1;omega
 ·simp only [List.mem_append,not_or] at hF
  exact ho5 k hk hF.2.1
 ·simp only [List.mem_append,List.mem_singleton] at hb1 ⊢
  rcases hb1 with hb1|hb1|hb1|hb1
  ·left;left;exact hb1
  ·rcases hlies with h3|h3
   ·left;right;left;rw [h3,hb1];simp
   ·right;omega
  ·left;right;right;exact hb1
  ·right;exact hFl b hb1
theorem codv_fieldAt {B:Nat} {w:World} {fa:Option Addr} {fc i:Nat} {k:Int} {g gv:Value} {c:Cod} (h:Yj B w (.agg #[.slice fa c.fields.length fc,g,gv]) c) (hi:c.fields[i]?=some k):∃ fb fo,fa=some ⟨fb,fo,none⟩∧fb<B∧w.cell? ⟨fb,fo+i,none⟩=some (.int .i64 k):=by
 obtain ⟨a,b,h1,h3,h2,_⟩:=h
 simp only [Value.agg.injEq,Array.mk.injEq,List.cons.injEq,and_true] at h1
 rw [←h1.1] at h3
 obtain ⟨a0,cap0,he0,_,_,_,hE⟩:=h3
 obtain ⟨rfl,rfl⟩:fa=a0∧fc=cap0:=by simpa using he0
 rcases hE with h0|⟨nb,no,rfl,hb,hE⟩
 ·rw [h0] at hi;simp at hi
 ·have:=(hE i k hi).1
  rw [Nat.mul_one] at this
  exact ⟨nb,no,rfl,hb,this⟩
theorem ownI_zero2 {w:World} {k:Nat} (hk:k≤1048576):Yv (w.alloc (.cells (Xx (List.replicate k 0)) 3)) (.slice (some ⟨w.heap.size,0,none⟩) k k) (List.replicate k 0) [w.heap.size]:=by
 refine ⟨⟨by simp,.inr ⟨w.heap.size,k,_,by simp,Nat.zero_le _,heap_alloc_new w _,by simp,by unfold maxLen;omega,by simp [Xx],by simp [Xx]⟩⟩,by simp [Value.ownBlock],fun n hn=>?_⟩
 rw [List.mem_replicate] at hn
 rw [hn.2];unfold in64;omega
/-- a played memory: its lists and its log -/
structure PlV (w:World) (p:Ply) (gv nv lv:Value) (cells:List Value) (Fg Fn:List Nat):Prop where
 mem:MRow w p.mem gv nv cells Fg Fn
 log:w.ownsRow 0 70 3 lv p.log.length (Zf p.log)
 dj:Dj (Fg++(nv.ownBlock.toList++Fn)) lv.ownBlock.toList
def plF (nv lv:Value) (Fg Fn:List Nat):List Nat:=(Fg++(nv.ownBlock.toList++Fn))++lv.ownBlock.toList
theorem PlV.lt {w:World} {p:Ply} {gv nv lv:Value} {cells:List Value} {Fg Fn:List Nat} (h:PlV w p gv nv lv cells Fg Fn):∀ b∈plF nv lv Fg Fn,b<w.heap.size:=fun b hb=>by
 unfold plF at hb
 rw [List.mem_append] at hb
 rcases hb with hb|hb
 ·exact h.mem.lt b hb
 ·exact Ve h.log b hb
theorem PlV.keep {w w':World} {p:Ply} {gv nv lv:Value} {cells:List Value} {Fg Fn:List Nat} (h:PlV w p gv nv lv cells Fg Fn) (hk:∀ b∈plF nv lv Fg Fn,w'.heap[b]?=w.heap[b]?):PlV w' p gv nv lv cells Fg Fn:=
 ⟨h.mem.keep (fun b hb=>hk b (by unfold plF;rw [List.mem_append];exact .inl hb)),Qi h.log (fun b hb=>hk b (by unfold plF;rw [List.mem_append];exact .inr hb)),h.dj⟩
/-- another memory -/
theorem PlV.memM {w w':World} {p:Ply} {gv nv lv gv' nv':Value} {cells cells':List Value} {Fg Fn Fg' Fn':List Nat} {mm:Mm} (h:PlV w p gv nv lv cells Fg Fn) (hm:MRow w' mm gv' nv' cells' Fg' Fn') (hM:Xp (Fg++(nv.ownBlock.toList++Fn)) (Fg'++(nv'.ownBlock.toList++Fn')) w w'):PlV w' { p with mem:=mm } gv' nv' lv cells' Fg' Fn'∧Xp (plF nv lv Fg Fn) (plF nv' lv Fg' Fn') w w':=by
 have hl:=Ve h.log
 refine ⟨⟨hm,Qi h.log (fun b hb=>h.dj.keep hM hl b hb),h.dj.mods hM hl⟩,?_⟩
 unfold plF
 exact hM.wide (fun b hb=>by rw [List.mem_append];exact .inl hb) (fun b hb=>by
  rw [List.mem_append] at hb
  rcases hb with hb|hb
  ·exact .inl hb
  ·right;rw [List.mem_append];exact .inr hb)
/-- another log -/
theorem PlV.logM {w w':World} {p:Ply} {gv nv lv lv':Value} {cells:List Value} {Fg Fn:List Nat} {l:List Acc} {k:Int} (h:PlV w p gv nv lv cells Fg Fn) (hl:w'.ownsRow 0 70 3 lv' l.length (Zf l)) (hM:Xp lv.ownBlock.toList lv'.ownBlock.toList w w'):PlV w' ⟨p.mem,l,k⟩ gv nv lv' cells Fg Fn∧Xp (plF nv lv Fg Fn) (plF nv lv' Fg Fn) w w':=by
 have hml:=h.mem.lt
 refine ⟨⟨h.mem.keep (fun b hb=>h.dj.symm.keep hM hml b hb),hl,(h.dj.symm.mods hM hml).symm⟩,?_⟩
 unfold plF
 exact hM.wide (fun b hb=>by rw [List.mem_append];exact .inr hb) (fun b hb=>by
  rw [List.mem_append] at hb
  rcases hb with hb|hb
  ·right;rw [List.mem_append];exact .inl hb
  ·exact .inl hb)
/-- what is played, as a row of cells: its outcome, its memory, its accesses -/
def plC (f v k d:Int) (gv nv lv:Value):Array Value:=#[.int .i64 f,.int .i64 v,.int .i64 k,.int .i64 d,.int .i64 0,gv,nv,lv]
def plV (f v k d:Int) (gv nv lv:Value):Value:=.agg (plC f v k d gv nv lv)
def plPut (W:World) (R:Nat) (f v k d:Int) (gv nv lv:Value):World:=(((((((W.setCell ⟨R,0,none⟩ (.int .i64 f)).setCell ⟨R,1,none⟩ (.int .i64 v)).setCell ⟨R,2,none⟩ (.int .i64 k)).setCell ⟨R,3,none⟩ (.int .i64 d)).setCell ⟨R,4,none⟩ (.int .i64 0)).setCell ⟨R,5,none⟩ gv).setCell ⟨R,6,none⟩ nv).setCell ⟨R,7,none⟩ lv
theorem plC_put (f0 v0 k0 d0:Int) (g0 n0 l0:Value) (f v k d:Int) (gv nv lv:Value):((((((((plC f0 v0 k0 d0 g0 n0 l0).setIfInBounds 0 (.int .i64 f)).setIfInBounds 1 (.int .i64 v)).setIfInBounds 2 (.int .i64 k)).setIfInBounds 3 (.int .i64 d)).setIfInBounds 4 (.int .i64 0)).setIfInBounds 5 gv).setIfInBounds 6 nv).setIfInBounds 7 lv=plC f v k d gv nv lv:=by kernel_rfl
theorem plPut_facts {W:World} {R:Nat} {f0 v0 k0 d0:Int} {g0 n0 l0:Value} (h:W.heap[R]?=some (.cells (plC f0 v0 k0 d0 g0 n0 l0) 66 (0,0))) (f v k d:Int) (gv nv lv:Value) :
  (plPut W R f v k d gv nv lv).heap[R]?=some (.cells (plC f v k d gv nv lv) 66 (0,0))∧Xp [R] [R] W (plPut W R f v k d gv nv lv):=by
 unfold plPut
 have h0:=heap_setCell_same _ R 0 _ _ (.int .i64 f) h
 have h1:=heap_setCell_same _ R 1 _ _ (.int .i64 v) h0
 have h2:=heap_setCell_same _ R 2 _ _ (.int .i64 k) h1
 have h3:=heap_setCell_same _ R 3 _ _ (.int .i64 d) h2
 have h4:=heap_setCell_same _ R 4 _ _ (.int .i64 0) h3
 have h5:=heap_setCell_same _ R 5 _ _ gv h4
 have h6:=heap_setCell_same _ R 6 _ _ nv h5
 have h7:=heap_setCell_same _ R 7 _ _ lv h6
 rw [plC_put] at h7
 exact ⟨h7,((((((Xw.trans Xw).trans Xw).trans Xw).trans Xw).trans Xw).trans Xw).trans Xw⟩
theorem pl_cells {W:World} {R:Nat} {f v k d:Int} {gv nv lv:Value} (h:W.heap[R]?=some (.cells (plC f v k d gv nv lv) 66 (0,0))) (j:Nat) (x:Value) (hx:(plC f v k d gv nv lv)[j]?=some x):W.cell? ⟨R,j,none⟩=some x:=by
 rw [cell_of_row _ _ _ _ _ _ h];exact hx
theorem pl8 {W:World} {R:Nat} {f v k d:Int} {gv nv lv:Value} (h:W.heap[R]?=some (.cells (plC f v k d gv nv lv) 66 (0,0))) :
  W.cell? ⟨R,0,none⟩=some (.int .i64 f)∧W.cell? ⟨R,1,none⟩=some (.int .i64 v)∧W.cell? ⟨R,2,none⟩=some (.int .i64 k)∧W.cell? ⟨R,3,none⟩=some (.int .i64 d)∧W.cell? ⟨R,4,none⟩=some (.int .i64 0)∧W.cell? ⟨R,5,none⟩=some gv∧W.cell? ⟨R,6,none⟩=some nv∧W.cell? ⟨R,7,none⟩=some lv:=
 ⟨pl_cells h 0 _ rfl,pl_cells h 1 _ rfl,pl_cells h 2 _ rfl,pl_cells h 3 _ rfl,pl_cells h 4 _ rfl,pl_cells h 5 _ rfl,pl_cells h 6 _ rfl,pl_cells h 7 _ rfl⟩
theorem mods8 {F F':List Nat} {W W':World} (h:Xp F F' W W') {b:Nat} (hb:b∉F) {v0 v1 v2 v3 v4 v5 v6 v7:Value} (h0:W.cell? ⟨b,0,none⟩=some v0) (h1:W.cell? ⟨b,1,none⟩=some v1) (h2:W.cell? ⟨b,2,none⟩=some v2) (h3:W.cell? ⟨b,3,none⟩=some v3) (h4:W.cell? ⟨b,4,none⟩=some v4) (h5:W.cell? ⟨b,5,none⟩=some v5) (h6:W.cell? ⟨b,6,none⟩=some v6) (h7:W.cell? ⟨b,7,none⟩=some v7) :
  W'.cell? ⟨b,0,none⟩=some v0∧W'.cell? ⟨b,1,none⟩=some v1∧W'.cell? ⟨b,2,none⟩=some v2∧W'.cell? ⟨b,3,none⟩=some v3∧W'.cell? ⟨b,4,none⟩=some v4∧W'.cell? ⟨b,5,none⟩=some v5∧W'.cell? ⟨b,6,none⟩=some v6∧W'.cell? ⟨b,7,none⟩=some v7:=
 ⟨h.cell h0 hb,h.cell h1 hb,h.cell h2 hb,h.cell h3 hb,h.cell h4 hb,h.cell h5 hb,h.cell h6 hb,h.cell h7 hb⟩
theorem load_pl {W:World} {R:Nat} {f v k d:Int} {gv nv lv:Value} (h:W.heap[R]?=some (.cells (plC f v k d gv nv lv) 66 (0,0))):(loadVar 66 ⟨R,0,none⟩).run Tryz.prog W=.ok (plV f v k d gv nv lv) W:=by
 obtain ⟨c0,c1,c2,c3,c4,c5,c6,c7⟩:=pl8 h
 simp [go_sem,plV,plC,c0,c1,c2,c3,c4,c5,c6,c7]
theorem results_pl1 {fn:Func} {p:Tmp} (hf:fn.results=#[.cell p 66]) {W:World} {R:Nat} {f v k d:Int} {gv nv lv:Value} (h:W.heap[R]?=some (.cells (plC f v k d gv nv lv) 66 (0,0))) (tmps:Array Value) (h1:tmps.getD p undef=.pointer (some ⟨R,0,none⟩)) :
  (results fn tmps).run Tryz.prog W=.ok (plV f v k d gv nv lv) W:=by
 simp only [results,hf]
 rw [Array.getD_eq_getD_getElem?] at h1
 simp [h1,asAddr,load_pl h,Result.andThen,Sem.run_bind]
def NotedPost (w:World) (l:List Acc) (f v k d:Int) (gv nv lv:Value) (a:Acc) (e:Ending) (w':World):Prop:=
 ∃ g cap,e=.returned (plV f v k (d+(if 0<a.node then 1 else 0)) gv nv (.slice (some ⟨g,0,none⟩) (l.length+1) cap))∧w'.ownsRow 0 70 3 (.slice (some ⟨g,0,none⟩) (l.length+1) cap) (l.length+1) (Zf (l++[a]))∧Xp lv.ownBlock.toList [g] w w'
theorem noted_end {w W6:World} {l:List Acc} {f v k d d':Int} {gv nv lv:Value} {kind node field:Int} {R g cap:Nat} (r1:W6.heap[R]?=some (.cells (plC 0 0 0 0 (.slice none 0 0) (.slice none 0 0) (.slice none 0 0)) 66 (0,0)))
  (ho:W6.ownsRow 0 70 3 (.slice (some ⟨g,0,none⟩) (l.length+1) cap) (l.length+1) (Zf l++[.int .i64 kind,.int .i64 node,.int .i64 field])) (hM:Xp lv.ownBlock.toList [g] w W6) (hR:w.heap.size≤R) (hg:g≠R) (hd:d'=d+(if 0<node then 1 else 0)) :
  (plPut W6 R f v k d' gv nv (.slice (some ⟨g,0,none⟩) (l.length+1) cap)).heap[R]?=some (.cells (plC f v k d' gv nv (.slice (some ⟨g,0,none⟩) (l.length+1) cap)) 66 (0,0))∧
  NotedPost w l f v k d gv nv lv ⟨kind,node,field⟩ (.returned (plV f v k d' gv nv (.slice (some ⟨g,0,none⟩) (l.length+1) cap))) (plPut W6 R f v k d' gv nv (.slice (some ⟨g,0,none⟩) (l.length+1) cap)):=by
 obtain ⟨p1,p2⟩:=plPut_facts r1 f v k d' gv nv (.slice (some ⟨g,0,none⟩) (l.length+1) cap)
 refine ⟨p1,g,cap,by rw [hd],?_,p2.os.trans hM.os,p2.tape.trans hM.tape,p2.output.trans hM.output,Nat.le_trans hM.size p2.size,fun j hj hF=>?_,hM.new⟩
 ·rw [Xgd]
  have hlt:=Ve ho
  exact Qi ho (fun b hb=>p2.block b (hlt b hb) (fun e=>hg (by simp [Value.ownBlock] at hb e;omega)))
 ·rw [p2.block j (Nat.lt_of_lt_of_le hj hM.size) (by simp;omega),hM.block j hj hF]
theorem rnoted_any {w:World} {l:List Acc} (f v k d:Int) (ga na la:Option Addr) (gn gc nn nc ln lc:Nat) (kind node field:Int) (hln:ln=l.length) (hL:w.ownsRow 0 70 3 (.slice la ln lc) l.length (Zf l)) (hl:l.length≤1000000000000) (hn:0≤d∧d≤4611686018427387904) :
  Calls Tryz.prog 88 #[plV f v k d (.slice ga gn gc) (.slice na nn nc) (.slice la ln lc),.int .i64 kind,.int .i64 node,.int .i64 field] w (NotedPost w l f v k d (.slice ga gn gc) (.slice na nn nc) (.slice la ln lc) ⟨kind,node,field⟩):=by
 subst hln
 obtain ⟨ti,hti,hz0,hz1,hz2⟩:=info_parts Xgo
 have hlt:=Ve hL
 obtain ⟨W2,hW2⟩:∃ W,W=(w.alloc (.cells (plC f v k d (.slice ga gn gc) (.slice na nn nc) (.slice la l.length lc)) 66)).alloc (.cells (plC 0 0 0 0 (.slice none 0 0) (.slice none 0 0) (.slice none 0 0)) 66):=⟨_,rfl⟩
 have hb2:Below w.heap.size w W2:=by rw [hW2];exact (Xa _ _).then (Xa _ _)
 have hs2:W2.heap.size=w.heap.size+2:=by rw [hW2];simp
 have b0:W2.heap[w.heap.size]?=some (.cells (plC f v k d (.slice ga gn gc) (.slice na nn nc) (.slice la l.length lc)) 66 (0,0)):=by
  rw [hW2,Below.heap_alloc _ _ _ (by simp)]
  exact heap_alloc_new _ _
 have b1:W2.heap[w.heap.size+1]?=some (.cells (plC 0 0 0 0 (.slice none 0 0) (.slice none 0 0) (.slice none 0 0)) 66 (0,0)):=by
  rw [hW2]
  have:=heap_alloc_new (w.alloc (.cells (plC f v k d (.slice ga gn gc) (.slice na nn nc) (.slice la l.length lc)) 66)) (.cells (plC 0 0 0 0 (.slice none 0 0) (.slice none 0 0) (.slice none 0 0)) 66)
  simpa using this
 obtain ⟨W3,hW3⟩:∃ W,W=W2.alloc (.cells #[.int .i64 kind,.int .i64 node,.int .i64 field] 70):=⟨_,rfl⟩
 have hb23:Below W2.heap.size W2 W3:=by rw [hW3];exact Xa _ _
 have hb3:Below w.heap.size w W3:=hb2.then hb23
 have hs3:W3.heap.size=w.heap.size+3:=by rw [hW3];simp;omega
 have c0:W3.heap[w.heap.size]?=_:=(hb23.block _ (by omega)).trans b0
 have c1:W3.heap[w.heap.size+1]?=_:=(hb23.block _ (by omega)).trans b1
 have hown:Hid (W3.ownsRow 0 70 3 (.slice la l.length lc) l.length (Zf l)):=Lh (Qi hL (fun b hb=>hb3.block b (hlt b hb)))
 have hnews:Hid (∀ j u,([.int .i64 kind,.int .i64 node,.int .i64 field]:List Value)[j]?=some u→W3.cell? ((⟨W2.heap.size,0,none⟩:Addr).add j)=some u):=Lh (by rw [hW3];exact Xft W2 _ _)
 have STEP:Hid (∀ g cap w2,w2.ownsRow 0 70 3 (.slice (some ⟨g,0,none⟩) (l.length+1) cap) (l.length+1) (Zf l++[.int .i64 kind,.int .i64 node,.int .i64 field])→W3.grownBy w2 (Value.slice la l.length lc).ownBlock→((Value.slice la l.length lc).ownBlock=some g∨g=W3.heap.size)→
   g≠w.heap.size∧g≠w.heap.size+1∧w2.heap[w.heap.size]?=some (.cells (plC f v k d (.slice ga gn gc) (.slice na nn nc) (.slice la l.length lc)) 66 (0,0))∧w2.heap[w.heap.size+1]?=some (.cells (plC 0 0 0 0 (.slice none 0 0) (.slice none 0 0) (.slice none 0 0)) 66 (0,0))∧Xp (Value.slice la l.length lc).ownBlock.toList [g] w w2):=Lh (fun g cap w2 ho hg hlies=>by
  have hne:∀ b,w.heap.size≤b→(Value.slice la l.length lc).ownBlock≠some b:=fun b hb e=>by have:=hlt b (by rw [e];simp);omega
  have hgb:g≠w.heap.size∧g≠w.heap.size+1:=by
   rcases hlies with h|h
   ·exact ⟨fun e=>hne _ (Nat.le_refl _) (by rw [h,e]),fun e=>hne _ (Nat.le_succ _) (by rw [h,e])⟩
   ·omega
  refine ⟨hgb.1,hgb.2,(hg.block _ (by omega) (fun e=>hne _ (Nat.le_refl _) e.symm)).trans c0,(hg.block _ (by omega) (fun e=>hne _ (Nat.le_succ _) e.symm)).trans c1,hg.os.trans hb3.os,hg.tape.trans hb3.tape,hg.output.trans hb3.output,Nat.le_trans hb3.size hg.size,fun j hj hF=>?_,fun b hb=>?_⟩
  ·rw [hg.block j (by omega) (fun e=>hF (by rw [←e];simp)),hb3.block j hj]
  ·rw [List.mem_singleton] at hb
   subst hb
   rcases hlies with h|h
   ·left;rw [h];simp
   ·right;omega)
 obtain ⟨i0,i1,i2,i3,i4,i5,i6,i7⟩:=pl8 c0
 have z0:=(La c0)
 obtain ⟨x0,x1,x2,x3,x4,x5,x6,x7⟩:=pl8 b0
 have z2:=(La b0)
 have HW3:=Lh hW3
 have HS3:=Lh hs3
 clear hb2 hs2 b0 b1 hb23 hb3 c0 c1 hL hlt hW3 hs3
 unfold plV
 unfold plC at hW2 ⊢
 go_enter Tryz.func88,Tryz.ntmps88
 go_upto_region 1 with fail
 rw [←hW2]
 have HW2:=Lh hW2
 clear hW2 i0 i1 i2 i3 i4 i5 i6 i7 z0
 go_upto_region 2 with ((with_reducible refine wpList_append_lies _ rfl (.tmp 10) (.tmp 15) 60 rfl 0 70 ti (.agg #[.int .i64 0,.int .i64 0,.int .i64 0]) 3 24 Tryz.underlying60 hti hz0 hz1 hz2 rfl (by decide) (.slice la l.length lc) l.length (Zf l) rfl (by rw [←HW3.out];exact hown.out) ⟨W2.heap.size,0,none⟩ 1 1 [.int .i64 kind,.int .i64 node,.int .i64 field] rfl rfl (by rw [←HW3.out];exact hnews.out) (by simp [Value.oneCell']) (by omega) (by unfold maxLen;omega) (by omega) (Nat.zero_le _) W3.heap.size (by rw [HW3.out]) ?_;intro g cap w4 ho hg hlies hglt;rw [←HW3.out] at hg;obtain ⟨s1,s2,s3,s4,s5⟩:=STEP.out g cap w4 ho hg hlies;have S3:=Lh s3;have S4:=Lh s4;have S5:=Lh s5;have HO:=Lh ho;have t7:=pl_cells s3 7 (.slice la l.length lc) rfl;have tf:w4.frozen? ⟨w.heap.size,7,none⟩=false:=Fz s3;have zb4:=Bl t7;clear ho hg hlies s3 s4 s5))
 obtain ⟨W5,hW5⟩:∃ V,V=w4.setCell ⟨w.heap.size,7,none⟩ (.slice (some ⟨g,0,none⟩) (l.length+1) cap):=⟨_,rfl⟩
 have r0:W5.heap[w.heap.size]?=some (.cells (plC f v k d (.slice ga gn gc) (.slice na nn nc) (.slice (some ⟨g,0,none⟩) (l.length+1) cap)) 66 (0,0)):=by rw [hW5];exact heap_setCell_same _ _ 7 _ _ _ S3.out
 have hm5:Xp [w.heap.size] [w.heap.size] w4 W5:=by rw [hW5];exact Xw
 have r1:W5.heap[w.heap.size+1]?=_:=(hm5.block _ (La S4.out) (by simp)).trans S4.out
 have ho5:W5.ownsRow 0 70 3 (.slice (some ⟨g,0,none⟩) (l.length+1) cap) (l.length+1) (Zf l++[.int .i64 kind,.int .i64 node,.int .i64 field]):=Qi HO.out (fun b hb=>hm5.block b (Ve HO.out b hb) (fun e=>s1 (by simp [Value.ownBlock] at hb e;omega)))
 have hmw:Xp (Value.slice la l.length lc).ownBlock.toList [g] w W5:=⟨hm5.os.trans S5.out.os,hm5.tape.trans S5.out.tape,hm5.output.trans S5.out.output,Nat.le_trans S5.out.size hm5.size,fun j hj hF=>by rw [hm5.block j (Nat.lt_of_lt_of_le hj S5.out.size) (by simp;omega),S5.out.block j hj hF],S5.out.new⟩
 rw [←hW5]
 obtain ⟨i0,i1,i2,i3,i4,i5,i6,i7⟩:=pl8 r0
 have i3f:W5.frozen? ⟨w.heap.size,3,none⟩=false:=Fz r0
 have z0:=(La r0)
 have HR0:=Lh r0
 have HR1:=Lh r1
 have HO5:=Lh ho5
 have HMW:=Lh hmw
 clear hW5 r0 r1 hm5 ho5 hmw t7 tf zb4 x0 x1 x2 x3 x4 x5 x6 x7 z2
 by_cases hnode:0<node
 ·have dn:decide (0<node)=true:=by simp [hnode]
  go_upto_region 4 with fail
  obtain ⟨W6,hW6⟩:∃ V,V=W5.setCell ⟨w.heap.size,3,none⟩ (.int .i64 (d+1)):=⟨_,rfl⟩
  have hm6:Xp [w.heap.size] [w.heap.size] W5 W6:=by rw [hW6];exact Xw
  have r0:W6.heap[w.heap.size]?=some (.cells (plC f v k (d+1) (.slice ga gn gc) (.slice na nn nc) (.slice (some ⟨g,0,none⟩) (l.length+1) cap)) 66 (0,0)):=by rw [hW6];exact heap_setCell_same _ _ 3 _ _ _ HR0.out
  have r1:W6.heap[w.heap.size+1]?=_:=(hm6.block _ (La HR1.out) (by simp)).trans HR1.out
  have hmw:Xp (Value.slice la l.length lc).ownBlock.toList [g] w W6:=⟨hm6.os.trans HMW.out.os,hm6.tape.trans HMW.out.tape,hm6.output.trans HMW.out.output,Nat.le_trans HMW.out.size hm6.size,fun j hj hF=>by rw [hm6.block j (Nat.lt_of_lt_of_le hj HMW.out.size) (by simp;omega),HMW.out.block j hj hF],HMW.out.new⟩
  have hend:=noted_end (R:=w.heap.size+1) (f:=f) (v:=v) (k:=k) (d:=d) (d':=d+1) (gv:=.slice ga gn gc) (nv:=.slice na nn nc) r1 (Qi HO5.out (fun b hb=>hm6.block b (Ve HO5.out b hb) (fun e=>s1 (by simp [Value.ownBlock] at hb e;omega)))) hmw (by omega) s2 (by rw [if_pos hnode])
  rw [←hW6]
  clear i0 i1 i2 i3 i4 i5 i6 i7 i3f z0
  obtain ⟨i0,i1,i2,i3,i4,i5,i6,i7⟩:=pl8 r0
  have z0:=(La r0)
  obtain ⟨q0,q1,q2,q3,q4,q5,q6,q7,q8⟩:=Xu r1
  obtain ⟨y0,y1,y2,y3,y4,y5,y6,y7⟩:=pl8 r1
  have z1:=(La r1)
  have HE:=Lh hend
  clear hend hW6 r0 r1 hm6 hmw
  go_wp2_with fail
  exact bodyPost_ret (v:=plV f v k (d+1) (.slice ga gn gc) (.slice na nn nc) (.slice (some ⟨g,0,none⟩) (l.length+1) cap)) (results_pl1 (p:=8) rfl HE.out.1 _ rfl) rfl HE.out.2
 ·have dn:decide (0<node)=false:=by simp;omega
  have hend:=noted_end (R:=w.heap.size+1) (f:=f) (v:=v) (k:=k) (d:=d) (d':=d) (gv:=.slice ga gn gc) (nv:=.slice na nn nc) HR1.out HO5.out HMW.out (by omega) s2 (by rw [if_neg hnode];omega)
  obtain ⟨q0,q1,q2,q3,q4,q5,q6,q7,q8⟩:=Xu HR1.out
  obtain ⟨y0,y1,y2,y3,y4,y5,y6,y7⟩:=pl8 HR1.out
  have z1:=(La HR1.out)
  have HE:=Lh hend
  clear hend
  go_wp2_with fail
  exact bodyPost_ret (v:=plV f v k d (.slice ga gn gc) (.slice na nn nc) (.slice (some ⟨g,0,none⟩) (l.length+1) cap)) (results_pl1 (p:=8) rfl HE.out.1 _ rfl) rfl HE.out.2
def PlayedPost (c:Cod) (m:Mm) (x:Cal) (fuel:Int) (w:World) (e:Ending) (w':World):Prop:=
 ∃ m1 o p ga na la gn gc nn nc ln lc,Zm c (Zo c x fuel) m1∧Zx c m1 ⟨m,[],0⟩ o p∧e=.returned (plV o.fault o.value o.compares o.nodes (.slice ga gn gc) (.slice na nn nc) (.slice la ln lc))∧MmV w'.heap.size w' (.agg #[.slice ga gn gc,.slice na nn nc]) p.mem∧Xf w'.heap.size w' 3 Xf4 (.slice la ln lc) p.log∧Below w.heap.size w w'
/-- what the reference's Run comes to -/
def RRunAny:Prop:=∀ (c:Cod) (m:Mm) (x:Cal) (fuel:Int) (cv mv xv:Value) (B:Nat) (w:World),Xv c→Zb c→B≤w.heap.size→Yj B w cv c→MmV B w mv m→J8 B w xv x→Q7 c m=true→Yd c x fuel=0→Calls Tryz.prog 27 #[cv,mv,xv,.int .i64 fuel] w (PlayedPost c m x fuel w)
/-- a request of the globals names one of them -/
theorem Qr.gfield {c:Cod} (hs:Xv c) {m:Mch} {r:Rq} {fs:List Fra} {f:Fra} (h:Qr c m r fs f):r.node=0→¬r.kind=3→r.field<c.globals:=by
 obtain ⟨y,x,_,hb,_,hx,ha,_⟩:=h.top
 have lim:=fun {n:Int} hn=>hs.lim (n:=n) hb.fn hx hn
 intro h0 h3
 rcases ha with ⟨ho,rfl⟩|⟨v,ho,hv,rfl⟩|⟨n,ho,h1,h2,rfl⟩|⟨n,v,ho,h1,h2,hv,rfl⟩|⟨ho,rfl⟩
 ·exact (lim (n:=c.globals) (by rw [ho];rfl)).2
 ·exact (lim (n:=c.globals) (by rw [ho];rfl)).2
 ·exact absurd h0 (by show ¬n=0;omega)
 ·exact absurd h0 (by show ¬n=0;omega)
 ·exact absurd rfl h3
def AnsPost (c:Cod) (p:Ply) (r:Rq) (f v k:Int) (gv nv lv:Value) (Fg Fn:List Nat) (w:World) (e:Ending) (w':World):Prop:=
 (J5 c p r=none∧e=.returned (.tuple #[plV f v k p.nodes gv nv lv,.int .i64 0,.bool false])∧Below w.heap.size w w')∨
 (∃ p' n gv' nv' lv' cells' Fg' Fn',J5 c p r=some (p',n)∧e=.returned (.tuple #[plV f v k p'.nodes gv' nv' lv',.int .i64 n,.bool true])∧PlV w' p' gv' nv' lv' cells' Fg' Fn'∧Xp (plF nv lv Fg Fn) (plF nv' lv' Fg' Fn') w w')
/-- what the reference's answered comes to -/
def RAnsAny:Prop:=∀ (c:Cod) (p:Ply) (r:Rq) (f v k:Int) (fa ha:Option Addr) (fc hcc B:Nat) (gv nv lv:Value) (cells:List Value) (Fg Fn:List Nat) (w:World),Xv c→Xm4 c r→PlV w p gv nv lv cells Fg Fn→Uv c p.mem→p.log.length≤1000000000000→(0≤p.nodes∧p.nodes≤1000000000000)→B≤w.heap.size→Yj B w (.agg #[.slice fa c.fields.length fc,.int .i64 c.globals,.slice ha c.funcs.length hcc]) c→(∀ b∈plF nv lv Fg Fn,B≤b)→(r.node=0→¬r.kind=3→r.field<c.globals)→Calls Tryz.prog 61 #[.agg #[.slice fa c.fields.length fc,.int .i64 c.globals,.slice ha c.funcs.length hcc],plV f v k p.nodes gv nv lv,rqV r] w (AnsPost c p r f v k gv nv lv Fg Fn w)
theorem run_append_niln (ty:TypeId) (b c:Nat) (w:World):(Builtin.append_ #[22,22] ty #[.slice (some ⟨b,0,none⟩) 0 0,.slice none 0 c]).run Tryz.prog w=.ok (.slice (some ⟨b,0,none⟩) 0 0) w:=by
 obtain ⟨ti,hti,hz0,hz1,hz2⟩:=info_parts Uc
 simp [Builtin.append_,run_underlying Tryz.underlying22,sizeOf,typeInfo,hti,Builtin.lenOf,Builtin.firstCells,storeCells]
theorem ownI_mt {w:World} {e1:Nat} (he:w.heap[e1]?=some (.cells #[] 3 (0,0))):Yv w (.slice (some ⟨e1,0,none⟩) 0 0) [] [e1]:=
 ⟨⟨rfl,.inr ⟨e1,0,#[],rfl,Nat.zero_le _,he,Nat.le_refl _,by unfold maxLen;omega,rfl,rfl⟩⟩,rfl,by simp⟩
theorem grown_bel {w w':World} {e1:Nat} (h:w.grownBy w' (some e1)) (he:e1<w.heap.size):Below e1 w w':=
 ⟨h.os,h.tape,h.output,h.size,fun k hk=>h.block k (by omega) (by first|omega|simp<;>omega)⟩
/-- append([]int{}, l...): a list in new memory -/
theorem wp_cpy {o:Oper} {a:Act} {K:Act→World→Prop} {Q:Exit→Act→World→Prop} {w:World} (s x:Operand) (ho:o.op=.call { callee:=.builtin .append,args:=#[s,x],argTypes:=#[22,22] })
  (e1:Nat) (he:w.heap[e1]?=some (.cells #[] 3 (0,0))) (hs:a.eval s=.slice (some ⟨e1,0,none⟩) 0 0) (xa:Option Addr) (n xc:Nat) (l:List Int) (B:Nat) (hx:a.eval x=.slice xa n xc) (hl:Xf B w 1 Zd (.slice xa n xc) l) (hsz:l.length≤1000000)
  (h:∀ g cap w',Yv w' (.slice (some ⟨g,0,none⟩) n cap) l [g]→e1≤g→g<w'.heap.size→Below e1 w w'→K (a.put o.dst (.slice (some ⟨g,0,none⟩) n cap)) w'):o.wp Tryz.prog a w K Q:=by
 have hes:e1<w.heap.size:=(La he)
 have hown:=ownI_mt he
 obtain ⟨ti,hti,hz0,hz1,hz2⟩:=info_parts Uc
 obtain ⟨xa',xc',hxe,hl1,hl2,hl3,hE⟩:=hl
 obtain ⟨rfl,rfl,rfl⟩:xa=xa'∧n=l.length∧xc=xc':=by simpa using hxe
 cases l with
 | nil=>
  cases xa with
  | none=>
   have hrun:=run_append_niln o.type e1 xc w
   unfold Oper.wp
   simp only [List.length_nil] at hx
   simp [execOp,ho,resolve,invoke,builtin,hs,hx,hrun,Result.andThen]
   exact h e1 0 w hown (Nat.le_refl _) hes (Below.refl _ _)
  | some ad=>
   obtain ⟨w',hrun,r1,r2⟩:=run_append_fits (P:=Tryz.prog) w 0 22 o.type 3 ti 1 Tryz.underlying22 hti hz1 e1 0 0 [] hown.1 ad 0 xc [] rfl (by simp) (by simp) (Nat.le_refl _)
   unfold Oper.wp
   simp only [List.length_nil] at hx
   simp [execOp,ho,resolve,invoke,builtin,hs,hx,hrun,Result.andThen]
   exact h e1 0 w' ⟨by simpa using r1,rfl,by simp⟩ (Nat.le_refl _) (Nat.lt_of_lt_of_le hes r2.size) (grown_bel r2 hes)
 | cons v l=>
  rcases hE with h0|⟨b,oo,rfl,hbB,hE⟩
  ·simp at h0
  refine wp_append_lies w s x 22 ho 0 3 ti (.int .i64 0) 1 8 Tryz.underlying22 hti hz0 hz1 hz2 rfl (by decide) (.slice (some ⟨e1,0,none⟩) 0 0) 0 [] hs hown.1 ⟨b,oo,none⟩ (v::l).length xc ((v::l).map (Value.int .i64)) hx (by simp) (fun j u hu=>?_) (fun u hu=>?_) (by simp) (by unfold maxLen;simp at *;omega) (by simp at *;omega) (Nat.zero_le _) w.heap.size rfl (fun g cap w' h1 h2 h3 h4=>?_)
  ·rw [List.getElem?_map] at hu
   cases hg:(v::l)[j]? with
   | none=>rw [hg] at hu;simp at hu
   | some q=>
    rw [hg] at hu
    simp at hu
    subst hu
    have:=(hE j q hg).1
    rw [Nat.mul_one] at this
    rw [Xbt];exact this
  ·obtain ⟨_,_,rfl⟩:=List.mem_map.1 hu;rfl
  ·rw [Nat.zero_add] at h1 ⊢
   rw [List.nil_append] at h1
   refine h g cap w' ⟨h1,rfl,fun q hq=>?_⟩ ?_ h4 (grown_bel h2 hes)
   ·obtain ⟨i,hi,rfl⟩:=List.getElem_of_mem hq
    exact (hE i _ (List.getElem?_eq_getElem hi)).2
   ·rcases h3 with h3|h3
    ·simp [Value.ownBlock] at h3;omega
    ·omega
theorem wpl_cpy {ops:Array Oper} {rest:List Oper} {o:Oper} {a:Act} {Q:Exit→Act→World→Prop} {w:World} (hgd:o.guard=none) (s x:Operand) (ho:o.op=.call { callee:=.builtin .append,args:=#[s,x],argTypes:=#[22,22] })
  (e1:Nat) (he:w.heap[e1]?=some (.cells #[] 3 (0,0))) (hs:a.eval s=.slice (some ⟨e1,0,none⟩) 0 0) (xa:Option Addr) (n xc:Nat) (l:List Int) (B:Nat) (hx:a.eval x=.slice xa n xc) (hl:Xf B w 1 Zd (.slice xa n xc) l) (hsz:l.length≤1000000)
  (h:∀ g cap w',Yv w' (.slice (some ⟨g,0,none⟩) n cap) l [g]→e1≤g→g<w'.heap.size→Below e1 w w'→wpList Tryz.prog ops Q rest (a.put o.dst (.slice (some ⟨g,0,none⟩) n cap)) w'):wpList Tryz.prog ops Q (o::rest) a w:=
 wpList_plain hgd fun _ hK=>wp_cpy s x ho e1 he hs xa n xc l B hx hl hsz fun g cap w' h1 h2 h3 h4=>hK _ _ (h g cap w' h1 h2 h3 h4)
theorem step_cpy {ops:Array Oper} {o:Oper} {a:Act} {K:Act→World→Prop} {Q:Exit→Act→World→Prop} {E:Prop} {w:World} (hgd:o.guard=none) (s x:Operand) (ho:o.op=.call { callee:=.builtin .append,args:=#[s,x],argTypes:=#[22,22] })
  (e1:Nat) (he:w.heap[e1]?=some (.cells #[] 3 (0,0))) (hs:a.eval s=.slice (some ⟨e1,0,none⟩) 0 0) (xa:Option Addr) (n xc:Nat) (l:List Int) (B:Nat) (hx:a.eval x=.slice xa n xc) (hl:Xf B w 1 Zd (.slice xa n xc) l) (hsz:l.length≤1000000)
  (h:∀ g cap w',Yv w' (.slice (some ⟨g,0,none⟩) n cap) l [g]→e1≤g→g<w'.heap.size→Below e1 w w'→K (a.put o.dst (.slice (some ⟨g,0,none⟩) n cap)) w'):if Region.wanted o (yielded ops a.tmps)=true then Oper.wp Tryz.prog o a w K Q else E:=by
 have hw:Region.wanted o (yielded ops a.tmps)=true:=by simp [Region.wanted,hgd]
 rw [if_pos hw]
 exact wp_cpy s x ho e1 he hs xa n xc l B hx hl hsz h
theorem results_mem1 {fn:Func} {p:Tmp} (hf:fn.results=#[.cell p 52]) {W:World} {R:Nat} {gv nv:Value} (h:W.heap[R]?=some (.cells #[gv,nv] 52 (0,0))) (tmps:Array Value) (h1:tmps.getD p undef=.pointer (some ⟨R,0,none⟩)) :
  (results fn tmps).run Tryz.prog W=.ok (.agg #[gv,nv]) W:=by
 simp only [results,hf]
 rw [Array.getD_eq_getD_getElem?] at h1
 simp [h1,asAddr,Xhz h,Result.andThen,Sem.run_bind]
theorem row_add8 {W7 w8:World} {T:TypeId} {sz n k:Nat} {na:Option Addr} {nc:Nat} {cells:List Value} {o:Obj} (h:W7.ownsRow 0 T sz (.slice na n nc) n cells) (hn:n=k) (hb:Below W7.heap.size W7 w8):(w8.alloc o).ownsRow 0 T sz (.slice na k nc) k cells:=by
 subst hn
 refine Qi h (fun b hb'=>?_)
 have hlt:=Ve h b hb'
 rw [Below.heap_alloc _ _ _ (Nat.lt_of_lt_of_le hlt hb.size),hb.block b hlt]
def CpdPost (m:Mm) (w:World) (e:Ending) (w':World):Prop:=∃ gv nv cells Fg Fn,e=.returned (.agg #[gv,nv])∧MRow w' m gv nv cells Fg Fn∧(∀ b∈Fg++(nv.ownBlock.toList++Fn),w.heap.size≤b)∧Below w.heap.size w w'
/-- while nodes are copied: the copy lies in block bo -/
def CmSt (m:Mm) (A bo:Nat) (gv:Value) (Fg:List Nat) (W:World) (k:Nat) (wr:World):Prop:=∃ nva nvc cells Fn,Qs wr bo ⟨m.globals,m.nodes.take k⟩ gv (.slice nva k nvc) cells Fg Fn∧(∀ b∈bo::(Fg++((Value.slice nva k nvc).ownBlock.toList++Fn)),A≤b)∧Below A W wr
theorem rcopied_any (m:Mm) (mv:Value) (B:Nat) (w:World) (hB:B≤w.heap.size) (hm:MmV B w mv m) (hg6:m.globals.length≤1000000) (hn4:m.nodes.length≤4096) (hf6:∀ x∈m.nodes,x.f.length≤1000000) :
  Calls Tryz.prog 60 #[mv] w (CpdPost m w):=by
 obtain ⟨gv,nv,rfl,hg,hn⟩:=hm
 obtain ⟨va,vc,rfl,hgl⟩:=hg.frm
 obtain ⟨na,nc,rfl,hnl⟩:=hn.frm
 obtain ⟨gn,hgn⟩:∃ n,n=m.globals.length:=⟨_,rfl⟩
 obtain ⟨nn,hnn⟩:∃ n,n=m.nodes.length:=⟨_,rfl⟩
 rw [←hgn] at hg hgl hg6 ⊢
 rw [←hnn] at hn hnl hn4 ⊢
 have HG:=Lh hg
 have HN:=Lh hn
 have HGN:=Lh hgn
 have HNN:=Lh hnn
 have HF6:=Lh hf6
 obtain ⟨W,hW⟩:∃ W,W=(w.alloc (.cells #[.slice va gn vc,.slice na nn nc] 52)).alloc (.cells #[.slice none 0 0,.slice none 0 0] 52):=⟨_,rfl⟩
 have hWb:Hid (Below w.heap.size w W):=by rw [hW];exact Lh ((Xa _ _).then (Xa _ _))
 have hsz:Hid (W.heap.size=w.heap.size+2):=by rw [hW];exact Lh (by simp)
 have b0:W.heap[w.heap.size]?=some (.cells #[.slice va gn vc,.slice na nn nc] 52 (0,0)):=by
  rw [hW,Below.heap_alloc _ _ _ (by simp)]
  exact heap_alloc_new _ _
 have b1:W.heap[w.heap.size+1]?=some (.cells #[.slice none 0 0,.slice none 0 0] 52 (0,0)):=by
  rw [hW]
  have:=heap_alloc_new (w.alloc (.cells #[.slice va gn vc,.slice na nn nc] 52)) (.cells #[.slice none 0 0,.slice none 0 0] 52)
  simpa using this
 have B0:=Lh b0
 have B1:=Lh b1
 have i0:W.cell? ⟨w.heap.size,0,none⟩=some (.slice va gn vc):=by rw [cell_of_row _ _ _ _ _ _ b0];rfl
 have zi:=Bl i0
 have HEE:Hid ((W.alloc (.cells #[] 3)).heap[W.heap.size]?=some (.cells #[] 3 (0,0))):=Lh (heap_alloc_new _ _)
 have HGE:Hid (Xf B (W.alloc (.cells #[] 3)) 1 Zd (.slice va gn vc) m.globals):=Lh ((hg.ints (hWb.out.mono hB)).ints ((Xa _ _).mono (Nat.le_trans hB hWb.out.size)))
 have hg7:m.globals.length≤1000000:=by rw [←hgn];exact hg6
 clear b0 b1 hg hn hgn hnn hf6
 go_enter Tryz.func60,Tryz.ntmps60
 go_upto_region 1 with fail
 rw [←hW]
 have HW:=Lh hW
 clear hW
 go_upto_region 2 with (with_reducible refine wpl_cpy rfl (.tmp 5) (.tmp 7) rfl W.heap.size HEE.out rfl va gn vc m.globals B rfl HGE.out hg7 ?_;intro gg gcap w2 hO hge hgs hb;have HO:=Lh hO;have HGG:=Lh hge;have HB2:Hid (Below W.heap.size W w2):=Lh ((Xa W _).trans hb);clear hO hge hgs hb)
 obtain ⟨W3,hW3⟩:∃ V,V=w2.alloc (.cells #[.slice (some ⟨gg,0,none⟩) gn gcap,.slice none 0 0] 52):=⟨_,rfl⟩
 obtain ⟨bo,hbo⟩:∃ b,b=w2.heap.size:=⟨_,rfl⟩
 have hb3:Below w2.heap.size w2 W3:=by rw [hW3];exact Xa _ _
 have hst0:Hid (CmSt m (w.heap.size+2) bo (.slice (some ⟨gg,0,none⟩) gn gcap) [gg] W 0 W3):=Lh (by
  have hgl:=HO.out.lt gg (by simp)
  have h2:=HGG.out
  have h3:=hsz.out
  refine ⟨none,0,[],[],⟨by rw [hW3,hbo];exact heap_alloc_new _ _,HO.out.keep (fun b hb=>hb3.block b (HO.out.lt b hb)),World.ownsRow_nil _ _ _ _,⟨rfl,rfl⟩,by simp [Value.ownBlock];omega⟩,fun b hb=>?_,((HB2.out.then hb3).mono (by omega))⟩
  simp [Value.ownBlock] at hb
  have h4:=HB2.out.size
  omega)
 rw [←hW3,← hbo]
 have HBO:=Lh hbo
 have hboA:w.heap.size+2≤bo:=by have h1:=HB2.out.size;have h2:=hsz.out;omega
 clear hW3 hbo hb3 i0 zi
 obtain ⟨ti,hti,hz0,hz1,hz2⟩:=info_parts Xfb
 go_wp2_with fail
 go_loopw [4] (fun i wr=>∃ k:Nat,k≤nn∧i=.int .i64 k∧Hid (CmSt m (w.heap.size+2) bo (.slice (some ⟨gg,0,none⟩) gn gcap) [gg] W k wr)) (fun i _=>nn - (intOf i).toNat)
 case atStart=>exact ⟨0,Nat.zero_le _,rfl,hst0⟩
 case round=>
  obtain ⟨k,hk,rfl,hst⟩:=hrel
  obtain ⟨nva,nvc,cells,Fn,hmem,hge,hbw⟩:=hst.out
  have HMEM:=Lh hmem
  have HGE2:=Lh hge
  have HBW:=Lh hbw
  have hc0:wr.heap[w.heap.size]?=_:=(hbw.block _ (by omega)).trans B0.out
  have hc1:wr.heap[w.heap.size+1]?=_:=(hbw.block _ (by omega)).trans B1.out
  have i1:wr.cell? ⟨w.heap.size,1,none⟩=some (.slice na nn nc):=by rw [cell_of_row _ _ _ _ _ _ hc0];rfl
  have zi:=Bl i1
  have C1:=Lh hc1
  have v1:wr.cell? ⟨bo,1,none⟩=some (.slice nva k nvc):=by rw [cell_of_row _ _ _ _ _ _ hmem.box];rfl
  have zv:=Bl v1
  clear hc0 hc1 hmem hge hbw hst
  by_cases hkn:k<nn
  ·obtain ⟨x1,hx1⟩:∃ y,m.nodes[k]?=some y:=⟨_,List.getElem?_eq_getElem (by have:=HNN.out;omega)⟩
   have HX1:=Lh hx1
   have hBr:Hid (Below B w wr):=Lh ((hWb.out.mono hB).trans (HBW.out.mono (by omega)))
   obtain ⟨nb,no,hna,hnbB,hNE⟩:∃ nb no,na=some ⟨nb,no,none⟩∧nb<B∧Xbc B wr nb (no+k*2) x1:=by
    obtain ⟨a0,cap0,he0,_,_,_,hE⟩:=HN.out
    obtain ⟨rfl,_,rfl⟩:na=a0∧nn=m.nodes.length∧nc=cap0:=by simpa using he0
    rcases hE with h0|⟨nb,no,rfl,hb,hE⟩
    ·rw [h0] at hx1;simp at hx1
    ·exact ⟨nb,no,rfl,hb,(hE k x1 hx1).below hBr.out hb⟩
   subst hna
   obtain ⟨n0,⟨lv,n1,hlv⟩,hx64⟩:=hNE
   obtain ⟨la,lc,rfl⟩:=hlv.form
   obtain ⟨fl,hfl⟩:∃ n,n=x1.f.length:=⟨_,rfl⟩
   rw [←hfl] at hlv n1
   have zn:=Bl n0
   have hf7:x1.f.length≤1000000:=HF6.out _ (List.mem_of_getElem? hx1)
   have hBwr:B≤wr.heap.size:=Nat.le_trans hB (Nat.le_trans hWb.out.size HBW.out.size)
   have htl:(m.nodes.take k).length=k:=by rw [List.length_take];have:=HNN.out;omega
   have HTL:=Lh htl
   have HX64:=Lh hx64
   have hi0:(0:Int)≤(k:Int):=Int.natCast_nonneg _
   have hi1:(k:Int)<(nn:Int):=by omega
   have HLE:Hid (Xf B (wr.drew.alloc (.cells #[] 3)) 1 Zd (.slice la fl lc) x1.f):=Lh ((hlv.ints (Xh (Below.refl _ _) 1)).ints ((Xa _ _).mono hBwr))
   have HEE2:Hid ((wr.drew.alloc (.cells #[] 3)).heap[wr.heap.size]?=some (.cells #[] 3 (0,0))):=Lh (heap_alloc_new wr.drew _)
   have hrow7:Hid (wr.ownsRow 0 107 2 (.slice nva k nvc) k cells):=Lh (by have h:=HMEM.out.row;rw [show (⟨m.globals,m.nodes.take k⟩:Mm).nodes.length=k from htl] at h;exact h)
   have hbonv:(Value.slice nva k nvc).ownBlock≠some bo:=fun e=>by
    have hnd:=HMEM.out.nodup
    rw [List.nodup_cons] at hnd
    exact hnd.1 (by rw [e];simp)
   have HNV:=Lh hbonv
   have HBE:Hid (Below wr.heap.size wr (wr.drew.alloc (.cells #[] 3))):=Lh ((Xh (Below.refl _ _) 1).trans (Xa wr.drew _))
   have HFAR:Hid (∀ b,b<w.heap.size+2→some b≠(Value.slice nva k nvc).ownBlock):=Lh (fun b hb e=>by
    have:=HGE2.out b (by rw [List.mem_cons,List.mem_append,List.mem_append];exact .inr (.inr (.inl (by rw [←e];simp))))
    omega)
   clear hx1 hlv htl hx64 hfl hbonv
   go_upto_region 5 with fail
   refine wp_region_held_drew (S:=fun V=>V.cell? ⟨w.heap.size,1,none⟩=some (.slice (some ⟨nb,no,none⟩) nn nc)∧V.cell? ⟨nb,no+k*2,none⟩=some (.int .i64 x1.type)∧V.cell? ⟨nb,no+k*2+1,none⟩=some (.slice la fl lc)) (by kernel_rfl) (⟨i1,n0,n1⟩) (fun hHeld=>?_)
   refine wpAnyH_take (i:=0) (oi:=⟨some 17,.fieldAddr 52 (.tmp 3) 1,0, "ref.go:431",#[],none⟩) (v:=.pointer (some ⟨bo,1,none⟩)) rfl (by kernel_rfl) (by kernel_rfl) (by kernel_rfl) (fun _ _ _ h=>h) (Or.inl ⟨by rfl,by intro wV hSw;(try dsimp only at hSw);go_simp⟩) (by assumption) ?_;(try simp only [Act.put,List.setIfInBounds_toArray,List.set_cons_zero,List.set_cons_succ])
   refine wpAnyH_take (i:=2) (oi:=⟨some 19,.fieldAddr 52 (.tmp 1) 1,0, "ref.go:431",#[],none⟩) (v:=.pointer (some ⟨w.heap.size,1,none⟩)) rfl (by kernel_rfl) (by kernel_rfl) (by kernel_rfl) (fun _ _ _ h=>h) (Or.inl ⟨by rfl,by intro wV hSw;(try dsimp only at hSw);go_simp⟩) (by assumption) ?_;(try simp only [Act.put,List.setIfInBounds_toArray,List.set_cons_zero,List.set_cons_succ])
   refine wpAnyH_take (i:=3) (oi:=⟨some 20,.load 50 (.tmp 19),50, "ref.go:431",#[⟨2,.data⟩],none⟩) (v:=.slice (some ⟨nb,no,none⟩) nn nc) rfl (by kernel_rfl) (by kernel_rfl) (by kernel_rfl) (fun _ _ _ h=>h) (Or.inl ⟨by rfl,by intro wV hSw;(try dsimp only at hSw);go_simp⟩) (by assumption) ?_;(try simp only [Act.put,List.setIfInBounds_toArray,List.set_cons_zero,List.set_cons_succ])
   refine wpAnyH_take (i:=4) (oi:=⟨some 21,.move (.tmp 4),3, "ref.go:431",#[],none⟩) (v:=.int .i64 (k:Int)) rfl (by kernel_rfl) (by kernel_rfl) (by kernel_rfl) (fun _ _ _ h=>h) (Or.inl ⟨by rfl,by intro wV hSw;(try dsimp only at hSw);go_simp⟩) (by assumption) ?_;(try simp only [Act.put,List.setIfInBounds_toArray,List.set_cons_zero,List.set_cons_succ])
   refine wpAnyH_take (i:=5) (oi:=⟨some 22,.indexAddr 50 (.tmp 20) (.tmp 21),0, "ref.go:431",#[⟨3,.data⟩,⟨4,.data⟩],none⟩) (v:=.pointer (some ⟨nb,no+k*2,none⟩)) rfl (by kernel_rfl) (by kernel_rfl) (by kernel_rfl) (fun _ _ _ h=>h) (Or.inl ⟨by rfl,by intro wV hSw;(try dsimp only at hSw);go_simp⟩) (by assumption) ?_;(try simp only [Act.put,List.setIfInBounds_toArray,List.set_cons_zero,List.set_cons_succ])
   refine wpAnyH_take (i:=6) (oi:=⟨some 23,.fieldAddr 107 (.tmp 22) 0,0, "ref.go:431",#[⟨5,.data⟩],none⟩) (v:=.pointer (some ⟨nb,no+k*2,none⟩)) rfl (by kernel_rfl) (by kernel_rfl) (by kernel_rfl) (fun _ _ _ h=>h) (Or.inl ⟨by rfl,by intro wV hSw;(try dsimp only at hSw);go_simp⟩) (by assumption) ?_;(try simp only [Act.put,List.setIfInBounds_toArray,List.set_cons_zero,List.set_cons_succ])
   refine wpAnyH_take (i:=7) (oi:=⟨some 24,.load 3 (.tmp 23),3, "ref.go:431",#[⟨6,.data⟩],none⟩) (v:=.int .i64 x1.type) rfl (by kernel_rfl) (by kernel_rfl) (by kernel_rfl) (fun _ _ _ h=>h) (Or.inl ⟨by rfl,by intro wV hSw;(try dsimp only at hSw);go_simp⟩) (by assumption) ?_;(try simp only [Act.put,List.setIfInBounds_toArray,List.set_cons_zero,List.set_cons_succ])
   refine wpAnyH_take (i:=9) (oi:=⟨some 26,.fieldAddr 52 (.tmp 1) 1,0, "ref.go:431",#[],none⟩) (v:=.pointer (some ⟨w.heap.size,1,none⟩)) rfl (by kernel_rfl) (by kernel_rfl) (by kernel_rfl) (fun _ _ _ h=>h) (Or.inl ⟨by rfl,by intro wV hSw;(try dsimp only at hSw);go_simp⟩) (by assumption) ?_;(try simp only [Act.put,List.setIfInBounds_toArray,List.set_cons_zero,List.set_cons_succ])
   refine wpAnyH_take (i:=10) (oi:=⟨some 27,.load 50 (.tmp 26),50, "ref.go:431",#[⟨9,.data⟩],none⟩) (v:=.slice (some ⟨nb,no,none⟩) nn nc) rfl (by kernel_rfl) (by kernel_rfl) (by kernel_rfl) (fun _ _ _ h=>h) (Or.inl ⟨by rfl,by intro wV hSw;(try dsimp only at hSw);go_simp⟩) (by assumption) ?_;(try simp only [Act.put,List.setIfInBounds_toArray,List.set_cons_zero,List.set_cons_succ])
   refine wpAnyH_take (i:=11) (oi:=⟨some 28,.move (.tmp 4),3, "ref.go:431",#[],none⟩) (v:=.int .i64 (k:Int)) rfl (by kernel_rfl) (by kernel_rfl) (by kernel_rfl) (fun _ _ _ h=>h) (Or.inl ⟨by rfl,by intro wV hSw;(try dsimp only at hSw);go_simp⟩) (by assumption) ?_;(try simp only [Act.put,List.setIfInBounds_toArray,List.set_cons_zero,List.set_cons_succ])
   refine wpAnyH_take (i:=12) (oi:=⟨some 29,.indexAddr 50 (.tmp 27) (.tmp 28),0, "ref.go:431",#[⟨10,.data⟩,⟨11,.data⟩],none⟩) (v:=.pointer (some ⟨nb,no+k*2,none⟩)) rfl (by kernel_rfl) (by kernel_rfl) (by kernel_rfl) (fun _ _ _ h=>h) (Or.inl ⟨by rfl,by intro wV hSw;(try dsimp only at hSw);go_simp⟩) (by assumption) ?_;(try simp only [Act.put,List.setIfInBounds_toArray,List.set_cons_zero,List.set_cons_succ])
   refine wpAnyH_take (i:=13) (oi:=⟨some 30,.fieldAddr 107 (.tmp 29) 1,0, "ref.go:431",#[⟨12,.data⟩],none⟩) (v:=.pointer (some ⟨nb,no+k*2+1,none⟩)) rfl (by kernel_rfl) (by kernel_rfl) (by kernel_rfl) (fun _ _ _ h=>h) (Or.inl ⟨by rfl,by intro wV hSw;(try dsimp only at hSw);go_simp⟩) (by assumption) ?_;(try simp only [Act.put,List.setIfInBounds_toArray,List.set_cons_zero,List.set_cons_succ])
   refine wpAnyH_take (i:=14) (oi:=⟨some 31,.load 22 (.tmp 30),22, "ref.go:431",#[⟨13,.data⟩],none⟩) (v:=.slice la fl lc) rfl (by kernel_rfl) (by kernel_rfl) (by kernel_rfl) (fun _ _ _ h=>h) (Or.inl ⟨by rfl,by intro wV hSw;(try dsimp only at hSw);go_simp⟩) (by assumption) ?_;(try simp only [Act.put,List.setIfInBounds_toArray,List.set_cons_zero,List.set_cons_succ])
   refine wpAnyH_ready (rs:=[1,8]) (by kernel_rfl) (by simp) ?_
   refine AllReadyH.cons (o:=⟨some 18,.load 50 (.tmp 17),50, "ref.go:431",#[⟨0,.data⟩],none⟩) rfl (fun K hK=>?l0) (AllReadyH.cons (o:=⟨some 25,.buildSlice 22 0 #[],22, "ref.go:431",#[],none⟩) rfl (fun K hK=>?c0) AllReadyH.nil)
   case' l0=>
    go_simp;refine hK.out _ _ (⟨i1,n0,n1⟩) (fun hHeld=>?_);clear hK K;(try simp only [Act.put,List.setIfInBounds_toArray,List.set_cons_zero,List.set_cons_succ])
    have mk0:True:=trivial
   case' c0=>
    go_simp;refine hK.out _ _ (⟨Xc HBE.out i1,Xc HBE.out n0,Xc HBE.out n1⟩) (fun hHeld=>?_);clear hK K;(try simp only [Act.put,List.setIfInBounds_toArray,List.set_cons_zero,List.set_cons_succ])
    refine wpAnyH_ready (rs:=[1,15]) (by kernel_rfl) (by simp) ?_
    refine AllReadyH.cons (o:=⟨some 18,.load 50 (.tmp 17),50, "ref.go:431",#[⟨0,.data⟩],none⟩) rfl (fun K hK=>?l1) (AllReadyH.cons (o:=⟨some 32,.call ⟨.builtin .append,#[.tmp 25,.tmp 31],#[22,22]⟩,22, "ref.go:431",#[⟨8,.data⟩,⟨14,.data⟩],none⟩) rfl (fun K hK=>?c1) AllReadyH.nil)
    case' l1=>
     go_simp;refine hK.out _ _ (⟨Xc HBE.out i1,Xc HBE.out n0,Xc HBE.out n1⟩) (fun hHeld=>?_);clear hK K;(try simp only [Act.put,List.setIfInBounds_toArray,List.set_cons_zero,List.set_cons_succ])
     have mk1:True:=trivial
    case' c1=>
     refine step_cpy rfl (.tmp 25) (.tmp 31) rfl wr.heap.size HEE2.out rfl la fl lc x1.f B rfl HLE.out hf7 ?_;intro g1 c1 w8 hO1 hge1 hgs1 hb1;have hW8:Below wr.heap.size wr w8:=((Xh (Below.refl _ _) 1).trans (Xa wr.drew (.cells #[] 3))).trans hb1;have y1:=Xc hW8 i1;have v18:=Xc hW8 v1;have n08:=Xc hW8 n0;have n18:=Xc hW8 n1;have zy8:w.heap.size<w8.heap.size:=Bl y1;have zv8:bo<w8.heap.size:=Bl v18;have zn8:nb<w8.heap.size:=Bl n08;have HO1:=Lh hO1;have HG1:=Lh hge1;have HB8:=Lh hW8;have hrow8:Hid ((w8.alloc (.cells #[.int .i64 x1.type,.slice (some ⟨g1,0,none⟩) fl c1] 107)).ownsRow 0 107 2 (.slice nva k nvc) k cells):=Lh (row_add8 hrow7.out rfl hW8);have hnews8:Hid (∀ j u,([.int .i64 x1.type,.slice (some ⟨g1,0,none⟩) fl c1]:List Value)[j]?=some u→(w8.alloc (.cells #[.int .i64 x1.type,.slice (some ⟨g1,0,none⟩) fl c1] 107)).cell? ((⟨w8.heap.size,0,none⟩:Addr).add j)=some u):=Lh (fun j u hu=>(by rw [Xbt,Nat.zero_add,Y5];simpa using hu));have hbo8:Hid (∀ (g:Nat) w9,(w8.alloc (.cells #[.int .i64 x1.type,.slice (some ⟨g1,0,none⟩) fl c1] 107)).grownBy w9 (Value.slice nva k nvc).ownBlock→w9.heap[bo]?=some (.cells #[.slice (some ⟨gg,0,none⟩) gn gcap,.slice nva k nvc] 52 (0,0))):=Lh (fun g w9 hg=>(by have h1:w8.heap[bo]?=_:=Yk hW8 HMEM.out.box;rw [hg.block _ (by have h2:=(La h1);simp;omega) HNV.out.symm,Below.heap_alloc _ _ _ (La h1),h1]));clear hO1 hge1 hgs1 hb1 hW8;refine hK.out _ _ (⟨y1,n08,n18⟩) (fun hHeld=>?_);clear hK K;(try simp only [Act.put,List.setIfInBounds_toArray,List.set_cons_zero,List.set_cons_succ])
     refine wpAnyH_take (i:=16) (oi:=⟨some 33,.build 107 #[(0,.tmp 24),(1,.tmp 32)],107, "ref.go:431",#[⟨7,.data⟩,⟨15,.data⟩],none⟩) (v:=.agg #[.int .i64 x1.type,.slice (some ⟨g1,0,none⟩) fl c1]) rfl (by kernel_rfl) (by kernel_rfl) (by kernel_rfl) (fun _ _ _ h=>h) (Or.inl ⟨by rfl,by intro wV hSw;(try dsimp only at hSw);go_simp⟩) (by assumption) ?_;(try simp only [Act.put,List.setIfInBounds_toArray,List.set_cons_zero,List.set_cons_succ])
     refine wpAnyH_ready (rs:=[1,17]) (by kernel_rfl) (by simp) ?_
     refine AllReadyH.cons (o:=⟨some 18,.load 50 (.tmp 17),50, "ref.go:431",#[⟨0,.data⟩],none⟩) rfl (fun K hK=>?l2) (AllReadyH.cons (o:=⟨some 34,.buildSlice 50 1 #[(0,.tmp 33)],50, "ref.go:431",#[⟨16,.data⟩],none⟩) rfl (fun K hK=>?c2) AllReadyH.nil)
     case' l2=>
      go_simp;refine hK.out _ _ (⟨y1,n08,n18⟩) (fun hHeld=>?_);clear hK K;(try simp only [Act.put,List.setIfInBounds_toArray,List.set_cons_zero,List.set_cons_succ])
      have mk2:True:=trivial
     case' c2=>
      go_simp;refine hK.out _ _ (⟨Xc (Xa _ _) y1,Xc (Xa _ _) n08,Xc (Xa _ _) n18⟩) (fun hHeld=>?_);clear hK K;(try simp only [Act.put,List.setIfInBounds_toArray,List.set_cons_zero,List.set_cons_succ])
      refine wpAnyH_ready (rs:=[1]) (by kernel_rfl) (by simp) ?_;refine AllReadyH.cons (o:=⟨some 18,.load 50 (.tmp 17),50, "ref.go:431",#[⟨0,.data⟩],none⟩) rfl (fun K hK=>?_) AllReadyH.nil;go_simp;refine hK.out _ _ (⟨Xc (Xa _ _) y1,Xc (Xa _ _) n08,Xc (Xa _ _) n18⟩) (fun hHeld=>?_);clear hK K;(try simp only [Act.put,List.setIfInBounds_toArray,List.set_cons_zero,List.set_cons_succ])
      have mk3:True:=trivial
   all_goals
    first
     | (have _h:=mk1;clear _h)
     | (have _h:=mk2;clear _h)
     | (have _h:=mk3;clear _h)
     | (refine wpAnyH_ready (rs:=[8]) (by kernel_rfl) (by simp) ?_;refine AllReadyH.cons (o:=⟨some 25,.buildSlice 22 0 #[],22, "ref.go:431",#[],none⟩) rfl (fun K hK=>?_) AllReadyH.nil;go_simp;refine hK.out _ _ (⟨Xc HBE.out i1,Xc HBE.out n0,Xc HBE.out n1⟩) (fun hHeld=>?_);clear hK K;(try simp only [Act.put,List.setIfInBounds_toArray,List.set_cons_zero,List.set_cons_succ]))
   all_goals
    first
     | (have _h:=mk2;clear _h)
     | (have _h:=mk3;clear _h)
     | (refine wpAnyH_ready (rs:=[15]) (by kernel_rfl) (by simp) ?_;refine AllReadyH.cons (o:=⟨some 32,.call ⟨.builtin .append,#[.tmp 25,.tmp 31],#[22,22]⟩,22, "ref.go:431",#[⟨8,.data⟩,⟨14,.data⟩],none⟩) rfl (fun K hK=>?_) AllReadyH.nil;refine step_cpy rfl (.tmp 25) (.tmp 31) rfl wr.heap.size HEE2.out rfl la fl lc x1.f B rfl HLE.out hf7 ?_;intro g1 c1 w8 hO1 hge1 hgs1 hb1;have hW8:Below wr.heap.size wr w8:=((Xh (Below.refl _ _) 1).trans (Xa wr.drew (.cells #[] 3))).trans hb1;have y1:=Xc hW8 i1;have v18:=Xc hW8 v1;have n08:=Xc hW8 n0;have n18:=Xc hW8 n1;have zy8:w.heap.size<w8.heap.size:=Bl y1;have zv8:bo<w8.heap.size:=Bl v18;have zn8:nb<w8.heap.size:=Bl n08;have HO1:=Lh hO1;have HG1:=Lh hge1;have HB8:=Lh hW8;have hrow8:Hid ((w8.alloc (.cells #[.int .i64 x1.type,.slice (some ⟨g1,0,none⟩) fl c1] 107)).ownsRow 0 107 2 (.slice nva k nvc) k cells):=Lh (row_add8 hrow7.out rfl hW8);have hnews8:Hid (∀ j u,([.int .i64 x1.type,.slice (some ⟨g1,0,none⟩) fl c1]:List Value)[j]?=some u→(w8.alloc (.cells #[.int .i64 x1.type,.slice (some ⟨g1,0,none⟩) fl c1] 107)).cell? ((⟨w8.heap.size,0,none⟩:Addr).add j)=some u):=Lh (fun j u hu=>(by rw [Xbt,Nat.zero_add,Y5];simpa using hu));have hbo8:Hid (∀ (g:Nat) w9,(w8.alloc (.cells #[.int .i64 x1.type,.slice (some ⟨g1,0,none⟩) fl c1] 107)).grownBy w9 (Value.slice nva k nvc).ownBlock→w9.heap[bo]?=some (.cells #[.slice (some ⟨gg,0,none⟩) gn gcap,.slice nva k nvc] 52 (0,0))):=Lh (fun g w9 hg=>(by have h1:w8.heap[bo]?=_:=Yk hW8 HMEM.out.box;rw [hg.block _ (by have h2:=(La h1);simp;omega) HNV.out.symm,Below.heap_alloc _ _ _ (La h1),h1]));clear hO1 hge1 hgs1 hb1 hW8;refine hK.out _ _ (⟨y1,n08,n18⟩) (fun hHeld=>?_);clear hK K;(try simp only [Act.put,List.setIfInBounds_toArray,List.set_cons_zero,List.set_cons_succ]);refine wpAnyH_take (i:=16) (oi:=⟨some 33,.build 107 #[(0,.tmp 24),(1,.tmp 32)],107, "ref.go:431",#[⟨7,.data⟩,⟨15,.data⟩],none⟩) (v:=.agg #[.int .i64 x1.type,.slice (some ⟨g1,0,none⟩) fl c1]) rfl (by kernel_rfl) (by kernel_rfl) (by kernel_rfl) (fun _ _ _ h=>h) (Or.inl ⟨by rfl,by intro wV hSw;(try dsimp only at hSw);go_simp⟩) (by assumption) ?_;(try simp only [Act.put,List.setIfInBounds_toArray,List.set_cons_zero,List.set_cons_succ]))
   all_goals
    first
     | (have _h:=mk3;clear _h)
     | (refine wpAnyH_ready (rs:=[17]) (by kernel_rfl) (by simp) ?_;refine AllReadyH.cons (o:=⟨some 34,.buildSlice 50 1 #[(0,.tmp 33)],50, "ref.go:431",#[⟨16,.data⟩],none⟩) rfl (fun K hK=>?_) AllReadyH.nil;go_simp;refine hK.out _ _ (⟨Xc (Xa _ _) y1,Xc (Xa _ _) n08,Xc (Xa _ _) n18⟩) (fun hHeld=>?_);clear hK K;(try simp only [Act.put,List.setIfInBounds_toArray,List.set_cons_zero,List.set_cons_succ]))
   all_goals (refine wpAnyH_ready (rs:=[18]) (by kernel_rfl) (by simp) ?_;refine AllReadyH.cons (o:=⟨some 35,.call ⟨.builtin .append,#[.tmp 18,.tmp 34],#[50,50]⟩,50, "ref.go:431",#[⟨1,.data⟩,⟨17,.data⟩,⟨15,.chain⟩],none⟩) rfl (fun K hK=>?_) AllReadyH.nil;refine step_append_lies _ rfl (.tmp 18) (.tmp 34) 50 rfl 0 107 ti (.agg #[.int .i64 0,.slice none 0 0]) 2 32 Tryz.underlying50 hti hz0 hz1 hz2 rfl (by decide) (.slice nva k nvc) k cells rfl hrow8.out ⟨w8.heap.size,0,none⟩ 1 1 [.int .i64 x1.type,.slice (some ⟨g1,0,none⟩) fl c1] rfl rfl hnews8.out (by simp [Value.oneCell']) (by omega) (by unfold maxLen;omega) (by omega) (Nat.zero_le _) (w8.heap.size+1) (by simp) ?_;intro g cap w9 ho hg hlies hglt;have HO9:=Lh ho;have HG9:=Lh hg;have HLI:=Lh hlies;have hbo9:=hbo8.out g w9 hg;have v9:w9.cell? ⟨bo,1,none⟩=some (.slice nva k nvc):=(by rw [cell_of_row _ _ _ _ _ _ hbo9];rfl);have vf9:w9.frozen? ⟨bo,1,none⟩=false:=(Fz hbo9);have zv9:=Bl v9;have m19:=(World.grownBy.cell_far hg ⟨w.heap.size,1,none⟩ (by first|omega|simp<;>omega) (HFAR.out _ (by (try dsimp only);omega))).trans (Xc (Xa _ _) y1);have m09:=(World.grownBy.cell_far hg ⟨nb,no+k*2,none⟩ (by first|omega|simp<;>omega) (HFAR.out _ (by (try dsimp only);omega))).trans (Xc (Xa _ _) n08);have m29:=(World.grownBy.cell_far hg ⟨nb,no+k*2+1,none⟩ (by first|omega|simp<;>omega) (HFAR.out _ (by (try dsimp only);omega))).trans (Xc (Xa _ _) n18);clear ho hg hlies hbo9;refine hK.out _ _ (⟨m19,m09,m29⟩) (fun hHeld=>?_);clear hK K;(try simp only [Act.put,List.setIfInBounds_toArray,List.set_cons_zero,List.set_cons_succ]);refine wpAnyH_take (i:=19) (oi:=⟨some 36,.fieldAddr 52 (.tmp 3) 1,0, "ref.go:431",#[⟨0,.phase⟩,⟨1,.phase⟩,⟨2,.phase⟩,⟨3,.phase⟩,⟨4,.phase⟩,⟨5,.phase⟩,⟨6,.phase⟩,⟨7,.phase⟩,⟨8,.phase⟩,⟨9,.phase⟩,⟨10,.phase⟩,⟨11,.phase⟩,⟨12,.phase⟩,⟨13,.phase⟩,⟨14,.phase⟩,⟨15,.phase⟩,⟨16,.phase⟩,⟨17,.phase⟩,⟨18,.phase⟩],none⟩) (v:=.pointer (some ⟨bo,1,none⟩)) rfl (by kernel_rfl) (by kernel_rfl) (by kernel_rfl) (fun _ _ _ h=>h) (Or.inl ⟨by rfl,by intro wV hSw;(try dsimp only at hSw);go_simp⟩) (by assumption) ?_;(try simp only [Act.put,List.setIfInBounds_toArray,List.set_cons_zero,List.set_cons_succ]))
   all_goals (refine wpAnyH_ready (rs:=[20]) (by kernel_rfl) (by simp) ?_;refine AllReadyH.cons (o:=⟨none,.store 50 (.tmp 36) (.tmp 35),0, "ref.go:431",#[⟨19,.data⟩,⟨18,.data⟩,⟨18,.chain⟩,⟨0,.phase⟩,⟨1,.phase⟩,⟨2,.phase⟩,⟨3,.phase⟩,⟨4,.phase⟩,⟨5,.phase⟩,⟨6,.phase⟩,⟨7,.phase⟩,⟨8,.phase⟩,⟨9,.phase⟩,⟨10,.phase⟩,⟨11,.phase⟩,⟨12,.phase⟩,⟨13,.phase⟩,⟨14,.phase⟩,⟨15,.phase⟩,⟨16,.phase⟩,⟨17,.phase⟩,⟨18,.phase⟩],none⟩) rfl (fun K hK=>?_) AllReadyH.nil;go_simp;refine hK.out _ _ (⟨Xw.cell m19 (by first|omega|simp<;>omega),Xw.cell m09 (by first|omega|simp<;>omega),Xw.cell m29 (by first|omega|simp<;>omega)⟩) (fun hHeld=>?_);clear hK K;(try simp only [Act.put,List.setIfInBounds_toArray,List.set_cons_zero,List.set_cons_succ]))
   all_goals (refine wpAnyH_done (by kernel_rfl) ?_ _)
   all_goals
    have hnew:Hid (CmSt m (w.heap.size+2) bo (.slice (some ⟨gg,0,none⟩) gn gcap) [gg] W (k+1) (w9.setCell ⟨bo,1,none⟩ (.slice (some ⟨g,0,none⟩) (k+1) cap))):=Lh (by
     have h1:=HMEM.out.addN (w4:=w8.alloc (.cells #[.int .i64 x1.type,.slice (some ⟨g1,0,none⟩) fl c1] 107)) (w5:=w9) (x:=x1) (lv:=.slice (some ⟨g1,0,none⟩) fl c1) (Fl:=[g1]) (g:=g) (cap:=cap) (HB8.out.then (Xa _ _)) (HO1.out.keep (fun b hb=>Below.heap_alloc _ _ _ (HO1.out.lt b hb))) (fun b hb=>by have h1:=HG1.out;simp at hb;omega) (by simp) HX64.out (by show w9.ownsRow 0 _ 2 (.slice (some ⟨g,0,none⟩) ((m.nodes.take k).length+1) cap) ((m.nodes.take k).length+1) _;rw [HTL.out];exact HO9.out) HG9.out (by rcases HLI.out with h1|h1;exact .inl h1;exact .inr (by rw [h1];simp))
     have e1:m.nodes.take (k+1)=m.nodes.take k++[x1]:=by rw [List.take_add_one,HX1.out];rfl
     have e2:(⟨m.globals,m.nodes.take k⟩:Mm).nodes.length=k:=HTL.out
     rw [e2] at h1
     unfold CmSt
     rw [e1]
     exact ⟨_,_,_,_,h1.1,h1.2.1.ge HGE2.out (by have:=HBW.out.size;have:=hsz.out;omega),HBW.out.trans (h1.2.1.below HGE2.out (by have:=HBW.out.size;have:=hsz.out;omega))⟩)
    go_wp2_with fail
    go_roundw
    case rel=>exact ⟨k+1,by omega,by go_num,hnew⟩
    case measure=>simp [intOf];omega
  ·obtain rfl:k=nn:=by omega
   have hfull:m.nodes.take k=m.nodes:=by rw [HNN.out];exact List.take_length
   rw [hfull] at HMEM
   obtain ⟨p1,p2⟩:=Xfw C1.out (.slice (some ⟨gg,0,none⟩) gn gcap) (.slice nva k nvc)
   have hfin:Hid (CpdPost m w (.returned (.agg #[.slice (some ⟨gg,0,none⟩) gn gcap,.slice nva k nvc])) (Xge wr (w.heap.size+1) (.slice (some ⟨gg,0,none⟩) gn gcap) (.slice nva k nvc))):=Lh (by
    have hlt:=HMEM.out.lt
    have hr:MRow wr m (.slice (some ⟨gg,0,none⟩) gn gcap) (.slice nva k nvc) cells [gg] Fn:=⟨HMEM.out.glob,HMEM.out.row,HMEM.out.nodes,(List.nodup_cons.1 HMEM.out.nodup).2⟩
    have hA:∀ b∈[gg]++((Value.slice nva k nvc).ownBlock.toList++Fn),w.heap.size+2≤b:=fun b hb=>HGE2.out b (List.mem_cons_of_mem _ hb)
    refine ⟨_,_,cells,[gg],Fn,rfl,hr.keep (fun b hb=>p2.block b (hr.lt b hb) (fun e=>by have:=hA b hb;rw [List.mem_singleton] at e;omega)),fun b hb=>by have:=hA b hb;omega,(hWb.out.trans (HBW.out.mono (by omega))).trans (p2.below (fun b hb=>by simp at hb;omega) (Nat.le_trans hWb.out.size HBW.out.size))⟩)
   have P1:=Lh p1
   have v0:wr.cell? ⟨bo,0,none⟩=some (.slice (some ⟨gg,0,none⟩) gn gcap):=by rw [cell_of_row _ _ _ _ _ _ HMEM.out.box];rfl
   have y0:wr.cell? ⟨w.heap.size+1,0,none⟩=some (.slice none 0 0):=by rw [cell_of_row _ _ _ _ _ _ C1.out];rfl
   have y1:wr.cell? ⟨w.heap.size+1,1,none⟩=some (.slice none 0 0):=by rw [cell_of_row _ _ _ _ _ _ C1.out];rfl
   have f0:wr.frozen? ⟨w.heap.size+1,0,none⟩=false:=Fz C1.out
   have f1:wr.frozen? ⟨w.heap.size+1,1,none⟩=false:=Fz C1.out
   have zy:=Bl y0
   clear p1 p2 hfull
   go_wp2_with fail
   exact bodyPost_ret (v:=.agg #[.slice (some ⟨gg,0,none⟩) gn gcap,.slice nva k nvc]) (results_mem1 (p:=2) rfl P1.out _ rfl) rfl hfin.out
def Xlc (c:Cod) (m:Mch) (n:Int) (w:World) (F:List Nat) (e:Ending) (w':World):Prop:=∃ m',Jv c m n m'∧Qh w F m' e w'
theorem Xl6 {c:Cod} (hs:Xv c) (hsm:Zb c) {w:World} {fv:Value} {m:Mch} {F:List Nat} {fs:List Fra} {f:Fra} (fa ga:Option Addr) (fn fc gc:Nat) (g n:Int) (hwt:Qr c m m.req fs f) (hnum:Ug m)
  (B:Nat) (hB:B≤w.heap.size) (hfs:Xf B w 5 (Zl B) (.slice ga c.funcs.length gc) c.funcs) (hv:Z9 w fv m.frames F) (hFB:∀ b∈F,B≤b) (ha:Yr m.req n=true) :
  Calls Tryz.prog 55 #[.agg #[.slice fa fn fc,.int .i64 g,.slice ga c.funcs.length gc],Xi fv m,.int .i64 n] w (Xlc c m n w F):=by
 obtain ⟨fb,cap,cur,cs,lv,sv,Fi,Fl,Fs,rfl,rfl,hT⟩:=hv.top hwt.fr
 have HF:=Lh hv.lt
 have HFB:=Lh hFB
 have HFS:=Lh hfs
 have HWT:=Lh hwt
 have HNU:=Lh hnum
 have HA:=Lh ha
 have hkk:m.req.kind=1∨m.req.kind=2∨m.req.kind=3:=by
  obtain ⟨_,x,_,_,_,_,hax,_⟩:=hwt.top
  exact Ua hax
 have hvn:Hid (m.req.kind=1∨m.req.kind=3→isV n):=Lh (fun h=>by
  unfold Yr at ha
  rcases h with h|h
  ·rw [if_pos h] at ha;exact Ye.1 ha
  ·rw [if_neg (by omega),if_pos h] at ha;simp at ha;unfold isV;omega)
 have hstl:f.stack.length<1000000:=by
  obtain ⟨y,x,hh,hb,h1,hx,_,hr,hl⟩:=hwt.top
  have h2:=Qu (hs.wf hb.fn) (hs.snd hb.fn) hr
  have h3:=hsm y (List.mem_of_getElem? hb.fn)
  have h4:=((hs.wf hb.fn).pops x (List.mem_of_getElem? hx)).1
  omega
 have hfl:=hwt.len
 obtain ⟨cfl,hcfl⟩:∃ q,q=c.funcs.length:=⟨_,rfl⟩
 have HCFL:=Lh hcfl
 rw [←hcfl]
 obtain ⟨W,hW⟩:∃ W,W=((w.alloc (.cells #[.slice fa fn fc,.int .i64 g,.slice ga cfl gc] 25)).alloc (.cells (Xb (.slice (some ⟨fb,0,none⟩) (fs.length+1) cap) m) 36)).alloc (.cells (Xb (.slice none 0 0) Xl) 36):=⟨_,rfl⟩
 have hWb:Hid (Below w.heap.size w W):=by rw [hW];exact Lh (((Xa _ _).then (Xa _ _)).then (Xa _ _))
 have hsz:Hid (W.heap.size=w.heap.size+3):=by rw [hW];exact Lh (by simp)
 have b0:Hid (Xo W w.heap.size [.slice fa fn fc,.int .i64 g,.slice ga cfl gc]):=by rw [hW];exact Lh ((Xd.alloc _).alloc _)
 have b1:W.heap[w.heap.size+1]?=some (.cells (Xb (.slice (some ⟨fb,0,none⟩) (fs.length+1) cap) m) 36 (0,0)):=by
  rw [hW,Below.heap_alloc _ _ _ (by simp)]
  have:=heap_alloc_new (w.alloc (.cells #[.slice fa fn fc,.int .i64 g,.slice ga cfl gc] 25)) (.cells (Xb (.slice (some ⟨fb,0,none⟩) (fs.length+1) cap) m) 36)
  simpa using this
 have b2:W.heap[w.heap.size+1+1]?=some (.cells (Xb (.slice none 0 0) Xl) 36 (0,0)):=by
  rw [hW]
  have:=heap_alloc_new ((w.alloc (.cells #[.slice fa fn fc,.int .i64 g,.slice ga cfl gc] 25)).alloc (.cells (Xb (.slice (some ⟨fb,0,none⟩) (fs.length+1) cap) m) 36)) (.cells (Xb (.slice none 0 0) Xl) 36)
  simpa using this
 have hT0:=hT W (w.heap.size+1) m hWb.out b1 (by omega)
 have H:=Lh hT0
 have hWF:w.heap.size∉(w.heap.size+1)::fb::(Fi++(Fl++Fs)):=fun e=>by
  rw [List.mem_cons] at e
  rcases e with e|e
  ·omega
  ·have:=HF.out _ e;omega
 have HWF:=Lh hWF
 obtain ⟨k0,k1,k2,k3,k4,k5,k6,k7,k8⟩:=Xq b1
 have z1:=(La b1)
 have B2:=Lh b2
 clear b1 b2 hT hT0 hv hwt hnum ha hFB hfs hWF hcfl
 unfold Xi
 unfold Xb Xl at hW
 unfold Xb
 dsimp only at hW ⊢
 go_enter Tryz.func55,Tryz.ntmps55
 go_upto_region 1 with fail
 rw [←hW]
 have HW:=Lh hW
 clear hW
 by_cases h3:m.req.kind=3∧n=0
 ·have e3:(m.req.kind == 3)=true:=by simpa using h3.1
  have e0:(n == 0)=true:=by simpa using h3.2
  have hN:Hid (Jv c m n { m with req:=X0 21,frames:=[] }):=Lh (.inl ⟨h3.1,h3.2,rfl⟩)
  clear h3 hkk
  go_wp2_with fail
  refine (Q0 _ _ _ m 21 _).mono ?_
  rintro e w9 ⟨rfl,hb9⟩
  obtain ⟨t1,t2,t3⟩:=J2 (R:=w.heap.size+1+1) (bm:=w.heap.size+1) (F0:=[]) (F2:=[]) (m1:={ m with req:=X0 21,frames:=[] }) (fv:=.slice none 0 0) hWb.out (Jd w9) ((Xp.of_below hb9).wide (Fs:=[]) (Fs':=[]) (by simp) (by simp)) (by simp) HF.out (by omega) (by omega) (by omega) (by have:=hsz.out;omega) B2.out
  have Q2:=Lh t2
  have Q3:=Lh t3
  obtain ⟨r0,r1,r2,r3,r4,r5,r6,r7,r8⟩:=Xq t1
  obtain ⟨q0,q1,q2,q3,q4,q5,q6,q7,q8⟩:=Xu t1
  have y2:=(La t1)
  clear t1 t2 t3 hb9 k0 k1 k2 k3 k4 k5 k6 k7 k8 z1 e3 e0
  unfold Xi Xb
  go_wp2_with fail
  exact bodyPost_ret (v:=Xi (.slice none 0 0) { m with req:=X0 21,frames:=[] }) (Xn (p:=6) rfl Q2.out _ rfl) rfl ⟨_,hN.out,Q3.out⟩
 by_cases h2:m.req.kind=2
 ·have e3:(m.req.kind == 3)=false:=by simp;omega
  have e2:(m.req.kind != 2)=false:=by simp [h2]
  have hgood:Hid (Ja c { m with req:=noR } fs f):=Lh (HWT.out.goOn HNU.out h2 noR)
  have hnx:Hid (∀ m',Zm c { m with req:=noR } m'→Jv c m n m'):=Lh (fun m' h=>.inr (.inr ⟨h2,h⟩))
  have hfs1:Hid (Xf B W 5 (Zl B) (.slice ga c.funcs.length gc) c.funcs):=Lh (HFS.out.funs (hWb.out.mono hB))
  have hv1:Hid (Z9 W (.slice (some ⟨fb,0,none⟩) (fs.length+1) cap) m.frames (fb::(Fi++(Fl++Fs)))):=Lh (by rw [HWT.out.fr];exact Xd5 H.out)
  have i0:=b0.out 0 _ rfl
  have i1:=b0.out 1 _ rfl
  have i2:=b0.out 2 _ rfl
  have zi:=Bl i0
  clear h3 h2 hkk
  go_wp2_with fail
  have hcall:=Xd8 (m:=m) hs hsm fa ga fn fc gc g hgood.out B (Nat.le_trans hB hWb.out.size) hfs1.out hv1.out HFB.out
  rw [←HCFL.out] at hcall
  refine hcall.mono ?_
  clear hcall
  rintro e w9 ⟨m',hR,fv9,F9,rfl,hV9,hM9⟩
  obtain ⟨a9,c9,rfl⟩:=hV9.form
  have HR:=Lh hR
  obtain ⟨t1,t2,t3⟩:=J2 (R:=w.heap.size+1+1) (bm:=w.heap.size+1) hWb.out hV9 ((hM9.wide (F:=(w.heap.size+1)::fb::(Fi++(Fl++Fs))) (F':=(w.heap.size+1)::F9) (fun b hb=>List.mem_cons_of_mem _ hb) (fun b hb=>by rw [List.mem_cons] at hb;rcases hb with hb|hb;right;simp [hb];left;exact hb))) (fun x hx=>List.mem_cons_of_mem _ hx) HF.out (by omega) (by omega) (by omega) (by have:=hsz.out;omega) B2.out
  obtain ⟨n9,hn9⟩:∃ u,u=m'.frames.length:=⟨_,rfl⟩
  rw [←hn9] at t2 t3 ⊢
  have HN9:=Lh hn9
  have Q2:=Lh t2
  have Q3:=Lh t3
  obtain ⟨r0,r1,r2,r3,r4,r5,r6,r7,r8⟩:=Xq t1
  obtain ⟨q0,q1,q2,q3,q4,q5,q6,q7,q8⟩:=Xu t1
  have y2:=(La t1)
  clear t1 t2 t3 hR hV9 hM9 hn9 k0 k1 k2 k3 k4 k5 k6 k7 k8 z1 i0 i1 i2 zi
  unfold Xi Xb
  go_wp2_with fail
  exact bodyPost_ret (v:=Xi (.slice a9 n9 c9) m') (Xn (p:=6) rfl Q2.out _ rfl) rfl ⟨_,hnx.out _ HR.out,Q3.out⟩
 ·have e2:(m.req.kind != 2)=true:=by simpa using h2
  have hk13:m.req.kind=1∨m.req.kind=3:=by omega
  have hgood:Hid (Ja c { m with req:=noR,frames:=fs++[{ f with stack:=f.stack++[n] }] } fs { f with stack:=f.stack++[n] }):=Lh (HWT.out.push HNU.out hk13 n (hvn.out hk13) noR)
  have hnx:Hid (∀ m',Zm c { m with req:=noR,frames:=fs++[{ f with stack:=f.stack++[n] }] } m'→Jv c m n m'):=Lh (fun m' h=>.inr (.inl ⟨by omega,fs,f,HWT.out.fr,h⟩))
  have hn64:in64 n:=(hvn.out hk13).in64
  have hpk:((m.req.kind == 3)=true∧(n == 0)=false)∨(m.req.kind == 3)=false:=by
   by_cases h:m.req.kind=3
   ·left
    exact ⟨by simpa using h,by simpa using fun e=>h3 ⟨h,e⟩⟩
   ·right;simpa using h
  clear h3 h2 hkk hk13
  rcases hpk with ⟨e3,e0⟩|e3
  all_goals
   go_wp2_with fail
   refine (Qm m H.out (by omega) n hn64 hstl).mono ?_
   rintro e w2 ⟨rfl,cur2,sv2,Fs2,hT2,hM2⟩
   have HT2:=Lh hT2
   have HM2:=Lh hM2
   have i0:=hM2.cell (b0.out 0 _ rfl) HWF.out
   have i1:=hM2.cell (b0.out 1 _ rfl) HWF.out
   have i2:=hM2.cell (b0.out 2 _ rfl) HWF.out
   have zi:=Bl i0
   clear k0 k1 k2 k3 k4 k5 k6 k7 k8 z1
   obtain ⟨k0,k1,k2,k3,k4,k5,k6,k7,k8⟩:=Xq hT2.mach
   have z1:=(La hT2.mach)
   have hBw:Below B W w2:=hM2.below (fun x hx=>by
    rw [List.mem_cons] at hx
    rcases hx with hx|hx
    ·omega
    ·exact HFB.out x hx) (by have:=hsz.out;omega)
   have hfs2:Hid (Xf B w2 5 (Zl B) (.slice ga c.funcs.length gc) c.funcs):=Lh ((HFS.out.funs (hWb.out.mono hB)).funs hBw)
   have hB2:B≤w2.heap.size:=by have h1:=hBw.size;have h2:=hsz.out;omega
   have hv2:Hid (Z9 w2 (.slice (some ⟨fb,0,none⟩) (fs.length+1) cap) (fs++[{ f with stack:=f.stack++[n] }]) (fb::(Fi++(Fl++Fs2)))):=Lh (Xd5 hT2)
   have hFB2:Hid (∀ x∈fb::(Fi++(Fl++Fs2)),B≤x):=Lh (fun x hx=>by
    rcases hM2.new x (List.mem_cons_of_mem _ hx) with h|h
    ·rw [List.mem_cons] at h
     rcases h with h|h
     ·omega
     ·exact HFB.out x h
    ·have:=hsz.out;omega)
   have hMW:Hid (Xp ((w.heap.size+1)::fb::(Fi++(Fl++Fs))) ((w.heap.size+1)::fb::(Fi++(Fl++Fs2))) W w2):=HM2
   clear hT2 hM2 hBw
   go_wp2_with fail
   have hcall:=Xd8 (m:={ m with frames:=fs++[{ f with stack:=f.stack++[n] }] }) hs hsm fa ga fn fc gc g hgood.out B hB2 hfs2.out hv2.out hFB2.out
   rw [←HCFL.out] at hcall
   refine hcall.mono ?_
   clear hcall
   rintro e w9 ⟨m',hR,fv9,F9,rfl,hV9,hM9⟩
   obtain ⟨a9,c9,rfl⟩:=hV9.form
   have HR:=Lh hR
   obtain ⟨t1,t2,t3⟩:=J2 (R:=w.heap.size+1+1) (bm:=w.heap.size+1) hWb.out hV9 (hMW.out.trans (hM9.wide (F:=(w.heap.size+1)::fb::(Fi++(Fl++Fs2))) (F':=(w.heap.size+1)::F9) (fun b hb=>List.mem_cons_of_mem _ hb) (fun b hb=>by rw [List.mem_cons] at hb;rcases hb with hb|hb;right;simp [hb];left;exact hb))) (fun x hx=>List.mem_cons_of_mem _ hx) HF.out (by omega) (by omega) (by omega) (by have:=hsz.out;omega) B2.out
   obtain ⟨n9,hn9⟩:∃ u,u=m'.frames.length:=⟨_,rfl⟩
   rw [←hn9] at t2 t3 ⊢
   have HN9:=Lh hn9
   have Q2:=Lh t2
   have Q3:=Lh t3
   obtain ⟨r0,r1,r2,r3,r4,r5,r6,r7,r8⟩:=Xq t1
   obtain ⟨q0,q1,q2,q3,q4,q5,q6,q7,q8⟩:=Xu t1
   have y2:=(La t1)
   clear t1 t2 t3 hR hV9 hM9 hn9 k0 k1 k2 k3 k4 k5 k6 k7 k8 z1 i0 i1 i2 zi
   unfold Xi Xb
   go_wp2_with fail
   exact bodyPost_ret (v:=Xi (.slice a9 n9 c9) m') (Xn (p:=6) rfl Q2.out _ rfl) rfl ⟨_,hnx.out _ HR.out,Q3.out⟩
end Go.Proofs.YtbmeoklmachjpaaGreatDoor
