/- play: the copy of the memory, and the run. MADE BY wip/gen_pla.py -/
import Derived.Test.YtbmeoklmachjpaaGreatDoorAsk
set_option maxHeartbeats 20000000
set_option maxRecDepth 1000000
set_option linter.unusedVariables false
set_option linter.unusedSimpArgs false
namespace Go.Proofs.YtbmeoklmachjpaaGreatDoor
open Go.RowKit
theorem Xog {W7 w8:World} {T:TypeId} {sz n k:Nat} {na:Option Addr} {nc:Nat} {cells:List Value} {o:Obj} (h:W7.ownsRow 0 T sz (.slice na n nc) n cells) (hn:n=k) (hb:Below W7.drew.heap.size W7.drew w8):(w8.alloc o).ownsRow 0 T sz (.slice na k nc) k cells:=by
 subst hn
 refine Qi h (fun b hb'=>?_)
 have hlt:=Ve h b hb'
 have h1:w8.heap[b]?=W7.heap[b]?:=hb.block b hlt
 have h2:b<w8.heap.size:=Nat.lt_of_lt_of_le hlt hb.size
 rw [Below.heap_alloc _ _ _ h2,h1]
theorem Xp.newer {F F' F'':List Nat} {w w':World} (h:Xp F F' w w') (h2:∀ b∈F'',b∈F∨w.heap.size≤b):Xp F F'' w w':=⟨h.os,h.tape,h.output,h.size,h.block,h2⟩
theorem Yj.funs {B:Nat} {w:World} {fv g gv:Value} {c:Cod} (h:Yj B w (.agg #[fv,g,gv]) c):Xf B w 5 (Zl B) gv c.funcs:=by
 obtain ⟨a,b,h1,_,h2,_⟩:=h
 simp only [Value.agg.injEq,Array.mk.injEq,List.cons.injEq,and_true] at h1
 rw [h1.2.2];exact h2
theorem Yj.fieldAt {B:Nat} {w:World} {fa:Option Addr} {fc i:Nat} {k:Int} {g gv:Value} {c:Cod} (h:Yj B w (.agg #[.slice fa c.fields.length fc,g,gv]) c) (hi:c.fields[i]?=some k):∃ fb fo,fa=some ⟨fb,fo,none⟩∧fb<B∧w.cell? ⟨fb,fo+i,none⟩=some (.int .i64 k):=by
 obtain ⟨a,b,h1,h3,h2,_⟩:=h
 simp only [Value.agg.injEq,Array.mk.injEq,List.cons.injEq,and_true] at h1
 rw [←h1.1] at h3
 obtain ⟨a0,cap0,he0,_,_,_,hE⟩:=h3
 obtain ⟨rfl,rfl⟩:fa=a0∧fc=cap0:=by simpa using he0
 rcases hE with h0|⟨nb,no,rfl,hb,hE⟩
 ·rw [h0] at hi;simp at hi
 ·have:=(hE i k hi).1
  rw [Nat.mul_one] at this
  exact ⟨nb,no,rfl,hb,this⟩
theorem X7 (w:World) (o:Obj):Below w.heap.size w (w.alloc o).drew:=Xh (Xa w o) 1
theorem Xjk {w:World} {k:Nat} (hk:k≤1048576):Yv (w.alloc (.cells (Xx (List.replicate k 0)) 3)) (.slice (some ⟨w.heap.size,0,none⟩) k k) (List.replicate k 0) [w.heap.size]:=by
 refine ⟨⟨by simp,.inr ⟨w.heap.size,k,_,by simp,Nat.zero_le _,heap_alloc_new w _,by simp,by unfold maxLen;omega,by simp [Xx],by simp [Xx]⟩⟩,by simp [Value.ownBlock],fun n hn=>?_⟩
 rw [List.mem_replicate] at hn
 rw [hn.2];unfold in64;omega
/-- a cell that holds what is stored in it -/
def SetIs (W:World) (b j:Nat) (v:Value):Prop:=W.setCell ⟨b,j,none⟩ v=W∧W.cell? ⟨b,j,none⟩=some v∧W.frozen? ⟨b,j,none⟩=false
theorem setIs_of {W:World} {b j:Nat} {v:Value} {cs:Array Value} {t:TypeId} (h:W.heap[b]?=some (.cells cs t (0,0))) (hv:cs[j]?=some v):SetIs W b j v:=
 ⟨Xg h hv,by rw [cell_of_row _ _ _ _ _ _ h];exact hv,Fz h⟩
theorem PSt.outs {A:Nat} {W wr:World} {bm bo bl bc:Nat} {m:Mch} {p:Ply} {f v k:Int} {Fm Fg Fn:List Nat} {gv nv lv:Value} {cells:List Value} (h:PSt A W wr bm bo bl bc m p f v k Fm gv nv cells Fg Fn lv) :
  SetIs wr bc 0 (.int .i64 f)∧SetIs wr bc 1 (.int .i64 v)∧SetIs wr bc 2 (.int .i64 k)∧SetIs wr bc 3 (.int .i64 p.nodes)∧SetIs wr bc 4 (.int .i64 0)∧SetIs wr bo 0 gv∧SetIs wr bo 1 nv∧SetIs wr bl 0 lv∧bc<wr.heap.size∧bo<wr.heap.size∧bl<wr.heap.size:=
 ⟨setIs_of h.out rfl,setIs_of h.out rfl,setIs_of h.out rfl,setIs_of h.out rfl,setIs_of h.out rfl,setIs_of h.mem.box rfl,setIs_of h.mem.box rfl,setIs_of h.log.box rfl,(La h.out),(La h.mem.box),(La h.log.box)⟩
theorem Xk3 (c:Cod) (m:Mm) (x:Cal) (fuel:Int) (fa ga va na xa:Option Addr) (fc gc vc nc xc B:Nat) (w:World) (hL:Qa w) (hB:B≤w.heap.size) (hc:Yj B w (.agg #[.slice fa c.fields.length fc,.int .i64 c.globals,.slice ga c.funcs.length gc]) c) (hm:MmV B w (.agg #[.slice va m.globals.length vc,.slice na m.nodes.length nc]) m) (hx:J8 B w (.agg #[.string x.proc,.slice xa x.args.length xc]) x) (hs:Xv c) (hft:Q7 c m=true) (hsm:Zb c) (hgv:Yd c x fuel=0) :
  Calls Tryz.prog 58 #[.agg #[.slice fa c.fields.length fc,.int .i64 c.globals,.slice ga c.funcs.length gc],.agg #[.slice va m.globals.length vc,.slice na m.nodes.length nc],.agg #[.string x.proc,.slice xa x.args.length xc],.int .i64 fuel] w (Xdz c m x fuel w):=by
 have HFT:=Lh hft
 have HGV:=Lh hgv
 clear hft hgv
 obtain ⟨W,hW⟩:∃ W,W=(((((w.alloc (.cells #[.slice fa c.fields.length fc,.int .i64 c.globals,.slice ga c.funcs.length gc] 25)).alloc (.cells #[.slice va m.globals.length vc,.slice na m.nodes.length nc] 52)).alloc (.cells #[.string x.proc,.slice xa x.args.length xc] 27)).alloc (.cells (X8 0 0 0 0) 57)).alloc (.cells #[.slice none 0 0,.slice none 0 0] 52)).alloc (.cells #[.slice none 0 0] 60):=⟨_,rfl⟩
 have hWb:Hid (Below w.heap.size w W):=by rw [hW];exact (((((Xa _ _).then (Xa _ _)).then (Xa _ _)).then (Xa _ _)).then (Xa _ _)).then (Xa _ _)
 have hsz:Hid (W.heap.size=w.heap.size+6):=by rw [hW];exact Lh (by simp)
 have bb:Hid (W.heap[w.heap.size]?=some (.cells #[.slice fa c.fields.length fc,.int .i64 c.globals,.slice ga c.funcs.length gc] 25 (0,0))∧W.heap[w.heap.size+1]?=some (.cells #[.slice va m.globals.length vc,.slice na m.nodes.length nc] 52 (0,0))∧W.heap[w.heap.size+1+1]?=some (.cells #[.string x.proc,.slice xa x.args.length xc] 27 (0,0))∧Y7 W (w.heap.size+1+1+1) 0 0 0 0∧W.heap[w.heap.size+1+1+1+1]?=some (.cells #[.slice none 0 0,.slice none 0 0] 52 (0,0))∧W.heap[w.heap.size+1+1+1+1+1]?=some (.cells #[.slice none 0 0] 60 (0,0))):=Lh (by
  rw [hW]
  refine ⟨?_,?_,?_,?_,?_,?_⟩
  ·rw [Below.heap_alloc _ _ _ (by simp<;>omega),Below.heap_alloc _ _ _ (by simp<;>omega),Below.heap_alloc _ _ _ (by simp<;>omega),Below.heap_alloc _ _ _ (by simp<;>omega),Below.heap_alloc _ _ _ (by simp<;>omega)]
   exact heap_alloc_new _ _
  ·rw [Below.heap_alloc _ _ _ (by simp<;>omega),Below.heap_alloc _ _ _ (by simp<;>omega),Below.heap_alloc _ _ _ (by simp<;>omega),Below.heap_alloc _ _ _ (by simp<;>omega)]
   have:=heap_alloc_new (w.alloc (.cells #[.slice fa c.fields.length fc,.int .i64 c.globals,.slice ga c.funcs.length gc] 25)) (.cells #[.slice va m.globals.length vc,.slice na m.nodes.length nc] 52)
   simpa using this
  ·rw [Below.heap_alloc _ _ _ (by simp<;>omega),Below.heap_alloc _ _ _ (by simp<;>omega),Below.heap_alloc _ _ _ (by simp<;>omega)]
   have:=heap_alloc_new ((w.alloc (.cells #[.slice fa c.fields.length fc,.int .i64 c.globals,.slice ga c.funcs.length gc] 25)).alloc (.cells #[.slice va m.globals.length vc,.slice na m.nodes.length nc] 52)) (.cells #[.string x.proc,.slice xa x.args.length xc] 27)
   simpa using this
  ·unfold Y7
   rw [Below.heap_alloc _ _ _ (by simp<;>omega),Below.heap_alloc _ _ _ (by simp<;>omega)]
   have:=heap_alloc_new (((w.alloc (.cells #[.slice fa c.fields.length fc,.int .i64 c.globals,.slice ga c.funcs.length gc] 25)).alloc (.cells #[.slice va m.globals.length vc,.slice na m.nodes.length nc] 52)).alloc (.cells #[.string x.proc,.slice xa x.args.length xc] 27)) (.cells (X8 0 0 0 0) 57)
   simpa using this
  ·rw [Below.heap_alloc _ _ _ (by simp<;>omega)]
   have:=heap_alloc_new ((((w.alloc (.cells #[.slice fa c.fields.length fc,.int .i64 c.globals,.slice ga c.funcs.length gc] 25)).alloc (.cells #[.slice va m.globals.length vc,.slice na m.nodes.length nc] 52)).alloc (.cells #[.string x.proc,.slice xa x.args.length xc] 27)).alloc (.cells (X8 0 0 0 0) 57)) (.cells #[.slice none 0 0,.slice none 0 0] 52)
   simpa using this
  ·have:=heap_alloc_new (((((w.alloc (.cells #[.slice fa c.fields.length fc,.int .i64 c.globals,.slice ga c.funcs.length gc] 25)).alloc (.cells #[.slice va m.globals.length vc,.slice na m.nodes.length nc] 52)).alloc (.cells #[.string x.proc,.slice xa x.args.length xc] 27)).alloc (.cells (X8 0 0 0 0) 57)).alloc (.cells #[.slice none 0 0,.slice none 0 0] 52)) (.cells #[.slice none 0 0] 60)
   simpa using this)
 have HC:=Lh hc
 have HM:=Lh hm
 have HX:=Lh hx
 have HL:=Lh hL
 have hWB:B≤W.heap.size:=by have:=hsz.out;omega
 clear hc hm hx hL
 have i0:W.cell? ⟨w.heap.size,0,none⟩=some (.slice fa c.fields.length fc):=by rw [cell_of_row _ _ _ _ _ _ bb.out.1];rfl
 have i1:W.cell? ⟨w.heap.size,1,none⟩=some (.int .i64 c.globals):=by rw [cell_of_row _ _ _ _ _ _ bb.out.1];rfl
 have i2:W.cell? ⟨w.heap.size,2,none⟩=some (.slice ga c.funcs.length gc):=by rw [cell_of_row _ _ _ _ _ _ bb.out.1];rfl
 have m0:W.cell? ⟨w.heap.size+1,0,none⟩=some (.slice va m.globals.length vc):=by rw [cell_of_row _ _ _ _ _ _ bb.out.2.1];rfl
 have m1:W.cell? ⟨w.heap.size+1,1,none⟩=some (.slice na m.nodes.length nc):=by rw [cell_of_row _ _ _ _ _ _ bb.out.2.1];rfl
 have x0:W.cell? ⟨w.heap.size+1+1,0,none⟩=some (.string x.proc):=by rw [cell_of_row _ _ _ _ _ _ bb.out.2.2.1];rfl
 have x1:W.cell? ⟨w.heap.size+1+1,1,none⟩=some (.slice xa x.args.length xc):=by rw [cell_of_row _ _ _ _ _ _ bb.out.2.2.1];rfl
 have z0:=Bl i0
 have z1:=Bl m0
 have z2:=Bl x0
 go_enter Tryz.func58,Tryz.ntmps58
 unfold X8 at hW
 go_upto_region 1 with fail
 rw [←hW]
 have HW:=Lh hW
 clear hW
 go_wp2_with fail
 refine (Jm c _ B W (HL.out.below hWb.out) hWB (HC.out.below (hWb.out.mono hB))).mono ?_
 rintro e w1 ⟨rfl,hb1⟩
 rw [Zg hs]
 have HB1:=Lh (hWb.out.then hb1)
 have bb1:Hid (w1.heap[w.heap.size]?=some (.cells #[.slice fa c.fields.length fc,.int .i64 c.globals,.slice ga c.funcs.length gc] 25 (0,0))∧w1.heap[w.heap.size+1]?=some (.cells #[.slice va m.globals.length vc,.slice na m.nodes.length nc] 52 (0,0))∧w1.heap[w.heap.size+1+1]?=some (.cells #[.string x.proc,.slice xa x.args.length xc] 27 (0,0))∧Y7 w1 (w.heap.size+1+1+1) 0 0 0 0∧w1.heap[w.heap.size+1+1+1+1]?=some (.cells #[.slice none 0 0,.slice none 0 0] 52 (0,0))∧w1.heap[w.heap.size+1+1+1+1+1]?=some (.cells #[.slice none 0 0] 60 (0,0))):=Lh ⟨Yk hb1 bb.out.1,Yk hb1 bb.out.2.1,Yk hb1 bb.out.2.2.1,Yk hb1 bb.out.2.2.2.1,Yk hb1 bb.out.2.2.2.2.1,Yk hb1 bb.out.2.2.2.2.2⟩
 clear hb1
 try clear i0
 have i0:w1.cell? ⟨w.heap.size,0,none⟩=some (.slice fa c.fields.length fc):=by rw [cell_of_row _ _ _ _ _ _ bb1.out.1];rfl
 try clear i1
 have i1:w1.cell? ⟨w.heap.size,1,none⟩=some (.int .i64 c.globals):=by rw [cell_of_row _ _ _ _ _ _ bb1.out.1];rfl
 try clear i2
 have i2:w1.cell? ⟨w.heap.size,2,none⟩=some (.slice ga c.funcs.length gc):=by rw [cell_of_row _ _ _ _ _ _ bb1.out.1];rfl
 try clear m0
 have m0:w1.cell? ⟨w.heap.size+1,0,none⟩=some (.slice va m.globals.length vc):=by rw [cell_of_row _ _ _ _ _ _ bb1.out.2.1];rfl
 try clear m1
 have m1:w1.cell? ⟨w.heap.size+1,1,none⟩=some (.slice na m.nodes.length nc):=by rw [cell_of_row _ _ _ _ _ _ bb1.out.2.1];rfl
 try clear x0
 have x0:w1.cell? ⟨w.heap.size+1+1,0,none⟩=some (.string x.proc):=by rw [cell_of_row _ _ _ _ _ _ bb1.out.2.2.1];rfl
 try clear x1
 have x1:w1.cell? ⟨w.heap.size+1+1,1,none⟩=some (.slice xa x.args.length xc):=by rw [cell_of_row _ _ _ _ _ _ bb1.out.2.2.1];rfl
 try clear z0
 have z0:=Bl i0
 try clear z1
 have z1:=Bl m0
 try clear z2
 have z2:=Bl x0
 go_wp2_with fail
 refine (Xdi c _ m _ B w1 (Nat.le_trans hB HB1.out.size) (HC.out.below (HB1.out.mono hB)) (HM.out.below (HB1.out.mono hB))).mono ?_
 rintro e w2 ⟨rfl,hb2⟩
 rw [HFT.out]
 have HB2:=Lh (HB1.out.then hb2)
 have bb2:Hid (w2.heap[w.heap.size]?=some (.cells #[.slice fa c.fields.length fc,.int .i64 c.globals,.slice ga c.funcs.length gc] 25 (0,0))∧w2.heap[w.heap.size+1]?=some (.cells #[.slice va m.globals.length vc,.slice na m.nodes.length nc] 52 (0,0))∧w2.heap[w.heap.size+1+1]?=some (.cells #[.string x.proc,.slice xa x.args.length xc] 27 (0,0))∧Y7 w2 (w.heap.size+1+1+1) 0 0 0 0∧w2.heap[w.heap.size+1+1+1+1]?=some (.cells #[.slice none 0 0,.slice none 0 0] 52 (0,0))∧w2.heap[w.heap.size+1+1+1+1+1]?=some (.cells #[.slice none 0 0] 60 (0,0))):=Lh ⟨Yk hb2 bb1.out.1,Yk hb2 bb1.out.2.1,Yk hb2 bb1.out.2.2.1,Yk hb2 bb1.out.2.2.2.1,Yk hb2 bb1.out.2.2.2.2.1,Yk hb2 bb1.out.2.2.2.2.2⟩
 clear hb2
 try clear i0
 have i0:w2.cell? ⟨w.heap.size,0,none⟩=some (.slice fa c.fields.length fc):=by rw [cell_of_row _ _ _ _ _ _ bb2.out.1];rfl
 try clear i1
 have i1:w2.cell? ⟨w.heap.size,1,none⟩=some (.int .i64 c.globals):=by rw [cell_of_row _ _ _ _ _ _ bb2.out.1];rfl
 try clear i2
 have i2:w2.cell? ⟨w.heap.size,2,none⟩=some (.slice ga c.funcs.length gc):=by rw [cell_of_row _ _ _ _ _ _ bb2.out.1];rfl
 try clear m0
 have m0:w2.cell? ⟨w.heap.size+1,0,none⟩=some (.slice va m.globals.length vc):=by rw [cell_of_row _ _ _ _ _ _ bb2.out.2.1];rfl
 try clear m1
 have m1:w2.cell? ⟨w.heap.size+1,1,none⟩=some (.slice na m.nodes.length nc):=by rw [cell_of_row _ _ _ _ _ _ bb2.out.2.1];rfl
 try clear x0
 have x0:w2.cell? ⟨w.heap.size+1+1,0,none⟩=some (.string x.proc):=by rw [cell_of_row _ _ _ _ _ _ bb2.out.2.2.1];rfl
 try clear x1
 have x1:w2.cell? ⟨w.heap.size+1+1,1,none⟩=some (.slice xa x.args.length xc):=by rw [cell_of_row _ _ _ _ _ _ bb2.out.2.2.1];rfl
 try clear z0
 have z0:=Bl i0
 try clear z1
 have z1:=Bl m0
 try clear z2
 have z2:=Bl x0
 go_wp2_with fail
 refine (Xb5 c x fuel _ _ B w2 (Nat.le_trans hB HB2.out.size) (HC.out.below (HB2.out.mono hB)) (HX.out.below (HB2.out.mono hB)) hs hsm).mono ?_
 rintro e w3 hP
 rcases hP with ⟨h0,_⟩|⟨h0,mq,fv,hR,rfl,F1,hv1,hge1,hb3⟩
 ·exact absurd HGV.out h0
 obtain ⟨fva,fvc,rfl⟩:=hv1.form
 obtain ⟨fvn,hfvn⟩:∃ n,n=mq.frames.length:=⟨_,rfl⟩
 rw [←hfvn] at hv1 ⊢
 have HFVN:=Lh hfvn
 clear hfvn
 have HR:=Lh hR
 have HV1:=Lh hv1
 have HGE1:Hid (∀ b∈F1,w2.heap.size≤b):=Lh hge1
 have hw26:Hid (w.heap.size+6≤w2.heap.size):=Lh (by have h1:=(La bb2.out.2.2.2.2.2);omega)
 have HB3:=Lh (HB2.out.then hb3)
 have bb3:Hid (w3.heap[w.heap.size]?=some (.cells #[.slice fa c.fields.length fc,.int .i64 c.globals,.slice ga c.funcs.length gc] 25 (0,0))∧w3.heap[w.heap.size+1]?=some (.cells #[.slice va m.globals.length vc,.slice na m.nodes.length nc] 52 (0,0))∧w3.heap[w.heap.size+1+1]?=some (.cells #[.string x.proc,.slice xa x.args.length xc] 27 (0,0))∧Y7 w3 (w.heap.size+1+1+1) 0 0 0 0∧w3.heap[w.heap.size+1+1+1+1]?=some (.cells #[.slice none 0 0,.slice none 0 0] 52 (0,0))∧w3.heap[w.heap.size+1+1+1+1+1]?=some (.cells #[.slice none 0 0] 60 (0,0))):=Lh ⟨Yk hb3 bb2.out.1,Yk hb3 bb2.out.2.1,Yk hb3 bb2.out.2.2.1,Yk hb3 bb2.out.2.2.2.1,Yk hb3 bb2.out.2.2.2.2.1,Yk hb3 bb2.out.2.2.2.2.2⟩
 clear hb3 hR hv1 hge1
 obtain ⟨W4,hW4⟩:∃ W,W=w3.alloc (.cells (Xb (.slice fva fvn fvc) mq) 36):=⟨_,rfl⟩
 have hb4:Below w3.heap.size w3 W4:=by rw [hW4];exact Xa _ _
 obtain ⟨bm,hbm⟩:∃ b,b=w3.heap.size:=⟨_,rfl⟩
 have hrow4:W4.heap[bm]?=some (.cells (Xb (.slice fva fvn fvc) mq) 36 (0,0)):=by rw [hW4,hbm];exact heap_alloc_new _ _
 have hO4:Hid (X3 W4 bm mq (bm::F1)):=Lh (Xt.2 ⟨_,F1,hrow4,HV1.out.keep (fun b hb=>hb4.block b (HV1.out.lt b hb)),rfl,fun e=>by have:=HV1.out.lt _ e;omega⟩)
 have hbm6:w.heap.size+6≤bm:=by have h1:=(La bb3.out.2.2.2.2.2);omega
 have hF6:Hid (∀ b∈bm::F1,w.heap.size+6≤b):=Lh (fun b hb=>by
  rw [List.mem_cons] at hb
  rcases hb with rfl|hb
  ·exact hbm6
  ·have h1:=HGE1.out b hb;have h2:=hw26.out;omega)
 have HB4:=Lh (HB3.out.then hb4)
 have bb4:Hid (W4.heap[w.heap.size]?=some (.cells #[.slice fa c.fields.length fc,.int .i64 c.globals,.slice ga c.funcs.length gc] 25 (0,0))∧W4.heap[w.heap.size+1]?=some (.cells #[.slice va m.globals.length vc,.slice na m.nodes.length nc] 52 (0,0))∧W4.heap[w.heap.size+1+1]?=some (.cells #[.string x.proc,.slice xa x.args.length xc] 27 (0,0))∧Y7 W4 (w.heap.size+1+1+1) 0 0 0 0∧W4.heap[w.heap.size+1+1+1+1]?=some (.cells #[.slice none 0 0,.slice none 0 0] 52 (0,0))∧W4.heap[w.heap.size+1+1+1+1+1]?=some (.cells #[.slice none 0 0] 60 (0,0))):=Lh ⟨Yk hb4 bb3.out.1,Yk hb4 bb3.out.2.1,Yk hb4 bb3.out.2.2.1,Yk hb4 bb3.out.2.2.2.1,Yk hb4 bb3.out.2.2.2.2.1,Yk hb4 bb3.out.2.2.2.2.2⟩
 try clear i0
 have i0:w3.cell? ⟨w.heap.size,0,none⟩=some (.slice fa c.fields.length fc):=by rw [cell_of_row _ _ _ _ _ _ bb3.out.1];rfl
 try clear i1
 have i1:w3.cell? ⟨w.heap.size,1,none⟩=some (.int .i64 c.globals):=by rw [cell_of_row _ _ _ _ _ _ bb3.out.1];rfl
 try clear i2
 have i2:w3.cell? ⟨w.heap.size,2,none⟩=some (.slice ga c.funcs.length gc):=by rw [cell_of_row _ _ _ _ _ _ bb3.out.1];rfl
 try clear m0
 have m0:w3.cell? ⟨w.heap.size+1,0,none⟩=some (.slice va m.globals.length vc):=by rw [cell_of_row _ _ _ _ _ _ bb3.out.2.1];rfl
 try clear m1
 have m1:w3.cell? ⟨w.heap.size+1,1,none⟩=some (.slice na m.nodes.length nc):=by rw [cell_of_row _ _ _ _ _ _ bb3.out.2.1];rfl
 try clear x0
 have x0:w3.cell? ⟨w.heap.size+1+1,0,none⟩=some (.string x.proc):=by rw [cell_of_row _ _ _ _ _ _ bb3.out.2.2.1];rfl
 try clear x1
 have x1:w3.cell? ⟨w.heap.size+1+1,1,none⟩=some (.slice xa x.args.length xc):=by rw [cell_of_row _ _ _ _ _ _ bb3.out.2.2.1];rfl
 try clear z0
 have z0:=Bl i0
 try clear z1
 have z1:=Bl m0
 try clear z2
 have z2:=Bl x0
 unfold Xi
 unfold Xb at hW4 ⊢
 have HBM:=Lh hbm
 clear hb4 hrow4
 go_upto_region 6 with fail
 rw [←hW4,← hbm]
 clear hW4 hbm
 try clear i0
 have i0:W4.cell? ⟨w.heap.size,0,none⟩=some (.slice fa c.fields.length fc):=by rw [cell_of_row _ _ _ _ _ _ bb4.out.1];rfl
 try clear i1
 have i1:W4.cell? ⟨w.heap.size,1,none⟩=some (.int .i64 c.globals):=by rw [cell_of_row _ _ _ _ _ _ bb4.out.1];rfl
 try clear i2
 have i2:W4.cell? ⟨w.heap.size,2,none⟩=some (.slice ga c.funcs.length gc):=by rw [cell_of_row _ _ _ _ _ _ bb4.out.1];rfl
 try clear m0
 have m0:W4.cell? ⟨w.heap.size+1,0,none⟩=some (.slice va m.globals.length vc):=by rw [cell_of_row _ _ _ _ _ _ bb4.out.2.1];rfl
 try clear m1
 have m1:W4.cell? ⟨w.heap.size+1,1,none⟩=some (.slice na m.nodes.length nc):=by rw [cell_of_row _ _ _ _ _ _ bb4.out.2.1];rfl
 try clear x0
 have x0:W4.cell? ⟨w.heap.size+1+1,0,none⟩=some (.string x.proc):=by rw [cell_of_row _ _ _ _ _ _ bb4.out.2.2.1];rfl
 try clear x1
 have x1:W4.cell? ⟨w.heap.size+1+1,1,none⟩=some (.slice xa x.args.length xc):=by rw [cell_of_row _ _ _ _ _ _ bb4.out.2.2.1];rfl
 try clear z0
 have z0:=Bl i0
 try clear z1
 have z1:=Bl m0
 try clear z2
 have z2:=Bl x0
 have o0:=Xs bb4.out.2.2.2.1 0 (.int .i64 0) rfl
 have fo0:W4.frozen? ⟨w.heap.size+1+1+1,0,none⟩=false:=Fz bb4.out.2.2.2.1
 have o1:=Xs bb4.out.2.2.2.1 1 (.int .i64 0) rfl
 have fo1:W4.frozen? ⟨w.heap.size+1+1+1,1,none⟩=false:=Fz bb4.out.2.2.2.1
 have o2:=Xs bb4.out.2.2.2.1 2 (.int .i64 0) rfl
 have fo2:W4.frozen? ⟨w.heap.size+1+1+1,2,none⟩=false:=Fz bb4.out.2.2.2.1
 have o3:=Xs bb4.out.2.2.2.1 3 (.int .i64 0) rfl
 have fo3:W4.frozen? ⟨w.heap.size+1+1+1,3,none⟩=false:=Fz bb4.out.2.2.2.1
 have o4:=Xs bb4.out.2.2.2.1 4 (.int .i64 0) rfl
 have fo4:W4.frozen? ⟨w.heap.size+1+1+1,4,none⟩=false:=Fz bb4.out.2.2.2.1
 have u0:W4.cell? ⟨w.heap.size+1+1+1+1,0,none⟩=some (.slice none 0 0):=by rw [cell_of_row _ _ _ _ _ _ bb4.out.2.2.2.2.1];rfl
 have fu0:W4.frozen? ⟨w.heap.size+1+1+1+1,0,none⟩=false:=Fz bb4.out.2.2.2.2.1
 have u1:W4.cell? ⟨w.heap.size+1+1+1+1,1,none⟩=some (.slice none 0 0):=by rw [cell_of_row _ _ _ _ _ _ bb4.out.2.2.2.2.1];rfl
 have fu1:W4.frozen? ⟨w.heap.size+1+1+1+1,1,none⟩=false:=Fz bb4.out.2.2.2.2.1
 have l0:W4.cell? ⟨w.heap.size+1+1+1+1+1,0,none⟩=some (.slice none 0 0):=by rw [cell_of_row _ _ _ _ _ _ bb4.out.2.2.2.2.2];rfl
 have fl0:W4.frozen? ⟨w.heap.size+1+1+1+1+1,0,none⟩=false:=Fz bb4.out.2.2.2.2.2
 have so0:W4.setCell ⟨w.heap.size+1+1+1,0,none⟩ (.int .i64 0)=W4:=Xg bb4.out.2.2.2.1 rfl
 have so1:W4.setCell ⟨w.heap.size+1+1+1,1,none⟩ (.int .i64 0)=W4:=Xg bb4.out.2.2.2.1 rfl
 have so2:W4.setCell ⟨w.heap.size+1+1+1,2,none⟩ (.int .i64 0)=W4:=Xg bb4.out.2.2.2.1 rfl
 have so3:W4.setCell ⟨w.heap.size+1+1+1,3,none⟩ (.int .i64 0)=W4:=Xg bb4.out.2.2.2.1 rfl
 have so4:W4.setCell ⟨w.heap.size+1+1+1,4,none⟩ (.int .i64 0)=W4:=Xg bb4.out.2.2.2.1 rfl
 have su0:W4.setCell ⟨w.heap.size+1+1+1+1,0,none⟩ (.slice none 0 0)=W4:=Xg bb4.out.2.2.2.2.1 rfl
 have su1:W4.setCell ⟨w.heap.size+1+1+1+1,1,none⟩ (.slice none 0 0)=W4:=Xg bb4.out.2.2.2.2.1 rfl
 have sl0:W4.setCell ⟨w.heap.size+1+1+1+1+1,0,none⟩ (.slice none 0 0)=W4:=Xg bb4.out.2.2.2.2.2 rfl
 have z3:=Bl o0
 have z4:=Bl u0
 have z5:=Bl l0
 clear so0 so1 so2 so3 so4 su0 su1 sl0
 have HMW4:=Lh (HM.out.below (HB4.out.mono hB))
 obtain ⟨gvx,nvx,hgneq,hGs,hNs⟩:=HMW4.out
 simp only [Value.agg.injEq,Array.mk.injEq,List.cons.injEq,and_true] at hgneq
 obtain ⟨rfl,rfl⟩:=hgneq
 have hmok:=Xn1.1 HFT.out
 have hglen:m.globals.length≤8:=by have h1:=hmok.gl;have h2:=hs.1.2.2.2.1;omega
 have hnlen:m.nodes.length≤4096:=hmok.len
 have HMOK:=Lh hmok
 have HNS:=Lh hNs
 clear hmok hNs
 go_wp2_with fail
 refine (Vc m.globals _ B W4 hGs (by omega)).mono ?_
 rintro e w5 ⟨a5,c5,Fg,rfl,hO5,hF5,hn5,hb5⟩
 have HO5:=Lh hO5
 have bb5:Hid (w5.heap[w.heap.size]?=some (.cells #[.slice fa c.fields.length fc,.int .i64 c.globals,.slice ga c.funcs.length gc] 25 (0,0))∧w5.heap[w.heap.size+1]?=some (.cells #[.slice va m.globals.length vc,.slice na m.nodes.length nc] 52 (0,0))∧w5.heap[w.heap.size+1+1]?=some (.cells #[.string x.proc,.slice xa x.args.length xc] 27 (0,0))∧Y7 w5 (w.heap.size+1+1+1) 0 0 0 0∧w5.heap[w.heap.size+1+1+1+1]?=some (.cells #[.slice none 0 0,.slice none 0 0] 52 (0,0))∧w5.heap[w.heap.size+1+1+1+1+1]?=some (.cells #[.slice none 0 0] 60 (0,0))):=Lh ⟨Yk hb5 bb4.out.1,Yk hb5 bb4.out.2.1,Yk hb5 bb4.out.2.2.1,Yk hb5 bb4.out.2.2.2.1,Yk hb5 bb4.out.2.2.2.2.1,Yk hb5 bb4.out.2.2.2.2.2⟩
 try clear i0
 have i0:w5.cell? ⟨w.heap.size,0,none⟩=some (.slice fa c.fields.length fc):=by rw [cell_of_row _ _ _ _ _ _ bb5.out.1];rfl
 try clear i1
 have i1:w5.cell? ⟨w.heap.size,1,none⟩=some (.int .i64 c.globals):=by rw [cell_of_row _ _ _ _ _ _ bb5.out.1];rfl
 try clear i2
 have i2:w5.cell? ⟨w.heap.size,2,none⟩=some (.slice ga c.funcs.length gc):=by rw [cell_of_row _ _ _ _ _ _ bb5.out.1];rfl
 try clear m0
 have m0:w5.cell? ⟨w.heap.size+1,0,none⟩=some (.slice va m.globals.length vc):=by rw [cell_of_row _ _ _ _ _ _ bb5.out.2.1];rfl
 try clear m1
 have m1:w5.cell? ⟨w.heap.size+1,1,none⟩=some (.slice na m.nodes.length nc):=by rw [cell_of_row _ _ _ _ _ _ bb5.out.2.1];rfl
 try clear x0
 have x0:w5.cell? ⟨w.heap.size+1+1,0,none⟩=some (.string x.proc):=by rw [cell_of_row _ _ _ _ _ _ bb5.out.2.2.1];rfl
 try clear x1
 have x1:w5.cell? ⟨w.heap.size+1+1,1,none⟩=some (.slice xa x.args.length xc):=by rw [cell_of_row _ _ _ _ _ _ bb5.out.2.2.1];rfl
 try clear z0
 have z0:=Bl i0
 try clear z1
 have z1:=Bl m0
 try clear z2
 have z2:=Bl x0
 try clear o0
 have o0:=Xs bb5.out.2.2.2.1 0 (.int .i64 0) rfl
 try clear fo0
 have fo0:w5.frozen? ⟨w.heap.size+1+1+1,0,none⟩=false:=Fz bb5.out.2.2.2.1
 try clear o1
 have o1:=Xs bb5.out.2.2.2.1 1 (.int .i64 0) rfl
 try clear fo1
 have fo1:w5.frozen? ⟨w.heap.size+1+1+1,1,none⟩=false:=Fz bb5.out.2.2.2.1
 try clear o2
 have o2:=Xs bb5.out.2.2.2.1 2 (.int .i64 0) rfl
 try clear fo2
 have fo2:w5.frozen? ⟨w.heap.size+1+1+1,2,none⟩=false:=Fz bb5.out.2.2.2.1
 try clear o3
 have o3:=Xs bb5.out.2.2.2.1 3 (.int .i64 0) rfl
 try clear fo3
 have fo3:w5.frozen? ⟨w.heap.size+1+1+1,3,none⟩=false:=Fz bb5.out.2.2.2.1
 try clear o4
 have o4:=Xs bb5.out.2.2.2.1 4 (.int .i64 0) rfl
 try clear fo4
 have fo4:w5.frozen? ⟨w.heap.size+1+1+1,4,none⟩=false:=Fz bb5.out.2.2.2.1
 try clear u0
 have u0:w5.cell? ⟨w.heap.size+1+1+1+1,0,none⟩=some (.slice none 0 0):=by rw [cell_of_row _ _ _ _ _ _ bb5.out.2.2.2.2.1];rfl
 try clear fu0
 have fu0:w5.frozen? ⟨w.heap.size+1+1+1+1,0,none⟩=false:=Fz bb5.out.2.2.2.2.1
 try clear u1
 have u1:w5.cell? ⟨w.heap.size+1+1+1+1,1,none⟩=some (.slice none 0 0):=by rw [cell_of_row _ _ _ _ _ _ bb5.out.2.2.2.2.1];rfl
 try clear fu1
 have fu1:w5.frozen? ⟨w.heap.size+1+1+1+1,1,none⟩=false:=Fz bb5.out.2.2.2.2.1
 try clear l0
 have l0:w5.cell? ⟨w.heap.size+1+1+1+1+1,0,none⟩=some (.slice none 0 0):=by rw [cell_of_row _ _ _ _ _ _ bb5.out.2.2.2.2.2];rfl
 try clear fl0
 have fl0:w5.frozen? ⟨w.heap.size+1+1+1+1+1,0,none⟩=false:=Fz bb5.out.2.2.2.2.2
 have so0:w5.setCell ⟨w.heap.size+1+1+1,0,none⟩ (.int .i64 0)=w5:=Xg bb5.out.2.2.2.1 rfl
 have so1:w5.setCell ⟨w.heap.size+1+1+1,1,none⟩ (.int .i64 0)=w5:=Xg bb5.out.2.2.2.1 rfl
 have so2:w5.setCell ⟨w.heap.size+1+1+1,2,none⟩ (.int .i64 0)=w5:=Xg bb5.out.2.2.2.1 rfl
 have so3:w5.setCell ⟨w.heap.size+1+1+1,3,none⟩ (.int .i64 0)=w5:=Xg bb5.out.2.2.2.1 rfl
 have so4:w5.setCell ⟨w.heap.size+1+1+1,4,none⟩ (.int .i64 0)=w5:=Xg bb5.out.2.2.2.1 rfl
 have su0:w5.setCell ⟨w.heap.size+1+1+1+1,0,none⟩ (.slice none 0 0)=w5:=Xg bb5.out.2.2.2.2.1 rfl
 have su1:w5.setCell ⟨w.heap.size+1+1+1+1,1,none⟩ (.slice none 0 0)=w5:=Xg bb5.out.2.2.2.2.1 rfl
 have sl0:w5.setCell ⟨w.heap.size+1+1+1+1+1,0,none⟩ (.slice none 0 0)=w5:=Xg bb5.out.2.2.2.2.2 rfl
 try clear z3
 have z3:=Bl o0
 try clear z4
 have z4:=Bl u0
 try clear z5
 have z5:=Bl l0
 clear so0 so1 so2 so3 so4 su0 su1 sl0
 obtain ⟨W6,hW6⟩:∃ u,u=w5.setCell ⟨(w.heap.size+1+1+1+1),0,none⟩ (.slice a5 m.globals.length c5):=⟨_,rfl⟩
 have hM6:Xp [(w.heap.size+1+1+1+1)] [(w.heap.size+1+1+1+1)] w5 W6:=by rw [hW6];exact Xw
 have hBO4:(w.heap.size+1+1+1+1)<W4.heap.size:=(La bb4.out.2.2.2.2.1)
 have hmem6:Hid (Qs W6 ((w.heap.size+1+1+1+1)) ⟨m.globals,[]⟩ (.slice a5 m.globals.length c5) (.slice none 0 0) [] Fg []):=Lh (by
  have h1:=heap_setCell_same _ ((w.heap.size+1+1+1+1)) 0 _ _ (.slice a5 m.globals.length c5) bb5.out.2.2.2.2.1
  refine ⟨by rw [hW6];simpa using h1,HO5.out.keep (fun b hb=>hM6.block b (HO5.out.lt b hb) (fun e=>by have h2:=hF5 b hb;rw [List.mem_singleton] at e;omega)),World.ownsRow_nil _ _ _ _,⟨rfl,rfl⟩,?_⟩
  simp only [Value.ownBlock,Option.map_none,Option.toList_none,List.append_nil,List.nodup_cons]
  refine ⟨fun e=>by have:=hF5 _ e;omega,?_⟩
  match Fg,hn5 with
  | [],_=>simp
  | [a],_=>simp)
 have hmod6:Hid (Xp [(w.heap.size+1+1+1+1)] ((w.heap.size+1+1+1+1)::(Fg++((Value.slice none 0 0).ownBlock.toList++[]))) W4 W6):=Lh (((Xp.of_below (F:=[(w.heap.size+1+1+1+1)]) hb5).trans hM6).newer (fun b hb=>by
  simp only [Value.ownBlock,Option.map_none,Option.toList_none,List.append_nil,List.mem_cons] at hb
  rcases hb with rfl|hb
  ·left;simp
  ·right;exact hF5 b hb))
 go_upto_region 7 with fail
 rw [←hW6]
 have HW6:=Lh hW6
 clear hW6 hO5 hF5 hn5 hb5 hM6
 have m1c:W6.cell? ⟨w.heap.size+1,1,none⟩=some (.slice na m.nodes.length nc):=hmod6.out.cell (show W4.cell? ⟨w.heap.size+1,1,none⟩=some (.slice na m.nodes.length nc) by rw [cell_of_row _ _ _ _ _ _ bb4.out.2.1];rfl) (by simp)
 have zm6:=Bl m1c
 go_wp2_with fail
 go_loopg [49] (m.nodes.length+1) (fun gk i wr=>∃ k:Nat,k≤m.nodes.length∧i=.int .i64 k∧m.nodes.length - k<gk∧Hid (∃ nv cells Fn,Qs wr ((w.heap.size+1+1+1+1)) ⟨m.globals,m.nodes.take k⟩ (.slice a5 m.globals.length c5) nv cells Fg Fn∧Xp [(w.heap.size+1+1+1+1)] ((w.heap.size+1+1+1+1)::(Fg++(nv.ownBlock.toList++Fn))) W4 wr))
 case atStart=>exact ⟨0,Nat.zero_le _,rfl,by omega,Lh ⟨_,_,_,hmem6.out,hmod6.out⟩⟩
 case round=>
  obtain ⟨k,hk,rfl,hgk,hs1⟩:=hrel
  obtain ⟨nv,cells,Fn,hmem,hmod⟩:=hs1.out
  clear hs1
  have HMEM:=Lh hmem
  have HMOD:=Lh hmod
  clear hmem hmod
  by_cases hlt:k<m.nodes.length
  ·obtain ⟨x1,hx1⟩:∃ y,m.nodes[k]?=some y:=⟨_,List.getElem?_eq_getElem hlt⟩
   have HX1:=Lh hx1
   have hBr:Hid (Below B W4 wr):=Lh (HMOD.out.below (fun b hb=>by simp at hb;omega) (Nat.le_trans hB HB4.out.size))
   obtain ⟨nb,no,hna,hnbB,hNE⟩:∃ nb no,na=some ⟨nb,no,none⟩∧nb<B∧Xbc B wr nb (no+k*2) x1:=by
    obtain ⟨a0,cap0,he0,_,_,_,hE⟩:=HNS.out
    obtain ⟨rfl,rfl⟩:na=a0∧nc=cap0:=by simpa using he0
    rcases hE with h0|⟨nb,no,rfl,hb,hE⟩
    ·rw [h0] at hx1;simp at hx1
    ·exact ⟨nb,no,rfl,hb,(hE k x1 hx1).below hBr.out hb⟩
   subst hna
   obtain ⟨n0,⟨lv,n1,hlv⟩,hx64⟩:=hNE
   obtain ⟨la,lc,rfl⟩:=hlv.form
   have HLV:=Lh hlv
   have zn:=Bl n0
   have hflen:x1.f.length≤12:=by
    have h1:=(HMOK.out.nodes x1 (List.mem_of_getElem? hx1)).2.1
    have h2:=hs.1.2.1
    rw [List.any_eq_false] at h2
    have:=h2 _ (List.mem_of_getElem? h1)
    simp at this
    omega
   obtain ⟨nva,nvc,hnvf⟩:=(Zs HMEM.out.row).2.2
   subst hnvf
   have htl:(m.nodes.take k).length=k:=by rw [List.length_take];omega
   have HTL:=Lh htl
   have hi0:(0:Int)≤(k:Int):=Int.natCast_nonneg _
   have hi1:(k:Int)<(m.nodes.length:Int):=by omega
   obtain ⟨W7,hW7⟩:∃ W,W=wr.alloc (.cells #[.int .i64 x1.type,.slice la x1.f.length lc] 107):=⟨_,rfl⟩
   have hb7:Below wr.heap.size wr W7:=by rw [hW7];exact Xa _ _
   have hc7:Hid (Xo W7 wr.heap.size [.int .i64 x1.type,.slice la x1.f.length lc]):=by rw [hW7];exact Lh Xd
   clear hx1 hlv
   go_upto_region 10 with fail
   rw [←hW7]
   clear hW7
   obtain ⟨ib,hib⟩:∃ b,b=wr.heap.size:=⟨_,rfl⟩
   have HIB:=Lh hib
   have y0:=hc7.out 0 _ rfl
   have y1:=hc7.out 1 _ rfl
   rw [←hib] at y0 y1 ⊢
   have zy:=Bl y0
   have HB7:=Lh hb7
   have hrow7:Hid (W7.ownsRow 0 107 2 (.slice nva (m.nodes.take k).length nvc) (m.nodes.take k).length cells):=Lh (Qi HMEM.out.row (fun b hb=>hb7.block b (Ve HMEM.out.row b hb)))
   have hbox7:W7.heap[(w.heap.size+1+1+1+1)]?=some (.cells #[.slice a5 m.globals.length c5,.slice nva (m.nodes.take k).length nvc] 52 (0,0)):=Yk hb7 HMEM.out.box
   have HBOX:=Lh hbox7
   have v1:W7.cell? ⟨(w.heap.size+1+1+1+1),1,none⟩=some (.slice nva (m.nodes.take k).length nvc):=by rw [cell_of_row _ _ _ _ _ _ hbox7];rfl
   have zv:=Bl v1
   have hB7:B≤W7.heap.size:=Nat.le_trans (Nat.le_trans hB HB4.out.size) (Nat.le_trans HMOD.out.size hb7.size)
   have HLVd:Hid (Xf B W7.drew 1 Zd (.slice la x1.f.length lc) x1.f):=Lh ((HLV.out.ints (hb7.mono (Nat.le_trans (Nat.le_trans hB HB4.out.size) HMOD.out.size))).ints (Xh (Below.refl _ _) 1))
   clear hib hbox7 hb7
   have hbonv:(Value.slice nva (m.nodes.take k).length nvc).ownBlock≠some ((w.heap.size+1+1+1+1)):=fun e=>by
    have hnd:=HMEM.out.nodup
    rw [List.nodup_cons] at hnd
    exact hnd.1 (by rw [e];simp)
   rw [htl] at v1
   obtain ⟨ti,hti,hz0,hz1,hz2⟩:=info_parts Xfb
   clear htl
   go_region_law (first
    | (refine step_append_lies _ rfl (.tmp 54) (.tmp 61) 50 rfl 0 107 ti (.agg #[.int .i64 0,.slice none 0 0]) 2 32 Tryz.underlying50 hti hz0 hz1 hz2 rfl (by decide) (.slice nva k nvc) k cells rfl hrow8.out ⟨w8.heap.size,0,none⟩ 1 1 [.int .i64 x1.type,.slice a8 x1.f.length c8] rfl rfl hnews8.out (by simp [Value.oneCell']) (by omega) (by unfold maxLen;omega) (by omega) (Nat.zero_le _) (w8.heap.size+1) (by simp) ?_;intro g cap w9 ho hg hlies hglt;have HO9:=Lh ho;have HG9:=Lh hg;have HLI:=Lh hlies;have hbo9:=hbo8.out g w9 hg;have v9:w9.cell? ⟨(w.heap.size+1+1+1+1),1,none⟩=some (.slice nva k nvc):=(by rw [cell_of_row _ _ _ _ _ _ hbo9];rfl);have vf9:w9.frozen? ⟨(w.heap.size+1+1+1+1),1,none⟩=false:=(Fz hbo9);have zv9:=Bl v9;clear ho hg hlies hbo9)
    | (go_simp;go_at_call 82;refine (Vc x1.f _ B W7.drew HLVd.out (by omega)).mono ?_;rintro e w8 ⟨a8,c8,F8,rfl,hO8,hF8,hn8,hb8⟩;have y0:=Xc hb8 (show W7.drew.cell? _=_ from y0);have y1:=Xc hb8 (show W7.drew.cell? _=_ from y1);have v1:=Xc hb8 (show W7.drew.cell? _=_ from v1);have zy8:=Bl y0;have zv8:=Bl v1;have HO8:=Lh hO8;have HF8:=Lh hF8;have HB8:=Lh hb8;have hrow8:Hid ((w8.alloc (.cells #[.int .i64 x1.type,.slice a8 x1.f.length c8] 107)).ownsRow 0 107 2 (.slice nva k nvc) k cells):=Lh (Xog hrow7.out HTL.out hb8);have hnews8:Hid (∀ j u,([.int .i64 x1.type,.slice a8 x1.f.length c8]:List Value)[j]?=some u→(w8.alloc (.cells #[.int .i64 x1.type,.slice a8 x1.f.length c8] 107)).cell? ((⟨w8.heap.size,0,none⟩:Addr).add j)=some u):=Lh (fun j u hu=>(by rw [Xbt,Nat.zero_add,Y5];simpa using hu));have hbo8:Hid (∀ (g:Nat) w9,(w8.alloc (.cells #[.int .i64 x1.type,.slice a8 x1.f.length c8] 107)).grownBy w9 (Value.slice nva k nvc).ownBlock→w9.heap[(w.heap.size+1+1+1+1)]?=some (.cells #[.slice a5 m.globals.length c5,.slice nva k nvc] 52 (0,0))):=Lh (fun g w9 hg=>(by have h1:w8.heap[(w.heap.size+1+1+1+1)]?=_:=Yk hb8 (show W7.drew.heap[(w.heap.size+1+1+1+1)]?=_ from HBOX.out);rw [hg.block _ (by have h2:=(La h1);simp;omega) (by rw [←HTL.out];exact hbonv.symm),Below.heap_alloc _ _ _ (La h1),h1,HTL.out]));clear hO8 hF8 hb8))
   all_goals
    have hadd:=Lh (HMEM.out.addN (w4:=w8.alloc (.cells #[.int .i64 x1.type,.slice a8 x1.f.length c8] 107)) (w5:=w9) (x:=x1) (lv:=.slice a8 x1.f.length c8) (Fl:=F8) (g:=g) (cap:=cap) (((HB7.out.then (Xh (Below.refl _ _) 1)).then HB8.out).then (Xa _ _)) (HO8.out.keep (fun b hb=>Below.heap_alloc _ _ _ (HO8.out.lt b hb))) (fun b hb=>by have h1:=HF8.out b hb;have h2:=HB7.out.size;simp at h1;omega) hn8 hx64 (by have h1:=HO9.out;show w9.ownsRow 0 _ 2 (.slice (some ⟨g,0,none⟩) ((m.nodes.take k).length+1) cap) ((m.nodes.take k).length+1) _;rw [HTL.out];exact h1) (by rw [HTL.out];exact HG9.out) (by rw [HTL.out];rcases HLI.out with h1|h1;exact .inl h1;exact .inr (by rw [h1];simp)))
    have hnew:Hid (∃ nv cells Fn,Qs (w9.setCell ⟨(w.heap.size+1+1+1+1),1,none⟩ (.slice (some ⟨g,0,none⟩) (k+1) cap)) ((w.heap.size+1+1+1+1)) ⟨m.globals,m.nodes.take (k+1)⟩ (.slice a5 m.globals.length c5) nv cells Fg Fn∧Xp [(w.heap.size+1+1+1+1)] ((w.heap.size+1+1+1+1)::(Fg++(nv.ownBlock.toList++Fn))) W4 (w9.setCell ⟨(w.heap.size+1+1+1+1),1,none⟩ (.slice (some ⟨g,0,none⟩) (k+1) cap))):=Lh (by
     have h1:=hadd.out
     have e1:m.nodes.take (k+1)=m.nodes.take k++[x1]:=by rw [List.take_add_one,HX1.out];rfl
     have e2:(⟨m.globals,m.nodes.take k⟩:Mm).nodes.length=k:=HTL.out
     have h2:=HMOD.out
     rw [e2] at h1 h2
     rw [e1]
     exact ⟨_,_,_,h1.1,h2.trans h1.2.1⟩)
    clear hadd
    go_wp2_with fail
    go_roundg (gk - 1)
    case measure=>omega
    case rel=>exact ⟨k+1,by omega,by go_num,by omega,hnew⟩
  ·obtain rfl:k=m.nodes.length:=by omega
   rw [List.take_length] at HMEM
   have hmf:∀ (fn:Go.Fn) (first cap:Array Value) (w:World),(Instr.makeFunc fn first cap).run Tryz.prog w=.ok (.func fn first cap) w:=fun _ _ _ _=>rfl
   have hnewF:∀ b∈Uf (w.heap.size+1+1+1+1) nv Fg Fn,b=(w.heap.size+1+1+1+1)∨W4.heap.size≤b:=fun b hb=>by
    rcases HMOD.out.new b hb with h1|h1
    ·left;simpa using h1
    ·right;exact h1
   have hkeep4:∀ b,b<W4.heap.size→b≠(w.heap.size+1+1+1+1)→wr.heap[b]?=W4.heap[b]?:=fun b hb hn=>HMOD.out.block b hb (by simp;exact hn)
   have hW46:w.heap.size+6≤W4.heap.size:=by have h1:=(La bb4.out.2.2.2.2.2);omega
   have hP0:Hid (PSt (w.heap.size+3) W4 wr bm ((w.heap.size+1+1+1+1)) ((w.heap.size+1+1+1+1+1)) ((w.heap.size+1+1+1)) mq ⟨m,[],0⟩ 0 0 0 (bm::F1) (.slice a5 m.globals.length c5) nv cells Fg Fn (.slice none 0 0)):=Lh (by
    have hFl:=hO4.out.lt
    have n1:∀ b∈bm::F1,b≠(w.heap.size+1+1+1+1):=fun b hb e=>by have:=hF6.out b hb;omega
    refine ⟨?_,HMEM.out,⟨by rw [hkeep4 _ (by omega) (by omega)];exact bb4.out.2.2.2.2.2,World.ownsRow_nil _ _ _ _,by simp [Value.ownBlock]⟩,by show wr.heap[(w.heap.size+1+1+1)]?=_;rw [hkeep4 _ (by omega) (by omega)];exact bb4.out.2.2.2.1,fun b hb hb'=>?_,fun b hb hb'=>?_,fun b hb hb'=>?_,fun b hb hb'=>?_,fun b hb hb'=>?_,fun b hb hb'=>?_,fun b hb=>?_,fun b hb=>?_,fun b hb=>?_,by omega,by omega,HMOD.out.below (fun b hb=>by simp at hb;omega) (by omega)⟩
    ·obtain ⟨fv,F0,h1,h2,h3,h4⟩:=Xt.1 hO4.out
     exact Xt.2 ⟨fv,F0,by rw [hkeep4 bm (hFl bm (by simp)) (n1 bm (by simp))];exact h1,h2.keep (fun b hb=>hkeep4 b (hFl b (by rw [h3];simp [hb])) (n1 b (by rw [h3];simp [hb]))),h3,h4⟩
    ·rcases hnewF b hb' with h1|h1
     ·exact n1 b hb h1
     ·have:=hFl b hb;omega
    ·have:=hF6.out b hb;simp [Vh,Value.ownBlock] at hb';omega
    ·have:=hF6.out b hb;simp at hb';omega
    ·simp [Vh,Value.ownBlock] at hb'
     rcases hnewF b hb with h1|h1<;>omega
    ·simp at hb'
     rcases hnewF b hb with h1|h1<;>omega
    ·simp [Vh,Value.ownBlock] at hb;simp at hb';omega
    ·have:=hF6.out b hb;omega
    ·rcases hnewF b hb with h1|h1<;>omega
    ·simp [Vh,Value.ownBlock] at hb;omega)
   have hfl:0≤fuel∧fuel≤1048576:=by
    have h1:=HGV.out
    unfold Yd at h1
    by_cases h2:fuel<0∨1048576<fuel
    ·rw [if_pos h2] at h1;omega
    ·omega
   obtain ⟨hE0,hmu0⟩:Us c mq∧mu mq≤300000000000:=Xch hs HGV.out HR.out
   have HE0:=Lh hE0
   clear hnewF hkeep4 hE0
   try clear fl0
   try clear fo0
   try clear fo1
   try clear fo2
   try clear fo3
   try clear fo4
   try clear fu0
   try clear fu1
   try clear i0
   try clear i1
   try clear i2
   try clear l0
   try clear m0
   try clear m1
   try clear m1c
   try clear o0
   try clear o1
   try clear o2
   try clear o3
   try clear o4
   try clear u0
   try clear u1
   try clear x0
   try clear x1
   try clear z0
   try clear z1
   try clear z2
   try clear z3
   try clear z4
   try clear z5
   try clear zm6
   go_upto_region 13 with fail
   go_loopg [17] (mu mq+1) (fun gk s17 wr=>Hid (∃ mc p Fm gv nv cells Fg Fn lv cmp,PSt (w.heap.size+3) W4 wr bm ((w.heap.size+1+1+1+1)) ((w.heap.size+1+1+1+1+1)) ((w.heap.size+1+1+1)) mc p 0 0 cmp Fm gv nv cells Fg Fn lv∧Kt c mc p∧mu mc<gk∧∀ o p2,Zx c mc p o p2→Zx c mq ⟨m,[],0⟩ o p2))
   case atStart=>exact Lh ⟨mq,⟨m,[],0⟩,_,_,_,_,_,_,_,_,hP0.out,⟨.inl HE0.out,HMOK.out,by simp;omega,by simp⟩,by omega,fun _ _ h=>h⟩
   case round=>
    clear hP0 HMEM HMOD
    obtain ⟨mc,p,Fm,gv,nv,cells,Fg,Fn,lv,cmp,hP,hOk,hgk2,hist⟩:=hrel.out
    clear hrel
    have HP:=Lh hP
    have HOKP:=Lh hOk
    have HIST:=Lh hist
    obtain ⟨fv,F0,hbmr,hvv,hFm,hnn⟩:=Xt.1 hP.mach
    have d1:=Xe hbmr 1 (.int .i64 mc.req.kind) rfl
    have d2:=Xe hbmr 2 (.int .i64 mc.req.node) rfl
    have d3:=Xe hbmr 3 (.int .i64 mc.req.field) rfl
    have d4:=Xe hbmr 4 (.int .i64 mc.req.value) rfl
    have d5:=Xe hbmr 5 (.int .i64 mc.req.fault) rfl
    have d6:=Xe hbmr 6 (.int .i64 mc.fuel) rfl
    have d7:=Xe hbmr 7 (.int .i64 mc.compares) rfl
    have d8:=Xe hbmr 8 (.int .i64 mc.idle) rfl
    have zbm:=(La hbmr)
    have zbc:=(La hP.out)
    have hbmbc:¬bm=(w.heap.size+1+1+1):=fun e=>hP.d3 bm (by rw [hFm];simp) (by simp [e])
    have c2:=Xs hP.out 2 (.int .i64 cmp) rfl
    have fc2:wr.frozen? ⟨(w.heap.size+1+1+1),2,none⟩=false:=Fz hP.out
    obtain ⟨W2,hW2⟩:∃ u,u=(wr.setCell ⟨(w.heap.size+1+1+1),2,none⟩ (.int .i64 mc.compares)).alloc (.cells #[.int .i64 mc.req.kind,.int .i64 mc.req.node,.int .i64 mc.req.field,.int .i64 mc.req.value,.int .i64 mc.req.fault] 34):=⟨_,rfl⟩
    have hP2:Hid (PSt (w.heap.size+3) W4 W2 bm ((w.heap.size+1+1+1+1)) ((w.heap.size+1+1+1+1+1)) ((w.heap.size+1+1+1)) mc p 0 0 mc.compares Fm gv nv cells Fg Fn lv):=Lh (by rw [hW2];exact (hP.outM 2 (.int .i64 mc.compares) (f':=0) (v':=0) (c':=mc.compares) rfl).keep (Xa _ _))
    have hc2:Hid (Xo W2 wr.heap.size [.int .i64 mc.req.kind,.int .i64 mc.req.node,.int .i64 mc.req.field,.int .i64 mc.req.value,.int .i64 mc.req.fault]):=by
     rw [hW2]
     have:=@Xd (wr.setCell ⟨(w.heap.size+1+1+1),2,none⟩ (.int .i64 mc.compares)) #[.int .i64 mc.req.kind,.int .i64 mc.req.node,.int .i64 mc.req.field,.int .i64 mc.req.value,.int .i64 mc.req.fault] 34
     exact Lh (by simpa using this)
    clear hP hOk hist hbmr hvv hFm hnn
    go_upto_region 15 with fail
    rw [←hW2]
    clear hW2
    try clear d1
    try clear d2
    try clear d3
    try clear d4
    try clear d5
    try clear d6
    try clear d7
    try clear d8
    try clear c2
    try clear fc2
    try clear zbm
    try clear zbc
    try clear hbmbc
    obtain ⟨rb,hrb⟩:∃ b,b=wr.heap.size:=⟨_,rfl⟩
    have r0:=hc2.out 0 _ rfl
    have r1:=hc2.out 1 _ rfl
    have r2:=hc2.out 2 _ rfl
    have r3:=hc2.out 3 _ rfl
    have r4:=hc2.out 4 _ rfl
    rw [←hrb] at r0 r1 r2 r3 r4 ⊢
    have zr:=Bl r0
    have HRB:=Lh hrb
    clear hrb hc2
    obtain ⟨ga1,gc1,hgf⟩:=(Zs hP2.out.mem.glob.1).2.2
    obtain ⟨na1,nc1,hnf⟩:=(Zs hP2.out.mem.row).2.2
    obtain ⟨la1,lc1,hlf⟩:=(Zs hP2.out.log.row).2.2
    subst hgf hnf hlf
    obtain ⟨gn1,hgn1⟩:∃ n,n=p.mem.globals.length:=⟨_,rfl⟩
    obtain ⟨nn1,hnn1⟩:∃ n,n=p.mem.nodes.length:=⟨_,rfl⟩
    obtain ⟨ln1,hln1⟩:∃ n,n=p.log.length:=⟨_,rfl⟩
    rw [←hgn1,← hnn1,← hln1] at hP2
    rw [←hgn1,← hnn1,← hln1] at HP
    have HGN:=Lh hgn1
    have HNN:=Lh hnn1
    have HLN:=Lh hln1
    have hlogl:p.log.length≤1000000000000:=by have:=HOKP.out.len;omega
    have hln2:ln1≤1000000000000:=by omega
    clear hgn1 hnn1 hln1
    by_cases hk4:mc.req.kind=4
    ·rw [hk4] at r0
     obtain ⟨W3,hW3⟩:∃ u,u=W2.setCell ⟨(w.heap.size+1+1+1),1,none⟩ (.int .i64 mc.req.value):=⟨_,rfl⟩
     have hP3:Hid (PSt (w.heap.size+3) W4 W3 bm ((w.heap.size+1+1+1+1)) ((w.heap.size+1+1+1+1+1)) ((w.heap.size+1+1+1)) mc p 0 mc.req.value mc.compares Fm (.slice ga1 gn1 gc1) (.slice na1 nn1 nc1) cells Fg Fn (.slice la1 ln1 lc1)):=Lh (by rw [hW3];exact hP2.out.outM 1 (.int .i64 mc.req.value) rfl)
     try clear o1
     have o1:=Xs hP2.out.out 1 (.int .i64 0) rfl
     try clear fo1
     have fo1:W2.frozen? ⟨(w.heap.size+1+1+1),1,none⟩=false:=Fz hP2.out.out
     try clear z3
     have z3:=Bl o1
     have HK:=Lh hk4
     clear hk4
     go_upto_region 30 with fail
     rw [←hW3]
     clear hW3
     try clear o0
     try clear fo0
     try clear o1
     try clear fo1
     try clear o2
     try clear fo2
     try clear o3
     try clear fo3
     try clear o4
     try clear fo4
     try clear u0
     try clear fu0
     try clear u1
     try clear fu1
     try clear l0
     try clear fl0
     try clear z3
     try clear z4
     try clear z5
     obtain ⟨⟨so0,o0,fo0⟩,⟨so1,o1,fo1⟩,⟨so2,o2,fo2⟩,⟨so3,o3,fo3⟩,⟨so4,o4,fo4⟩,⟨su0,u0,fu0⟩,⟨su1,u1,fu1⟩,⟨sl0,l0,fl0⟩,z3,z4,z5⟩:=hP3.out.outs
     go_region
     all_goals
      go_wp2_with fail
      refine bodyPost_ret (v:=.tuple #[Xap ⟨0,mc.req.value,mc.compares,p.nodes⟩,.agg #[.slice ga1 gn1 gc1,.slice na1 nn1 nc1],.slice la1 ln1 lc1,.int .i64 0]) (Z4 (W:=W3.drew) (o:=⟨0,mc.req.value,mc.compares,p.nodes⟩) (p:=8) (q:=9) (r:=10) (u:=11) rfl hP3.out.out hP3.out.mem.box hP3.out.log.box _ _ rfl rfl rfl rfl) rfl ?_
      exact .inr ⟨HGV.out,mq,_,p,_,_,_,_,_,_,_,_,HR.out,HIST.out _ _ (.done HK.out),rfl,(hP3.out.keep (Xh (Below.refl _ _) 1)).mem,(hP3.out.keep (Xh (Below.refl _ _) 1)).log,HOKP.out.mem,hlogl,fun b hb=>by have:=hP3.out.g2 b hb;omega,fun b hb=>by have:=hP3.out.g3 b hb;omega,(HB4.out.trans (hP3.out.bel.mono (by omega))).trans (Xh (Below.refl _ _) 1)⟩
    by_cases hk5:mc.req.kind=5
    ·rw [hk5] at r0
     obtain ⟨W3,hW3⟩:∃ u,u=W2.setCell ⟨(w.heap.size+1+1+1),0,none⟩ (.int .i64 mc.req.fault):=⟨_,rfl⟩
     have hP3:Hid (PSt (w.heap.size+3) W4 W3 bm ((w.heap.size+1+1+1+1)) ((w.heap.size+1+1+1+1+1)) ((w.heap.size+1+1+1)) mc p mc.req.fault 0 mc.compares Fm (.slice ga1 gn1 gc1) (.slice na1 nn1 nc1) cells Fg Fn (.slice la1 ln1 lc1)):=Lh (by rw [hW3];exact hP2.out.outM 0 (.int .i64 mc.req.fault) rfl)
     try clear o1
     have o1:=Xs hP2.out.out 0 (.int .i64 0) rfl
     try clear fo1
     have fo1:W2.frozen? ⟨(w.heap.size+1+1+1),0,none⟩=false:=Fz hP2.out.out
     try clear z3
     have z3:=Bl o1
     have HK:=Lh hk5
     clear hk5
     go_upto_region 33 with fail
     rw [←hW3]
     clear hW3
     try clear o0
     try clear fo0
     try clear o1
     try clear fo1
     try clear o2
     try clear fo2
     try clear o3
     try clear fo3
     try clear o4
     try clear fo4
     try clear u0
     try clear fu0
     try clear u1
     try clear fu1
     try clear l0
     try clear fl0
     try clear z3
     try clear z4
     try clear z5
     obtain ⟨⟨so0,o0,fo0⟩,⟨so1,o1,fo1⟩,⟨so2,o2,fo2⟩,⟨so3,o3,fo3⟩,⟨so4,o4,fo4⟩,⟨su0,u0,fu0⟩,⟨su1,u1,fu1⟩,⟨sl0,l0,fl0⟩,z3,z4,z5⟩:=hP3.out.outs
     go_region
     all_goals
      go_wp2_with fail
      refine bodyPost_ret (v:=.tuple #[Xap ⟨mc.req.fault,0,mc.compares,p.nodes⟩,.agg #[.slice ga1 gn1 gc1,.slice na1 nn1 nc1],.slice la1 ln1 lc1,.int .i64 0]) (Z4 (W:=W3.drew) (o:=⟨mc.req.fault,0,mc.compares,p.nodes⟩) (p:=8) (q:=9) (r:=10) (u:=11) rfl hP3.out.out hP3.out.mem.box hP3.out.log.box _ _ rfl rfl rfl rfl) rfl ?_
      exact .inr ⟨HGV.out,mq,_,p,_,_,_,_,_,_,_,_,HR.out,HIST.out _ _ (.fail HK.out),rfl,(hP3.out.keep (Xh (Below.refl _ _) 1)).mem,(hP3.out.keep (Xh (Below.refl _ _) 1)).log,HOKP.out.mem,hlogl,fun b hb=>by have:=hP3.out.g2 b hb;omega,fun b hb=>by have:=hP3.out.g3 b hb;omega,(HB4.out.trans (hP3.out.bel.mono (by omega))).trans (Xh (Below.refl _ _) 1)⟩
    obtain ⟨hE,fsw,fw,hwt⟩:=HOKP.out.waits hk4 hk5
    have hreq:=hwt.req hs
    have HWT:=Lh hwt
    have HE:=Lh hE
    have HREQ:=Lh hreq
    have HK4:=Lh hk4
    have HK5:=Lh hk5
    obtain ⟨fi,hfi⟩:∃ fi:Nat,mc.req.field=fi:=⟨mc.req.field.toNat,by have:=hreq.field;omega⟩
    have hkind:=hreq.kind
    rw [hfi] at r2
    have HFI:=Lh hfi
    try clear u0
    have u0:W2.cell? ⟨(w.heap.size+1+1+1+1),0,none⟩=some (.slice ga1 gn1 gc1):=by rw [cell_of_row _ _ _ _ _ _ hP2.out.mem.box];rfl
    try clear u1
    have u1:W2.cell? ⟨(w.heap.size+1+1+1+1),1,none⟩=some (.slice na1 nn1 nc1):=by rw [cell_of_row _ _ _ _ _ _ hP2.out.mem.box];rfl
    try clear fu1
    have fu1:W2.frozen? ⟨(w.heap.size+1+1+1+1),1,none⟩=false:=Fz hP2.out.mem.box
    try clear z4
    have z4:=Bl u0
    have HBW2:Hid (Below B w W2):=Lh ((HB4.out.trans (hP2.out.bel.mono (by omega))).mono hB)
    clear hE hwt hreq hk4 hk5 hfi
    by_cases hk3:mc.req.kind=3
    ·rw [hk3] at r0
     have HK3:=Lh hk3
     clear hk3
     by_cases hfull:nn1<4096
     rotate_left
     ·have HASK:Hid (J5 c p mc.req=some (p,0)):=Lh (by
       unfold J5
       rw [if_pos HK3.out,if_neg (by rw [←HNN.out];exact hfull)])
      have hdec:¬((nn1:Int)<4096):=by omega
      go_upto_region 39 with fail
      have hbV:W2.heap[w.heap.size]?=some (.cells #[.slice fa c.fields.length fc,.int .i64 c.globals,.slice ga c.funcs.length gc] 25 (0,0)):=by rw [hP2.out.bel.block _ (by omega)];exact bb4.out.1
      try clear i0
      have i0:W2.cell? ⟨w.heap.size,0,none⟩=some (.slice fa c.fields.length fc):=by rw [cell_of_row _ _ _ _ _ _ hbV];rfl
      try clear i1
      have i1:W2.cell? ⟨w.heap.size,1,none⟩=some (.int .i64 c.globals):=by rw [cell_of_row _ _ _ _ _ _ hbV];rfl
      try clear i2
      have i2:W2.cell? ⟨w.heap.size,2,none⟩=some (.slice ga c.funcs.length gc):=by rw [cell_of_row _ _ _ _ _ _ hbV];rfl
      have zi:=Bl i0
      clear hbV
      go_wp2_with fail
      refine (Kb hs hsm fa ga c.fields.length fc gc c.globals 0 HWT.out HE.out.1 hP2.out.mach B (fun b hb=>by have:=hP2.out.g1 b hb;omega) (HC.out.below ((HB4.out.trans (hP2.out.bel.mono (by omega))).mono hB)).funs (Ji HOKP.out.mem HREQ.out HASK.out)).mono ?_
      rintro e wn ⟨rfl,m2,F2,hN2,hO2,hM2⟩
      have hstp:=HOKP.out.step hs HK4.out HK5.out HASK.out hN2
      have hnew:Hid (∃ mc p Fm gv nv cells Fg Fn lv cmp,PSt (w.heap.size+3) W4 wn bm ((w.heap.size+1+1+1+1)) ((w.heap.size+1+1+1+1+1)) ((w.heap.size+1+1+1)) mc p 0 0 cmp Fm gv nv cells Fg Fn lv∧Kt c mc p∧mu mc<gk - 1∧∀ o p2,Zx c mc p o p2→Zx c mq ⟨m,[],0⟩ o p2):=Lh ⟨m2,_,F2,_,_,_,_,_,_,_,hP2.out.machM hO2 hM2,hstp.1,by have:=hstp.2;omega,fun o p2 h=>HIST.out _ _ (.step HK4.out HK5.out HASK.out hN2 h)⟩
      clear hN2 hO2 hM2 hstp
      go_wp2_with fail
      go_roundg (gk - 1)
      case measure=>omega
      case rel=>exact hnew
     ·obtain ⟨k0,hk0,hk00,hk01⟩:=HREQ.out.alloc HK3.out
      obtain ⟨kn,rfl⟩:∃ kn:Nat,k0=kn:=⟨k0.toNat,by omega⟩
      rw [HFI.out,Int.toNat_natCast] at hk0
      have HKN:=Lh hk0
      obtain ⟨fb,fo,hfa,hfbB,hFE⟩:=(HC.out.below HBW2.out).fieldAt hk0
      have hi0:(0:Int)≤(fi:Int):=Int.natCast_nonneg _
      have hi1:(fi:Int)<(c.fields.length:Int):=by have:=(Ll hk0);omega
      have hkn12:kn≤12:=by omega
      have hfi12:fi≤12:=by have:=hs.1.1;omega
      clear hk0 hk00 hk01
      subst hfa
      have zf:=Bl hFE
      have hbV:W2.heap[w.heap.size]?=some (.cells #[.slice (some ⟨fb,fo,none⟩) c.fields.length fc,.int .i64 c.globals,.slice ga c.funcs.length gc] 25 (0,0)):=by rw [hP2.out.bel.block _ (by omega)];exact bb4.out.1
      try clear i0
      have i0:W2.cell? ⟨w.heap.size,0,none⟩=some (.slice (some ⟨fb,fo,none⟩) c.fields.length fc):=by rw [cell_of_row _ _ _ _ _ _ hbV];rfl
      have zi:=Bl i0
      clear hbV
      have hmk:=fun W=>K7 W kn (by omega)
      have hdec:(nn1:Int)<4096:=by omega
      have hO8:Hid (Yv (W2.alloc (.cells (Xx (List.replicate kn 0)) 3)) (.slice (some ⟨W2.heap.size,0,none⟩) kn kn) (List.replicate kn 0) [W2.heap.size]):=Lh (Xjk (w:=W2) (by omega))
      have hbd:Below W2.heap.size W2 ((W2.alloc (.cells (Xx (List.replicate kn 0)) 3)).alloc (.cells #[.int .i64 (fi:Int),.slice (some ⟨W2.heap.size,0,none⟩) kn kn] 107)).drew:=Xh ((Xa _ _).then (Xa _ _)) 1
      have HBD:=Lh hbd
      have hrow8:Hid (((W2.alloc (.cells (Xx (List.replicate kn 0)) 3)).alloc (.cells #[.int .i64 (fi:Int),.slice (some ⟨W2.heap.size,0,none⟩) kn kn] 107)).drew.ownsRow 0 107 2 (.slice na1 nn1 nc1) nn1 cells):=Lh (by
       have h1:=hP2.out.mem.row
       rw [←HNN.out] at h1
       exact Qi h1 (fun b hb=>hbd.block b (Ve h1 b hb)))
      have hnews8:Hid (∀ j u,([.int .i64 (fi:Int),.slice (some ⟨W2.heap.size,0,none⟩) kn kn]:List Value)[j]?=some u→((W2.alloc (.cells (Xx (List.replicate kn 0)) 3)).alloc (.cells #[.int .i64 (fi:Int),.slice (some ⟨W2.heap.size,0,none⟩) kn kn] 107)).drew.cell? ((⟨W2.heap.size+1,0,none⟩:Addr).add j)=some u):=Lh (fun j u hu=>(by
       rw [Xbt,Nat.zero_add]
       have:=Y5 (W2.alloc (.cells (Xx (List.replicate kn 0)) 3)) #[.int .i64 (fi:Int),.slice (some ⟨W2.heap.size,0,none⟩) kn kn] 107 j
       rw [show (W2.alloc (.cells (Xx (List.replicate kn 0)) 3)).heap.size=W2.heap.size+1 by simp] at this
       refine Eq.trans this ?_;simpa using hu))
      have hgb8:Hid (∀ w9,((W2.alloc (.cells (Xx (List.replicate kn 0)) 3)).alloc (.cells #[.int .i64 (fi:Int),.slice (some ⟨W2.heap.size,0,none⟩) kn kn] 107)).drew.grownBy w9 (Value.slice na1 nn1 nc1).ownBlock→(w9.heap[(w.heap.size+1+1+1+1)]?=some (.cells #[.slice ga1 gn1 gc1,.slice na1 nn1 nc1] 52 (0,0)))∧w9.cell? ⟨rb,2,none⟩=some (.int .i64 (fi:Int))∧w9.cell? ⟨w.heap.size,0,none⟩=some (.slice (some ⟨fb,fo,none⟩) c.fields.length fc)∧w9.cell? ⟨fb,fo+fi,none⟩=some (.int .i64 (kn:Int))):=Lh (fun w9 hg=>by
       have h1:=Yk hbd hP2.out.mem.box
       have hnd:=hP2.out.mem.nodup
       rw [List.nodup_cons] at hnd
       have key:∀ b o v,W2.cell? ⟨b,o,none⟩=some v→some b≠(Value.slice na1 nn1 nc1).ownBlock→w9.cell? ⟨b,o,none⟩=some v:=fun b o v hc hne=>by
        have h2:=Xc hbd hc
        rw [World.cell?_of_block (w:=((W2.alloc (.cells (Xx (List.replicate kn 0)) 3)).alloc (.cells #[.int .i64 (fi:Int),.slice (some ⟨W2.heap.size,0,none⟩) kn kn] 107)).drew) (hg.block b (Bl h2) hne)];exact h2
       have hin:∀ b,some b=(Value.slice na1 nn1 nc1).ownBlock→b∈Uf ((w.heap.size+1+1+1+1)) (.slice na1 nn1 nc1) Fg Fn:=fun b hb=>by unfold Uf;rw [←hb];simp
       refine ⟨by rw [hg.block _ (La h1) (fun e=>hnd.1 (by rw [←e];simp)),h1],key _ _ _ r2 (fun e=>?_),key _ _ _ i0 (fun e=>?_),key _ _ _ hFE (fun e=>?_)⟩
       ·have h2:=HP.out.ltO rb (hin rb e);have h3:=HRB.out;omega
       ·have h2:=hP2.out.g2 _ (hin _ e);omega
       ·have h2:=hP2.out.g2 _ (hin _ e);omega)
      clear hbd
      have z4a:(w.heap.size+1+1+1+1)<W2.heap.size:=(La hP2.out.mem.box)
      have z4b:(w.heap.size+1+1+1+1)<W2.heap.size+1:=by omega
      have nrb:¬rb=(w.heap.size+1+1+1+1):=fun e=>by have h2:=HP.out.ltO ((w.heap.size+1+1+1+1)) (by unfold Uf;simp);have h3:=HRB.out;omega
      have nfb:¬fb=(w.heap.size+1+1+1+1):=by omega
      have r2d:W2.drew.cell? ⟨rb,2,none⟩=some (.int .i64 (fi:Int)):=r2
      have i0d:W2.drew.cell? ⟨w.heap.size,0,none⟩=some (.slice (some ⟨fb,fo,none⟩) c.fields.length fc):=i0
      have hFEd:W2.drew.cell? ⟨fb,fo+fi,none⟩=some (.int .i64 (kn:Int)):=hFE
      obtain ⟨ti,hti,hz0,hz1,hz2⟩:=info_parts Xfb
      go_upto_region 36 with fail
      refine wp_region_held_drew (S:=fun V=>V.cell? ⟨rb,2,none⟩=some (.int .i64 (fi:Int))∧V.cell? ⟨w.heap.size,0,none⟩=some (.slice (some ⟨fb,fo,none⟩) c.fields.length fc)∧V.cell? ⟨fb,fo+fi,none⟩=some (.int .i64 (kn:Int))) (by kernel_rfl) ⟨r2d,i0d,hFEd⟩ (fun hHeld=>?_)
      refine wpAnyH_take (i:=0) (oi:={ dst:=some 146,op:=Op.fieldAddr 52 (Operand.tmp 9) 1,type:=0,pos:= "vm.go:432",after:=#[],guard:=none }) (v:=.pointer (some ⟨(w.heap.size+1+1+1+1),1,none⟩)) rfl (by kernel_rfl) (by kernel_rfl) (by kernel_rfl) (fun _ _ _ h=>h) (Or.inl ⟨by rfl,by intro wV hSw;(try dsimp only at hSw);go_simp⟩) (by assumption) ?_
      try simp only [Act.put,List.setIfInBounds_toArray,List.set_cons_zero,List.set_cons_succ]
      refine wpAnyH_take (i:=2) (oi:={ dst:=some 148,op:=Op.fieldAddr 34 (Operand.tmp 16) 2,type:=0,pos:= "vm.go:432",after:=#[],guard:=none }) (v:=.pointer (some ⟨rb,2,none⟩)) rfl (by kernel_rfl) (by kernel_rfl) (by kernel_rfl) (fun _ _ _ h=>h) (Or.inl ⟨by rfl,by intro wV hSw;(try dsimp only at hSw);go_simp⟩) (by assumption) ?_
      try simp only [Act.put,List.setIfInBounds_toArray,List.set_cons_zero,List.set_cons_succ]
      refine wpAnyH_take (i:=3) (oi:={ dst:=some 149,op:=Op.load 3 (Operand.tmp 148),type:=3,pos:= "vm.go:432",after:=#[{ on:=2,ground:=Ground.data }],guard:=none }) (v:=.int .i64 (fi:Int)) rfl (by kernel_rfl) (by kernel_rfl) (by kernel_rfl) (fun _ _ _ h=>h) (Or.inl ⟨by rfl,by intro wV hSw;(try dsimp only at hSw);go_simp⟩) (by assumption) ?_
      try simp only [Act.put,List.setIfInBounds_toArray,List.set_cons_zero,List.set_cons_succ]
      refine wpAnyH_take (i:=4) (oi:={ dst:=some 150,op:=Op.fieldAddr 25 (Operand.tmp 4) 0,type:=0,pos:= "vm.go:432",after:=#[],guard:=none }) (v:=.pointer (some ⟨w.heap.size,0,none⟩)) rfl (by kernel_rfl) (by kernel_rfl) (by kernel_rfl) (fun _ _ _ h=>h) (Or.inl ⟨by rfl,by intro wV hSw;(try dsimp only at hSw);go_simp⟩) (by assumption) ?_
      try simp only [Act.put,List.setIfInBounds_toArray,List.set_cons_zero,List.set_cons_succ]
      refine wpAnyH_take (i:=5) (oi:={ dst:=some 151,op:=Op.load 22 (Operand.tmp 150),type:=22,pos:= "vm.go:432",after:=#[{ on:=4,ground:=Ground.data }],guard:=none }) (v:=.slice (some ⟨fb,fo,none⟩) c.fields.length fc) rfl (by kernel_rfl) (by kernel_rfl) (by kernel_rfl) (fun _ _ _ h=>h) (Or.inl ⟨by rfl,by intro wV hSw;(try dsimp only at hSw);go_simp⟩) (by assumption) ?_
      try simp only [Act.put,List.setIfInBounds_toArray,List.set_cons_zero,List.set_cons_succ]
      refine wpAnyH_take (i:=6) (oi:={ dst:=some 152,op:=Op.fieldAddr 34 (Operand.tmp 16) 2,type:=0,pos:= "vm.go:432",after:=#[],guard:=none }) (v:=.pointer (some ⟨rb,2,none⟩)) rfl (by kernel_rfl) (by kernel_rfl) (by kernel_rfl) (fun _ _ _ h=>h) (Or.inl ⟨by rfl,by intro wV hSw;(try dsimp only at hSw);go_simp⟩) (by assumption) ?_
      try simp only [Act.put,List.setIfInBounds_toArray,List.set_cons_zero,List.set_cons_succ]
      refine wpAnyH_take (i:=7) (oi:={ dst:=some 153,op:=Op.load 3 (Operand.tmp 152),type:=3,pos:= "vm.go:432",after:=#[{ on:=6,ground:=Ground.data }],guard:=none }) (v:=.int .i64 (fi:Int)) rfl (by kernel_rfl) (by kernel_rfl) (by kernel_rfl) (fun _ _ _ h=>h) (Or.inl ⟨by rfl,by intro wV hSw;(try dsimp only at hSw);go_simp⟩) (by assumption) ?_
      try simp only [Act.put,List.setIfInBounds_toArray,List.set_cons_zero,List.set_cons_succ]
      refine wpAnyH_take (i:=8) (oi:={ dst:=some 154,op:=Op.indexAddr 22 (Operand.tmp 151) (Operand.tmp 153),type:=0,pos:= "vm.go:432",after:=#[{ on:=5,ground:=Ground.data },{ on:=7,ground:=Ground.data }],guard:=none }) (v:=.pointer (some ⟨fb,fo+fi,none⟩)) rfl (by kernel_rfl) (by kernel_rfl) (by kernel_rfl) (fun _ _ _ h=>h) (Or.inl ⟨by rfl,by intro wV hSw;(try dsimp only at hSw);go_simp⟩) (by assumption) ?_
      try simp only [Act.put,List.setIfInBounds_toArray,List.set_cons_zero,List.set_cons_succ]
      refine wpAnyH_take (i:=9) (oi:={ dst:=some 155,op:=Op.load 3 (Operand.tmp 154),type:=3,pos:= "vm.go:432",after:=#[{ on:=8,ground:=Ground.data }],guard:=none }) (v:=.int .i64 (kn:Int)) rfl (by kernel_rfl) (by kernel_rfl) (by kernel_rfl) (fun _ _ _ h=>h) (Or.inl ⟨by rfl,by intro wV hSw;(try dsimp only at hSw);go_simp⟩) (by assumption) ?_
      try simp only [Act.put,List.setIfInBounds_toArray,List.set_cons_zero,List.set_cons_succ]
      refine wpAnyH_ready (rs:=[1,10]) (by kernel_rfl) (by simp) ?_
      refine (AllReadyH.cons (o:={ dst:=some 147,op:=Op.load 50 (Operand.tmp 146),type:=50,pos:= "vm.go:432",after:=#[{ on:=0,ground:=Ground.data }],guard:=none }) rfl (fun K hK=>?_) (AllReadyH.cons (o:={ dst:=some 156,op:=Op.makeSlice 22 (Operand.tmp 155) (Operand.tmp 155),type:=22,pos:= "vm.go:432",after:=#[{ on:=9,ground:=Ground.data },{ on:=9,ground:=Ground.data }],guard:=none }) rfl (fun K hK=>?_) AllReadyH.nil))
      go_simp
      refine hK.out _ _ ⟨r2d,i0d,hFEd⟩ (fun hHeld=>?_)
      clear hK K
      try simp only [Act.put,List.setIfInBounds_toArray,List.set_cons_zero,List.set_cons_succ]
      refine wpAnyH_ready (rs:=[10]) (by kernel_rfl) (by simp) ?_
      refine (AllReadyH.cons (o:={ dst:=some 156,op:=Op.makeSlice 22 (Operand.tmp 155) (Operand.tmp 155),type:=22,pos:= "vm.go:432",after:=#[{ on:=9,ground:=Ground.data },{ on:=9,ground:=Ground.data }],guard:=none }) rfl (fun K hK=>?_) AllReadyH.nil)
      go_simp
      refine hK.out _ _ ⟨Xc (X7 _ _) r2,Xc (X7 _ _) i0,Xc (X7 _ _) hFE⟩ (fun hHeld=>?_)
      clear hK K
      try simp only [Act.put,List.setIfInBounds_toArray,List.set_cons_zero,List.set_cons_succ]
      refine wpAnyH_take (i:=11) (oi:={ dst:=some 157,op:=Op.build 107 #[(0,Operand.tmp 149),(1,Operand.tmp 156)],type:=107,pos:= "vm.go:432",after:=#[{ on:=3,ground:=Ground.data },{ on:=10,ground:=Ground.data }],guard:=none }) (v:=.agg #[.int .i64 (fi:Int),.slice (some ⟨W2.heap.size,0,none⟩) kn kn]) rfl (by kernel_rfl) (by kernel_rfl) (by kernel_rfl) (fun _ _ _ h=>h) (Or.inl ⟨by rfl,by intro wV hSw;(try dsimp only at hSw);go_simp⟩) (by assumption) ?_
      try simp only [Act.put,List.setIfInBounds_toArray,List.set_cons_zero,List.set_cons_succ]
      refine wpAnyH_ready (rs:=[12]) (by kernel_rfl) (by simp) ?_
      refine (AllReadyH.cons (o:={ dst:=some 158,op:=Op.buildSlice 50 1 #[(0,Operand.tmp 157)],type:=50,pos:= "vm.go:432",after:=#[{ on:=11,ground:=Ground.data }],guard:=none }) rfl (fun K hK=>?_) AllReadyH.nil)
      go_simp
      refine hK.out _ _ ⟨Xc HBD.out r2,Xc HBD.out i0,Xc HBD.out hFE⟩ (fun hHeld=>?_)
      clear hK K
      try simp only [Act.put,List.setIfInBounds_toArray,List.set_cons_zero,List.set_cons_succ]
      refine wpAnyH_ready (rs:=[13]) (by kernel_rfl) (by simp) ?_
      refine (AllReadyH.cons (o:={ dst:=some 159,op:=Op.call { callee:=Callee.builtin Builtin.append,args:=#[Operand.tmp 147,Operand.tmp 158],argTypes:=#[50,50] },type:=50,pos:= "vm.go:432",after:=#[{ on:=1,ground:=Ground.data },{ on:=12,ground:=Ground.data }],guard:=none }) rfl (fun K hK=>?_) AllReadyH.nil)
      refine step_append_lies _ rfl (.tmp 147) (.tmp 158) 50 rfl 0 107 ti (.agg #[.int .i64 0,.slice none 0 0]) 2 32 Tryz.underlying50 hti hz0 hz1 hz2 rfl (by decide) (.slice na1 nn1 nc1) nn1 cells rfl hrow8.out ⟨W2.heap.size+1,0,none⟩ 1 1 [.int .i64 (fi:Int),.slice (some ⟨W2.heap.size,0,none⟩) kn kn] rfl rfl hnews8.out (by simp [Value.oneCell']) (by omega) (by unfold maxLen;omega) (by omega) (Nat.zero_le _) (W2.heap.size+1+1) (by simp) ?_
      intro g cap w9 ho hg hlies hglt
      have HO9:=Lh ho
      have HG9:=Lh hg
      have HLI:=Lh hlies
      obtain ⟨hbo9,r29,i09,hFE9⟩:=hgb8.out w9 hg
      have v9:w9.cell? ⟨(w.heap.size+1+1+1+1),1,none⟩=some (.slice na1 nn1 nc1):=(by rw [cell_of_row _ _ _ _ _ _ hbo9];rfl)
      have vf9:w9.frozen? ⟨(w.heap.size+1+1+1+1),1,none⟩=false:=(Fz hbo9)
      have zv9:=Bl v9
      clear ho hg hlies hbo9
      refine hK.out _ _ ⟨r29,i09,hFE9⟩ (fun hHeld=>?_)
      clear hK K
      try simp only [Act.put,List.setIfInBounds_toArray,List.set_cons_zero,List.set_cons_succ]
      refine wpAnyH_take (i:=14) (oi:={ dst:=some 160,op:=Op.fieldAddr 52 (Operand.tmp 9) 1,type:=0,pos:= "vm.go:432",after:=#[{ on:=0,ground:=Ground.phase },{ on:=1,ground:=Ground.phase },{ on:=2,ground:=Ground.phase },{ on:=3,ground:=Ground.phase },{ on:=4,ground:=Ground.phase },{ on:=5,ground:=Ground.phase },{ on:=6,ground:=Ground.phase },{ on:=7,ground:=Ground.phase },{ on:=8,ground:=Ground.phase },{ on:=9,ground:=Ground.phase },{ on:=10,ground:=Ground.phase },{ on:=11,ground:=Ground.phase },{ on:=12,ground:=Ground.phase },{ on:=13,ground:=Ground.phase }],guard:=none }) (v:=.pointer (some ⟨(w.heap.size+1+1+1+1),1,none⟩)) rfl (by kernel_rfl) (by kernel_rfl) (by kernel_rfl) (fun _ _ _ h=>h) (Or.inl ⟨by rfl,by intro wV hSw;(try dsimp only at hSw);go_simp⟩) (by assumption) ?_
      try simp only [Act.put,List.setIfInBounds_toArray,List.set_cons_zero,List.set_cons_succ]
      refine wpAnyH_ready (rs:=[15]) (by kernel_rfl) (by simp) ?_
      refine (AllReadyH.cons (o:={ dst:=none,op:=Op.store 50 (Operand.tmp 160) (Operand.tmp 159),type:=0,pos:= "vm.go:432",after:=#[{ on:=14,ground:=Ground.data },{ on:=13,ground:=Ground.data },{ on:=13,ground:=Ground.chain },{ on:=0,ground:=Ground.phase },{ on:=1,ground:=Ground.phase },{ on:=2,ground:=Ground.phase },{ on:=3,ground:=Ground.phase },{ on:=4,ground:=Ground.phase },{ on:=5,ground:=Ground.phase },{ on:=6,ground:=Ground.phase },{ on:=7,ground:=Ground.phase },{ on:=8,ground:=Ground.phase },{ on:=9,ground:=Ground.phase },{ on:=10,ground:=Ground.phase },{ on:=11,ground:=Ground.phase },{ on:=12,ground:=Ground.phase },{ on:=13,ground:=Ground.phase }],guard:=none }) rfl (fun K hK=>?_) AllReadyH.nil)
      go_simp
      refine hK.out _ _ ⟨Xw.cell r29 (by simpa using nrb),Xw.cell i09 (by simp;omega),Xw.cell hFE9 (by simpa using nfb)⟩ (fun hHeld=>?_)
      clear hK K
      try simp only [Act.put,List.setIfInBounds_toArray,List.set_cons_zero,List.set_cons_succ]
      refine wpAnyH_done (by kernel_rfl) ?_ _
      rotate_left
      go_simp
      refine hK.out _ _ ⟨Xc (X7 _ _) r2,Xc (X7 _ _) i0,Xc (X7 _ _) hFE⟩ (fun hHeld=>?_)
      clear hK K
      try simp only [Act.put,List.setIfInBounds_toArray,List.set_cons_zero,List.set_cons_succ]
      refine wpAnyH_take (i:=11) (oi:={ dst:=some 157,op:=Op.build 107 #[(0,Operand.tmp 149),(1,Operand.tmp 156)],type:=107,pos:= "vm.go:432",after:=#[{ on:=3,ground:=Ground.data },{ on:=10,ground:=Ground.data }],guard:=none }) (v:=.agg #[.int .i64 (fi:Int),.slice (some ⟨W2.heap.size,0,none⟩) kn kn]) rfl (by kernel_rfl) (by kernel_rfl) (by kernel_rfl) (fun _ _ _ h=>h) (Or.inl ⟨by rfl,by intro wV hSw;(try dsimp only at hSw);go_simp⟩) (by assumption) ?_
      try simp only [Act.put,List.setIfInBounds_toArray,List.set_cons_zero,List.set_cons_succ]
      refine wpAnyH_ready (rs:=[1,12]) (by kernel_rfl) (by simp) ?_
      refine (AllReadyH.cons (o:={ dst:=some 147,op:=Op.load 50 (Operand.tmp 146),type:=50,pos:= "vm.go:432",after:=#[{ on:=0,ground:=Ground.data }],guard:=none }) rfl (fun K hK=>?_) (AllReadyH.cons (o:={ dst:=some 158,op:=Op.buildSlice 50 1 #[(0,Operand.tmp 157)],type:=50,pos:= "vm.go:432",after:=#[{ on:=11,ground:=Ground.data }],guard:=none }) rfl (fun K hK=>?_) AllReadyH.nil))
      go_simp
      refine hK.out _ _ ⟨Xc (X7 _ _) r2,Xc (X7 _ _) i0,Xc (X7 _ _) hFE⟩ (fun hHeld=>?_)
      clear hK K
      try simp only [Act.put,List.setIfInBounds_toArray,List.set_cons_zero,List.set_cons_succ]
      refine wpAnyH_ready (rs:=[12]) (by kernel_rfl) (by simp) ?_
      refine (AllReadyH.cons (o:={ dst:=some 158,op:=Op.buildSlice 50 1 #[(0,Operand.tmp 157)],type:=50,pos:= "vm.go:432",after:=#[{ on:=11,ground:=Ground.data }],guard:=none }) rfl (fun K hK=>?_) AllReadyH.nil)
      go_simp
      refine hK.out _ _ ⟨Xc HBD.out r2,Xc HBD.out i0,Xc HBD.out hFE⟩ (fun hHeld=>?_)
      clear hK K
      try simp only [Act.put,List.setIfInBounds_toArray,List.set_cons_zero,List.set_cons_succ]
      refine wpAnyH_ready (rs:=[13]) (by kernel_rfl) (by simp) ?_
      refine (AllReadyH.cons (o:={ dst:=some 159,op:=Op.call { callee:=Callee.builtin Builtin.append,args:=#[Operand.tmp 147,Operand.tmp 158],argTypes:=#[50,50] },type:=50,pos:= "vm.go:432",after:=#[{ on:=1,ground:=Ground.data },{ on:=12,ground:=Ground.data }],guard:=none }) rfl (fun K hK=>?_) AllReadyH.nil)
      refine step_append_lies _ rfl (.tmp 147) (.tmp 158) 50 rfl 0 107 ti (.agg #[.int .i64 0,.slice none 0 0]) 2 32 Tryz.underlying50 hti hz0 hz1 hz2 rfl (by decide) (.slice na1 nn1 nc1) nn1 cells rfl hrow8.out ⟨W2.heap.size+1,0,none⟩ 1 1 [.int .i64 (fi:Int),.slice (some ⟨W2.heap.size,0,none⟩) kn kn] rfl rfl hnews8.out (by simp [Value.oneCell']) (by omega) (by unfold maxLen;omega) (by omega) (Nat.zero_le _) (W2.heap.size+1+1) (by simp) ?_
      intro g cap w9 ho hg hlies hglt
      have HO9:=Lh ho
      have HG9:=Lh hg
      have HLI:=Lh hlies
      obtain ⟨hbo9,r29,i09,hFE9⟩:=hgb8.out w9 hg
      have v9:w9.cell? ⟨(w.heap.size+1+1+1+1),1,none⟩=some (.slice na1 nn1 nc1):=(by rw [cell_of_row _ _ _ _ _ _ hbo9];rfl)
      have vf9:w9.frozen? ⟨(w.heap.size+1+1+1+1),1,none⟩=false:=(Fz hbo9)
      have zv9:=Bl v9
      clear ho hg hlies hbo9
      refine hK.out _ _ ⟨r29,i09,hFE9⟩ (fun hHeld=>?_)
      clear hK K
      try simp only [Act.put,List.setIfInBounds_toArray,List.set_cons_zero,List.set_cons_succ]
      refine wpAnyH_take (i:=14) (oi:={ dst:=some 160,op:=Op.fieldAddr 52 (Operand.tmp 9) 1,type:=0,pos:= "vm.go:432",after:=#[{ on:=0,ground:=Ground.phase },{ on:=1,ground:=Ground.phase },{ on:=2,ground:=Ground.phase },{ on:=3,ground:=Ground.phase },{ on:=4,ground:=Ground.phase },{ on:=5,ground:=Ground.phase },{ on:=6,ground:=Ground.phase },{ on:=7,ground:=Ground.phase },{ on:=8,ground:=Ground.phase },{ on:=9,ground:=Ground.phase },{ on:=10,ground:=Ground.phase },{ on:=11,ground:=Ground.phase },{ on:=12,ground:=Ground.phase },{ on:=13,ground:=Ground.phase }],guard:=none }) (v:=.pointer (some ⟨(w.heap.size+1+1+1+1),1,none⟩)) rfl (by kernel_rfl) (by kernel_rfl) (by kernel_rfl) (fun _ _ _ h=>h) (Or.inl ⟨by rfl,by intro wV hSw;(try dsimp only at hSw);go_simp⟩) (by assumption) ?_
      try simp only [Act.put,List.setIfInBounds_toArray,List.set_cons_zero,List.set_cons_succ]
      refine wpAnyH_ready (rs:=[15]) (by kernel_rfl) (by simp) ?_
      refine (AllReadyH.cons (o:={ dst:=none,op:=Op.store 50 (Operand.tmp 160) (Operand.tmp 159),type:=0,pos:= "vm.go:432",after:=#[{ on:=14,ground:=Ground.data },{ on:=13,ground:=Ground.data },{ on:=13,ground:=Ground.chain },{ on:=0,ground:=Ground.phase },{ on:=1,ground:=Ground.phase },{ on:=2,ground:=Ground.phase },{ on:=3,ground:=Ground.phase },{ on:=4,ground:=Ground.phase },{ on:=5,ground:=Ground.phase },{ on:=6,ground:=Ground.phase },{ on:=7,ground:=Ground.phase },{ on:=8,ground:=Ground.phase },{ on:=9,ground:=Ground.phase },{ on:=10,ground:=Ground.phase },{ on:=11,ground:=Ground.phase },{ on:=12,ground:=Ground.phase },{ on:=13,ground:=Ground.phase }],guard:=none }) rfl (fun K hK=>?_) AllReadyH.nil)
      go_simp
      refine hK.out _ _ ⟨Xw.cell r29 (by simpa using nrb),Xw.cell i09 (by simp;omega),Xw.cell hFE9 (by simpa using nfb)⟩ (fun hHeld=>?_)
      clear hK K
      try simp only [Act.put,List.setIfInBounds_toArray,List.set_cons_zero,List.set_cons_succ]
      refine wpAnyH_done (by kernel_rfl) ?_ _
      rotate_left
      go_simp
      refine hK.out _ _ ⟨Xc HBD.out r2,Xc HBD.out i0,Xc HBD.out hFE⟩ (fun hHeld=>?_)
      clear hK K
      try simp only [Act.put,List.setIfInBounds_toArray,List.set_cons_zero,List.set_cons_succ]
      refine wpAnyH_ready (rs:=[1]) (by kernel_rfl) (by simp) ?_
      refine (AllReadyH.cons (o:={ dst:=some 147,op:=Op.load 50 (Operand.tmp 146),type:=50,pos:= "vm.go:432",after:=#[{ on:=0,ground:=Ground.data }],guard:=none }) rfl (fun K hK=>?_) AllReadyH.nil)
      go_simp
      refine hK.out _ _ ⟨Xc HBD.out r2,Xc HBD.out i0,Xc HBD.out hFE⟩ (fun hHeld=>?_)
      clear hK K
      try simp only [Act.put,List.setIfInBounds_toArray,List.set_cons_zero,List.set_cons_succ]
      refine wpAnyH_ready (rs:=[13]) (by kernel_rfl) (by simp) ?_
      refine (AllReadyH.cons (o:={ dst:=some 159,op:=Op.call { callee:=Callee.builtin Builtin.append,args:=#[Operand.tmp 147,Operand.tmp 158],argTypes:=#[50,50] },type:=50,pos:= "vm.go:432",after:=#[{ on:=1,ground:=Ground.data },{ on:=12,ground:=Ground.data }],guard:=none }) rfl (fun K hK=>?_) AllReadyH.nil)
      refine step_append_lies _ rfl (.tmp 147) (.tmp 158) 50 rfl 0 107 ti (.agg #[.int .i64 0,.slice none 0 0]) 2 32 Tryz.underlying50 hti hz0 hz1 hz2 rfl (by decide) (.slice na1 nn1 nc1) nn1 cells rfl hrow8.out ⟨W2.heap.size+1,0,none⟩ 1 1 [.int .i64 (fi:Int),.slice (some ⟨W2.heap.size,0,none⟩) kn kn] rfl rfl hnews8.out (by simp [Value.oneCell']) (by omega) (by unfold maxLen;omega) (by omega) (Nat.zero_le _) (W2.heap.size+1+1) (by simp) ?_
      intro g cap w9 ho hg hlies hglt
      have HO9:=Lh ho
      have HG9:=Lh hg
      have HLI:=Lh hlies
      obtain ⟨hbo9,r29,i09,hFE9⟩:=hgb8.out w9 hg
      have v9:w9.cell? ⟨(w.heap.size+1+1+1+1),1,none⟩=some (.slice na1 nn1 nc1):=(by rw [cell_of_row _ _ _ _ _ _ hbo9];rfl)
      have vf9:w9.frozen? ⟨(w.heap.size+1+1+1+1),1,none⟩=false:=(Fz hbo9)
      have zv9:=Bl v9
      clear ho hg hlies hbo9
      refine hK.out _ _ ⟨r29,i09,hFE9⟩ (fun hHeld=>?_)
      clear hK K
      try simp only [Act.put,List.setIfInBounds_toArray,List.set_cons_zero,List.set_cons_succ]
      refine wpAnyH_take (i:=14) (oi:={ dst:=some 160,op:=Op.fieldAddr 52 (Operand.tmp 9) 1,type:=0,pos:= "vm.go:432",after:=#[{ on:=0,ground:=Ground.phase },{ on:=1,ground:=Ground.phase },{ on:=2,ground:=Ground.phase },{ on:=3,ground:=Ground.phase },{ on:=4,ground:=Ground.phase },{ on:=5,ground:=Ground.phase },{ on:=6,ground:=Ground.phase },{ on:=7,ground:=Ground.phase },{ on:=8,ground:=Ground.phase },{ on:=9,ground:=Ground.phase },{ on:=10,ground:=Ground.phase },{ on:=11,ground:=Ground.phase },{ on:=12,ground:=Ground.phase },{ on:=13,ground:=Ground.phase }],guard:=none }) (v:=.pointer (some ⟨(w.heap.size+1+1+1+1),1,none⟩)) rfl (by kernel_rfl) (by kernel_rfl) (by kernel_rfl) (fun _ _ _ h=>h) (Or.inl ⟨by rfl,by intro wV hSw;(try dsimp only at hSw);go_simp⟩) (by assumption) ?_
      try simp only [Act.put,List.setIfInBounds_toArray,List.set_cons_zero,List.set_cons_succ]
      refine wpAnyH_ready (rs:=[15]) (by kernel_rfl) (by simp) ?_
      refine (AllReadyH.cons (o:={ dst:=none,op:=Op.store 50 (Operand.tmp 160) (Operand.tmp 159),type:=0,pos:= "vm.go:432",after:=#[{ on:=14,ground:=Ground.data },{ on:=13,ground:=Ground.data },{ on:=13,ground:=Ground.chain },{ on:=0,ground:=Ground.phase },{ on:=1,ground:=Ground.phase },{ on:=2,ground:=Ground.phase },{ on:=3,ground:=Ground.phase },{ on:=4,ground:=Ground.phase },{ on:=5,ground:=Ground.phase },{ on:=6,ground:=Ground.phase },{ on:=7,ground:=Ground.phase },{ on:=8,ground:=Ground.phase },{ on:=9,ground:=Ground.phase },{ on:=10,ground:=Ground.phase },{ on:=11,ground:=Ground.phase },{ on:=12,ground:=Ground.phase },{ on:=13,ground:=Ground.phase }],guard:=none }) rfl (fun K hK=>?_) AllReadyH.nil)
      go_simp
      refine hK.out _ _ ⟨Xw.cell r29 (by simpa using nrb),Xw.cell i09 (by simp;omega),Xw.cell hFE9 (by simpa using nfb)⟩ (fun hHeld=>?_)
      clear hK K
      try simp only [Act.put,List.setIfInBounds_toArray,List.set_cons_zero,List.set_cons_succ]
      refine wpAnyH_done (by kernel_rfl) ?_ _
      all_goals
       have hadd:=Lh (hP2.out.mem.addN (w4:=((W2.alloc (.cells (Xx (List.replicate kn 0)) 3)).alloc (.cells #[.int .i64 (fi:Int),.slice (some ⟨W2.heap.size,0,none⟩) kn kn] 107)).drew) (w5:=w9) (x:=⟨(fi:Int),List.replicate kn 0⟩) (lv:=.slice (some ⟨W2.heap.size,0,none⟩) kn kn) (Fl:=[W2.heap.size]) (g:=g) (cap:=cap) HBD.out (hO8.out.keep (fun b hb=>(X7 _ _).block b (hO8.out.lt b hb))) (fun b hb=>by rw [List.mem_singleton] at hb;rw [hb];exact Nat.le_refl _) (by simp) (by show in64 (fi:Int);unfold in64;omega) (by rw [←HNN.out];exact HO9.out) HG9.out (by rcases HLI.out with h1|h1;exact .inl h1;exact .inr (by rw [h1];simp)))
       have hP3:Hid (PSt (w.heap.size+3) W4 (w9.setCell ⟨(w.heap.size+1+1+1+1),1,none⟩ (.slice (some ⟨g,0,none⟩) (nn1+1) cap)) bm ((w.heap.size+1+1+1+1)) ((w.heap.size+1+1+1+1+1)) ((w.heap.size+1+1+1)) mc { p with mem:={ p.mem with nodes:=p.mem.nodes++[⟨(fi:Int),List.replicate kn 0⟩] } } 0 0 mc.compares Fm (.slice ga1 gn1 gc1) (.slice (some ⟨g,0,none⟩) (nn1+1) cap) (cells++[.int .i64 (fi:Int),.slice (some ⟨W2.heap.size,0,none⟩) kn kn]) Fg (Fn++[W2.heap.size]) (.slice la1 ln1 lc1)):=Lh (by
        have h1:=hadd.out
        rw [←HNN.out] at h1
        exact hP2.out.memM h1.1 h1.2.1)
       have HASK:Hid (J5 c p mc.req=some (⟨{ p.mem with nodes:=p.mem.nodes++[⟨(fi:Int),List.replicate kn 0⟩] },p.log++[⟨3,(nn1:Int)+1,(fi:Int)⟩],p.nodes+(if 0<(nn1:Int)+1 then 1 else 0)⟩,(nn1:Int)+1)):=Lh (by
        unfold J5
        rw [if_pos HK3.out,if_pos (by rw [←HNN.out];exact hfull),HFI.out,Int.toNat_natCast,List.getD_eq_getElem?_getD,HKN.out,← HNN.out,if_pos (show 0<(nn1:Int)+1 by omega)]
        simp)
       obtain ⟨W5,hW5⟩:∃ u,u=w9.setCell ⟨(w.heap.size+1+1+1+1),1,none⟩ (.slice (some ⟨g,0,none⟩) (nn1+1) cap):=⟨_,rfl⟩
       rw [←hW5] at hP3
       have t2:W5.cell? ⟨rb,2,none⟩=some (.int .i64 (fi:Int)):=(by
        have h1:=hadd.out
        rw [←HNN.out,← hW5] at h1
        exact h1.2.1.cell r2 (fun e=>by have h2:=HP.out.ltO rb e;have h3:=HRB.out;omega))
       have zr5:=Bl t2
       have u15:W5.cell? ⟨(w.heap.size+1+1+1+1),1,none⟩=some (.slice (some ⟨g,0,none⟩) (nn1+1) cap):=by rw [cell_of_row _ _ _ _ _ _ hP3.out.mem.box];rfl
       have zu5:=Bl u15
       clear hadd
       rw [←hW5]
       clear hW5
       go_wp2_with fail
       refine (Vs 3 ((nn1:Int)+1) (fi:Int) 0 0 mc.compares p.nodes hP3.out.log hP3.out.out (fun e=>hP3.out.d6 _ e (by simp)) hlogl ⟨HOKP.out.nodes.1,by have:=HOKP.out.nodes.2;omega⟩).mono ?_
       rintro e w8 hNP
       obtain ⟨rfl,lv8,hP8'⟩:=hP3.out.noteM hNP
       have hP8:=Lh hP8'
       clear hNP hP8'
       have hbV:w8.heap[w.heap.size]?=some (.cells #[.slice (some ⟨fb,fo,none⟩) c.fields.length fc,.int .i64 c.globals,.slice ga c.funcs.length gc] 25 (0,0)):=by rw [hP8.out.bel.block _ (by omega)];exact bb4.out.1
       try clear i0
       have i0:w8.cell? ⟨w.heap.size,0,none⟩=some (.slice (some ⟨fb,fo,none⟩) c.fields.length fc):=by rw [cell_of_row _ _ _ _ _ _ hbV];rfl
       try clear i1
       have i1:w8.cell? ⟨w.heap.size,1,none⟩=some (.int .i64 c.globals):=by rw [cell_of_row _ _ _ _ _ _ hbV];rfl
       try clear i2
       have i2:w8.cell? ⟨w.heap.size,2,none⟩=some (.slice ga c.funcs.length gc):=by rw [cell_of_row _ _ _ _ _ _ hbV];rfl
       have zi:=Bl i0
       clear hbV
       go_wp2_with fail
       refine (Kb hs hsm (some ⟨fb,fo,none⟩) ga c.fields.length fc gc c.globals ((nn1:Int)+1) HWT.out HE.out.1 hP8.out.mach B (fun b hb=>by have:=hP8.out.g1 b hb;omega) (HC.out.below ((HB4.out.trans (hP8.out.bel.mono (by omega))).mono hB)).funs (Ji HOKP.out.mem HREQ.out HASK.out)).mono ?_
       rintro e wn ⟨rfl,m2,F2,hN2,hO2,hM2⟩
       have hstp:=HOKP.out.step hs HK4.out HK5.out HASK.out hN2
       have hnew:Hid (∃ mc p Fm gv nv cells Fg Fn lv cmp,PSt (w.heap.size+3) W4 wn bm ((w.heap.size+1+1+1+1)) ((w.heap.size+1+1+1+1+1)) ((w.heap.size+1+1+1)) mc p 0 0 cmp Fm gv nv cells Fg Fn lv∧Kt c mc p∧mu mc<gk - 1∧∀ o p2,Zx c mc p o p2→Zx c mq ⟨m,[],0⟩ o p2):=Lh ⟨m2,_,F2,_,_,_,_,_,_,_,hP8.out.machM hO2 hM2,hstp.1,by have:=hstp.2;omega,fun o p2 h=>HIST.out _ _ (.step HK4.out HK5.out HASK.out hN2 h)⟩
       clear hN2 hO2 hM2 hstp
       go_wp2_with fail
       go_roundg (gk - 1)
       case measure=>omega
       case rel=>exact hnew
    have nk4:¬mc.req.kind=4:=HK4.out
    have nk5:¬mc.req.kind=5:=HK5.out
    obtain ⟨nd,hnd⟩:∃ nd:Nat,mc.req.node=nd:=⟨mc.req.node.toNat,by have:=HREQ.out.node;omega⟩
    have hndV:nd≤1099511627776:=by have:=HREQ.out.nodeV;unfold isV at this;omega
    have hfi1:fi≤100:=by have:=HREQ.out.field2;have:=HFI.out;omega
    have hfi0:(0:Int)≤(fi:Int):=Int.natCast_nonneg _
    rw [hnd] at r1
    have HND:=Lh hnd
    try clear o1
    have o1:=Xs hP2.out.out 0 (.int .i64 0) rfl
    try clear fo1
    have fo1:W2.frozen? ⟨(w.heap.size+1+1+1),0,none⟩=false:=Fz hP2.out.out
    have zc:=Bl o1
    clear hkind hnd
    by_cases hfar:nn1<nd
    ·have hdec:(nn1:Int)<(nd:Int):=by omega
     have HASK:Hid (J5 c p mc.req=none):=Lh (by
      unfold J5
      rw [if_neg hk3,if_pos]
      unfold Un
      rw [if_pos (by rw [HND.out,← HNN.out];exact hdec)]
      exact HREQ.out.field)
     obtain ⟨W3,hW3⟩:∃ u,u=W2.setCell ⟨(w.heap.size+1+1+1),0,none⟩ (.int .i64 11):=⟨_,rfl⟩
     have hP3:Hid (PSt (w.heap.size+3) W4 W3 bm ((w.heap.size+1+1+1+1)) ((w.heap.size+1+1+1+1+1)) ((w.heap.size+1+1+1)) mc p 11 0 mc.compares Fm (.slice ga1 gn1 gc1) (.slice na1 nn1 nc1) cells Fg Fn (.slice la1 ln1 lc1)):=Lh (by rw [hW3];exact hP2.out.outM 0 (.int .i64 11) rfl)
     go_upto_region 23 with fail
     rw [←hW3]
     clear hW3
     try clear o0
     try clear fo0
     try clear o1
     try clear fo1
     try clear o2
     try clear fo2
     try clear o3
     try clear fo3
     try clear o4
     try clear fo4
     try clear u0
     try clear fu0
     try clear u1
     try clear fu1
     try clear l0
     try clear fl0
     try clear z3
     try clear z4
     try clear z5
     obtain ⟨⟨so0,o0,fo0⟩,⟨so1,o1,fo1⟩,⟨so2,o2,fo2⟩,⟨so3,o3,fo3⟩,⟨so4,o4,fo4⟩,⟨su0,u0,fu0⟩,⟨su1,u1,fu1⟩,⟨sl0,l0,fl0⟩,z3,z4,z5⟩:=hP3.out.outs
     go_region
     all_goals
      go_wp2_with fail
      refine bodyPost_ret (v:=.tuple #[Xap ⟨11,0,mc.compares,p.nodes⟩,.agg #[.slice ga1 gn1 gc1,.slice na1 nn1 nc1],.slice la1 ln1 lc1,.int .i64 0]) (Z4 (W:=W3.drew) (o:=⟨11,0,mc.compares,p.nodes⟩) (p:=8) (q:=9) (r:=10) (u:=11) rfl hP3.out.out hP3.out.mem.box hP3.out.log.box _ _ rfl rfl rfl rfl) rfl ?_
      exact .inr ⟨HGV.out,mq,_,p,_,_,_,_,_,_,_,_,HR.out,HIST.out _ _ (.type HK4.out HK5.out HASK.out),rfl,(hP3.out.keep (Xh (Below.refl _ _) 1)).mem,(hP3.out.keep (Xh (Below.refl _ _) 1)).log,HOKP.out.mem,hlogl,fun b hb=>by have:=hP3.out.g2 b hb;omega,fun b hb=>by have:=hP3.out.g3 b hb;omega,(HB4.out.trans (hP3.out.bel.mono (by omega))).trans (Xh (Below.refl _ _) 1)⟩
    have hdec1:¬(nn1:Int)<(nd:Int):=by omega
    have hdec2:(nd:Int)≤(nn1:Int):=by omega
    by_cases hpos:0<nd
    ·obtain ⟨nd0,rfl⟩:∃ k,nd=k+1:=⟨nd - 1,by omega⟩
     obtain ⟨x1,hx1⟩:∃ y,p.mem.nodes[nd0]?=some y:=⟨_,List.getElem?_eq_getElem (by have:=HNN.out;omega)⟩
     have hlist:Hid (Un p.mem mc.req=x1.f):=Lh (by
      unfold Un
      have e1:=HND.out
      have e2:=HNN.out
      rw [if_neg (by omega),if_pos (by omega),show (mc.req.node - 1).toNat=nd0 by omega,hx1]
      rfl)
     have hput:Hid (mc.req.kind=2→putM p.mem mc.req={ p.mem with nodes:=p.mem.nodes.modify nd0 (fun x=>Xem x fi mc.req.value) }):=Lh (fun hk=>by
      unfold putM
      have e1:=HND.out
      rw [if_neg (by simp [hk]),if_pos (by omega),show (mc.req.node - 1).toNat=nd0 by omega,HFI.out,Int.toNat_natCast])
     obtain ⟨nb,fv1,Fl,hna1,hcn,hOf,hsub,hwr⟩:=hP2.out.nodeAt hx1
     subst hna1
     obtain ⟨fa1,fc1,hf1⟩:=(Zs hOf.1).2.2
     subst hf1
     have zn:=Bl hcn
     have HOF:=Lh hOf
     have HSUB:Hid (∀ b∈Fl,b∈Uf ((w.heap.size+1+1+1+1)) (.slice (some ⟨nb,0,none⟩) nn1 nc1) Fg Fn):=Lh hsub
     have HWR:=Lh hwr
     obtain ⟨fl1,hfl1⟩:∃ n,n=x1.f.length:=⟨_,rfl⟩
     rw [←hfl1] at hcn
     have HFL:Hid (fl1=x1.f.length):=Lh hfl1
     have hpos1:(0:Int)<(nd0:Int)+1:=by omega
     have hd0:(0:Int)≤(nd0:Int):=Int.natCast_nonneg _
     have hd1:(nd0:Int)<(nn1:Int):=by omega
     clear hsub hwr hOf hfl1 hx1
     by_cases hfld:fl1≤fi
     ·have hdf:(fl1:Int)≤(fi:Int):=by omega
      have HASK:Hid (J5 c p mc.req=none):=Lh (by
       unfold J5
       rw [if_neg hk3,if_pos (by rw [hlist.out,HFI.out,← HFL.out];exact hdf)])
      obtain ⟨W3,hW3⟩:∃ u,u=W2.setCell ⟨(w.heap.size+1+1+1),0,none⟩ (.int .i64 11):=⟨_,rfl⟩
      have hP3:Hid (PSt (w.heap.size+3) W4 W3 bm ((w.heap.size+1+1+1+1)) ((w.heap.size+1+1+1+1+1)) ((w.heap.size+1+1+1)) mc p 11 0 mc.compares Fm (.slice ga1 gn1 gc1) (.slice (some ⟨nb,0,none⟩) nn1 nc1) cells Fg Fn (.slice la1 ln1 lc1)):=Lh (by rw [hW3];exact hP2.out.outM 0 (.int .i64 11) rfl)
      go_upto_region 23 with fail
      rw [←hW3]
      clear hW3
      try clear o0
      try clear fo0
      try clear o1
      try clear fo1
      try clear o2
      try clear fo2
      try clear o3
      try clear fo3
      try clear o4
      try clear fo4
      try clear u0
      try clear fu0
      try clear u1
      try clear fu1
      try clear l0
      try clear fl0
      try clear z3
      try clear z4
      try clear z5
      obtain ⟨⟨so0,o0,fo0⟩,⟨so1,o1,fo1⟩,⟨so2,o2,fo2⟩,⟨so3,o3,fo3⟩,⟨so4,o4,fo4⟩,⟨su0,u0,fu0⟩,⟨su1,u1,fu1⟩,⟨sl0,l0,fl0⟩,z3,z4,z5⟩:=hP3.out.outs
      go_region
      all_goals
       go_wp2_with fail
       refine bodyPost_ret (v:=.tuple #[Xap ⟨11,0,mc.compares,p.nodes⟩,.agg #[.slice ga1 gn1 gc1,.slice (some ⟨nb,0,none⟩) nn1 nc1],.slice la1 ln1 lc1,.int .i64 0]) (Z4 (W:=W3.drew) (o:=⟨11,0,mc.compares,p.nodes⟩) (p:=8) (q:=9) (r:=10) (u:=11) rfl hP3.out.out hP3.out.mem.box hP3.out.log.box _ _ rfl rfl rfl rfl) rfl ?_
       exact .inr ⟨HGV.out,mq,_,p,_,_,_,_,_,_,_,_,HR.out,HIST.out _ _ (.type HK4.out HK5.out HASK.out),rfl,(hP3.out.keep (Xh (Below.refl _ _) 1)).mem,(hP3.out.keep (Xh (Below.refl _ _) 1)).log,HOKP.out.mem,hlogl,fun b hb=>by have:=hP3.out.g2 b hb;omega,fun b hb=>by have:=hP3.out.g3 b hb;omega,(HB4.out.trans (hP3.out.bel.mono (by omega))).trans (Xh (Below.refl _ _) 1)⟩
     have hdf:¬(fl1:Int)≤(fi:Int):=by omega
     have hdf2:(fi:Int)<(fl1:Int):=by omega
     obtain ⟨vv,hvv⟩:∃ v,x1.f[fi]?=some v:=⟨_,List.getElem?_eq_getElem (by have:=HFL.out;omega)⟩
     obtain ⟨lb,cap,hfe,hFl,_,_⟩:=HOF.out.form (by have:=HFL.out;omega)
     simp only [Value.slice.injEq,true_and] at hfe
     obtain ⟨rfl,rfl⟩:=hfe
     have cv:=HOF.out.cellAt hvv
     have fcv:=HOF.out.frozen fi
     have zv:=Bl cv
     have hlbm:Hid (lb∈Uf ((w.heap.size+1+1+1+1)) (.slice (some ⟨nb,0,none⟩) nn1 nc1) Fg Fn):=Lh (HSUB.out lb (by rw [hFl];simp))
     have HVV:=Lh hvv
     clear hvv hFl
     by_cases hk2:mc.req.kind=2
     ·rw [hk2] at r0
      have HK2:=Lh hk2
      have h64:in64 mc.req.value:=HREQ.out.value.in64
      have hrb:lb<rb:=by have h1:=HP.out.ltO lb hlbm.out;have h2:=HRB.out;omega
      obtain ⟨W3,hW3⟩:∃ u,u=W2.setCell ⟨lb,fi,none⟩ (.int .i64 mc.req.value):=⟨_,rfl⟩
      have hP3:Hid (PSt (w.heap.size+3) W4 W3 bm ((w.heap.size+1+1+1+1)) ((w.heap.size+1+1+1+1+1)) ((w.heap.size+1+1+1)) mc { p with mem:={ p.mem with nodes:=p.mem.nodes.modify nd0 (fun x=>Xem x fi mc.req.value) } } 0 0 mc.compares Fm (.slice ga1 gn1 gc1) (.slice (some ⟨nb,0,none⟩) nn1 nc1) cells Fg Fn (.slice la1 ln1 lc1)):=Lh (by rw [hW3];exact HWR.out lb _ fi mc.req.value rfl h64)
      have HASK:Hid (J5 c p mc.req=some (⟨{ p.mem with nodes:=p.mem.nodes.modify nd0 (fun x=>Xem x fi mc.req.value) },p.log++[⟨2,(nd0:Int)+1,(fi:Int)⟩],p.nodes+(if 0<(nd0:Int)+1 then 1 else 0)⟩,mc.req.value)):=Lh (by
       have e1:=HND.out
       unfold J5
       rw [if_neg hk3,if_neg (by rw [hlist.out,HFI.out,← HFL.out];exact hdf),if_pos HK2.out,hput.out HK2.out,HK2.out,e1,HFI.out]
       simp)
      clear hk2
      have s0:W3.cell? ⟨rb,0,none⟩=some (.int .i64 2):=by rw [hW3];exact Xw.cell r0 (by simp;omega)
      have s1:W3.cell? ⟨rb,1,none⟩=some (.int .i64 ((nd0:Int)+1)):=by rw [hW3];exact Xw.cell r1 (by simp;omega)
      have s2:W3.cell? ⟨rb,2,none⟩=some (.int .i64 (fi:Int)):=by rw [hW3];exact Xw.cell r2 (by simp;omega)
      have cv3:W3.cell? ⟨lb,fi,none⟩=some (.int .i64 mc.req.value):=by rw [hW3];exact World.cell?_setCell_same _ _ _ cv
      have zr3:=Bl s0
      have zv3:=Bl cv3
      go_upto_region 26 with fail
      rw [←hW3]
      clear hW3
      go_upto_region 27 with fail
      go_wp2_with fail
      refine (Vs 2 ((nd0:Int)+1) (fi:Int) 0 0 mc.compares p.nodes hP3.out.log hP3.out.out (fun e=>hP3.out.d6 _ e (by simp)) hlogl ⟨HOKP.out.nodes.1,by have:=HOKP.out.nodes.2;omega⟩).mono ?_
      rintro e w8 hNP
      obtain ⟨rfl,lv8,hP8'⟩:=hP3.out.noteM hNP
      have hP8:=Lh hP8'
      clear hNP hP8'
      have hbV:w8.heap[w.heap.size]?=some (.cells #[.slice fa c.fields.length fc,.int .i64 c.globals,.slice ga c.funcs.length gc] 25 (0,0)):=by rw [hP8.out.bel.block _ (by omega)];exact bb4.out.1
      try clear i0
      have i0:w8.cell? ⟨w.heap.size,0,none⟩=some (.slice fa c.fields.length fc):=by rw [cell_of_row _ _ _ _ _ _ hbV];rfl
      try clear i1
      have i1:w8.cell? ⟨w.heap.size,1,none⟩=some (.int .i64 c.globals):=by rw [cell_of_row _ _ _ _ _ _ hbV];rfl
      try clear i2
      have i2:w8.cell? ⟨w.heap.size,2,none⟩=some (.slice ga c.funcs.length gc):=by rw [cell_of_row _ _ _ _ _ _ hbV];rfl
      have zi:=Bl i0
      clear hbV
      go_wp2_with fail
      refine (Kb hs hsm fa ga c.fields.length fc gc c.globals mc.req.value HWT.out HE.out.1 hP8.out.mach B (fun b hb=>by have:=hP8.out.g1 b hb;omega) (HC.out.below ((HB4.out.trans (hP8.out.bel.mono (by omega))).mono hB)).funs (Ji HOKP.out.mem HREQ.out HASK.out)).mono ?_
      rintro e wn ⟨rfl,m2,F2,hN2,hO2,hM2⟩
      have hstp:=HOKP.out.step hs HK4.out HK5.out HASK.out hN2
      have hnew:Hid (∃ mc p Fm gv nv cells Fg Fn lv cmp,PSt (w.heap.size+3) W4 wn bm ((w.heap.size+1+1+1+1)) ((w.heap.size+1+1+1+1+1)) ((w.heap.size+1+1+1)) mc p 0 0 cmp Fm gv nv cells Fg Fn lv∧Kt c mc p∧mu mc<gk - 1∧∀ o p2,Zx c mc p o p2→Zx c mq ⟨m,[],0⟩ o p2):=Lh ⟨m2,_,F2,_,_,_,_,_,_,_,hP8.out.machM hO2 hM2,hstp.1,by have:=hstp.2;omega,fun o p2 h=>HIST.out _ _ (.step HK4.out HK5.out HASK.out hN2 h)⟩
      clear hN2 hO2 hM2 hstp
      go_wp2_with fail
      go_roundg (gk - 1)
      case measure=>omega
      case rel=>exact hnew
     ·have HASK:Hid (J5 c p mc.req=some (⟨p.mem,p.log++[⟨mc.req.kind,(nd0:Int)+1,(fi:Int)⟩],p.nodes+(if 0<(nd0:Int)+1 then 1 else 0)⟩,vv)):=Lh (by
       have e1:=HND.out
       unfold J5
       rw [if_neg hk3,if_neg (by rw [hlist.out,HFI.out,← HFL.out];exact hdf),if_neg hk2,hlist.out,HFI.out,Int.toNat_natCast,List.getD_eq_getElem?_getD,HVV.out]
       unfold putM
       rw [if_pos hk2,e1]
       simp)
      go_upto_region 27 with fail
      go_wp2_with fail
      refine (Vs mc.req.kind ((nd0:Int)+1) (fi:Int) 0 0 mc.compares p.nodes hP2.out.log hP2.out.out (fun e=>hP2.out.d6 _ e (by simp)) hlogl ⟨HOKP.out.nodes.1,by have:=HOKP.out.nodes.2;omega⟩).mono ?_
      rintro e w8 hNP
      obtain ⟨rfl,lv8,hP8'⟩:=hP2.out.noteM hNP
      have hP8:=Lh hP8'
      clear hNP hP8'
      have hbV:w8.heap[w.heap.size]?=some (.cells #[.slice fa c.fields.length fc,.int .i64 c.globals,.slice ga c.funcs.length gc] 25 (0,0)):=by rw [hP8.out.bel.block _ (by omega)];exact bb4.out.1
      try clear i0
      have i0:w8.cell? ⟨w.heap.size,0,none⟩=some (.slice fa c.fields.length fc):=by rw [cell_of_row _ _ _ _ _ _ hbV];rfl
      try clear i1
      have i1:w8.cell? ⟨w.heap.size,1,none⟩=some (.int .i64 c.globals):=by rw [cell_of_row _ _ _ _ _ _ hbV];rfl
      try clear i2
      have i2:w8.cell? ⟨w.heap.size,2,none⟩=some (.slice ga c.funcs.length gc):=by rw [cell_of_row _ _ _ _ _ _ hbV];rfl
      have zi:=Bl i0
      clear hbV
      go_wp2_with fail
      refine (Kb hs hsm fa ga c.fields.length fc gc c.globals vv HWT.out HE.out.1 hP8.out.mach B (fun b hb=>by have:=hP8.out.g1 b hb;omega) (HC.out.below ((HB4.out.trans (hP8.out.bel.mono (by omega))).mono hB)).funs (Ji HOKP.out.mem HREQ.out HASK.out)).mono ?_
      rintro e wn ⟨rfl,m2,F2,hN2,hO2,hM2⟩
      have hstp:=HOKP.out.step hs HK4.out HK5.out HASK.out hN2
      have hnew:Hid (∃ mc p Fm gv nv cells Fg Fn lv cmp,PSt (w.heap.size+3) W4 wn bm ((w.heap.size+1+1+1+1)) ((w.heap.size+1+1+1+1+1)) ((w.heap.size+1+1+1)) mc p 0 0 cmp Fm gv nv cells Fg Fn lv∧Kt c mc p∧mu mc<gk - 1∧∀ o p2,Zx c mc p o p2→Zx c mq ⟨m,[],0⟩ o p2):=Lh ⟨m2,_,F2,_,_,_,_,_,_,_,hP8.out.machM hO2 hM2,hstp.1,by have:=hstp.2;omega,fun o p2 h=>HIST.out _ _ (.step HK4.out HK5.out HASK.out hN2 h)⟩
      clear hN2 hO2 hM2 hstp
      go_wp2_with fail
      go_roundg (gk - 1)
      case measure=>omega
      case rel=>exact hnew
    ·obtain rfl:nd=0:=by omega
     have e0:mc.req.node=0:=HND.out
     rw [show ((0:Nat):Int)=0 from rfl] at r1 hdec1 hdec2
     have HE0q:=Lh e0
     clear e0
     have hlist:Hid (Un p.mem mc.req=p.mem.globals):=Lh (by
      unfold Un
      rw [if_neg (by rw [HE0q.out];omega),if_neg (by rw [HE0q.out];omega)])
     have hput:Hid (mc.req.kind=2→putM p.mem mc.req={ p.mem with globals:=p.mem.globals.set fi mc.req.value }):=Lh (fun hk=>by
      unfold putM
      rw [if_neg (by simp [hk]),if_neg (by rw [HE0q.out];omega),HFI.out,Int.toNat_natCast])
     by_cases hfld:gn1≤fi
     ·have hdf:(gn1:Int)≤(fi:Int):=by omega
      have HASK:Hid (J5 c p mc.req=none):=Lh (by
       unfold J5
       rw [if_neg hk3,if_pos (by rw [hlist.out,HFI.out,← HGN.out];exact hdf)])
      obtain ⟨W3,hW3⟩:∃ u,u=W2.setCell ⟨(w.heap.size+1+1+1),0,none⟩ (.int .i64 11):=⟨_,rfl⟩
      have hP3:Hid (PSt (w.heap.size+3) W4 W3 bm ((w.heap.size+1+1+1+1)) ((w.heap.size+1+1+1+1+1)) ((w.heap.size+1+1+1)) mc p 11 0 mc.compares Fm (.slice ga1 gn1 gc1) (.slice na1 nn1 nc1) cells Fg Fn (.slice la1 ln1 lc1)):=Lh (by rw [hW3];exact hP2.out.outM 0 (.int .i64 11) rfl)
      go_upto_region 23 with fail
      rw [←hW3]
      clear hW3
      try clear o0
      try clear fo0
      try clear o1
      try clear fo1
      try clear o2
      try clear fo2
      try clear o3
      try clear fo3
      try clear o4
      try clear fo4
      try clear u0
      try clear fu0
      try clear u1
      try clear fu1
      try clear l0
      try clear fl0
      try clear z3
      try clear z4
      try clear z5
      obtain ⟨⟨so0,o0,fo0⟩,⟨so1,o1,fo1⟩,⟨so2,o2,fo2⟩,⟨so3,o3,fo3⟩,⟨so4,o4,fo4⟩,⟨su0,u0,fu0⟩,⟨su1,u1,fu1⟩,⟨sl0,l0,fl0⟩,z3,z4,z5⟩:=hP3.out.outs
      go_region
      all_goals
       go_wp2_with fail
       refine bodyPost_ret (v:=.tuple #[Xap ⟨11,0,mc.compares,p.nodes⟩,.agg #[.slice ga1 gn1 gc1,.slice na1 nn1 nc1],.slice la1 ln1 lc1,.int .i64 0]) (Z4 (W:=W3.drew) (o:=⟨11,0,mc.compares,p.nodes⟩) (p:=8) (q:=9) (r:=10) (u:=11) rfl hP3.out.out hP3.out.mem.box hP3.out.log.box _ _ rfl rfl rfl rfl) rfl ?_
       exact .inr ⟨HGV.out,mq,_,p,_,_,_,_,_,_,_,_,HR.out,HIST.out _ _ (.type HK4.out HK5.out HASK.out),rfl,(hP3.out.keep (Xh (Below.refl _ _) 1)).mem,(hP3.out.keep (Xh (Below.refl _ _) 1)).log,HOKP.out.mem,hlogl,fun b hb=>by have:=hP3.out.g2 b hb;omega,fun b hb=>by have:=hP3.out.g3 b hb;omega,(HB4.out.trans (hP3.out.bel.mono (by omega))).trans (Xh (Below.refl _ _) 1)⟩
     have hdf:¬(gn1:Int)≤(fi:Int):=by omega
     have hdf2:(fi:Int)<(gn1:Int):=by omega
     obtain ⟨vv,hvv⟩:∃ v,p.mem.globals[fi]?=some v:=⟨_,List.getElem?_eq_getElem (by have:=HGN.out;omega)⟩
     have hOf:=hP2.out.mem.glob
     obtain ⟨lb,cap,hfe,hFl,_,_⟩:=hOf.form (by have:=HGN.out;omega)
     rw [←HGN.out] at hfe
     simp only [Value.slice.injEq,true_and] at hfe
     obtain ⟨rfl,rfl⟩:=hfe
     rw [HGN.out] at hOf
     have cv:=hOf.cellAt hvv
     have fcv:=hOf.frozen fi
     have zv:=Bl cv
     have hlbm:Hid (lb∈Uf ((w.heap.size+1+1+1+1)) (.slice na1 nn1 nc1) Fg Fn):=Lh (by unfold Uf;rw [hFl];simp)
     have HVV:=Lh hvv
     clear hvv hFl hOf
     by_cases hk2:mc.req.kind=2
     ·rw [hk2] at r0
      have HK2:=Lh hk2
      have h64:in64 mc.req.value:=HREQ.out.value.in64
      have hrb:lb<rb:=by have h1:=HP.out.ltO lb hlbm.out;have h2:=HRB.out;omega
      obtain ⟨W3,hW3⟩:∃ u,u=W2.setCell ⟨lb,fi,none⟩ (.int .i64 mc.req.value):=⟨_,rfl⟩
      have hP3:Hid (PSt (w.heap.size+3) W4 W3 bm ((w.heap.size+1+1+1+1)) ((w.heap.size+1+1+1+1+1)) ((w.heap.size+1+1+1)) mc { p with mem:={ p.mem with globals:=p.mem.globals.set fi mc.req.value } } 0 0 mc.compares Fm (.slice (some ⟨lb,0,none⟩) gn1 gc1) (.slice na1 nn1 nc1) cells Fg Fn (.slice la1 ln1 lc1)):=Lh (by rw [hW3];exact hP2.out.globSet HGN.out fi mc.req.value h64)
      have HASK:Hid (J5 c p mc.req=some (⟨{ p.mem with globals:=p.mem.globals.set fi mc.req.value },p.log++[⟨2,0,(fi:Int)⟩],p.nodes+(if 0<(0:Int) then 1 else 0)⟩,mc.req.value)):=Lh (by
       have e1:=HE0q.out
       unfold J5
       rw [if_neg hk3,if_neg (by rw [hlist.out,HFI.out,← HGN.out];exact hdf),if_pos HK2.out,hput.out HK2.out,HK2.out,e1,HFI.out])
      clear hk2
      have s0:W3.cell? ⟨rb,0,none⟩=some (.int .i64 2):=by rw [hW3];exact Xw.cell r0 (by simp;omega)
      have s1:W3.cell? ⟨rb,1,none⟩=some (.int .i64 0):=by rw [hW3];exact Xw.cell r1 (by simp;omega)
      have s2:W3.cell? ⟨rb,2,none⟩=some (.int .i64 (fi:Int)):=by rw [hW3];exact Xw.cell r2 (by simp;omega)
      have cv3:W3.cell? ⟨lb,fi,none⟩=some (.int .i64 mc.req.value):=by rw [hW3];exact World.cell?_setCell_same _ _ _ cv
      have zr3:=Bl s0
      have zv3:=Bl cv3
      go_upto_region 26 with fail
      rw [←hW3]
      clear hW3
      go_upto_region 27 with fail
      go_wp2_with fail
      refine (Vs 2 0 (fi:Int) 0 0 mc.compares p.nodes hP3.out.log hP3.out.out (fun e=>hP3.out.d6 _ e (by simp)) hlogl ⟨HOKP.out.nodes.1,by have:=HOKP.out.nodes.2;omega⟩).mono ?_
      rintro e w8 hNP
      obtain ⟨rfl,lv8,hP8'⟩:=hP3.out.noteM hNP
      have hP8:=Lh hP8'
      clear hNP hP8'
      have hbV:w8.heap[w.heap.size]?=some (.cells #[.slice fa c.fields.length fc,.int .i64 c.globals,.slice ga c.funcs.length gc] 25 (0,0)):=by rw [hP8.out.bel.block _ (by omega)];exact bb4.out.1
      try clear i0
      have i0:w8.cell? ⟨w.heap.size,0,none⟩=some (.slice fa c.fields.length fc):=by rw [cell_of_row _ _ _ _ _ _ hbV];rfl
      try clear i1
      have i1:w8.cell? ⟨w.heap.size,1,none⟩=some (.int .i64 c.globals):=by rw [cell_of_row _ _ _ _ _ _ hbV];rfl
      try clear i2
      have i2:w8.cell? ⟨w.heap.size,2,none⟩=some (.slice ga c.funcs.length gc):=by rw [cell_of_row _ _ _ _ _ _ hbV];rfl
      have zi:=Bl i0
      clear hbV
      go_wp2_with fail
      refine (Kb hs hsm fa ga c.fields.length fc gc c.globals mc.req.value HWT.out HE.out.1 hP8.out.mach B (fun b hb=>by have:=hP8.out.g1 b hb;omega) (HC.out.below ((HB4.out.trans (hP8.out.bel.mono (by omega))).mono hB)).funs (Ji HOKP.out.mem HREQ.out HASK.out)).mono ?_
      rintro e wn ⟨rfl,m2,F2,hN2,hO2,hM2⟩
      have hstp:=HOKP.out.step hs HK4.out HK5.out HASK.out hN2
      have hnew:Hid (∃ mc p Fm gv nv cells Fg Fn lv cmp,PSt (w.heap.size+3) W4 wn bm ((w.heap.size+1+1+1+1)) ((w.heap.size+1+1+1+1+1)) ((w.heap.size+1+1+1)) mc p 0 0 cmp Fm gv nv cells Fg Fn lv∧Kt c mc p∧mu mc<gk - 1∧∀ o p2,Zx c mc p o p2→Zx c mq ⟨m,[],0⟩ o p2):=Lh ⟨m2,_,F2,_,_,_,_,_,_,_,hP8.out.machM hO2 hM2,hstp.1,by have:=hstp.2;omega,fun o p2 h=>HIST.out _ _ (.step HK4.out HK5.out HASK.out hN2 h)⟩
      clear hN2 hO2 hM2 hstp
      go_wp2_with fail
      go_roundg (gk - 1)
      case measure=>omega
      case rel=>exact hnew
     ·have HASK:Hid (J5 c p mc.req=some (⟨p.mem,p.log++[⟨mc.req.kind,0,(fi:Int)⟩],p.nodes+(if 0<(0:Int) then 1 else 0)⟩,vv)):=Lh (by
       have e1:=HE0q.out
       unfold J5
       rw [if_neg hk3,if_neg (by rw [hlist.out,HFI.out,← HGN.out];exact hdf),if_neg hk2,hlist.out,HFI.out,Int.toNat_natCast,List.getD_eq_getElem?_getD,HVV.out]
       unfold putM
       rw [if_pos hk2,e1]
       simp)
      go_upto_region 27 with fail
      go_wp2_with fail
      refine (Vs mc.req.kind 0 (fi:Int) 0 0 mc.compares p.nodes hP2.out.log hP2.out.out (fun e=>hP2.out.d6 _ e (by simp)) hlogl ⟨HOKP.out.nodes.1,by have:=HOKP.out.nodes.2;omega⟩).mono ?_
      rintro e w8 hNP
      obtain ⟨rfl,lv8,hP8'⟩:=hP2.out.noteM hNP
      have hP8:=Lh hP8'
      clear hNP hP8'
      have hbV:w8.heap[w.heap.size]?=some (.cells #[.slice fa c.fields.length fc,.int .i64 c.globals,.slice ga c.funcs.length gc] 25 (0,0)):=by rw [hP8.out.bel.block _ (by omega)];exact bb4.out.1
      try clear i0
      have i0:w8.cell? ⟨w.heap.size,0,none⟩=some (.slice fa c.fields.length fc):=by rw [cell_of_row _ _ _ _ _ _ hbV];rfl
      try clear i1
      have i1:w8.cell? ⟨w.heap.size,1,none⟩=some (.int .i64 c.globals):=by rw [cell_of_row _ _ _ _ _ _ hbV];rfl
      try clear i2
      have i2:w8.cell? ⟨w.heap.size,2,none⟩=some (.slice ga c.funcs.length gc):=by rw [cell_of_row _ _ _ _ _ _ hbV];rfl
      have zi:=Bl i0
      clear hbV
      go_wp2_with fail
      refine (Kb hs hsm fa ga c.fields.length fc gc c.globals vv HWT.out HE.out.1 hP8.out.mach B (fun b hb=>by have:=hP8.out.g1 b hb;omega) (HC.out.below ((HB4.out.trans (hP8.out.bel.mono (by omega))).mono hB)).funs (Ji HOKP.out.mem HREQ.out HASK.out)).mono ?_
      rintro e wn ⟨rfl,m2,F2,hN2,hO2,hM2⟩
      have hstp:=HOKP.out.step hs HK4.out HK5.out HASK.out hN2
      have hnew:Hid (∃ mc p Fm gv nv cells Fg Fn lv cmp,PSt (w.heap.size+3) W4 wn bm ((w.heap.size+1+1+1+1)) ((w.heap.size+1+1+1+1+1)) ((w.heap.size+1+1+1)) mc p 0 0 cmp Fm gv nv cells Fg Fn lv∧Kt c mc p∧mu mc<gk - 1∧∀ o p2,Zx c mc p o p2→Zx c mq ⟨m,[],0⟩ o p2):=Lh ⟨m2,_,F2,_,_,_,_,_,_,_,hP8.out.machM hO2 hM2,hstp.1,by have:=hstp.2;omega,fun o p2 h=>HIST.out _ _ (.step HK4.out HK5.out HASK.out hN2 h)⟩
      clear hN2 hO2 hM2 hstp
      go_wp2_with fail
      go_roundg (gk - 1)
      case measure=>omega
      case rel=>exact hnew
end Go.Proofs.YtbmeoklmachjpaaGreatDoor
