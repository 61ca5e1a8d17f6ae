/- The contract of bytecode.heights. -/
import Derived.Test.YtbmeoklmachjpaaGreatDoorHtSt
import Derived.Deep.LoopGhost
import Derived.Deep.DeepCutAuto
set_option maxHeartbeats 2000000
set_option maxRecDepth 100000
set_option linter.unusedVariables false
set_option linter.unusedSimpArgs false
namespace Go.Proofs.YtbmeoklmachjpaaGreatDoor
open Go.RowKit
theorem Xmo:(Tryz.prog.info? 171).map (fun i=>(i.zero,i.size,i.bytes))=some (some (.int .u64 0),1,8):=by kernel_rfl
theorem Xj0 (W:World) (n:Nat) (hn:n≤1048576):(Instr.makeSlice 154 (.int .i64 (n:Int)) (.int .i64 (n:Int))).run Tryz.prog W=.ok (.slice (some ⟨W.heap.size,0,none⟩) n n) (W.alloc (.cells (Zi (List.replicate n 0)) 171)):=by
 obtain ⟨i,hi,hz0,hz1,hz2⟩:=info_parts Xmo
 have h:=run_make W 154 171 i (.int .u64 0) Tryz.underlying154 hi hz0 .i64 .i64 (n:Int) (n:Int) (by omega) (by omega) (by rw [hz2];omega) (by omega)
 rw [h,hz1]
 have:madeCells (Value.int .u64 0).cells ((n:Int).toNat*1)=Zi (List.replicate n 0):=by
  apply Array.ext_getElem?
  intro j
  simp [madeCells,Value.cells,Zi,Nat.mod_one]
  rw [Array.getElem?_replicate]
  by_cases hj:j<n
  ·rw [if_pos hj,Array.getElem?_eq_getElem (by simpa using hj)];rfl
  ·rw [if_neg hj,Array.getElem?_eq_none (by simp;omega)];rfl
 rw [this]
 simp
theorem Xie (n i:Nat):Ym (List.replicate n 0) i=false:=by
 unfold Ym;rw [List.getD_eq_getElem?_getD,List.getElem?_replicate];split<;>simp
theorem Xb9 (n:Nat):Xbb (List.replicate n 0):=fun x hx=>by rw [List.eq_of_mem_replicate hx];omega
/-- what heights returns -/
def Xri (c:Cod) (f:Fun) (w:World) (e:Ending) (w':World):Prop:=
 (∃ (k err:Int),e=.returned (.tuple #[.slice none 0 0,.int .i64 k,.int .i64 err])∧err≠0∧in64 err∧¬Zh c f∧Below w.heap.size w w')∨
 ∃ g hs,e=.returned (.tuple #[.slice (some ⟨g,0,none⟩) f.code.length f.code.length,.int .i64 0,.int .i64 0])∧w.heap.size≤g∧w'.heap[g]?=some (.cells (Xx hs) 3 (0,0))∧Zh c f∧Zp c f hs∧Below w.heap.size w w'
theorem Xnr (w:World) (base:Nat) (v:Value) (l:List Int) (hown:w.ownsRow base 3 1 v l.length (l.map (Value.int .i64))) (ad:Addr) (y:Int) (hy:w.cell? ad=some (.int .i64 y)) (hl:l.length<1000000) (hbase:base≤w.heap.size) (ty:TypeId) :
  ∃ v' w',(Builtin.append_ #[22,22] ty #[v,.slice (some ad) 1 1]).run Tryz.prog w=.ok v' w'∧w'.ownsRow base 3 1 v' (l++[y]).length ((l++[y]).map (Value.int .i64))∧w.grownBy w' v.ownBlock:=by
 obtain ⟨i,hi,hz0,hz1,hz2⟩:=info_parts Uc
 obtain ⟨v',w',h1,h2,h3,_⟩:=run_append_own (P:=Tryz.prog) w base 22 ty 3 i (.int .i64 0) 1 8 Tryz.underlying22 hi hz0 hz1 hz2 rfl (by decide) v l.length (l.map (Value.int .i64)) hown ad 1 1 [.int .i64 y] rfl
  (fun j u hu=>by
   cases j with
   | zero=>simp at hu;subst hu;exact hy
   | succ j=>simp at hu) (by simp [Value.oneCell']) (by unfold maxLen;omega) (by omega) hbase
 exact ⟨v',w',h1,by simpa using h2,h3⟩
theorem Uj {ops:Array Oper} {rest:List Oper} {o:Oper} {a:Act} {Q:Exit→Act→World→Prop} {w:World} (hgd:o.guard=none) (s x:Operand) (ho:o.op=.call { callee:=.builtin .append,args:=#[s,x],argTypes:=#[22,22] })
  (base:Nat) (v:Value) (l:List Int) (hs:a.eval s=v) (hown:w.ownsRow base 3 1 v l.length (l.map (Value.int .i64))) (ad:Addr) (y:Int) (hx:a.eval x=.slice (some ad) 1 1) (hy:w.cell? ad=some (.int .i64 y)) (hl:l.length<1000000) (hbase:base≤w.heap.size)
  (h:∀ v' w',w'.ownsRow base 3 1 v' (l++[y]).length ((l++[y]).map (Value.int .i64))→w.grownBy w' v.ownBlock→wpList Tryz.prog ops Q rest (a.put o.dst v') w'):wpList Tryz.prog ops Q (o::rest) a w:=by
 refine wpList_plain hgd fun K hK=>?_
 obtain ⟨v',w',hr,h2,h3⟩:=Xnr w base v l hown ad y hy hl hbase o.type
 unfold Oper.wp execOp
 simp only [ho,resolve,invoke,builtin,Sem.run_bind,Sem.run_pure,Result.andThen_ok,List.map_toArray,List.map_cons,List.map_nil,hs,hx,hr]
 exact hK _ _ (h v' w' h2 h3)
theorem Xdt {w:World} {base:Nat} {v:Value} {l:List Int} (h:w.ownsRow base 3 1 v l.length (l.map (Value.int .i64))) :
  ∃ sa cap,v=.slice sa l.length cap∧(l=[]∨∃ g,sa=some ⟨g,0,none⟩∧base≤g∧g<w.heap.size∧∀ j y,l[j]?=some y→w.cell? ⟨g,j,none⟩=some (.int .i64 y)):=by
 rcases h.2 with ⟨rfl,hn⟩|⟨g,cap,cur,rfl,hb,hg,_,_,_,ht⟩
 ·exact ⟨none,0,by rw [hn],.inl (List.eq_nil_of_length_eq_zero hn)⟩
 ·refine ⟨_,cap,rfl,.inr ⟨g,rfl,hb,(La hg),fun j y hy=>?_⟩⟩
  rw [cell_of_row _ _ _ _ _ _ hg]
  have h1:(l.map (Value.int .i64))[j]?=some (.int .i64 y):=by simp [hy]
  rw [←ht,List.getElem?_take] at h1
  split at h1
  ·simpa using h1
  ·cases h1
/-- the successors lie at sa -/
def Zw (wi:World) (sa:Option Addr) (l:List Nat) (bh bt:Nat):Prop:=
 l=[]∨∃ g,sa=some ⟨g,0,none⟩∧g≠bh∧g≠bt∧g<wi.heap.size∧∀ (j k:Nat),l[j]?=some k→wi.cell? ⟨g,j,none⟩=some (.int .i64 (k:Int))
theorem Zw.kept {wi w':World} {sa:Option Addr} {l:List Nat} {bh bt k:Nat} {y:Value} (h:Zw wi sa l bh bt) (hz:wi.heap.size≤(wi.setCell ⟨bh,k,none⟩ y).heap.size) (hg:(wi.setCell ⟨bh,k,none⟩ y).grownBy w' (some bt)):Zw w' sa l bh bt:=by
 rcases h with h|⟨g,h1,h2,h3,h4,h5⟩
 ·exact .inl h
 ·refine .inr ⟨g,h1,h2,h3,Nat.lt_of_lt_of_le (Nat.lt_of_lt_of_le h4 hz) hg.size,fun j q hq=>?_⟩
  have e:w'.heap[g]?=wi.heap[g]?:=by
   rw [hg.block g (Nat.lt_of_lt_of_le h4 hz) (fun e=>h3 (by cases e;rfl)),heap_setCell_other _ _ _ _ h2]
  rw [World.cell?_of_block (w:=wi) (a:=⟨g,j,none⟩) e]
  exact h5 j q hq
theorem Zw.of {w:World} {base:Nat} {sa:Option Addr} {l:List Int} {ls:List Nat} {bh bt:Nat} (h:l=[]∨∃ g,sa=some ⟨g,0,none⟩∧base≤g∧g<w.heap.size∧∀ (j:Nat) y,l[j]?=some y→w.cell? ⟨g,j,none⟩=some (.int .i64 y)) (hl:l=ls.map Int.ofNat) (h1:bh<base) (h2:bt<base):Zw w sa ls bh bt:=by
 subst hl
 rcases h with h|⟨g,h3,h4,h5,h6⟩
 ·exact .inl (by simpa using h)
 ·exact .inr ⟨g,h3,by omega,by omega,h5,fun j k hk=>h6 j k (by simp [hk])⟩
/-- what next comes to, for a labelling -/
def Xrx (c:Cod) (f:Fun) (hs:List Int) (n bh bt M:Nat) (w:World) (e:Ending) (w':World):Prop:=
 ∃ a ws',e=.returned a∧HSt c f hs ws' a M∧U4 w' bh bt hs ws'∧ws'.length=n∧w.grownBy w' (some bt)
theorem Xbr (c:Cod) (f:Fun) (hs:List Int) (ws:List Nat) (bh bt n cap wd M:Nat) (w:World) (hn:ws.length=n) (hL:Qa w) (hm:U4 w bh bt hs ws) (hl:ws.length≤1000000) (hf:wd≤1000000) (h:Lab c f hs (Ym ws) (fun _=>False)) (hw:∀ q,Ym ws q=true→wd≤q / 64) (hM:2*Xbn hs+Ur (Ym ws) f.code.length≤M) :
  Calls Tryz.prog 112 #[.slice (some ⟨bt,0,none⟩) n cap,.int .i64 wd] w (Xrx c f hs n bh bt M w):=by
 refine (Xmy ws bt n cap wd w hn hm.t hl hf hm.words hL.tz).mono ?_
 rintro e w' (⟨rfl,rfl,h1⟩|⟨i,ws',rfl,h1,h2,h3,h4,h5,h6,h7,h8,h9⟩)
 ·exact ⟨_,ws,rfl,Xmv h hw h1,hm,hn,⟨rfl,rfl,rfl,Nat.le_refl _,fun _ _ _=>rfl⟩⟩
 ·refine ⟨_,ws',rfl,Xne h hw hM h3 h4 h7,⟨?_,h9,h6,hm.ne⟩,h5.trans hn,h8⟩
  rw [h8.block bh (La hm.h) (fun e=>hm.ne (by cases e;rfl))]
  exact hm.h
theorem Z3 {B:Nat} {a w w':World} {b:Nat} (h:Below B a w) (hg:w.grownBy w' (some b)) (hB:B≤w.heap.size) (hb:B≤b):Below B a w':=h.grown hg hB (fun k hk=>by cases hk;exact hb)
theorem Xcl (c:Cod) (cv:Value) (f:Fun) (fv:Value) (B:Nat) (w:World) (hL:Qa w) (hB:B≤w.heap.size) (hc:Yj B w cv c) (hf:J4 B w fv f) (wf:WfF c f) :
  Calls Tryz.prog 80 #[cv,fv] w (Xri c f w):=by
 have HC:=Lh hc
 have HF:=Lh hf
 have HL:=Lh hL
 have WF:=Lh wf
 have hn1:=wf.one
 have hn2:=wf.most
 obtain ⟨cfv,cgv,rfl,hcf,hcg,-⟩:=hc
 obtain ⟨ca,ccap,rfl,-,-,-,-⟩:=hcf
 obtain ⟨cb,cbcap,rfl,-,-,-,-⟩:=hcg
 obtain ⟨kv,rfl,hk,-,-,-⟩:=hf
 obtain ⟨ka,kcap,rfl,hkl,hkl2,hkl3,hkE⟩:=hk
 have HK:=Lh hkE
 have hmk:∀ W,(Instr.makeSlice 154 (.int .i64 ((f.code.length:Int) / 64+1)) (.int .i64 ((f.code.length:Int) / 64+1))).run Tryz.prog W=.ok (.slice (some ⟨W.heap.size,0,none⟩) (f.code.length / 64+1) (f.code.length / 64+1)) (W.alloc (.cells (Zi (List.replicate (f.code.length / 64+1) 0)) 171)):=by
  intro W
  have:=Xj0 W (f.code.length / 64+1) (by omega)
  have e:((f.code.length / 64+1:Nat):Int)=(f.code.length:Int) / 64+1:=by omega
  rw [e] at this
  exact this
 clear hL wf hkE
 go_enter Tryz.func80,Tryz.ntmps80
 go_wp2_with fail
 obtain ⟨W2,hW2⟩:∃ W,W=((w.alloc (.cells #[.slice ca c.fields.length ccap,.int .i64 c.globals,.slice cb c.funcs.length cbcap] 25)).alloc (.cells #[.string f.name,.int .i64 f.params,.int .i64 f.locals,.bool f.result,.slice ka f.code.length kcap] 75)):=⟨_,rfl⟩
 have hW2b:Below w.heap.size w W2:=by rw [hW2];exact ((Below.refl _ _).alloc (Nat.le_refl _) _).alloc (by simp) _
 have hW2s:W2.heap.size=w.heap.size+1+1:=by rw [hW2];simp
 have hCc:Hid (Xo W2 w.heap.size [.slice ca c.fields.length ccap,.int .i64 c.globals,.slice cb c.funcs.length cbcap]):=by rw [hW2];exact Xd.alloc _
 have hCf:Hid (Xo W2 (w.heap.size+1) [.string f.name,.int .i64 f.params,.int .i64 f.locals,.bool f.result,.slice ka f.code.length kcap]):=by
  have:=Xd (w:=w.alloc (.cells #[.slice ca c.fields.length ccap,.int .i64 c.globals,.slice cb c.funcs.length cbcap] 25)) (vs:=#[.string f.name,.int .i64 f.params,.int .i64 f.locals,.bool f.result,.slice ka f.code.length kcap]) (T:=75)
  rw [hW2];exact (by simpa using this:Xo _ _ _)
 rw [←hW2]
 have HW2:=Lh hW2
 have HW2s:=Lh hW2s
 clear hW2 hW2s
 refine (Xjg f.code.length (-1) _ _ hn1 hn2 (by rw [←HW2s.out,Y5];rfl)).mono ?_
 rintro e w1 ⟨bh,rfl,hbh,hh,hb1⟩
 have hbw:=Yi hb1
 have hbh2:W2.heap.size<bh:=by simp at hbh;omega
 have hbh3:bh<w1.heap.size:=(La hh)
 have hc0:∀ o,(w1.alloc o).cell? ⟨bh,0,none⟩=some (.int .i64 (-1)):=fun o=>Xc (Xa _ _) (by rw [cell_of_row _ _ _ _ _ _ hh,List.getElem?_toArray,List.getElem?_replicate,if_pos (by omega)])
 have hf0:∀ o,(w1.alloc o).frozen? ⟨bh,0,none⟩=false:=fun o=>Fz (by rw [Below.heap_alloc _ _ _ hbh3];exact hh)
 have Hh:=Lh hh
 clear hh
 go_wp2_with fail
 obtain ⟨W4,hW4⟩:∃ W,W=((w1.setCell ⟨bh,0,none⟩ (.int .i64 0)).alloc (.cells (Zi (List.replicate (f.code.length / 64+1) 0)) 171)):=⟨_,rfl⟩
 have hbt:W4.heap[w1.heap.size]?=some (.cells (Zi (List.replicate (f.code.length / 64+1) 0)) 171 (0,0)):=by
  have:=heap_alloc_new (w1.setCell ⟨bh,0,none⟩ (.int .i64 0)) (.cells (Zi (List.replicate (f.code.length / 64+1) 0)) 171)
  rw [hW4];simpa using this
 have hbh4:W4.heap[bh]?=some (.cells (Xx ((List.replicate f.code.length (-1)).set 0 0)) 3 (0,0)):=by
  rw [hW4,Below.heap_alloc _ _ _ (by simpa using hbh3),heap_setCell_same _ _ _ _ _ _ Hh.out]
  have:(List.replicate f.code.length (Value.int .i64 (-1))).toArray=Xx (List.replicate f.code.length (-1)):=by simp [Xx]
  rw [this,Jq]
 have hb4:Below W2.heap.size W2 W4:=by
  rw [hW4];exact (hbw.setCell (p:=⟨bh,0,none⟩) (by show _≤bh;omega) _).alloc (by simpa using hbw.size) _
 have hs4:w1.heap.size<W4.heap.size:=by rw [hW4];simp
 have hL4:Qa W4:=HL.out.below (hW2b.then hb4)
 rw [←hW4]
 have HL4:=Lh hL4
 have Hbt:=Lh hbt
 have Hbh:=Lh hbh4
 clear hW4 hbt hbh4 hL4 hc0 hf0 hmk Hh
 refine (Xcz (List.replicate (f.code.length / 64+1) 0) w1.heap.size _ _ 0 _ (by simp) Hbt.out (by simp) (by simp;omega) (Xb9 _)).mono ?_
 rintro e w5 ⟨rfl,hg5,ht5⟩
 have hT:∀ j,Ym ((List.replicate (f.code.length / 64+1) 0).set (0 / 64) ((List.replicate (f.code.length / 64+1) 0).getD (0 / 64) 0 ||| 2 ^ (0 % 64))) j=decide (j=0):=fun j=>by rw [Xbp (by simp),Xie];simp
 have hws5:Xbb ((List.replicate (f.code.length / 64+1) 0).set (0 / 64) ((List.replicate (f.code.length / 64+1) 0).getD (0 / 64) 0 ||| 2 ^ (0 % 64))):=Uy (Xb9 _) _ (by simp [List.getD_eq_getElem?_getD])
 have hl5:((List.replicate (f.code.length / 64+1) 0).set (0 / 64) ((List.replicate (f.code.length / 64+1) 0).getD (0 / 64) 0 ||| 2 ^ (0 % 64))).length=f.code.length / 64+1:=by simp
 generalize (List.replicate (f.code.length / 64+1) 0).set (0 / 64) ((List.replicate (f.code.length / 64+1) 0).getD (0 / 64) 0 ||| 2 ^ (0 % 64))=ws5 at *
 have hm5:U4 w5 bh w1.heap.size ((List.replicate f.code.length (-1)).set 0 0) ws5:=⟨by rw [hg5.block bh (by omega) (fun e=>by simp at e;omega)];exact Hbh.out,ht5,hws5,by omega⟩
 have hlab5:=Lab.start WF.out (Ym ws5) hT
 generalize (List.replicate f.code.length (-1:Int)).set 0 0=hl0 at *
 have hb5:=Z3 hb4 hg5 hb4.size (by omega)
 have hs5:w1.heap.size<w5.heap.size:=Nat.lt_of_lt_of_le hs4 hg5.size
 have HL5:=Lh (HL.out.below (hW2b.then hb5))
 have HM5:=Lh hm5
 have HT5:=Lh hT
 have HLab5:=Lh hlab5
 have Hl5:=Lh hl5
 clear hg5 ht5 hT hws5 hl5 hm5 hlab5 HL4 Hbt Hbh
 go_wp2_with fail
 refine (Xbr c f hl0 ws5 bh w1.heap.size _ _ 0 (2*Xbn hl0+Ur (Ym ws5) f.code.length) _ Hl5.out HL5.out HM5.out (by rw [Hl5.out];omega) (by omega) HLab5.out (fun q _=>Nat.zero_le _) (Nat.le_refl _)).mono ?_
 rintro e w6 ⟨a,ws6,rfl,hst,hm6,hl6,hg6⟩
 have hb6:=Z3 hb5 hg6 hb5.size (by omega)
 have hs6:w1.heap.size<w6.heap.size:=Nat.lt_of_lt_of_le hs5 hg6.size
 have HL6:=Lh hl6
 generalize w1.heap.size=bt at *
 have HST:=Lh hst
 have HM6:=Lh hm6
 clear hg6 hl6 HM5 HT5 HLab5 Hl5 HL5 hbw hst hm6 hb1 hb4 hb5 hs4 hs5 HW2
 go_wp2_with fail
 go_loopg [10] (2*Xbn hl0+Ur (Ym ws5) f.code.length) (fun gk a wr=>∃ hs ws,Hid (HSt c f hs ws a gk)∧Hid (U4 wr bh bt hs ws)∧Hid (ws.length=f.code.length / 64+1)∧Below W2.heap.size W2 wr∧bt<wr.heap.size)
 case atStart=>exact ⟨hl0,ws6,HST,HM6,HL6,hb6,hs6⟩
 case round=>
  obtain ⟨hs,ws,hst,hm,hwl,hbr,hbs⟩:=hrel
  rcases hst.out with ⟨rfl,hlab,hT⟩|⟨i,v,rfl,hlab,hv,hv0,hw,hM⟩
  ·obtain ⟨hS,hH⟩:=hlab.fin WF.out hT
   have HS:=Lh hS
   have HH:=Lh hH
   clear hlab hT hS hH
   go_wp2_with fail
   go_ret3
   exact .inr ⟨bh,hs,rfl,Nat.le_trans hW2b.size (by omega),hm.out.h,HS.out,HH.out,hW2b.then hbr⟩
  ·have hil:i<f.code.length:=by rw [←hlab.len];exact (Ll hv)
   obtain ⟨x,hx⟩:∃ x,f.code[i]?=some x:=⟨_,List.getElem?_eq_getElem hil⟩
   have hwr:Below w.heap.size w wr:=hW2b.then hbr
   rcases HK.out with h|⟨kb,ko,rfl,hkb,hkE⟩
   ·rw [h] at hx;simp at hx
   obtain ⟨x0,x1,hx64⟩:=(hkE i x hx).below (hwr.mono hB) hkb
   have hz1:w.heap.size+1<wr.heap.size:=by have h1:=hbr.size;have h2:=HW2s.out;omega
   have hz0:w.heap.size<wr.heap.size:=by omega
   have c0:=Xc hbr (hCc.out 0 _ rfl)
   have c1:=Xc hbr (hCc.out 1 _ rfl)
   have c2:=Xc hbr (hCc.out 2 _ rfl)
   have f0:=Xc hbr (hCf.out 0 _ rfl)
   have f1:=Xc hbr (hCf.out 1 _ rfl)
   have f2:=Xc hbr (hCf.out 2 _ rfl)
   have f3:=Xc hbr (hCf.out 3 _ rfl)
   have f4:=Xc hbr (hCf.out 4 _ rfl)
   have HX:=Lh hx
   have HLab:=Lh hlab
   have HV:=Lh hv
   have Hw:=Lh hw
   clear hx hlab hv hw
   have hC1:=Lh (HC.out.below ((hwr.then (Xa wr (.cells #[.int .i64 x.op,.int .i64 x.a] 100))).mono hB))
   have hF1:=Lh (HF.out.below ((hwr.then (Xa wr (.cells #[.int .i64 x.op,.int .i64 x.a] 100))).mono hB))
   have hmem:=List.mem_of_getElem? HX.out
   go_wp2_with fail
   refine (Xlv c _ f _ x _ B _ (by simp;have:=hwr.size;omega) hC1.out hF1.out ⟨rfl,hx64⟩ (WF.out.op x hmem).1 (WF.out.op x hmem).2 (WF.out.call x hmem)).mono ?_
   rintro e w7 ⟨rfl,hb7⟩
   have hb7r:=Yi hb7
   have hm7:U4 w7 bh bt hs ws:=⟨by rw [hb7r.block bh (by omega)];exact hm.out.h,by rw [hb7r.block bt hbs];exact hm.out.t,hm.out.words,hm.out.ne⟩
   have hbr7:=hbr.then hb7r
   have hbs7:bt<w7.heap.size:=Nat.lt_of_lt_of_le hbs hb7r.size
   have q0:=Zu hb7 0 _ rfl
   have q1:=Zu hb7 1 _ rfl
   have hhc:w7.cell? ⟨bh,i,none⟩=some (.int .i64 v):=by rw [cell_of_row _ _ _ _ _ _ hm7.h];exact Qe HV.out
   have hp:=WF.out.pops x hmem
   have hq:=WF.out.pushes x hmem
   have hvb:v≤2*1048576:=by have:=HLab.out.bound i v HV.out;rw [HLab.out.len] at this;omega
   have HM7:=Lh hm7
   have hno:=fun h=>Lh (J9 HLab.out HV.out hv0 HX.out h)
   obtain ⟨p,hpp⟩:∃ p,Xm c f x=p:=⟨_,rfl⟩
   obtain ⟨q,hqq⟩:∃ q,Xj c f x=q:=⟨_,rfl⟩
   rw [hpp] at hp hno
   rw [hqq] at hq
   rw [hpp,hqq]
   have HP:=Lh hpp
   have HQ:=Lh hqq
   clear hpp hqq hm7 hb7 x0 x1 c0 c1 c2 f0 f1 f2 f3 f4 hC1 hF1
   have HNO:=Lh hno
   clear hno
   by_cases h1:p≤v
   ·by_cases h10:x.op=10∧p<v
    ·have hfin:=HNO.out (fun h=>by have:=h.2.1 h10.1;omega)
     have e10:(x.op == 10)=true:=by rw [h10.1];rfl
     have h11:=h10.2
     clear h10
     go_wp2_with fail
     go_ret3
     exact .inl ⟨_,_,rfl,by decide,⟨by decide,by decide⟩,hfin.out,hwr.then hb7r⟩
    ·have hr:Hid (x.op=10→v≤p):=fun h=>by by_cases h2:v≤p;exact h2;exact absurd ⟨h,by omega⟩ h10
     have HIS:=Lh (ISt.start (v - Xm c f x+Xj c f x) (X2 x i) HLab.out HV.out Hw.out (Nat.le_refl _))
     generalize 2*Xbn hs+Ur (Ym ws) f.code.length=M at *
     have hnn:Hid (X2 x i=(if x.op=10∨x.op=11 then [] else [i+1])++(if x.op=11∨x.op=12 then [x.a.toNat] else [])):=rfl
     have hjmp:Hid (x.op=11∨x.op=12→0≤x.a∧x.a<f.code.length):=WF.out.jump x hmem
     have hcase:x.op=10∨x.op=11∨x.op=12∨(x.op≠10∧x.op≠11∧x.op≠12):=by omega
     rcases hcase with hop|hop|hop|hop
     ·-- a return: no successor
      have b10:(x.op == 10)=true:=by rw [hop];rfl
      have d10:(x.op != 10)=false:=by rw [hop];rfl
      have b11:(x.op == 11)=false:=by rw [hop];rfl
      have d11:(x.op != 11)=true:=by rw [hop];rfl
      have b12:(x.op == 12)=false:=by rw [hop];rfl
      have d12:(x.op != 12)=true:=by rw [hop];rfl
      have hvp:v≤p:=hr.out hop
      have hsu:Hid (X2 x i=[]):=by rw [hnn.out,if_pos (.inl hop),if_neg (by omega)];rfl
      have HOP:=Lh hop
      clear hop h10
      go_wp2_with fail
      have HSA:Hid (Zw w7 none (X2 x i) bh bt):=.inl hsu.out
      have hlen:Hid ((X2 x i).length=0):=by show _=_;rw [hsu.out];rfl
      have hbr8:Below W2.heap.size W2 w7:=hbr7.then (Below.refl w7.heap.size w7)
      have hbs8:bt<w7.heap.size:=Nat.lt_of_lt_of_le hbs7 ((Below.refl w7.heap.size w7)).size
      have HM8:Hid (U4 w7 bh bt hs ws):=⟨by rw [((Below.refl w7.heap.size w7)).block bh (by omega)];exact HM7.out.h,by rw [((Below.refl w7.heap.size w7)).block bt hbs7];exact HM7.out.t,HM7.out.words,HM7.out.ne⟩
      have hi64:i / 64≤1000000:=by omega
      go_loopg [110,9] 0 (fun gj ix wd wi=>∃ (j wn:Nat) (hs':List Int) (ws':List Nat),0≤gj+j∧j≤0∧ix=.int .i64 j∧wd=.int .i64 wn∧wn≤1000000∧Hid (ISt c f hs' ws' i v (v - Xm c f x+Xj c f x) (X2 x i) j wn M)∧Hid (U4 wi bh bt hs' ws')∧Hid (ws'.length=f.code.length / 64+1)∧Below W2.heap.size W2 wi∧bt<wi.heap.size∧Hid (Zw wi none (X2 x i) bh bt))
      case atStart=>exact ⟨0,i / 64,hs,ws,by omega,by omega,by rfl,by go_num,hi64,HIS,HM8,hwl,hbr8,hbs8,HSA⟩
      case round=>
       obtain ⟨wi,rfl⟩:∃ wi:World,wi=wr:=⟨_,rfl⟩
       obtain ⟨j,wn,hs',ws',hj1,hj2,rfl,rfl,hwn,hist,hmi,hwli,hbi,hbsi,hsa⟩:=hrel
       by_cases hlt:j<0
       ·exact absurd hlt (Nat.not_lt_zero _)
       ·have hlab':=hist.out.done HX.out (by rw [HP.out];exact h1) (by rw [HP.out];exact hr.out) (by rw [hlen.out];omega)
        have HLab':=Lh hlab'
        clear hlab'
        have HLi:=Lh (HL.out.below (hW2b.then hbi))
        go_wp2_with fail
        refine (Xbr c f hs' ws' bh bt _ _ wn M _ hwli.out HLi.out hmi.out (by rw [hwli.out];omega) hwn HLab'.out hist.out.words hist.out.less).mono ?_
        rintro e w11 ⟨a',ws'',rfl,hst',hm',hl',hg'⟩
        have hb':=Z3 hbi hg' hbi.size (by omega)
        have hs'':bt<w11.heap.size:=Nat.lt_of_lt_of_le hbsi hg'.size
        have HST':=Lh hst'
        have HM':=Lh hm'
        have HL':=Lh hl'
        clear hst' hm' hl' hg'
        go_wp2_with fail
        go_roundg M
        case measure=>exact hM
        case rel=>exact ⟨hs',ws'',HST',HM',HL',hb',hs''⟩
     ·-- a jump
      have b10:(x.op == 10)=false:=by rw [hop];rfl
      have d10:(x.op != 10)=true:=by rw [hop];rfl
      have b11:(x.op == 11)=true:=by rw [hop];rfl
      have d11:(x.op != 11)=false:=by rw [hop];rfl
      have b12:(x.op == 12)=false:=by rw [hop];rfl
      have d12:(x.op != 12)=true:=by rw [hop];rfl
      have hsu:Hid (X2 x i=[x.a.toNat]):=by rw [hnn.out,if_pos (.inr hop),if_pos (.inl hop)];rfl
      have HOP:=Lh hop
      clear hop h10
      go_wp2_with (at_builtin;refine Uj rfl (.tmp 95) (.tmp 98) rfl w7.heap.size (.slice none 0 0) [] rfl (World.ownsRow_nil _ _ _ _) ⟨w7.heap.size,0,none⟩ x.a rfl (by exact (Y5 _ _ _ 0)) (by decide) (by simp) ?_;intro sv1 w8 hown8 hg8;have hb8:Below w7.heap.size w7 w8:=((Below.refl _ _).alloc (Nat.le_refl _) _).grown hg8 (by simp) (by intro k hk;cases hk);have hs8:w7.heap.size≤w8.heap.size:=hb8.size;have r0:=Xc hb8 q0;have r1:=Xc hb8 q1;have rh:=Xc hb8 hhc;simp only [List.nil_append] at hown8;obtain ⟨sa,scap,rfl,hrd⟩:=Xdt hown8;have Hrd:=Lh hrd;clear hown8 hg8 q0 q1 hhc hrd)
      have HSA:Hid (Zw w8 sa (X2 x i) bh bt):=by rw [hsu.out];exact Zw.of Hrd.out (by have:=(hjmp.out (.inl HOP.out)).1;simp;omega) (by omega) hbs7
      have hlen:Hid ((X2 x i).length=1):=by show _=_;rw [hsu.out];rfl
      have hbr8:Below W2.heap.size W2 w8:=hbr7.then hb8
      have hbs8:bt<w8.heap.size:=Nat.lt_of_lt_of_le hbs7 (hb8).size
      have HM8:Hid (U4 w8 bh bt hs ws):=⟨by rw [(hb8).block bh (by omega)];exact HM7.out.h,by rw [(hb8).block bt hbs7];exact HM7.out.t,HM7.out.words,HM7.out.ne⟩
      have hi64:i / 64≤1000000:=by omega
      go_loopg [110,9] 1 (fun gj ix wd wi=>∃ (j wn:Nat) (hs':List Int) (ws':List Nat),1≤gj+j∧j≤1∧ix=.int .i64 j∧wd=.int .i64 wn∧wn≤1000000∧Hid (ISt c f hs' ws' i v (v - Xm c f x+Xj c f x) (X2 x i) j wn M)∧Hid (U4 wi bh bt hs' ws')∧Hid (ws'.length=f.code.length / 64+1)∧Below W2.heap.size W2 wi∧bt<wi.heap.size∧Hid (Zw wi sa (X2 x i) bh bt))
      case atStart=>exact ⟨0,i / 64,hs,ws,by omega,by omega,by rfl,by go_num,hi64,HIS,HM8,hwl,hbr8,hbs8,HSA⟩
      case round=>
       obtain ⟨wi,rfl⟩:∃ wi:World,wi=wr:=⟨_,rfl⟩
       obtain ⟨j,wn,hs',ws',hj1,hj2,rfl,rfl,hwn,hist,hmi,hwli,hbi,hbsi,hsa⟩:=hrel
       by_cases hlt:j<1
       ·obtain ⟨k,hk⟩:∃ k,(X2 x i)[j]?=some k:=⟨_,List.getElem?_eq_getElem (by rw [hlen.out];exact hlt)⟩
        rcases hsa.out with h|⟨g,hg,hg1,hg2,hg3,hgE⟩
        ·rw [h] at hk;simp at hk
        subst hg
        have hgc:=hgE j k hk
        have HK2:=Lh hk
        clear hk
        by_cases hkl:k<f.code.length
        ·obtain ⟨u,hu⟩:∃ u,hs'[k]?=some u:=⟨_,List.getElem?_eq_getElem (by rw [hist.out.lab.len];exact hkl)⟩
         have hcu:wi.cell? ⟨bh,k,none⟩=some (.int .i64 u):=by rw [cell_of_row _ _ _ _ _ _ hmi.out.h];exact Qe hu
         have hfu:wi.frozen? ⟨bh,k,none⟩=false:=Fz hmi.out.h
         have hub:u≤2*1048576:=by have:=hist.out.lab.bound k u hu;rw [hist.out.lab.len] at this;omega
         by_cases hu0:0≤u
         ·by_cases hun:u=v - p+q
          ·have hnew:=Lh (hist.out.same HK2.out (by rw [HP.out,HQ.out,← hun];exact hu))
           have eun:(u != v - p+q)=false:=by rw [hun];simp
           clear hun hu
           go_wp2_with fail
           go_roundg (gk - 1)
           case measure=>omega
           case rel=>exact ⟨j+1,wn,hs',ws',by omega,by omega,by go_num,rfl,hwn,hnew,hmi,hwli,hbi,hbsi,hsa⟩
          ·have hfin:=Lh (hist.out.clash HX.out hv0 HK2.out hu hu0 (by rw [HP.out,HQ.out];exact hun))
           have eun:(u != v - p+q)=true:=bne_iff_ne.2 hun
           clear hun hu
           go_wp2_with fail
           go_ret3
           exact .inl ⟨_,_,rfl,by decide,⟨by decide,by decide⟩,hfin.out,hW2b.then hbi⟩
         ·obtain rfl:u = -1:=hist.out.lab.neg k u hu (by omega)
          have Hu:=Lh hu
          clear hu
          have hb9:Below W2.heap.size W2 (wi.setCell ⟨bh,k,none⟩ (.int .i64 (v - p+q))):=hbi.setCell (p:=⟨bh,k,none⟩) (by show _≤bh;omega) _
          have hm9:Hid (U4 (wi.setCell ⟨bh,k,none⟩ (.int .i64 (v - p+q))) bh bt (hs'.set k (v - p+q)) ws'):=⟨by rw [heap_setCell_same _ _ _ _ _ _ hmi.out.h,Jq],by rw [heap_setCell_other _ _ _ _ (fun e=>hmi.out.ne e.symm)];exact hmi.out.t,hmi.out.words,hmi.out.ne⟩
          go_wp2_with fail
          refine (Xcz ws' bt _ _ k _ hwli.out hm9.out.t (by rw [hwli.out];omega) (by rw [hwli.out];omega) hmi.out.words).mono ?_
          rintro e w10 ⟨rfl,hg10,ht10⟩
          have hnew:=Lh (hist.out.label WF.out HX.out hv0 (by rw [HP.out];exact h1) HK2.out Hu.out (Xbp (ws:=ws') (i:=k) (by rw [hwli.out];omega)))
          have hb10:=Z3 hb9 hg10 hb9.size (by omega)
          have hs10:bt<w10.heap.size:=Nat.lt_of_lt_of_le (by simpa using hbsi) hg10.size
          have hm10:Hid (U4 w10 bh bt (hs'.set k (v - Xm c f x+Xj c f x)) (ws'.set (k / 64) (ws'.getD (k / 64) 0 ||| 2 ^ (k % 64)))):=⟨by rw [hg10.block bh (by simp;omega) (fun e=>hmi.out.ne (by cases e;rfl)),HP.out,HQ.out];exact hm9.out.h,ht10,Uy hmi.out.words _ (Nat.or_lt_two_pow (n:=64) (Vw hmi.out.words (by rw [hwli.out];omega)) (Xeu _ (by omega))),hmi.out.ne⟩
          have hl10:Hid ((ws'.set (k / 64) (ws'.getD (k / 64) 0 ||| 2 ^ (k % 64))).length=f.code.length / 64+1):=by show _=_;rw [List.length_set];exact hwli.out
          have hsa10:Hid (Zw w10 (some ⟨g,0,none⟩) (X2 x i) bh bt):=Zw.kept hsa.out (by simp) hg10
          clear hg10 ht10
          go_wp2_with fail
          go_roundg (gk - 1)
          case measure=>omega
          case rel=>exact ⟨j+1,min wn (k / 64),_,_,by omega,by omega,by go_num,by go_num,by omega,hnew,hm10,hl10,hb10,hs10,hsa10⟩
        ·have hfin:=Lh (J9 hist.out.lab hist.out.at_ hv0 HX.out (fun h=>hkl (h.2.2 k (List.mem_of_getElem? HK2.out))))
         go_wp2_with fail
         go_ret3
         exact .inl ⟨_,_,rfl,by decide,⟨by decide,by decide⟩,hfin.out,hW2b.then hbi⟩
       ·have hlab':=hist.out.done HX.out (by rw [HP.out];exact h1) (by rw [HP.out];exact hr.out) (by rw [hlen.out];omega)
        have HLab':=Lh hlab'
        clear hlab'
        have HLi:=Lh (HL.out.below (hW2b.then hbi))
        go_wp2_with fail
        refine (Xbr c f hs' ws' bh bt _ _ wn M _ hwli.out HLi.out hmi.out (by rw [hwli.out];omega) hwn HLab'.out hist.out.words hist.out.less).mono ?_
        rintro e w11 ⟨a',ws'',rfl,hst',hm',hl',hg'⟩
        have hb':=Z3 hbi hg' hbi.size (by omega)
        have hs'':bt<w11.heap.size:=Nat.lt_of_lt_of_le hbsi hg'.size
        have HST':=Lh hst'
        have HM':=Lh hm'
        have HL':=Lh hl'
        clear hst' hm' hl' hg'
        go_wp2_with fail
        go_roundg M
        case measure=>exact hM
        case rel=>exact ⟨hs',ws'',HST',HM',HL',hb',hs''⟩
     ·-- a conditional jump
      have b10:(x.op == 10)=false:=by rw [hop];rfl
      have d10:(x.op != 10)=true:=by rw [hop];rfl
      have b11:(x.op == 11)=false:=by rw [hop];rfl
      have d11:(x.op != 11)=true:=by rw [hop];rfl
      have b12:(x.op == 12)=true:=by rw [hop];rfl
      have d12:(x.op != 12)=false:=by rw [hop];rfl
      have hsu:Hid (X2 x i=[i+1,x.a.toNat]):=by rw [hnn.out,if_neg (by omega),if_pos (.inr hop)];rfl
      have HOP:=Lh hop
      clear hop h10
      go_wp2_with (first|(at_builtin;refine Uj rfl (.tmp 82) (.tmp 85) rfl w7.heap.size (.slice none 0 0) [] rfl (World.ownsRow_nil _ _ _ _) ⟨w7.heap.size,0,none⟩ ((i:Int)+1) rfl (by exact (Y5 _ _ _ 0)) (by decide) (by simp) ?_;intro sv1 w8 hown8 hg8;have hb8:Below w7.heap.size w7 w8:=((Below.refl _ _).alloc (Nat.le_refl _) _).grown hg8 (by simp) (by intro k hk;cases hk);have hs8:w7.heap.size≤w8.heap.size:=hb8.size;have r0:=Xc hb8 q0;have r1:=Xc hb8 q1;have rh:=Xc hb8 hhc;simp only [List.nil_append] at hown8;have Hown:=Lh hown8;have q0':=Lh q0;have q1':=Lh q1;have hhc':=Lh hhc;clear hown8 hg8 q0 q1 hhc)|(at_builtin;refine Uj rfl (.tmp 95) (.tmp 98) rfl w7.heap.size sv1 [(i:Int)+1] rfl (Hown.out.alloc _) ⟨w8.heap.size,0,none⟩ x.a rfl (by exact (Y5 _ _ _ 0)) (by simp) (by simp;omega) ?_;intro sv2 w9 hown9 hg9;have hb9:Below w7.heap.size w7 w9:=(hb8.alloc hb8.size _).grown hg9 (by simp;omega) (fun k hk=>(Hown.out.lt k hk).1);have s0:=Xc hb9 q0'.out;have s1:=Xc hb9 q1'.out;have sh:=Xc hb9 hhc'.out;simp only [List.cons_append,List.nil_append] at hown9;obtain ⟨sa,scap,rfl,hrd⟩:=Xdt hown9;have Hrd:=Lh hrd;clear hown9 hg9 r0 r1 rh hrd))
      have HSA:Hid (Zw w9 sa (X2 x i) bh bt):=by rw [hsu.out];exact Zw.of Hrd.out (by have:=(hjmp.out (.inr HOP.out)).1;simp;omega) (by omega) hbs7
      have hlen:Hid ((X2 x i).length=2):=by show _=_;rw [hsu.out];rfl
      have hbr8:Below W2.heap.size W2 w9:=hbr7.then hb9
      have hbs8:bt<w9.heap.size:=Nat.lt_of_lt_of_le hbs7 (hb9).size
      have HM8:Hid (U4 w9 bh bt hs ws):=⟨by rw [(hb9).block bh (by omega)];exact HM7.out.h,by rw [(hb9).block bt hbs7];exact HM7.out.t,HM7.out.words,HM7.out.ne⟩
      have hi64:i / 64≤1000000:=by omega
      go_loopg [110,9] 2 (fun gj ix wd wi=>∃ (j wn:Nat) (hs':List Int) (ws':List Nat),2≤gj+j∧j≤2∧ix=.int .i64 j∧wd=.int .i64 wn∧wn≤1000000∧Hid (ISt c f hs' ws' i v (v - Xm c f x+Xj c f x) (X2 x i) j wn M)∧Hid (U4 wi bh bt hs' ws')∧Hid (ws'.length=f.code.length / 64+1)∧Below W2.heap.size W2 wi∧bt<wi.heap.size∧Hid (Zw wi sa (X2 x i) bh bt))
      case atStart=>exact ⟨0,i / 64,hs,ws,by omega,by omega,by rfl,by go_num,hi64,HIS,HM8,hwl,hbr8,hbs8,HSA⟩
      case round=>
       obtain ⟨wi,rfl⟩:∃ wi:World,wi=wr:=⟨_,rfl⟩
       obtain ⟨j,wn,hs',ws',hj1,hj2,rfl,rfl,hwn,hist,hmi,hwli,hbi,hbsi,hsa⟩:=hrel
       by_cases hlt:j<2
       ·obtain ⟨k,hk⟩:∃ k,(X2 x i)[j]?=some k:=⟨_,List.getElem?_eq_getElem (by rw [hlen.out];exact hlt)⟩
        rcases hsa.out with h|⟨g,hg,hg1,hg2,hg3,hgE⟩
        ·rw [h] at hk;simp at hk
        subst hg
        have hgc:=hgE j k hk
        have HK2:=Lh hk
        clear hk
        by_cases hkl:k<f.code.length
        ·obtain ⟨u,hu⟩:∃ u,hs'[k]?=some u:=⟨_,List.getElem?_eq_getElem (by rw [hist.out.lab.len];exact hkl)⟩
         have hcu:wi.cell? ⟨bh,k,none⟩=some (.int .i64 u):=by rw [cell_of_row _ _ _ _ _ _ hmi.out.h];exact Qe hu
         have hfu:wi.frozen? ⟨bh,k,none⟩=false:=Fz hmi.out.h
         have hub:u≤2*1048576:=by have:=hist.out.lab.bound k u hu;rw [hist.out.lab.len] at this;omega
         by_cases hu0:0≤u
         ·by_cases hun:u=v - p+q
          ·have hnew:=Lh (hist.out.same HK2.out (by rw [HP.out,HQ.out,← hun];exact hu))
           have eun:(u != v - p+q)=false:=by rw [hun];simp
           clear hun hu
           go_wp2_with fail
           go_roundg (gk - 1)
           case measure=>omega
           case rel=>exact ⟨j+1,wn,hs',ws',by omega,by omega,by go_num,rfl,hwn,hnew,hmi,hwli,hbi,hbsi,hsa⟩
          ·have hfin:=Lh (hist.out.clash HX.out hv0 HK2.out hu hu0 (by rw [HP.out,HQ.out];exact hun))
           have eun:(u != v - p+q)=true:=bne_iff_ne.2 hun
           clear hun hu
           go_wp2_with fail
           go_ret3
           exact .inl ⟨_,_,rfl,by decide,⟨by decide,by decide⟩,hfin.out,hW2b.then hbi⟩
         ·obtain rfl:u = -1:=hist.out.lab.neg k u hu (by omega)
          have Hu:=Lh hu
          clear hu
          have hb9x:Below W2.heap.size W2 (wi.setCell ⟨bh,k,none⟩ (.int .i64 (v - p+q))):=hbi.setCell (p:=⟨bh,k,none⟩) (by show _≤bh;omega) _
          have hm9:Hid (U4 (wi.setCell ⟨bh,k,none⟩ (.int .i64 (v - p+q))) bh bt (hs'.set k (v - p+q)) ws'):=⟨by rw [heap_setCell_same _ _ _ _ _ _ hmi.out.h,Jq],by rw [heap_setCell_other _ _ _ _ (fun e=>hmi.out.ne e.symm)];exact hmi.out.t,hmi.out.words,hmi.out.ne⟩
          go_wp2_with fail
          refine (Xcz ws' bt _ _ k _ hwli.out hm9.out.t (by rw [hwli.out];omega) (by rw [hwli.out];omega) hmi.out.words).mono ?_
          rintro e w10 ⟨rfl,hg10,ht10⟩
          have hnew:=Lh (hist.out.label WF.out HX.out hv0 (by rw [HP.out];exact h1) HK2.out Hu.out (Xbp (ws:=ws') (i:=k) (by rw [hwli.out];omega)))
          have hb10:=Z3 hb9x hg10 hb9x.size (by omega)
          have hs10:bt<w10.heap.size:=Nat.lt_of_lt_of_le (by simpa using hbsi) hg10.size
          have hm10:Hid (U4 w10 bh bt (hs'.set k (v - Xm c f x+Xj c f x)) (ws'.set (k / 64) (ws'.getD (k / 64) 0 ||| 2 ^ (k % 64)))):=⟨by rw [hg10.block bh (by simp;omega) (fun e=>hmi.out.ne (by cases e;rfl)),HP.out,HQ.out];exact hm9.out.h,ht10,Uy hmi.out.words _ (Nat.or_lt_two_pow (n:=64) (Vw hmi.out.words (by rw [hwli.out];omega)) (Xeu _ (by omega))),hmi.out.ne⟩
          have hl10:Hid ((ws'.set (k / 64) (ws'.getD (k / 64) 0 ||| 2 ^ (k % 64))).length=f.code.length / 64+1):=by show _=_;rw [List.length_set];exact hwli.out
          have hsa10:Hid (Zw w10 (some ⟨g,0,none⟩) (X2 x i) bh bt):=Zw.kept hsa.out (by simp) hg10
          clear hg10 ht10
          go_wp2_with fail
          go_roundg (gk - 1)
          case measure=>omega
          case rel=>exact ⟨j+1,min wn (k / 64),_,_,by omega,by omega,by go_num,by go_num,by omega,hnew,hm10,hl10,hb10,hs10,hsa10⟩
        ·have hfin:=Lh (J9 hist.out.lab hist.out.at_ hv0 HX.out (fun h=>hkl (h.2.2 k (List.mem_of_getElem? HK2.out))))
         go_wp2_with fail
         go_ret3
         exact .inl ⟨_,_,rfl,by decide,⟨by decide,by decide⟩,hfin.out,hW2b.then hbi⟩
       ·have hlab':=hist.out.done HX.out (by rw [HP.out];exact h1) (by rw [HP.out];exact hr.out) (by rw [hlen.out];omega)
        have HLab':=Lh hlab'
        clear hlab'
        have HLi:=Lh (HL.out.below (hW2b.then hbi))
        go_wp2_with fail
        refine (Xbr c f hs' ws' bh bt _ _ wn M _ hwli.out HLi.out hmi.out (by rw [hwli.out];omega) hwn HLab'.out hist.out.words hist.out.less).mono ?_
        rintro e w11 ⟨a',ws'',rfl,hst',hm',hl',hg'⟩
        have hb':=Z3 hbi hg' hbi.size (by omega)
        have hs'':bt<w11.heap.size:=Nat.lt_of_lt_of_le hbsi hg'.size
        have HST':=Lh hst'
        have HM':=Lh hm'
        have HL':=Lh hl'
        clear hst' hm' hl' hg'
        go_wp2_with fail
        go_roundg M
        case measure=>exact hM
        case rel=>exact ⟨hs',ws'',HST',HM',HL',hb',hs''⟩
     ·-- any other instruction
      have b10:(x.op == 10)=false:=beq_eq_false_iff_ne.2 hop.1
      have d10:(x.op != 10)=true:=bne_iff_ne.2 hop.1
      have b11:(x.op == 11)=false:=beq_eq_false_iff_ne.2 hop.2.1
      have d11:(x.op != 11)=true:=bne_iff_ne.2 hop.2.1
      have b12:(x.op == 12)=false:=beq_eq_false_iff_ne.2 hop.2.2
      have d12:(x.op != 12)=true:=bne_iff_ne.2 hop.2.2
      have hsu:Hid (X2 x i=[i+1]):=by rw [hnn.out,if_neg (by omega),if_neg (by omega)];rfl
      have HOP:=Lh hop
      clear hop h10
      go_wp2_with (at_builtin;refine Uj rfl (.tmp 82) (.tmp 85) rfl w7.heap.size (.slice none 0 0) [] rfl (World.ownsRow_nil _ _ _ _) ⟨w7.heap.size,0,none⟩ ((i:Int)+1) rfl (by exact (Y5 _ _ _ 0)) (by decide) (by simp) ?_;intro sv1 w8 hown8 hg8;have hb8:Below w7.heap.size w7 w8:=((Below.refl _ _).alloc (Nat.le_refl _) _).grown hg8 (by simp) (by intro k hk;cases hk);have hs8:w7.heap.size≤w8.heap.size:=hb8.size;have r0:=Xc hb8 q0;have r1:=Xc hb8 q1;have rh:=Xc hb8 hhc;simp only [List.nil_append] at hown8;obtain ⟨sa,scap,rfl,hrd⟩:=Xdt hown8;have Hrd:=Lh hrd;clear hown8 hg8 q0 q1 hhc hrd)
      have HSA:Hid (Zw w8 sa (X2 x i) bh bt):=by rw [hsu.out];exact Zw.of Hrd.out (by simp) (by omega) hbs7
      have hlen:Hid ((X2 x i).length=1):=by show _=_;rw [hsu.out];rfl
      have hbr8:Below W2.heap.size W2 w8:=hbr7.then hb8
      have hbs8:bt<w8.heap.size:=Nat.lt_of_lt_of_le hbs7 (hb8).size
      have HM8:Hid (U4 w8 bh bt hs ws):=⟨by rw [(hb8).block bh (by omega)];exact HM7.out.h,by rw [(hb8).block bt hbs7];exact HM7.out.t,HM7.out.words,HM7.out.ne⟩
      have hi64:i / 64≤1000000:=by omega
      go_loopg [110,9] 1 (fun gj ix wd wi=>∃ (j wn:Nat) (hs':List Int) (ws':List Nat),1≤gj+j∧j≤1∧ix=.int .i64 j∧wd=.int .i64 wn∧wn≤1000000∧Hid (ISt c f hs' ws' i v (v - Xm c f x+Xj c f x) (X2 x i) j wn M)∧Hid (U4 wi bh bt hs' ws')∧Hid (ws'.length=f.code.length / 64+1)∧Below W2.heap.size W2 wi∧bt<wi.heap.size∧Hid (Zw wi sa (X2 x i) bh bt))
      case atStart=>exact ⟨0,i / 64,hs,ws,by omega,by omega,by rfl,by go_num,hi64,HIS,HM8,hwl,hbr8,hbs8,HSA⟩
      case round=>
       obtain ⟨wi,rfl⟩:∃ wi:World,wi=wr:=⟨_,rfl⟩
       obtain ⟨j,wn,hs',ws',hj1,hj2,rfl,rfl,hwn,hist,hmi,hwli,hbi,hbsi,hsa⟩:=hrel
       by_cases hlt:j<1
       ·obtain ⟨k,hk⟩:∃ k,(X2 x i)[j]?=some k:=⟨_,List.getElem?_eq_getElem (by rw [hlen.out];exact hlt)⟩
        rcases hsa.out with h|⟨g,hg,hg1,hg2,hg3,hgE⟩
        ·rw [h] at hk;simp at hk
        subst hg
        have hgc:=hgE j k hk
        have HK2:=Lh hk
        clear hk
        by_cases hkl:k<f.code.length
        ·obtain ⟨u,hu⟩:∃ u,hs'[k]?=some u:=⟨_,List.getElem?_eq_getElem (by rw [hist.out.lab.len];exact hkl)⟩
         have hcu:wi.cell? ⟨bh,k,none⟩=some (.int .i64 u):=by rw [cell_of_row _ _ _ _ _ _ hmi.out.h];exact Qe hu
         have hfu:wi.frozen? ⟨bh,k,none⟩=false:=Fz hmi.out.h
         have hub:u≤2*1048576:=by have:=hist.out.lab.bound k u hu;rw [hist.out.lab.len] at this;omega
         by_cases hu0:0≤u
         ·by_cases hun:u=v - p+q
          ·have hnew:=Lh (hist.out.same HK2.out (by rw [HP.out,HQ.out,← hun];exact hu))
           have eun:(u != v - p+q)=false:=by rw [hun];simp
           clear hun hu
           go_wp2_with fail
           go_roundg (gk - 1)
           case measure=>omega
           case rel=>exact ⟨j+1,wn,hs',ws',by omega,by omega,by go_num,rfl,hwn,hnew,hmi,hwli,hbi,hbsi,hsa⟩
          ·have hfin:=Lh (hist.out.clash HX.out hv0 HK2.out hu hu0 (by rw [HP.out,HQ.out];exact hun))
           have eun:(u != v - p+q)=true:=bne_iff_ne.2 hun
           clear hun hu
           go_wp2_with fail
           go_ret3
           exact .inl ⟨_,_,rfl,by decide,⟨by decide,by decide⟩,hfin.out,hW2b.then hbi⟩
         ·obtain rfl:u = -1:=hist.out.lab.neg k u hu (by omega)
          have Hu:=Lh hu
          clear hu
          have hb9:Below W2.heap.size W2 (wi.setCell ⟨bh,k,none⟩ (.int .i64 (v - p+q))):=hbi.setCell (p:=⟨bh,k,none⟩) (by show _≤bh;omega) _
          have hm9:Hid (U4 (wi.setCell ⟨bh,k,none⟩ (.int .i64 (v - p+q))) bh bt (hs'.set k (v - p+q)) ws'):=⟨by rw [heap_setCell_same _ _ _ _ _ _ hmi.out.h,Jq],by rw [heap_setCell_other _ _ _ _ (fun e=>hmi.out.ne e.symm)];exact hmi.out.t,hmi.out.words,hmi.out.ne⟩
          go_wp2_with fail
          refine (Xcz ws' bt _ _ k _ hwli.out hm9.out.t (by rw [hwli.out];omega) (by rw [hwli.out];omega) hmi.out.words).mono ?_
          rintro e w10 ⟨rfl,hg10,ht10⟩
          have hnew:=Lh (hist.out.label WF.out HX.out hv0 (by rw [HP.out];exact h1) HK2.out Hu.out (Xbp (ws:=ws') (i:=k) (by rw [hwli.out];omega)))
          have hb10:=Z3 hb9 hg10 hb9.size (by omega)
          have hs10:bt<w10.heap.size:=Nat.lt_of_lt_of_le (by simpa using hbsi) hg10.size
          have hm10:Hid (U4 w10 bh bt (hs'.set k (v - Xm c f x+Xj c f x)) (ws'.set (k / 64) (ws'.getD (k / 64) 0 ||| 2 ^ (k % 64)))):=⟨by rw [hg10.block bh (by simp;omega) (fun e=>hmi.out.ne (by cases e;rfl)),HP.out,HQ.out];exact hm9.out.h,ht10,Uy hmi.out.words _ (Nat.or_lt_two_pow (n:=64) (Vw hmi.out.words (by rw [hwli.out];omega)) (Xeu _ (by omega))),hmi.out.ne⟩
          have hl10:Hid ((ws'.set (k / 64) (ws'.getD (k / 64) 0 ||| 2 ^ (k % 64))).length=f.code.length / 64+1):=by show _=_;rw [List.length_set];exact hwli.out
          have hsa10:Hid (Zw w10 (some ⟨g,0,none⟩) (X2 x i) bh bt):=Zw.kept hsa.out (by simp) hg10
          clear hg10 ht10
          go_wp2_with fail
          go_roundg (gk - 1)
          case measure=>omega
          case rel=>exact ⟨j+1,min wn (k / 64),_,_,by omega,by omega,by go_num,by go_num,by omega,hnew,hm10,hl10,hb10,hs10,hsa10⟩
        ·have hfin:=Lh (J9 hist.out.lab hist.out.at_ hv0 HX.out (fun h=>hkl (h.2.2 k (List.mem_of_getElem? HK2.out))))
         go_wp2_with fail
         go_ret3
         exact .inl ⟨_,_,rfl,by decide,⟨by decide,by decide⟩,hfin.out,hW2b.then hbi⟩
       ·have hlab':=hist.out.done HX.out (by rw [HP.out];exact h1) (by rw [HP.out];exact hr.out) (by rw [hlen.out];omega)
        have HLab':=Lh hlab'
        clear hlab'
        have HLi:=Lh (HL.out.below (hW2b.then hbi))
        go_wp2_with fail
        refine (Xbr c f hs' ws' bh bt _ _ wn M _ hwli.out HLi.out hmi.out (by rw [hwli.out];omega) hwn HLab'.out hist.out.words hist.out.less).mono ?_
        rintro e w11 ⟨a',ws'',rfl,hst',hm',hl',hg'⟩
        have hb':=Z3 hbi hg' hbi.size (by omega)
        have hs'':bt<w11.heap.size:=Nat.lt_of_lt_of_le hbsi hg'.size
        have HST':=Lh hst'
        have HM':=Lh hm'
        have HL':=Lh hl'
        clear hst' hm' hl' hg'
        go_wp2_with fail
        go_roundg M
        case measure=>exact hM
        case rel=>exact ⟨hs',ws'',HST',HM',HL',hb',hs''⟩
   ·have hfin:=HNO.out (fun h=>h1 h.1)
    go_wp2_with fail
    go_ret3
    exact .inl ⟨_,_,rfl,by decide,⟨by decide,by decide⟩,hfin.out,hwr.then hb7r⟩
end Go.Proofs.YtbmeoklmachjpaaGreatDoor
