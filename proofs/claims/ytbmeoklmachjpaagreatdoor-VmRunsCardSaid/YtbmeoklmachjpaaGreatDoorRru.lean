/- The contract of the reference's answered. MADE BY wip/gen_ran.py The contract of the reference's Run: a call over a memory. -/
import Derived.Test.YtbmeoklmachjpaaGreatDoorRpl
import Derived.Deep.RegionHeld3
import Derived.BigQuiet
import Derived.Deep.QuietTactic
import Derived.Deep.AppendLies
set_option maxHeartbeats 8000000
set_option maxRecDepth 1000000
set_option linter.unusedVariables false
set_option linter.unusedSimpArgs false
namespace Go.Proofs.YtbmeoklmachjpaaGreatDoor
open Go.RowKit
theorem PlV.nodeAt {w:World} {p:Ply} {gv lv:Value} {na:Option Addr} {n nc:Nat} {cells:List Value} {Fg Fn:List Nat} (h:PlV w p gv (.slice na n nc) lv cells Fg Fn) {i:Nat} {x:Nod} (hx:p.mem.nodes[i]?=some x) :
  ∃ nb fv Fl,na=some ⟨nb,0,none⟩∧w.cell? ⟨nb,i*2+1,none⟩=some fv∧Yv w fv x.f Fl∧(∀ b∈Fl,b∈Fg++((Value.slice na n nc).ownBlock.toList++Fn))∧∀ lb cap (j:Nat) (v:Int),fv=.slice (some ⟨lb,0,none⟩) x.f.length cap→in64 v→PlV (w.setCell ⟨lb,j,none⟩ (.int .i64 v)) { p with mem:={ p.mem with nodes:=p.mem.nodes.modify i (fun x=>Xem x j v) } } gv (.slice na n nc) lv cells Fg Fn∧Xp (plF (.slice na n nc) lv Fg Fn) (plF (.slice na n nc) lv Fg Fn) w (w.setCell ⟨lb,j,none⟩ (.int .i64 v)):=by
 obtain ⟨fv,Fl,h1,h2,h3,h4⟩:=h.mem.setN hx
 have hlt:=(Ll hx)
 have hsub:∀ b∈Fl,b∈Fg++((Value.slice na n nc).ownBlock.toList++Fn):=fun b hb=>by simp [h3 b hb]
 rcases hr:h.mem.row.2 with ⟨e1,e2⟩|⟨g,cap,cur,e1,hb,hg,hc,hcm,hs,ht⟩
 ·omega
 ·simp at e1
  obtain ⟨rfl,rfl,rfl⟩:=e1
  refine ⟨g,fv,Fl,rfl,?_,h2,hsub,fun lb cap j v hlv h64=>?_⟩
  ·rw [h.mem.row.cellAt (i*2+1) (by omega)];exact h1
  ·have hlb:lb∈Fl:=by rw [h2.2.1,hlv];simp [Value.ownBlock]
   exact h.memM (h4 lb cap j v hlv hlb h64) (Xkq (hsub lb hlb))
theorem PlV.globSet {w:World} {p:Ply} {nv lv:Value} {gb gn gc:Nat} {cells:List Value} {Fg Fn:List Nat} (h:PlV w p (.slice (some ⟨gb,0,none⟩) gn gc) nv lv cells Fg Fn) (hn:gn=p.mem.globals.length) (j:Nat) (v:Int) (h64:in64 v) :
  PlV (w.setCell ⟨gb,j,none⟩ (.int .i64 v)) { p with mem:={ p.mem with globals:=p.mem.globals.set j v } } (.slice (some ⟨gb,0,none⟩) gn gc) nv lv cells Fg Fn∧Xp (plF nv lv Fg Fn) (plF nv lv Fg Fn) w (w.setCell ⟨gb,j,none⟩ (.int .i64 v)):=by
 subst hn
 obtain ⟨h1,h2⟩:=h.mem.setG j v h64
 exact h.memM h1 (Xkq (by simp [h2]))
theorem results_pl3 {fn:Func} {p a b:Tmp} (hf:fn.results=#[.cell p 66,.tmp a,.tmp b]) {W:World} {R:Nat} {f v k d:Int} {gv nv lv:Value} (h:W.heap[R]?=some (.cells (plC f v k d gv nv lv) 66 (0,0))) (tmps:Array Value) (x y:Value) (h1:tmps.getD p undef=.pointer (some ⟨R,0,none⟩)) (h2:tmps.getD a undef=x) (h3:tmps.getD b undef=y) :
  (results fn tmps).run Tryz.prog W=.ok (.tuple #[plV f v k d gv nv lv,x,y]) W:=by
 simp only [results,hf]
 rw [Array.getD_eq_getD_getElem?] at h1 h2 h3
 simp [h1,h2,h3,asAddr,load_pl h,Result.andThen,Sem.run_bind]
theorem ans_end {c:Cod} {p p1:Ply} {r:Rq} {a:Acc} {n f v k:Int} {gv nv lv gv1 nv1 lv1:Value} {Fg Fn Fg1 Fn1:List Nat} {cells1:List Value} {w W5 w6:World} {R:Nat} {e:Ending} (hask:J5 c p r=some (⟨p1.mem,p1.log++[a],p1.nodes+(if 0<a.node then 1 else 0)⟩,n)) (hP:PlV W5 p1 gv1 nv1 lv1 cells1 Fg1 Fn1) (hMW:Xp (plF nv lv Fg Fn) (plF nv1 lv1 Fg1 Fn1) w W5)
  (hN:NotedPost W5 p1.log f v k p1.nodes gv1 nv1 lv1 a e w6) (hRl:R<W5.heap.size) (hR:w.heap.size≤R) (hF:R∉plF nv1 lv1 Fg1 Fn1) (r1:W5.heap[R]?=some (.cells (plC 0 0 0 0 (.slice none 0 0) (.slice none 0 0) (.slice none 0 0)) 66 (0,0))) :
  ∃ d g ln cap,e=.returned (plV f v k d gv1 nv1 (.slice (some ⟨g,0,none⟩) ln cap))∧Xp lv1.ownBlock.toList [g] W5 w6∧g≠R∧w6.heap[R]?=some (.cells (plC 0 0 0 0 (.slice none 0 0) (.slice none 0 0) (.slice none 0 0)) 66 (0,0))∧(plPut w6 R f v k d gv1 nv1 (.slice (some ⟨g,0,none⟩) ln cap)).heap[R]?=some (.cells (plC f v k d gv1 nv1 (.slice (some ⟨g,0,none⟩) ln cap)) 66 (0,0))∧
   AnsPost c p r f v k gv nv lv Fg Fn w (.returned (.tuple #[plV f v k d gv1 nv1 (.slice (some ⟨g,0,none⟩) ln cap),.int .i64 n,.bool true])) (plPut w6 R f v k d gv1 nv1 (.slice (some ⟨g,0,none⟩) ln cap)):=by
 obtain ⟨g,cap,he,ho,hM⟩:=hN
 have ho':w6.ownsRow 0 70 3 (.slice (some ⟨g,0,none⟩) (p1.log.length+1) cap) (p1.log++[a]).length (Zf (p1.log++[a])):=by
  rw [List.length_append];exact ho
 obtain ⟨h6,hM6⟩:=hP.logM (k:=p1.nodes+(if 0<a.node then 1 else 0)) ho' hM
 have hR6:R∉plF nv1 (.slice (some ⟨g,0,none⟩) (p1.log.length+1) cap) Fg1 Fn1:=fun e=>by
  rcases hM6.new R e with h|h
  ·exact hF h
  ·omega
 have r6:=(hM6.block R hRl hF).trans r1
 obtain ⟨p1',p2'⟩:=plPut_facts r6 f v k (p1.nodes+(if 0<a.node then 1 else 0)) gv1 nv1 (.slice (some ⟨g,0,none⟩) (p1.log.length+1) cap)
 have hMM:=hMW.trans hM6
 refine ⟨_,g,_,cap,he,hM,fun e=>hR6 (by unfold plF;simp [Value.ownBlock,e]),r6,p1',.inr ⟨_,n,_,_,_,cells1,Fg1,Fn1,hask,rfl,h6.keep (fun b hb=>p2'.block b (h6.lt b hb) (fun e=>hR6 (by rw [List.mem_singleton] at e;exact e▸hb))),p2'.os.trans hMM.os,p2'.tape.trans hMM.tape,p2'.output.trans hMM.output,Nat.le_trans hMM.size p2'.size,fun j hj hjF=>?_,hMM.new⟩⟩
 rw [p2'.block j (Nat.lt_of_lt_of_le hj hMM.size) (by first|omega|simp<;>omega),hMM.block j hj hjF]
theorem ranswered_any {c:Cod} {p:Ply} {r:Rq} (hs:Xv c) (hr:Xm4 c r) (f v k:Int) (fa ha:Option Addr) (fc hcc B:Nat) (gv nv lv:Value) (cells:List Value) (Fg Fn:List Nat) (w:World) (hP:PlV w p gv nv lv cells Fg Fn) (hm:Uv c p.mem) (hl:p.log.length≤1000000000000) (hn:0≤p.nodes∧p.nodes≤1000000000000) (hB:B≤w.heap.size) (hc:Yj B w (.agg #[.slice fa c.fields.length fc,.int .i64 c.globals,.slice ha c.funcs.length hcc]) c) (hge:∀ b∈plF nv lv Fg Fn,B≤b) (hgf:r.node=0→¬r.kind=3→r.field<c.globals) :
  Calls Tryz.prog 61 #[.agg #[.slice fa c.fields.length fc,.int .i64 c.globals,.slice ha c.funcs.length hcc],plV f v k p.nodes gv nv lv,rqV r] w (AnsPost c p r f v k gv nv lv Fg Fn w):=by
 obtain ⟨ga,gc,rfl⟩:=(Zs hP.mem.glob.1).2.2
 obtain ⟨na,nc,rfl⟩:=(Zs hP.mem.row).2.2
 obtain ⟨la,lc,rfl⟩:=(Zs hP.log).2.2
 obtain ⟨gn,hgn⟩:∃ n,n=p.mem.globals.length:=⟨_,rfl⟩
 obtain ⟨nn,hnn⟩:∃ n,n=p.mem.nodes.length:=⟨_,rfl⟩
 obtain ⟨ln,hln⟩:∃ n,n=p.log.length:=⟨_,rfl⟩
 obtain ⟨cfn,hcfn⟩:∃ n,n=c.fields.length:=⟨_,rfl⟩
 obtain ⟨cgn,hcgn⟩:∃ n,n=c.funcs.length:=⟨_,rfl⟩
 obtain ⟨cgl,hcgl⟩:∃ n,n=c.globals:=⟨_,rfl⟩
 obtain ⟨fi,hfi⟩:∃ fi:Nat,r.field=fi:=⟨r.field.toNat,by have:=hr.field;omega⟩
 have hfi2:fi≤100:=by have:=hr.field2;omega
 have hfi0:(0:Int)≤(fi:Int):=Int.natCast_nonneg _
 have hnn4:nn≤4096:=by rw [hnn];exact hm.len
 have HGF:Hid (r.node=0→¬r.kind=3→¬gn≤fi):=Lh (fun h1 h2=>by have h3:=hgf h1 h2;have h4:=hm.gl;omega)
 have hcf12:cfn≤12:=by have:=hs.1.1;omega
 have HC:=Lh hc
 rw [←hgn,← hnn,← hln] at hP ⊢
 rw [←hnn,← hln] at hge
 rw [←hcfn,← hcgn,← hcgl]
 have HGN:=Lh hgn
 have HNN:=Lh hnn
 have HLN:=Lh hln
 have HCFN:=Lh hcfn
 have HFI:=Lh hfi
 have HR:=Lh hr
 have HL:=Lh hl
 have HND:=Lh hn
 have HGE:=Lh hge
 obtain ⟨W,hW⟩:∃ W,W=(((w.alloc (.cells #[.slice fa cfn fc,.int .i64 cgl,.slice ha cgn hcc] 25)).alloc (.cells (plC f v k p.nodes (.slice ga gn gc) (.slice na nn nc) (.slice la ln lc)) 66)).alloc (.cells #[.int .i64 r.kind,.int .i64 r.node,.int .i64 r.field,.int .i64 r.value,.int .i64 r.fault] 34)).alloc (.cells (plC 0 0 0 0 (.slice none 0 0) (.slice none 0 0) (.slice none 0 0)) 66):=⟨_,rfl⟩
 have hWb:Hid (Below w.heap.size w W):=by rw [hW];exact Lh ((((Xa _ _).then (Xa _ _)).then (Xa _ _)).then (Xa _ _))
 have hsz:Hid (W.heap.size=w.heap.size+4):=by rw [hW];exact Lh (by simp)
 have b0:W.heap[w.heap.size]?=some (.cells #[.slice fa cfn fc,.int .i64 cgl,.slice ha cgn hcc] 25 (0,0)):=by
  rw [hW,Below.heap_alloc _ _ _ (by simp<;>omega),Below.heap_alloc _ _ _ (by simp<;>omega),Below.heap_alloc _ _ _ (by simp<;>omega)]
  exact heap_alloc_new _ _
 have b1:W.heap[w.heap.size+1]?=some (.cells (plC f v k p.nodes (.slice ga gn gc) (.slice na nn nc) (.slice la ln lc)) 66 (0,0)):=by
  rw [hW,Below.heap_alloc _ _ _ (by simp<;>omega),Below.heap_alloc _ _ _ (by simp<;>omega)]
  have:=heap_alloc_new (w.alloc (.cells #[.slice fa cfn fc,.int .i64 cgl,.slice ha cgn hcc] 25)) (.cells (plC f v k p.nodes (.slice ga gn gc) (.slice na nn nc) (.slice la ln lc)) 66)
  simpa using this
 have b2:W.heap[w.heap.size+1+1]?=some (.cells #[.int .i64 r.kind,.int .i64 r.node,.int .i64 r.field,.int .i64 r.value,.int .i64 r.fault] 34 (0,0)):=by
  rw [hW,Below.heap_alloc _ _ _ (by simp<;>omega)]
  have:=heap_alloc_new ((w.alloc (.cells #[.slice fa cfn fc,.int .i64 cgl,.slice ha cgn hcc] 25)).alloc (.cells (plC f v k p.nodes (.slice ga gn gc) (.slice na nn nc) (.slice la ln lc)) 66)) (.cells #[.int .i64 r.kind,.int .i64 r.node,.int .i64 r.field,.int .i64 r.value,.int .i64 r.fault] 34)
  simpa using this
 have b3:W.heap[w.heap.size+1+1+1]?=some (.cells (plC 0 0 0 0 (.slice none 0 0) (.slice none 0 0) (.slice none 0 0)) 66 (0,0)):=by
  rw [hW]
  have:=heap_alloc_new (((w.alloc (.cells #[.slice fa cfn fc,.int .i64 cgl,.slice ha cgn hcc] 25)).alloc (.cells (plC f v k p.nodes (.slice ga gn gc) (.slice na nn nc) (.slice la ln lc)) 66)).alloc (.cells #[.int .i64 r.kind,.int .i64 r.node,.int .i64 r.field,.int .i64 r.value,.int .i64 r.fault] 34)) (.cells (plC 0 0 0 0 (.slice none 0 0) (.slice none 0 0) (.slice none 0 0)) 66)
  simpa using this
 have hltP:=hP.lt
 have hPW:Hid (PlV W p (.slice ga gn gc) (.slice na nn nc) (.slice la ln lc) cells Fg Fn):=Lh (hP.keep (fun b hb=>hWb.out.block b (hltP b hb)))
 have HLT:=Lh hltP
 have i0:W.cell? ⟨w.heap.size,0,none⟩=some (.slice fa cfn fc):=by rw [cell_of_row _ _ _ _ _ _ b0];rfl
 obtain ⟨x0,x1,x2,x3,x4,x5,x6,x7⟩:=pl8 b1
 have xf:W.frozen? ⟨w.heap.size+1,6,none⟩=false:=Fz b1
 have r0:W.cell? ⟨w.heap.size+1+1,0,none⟩=some (.int .i64 r.kind):=by rw [cell_of_row _ _ _ _ _ _ b2];rfl
 have r1:W.cell? ⟨w.heap.size+1+1,1,none⟩=some (.int .i64 r.node):=by rw [cell_of_row _ _ _ _ _ _ b2];rfl
 have r2:W.cell? ⟨w.heap.size+1+1,2,none⟩=some (.int .i64 r.field):=by rw [cell_of_row _ _ _ _ _ _ b2];rfl
 have r3:W.cell? ⟨w.heap.size+1+1,3,none⟩=some (.int .i64 r.value):=by rw [cell_of_row _ _ _ _ _ _ b2];rfl
 rw [hfi] at r2
 obtain ⟨y0,y1,y2,y3,y4,y5,y6,y7⟩:=pl8 b3
 obtain ⟨q0,q1,q2,q3,q4,q5,q6,q7,q8⟩:=Xu b3
 have zc:=(La b0)
 have zp:=(La b1)
 have zr:=(La b2)
 have zR:=(La b3)
 have B1:=Lh b1
 have B3:=Lh b3
 have hRF:Hid (w.heap.size+1+1+1∉plF (.slice na nn nc) (.slice la ln lc) Fg Fn):=Lh (fun e=>by have:=hltP _ e;omega)
 have hput:=plPut_facts b3 f v k p.nodes (.slice ga gn gc) (.slice na nn nc) (.slice la ln lc)
 have HPUT1:=Lh hput.1
 have HPUT2:=Lh hput.2
 have hput:Hid (PlV (plPut W (w.heap.size+1+1+1) f v k p.nodes (.slice ga gn gc) (.slice na nn nc) (.slice la ln lc)) p (.slice ga gn gc) (.slice na nn nc) (.slice la ln lc) cells Fg Fn):=Lh (hPW.out.keep (fun b hb=>HPUT2.out.block b (hPW.out.lt b hb) (fun e=>hRF.out (by rw [List.mem_singleton] at e;exact e▸hb))))
 have hputM:Hid (Below w.heap.size w (plPut W (w.heap.size+1+1+1) f v k p.nodes (.slice ga gn gc) (.slice na nn nc) (.slice la ln lc))):=Lh (hWb.out.trans (HPUT2.out.below (fun b hb=>by simp at hb;omega) hWb.out.size))
 have HPUTN:Hid (∀ n,(plPut (W.drewN n) (w.heap.size+1+1+1) f v k p.nodes (.slice ga gn gc) (.slice na nn nc) (.slice la ln lc)).heap[w.heap.size+1+1+1]?=some (.cells (plC f v k p.nodes (.slice ga gn gc) (.slice na nn nc) (.slice la ln lc)) 66 (0,0))∧Below w.heap.size w (plPut (W.drewN n) (w.heap.size+1+1+1) f v k p.nodes (.slice ga gn gc) (.slice na nn nc) (.slice la ln lc))):=Lh (fun n=>by
  have h:=plPut_facts (W:=W.drewN n) (R:=w.heap.size+1+1+1) (show (W.drewN n).heap[w.heap.size+1+1+1]?=_ from b3) f v k p.nodes (.slice ga gn gc) (.slice na nn nc) (.slice la ln lc)
  exact ⟨h.1,(Xh hWb.out n).trans (h.2.below (fun b hb=>by simp at hb;omega) (Xh hWb.out n).size)⟩)
 clear b0 b1 b2 b3 hP hltP hge hc hm hr hl hn hgn hnn hln hcfn hcgn hcgl hfi hgf
 unfold plV rqV
 unfold plC at hW ⊢
 go_enter Tryz.func61,Tryz.ntmps61
 go_upto_region 1 with fail
 rw [←hW]
 have HW:=Lh hW
 clear hW
 by_cases hk3:r.kind=3
 ·have e3:(r.kind == 3)=true:=by simpa using hk3
  by_cases hfull:nn=4096
  ·have e4:((nn:Int) == 4096)=true:=by first|omega|simp<;>omega
   have HASK:Hid (J5 c p r=some (p,0)):=Lh (by
    unfold J5
    rw [if_pos hk3,if_neg (by rw [←HNN.out];omega)])
   clear hfull hk3
   go_wp2_with fail
   exact bodyPost_ret (v:=.tuple #[plV f v k p.nodes (.slice ga gn gc) (.slice na nn nc) (.slice la ln lc),.int .i64 0,.bool true]) (results_pl3 (p:=6) (a:=7) (b:=8) rfl HPUT1.out _ _ _ rfl rfl rfl) rfl (.inr ⟨p,0,_,_,_,cells,Fg,Fn,HASK.out,rfl,hput.out,Xp.of_below hputM.out⟩)
  ·have e4:((nn:Int) == 4096)=false:=by first|omega|simp<;>omega
   have HK3:=Lh hk3
   have hnlt:nn<4096:=by omega
   obtain ⟨k0,hk0,hk00,hk01⟩:=HR.out.alloc hk3
   obtain ⟨kn,rfl⟩:∃ kn:Nat,k0=kn:=⟨k0.toNat,by omega⟩
   rw [HFI.out,Int.toNat_natCast] at hk0
   have HKN:=Lh hk0
   have HCW:=HC.out.below (hWb.out.mono hB)
   obtain ⟨fb,fo,hfa,hfbB,hFE⟩:=codv_fieldAt HCW hk0
   subst hfa
   have hi1:(fi:Int)<(cfn:Int):=by have h1:=(Ll hk0);have h2:=HCFN.out;omega
   have zf:=Bl hFE
   have hmk:=fun W=>K7 W kn (by omega)
   have hkn12:kn≤12:=by omega
   obtain ⟨ti,hti,hz0,hz1,hz2⟩:=info_parts Xfb
   have hb8:Below W.heap.size W ((W.alloc (.cells (Xx (List.replicate kn 0)) 3)).alloc (.cells #[.int .i64 (fi:Int),.slice (some ⟨W.heap.size,0,none⟩) kn kn] 107)).drew:=Xh ((Xa _ _).then (Xa _ _)) 1
   have HB8:=Lh hb8
   have HB7:Hid (Below W.heap.size W (W.alloc (.cells (Xx (List.replicate kn 0)) 3)).drew):=Lh (Xh (Xa _ _) 1)
   have hrow8:Hid (((W.alloc (.cells (Xx (List.replicate kn 0)) 3)).alloc (.cells #[.int .i64 (fi:Int),.slice (some ⟨W.heap.size,0,none⟩) kn kn] 107)).drew.ownsRow 0 107 2 (.slice na nn nc) nn cells):=Lh (by
    have h1:=hPW.out.mem.row
    rw [←HNN.out] at h1
    exact Qi h1 (fun b hb=>hb8.block b (Ve h1 b hb)))
   have hnews8:Hid (∀ j u,([.int .i64 (fi:Int),.slice (some ⟨W.heap.size,0,none⟩) kn kn]:List Value)[j]?=some u→((W.alloc (.cells (Xx (List.replicate kn 0)) 3)).alloc (.cells #[.int .i64 (fi:Int),.slice (some ⟨W.heap.size,0,none⟩) kn kn] 107)).drew.cell? ((⟨W.heap.size+1,0,none⟩:Addr).add j)=some u):=Lh (fun j u hu=>by
    rw [Xbt,Nat.zero_add]
    have:=Y5 (W.alloc (.cells (Xx (List.replicate kn 0)) 3)) #[.int .i64 (fi:Int),.slice (some ⟨W.heap.size,0,none⟩) kn kn] 107 j
    rw [show (W.alloc (.cells (Xx (List.replicate kn 0)) 3)).heap.size=W.heap.size+1 by simp] at this
    refine Eq.trans this ?_
    simpa using hu)
   have HNV:Hid (∀ b,(w.heap.size≤b∨b<B)→some b≠(Value.slice na nn nc).ownBlock):=Lh (fun b hb e=>by
    have h0:b∈plF (.slice na nn nc) (.slice la ln lc) Fg Fn:=by unfold plF;rw [List.mem_append,List.mem_append,List.mem_append,← e];simp
    have h1:=HLT.out b h0
    have h2:=HGE.out b h0
    omega)
   have hO8:Hid (Yv ((W.alloc (.cells (Xx (List.replicate kn 0)) 3)).alloc (.cells #[.int .i64 (fi:Int),.slice (some ⟨W.heap.size,0,none⟩) kn kn] 107)).drew (.slice (some ⟨W.heap.size,0,none⟩) kn kn) (List.replicate kn 0) [W.heap.size]):=Lh (by
    have h:=ownI_zero2 (w:=W) (k:=kn) (by omega)
    exact h.keep (fun b hb=>(Xh (Xa _ _) 1).block b (h.lt b hb)))
   have HFB:=Lh hfbB
   have hfbW:fb<W.heap.size:=by omega
   have hfne:¬fb=w.heap.size+1:=by omega
   clear hk0 hk00 hk01 hk3 HCW hb8 hfull hfbB
   go_upto_region 4 with fail
   refine wp_region_held_drew (S:=fun X=>X.cell? ⟨w.heap.size+1+1,2,none⟩=some (.int .i64 (fi:Int))∧X.cell? ⟨w.heap.size,0,none⟩=some (.slice (some ⟨fb,fo,none⟩) cfn fc)∧X.cell? ⟨fb,fo+fi,none⟩=some (.int .i64 (kn:Int))) (by kernel_rfl) (⟨r2,i0,hFE⟩) (fun hHeld=>?_)
   refine wpAnyH_take (i:=0) (oi:=⟨some 19,.fieldAddr 66 (.tmp 4) 1,0, "ref.go:451",#[],none⟩) (v:=.pointer (some ⟨w.heap.size+1,5,none⟩)) rfl (by kernel_rfl) (by kernel_rfl) (by kernel_rfl) (fun _ _ _ h=>h) (Or.inl ⟨by rfl,by intro wV hSw;(try dsimp only at hSw);go_simp⟩) (by assumption) ?_;(try simp only [Act.put,List.setIfInBounds_toArray,List.set_cons_zero,List.set_cons_succ])
   refine wpAnyH_take (i:=1) (oi:=⟨some 20,.fieldAddr 52 (.tmp 19) 1,0, "ref.go:451",#[⟨0,.data⟩],none⟩) (v:=.pointer (some ⟨w.heap.size+1,6,none⟩)) rfl (by kernel_rfl) (by kernel_rfl) (by kernel_rfl) (fun _ _ _ h=>h) (Or.inl ⟨by rfl,by intro wV hSw;(try dsimp only at hSw);go_simp⟩) (by assumption) ?_;(try simp only [Act.put,List.setIfInBounds_toArray,List.set_cons_zero,List.set_cons_succ])
   refine wpAnyH_take (i:=3) (oi:=⟨some 22,.fieldAddr 34 (.tmp 5) 2,0, "ref.go:451",#[],none⟩) (v:=.pointer (some ⟨w.heap.size+1+1,2,none⟩)) rfl (by kernel_rfl) (by kernel_rfl) (by kernel_rfl) (fun _ _ _ h=>h) (Or.inl ⟨by rfl,by intro wV hSw;(try dsimp only at hSw);go_simp⟩) (by assumption) ?_;(try simp only [Act.put,List.setIfInBounds_toArray,List.set_cons_zero,List.set_cons_succ])
   refine wpAnyH_take (i:=4) (oi:=⟨some 23,.load 3 (.tmp 22),3, "ref.go:451",#[⟨3,.data⟩],none⟩) (v:=.int .i64 (fi:Int)) rfl (by kernel_rfl) (by kernel_rfl) (by kernel_rfl) (fun _ _ _ h=>h) (Or.inl ⟨by rfl,by intro wV hSw;(try dsimp only at hSw);go_simp⟩) (by assumption) ?_;(try simp only [Act.put,List.setIfInBounds_toArray,List.set_cons_zero,List.set_cons_succ])
   refine wpAnyH_take (i:=5) (oi:=⟨some 24,.fieldAddr 25 (.tmp 3) 0,0, "ref.go:451",#[],none⟩) (v:=.pointer (some ⟨w.heap.size,0,none⟩)) rfl (by kernel_rfl) (by kernel_rfl) (by kernel_rfl) (fun _ _ _ h=>h) (Or.inl ⟨by rfl,by intro wV hSw;(try dsimp only at hSw);go_simp⟩) (by assumption) ?_;(try simp only [Act.put,List.setIfInBounds_toArray,List.set_cons_zero,List.set_cons_succ])
   refine wpAnyH_take (i:=6) (oi:=⟨some 25,.load 22 (.tmp 24),22, "ref.go:451",#[⟨5,.data⟩],none⟩) (v:=.slice (some ⟨fb,fo,none⟩) cfn fc) rfl (by kernel_rfl) (by kernel_rfl) (by kernel_rfl) (fun _ _ _ h=>h) (Or.inl ⟨by rfl,by intro wV hSw;(try dsimp only at hSw);go_simp⟩) (by assumption) ?_;(try simp only [Act.put,List.setIfInBounds_toArray,List.set_cons_zero,List.set_cons_succ])
   refine wpAnyH_take (i:=7) (oi:=⟨some 26,.fieldAddr 34 (.tmp 5) 2,0, "ref.go:451",#[],none⟩) (v:=.pointer (some ⟨w.heap.size+1+1,2,none⟩)) rfl (by kernel_rfl) (by kernel_rfl) (by kernel_rfl) (fun _ _ _ h=>h) (Or.inl ⟨by rfl,by intro wV hSw;(try dsimp only at hSw);go_simp⟩) (by assumption) ?_;(try simp only [Act.put,List.setIfInBounds_toArray,List.set_cons_zero,List.set_cons_succ])
   refine wpAnyH_take (i:=8) (oi:=⟨some 27,.load 3 (.tmp 26),3, "ref.go:451",#[⟨7,.data⟩],none⟩) (v:=.int .i64 (fi:Int)) rfl (by kernel_rfl) (by kernel_rfl) (by kernel_rfl) (fun _ _ _ h=>h) (Or.inl ⟨by rfl,by intro wV hSw;(try dsimp only at hSw);go_simp⟩) (by assumption) ?_;(try simp only [Act.put,List.setIfInBounds_toArray,List.set_cons_zero,List.set_cons_succ])
   refine wpAnyH_take (i:=9) (oi:=⟨some 28,.indexAddr 22 (.tmp 25) (.tmp 27),0, "ref.go:451",#[⟨6,.data⟩,⟨8,.data⟩],none⟩) (v:=.pointer (some ⟨fb,fo+fi,none⟩)) rfl (by kernel_rfl) (by kernel_rfl) (by kernel_rfl) (fun _ _ _ h=>h) (Or.inl ⟨by rfl,by intro wV hSw;(try dsimp only at hSw);go_simp⟩) (by assumption) ?_;(try simp only [Act.put,List.setIfInBounds_toArray,List.set_cons_zero,List.set_cons_succ])
   refine wpAnyH_take (i:=10) (oi:=⟨some 29,.load 3 (.tmp 28),3, "ref.go:451",#[⟨9,.data⟩],none⟩) (v:=.int .i64 (kn:Int)) rfl (by kernel_rfl) (by kernel_rfl) (by kernel_rfl) (fun _ _ _ h=>h) (Or.inl ⟨by rfl,by intro wV hSw;(try dsimp only at hSw);go_simp⟩) (by assumption) ?_;(try simp only [Act.put,List.setIfInBounds_toArray,List.set_cons_zero,List.set_cons_succ])
   refine wpAnyH_ready (rs:=[2,11]) (by kernel_rfl) (by simp) ?_
   refine AllReadyH.cons (o:=⟨some 21,.load 50 (.tmp 20),50, "ref.go:451",#[⟨1,.data⟩],none⟩) rfl (fun K hK=>?l0) (AllReadyH.cons (o:=⟨some 30,.makeSlice 22 (.tmp 29) (.tmp 29),22, "ref.go:451",#[⟨10,.data⟩,⟨10,.data⟩],none⟩) rfl (fun K hK=>?c0) AllReadyH.nil)
   case' l0=>
    go_simp;refine hK.out _ _ (⟨r2,i0,hFE⟩) (fun hHeld=>?_);clear hK K;(try simp only [Act.put,List.setIfInBounds_toArray,List.set_cons_zero,List.set_cons_succ])
    have mk0:True:=trivial
   case' c0=>
    go_simp;refine hK.out _ _ (⟨Xc HB7.out r2,Xc HB7.out i0,Xc HB7.out hFE⟩) (fun hHeld=>?_);clear hK K;(try simp only [Act.put,List.setIfInBounds_toArray,List.set_cons_zero,List.set_cons_succ])
    refine wpAnyH_take (i:=12) (oi:=⟨some 31,.build 107 #[(0,.tmp 23),(1,.tmp 30)],107, "ref.go:451",#[⟨4,.data⟩,⟨11,.data⟩],none⟩) (v:=.agg #[.int .i64 (fi:Int),.slice (some ⟨W.heap.size,0,none⟩) kn kn]) rfl (by kernel_rfl) (by kernel_rfl) (by kernel_rfl) (fun _ _ _ h=>h) (Or.inl ⟨by rfl,by intro wV hSw;(try dsimp only at hSw);go_simp⟩) (by assumption) ?_;(try simp only [Act.put,List.setIfInBounds_toArray,List.set_cons_zero,List.set_cons_succ])
    refine wpAnyH_ready (rs:=[2,13]) (by kernel_rfl) (by simp) ?_
    refine AllReadyH.cons (o:=⟨some 21,.load 50 (.tmp 20),50, "ref.go:451",#[⟨1,.data⟩],none⟩) rfl (fun K hK=>?l1) (AllReadyH.cons (o:=⟨some 32,.buildSlice 50 1 #[(0,.tmp 31)],50, "ref.go:451",#[⟨12,.data⟩],none⟩) rfl (fun K hK=>?c1) AllReadyH.nil)
    case' l1=>
     go_simp;refine hK.out _ _ (⟨Xc HB7.out r2,Xc HB7.out i0,Xc HB7.out hFE⟩) (fun hHeld=>?_);clear hK K;(try simp only [Act.put,List.setIfInBounds_toArray,List.set_cons_zero,List.set_cons_succ])
     have mk1:True:=trivial
    case' c1=>
     go_simp;refine hK.out _ _ (⟨Xc HB8.out r2,Xc HB8.out i0,Xc HB8.out hFE⟩) (fun hHeld=>?_);clear hK K;(try simp only [Act.put,List.setIfInBounds_toArray,List.set_cons_zero,List.set_cons_succ])
     refine wpAnyH_ready (rs:=[2]) (by kernel_rfl) (by simp) ?_;refine AllReadyH.cons (o:=⟨some 21,.load 50 (.tmp 20),50, "ref.go:451",#[⟨1,.data⟩],none⟩) rfl (fun K hK=>?_) AllReadyH.nil;go_simp;refine hK.out _ _ (⟨Xc HB8.out r2,Xc HB8.out i0,Xc HB8.out hFE⟩) (fun hHeld=>?_);clear hK K;(try simp only [Act.put,List.setIfInBounds_toArray,List.set_cons_zero,List.set_cons_succ])
     have mk2:True:=trivial
   all_goals
    first
     | (have _h:=mk1;clear _h)
     | (have _h:=mk2;clear _h)
     | (refine wpAnyH_ready (rs:=[11]) (by kernel_rfl) (by simp) ?_;refine AllReadyH.cons (o:=⟨some 30,.makeSlice 22 (.tmp 29) (.tmp 29),22, "ref.go:451",#[⟨10,.data⟩,⟨10,.data⟩],none⟩) rfl (fun K hK=>?_) AllReadyH.nil;go_simp;refine hK.out _ _ (⟨Xc HB7.out r2,Xc HB7.out i0,Xc HB7.out hFE⟩) (fun hHeld=>?_);clear hK K;(try simp only [Act.put,List.setIfInBounds_toArray,List.set_cons_zero,List.set_cons_succ]);refine wpAnyH_take (i:=12) (oi:=⟨some 31,.build 107 #[(0,.tmp 23),(1,.tmp 30)],107, "ref.go:451",#[⟨4,.data⟩,⟨11,.data⟩],none⟩) (v:=.agg #[.int .i64 (fi:Int),.slice (some ⟨W.heap.size,0,none⟩) kn kn]) rfl (by kernel_rfl) (by kernel_rfl) (by kernel_rfl) (fun _ _ _ h=>h) (Or.inl ⟨by rfl,by intro wV hSw;(try dsimp only at hSw);go_simp⟩) (by assumption) ?_;(try simp only [Act.put,List.setIfInBounds_toArray,List.set_cons_zero,List.set_cons_succ]))
   all_goals
    first
     | (have _h:=mk2;clear _h)
     | (refine wpAnyH_ready (rs:=[13]) (by kernel_rfl) (by simp) ?_;refine AllReadyH.cons (o:=⟨some 32,.buildSlice 50 1 #[(0,.tmp 31)],50, "ref.go:451",#[⟨12,.data⟩],none⟩) rfl (fun K hK=>?_) AllReadyH.nil;go_simp;refine hK.out _ _ (⟨Xc HB8.out r2,Xc HB8.out i0,Xc HB8.out hFE⟩) (fun hHeld=>?_);clear hK K;(try simp only [Act.put,List.setIfInBounds_toArray,List.set_cons_zero,List.set_cons_succ]))
   all_goals (refine wpAnyH_ready (rs:=[14]) (by kernel_rfl) (by simp) ?_;refine AllReadyH.cons (o:=⟨some 33,.call ⟨.builtin .append,#[.tmp 21,.tmp 32],#[50,50]⟩,50, "ref.go:451",#[⟨2,.data⟩,⟨13,.data⟩],none⟩) rfl (fun K hK=>?_) AllReadyH.nil;refine step_append_lies _ rfl (.tmp 21) (.tmp 32) 50 rfl 0 107 ti (.agg #[.int .i64 0,.slice none 0 0]) 2 32 Tryz.underlying50 hti hz0 hz1 hz2 rfl (by decide) (.slice na nn nc) nn cells rfl hrow8.out ⟨W.heap.size+1,0,none⟩ 1 1 [.int .i64 (fi:Int),.slice (some ⟨W.heap.size,0,none⟩) kn kn] rfl rfl hnews8.out (by simp [Value.oneCell']) (by omega) (by unfold maxLen;omega) (by omega) (Nat.zero_le _) (W.heap.size+1+1) (by simp) ?_;intro g cap w9 ho hg hlies hglt;have HO9:=Lh ho;have HG9:=Lh hg;have HLI:=Lh hlies;have n2:=(World.grownBy.cell_far hg ⟨w.heap.size+1+1,2,none⟩ (by first|omega|simp<;>omega) (HNV.out _ (.inl (by first|omega|simp<;>omega)))).trans (Xc HB8.out r2);have m0:=(World.grownBy.cell_far hg ⟨w.heap.size,0,none⟩ (by first|omega|simp<;>omega) (HNV.out _ (.inl (by first|omega|((try dsimp only);omega))))).trans (Xc HB8.out i0);have e9:=(World.grownBy.cell_far hg ⟨fb,fo+fi,none⟩ (by first|omega|simp<;>omega) (HNV.out _ (.inr HFB.out))).trans (Xc HB8.out hFE);have b19:w9.heap[w.heap.size+1]?=some (.cells (plC f v k p.nodes (.slice ga gn gc) (.slice na nn nc) (.slice la ln lc)) 66 (0,0)):=(hg.block _ (by first|omega|simp<;>omega) (HNV.out _ (.inl (by first|omega|((try dsimp only);omega))))).trans (Yk HB8.out B1.out);have b39:w9.heap[w.heap.size+1+1+1]?=some (.cells (plC 0 0 0 0 (.slice none 0 0) (.slice none 0 0) (.slice none 0 0)) 66 (0,0)):=(hg.block _ (by first|omega|simp<;>omega) (HNV.out _ (.inl (by first|omega|simp<;>omega)))).trans (Yk HB8.out B3.out);have v9:=pl_cells b19 6 (.slice na nn nc) rfl;have vf9:w9.frozen? ⟨w.heap.size+1,6,none⟩=false:=Fz b19;have zv9:=Bl v9;have B19:=Lh b19;have B39:=Lh b39;clear ho hg hlies b19 b39;refine hK.out _ _ (⟨n2,m0,e9⟩) (fun hHeld=>?_);clear hK K;(try simp only [Act.put,List.setIfInBounds_toArray,List.set_cons_zero,List.set_cons_succ]);refine wpAnyH_take (i:=15) (oi:=⟨some 34,.fieldAddr 66 (.tmp 4) 1,0, "ref.go:451",#[⟨0,.phase⟩,⟨1,.phase⟩,⟨2,.phase⟩,⟨3,.phase⟩,⟨4,.phase⟩,⟨5,.phase⟩,⟨6,.phase⟩,⟨7,.phase⟩,⟨8,.phase⟩,⟨9,.phase⟩,⟨10,.phase⟩,⟨11,.phase⟩,⟨12,.phase⟩,⟨13,.phase⟩,⟨14,.phase⟩],none⟩) (v:=.pointer (some ⟨w.heap.size+1,5,none⟩)) rfl (by kernel_rfl) (by kernel_rfl) (by kernel_rfl) (fun _ _ _ h=>h) (Or.inl ⟨by rfl,by intro wV hSw;(try dsimp only at hSw);go_simp⟩) (by assumption) ?_;(try simp only [Act.put,List.setIfInBounds_toArray,List.set_cons_zero,List.set_cons_succ]);refine wpAnyH_take (i:=16) (oi:=⟨some 35,.fieldAddr 52 (.tmp 34) 1,0, "ref.go:451",#[⟨15,.data⟩,⟨0,.phase⟩,⟨1,.phase⟩,⟨2,.phase⟩,⟨3,.phase⟩,⟨4,.phase⟩,⟨5,.phase⟩,⟨6,.phase⟩,⟨7,.phase⟩,⟨8,.phase⟩,⟨9,.phase⟩,⟨10,.phase⟩,⟨11,.phase⟩,⟨12,.phase⟩,⟨13,.phase⟩,⟨14,.phase⟩],none⟩) (v:=.pointer (some ⟨w.heap.size+1,6,none⟩)) rfl (by kernel_rfl) (by kernel_rfl) (by kernel_rfl) (fun _ _ _ h=>h) (Or.inl ⟨by rfl,by intro wV hSw;(try dsimp only at hSw);go_simp⟩) (by assumption) ?_;(try simp only [Act.put,List.setIfInBounds_toArray,List.set_cons_zero,List.set_cons_succ]))
   all_goals (refine wpAnyH_ready (rs:=[17]) (by kernel_rfl) (by simp) ?_;refine AllReadyH.cons (o:=⟨none,.store 50 (.tmp 35) (.tmp 33),0, "ref.go:451",#[⟨16,.data⟩,⟨14,.data⟩,⟨14,.chain⟩,⟨0,.phase⟩,⟨1,.phase⟩,⟨2,.phase⟩,⟨3,.phase⟩,⟨4,.phase⟩,⟨5,.phase⟩,⟨6,.phase⟩,⟨7,.phase⟩,⟨8,.phase⟩,⟨9,.phase⟩,⟨10,.phase⟩,⟨11,.phase⟩,⟨12,.phase⟩,⟨13,.phase⟩,⟨14,.phase⟩],none⟩) rfl (fun K hK=>?_) AllReadyH.nil;go_simp;refine hK.out _ _ (⟨Xw.cell n2 (by first|omega|simp<;>omega),Xw.cell m0 (by first|omega|simp<;>omega),Xw.cell e9 (by first|omega|simp<;>omega)⟩) (fun hHeld=>?_);clear hK K;(try simp only [Act.put,List.setIfInBounds_toArray,List.set_cons_zero,List.set_cons_succ]))
   all_goals (refine wpAnyH_done (by kernel_rfl) ?_ _)
   all_goals
    obtain ⟨W5,hW5⟩:∃ u,u=w9.setCell ⟨w.heap.size+1,6,none⟩ (.slice (some ⟨g,0,none⟩) (nn+1) cap):=⟨_,rfl⟩
    have hm5:Xp [w.heap.size+1] [w.heap.size+1] w9 W5:=by rw [hW5];exact Xw
    have b15:W5.heap[w.heap.size+1]?=some (.cells (plC f v k p.nodes (.slice ga gn gc) (.slice (some ⟨g,0,none⟩) (nn+1) cap) (.slice la ln lc)) 66 (0,0)):=by rw [hW5];exact heap_setCell_same _ _ 6 _ _ _ B19.out
    have R5:Hid (W5.heap[w.heap.size+1+1+1]?=some (.cells (plC 0 0 0 0 (.slice none 0 0) (.slice none 0 0) (.slice none 0 0)) 66 (0,0))):=Lh ((hm5.block _ (La B39.out) (by simp<;>omega)).trans B39.out)
    have hadd:=hPW.out.mem.addN (w4:=((W.alloc (.cells (Xx (List.replicate kn 0)) 3)).alloc (.cells #[.int .i64 (fi:Int),.slice (some ⟨W.heap.size,0,none⟩) kn kn] 107)).drew) (w5:=w9) (x:=⟨(fi:Int),List.replicate kn 0⟩) (lv:=.slice (some ⟨W.heap.size,0,none⟩) kn kn) (Fl:=[W.heap.size]) (g:=g) (cap:=cap) HB8.out hO8.out (fun b hb=>by rw [List.mem_singleton] at hb;rw [hb];exact Nat.le_refl _) (by simp) (by show in64 (fi:Int);unfold in64;omega) (by rw [←HNN.out];exact HO9.out) HG9.out (by rcases HLI.out with h1|h1;exact .inl h1;exact .inr (by rw [h1];simp))
    rw [←HNN.out] at hadd
    have hpl:=hPW.out.memM hadd.1 hadd.2
    have hP9:=hpl.1
    have hltp:=hP9.lt
    have hgeo:∀ b∈plF (.slice (some ⟨g,0,none⟩) (nn+1) cap) (.slice la ln lc) Fg (Fn++[W.heap.size]),b<w.heap.size∨W.heap.size≤b:=fun b hb=>by
     rcases hpl.2.new b hb with h|h
     ·exact .inl (HLT.out b h)
     ·exact .inr h
    have hP5:Hid (PlV W5 { p with mem:={ p.mem with nodes:=p.mem.nodes++[⟨(fi:Int),List.replicate kn 0⟩] } } (.slice ga gn gc) (.slice (some ⟨g,0,none⟩) (nn+1) cap) (.slice la ln lc) (cells++[.int .i64 (fi:Int),.slice (some ⟨W.heap.size,0,none⟩) kn kn]) Fg (Fn++[W.heap.size])):=Lh (hP9.keep (fun b hb=>hm5.block b (hltp b hb) (fun e=>by have:=hgeo b hb;simp at e;omega)))
    have hM5:Hid (Xp (plF (.slice na nn nc) (.slice la ln lc) Fg Fn) (plF (.slice (some ⟨g,0,none⟩) (nn+1) cap) (.slice la ln lc) Fg (Fn++[W.heap.size])) w W5):=Lh (by
     have h:=(Xp.of_below hWb.out).trans hpl.2
     exact ⟨hm5.os.trans h.os,hm5.tape.trans h.tape,hm5.output.trans h.output,Nat.le_trans h.size hm5.size,fun j hj hF=>by rw [hm5.block j (Nat.lt_of_lt_of_le hj h.size) (by first|omega|simp<;>omega),h.block j hj hF],h.new⟩)
    have HASK:Hid (J5 c p r=some (⟨({ p with mem:={ p.mem with nodes:=p.mem.nodes++[⟨(fi:Int),List.replicate kn 0⟩] } }:Ply).mem,p.log++[⟨3,(nn:Int)+1,(fi:Int)⟩],p.nodes+(if 0<(nn:Int)+1 then 1 else 0)⟩,(nn:Int)+1)):=Lh (by
     unfold J5
     rw [if_pos HK3.out,if_pos (by rw [←HNN.out];exact hnlt),HFI.out,Int.toNat_natCast,List.getD_eq_getElem?_getD,HKN.out,← HNN.out,if_pos (show 0<(nn:Int)+1 by omega)]
     simp)
    have hRl:Hid (w.heap.size+1+1+1<W5.heap.size):=Lh (La R5.out)
    have hRF5:Hid (w.heap.size+1+1+1∉plF (.slice (some ⟨g,0,none⟩) (nn+1) cap) (.slice la ln lc) Fg (Fn++[W.heap.size])):=Lh (fun e=>by have:=hgeo _ e;omega)
    have HLVN:Hid (∀ b,w.heap.size≤b→b∉(Value.slice la ln lc).ownBlock.toList):=Lh (fun b hb e=>by have:=HLT.out b (by unfold plF;rw [List.mem_append];exact .inr e);omega)
    have r25:W5.cell? ⟨w.heap.size+1+1,2,none⟩=some (.int .i64 (fi:Int)):=hm5.cell n2 (by simp<;>omega)
    rw [←hW5]
    clear hW5 hm5 hadd hpl hP9 hltp hgeo n2 m0 e9 v9 vf9 zv9 x0 x1 x2 x3 x4 x5 x6 x7 y0 y1 y2 y3 y4 y5 y6 y7 q0 q1 q2 q3 q4 q5 q6 q7 q8 r0 r1 r2 r3 i0 hFE zc zp zr zR zf xf
    obtain ⟨x0,x1,x2,x3,x4,x5,x6,x7⟩:=pl8 b15
    have zp:=(La b15)
    have zr:=Bl r25
    clear b15
    go_upto_region 5 with fail
    go_region_held3 (fun X=>X.cell? ⟨w.heap.size+1,0,none⟩=some (.int .i64 f)∧X.cell? ⟨w.heap.size+1,1,none⟩=some (.int .i64 v)∧X.cell? ⟨w.heap.size+1,2,none⟩=some (.int .i64 k)∧X.cell? ⟨w.heap.size+1,3,none⟩=some (.int .i64 p.nodes)∧X.cell? ⟨w.heap.size+1,4,none⟩=some (.int .i64 0)∧X.cell? ⟨w.heap.size+1,5,none⟩=some (.slice ga gn gc)∧X.cell? ⟨w.heap.size+1,6,none⟩=some (.slice (some ⟨g,0,none⟩) (nn+1) cap)∧X.cell? ⟨w.heap.size+1,7,none⟩=some (.slice la ln lc)∧X.cell? ⟨w.heap.size+1+1,2,none⟩=some (.int .i64 (fi:Int)))
     (first|with_reducible exact ⟨n0,n1,n2,n3,n4,n5,n6,n7,s2⟩|with_reducible exact ⟨x0,x1,x2,x3,x4,x5,x6,x7,r25⟩|exact ⟨m0,m1,m2,m3,m4,m5,m6,m7,u2⟩|exact ⟨x0,x1,x2,x3,x4,x5,x6,x7,r25⟩)
     (first|(go_at_call 88;refine (rnoted_any f v k p.nodes _ _ la _ _ _ _ ln lc 3 ((nn:Int)+1) (fi:Int) HLN.out (show W5.drew.ownsRow 0 _ 3 _ _ _ from hP5.out.log) HL.out ⟨HND.out.1,by have:=HND.out.2;omega⟩).mono ?_;intro e w6 hN;obtain ⟨d,g6,ln6,cap6,rfl,hM6,hgR,hr6,hp6,hA6⟩:=ans_end (R:=w.heap.size+1+1+1) (gv:=.slice ga gn gc) HASK.out (hP5.out.keep (w':=W5.drew) (fun b hb=>rfl)) (show Xp _ _ w W5.drew from hM5.out.trans (Xp.of_below (Xh (Below.refl _ _) 1))) hN hRl.out (by omega) hRF5.out (show W5.drew.heap[w.heap.size+1+1+1]?=_ from R5.out);have hne6:∀ b,w.heap.size≤b→b∉(Value.slice la ln lc).ownBlock.toList:=HLVN.out;obtain ⟨n0,n1,n2,n3,n4,n5,n6,n7⟩:=mods8 hM6 (hne6 (w.heap.size+1) (by omega)) x0 x1 x2 x3 x4 x5 x6 x7;have s2:=hM6.cell (show W5.drew.cell? _=_ from r25) (hne6 _ (by first|omega|simp<;>omega));have hput6:=(plPut_facts hr6 f v k d (.slice ga gn gc) (.slice (some ⟨g,0,none⟩) (nn+1) cap) (.slice (some ⟨g6,0,none⟩) ln6 cap6)).2;obtain ⟨m0,m1,m2,m3,m4,m5,m6,m7⟩:=mods8 hput6 (b:=w.heap.size+1) (by simp) n0 n1 n2 n3 n4 n5 n6 n7;have u2:=hput6.cell s2 (by first|omega|simp<;>omega);obtain ⟨y0,y1,y2,y3,y4,y5,y6,y7⟩:=pl8 hr6;obtain ⟨q0,q1,q2,q3,q4,q5,q6,q7,q8⟩:=Xu hr6;have zR6:=(La hr6);have HP6:=Lh hp6;have HA6:=Lh hA6;clear hM6 hr6 hp6 hA6 hput6 hne6;unfold plV plC))
    all_goals
     go_wp2_with fail
     exact bodyPost_ret (v:=.tuple #[plV f v k d (.slice ga gn gc) (.slice (some ⟨g,0,none⟩) (nn+1) cap) (.slice (some ⟨g6,0,none⟩) ln6 cap6),.int .i64 ((nn:Int)+1),.bool true]) (results_pl3 (p:=6) (a:=7) (b:=8) rfl HP6.out _ _ _ rfl rfl rfl) rfl HA6.out
 have e3:(r.kind == 3)=false:=by simpa using hk3
 obtain ⟨nd,hnd⟩:∃ nd:Nat,r.node=nd:=⟨r.node.toNat,by have:=HR.out.node;omega⟩
 have hndV:nd≤1099511627776:=by have:=HR.out.nodeV;unfold isV at this;omega
 rw [hnd] at r1
 have HNDE:=Lh hnd
 have HK3:=Lh hk3
 clear hnd hk3
 by_cases hpos:0<nd
 ·have hp0:decide ((0:Int)<(nd:Int))=true:=by first|omega|simp<;>omega
  by_cases hfar:nn<nd
  ·have hf1:decide ((nn:Int)<(nd:Int))=true:=by first|omega|simp<;>omega
   have hf1n:decide (nn<nd)=true:=by first|omega|simp<;>omega
   have hp0n:decide (0<nd)=true:=by first|omega|simp<;>omega
   have HASK:Hid (J5 c p r=none):=Lh (by
    unfold J5
    rw [if_neg HK3.out,if_pos]
    unfold Un
    rw [if_pos (by rw [HNDE.out,← HNN.out];omega)]
    exact HR.out.field)
   go_upto_region 8 with fail
   go_quiet (fail)
   go_wp2_with fail
   exact bodyPost_ret (v:=.tuple #[plV f v k p.nodes (.slice ga gn gc) (.slice na nn nc) (.slice la ln lc),.int .i64 0,.bool false]) (results_pl3 (p:=6) (a:=7) (b:=8) rfl (HPUTN.out _).1 _ _ _ rfl rfl rfl) rfl (.inl ⟨HASK.out,rfl,(HPUTN.out _).2⟩)
  obtain ⟨nd0,hnd0⟩:∃ k,nd=k+1:=⟨nd - 1,by omega⟩
  subst hnd0
  obtain ⟨x1',hx1⟩:∃ y,p.mem.nodes[nd0]?=some y:=⟨_,List.getElem?_eq_getElem (by have:=HNN.out;omega)⟩
  have hlist:Hid (Un p.mem r=x1'.f):=Lh (by
   unfold Un
   have e1:=HNDE.out
   have e2:=HNN.out
   rw [if_neg (by omega),if_pos (by omega),show (r.node - 1).toNat=nd0 by omega,hx1]
   rfl)
  have hputm:Hid (r.kind=2→putM p.mem r={ p.mem with nodes:=p.mem.nodes.modify nd0 (fun x=>Xem x fi r.value) }):=Lh (fun hk=>by
   unfold putM
   have e1:=HNDE.out
   rw [if_neg (by simp [hk]),if_pos (by omega),show (r.node - 1).toNat=nd0 by omega,HFI.out,Int.toNat_natCast])
  obtain ⟨nb,fv1,Fl,hna1,hcn,hOf,hsub,hwr⟩:=hPW.out.nodeAt hx1
  subst hna1
  obtain ⟨fa1,fc1,hf1e⟩:=(Zs hOf.1).2.2
  subst hf1e
  obtain ⟨fl1,hfl1⟩:∃ n,n=x1'.f.length:=⟨_,rfl⟩
  rw [←hfl1] at hcn
  have zn:=Bl hcn
  have HOF:=Lh hOf
  have HSUB:=Lh hsub
  have HWR:=Lh hwr
  have HFL:Hid (fl1=x1'.f.length):=Lh hfl1
  have hd0:(0:Int)≤(nd0:Int):=Int.natCast_nonneg _
  have hd1:(nd0:Int)<(nn:Int):=by omega
  have hdq:((nd0+1:Nat):Int)=(nd0:Int)+1:=by omega
  rw [hdq] at r1 hp0
  have hf1:decide ((nn:Int)<(nd0:Int)+1)=false:=by first|omega|simp<;>omega
  have hf1n:decide (nn<nd0+1)=false:=by first|omega|simp<;>omega
  have hp0n:decide (0<nd0+1)=true:=by simp
  have HDE:Hid (r.node=(nd0:Int)+1):=Lh (by rw [HNDE.out];exact hdq)
  clear hsub hwr hOf hfl1 hx1 hpos hfar hdq
  by_cases hfld:fl1≤fi
  ·have hdf:decide ((fl1:Int)≤(fi:Int))=true:=by first|omega|simp<;>omega
   have hdfn:decide (fl1≤fi)=true:=by first|omega|simp<;>omega
   have HASK:Hid (J5 c p r=none):=Lh (by
    unfold J5
    rw [if_neg HK3.out,if_pos (by rw [hlist.out,HFI.out,← HFL.out];omega)])
   go_upto_region 8 with fail
   go_quiet (fail)
   go_wp2_with fail
   exact bodyPost_ret (v:=.tuple #[plV f v k p.nodes (.slice ga gn gc) (.slice (some ⟨nb,0,none⟩) nn nc) (.slice la ln lc),.int .i64 0,.bool false]) (results_pl3 (p:=6) (a:=7) (b:=8) rfl (HPUTN.out _).1 _ _ _ rfl rfl rfl) rfl (.inl ⟨HASK.out,rfl,(HPUTN.out _).2⟩)
  have hdf:decide ((fl1:Int)≤(fi:Int))=false:=by first|omega|simp<;>omega
  have hdfn:decide (fl1≤fi)=false:=by first|omega|simp<;>omega
  have hff:(fi:Int)<(fl1:Int):=by omega
  obtain ⟨vv,hvv⟩:∃ v,x1'.f[fi]?=some v:=⟨_,List.getElem?_eq_getElem (by have:=HFL.out;omega)⟩
  obtain ⟨lb,cap,hfe,hFl,_,_⟩:=HOF.out.form (by have:=HFL.out;omega)
  simp only [Value.slice.injEq,true_and] at hfe
  obtain ⟨rfl,rfl⟩:=hfe
  have HLB:Hid (lb∈Fg++((Value.slice (some ⟨nb,0,none⟩) nn nc).ownBlock.toList++Fn)):=Lh (HSUB.out lb (by rw [hFl];simp))
  have HCV:Hid (W.cell? ⟨lb,fi,none⟩=some (.int .i64 vv)):=Lh (HOF.out.cellAt hvv)
  have HFCV:Hid (W.frozen? ⟨lb,fi,none⟩=false):=Lh (HOF.out.frozen fi)
  have HVV:=Lh hvv
  have HFL2:=HFL
  rw [←HFL.out] at HWR
  clear hvv hFl hfld
  go_upto_region 8 with fail
  go_quiet (fail)
  go_upto_region 11 with fail
  obtain ⟨V,hV⟩:∃ V,V=W.drewN nq:=⟨_,rfl⟩
  rw [←hV]
  have hbd:Below W.heap.size W V:=by rw [hV];exact Xh (Below.refl _ _) _
  have hMV:Hid (Below w.heap.size w V):=Lh (hWb.out.then hbd)
  obtain ⟨x0,x1,x2,x3,x4,x5,x6,x7⟩:=mods8 (Xp.of_below (F:=[]) hbd) (b:=w.heap.size+1) (by simp) x0 x1 x2 x3 x4 x5 x6 x7
  have r0:=Xc hbd r0
  have r1:=Xc hbd r1
  have r2:=Xc hbd r2
  have r3:=Xc hbd r3
  have cv:=Xc hbd HCV.out
  have fcv:V.frozen? ⟨lb,fi,none⟩=false:=by rw [hV];exact HFCV.out
  have zp:=Bl x0
  have zr:=Bl r0
  have zl:=Bl cv
  have HPV:Hid (PlV V p (.slice ga gn gc) (.slice (some ⟨nb,0,none⟩) nn nc) (.slice la ln lc) cells Fg Fn):=Lh (hPW.out.keep (fun b hb=>hbd.block b (hPW.out.lt b hb)))
  have RV:Hid (V.heap[w.heap.size+1+1+1]?=some (.cells (plC 0 0 0 0 (.slice none 0 0) (.slice none 0 0) (.slice none 0 0)) 66 (0,0))):=Lh ((hbd.block _ (by have:=hsz.out;omega)).trans B3.out)
  have hVs:Hid (V.heap.size=w.heap.size+4):=Lh (by rw [hV];exact hsz.out)
  have HLVN:Hid (∀ b,w.heap.size≤b→b∉(Value.slice la ln lc).ownBlock.toList):=Lh (fun b hb e=>by have:=HLT.out b (by unfold plF;rw [List.mem_append];exact .inr e);omega)
  have HLBL:Hid (lb∉(Value.slice la ln lc).ownBlock.toList):=Lh (hPW.out.dj lb HLB.out)
  have hlbw:lb<w.heap.size:=HLT.out lb (by unfold plF;rw [List.mem_append];exact .inl HLB.out)
  have HLBR:Hid (¬lb=w.heap.size+1+1+1):=Lh (by omega)
  have HVE:=Lh hV
  clear hV hbd
  have hkk:=HR.out.kind
  by_cases hk2:r.kind=2
  ·have e2:(r.kind == 2)=true:=by simpa using hk2
   have h64:in64 r.value:=HR.out.value.in64
   obtain ⟨W3,hW3⟩:∃ u,u=V.setCell ⟨lb,fi,none⟩ (.int .i64 r.value):=⟨_,rfl⟩
   have hP3a:PlV W3 ({ p with mem:={ p.mem with nodes:=p.mem.nodes.modify nd0 (fun x=>Xem x fi r.value) } }:Ply) (.slice ga gn gc) (.slice (some ⟨nb,0,none⟩) nn nc) (.slice la ln lc) cells Fg Fn∧Xp (plF (.slice (some ⟨nb,0,none⟩) nn nc) (.slice la ln lc) Fg Fn) (plF (.slice (some ⟨nb,0,none⟩) nn nc) (.slice la ln lc) Fg Fn) V W3:=by rw [hW3];exact ⟨(HWR.out lb _ fi r.value rfl h64).1.keep (fun b hb=>by rw [HVE.out];rfl),Xkq (by unfold plF;rw [List.mem_append];exact .inl HLB.out)⟩
   have hP3:=Lh hP3a.1
   have hM3:Hid (Xp (plF (.slice (some ⟨nb,0,none⟩) nn nc) (.slice la ln lc) Fg Fn) (plF (.slice (some ⟨nb,0,none⟩) nn nc) (.slice la ln lc) Fg Fn) w W3):=Lh ((Xp.of_below hMV.out).trans hP3a.2)
   have HASK:Hid (J5 c p r=some (⟨(({ p with mem:={ p.mem with nodes:=p.mem.nodes.modify nd0 (fun x=>Xem x fi r.value) } }:Ply):Ply).mem,(({ p with mem:={ p.mem with nodes:=p.mem.nodes.modify nd0 (fun x=>Xem x fi r.value) } }:Ply):Ply).log++[⟨r.kind,(nd0:Int)+1,(fi:Int)⟩],(({ p with mem:={ p.mem with nodes:=p.mem.nodes.modify nd0 (fun x=>Xem x fi r.value) } }:Ply):Ply).nodes+(if 0<((nd0:Int)+1) then 1 else 0)⟩,r.value)):=Lh (by
    have e1:=HDE.out
    unfold J5
    rw [if_neg HK3.out,if_neg (by rw [hlist.out,HFI.out,← HFL2.out];omega),if_pos hk2,hputm.out hk2,e1,HFI.out]
    try rfl)
   have hm3:Xp [lb] [lb] V W3:=by rw [hW3];exact Xw
   have R3:Hid (W3.heap[w.heap.size+1+1+1]?=some (.cells (plC 0 0 0 0 (.slice none 0 0) (.slice none 0 0) (.slice none 0 0)) 66 (0,0))):=Lh ((hm3.block _ (by have:=hVs.out;omega) (by first|omega|simp<;>omega)).trans RV.out)
   have hRl:Hid (w.heap.size+1+1+1<W3.heap.size):=Lh (La R3.out)
   go_upto_region 12 with fail
   go_upto_region 13 with fail
   rw [←hW3]
   have hx:=mods8 hm3 (b:=w.heap.size+1) (by simp<;>omega) x0 x1 x2 x3 x4 x5 x6 x7
   have hr0:=hm3.cell r0 (by first|omega|simp<;>omega)
   have hr1:=hm3.cell r1 (by first|omega|simp<;>omega)
   have hr2:=hm3.cell r2 (by first|omega|simp<;>omega)
   have hcv:W3.cell? ⟨lb,fi,none⟩=some (.int .i64 r.value):=by rw [hW3];exact World.cell?_setCell_same _ _ _ cv
   clear x0 x1 x2 x3 x4 x5 x6 x7 r0 r1 r2 r3 cv fcv zp zr zl hW3 hm3 hP3a hk2 hkk
   obtain ⟨x0,x1,x2,x3,x4,x5,x6,x7⟩:=hx
   have r0:=hr0
   have r1:=hr1
   have r2:=hr2
   have cv:=hcv
   clear hr0 hr1 hr2 hcv
   have zp:=Bl x0
   have zr:=Bl r0
   have zl:=Bl cv
   go_upto_region 13 with fail
   go_region_held3 (fun X=>X.cell? ⟨w.heap.size+1,0,none⟩=some (.int .i64 f)∧X.cell? ⟨w.heap.size+1,1,none⟩=some (.int .i64 v)∧X.cell? ⟨w.heap.size+1,2,none⟩=some (.int .i64 k)∧X.cell? ⟨w.heap.size+1,3,none⟩=some (.int .i64 p.nodes)∧X.cell? ⟨w.heap.size+1,4,none⟩=some (.int .i64 0)∧X.cell? ⟨w.heap.size+1,5,none⟩=some (.slice ga gn gc)∧X.cell? ⟨w.heap.size+1,6,none⟩=some (.slice (some ⟨nb,0,none⟩) nn nc)∧X.cell? ⟨w.heap.size+1,7,none⟩=some (.slice la ln lc)∧X.cell? ⟨w.heap.size+1+1,0,none⟩=some (.int .i64 r.kind)∧X.cell? ⟨w.heap.size+1+1,1,none⟩=some (.int .i64 ((nd0:Int)+1))∧X.cell? ⟨w.heap.size+1+1,2,none⟩=some (.int .i64 (fi:Int))∧X.cell? ⟨lb,fi,none⟩=some (.int .i64 r.value))
    (first|with_reducible exact ⟨n0,n1,n2,n3,n4,n5,n6,n7,s0,s1,s2,s3⟩|with_reducible exact ⟨x0,x1,x2,x3,x4,x5,x6,x7,r0,r1,r2,cv⟩|exact ⟨m0,m1,m2,m3,m4,m5,m6,m7,u0,u1,u2,u3⟩|exact ⟨x0,x1,x2,x3,x4,x5,x6,x7,r0,r1,r2,cv⟩)
    (first|(go_at_call 88;refine (rnoted_any f v k p.nodes _ _ la _ _ _ _ ln lc r.kind ((nd0:Int)+1) (fi:Int) HLN.out (show (W3).drew.ownsRow 0 _ 3 _ _ _ from hP3.out.log) HL.out ⟨HND.out.1,by have:=HND.out.2;omega⟩).mono ?_;intro e w6 hN;obtain ⟨d,g,ln6,cap6,rfl,hM6,hgR,hr6,hp6,hA6⟩:=ans_end (R:=w.heap.size+1+1+1) (gv:=(.slice ga gn gc)) HASK.out (hP3.out.keep (w':=(W3).drew) (fun b hb=>rfl)) (show Xp _ _ w (W3).drew from hM3.out.trans (Xp.of_below (Xh (Below.refl _ _) 1))) hN hRl.out (by omega) hRF.out (show (W3).drew.heap[w.heap.size+1+1+1]?=_ from R3.out);have hne6:∀ b,w.heap.size≤b→b∉(Value.slice la ln lc).ownBlock.toList:=HLVN.out;obtain ⟨n0,n1,n2,n3,n4,n5,n6,n7⟩:=mods8 hM6 (hne6 (w.heap.size+1) (by omega)) x0 x1 x2 x3 x4 x5 x6 x7;have s0:=hM6.cell (show (W3).drew.cell? _=_ from r0) (hne6 _ (by first|omega|simp<;>omega));have s1:=hM6.cell (show (W3).drew.cell? _=_ from r1) (hne6 _ (by first|omega|simp<;>omega));have s2:=hM6.cell (show (W3).drew.cell? _=_ from r2) (hne6 _ (by first|omega|simp<;>omega));have s3:=hM6.cell (show (W3).drew.cell? _=_ from cv) HLBL.out;have zl6:=Bl s3;have hput6:=(plPut_facts hr6 f v k d (.slice ga gn gc) (.slice (some ⟨nb,0,none⟩) nn nc) (.slice (some ⟨g,0,none⟩) ln6 cap6)).2;obtain ⟨m0,m1,m2,m3,m4,m5,m6,m7⟩:=mods8 hput6 (b:=w.heap.size+1) (by simp) n0 n1 n2 n3 n4 n5 n6 n7;have u0:=hput6.cell s0 (by first|omega|simp<;>omega);have u1:=hput6.cell s1 (by first|omega|simp<;>omega);have u2:=hput6.cell s2 (by first|omega|simp<;>omega);have u3:=hput6.cell s3 (by simp;exact HLBR.out);obtain ⟨y0,y1,y2,y3,y4,y5,y6,y7⟩:=pl8 hr6;obtain ⟨q0,q1,q2,q3,q4,q5,q6,q7,q8⟩:=Xu hr6;have zR6:=(La hr6);have HP6:=Lh hp6;have HA6:=Lh hA6;clear hM6 hr6 hp6 hA6 hput6 hne6;unfold plV plC))
   all_goals
    go_wp2_with fail
    exact bodyPost_ret (v:=.tuple #[plV f v k d (.slice ga gn gc) (.slice (some ⟨nb,0,none⟩) nn nc) (.slice (some ⟨g,0,none⟩) ln6 cap6),.int .i64 r.value,.bool true]) (results_pl3 (p:=6) (a:=7) (b:=8) rfl HP6.out _ _ _ rfl rfl rfl) rfl HA6.out
  ·have e2:(r.kind == 2)=false:=by simpa using hk2
   have hP3:=HPV
   have hM3:Hid (Xp (plF (.slice (some ⟨nb,0,none⟩) nn nc) (.slice la ln lc) Fg Fn) (plF (.slice (some ⟨nb,0,none⟩) nn nc) (.slice la ln lc) Fg Fn) w V):=Lh (Xp.of_below hMV.out)
   have HASK:Hid (J5 c p r=some (⟨p.mem,p.log++[⟨r.kind,(nd0:Int)+1,(fi:Int)⟩],p.nodes+(if 0<((nd0:Int)+1) then 1 else 0)⟩,vv)):=Lh (by
    have e1:=HDE.out
    unfold J5
    rw [if_neg HK3.out,if_neg (by rw [hlist.out,HFI.out,← HFL2.out];omega),if_neg hk2,hlist.out,HFI.out,Int.toNat_natCast,List.getD_eq_getElem?_getD,HVV.out]
    unfold putM
    rw [if_pos hk2,e1]
    simp)
   have R3:=RV
   have hRl:Hid (w.heap.size+1+1+1<V.heap.size):=Lh (La R3.out)
   clear hk2 hkk
   go_upto_region 13 with fail
   go_region_held3 (fun X=>X.cell? ⟨w.heap.size+1,0,none⟩=some (.int .i64 f)∧X.cell? ⟨w.heap.size+1,1,none⟩=some (.int .i64 v)∧X.cell? ⟨w.heap.size+1,2,none⟩=some (.int .i64 k)∧X.cell? ⟨w.heap.size+1,3,none⟩=some (.int .i64 p.nodes)∧X.cell? ⟨w.heap.size+1,4,none⟩=some (.int .i64 0)∧X.cell? ⟨w.heap.size+1,5,none⟩=some (.slice ga gn gc)∧X.cell? ⟨w.heap.size+1,6,none⟩=some (.slice (some ⟨nb,0,none⟩) nn nc)∧X.cell? ⟨w.heap.size+1,7,none⟩=some (.slice la ln lc)∧X.cell? ⟨w.heap.size+1+1,0,none⟩=some (.int .i64 r.kind)∧X.cell? ⟨w.heap.size+1+1,1,none⟩=some (.int .i64 ((nd0:Int)+1))∧X.cell? ⟨w.heap.size+1+1,2,none⟩=some (.int .i64 (fi:Int))∧X.cell? ⟨lb,fi,none⟩=some (.int .i64 vv))
    (first|with_reducible exact ⟨n0,n1,n2,n3,n4,n5,n6,n7,s0,s1,s2,s3⟩|with_reducible exact ⟨x0,x1,x2,x3,x4,x5,x6,x7,r0,r1,r2,cv⟩|exact ⟨m0,m1,m2,m3,m4,m5,m6,m7,u0,u1,u2,u3⟩|exact ⟨x0,x1,x2,x3,x4,x5,x6,x7,r0,r1,r2,cv⟩)
    (first|(go_at_call 88;refine (rnoted_any f v k p.nodes _ _ la _ _ _ _ ln lc r.kind ((nd0:Int)+1) (fi:Int) HLN.out (show (V).drew.ownsRow 0 _ 3 _ _ _ from hP3.out.log) HL.out ⟨HND.out.1,by have:=HND.out.2;omega⟩).mono ?_;intro e w6 hN;obtain ⟨d,g,ln6,cap6,rfl,hM6,hgR,hr6,hp6,hA6⟩:=ans_end (R:=w.heap.size+1+1+1) (gv:=(.slice ga gn gc)) HASK.out (hP3.out.keep (w':=(V).drew) (fun b hb=>rfl)) (show Xp _ _ w (V).drew from hM3.out.trans (Xp.of_below (Xh (Below.refl _ _) 1))) hN hRl.out (by omega) hRF.out (show (V).drew.heap[w.heap.size+1+1+1]?=_ from R3.out);have hne6:∀ b,w.heap.size≤b→b∉(Value.slice la ln lc).ownBlock.toList:=HLVN.out;obtain ⟨n0,n1,n2,n3,n4,n5,n6,n7⟩:=mods8 hM6 (hne6 (w.heap.size+1) (by omega)) x0 x1 x2 x3 x4 x5 x6 x7;have s0:=hM6.cell (show (V).drew.cell? _=_ from r0) (hne6 _ (by first|omega|simp<;>omega));have s1:=hM6.cell (show (V).drew.cell? _=_ from r1) (hne6 _ (by first|omega|simp<;>omega));have s2:=hM6.cell (show (V).drew.cell? _=_ from r2) (hne6 _ (by first|omega|simp<;>omega));have s3:=hM6.cell (show (V).drew.cell? _=_ from cv) HLBL.out;have zl6:=Bl s3;have hput6:=(plPut_facts hr6 f v k d (.slice ga gn gc) (.slice (some ⟨nb,0,none⟩) nn nc) (.slice (some ⟨g,0,none⟩) ln6 cap6)).2;obtain ⟨m0,m1,m2,m3,m4,m5,m6,m7⟩:=mods8 hput6 (b:=w.heap.size+1) (by simp) n0 n1 n2 n3 n4 n5 n6 n7;have u0:=hput6.cell s0 (by first|omega|simp<;>omega);have u1:=hput6.cell s1 (by first|omega|simp<;>omega);have u2:=hput6.cell s2 (by first|omega|simp<;>omega);have u3:=hput6.cell s3 (by simp;exact HLBR.out);obtain ⟨y0,y1,y2,y3,y4,y5,y6,y7⟩:=pl8 hr6;obtain ⟨q0,q1,q2,q3,q4,q5,q6,q7,q8⟩:=Xu hr6;have zR6:=(La hr6);have HP6:=Lh hp6;have HA6:=Lh hA6;clear hM6 hr6 hp6 hA6 hput6 hne6;unfold plV plC))
   all_goals
    go_wp2_with fail
    exact bodyPost_ret (v:=.tuple #[plV f v k d (.slice ga gn gc) (.slice (some ⟨nb,0,none⟩) nn nc) (.slice (some ⟨g,0,none⟩) ln6 cap6),.int .i64 vv,.bool true]) (results_pl3 (p:=6) (a:=7) (b:=8) rfl HP6.out _ _ _ rfl rfl rfl) rfl HA6.out
 ·obtain rfl:nd=0:=by omega
  have HDE:Hid (r.node=0):=Lh HNDE.out
  have hp0:decide ((0:Int)<0)=false:=by simp
  rw [show ((0:Nat):Int)=0 from rfl] at r1
  have hlist:Hid (Un p.mem r=p.mem.globals):=Lh (by
   unfold Un
   rw [if_neg (by rw [HDE.out];omega),if_neg (by rw [HDE.out];omega)])
  have hputm:Hid (r.kind=2→putM p.mem r={ p.mem with globals:=p.mem.globals.set fi r.value }):=Lh (fun hk=>by
   unfold putM
   rw [if_neg (by simp [hk]),if_neg (by rw [HDE.out];omega),HFI.out,Int.toNat_natCast])
  by_cases hfld:gn≤fi
  ·exact absurd hfld (HGF.out HDE.out HK3.out)
  have hff:(fi:Int)<(gn:Int):=by omega
  obtain ⟨vv,hvv⟩:∃ v,p.mem.globals[fi]?=some v:=⟨_,List.getElem?_eq_getElem (by have:=HGN.out;omega)⟩
  have hOf:=hPW.out.mem.glob
  obtain ⟨lb,cap,hfe,hFl,_,_⟩:=hOf.form (by have:=HGN.out;omega)
  rw [←HGN.out] at hfe
  simp only [Value.slice.injEq,true_and] at hfe
  obtain ⟨rfl,rfl⟩:=hfe
  rw [HGN.out] at hOf
  have HLB:Hid (lb∈Fg++((Value.slice na nn nc).ownBlock.toList++Fn)):=Lh (by rw [hFl];simp)
  have HCV:Hid (W.cell? ⟨lb,fi,none⟩=some (.int .i64 vv)):=Lh (hOf.cellAt hvv)
  have HFCV:Hid (W.frozen? ⟨lb,fi,none⟩=false):=Lh (hOf.frozen fi)
  have HVV:=Lh hvv
  have HFL2:=HGN
  have HWR:Hid (∀ (lb cap:Nat) (j:Nat) (x:Int),Value.slice (some ⟨lb,0,none⟩) gn gc=.slice (some ⟨lb,0,none⟩) gn cap→in64 x→True):=Lh (fun _ _ _ _ _ _=>trivial)
  clear hvv hFl hOf hfld hpos
  go_upto_region 11 with fail
  obtain ⟨V,hV⟩:∃ V,V=W.drewN 0:=⟨_,rfl⟩
  rw [show W=W.drewN 0 from rfl,← hV]
  have hbd:Below W.heap.size W V:=by rw [hV];exact Xh (Below.refl _ _) _
  have hMV:Hid (Below w.heap.size w V):=Lh (hWb.out.then hbd)
  obtain ⟨x0,x1,x2,x3,x4,x5,x6,x7⟩:=mods8 (Xp.of_below (F:=[]) hbd) (b:=w.heap.size+1) (by simp) x0 x1 x2 x3 x4 x5 x6 x7
  have r0:=Xc hbd r0
  have r1:=Xc hbd r1
  have r2:=Xc hbd r2
  have r3:=Xc hbd r3
  have cv:=Xc hbd HCV.out
  have fcv:V.frozen? ⟨lb,fi,none⟩=false:=by rw [hV];exact HFCV.out
  have zp:=Bl x0
  have zr:=Bl r0
  have zl:=Bl cv
  have HPV:Hid (PlV V p (.slice (some ⟨lb,0,none⟩) gn gc) (.slice na nn nc) (.slice la ln lc) cells Fg Fn):=Lh (hPW.out.keep (fun b hb=>hbd.block b (hPW.out.lt b hb)))
  have RV:Hid (V.heap[w.heap.size+1+1+1]?=some (.cells (plC 0 0 0 0 (.slice none 0 0) (.slice none 0 0) (.slice none 0 0)) 66 (0,0))):=Lh ((hbd.block _ (by have:=hsz.out;omega)).trans B3.out)
  have hVs:Hid (V.heap.size=w.heap.size+4):=Lh (by rw [hV];exact hsz.out)
  have HLVN:Hid (∀ b,w.heap.size≤b→b∉(Value.slice la ln lc).ownBlock.toList):=Lh (fun b hb e=>by have:=HLT.out b (by unfold plF;rw [List.mem_append];exact .inr e);omega)
  have HLBL:Hid (lb∉(Value.slice la ln lc).ownBlock.toList):=Lh (hPW.out.dj lb HLB.out)
  have hlbw:lb<w.heap.size:=HLT.out lb (by unfold plF;rw [List.mem_append];exact .inl HLB.out)
  have HLBR:Hid (¬lb=w.heap.size+1+1+1):=Lh (by omega)
  have HVE:=Lh hV
  clear hV hbd
  have hkk:=HR.out.kind
  by_cases hk2:r.kind=2
  ·have e2:(r.kind == 2)=true:=by simpa using hk2
   have h64:in64 r.value:=HR.out.value.in64
   obtain ⟨W3,hW3⟩:∃ u,u=V.setCell ⟨lb,fi,none⟩ (.int .i64 r.value):=⟨_,rfl⟩
   have hP3a:PlV W3 ({ p with mem:={ p.mem with globals:=p.mem.globals.set fi r.value } }:Ply) (.slice (some ⟨lb,0,none⟩) gn gc) (.slice na nn nc) (.slice la ln lc) cells Fg Fn∧Xp (plF (.slice na nn nc) (.slice la ln lc) Fg Fn) (plF (.slice na nn nc) (.slice la ln lc) Fg Fn) V W3:=by rw [hW3];exact HPV.out.globSet HGN.out fi r.value h64
   have hP3:=Lh hP3a.1
   have hM3:Hid (Xp (plF (.slice na nn nc) (.slice la ln lc) Fg Fn) (plF (.slice na nn nc) (.slice la ln lc) Fg Fn) w W3):=Lh ((Xp.of_below hMV.out).trans hP3a.2)
   have HASK:Hid (J5 c p r=some (⟨(({ p with mem:={ p.mem with globals:=p.mem.globals.set fi r.value } }:Ply):Ply).mem,(({ p with mem:={ p.mem with globals:=p.mem.globals.set fi r.value } }:Ply):Ply).log++[⟨r.kind,0,(fi:Int)⟩],(({ p with mem:={ p.mem with globals:=p.mem.globals.set fi r.value } }:Ply):Ply).nodes+(if 0<(0) then 1 else 0)⟩,r.value)):=Lh (by
    have e1:=HDE.out
    unfold J5
    rw [if_neg HK3.out,if_neg (by rw [hlist.out,HFI.out,← HFL2.out];omega),if_pos hk2,hputm.out hk2,e1,HFI.out]
    try rfl)
   have hm3:Xp [lb] [lb] V W3:=by rw [hW3];exact Xw
   have R3:Hid (W3.heap[w.heap.size+1+1+1]?=some (.cells (plC 0 0 0 0 (.slice none 0 0) (.slice none 0 0) (.slice none 0 0)) 66 (0,0))):=Lh ((hm3.block _ (by have:=hVs.out;omega) (by first|omega|simp<;>omega)).trans RV.out)
   have hRl:Hid (w.heap.size+1+1+1<W3.heap.size):=Lh (La R3.out)
   go_upto_region 12 with fail
   go_upto_region 13 with fail
   rw [←hW3]
   have hx:=mods8 hm3 (b:=w.heap.size+1) (by simp<;>omega) x0 x1 x2 x3 x4 x5 x6 x7
   have hr0:=hm3.cell r0 (by first|omega|simp<;>omega)
   have hr1:=hm3.cell r1 (by first|omega|simp<;>omega)
   have hr2:=hm3.cell r2 (by first|omega|simp<;>omega)
   have hcv:W3.cell? ⟨lb,fi,none⟩=some (.int .i64 r.value):=by rw [hW3];exact World.cell?_setCell_same _ _ _ cv
   clear x0 x1 x2 x3 x4 x5 x6 x7 r0 r1 r2 r3 cv fcv zp zr zl hW3 hm3 hP3a hk2 hkk
   obtain ⟨x0,x1,x2,x3,x4,x5,x6,x7⟩:=hx
   have r0:=hr0
   have r1:=hr1
   have r2:=hr2
   have cv:=hcv
   clear hr0 hr1 hr2 hcv
   have zp:=Bl x0
   have zr:=Bl r0
   have zl:=Bl cv
   go_upto_region 13 with fail
   go_region_held3 (fun X=>X.cell? ⟨w.heap.size+1,0,none⟩=some (.int .i64 f)∧X.cell? ⟨w.heap.size+1,1,none⟩=some (.int .i64 v)∧X.cell? ⟨w.heap.size+1,2,none⟩=some (.int .i64 k)∧X.cell? ⟨w.heap.size+1,3,none⟩=some (.int .i64 p.nodes)∧X.cell? ⟨w.heap.size+1,4,none⟩=some (.int .i64 0)∧X.cell? ⟨w.heap.size+1,5,none⟩=some (.slice (some ⟨lb,0,none⟩) gn gc)∧X.cell? ⟨w.heap.size+1,6,none⟩=some (.slice na nn nc)∧X.cell? ⟨w.heap.size+1,7,none⟩=some (.slice la ln lc)∧X.cell? ⟨w.heap.size+1+1,0,none⟩=some (.int .i64 r.kind)∧X.cell? ⟨w.heap.size+1+1,1,none⟩=some (.int .i64 (0))∧X.cell? ⟨w.heap.size+1+1,2,none⟩=some (.int .i64 (fi:Int))∧X.cell? ⟨lb,fi,none⟩=some (.int .i64 r.value))
    (first|with_reducible exact ⟨n0,n1,n2,n3,n4,n5,n6,n7,s0,s1,s2,s3⟩|with_reducible exact ⟨x0,x1,x2,x3,x4,x5,x6,x7,r0,r1,r2,cv⟩|exact ⟨m0,m1,m2,m3,m4,m5,m6,m7,u0,u1,u2,u3⟩|exact ⟨x0,x1,x2,x3,x4,x5,x6,x7,r0,r1,r2,cv⟩)
    (first|(go_at_call 88;refine (rnoted_any f v k p.nodes _ _ la _ _ _ _ ln lc r.kind (0) (fi:Int) HLN.out (show (W3).drew.ownsRow 0 _ 3 _ _ _ from hP3.out.log) HL.out ⟨HND.out.1,by have:=HND.out.2;omega⟩).mono ?_;intro e w6 hN;obtain ⟨d,g,ln6,cap6,rfl,hM6,hgR,hr6,hp6,hA6⟩:=ans_end (R:=w.heap.size+1+1+1) (gv:=(.slice (some ⟨lb,0,none⟩) gn gc)) HASK.out (hP3.out.keep (w':=(W3).drew) (fun b hb=>rfl)) (show Xp _ _ w (W3).drew from hM3.out.trans (Xp.of_below (Xh (Below.refl _ _) 1))) hN hRl.out (by omega) hRF.out (show (W3).drew.heap[w.heap.size+1+1+1]?=_ from R3.out);have hne6:∀ b,w.heap.size≤b→b∉(Value.slice la ln lc).ownBlock.toList:=HLVN.out;obtain ⟨n0,n1,n2,n3,n4,n5,n6,n7⟩:=mods8 hM6 (hne6 (w.heap.size+1) (by omega)) x0 x1 x2 x3 x4 x5 x6 x7;have s0:=hM6.cell (show (W3).drew.cell? _=_ from r0) (hne6 _ (by first|omega|simp<;>omega));have s1:=hM6.cell (show (W3).drew.cell? _=_ from r1) (hne6 _ (by first|omega|simp<;>omega));have s2:=hM6.cell (show (W3).drew.cell? _=_ from r2) (hne6 _ (by first|omega|simp<;>omega));have s3:=hM6.cell (show (W3).drew.cell? _=_ from cv) HLBL.out;have zl6:=Bl s3;have hput6:=(plPut_facts hr6 f v k d (.slice (some ⟨lb,0,none⟩) gn gc) (.slice na nn nc) (.slice (some ⟨g,0,none⟩) ln6 cap6)).2;obtain ⟨m0,m1,m2,m3,m4,m5,m6,m7⟩:=mods8 hput6 (b:=w.heap.size+1) (by simp) n0 n1 n2 n3 n4 n5 n6 n7;have u0:=hput6.cell s0 (by first|omega|simp<;>omega);have u1:=hput6.cell s1 (by first|omega|simp<;>omega);have u2:=hput6.cell s2 (by first|omega|simp<;>omega);have u3:=hput6.cell s3 (by simp;exact HLBR.out);obtain ⟨y0,y1,y2,y3,y4,y5,y6,y7⟩:=pl8 hr6;obtain ⟨q0,q1,q2,q3,q4,q5,q6,q7,q8⟩:=Xu hr6;have zR6:=(La hr6);have HP6:=Lh hp6;have HA6:=Lh hA6;clear hM6 hr6 hp6 hA6 hput6 hne6;unfold plV plC))
   all_goals
    go_wp2_with fail
    exact bodyPost_ret (v:=.tuple #[plV f v k d (.slice (some ⟨lb,0,none⟩) gn gc) (.slice na nn nc) (.slice (some ⟨g,0,none⟩) ln6 cap6),.int .i64 r.value,.bool true]) (results_pl3 (p:=6) (a:=7) (b:=8) rfl HP6.out _ _ _ rfl rfl rfl) rfl HA6.out
  ·have e2:(r.kind == 2)=false:=by simpa using hk2
   have hP3:=HPV
   have hM3:Hid (Xp (plF (.slice na nn nc) (.slice la ln lc) Fg Fn) (plF (.slice na nn nc) (.slice la ln lc) Fg Fn) w V):=Lh (Xp.of_below hMV.out)
   have HASK:Hid (J5 c p r=some (⟨p.mem,p.log++[⟨r.kind,0,(fi:Int)⟩],p.nodes+(if 0<(0) then 1 else 0)⟩,vv)):=Lh (by
    have e1:=HDE.out
    unfold J5
    rw [if_neg HK3.out,if_neg (by rw [hlist.out,HFI.out,← HFL2.out];omega),if_neg hk2,hlist.out,HFI.out,Int.toNat_natCast,List.getD_eq_getElem?_getD,HVV.out]
    unfold putM
    rw [if_pos hk2,e1]
    simp)
   have R3:=RV
   have hRl:Hid (w.heap.size+1+1+1<V.heap.size):=Lh (La R3.out)
   clear hk2 hkk
   go_upto_region 13 with fail
   go_region_held3 (fun X=>X.cell? ⟨w.heap.size+1,0,none⟩=some (.int .i64 f)∧X.cell? ⟨w.heap.size+1,1,none⟩=some (.int .i64 v)∧X.cell? ⟨w.heap.size+1,2,none⟩=some (.int .i64 k)∧X.cell? ⟨w.heap.size+1,3,none⟩=some (.int .i64 p.nodes)∧X.cell? ⟨w.heap.size+1,4,none⟩=some (.int .i64 0)∧X.cell? ⟨w.heap.size+1,5,none⟩=some (.slice (some ⟨lb,0,none⟩) gn gc)∧X.cell? ⟨w.heap.size+1,6,none⟩=some (.slice na nn nc)∧X.cell? ⟨w.heap.size+1,7,none⟩=some (.slice la ln lc)∧X.cell? ⟨w.heap.size+1+1,0,none⟩=some (.int .i64 r.kind)∧X.cell? ⟨w.heap.size+1+1,1,none⟩=some (.int .i64 (0))∧X.cell? ⟨w.heap.size+1+1,2,none⟩=some (.int .i64 (fi:Int))∧X.cell? ⟨lb,fi,none⟩=some (.int .i64 vv))
    (first|with_reducible exact ⟨n0,n1,n2,n3,n4,n5,n6,n7,s0,s1,s2,s3⟩|with_reducible exact ⟨x0,x1,x2,x3,x4,x5,x6,x7,r0,r1,r2,cv⟩|exact ⟨m0,m1,m2,m3,m4,m5,m6,m7,u0,u1,u2,u3⟩|exact ⟨x0,x1,x2,x3,x4,x5,x6,x7,r0,r1,r2,cv⟩)
    (first|(go_at_call 88;refine (rnoted_any f v k p.nodes _ _ la _ _ _ _ ln lc r.kind (0) (fi:Int) HLN.out (show (V).drew.ownsRow 0 _ 3 _ _ _ from hP3.out.log) HL.out ⟨HND.out.1,by have:=HND.out.2;omega⟩).mono ?_;intro e w6 hN;obtain ⟨d,g,ln6,cap6,rfl,hM6,hgR,hr6,hp6,hA6⟩:=ans_end (R:=w.heap.size+1+1+1) (gv:=(.slice (some ⟨lb,0,none⟩) gn gc)) HASK.out (hP3.out.keep (w':=(V).drew) (fun b hb=>rfl)) (show Xp _ _ w (V).drew from hM3.out.trans (Xp.of_below (Xh (Below.refl _ _) 1))) hN hRl.out (by omega) hRF.out (show (V).drew.heap[w.heap.size+1+1+1]?=_ from R3.out);have hne6:∀ b,w.heap.size≤b→b∉(Value.slice la ln lc).ownBlock.toList:=HLVN.out;obtain ⟨n0,n1,n2,n3,n4,n5,n6,n7⟩:=mods8 hM6 (hne6 (w.heap.size+1) (by omega)) x0 x1 x2 x3 x4 x5 x6 x7;have s0:=hM6.cell (show (V).drew.cell? _=_ from r0) (hne6 _ (by first|omega|simp<;>omega));have s1:=hM6.cell (show (V).drew.cell? _=_ from r1) (hne6 _ (by first|omega|simp<;>omega));have s2:=hM6.cell (show (V).drew.cell? _=_ from r2) (hne6 _ (by first|omega|simp<;>omega));have s3:=hM6.cell (show (V).drew.cell? _=_ from cv) HLBL.out;have zl6:=Bl s3;have hput6:=(plPut_facts hr6 f v k d (.slice (some ⟨lb,0,none⟩) gn gc) (.slice na nn nc) (.slice (some ⟨g,0,none⟩) ln6 cap6)).2;obtain ⟨m0,m1,m2,m3,m4,m5,m6,m7⟩:=mods8 hput6 (b:=w.heap.size+1) (by simp) n0 n1 n2 n3 n4 n5 n6 n7;have u0:=hput6.cell s0 (by first|omega|simp<;>omega);have u1:=hput6.cell s1 (by first|omega|simp<;>omega);have u2:=hput6.cell s2 (by first|omega|simp<;>omega);have u3:=hput6.cell s3 (by simp;exact HLBR.out);obtain ⟨y0,y1,y2,y3,y4,y5,y6,y7⟩:=pl8 hr6;obtain ⟨q0,q1,q2,q3,q4,q5,q6,q7,q8⟩:=Xu hr6;have zR6:=(La hr6);have HP6:=Lh hp6;have HA6:=Lh hA6;clear hM6 hr6 hp6 hA6 hput6 hne6;unfold plV plC))
   all_goals
    go_wp2_with fail
    exact bodyPost_ret (v:=.tuple #[plV f v k d (.slice (some ⟨lb,0,none⟩) gn gc) (.slice na nn nc) (.slice (some ⟨g,0,none⟩) ln6 cap6),.int .i64 vv,.bool true]) (results_pl3 (p:=6) (a:=7) (b:=8) rfl HP6.out _ _ _ rfl rfl rfl) rfl HA6.out
theorem ranswered_all:RAnsAny:=fun _ _ _ f v k fa ha fc hcc B gv nv lv cells Fg Fn w hs hr hP hm hl hn hB hc hge hgf=>ranswered_any hs hr f v k fa ha fc hcc B gv nv lv cells Fg Fn w hP hm hl hn hB hc hge hgf
/-- while the reference runs: the machine's box bs, what is played in box bp -/
structure RSt (A:Nat) (W wr:World) (bs bp:Nat) (mx bx:Array Value) (fr:List Fra) (p:Ply) (fv gv nv lv:Value) (cells:List Value) (Fm Fg Fn:List Nat):Prop where
 mach:wr.heap[bs]?=some (.cells mx 36 (0,0))
 own:Z9 wr fv fr Fm
 box:wr.heap[bp]?=some (.cells bx 66 (0,0))
 pl:PlV wr p gv nv lv cells Fg Fn
 dj:Dj Fm (plF nv lv Fg Fn)
 s1:bs∉Fm
 s2:bs∉plF nv lv Fg Fn
 p1:bp∉Fm
 p2:bp∉plF nv lv Fg Fn
 ne:bs≠bp
 g1:∀ b∈Fm,A≤b
 g2:∀ b∈plF nv lv Fg Fn,A≤b
 g3:A≤bs
 g4:A≤bp
 aw:A≤W.heap.size
 bel:Below A W wr
theorem cells_next15b {w:World} {A:Array Value} {T:TypeId} {o o2:Obj}:Xo (((w.alloc o).alloc o2).alloc (.cells A T)) (w.heap.size+2) A.toList:=by
 have:=@Xd ((w.alloc o).alloc o2) A T
 simpa using this
section
variable {A:Nat} {W wr w':World} {bs bp:Nat} {mx bx:Array Value} {fr:List Fra} {p:Ply} {fv gv nv lv:Value} {cells:List Value} {Fm Fg Fn:List Nat}
theorem RSt.awr (h:RSt A W wr bs bp mx bx fr p fv gv nv lv cells Fm Fg Fn):A≤wr.heap.size:=Nat.le_trans h.aw h.bel.size
theorem RSt.keep (h:RSt A W wr bs bp mx bx fr p fv gv nv lv cells Fm Fg Fn) (hb:Below wr.heap.size wr w'):RSt A W w' bs bp mx bx fr p fv gv nv lv cells Fm Fg Fn:=
 ⟨Yk hb h.mach,h.own.keep (fun b hb'=>hb.block b (h.own.lt b hb')),Yk hb h.box,h.pl.keep (fun b hb'=>hb.block b (h.pl.lt b hb')),h.dj,h.s1,h.s2,h.p1,h.p2,h.ne,h.g1,h.g2,h.g3,h.g4,h.aw,h.bel.trans (hb.mono h.awr)⟩
/-- the box of what is played is written -/
theorem RSt.setB (h:RSt A W wr bs bp mx bx fr p fv gv nv lv cells Fm Fg Fn) {bx':Array Value} (hM:Xp [bp] [bp] wr w') (hb:w'.heap[bp]?=some (.cells bx' 66 (0,0))):RSt A W w' bs bp mx bx' fr p fv gv nv lv cells Fm Fg Fn:=by
 have hk:∀ b,b<wr.heap.size→b≠bp→w'.heap[b]?=wr.heap[b]?:=fun b h1 h2=>hM.block b h1 (by simpa using h2)
 exact ⟨by rw [hk _ (La h.mach) h.ne];exact h.mach,h.own.keep (fun b hb'=>hk b (h.own.lt b hb') (fun e=>h.p1 (e▸hb'))),hb,h.pl.keep (fun b hb'=>hk b (h.pl.lt b hb') (fun e=>h.p2 (e▸hb'))),h.dj,h.s1,h.s2,h.p1,h.p2,h.ne,h.g1,h.g2,h.g3,h.g4,h.aw,h.bel.trans (hM.below (fun b hb'=>by rw [List.mem_singleton] at hb';rw [hb'];exact h.g4) h.awr)⟩
/-- the machine's box is written -/
theorem RSt.setM (h:RSt A W wr bs bp mx bx fr p fv gv nv lv cells Fm Fg Fn) {mx':Array Value} (hM:Xp [bs] [bs] wr w') (hb:w'.heap[bs]?=some (.cells mx' 36 (0,0))):RSt A W w' bs bp mx' bx fr p fv gv nv lv cells Fm Fg Fn:=by
 have hk:∀ b,b<wr.heap.size→b≠bs→w'.heap[b]?=wr.heap[b]?:=fun b h1 h2=>hM.block b h1 (by simpa using h2)
 exact ⟨hb,h.own.keep (fun b hb'=>hk b (h.own.lt b hb') (fun e=>h.s1 (e▸hb'))),by rw [hk _ (La h.box) h.ne.symm];exact h.box,h.pl.keep (fun b hb'=>hk b (h.pl.lt b hb') (fun e=>h.s2 (e▸hb'))),h.dj,h.s1,h.s2,h.p1,h.p2,h.ne,h.g1,h.g2,h.g3,h.g4,h.aw,h.bel.trans (hM.below (fun b hb'=>by rw [List.mem_singleton] at hb';rw [hb'];exact h.g3) h.awr)⟩
/-- a new box for the machine -/
theorem RSt.newM (h:RSt A W wr bs bp mx bx fr p fv gv nv lv cells Fm Fg Fn) (mx':Array Value):RSt A W (wr.alloc (.cells mx' 36)) wr.heap.size bp mx' bx fr p fv gv nv lv cells Fm Fg Fn:=by
 have hk:=h.keep (w':=wr.alloc (.cells mx' 36)) (Xa _ _)
 exact ⟨heap_alloc_new _ _,hk.own,hk.box,hk.pl,h.dj,fun e=>by have:=h.own.lt _ e;omega,fun e=>by have:=h.pl.lt _ e;omega,h.p1,h.p2,fun e=>by have:=(La h.box);omega,h.g1,h.g2,h.awr,h.g4,h.aw,hk.bel⟩
/-- another memory, another log -/
theorem RSt.ans (h:RSt A W wr bs bp mx bx fr p fv gv nv lv cells Fm Fg Fn) {p':Ply} {gv' nv' lv':Value} {cells':List Value} {Fg' Fn':List Nat} (hP:PlV w' p' gv' nv' lv' cells' Fg' Fn') (hM:Xp (plF nv lv Fg Fn) (plF nv' lv' Fg' Fn') wr w'):RSt A W w' bs bp mx bx fr p' fv gv' nv' lv' cells' Fm Fg' Fn':=by
 have l1:=(La h.mach)
 have l2:=(La h.box)
 have ol:=h.own.lt
 have dj:Dj (plF nv lv Fg Fn) Fm:=h.dj.symm
 refine ⟨(hM.block _ l1 h.s2).trans h.mach,h.own.keep (fun b hb=>dj.keep hM ol b hb),(hM.block _ l2 h.p2).trans h.box,hP,(dj.mods hM ol).symm,h.s1,fun e=>?_,h.p1,fun e=>?_,h.ne,h.g1,hM.ge h.g2 h.awr,h.g3,h.g4,h.aw,h.bel.trans (hM.below h.g2 h.awr)⟩
 ·rcases hM.new _ e with h1|h1
  ·exact h.s2 h1
  ·omega
 ·rcases hM.new _ e with h1|h1
  ·exact h.p2 h1
  ·omega
/-- other frames -/
theorem RSt.next (h:RSt A W wr bs bp mx bx fr p fv gv nv lv cells Fm Fg Fn) {fr':List Fra} {fv':Value} {F':List Nat} (hO:Z9 w' fv' fr' F') (hM:Xp Fm F' wr w'):RSt A W w' bs bp mx bx fr' p fv' gv nv lv cells F' Fg Fn:=by
 have l1:=(La h.mach)
 have l2:=(La h.box)
 have pl:=h.pl.lt
 refine ⟨(hM.block _ l1 h.s1).trans h.mach,hO,(hM.block _ l2 h.p1).trans h.box,h.pl.keep (fun b hb=>h.dj.keep hM pl b hb),h.dj.mods hM pl,fun e=>?_,h.s2,fun e=>?_,h.p2,h.ne,hM.ge h.g1 h.awr,h.g2,h.g3,h.g4,h.aw,h.bel.trans (hM.below h.g1 h.awr)⟩
 ·rcases hM.new _ e with h1|h1
  ·exact h.s1 h1
  ·omega
 ·rcases hM.new _ e with h1|h1
  ·exact h.p1 h1
  ·omega
end
theorem MRow.reads {w:World} {m:Mm} {gv nv:Value} {cells:List Value} {Fg Fn:List Nat} (h:MRow w m gv nv cells Fg Fn) (hg:m.globals.length≤140737488355328) (hn:m.nodes.length≤140737488355328) (hf:∀ x∈m.nodes,x.f.length≤140737488355328):MmV w.heap.size w (.agg #[gv,nv]) m:=by
 refine ⟨gv,nv,rfl,h.glob.reads hg,?_⟩
 have hc:=h.nodes.len
 rcases h.row.2 with ⟨rfl,h0⟩|⟨g,cap,cur,rfl,_,hg,hc1,hcm,_⟩
 ·have h3:m.nodes=[]:=List.eq_nil_of_length_eq_zero h0
  rw [h3]
  exact ⟨none,0,rfl,by simp,by simp,by omega,.inl rfl⟩
 ·refine ⟨some ⟨g,0,none⟩,cap,rfl,hn,hc1,by unfold maxLen at hcm;omega,.inr ⟨g,0,rfl,(La hg),fun i x hx=>?_⟩⟩
  obtain ⟨lv,Fl,k1,k2,k3,k4⟩:=h.nodes.rd hx
  have hi:=(Ll hx)
  rw [Nat.zero_add]
  refine ⟨?_,⟨lv,?_,k3.reads (hf x (List.mem_of_getElem? hx))⟩,k4⟩
  ·rw [h.row.cellAt _ (by omega)];exact k1
  ·rw [h.row.cellAt _ (by omega)];exact k2
theorem log_reads {w:World} {l:List Acc} {v:Value} (h:w.ownsRow 0 70 3 v l.length (Zf l)) (hl:l.length≤140737488355328):Xf w.heap.size w 3 Xf4 v l:=by
 rcases h.2 with ⟨rfl,h0⟩|⟨g,cap,cur,rfl,_,hg,hc1,hcm,_⟩
 ·have h3:l=[]:=List.eq_nil_of_length_eq_zero h0
  subst h3
  exact ⟨none,0,rfl,by simp,by simp,by omega,.inl rfl⟩
 ·refine ⟨some ⟨g,0,none⟩,cap,rfl,hl,hc1,by unfold maxLen at hcm;omega,.inr ⟨g,0,rfl,(La hg),fun i x hx=>?_⟩⟩
  obtain ⟨k1,k2,k3⟩:=Xci hx
  have hi:=(Ll hx)
  rw [Nat.zero_add]
  refine ⟨?_,?_,?_⟩
  ·rw [h.cellAt _ (by omega)];exact k1
  ·rw [h.cellAt _ (by omega)];exact k2
  ·rw [h.cellAt _ (by omega)];exact k3
/-- what is returned -/
theorem played_end {c:Cod} (hs:Xv c) {m:Mm} {x:Cal} {fuel:Int} {m1:Mch} {o:Ks} {p:Ply} {A R bs bp ln lc gn gc nn nc:Nat} {ga na la:Option Addr} {w W wr:World} {mx bx:Array Value} {fr:List Fra} {fv:Value} {cells:List Value} {Fm Fg Fn:List Nat} (h:RSt A W wr bs bp mx bx fr p fv (.slice ga gn gc) (.slice na nn nc) (.slice la ln lc) cells Fm Fg Fn) (hR:Zm c (Zo c x fuel) m1) (hP:Zx c m1 ⟨m,[],0⟩ o p) (hm:Uv c p.mem) (hl:p.log.length≤1000000000000) (hRA:R<A) (hRw:w.heap.size≤R) (hWb:Below w.heap.size w W) (hA:w.heap.size≤A)
  (r1:wr.heap[R]?=some (.cells (plC 0 0 0 0 (.slice none 0 0) (.slice none 0 0) (.slice none 0 0)) 66 (0,0))) :
  (plPut wr R o.fault o.value o.compares o.nodes (.slice ga gn gc) (.slice na nn nc) (.slice la ln lc)).heap[R]?=some (.cells (plC o.fault o.value o.compares o.nodes (.slice ga gn gc) (.slice na nn nc) (.slice la ln lc)) 66 (0,0))∧
  PlayedPost c m x fuel w (.returned (plV o.fault o.value o.compares o.nodes (.slice ga gn gc) (.slice na nn nc) (.slice la ln lc))) (plPut wr R o.fault o.value o.compares o.nodes (.slice ga gn gc) (.slice na nn nc) (.slice la ln lc)):=by
 obtain ⟨p1,p2⟩:=plPut_facts r1 o.fault o.value o.compares o.nodes (.slice ga gn gc) (.slice na nn nc) (.slice la ln lc)
 obtain ⟨l1,l2,l3⟩:=hm.lens hs
 have hpl:=h.pl.keep (w':=plPut wr R o.fault o.value o.compares o.nodes (.slice ga gn gc) (.slice na nn nc) (.slice la ln lc)) (fun b hb=>p2.block b (h.pl.lt b hb) (fun e=>by rw [List.mem_singleton] at e;have:=h.g2 b hb;omega))
 exact ⟨p1,m1,o,p,ga,na,la,gn,gc,nn,nc,ln,lc,hR,hP,rfl,hpl.mem.reads (by omega) (by omega) (fun y hy=>by have:=l3 y hy;omega),log_reads hpl.log (by omega),(hWb.trans (h.bel.mono hA)).trans (p2.below (fun b hb=>by rw [List.mem_singleton] at hb;omega) (Nat.le_trans hWb.size h.bel.size))⟩
theorem rRun_any (hq:RAnsAny) {c:Cod} (hs:Xv c) (hsm:Zb c) (m:Mm) (x:Cal) (fuel:Int) (cv mv xv:Value) (B:Nat) (w:World) (hB:B≤w.heap.size) (hc:Yj B w cv c) (hm:MmV B w mv m) (hx:J8 B w xv x) (hft:Q7 c m=true) (hgv:Yd c x fuel=0) :
  Calls Tryz.prog 27 #[cv,mv,xv,.int .i64 fuel] w (PlayedPost c m x fuel w):=by
 obtain ⟨cf,cg,rfl,hcf,hcg,hg64⟩:=id hc
 obtain ⟨fa,fc,rfl⟩:=hcf.form
 obtain ⟨ga,gc,rfl⟩:=hcg.form
 obtain ⟨mg,mn,rfl,hmg,hmn⟩:=id hm
 obtain ⟨va,vc,rfl⟩:=hmg.form
 obtain ⟨na,nc,rfl⟩:=hmn.form
 obtain ⟨xg,rfl,hxg,hx47⟩:=id hx
 obtain ⟨xa,xc,rfl⟩:=hxg.form
 have HQ:=Lh hq
 have HC:=Lh hc
 have HM:=Lh hm
 have HX:=Lh hx
 have HG:=Lh hcg
 have hmok:=Xn1.1 hft
 obtain ⟨l1,l2,l3⟩:=hmok.lens hs
 have HL1:=Lh l1
 have HL2:=Lh l2
 have HL3:=Lh l3
 have HMOK:=Lh hmok
 have HGV:=Lh hgv
 obtain ⟨cfn,hcfn⟩:∃ n,n=c.fields.length:=⟨_,rfl⟩
 obtain ⟨cgn,hcgn⟩:∃ n,n=c.funcs.length:=⟨_,rfl⟩
 obtain ⟨cgl,hcgl⟩:∃ n,n=c.globals:=⟨_,rfl⟩
 have HCFN:=Lh hcfn
 have HCGN:=Lh hcgn
 have HCGL:=Lh hcgl
 rw [←hcfn,← hcgn,← hcgl]
 obtain ⟨W,hW⟩:∃ W,W=(((w.alloc (.cells #[.slice fa cfn fc,.int .i64 cgl,.slice ga cgn gc] 25)).alloc (.cells #[.slice va m.globals.length vc,.slice na m.nodes.length nc] 52)).alloc (.cells #[.string x.proc,.slice xa x.args.length xc] 27)).alloc (.cells (plC 0 0 0 0 (.slice none 0 0) (.slice none 0 0) (.slice none 0 0)) 66):=⟨_,rfl⟩
 have hWb:Hid (Below w.heap.size w W):=by rw [hW];exact Lh ((((Xa _ _).then (Xa _ _)).then (Xa _ _)).then (Xa _ _))
 have hsz:Hid (W.heap.size=w.heap.size+4):=by rw [hW];exact Lh (by simp)
 have b0:Hid (Xo W w.heap.size [.slice fa cfn fc,.int .i64 cgl,.slice ga cgn gc]):=by rw [hW];exact Lh (((Xd.alloc _).alloc _).alloc _)
 have b1:Hid (Xo W (w.heap.size+1) [.slice va m.globals.length vc,.slice na m.nodes.length nc]):=by rw [hW];exact Lh ((K1.alloc _).alloc _)
 have b2:Hid (Xo W (w.heap.size+2) [.string x.proc,.slice xa x.args.length xc]):=by rw [hW];exact Lh (cells_next15b.alloc _)
 have b3:Hid (W.heap[w.heap.size+3]?=some (.cells (plC 0 0 0 0 (.slice none 0 0) (.slice none 0 0) (.slice none 0 0)) 66 (0,0))):=by
  rw [hW]
  have:=heap_alloc_new (((w.alloc (.cells #[.slice fa cfn fc,.int .i64 cgl,.slice ga cgn gc] 25)).alloc (.cells #[.slice va m.globals.length vc,.slice na m.nodes.length nc] 52)).alloc (.cells #[.string x.proc,.slice xa x.args.length xc] 27)) (.cells (plC 0 0 0 0 (.slice none 0 0) (.slice none 0 0) (.slice none 0 0)) 66)
  exact Lh (by simpa using this)
 have hWB:B≤W.heap.size:=Nat.le_trans hB hWb.out.size
 have m0:=b1.out 0 _ rfl
 have m1:=b1.out 1 _ rfl
 have zm:=Bl m0
 clear hq hc hm hx hcf hcg hmg hmn hxg hft hgv hmok l1 l2 l3 hcfn hcgn hcgl hg64 hx47
 unfold plC at hW
 go_enter Tryz.func27,Tryz.ntmps27
 go_upto_region 1 with fail
 rw [←hW]
 have HW:=Lh hW
 clear hW
 go_wp2_with fail
 clear m0 m1 zm
 refine (rcopied_any m _ B W hWB (HM.out.below (hWb.out.mono hB)) (by have:=HL1.out;omega) HL2.out (fun y hy=>by have:=HL3.out y hy;omega)).mono ?_
 rintro e w1 ⟨gv1,nv1,cells1,Fg1,Fn1,rfl,hR1,hge1,hb1⟩
 obtain ⟨g1,gc1,rfl⟩:=(Zs hR1.glob.1).2.2
 obtain ⟨n1,nc1,rfl⟩:=(Zs hR1.row).2.2
 obtain ⟨W2,hW2⟩:∃ V,V=w1.alloc (.cells (plC 0 0 0 0 (.slice g1 m.globals.length gc1) (.slice n1 m.nodes.length nc1) (.slice none 0 0)) 66):=⟨_,rfl⟩
 obtain ⟨bp,hbp⟩:∃ b,b=w1.heap.size:=⟨_,rfl⟩
 have hb2:Below w1.heap.size w1 W2:=by rw [hW2];exact Xa _ _
 have HB2:=Lh (hb1.then hb2)
 have HBX:Hid (W2.heap[bp]?=some (.cells (plC 0 0 0 0 (.slice g1 m.globals.length gc1) (.slice n1 m.nodes.length nc1) (.slice none 0 0)) 66 (0,0))):=Lh (by rw [hW2,hbp];exact heap_alloc_new _ _)
 have HPL:Hid (PlV W2 ⟨m,[],0⟩ (.slice g1 m.globals.length gc1) (.slice n1 m.nodes.length nc1) (.slice none 0 0) cells1 Fg1 Fn1):=Lh ⟨hR1.keep (fun b hb=>hb2.block b (hR1.lt b hb)),World.ownsRow_nil _ _ _ _,fun b _ hb=>by simp [Value.ownBlock] at hb⟩
 have HPG:Hid (∀ b∈plF (.slice n1 m.nodes.length nc1) (.slice none 0 0) Fg1 Fn1,W.heap.size≤b∧b<bp):=Lh (fun b hb=>by
  unfold plF at hb
  rw [List.mem_append] at hb
  rcases hb with hb|hb
  ·exact ⟨hge1 b hb,by rw [hbp];exact hR1.lt b hb⟩
  ·simp [Value.ownBlock] at hb)
 have HBP:Hid (W.heap.size≤bp):=Lh (by rw [hbp];exact hb1.size)
 clear hR1 hge1 hb1 hb2
 unfold plC at hW2
 go_upto_region 2 with fail
 rw [←hW2,← hbp]
 have hWB2:B≤W2.heap.size:=Nat.le_trans hWB HB2.out.size
 clear hW2 hbp
 have i0:=b0.out.keep HB2.out 0 _ rfl
 have i1:=b0.out.keep HB2.out 1 _ rfl
 have i2:=b0.out.keep HB2.out 2 _ rfl
 have c0:=b2.out.keep HB2.out 0 _ rfl
 have c1:=b2.out.keep HB2.out 1 _ rfl
 have zi:=Bl i0
 have zc:=Bl c0
 have hBW2:Hid (Below w.heap.size w W2):=Lh (hWb.out.then HB2.out)
 go_wp2_with fail
 clear i0 i1 i2 c0 c1 zi zc
 have hcall:=Xji c _ x _ fuel B W2 hWB2 (HC.out.below (hBW2.out.mono hB)) (HX.out.below (hBW2.out.mono hB)) hs hsm HGV.out
 rw [←HCFN.out,← HCGN.out,← HCGL.out] at hcall
 refine hcall.mono ?_
 clear hcall
 rintro e w3 ⟨mq,fv,hR,rfl,F1,hv1,hge1,hb3⟩
 obtain ⟨fva,fvc,rfl⟩:=hv1.form
 obtain ⟨fvn,hfvn⟩:∃ n,n=mq.frames.length:=⟨_,rfl⟩
 rw [←hfvn] at hv1 ⊢
 have HR:=Lh hR
 obtain ⟨W4,hW4⟩:∃ V,V=w3.alloc (.cells (Xb (.slice fva fvn fvc) mq) 36):=⟨_,rfl⟩
 obtain ⟨bs0,hbs0⟩:∃ b,b=w3.heap.size:=⟨_,rfl⟩
 have hb4:Below w3.heap.size w3 W4:=by rw [hW4];exact Xa _ _
 have h24:Below W2.heap.size W2 W4:=hb3.then hb4
 have hst0:Hid (RSt (w.heap.size+4) W W4 bs0 bp (Xb (.slice fva fvn fvc) mq) (plC 0 0 0 0 (.slice g1 m.globals.length gc1) (.slice n1 m.nodes.length nc1) (.slice none 0 0)) mq.frames ⟨m,[],0⟩ (.slice fva fvn fvc) (.slice g1 m.globals.length gc1) (.slice n1 m.nodes.length nc1) (.slice none 0 0) cells1 F1 Fg1 Fn1):=Lh (by
  have hs1:=hsz.out
  have hp1:=HBP.out
  have hp2:=(La HBX.out)
  have hp3:=hb3.size
  have hvl:=hv1.lt
  have hpl:=HPL.out.lt
  refine ⟨by rw [hW4,hbs0];exact heap_alloc_new _ _,hv1.keep (fun b hb=>hb4.block b (hvl b hb)),Yk h24 HBX.out,HPL.out.keep (fun b hb=>h24.block b (hpl b hb)),fun b hb hb'=>by have:=hge1 b hb;have:=hpl b hb';omega,fun e=>by have:=hvl _ e;omega,fun e=>by have:=hpl _ e;omega,fun e=>by have:=hge1 _ e;omega,fun e=>by have:=HPG.out _ e;omega,by omega,fun b hb=>by have:=hge1 b hb;omega,fun b hb=>by have:=HPG.out b hb;omega,by omega,by omega,by omega,(HB2.out.then h24).mono (by omega)⟩)
 obtain ⟨hE0,hmu0⟩:Us c mq∧mu mq≤300000000000:=Xch hs HGV.out HR.out
 have HST0:Hid (∃ mc p fva fvn fvc ga gn gc na nn nc la ln lc cells Fm Fg Fn k,RSt (w.heap.size+4) W W4 bs0 bp (Xb (.slice fva fvn fvc) mc) (plC 0 0 k p.nodes (.slice ga gn gc) (.slice na nn nc) (.slice la ln lc)) mc.frames p (.slice fva fvn fvc) (.slice ga gn gc) (.slice na nn nc) (.slice la ln lc) cells Fm Fg Fn∧Kt c mc p∧mu mc<mu mq+1∧∀ o p2,Zx c mc p o p2→Zx c mq ⟨m,[],0⟩ o p2):=Lh ⟨mq,⟨m,[],0⟩,_,_,_,_,_,_,_,_,_,_,_,_,_,_,_,_,0,hst0.out,⟨.inl hE0,HMOK.out,by show 0+mu mq≤_;omega,by show (0:Int)≤0;omega,by show (0:Int)≤0;omega⟩,by omega,fun o p2 h=>h⟩
 clear hR hv1 hge1 hb3 hb4 h24 hfvn hst0 hE0 hmu0
 unfold Xi
 unfold Xb at hW4 ⊢
 go_wp2_with fail
 rw [←hW4,← hbs0]
 clear hW4 hbs0
 go_loopg [10] (mu mq+1) (fun gk s10 wr=>∃ bs:Nat,s10=.pointer (some ⟨bs,0,none⟩)∧Hid (∃ mc p fva fvn fvc ga gn gc na nn nc la ln lc cells Fm Fg Fn k,RSt (w.heap.size+4) W wr bs bp (Xb (.slice fva fvn fvc) mc) (plC 0 0 k p.nodes (.slice ga gn gc) (.slice na nn nc) (.slice la ln lc)) mc.frames p (.slice fva fvn fvc) (.slice ga gn gc) (.slice na nn nc) (.slice la ln lc) cells Fm Fg Fn∧Kt c mc p∧mu mc<gk∧∀ o p2,Zx c mc p o p2→Zx c mq ⟨m,[],0⟩ o p2))
 case atStart=>exact ⟨bs0,rfl,HST0⟩
 case round=>
  obtain ⟨bs,rfl,hst⟩:=hrel
  obtain ⟨mc,p,fva,fvn,fvc,ga1,gn1,gc1,na1,nn1,nc1,la1,ln1,lc1,cells,Fm,Fg,Fn,k,hR0,hok,hmu,hhist⟩:=hst.out
  have HOK:=Lh hok
  have HHIST:=Lh hhist
  have hbel:Below W.heap.size W wr:=by have h:=hR0.bel;rw [←hsz.out] at h;exact h
  obtain ⟨x0,x1,x2,x3,x4,x5,x6,x7⟩:=pl8 hR0.box
  have xf:wr.frozen? ⟨bp,2,none⟩=false:=Fz hR0.box
  have zp:=(La hR0.box)
  obtain ⟨k0,k1,k2,k3,k4,k5,k6,k7,k8⟩:=Xq hR0.mach
  have zs:=(La hR0.mach)
  obtain ⟨W2b,hW2b⟩:∃ u,u=wr.setCell ⟨bp,2,none⟩ (.int .i64 mc.compares):=⟨_,rfl⟩
  have hR2:RSt (w.heap.size+4) W W2b bs bp (Xb (.slice fva fvn fvc) mc) (plC 0 0 mc.compares p.nodes (.slice ga1 gn1 gc1) (.slice na1 nn1 nc1) (.slice la1 ln1 lc1)) mc.frames p (.slice fva fvn fvc) (.slice ga1 gn1 gc1) (.slice na1 nn1 nc1) (.slice la1 ln1 lc1) cells Fm Fg Fn:=hR0.setB (by rw [hW2b];exact Xw) (by rw [hW2b];exact heap_setCell_same _ _ 2 _ _ _ hR0.box)
  go_upto_region 4 with fail
  rw [←hW2b]
  clear hW2b hR0 hbel x0 x1 x2 x3 x4 x5 x6 x7 xf zp k0 k1 k2 k3 k4 k5 k6 k7 k8 zs hok hhist hst
  have hbel:Below W.heap.size W W2b:=by have h:=hR2.bel;rw [←hsz.out] at h;exact h
  have HBEL:=Lh hbel
  have b3r:W2b.heap[w.heap.size+3]?=_:=(hbel.block _ (by have:=hsz.out;omega)).trans b3.out
  have HB3:=Lh b3r
  obtain ⟨x0,x1,x2,x3,x4,x5,x6,x7⟩:=pl8 hR2.box
  have xf0:W2b.frozen? ⟨bp,0,none⟩=false:=Fz hR2.box
  have xf1:W2b.frozen? ⟨bp,1,none⟩=false:=Fz hR2.box
  have zp:=(La hR2.box)
  obtain ⟨k0,k1,k2,k3,k4,k5,k6,k7,k8⟩:=Xq hR2.mach
  have zs:=(La hR2.mach)
  have HR2:=Lh hR2
  have hlog:p.log.length≤1000000000000:=by have:=HOK.out.len;omega
  have hbpA:=HR2.out.g4
  have hRbp:¬w.heap.size+3=bp:=by omega
  clear hR2 hbel b3r
  by_cases hk4:mc.req.kind=4
  ·have e4:(mc.req.kind == 4)=true:=by simpa using hk4
   obtain ⟨W3,hW3⟩:∃ u,u=W2b.setCell ⟨bp,1,none⟩ (.int .i64 mc.req.value):=⟨_,rfl⟩
   have hm3:Xp [bp] [bp] W2b W3:=by rw [hW3];exact Xw
   have hR3:RSt (w.heap.size+4) W W3 bs bp (Xb (.slice fva fvn fvc) mc) (plC 0 mc.req.value mc.compares p.nodes (.slice ga1 gn1 gc1) (.slice na1 nn1 nc1) (.slice la1 ln1 lc1)) mc.frames p (.slice fva fvn fvc) (.slice ga1 gn1 gc1) (.slice na1 nn1 nc1) (.slice la1 ln1 lc1) cells Fm Fg Fn:=HR2.out.setB hm3 (by rw [hW3];exact heap_setCell_same _ _ 1 _ _ _ HR2.out.box)
   have b33:W3.heap[w.heap.size+3]?=some (.cells (plC 0 0 0 0 (.slice none 0 0) (.slice none 0 0) (.slice none 0 0)) 66 (0,0)):=(hm3.block _ (La HB3.out) (by simp;omega)).trans HB3.out
   have hend:=played_end (o:=⟨0,mc.req.value,mc.compares,p.nodes⟩) hs hR3 HR.out (HHIST.out _ _ (.done hk4)) HOK.out.mem hlog (R:=w.heap.size+3) (by omega) (by omega) hWb.out (by omega) b33
   have HEND:=Lh hend
   obtain ⟨xx0,xx1,xx2,xx3,xx4,xx5,xx6,xx7⟩:=pl8 hR3.box
   have zx3:=(La hR3.box)
   obtain ⟨y0,y1,y2,y3,y4,y5,y6,y7⟩:=pl8 b33
   obtain ⟨q0,q1,q2,q3,q4,q5,q6,q7,q8⟩:=Xu b33
   have zy:=(La b33)
   go_upto_region 6 with fail
   rw [←hW3]
   clear hW3 hm3 hR3 b33 hend
   go_wp2_with fail
   exact bodyPost_ret (v:=plV 0 mc.req.value mc.compares p.nodes (.slice ga1 gn1 gc1) (.slice na1 nn1 nc1) (.slice la1 ln1 lc1)) (results_pl1 (p:=8) rfl HEND.out.1 _ rfl) rfl HEND.out.2
  have e4:(mc.req.kind == 4)=false:=by simpa using hk4
  by_cases hk5:mc.req.kind=5
  ·have e5:(mc.req.kind == 5)=true:=by simpa using hk5
   obtain ⟨W3,hW3⟩:∃ u,u=W2b.setCell ⟨bp,0,none⟩ (.int .i64 mc.req.fault):=⟨_,rfl⟩
   have hm3:Xp [bp] [bp] W2b W3:=by rw [hW3];exact Xw
   have hR3:RSt (w.heap.size+4) W W3 bs bp (Xb (.slice fva fvn fvc) mc) (plC mc.req.fault 0 mc.compares p.nodes (.slice ga1 gn1 gc1) (.slice na1 nn1 nc1) (.slice la1 ln1 lc1)) mc.frames p (.slice fva fvn fvc) (.slice ga1 gn1 gc1) (.slice na1 nn1 nc1) (.slice la1 ln1 lc1) cells Fm Fg Fn:=HR2.out.setB hm3 (by rw [hW3];exact heap_setCell_same _ _ 0 _ _ _ HR2.out.box)
   have b33:W3.heap[w.heap.size+3]?=some (.cells (plC 0 0 0 0 (.slice none 0 0) (.slice none 0 0) (.slice none 0 0)) 66 (0,0)):=(hm3.block _ (La HB3.out) (by simp;omega)).trans HB3.out
   have hend:=played_end (o:=⟨mc.req.fault,0,mc.compares,p.nodes⟩) hs hR3 HR.out (HHIST.out _ _ (.fail hk5)) HOK.out.mem hlog (R:=w.heap.size+3) (by omega) (by omega) hWb.out (by omega) b33
   have HEND:=Lh hend
   obtain ⟨xx0,xx1,xx2,xx3,xx4,xx5,xx6,xx7⟩:=pl8 hR3.box
   have zx3:=(La hR3.box)
   obtain ⟨y0,y1,y2,y3,y4,y5,y6,y7⟩:=pl8 b33
   obtain ⟨q0,q1,q2,q3,q4,q5,q6,q7,q8⟩:=Xu b33
   have zy:=(La b33)
   go_upto_region 9 with fail
   rw [←hW3]
   clear hW3 hm3 hR3 b33 hend
   go_wp2_with fail
   exact bodyPost_ret (v:=plV mc.req.fault 0 mc.compares p.nodes (.slice ga1 gn1 gc1) (.slice na1 nn1 nc1) (.slice la1 ln1 lc1)) (results_pl1 (p:=8) rfl HEND.out.1 _ rfl) rfl HEND.out.2
  have e5:(mc.req.kind == 5)=false:=by simpa using hk5
  obtain ⟨hE,fsw,fw,hwt⟩:=HOK.out.waits hk4 hk5
  have HE:=Lh hE
  have HWT:=Lh hwt
  have HREQ:=Lh (hwt.req hs)
  have HGF:=Lh (hwt.gfield hs)
  have HK4:=Lh hk4
  have HK5:=Lh hk5
  clear hE hwt hk4 hk5
  have i0:=b0.out.keep HBEL.out 0 _ rfl
  have i1:=b0.out.keep HBEL.out 1 _ rfl
  have i2:=b0.out.keep HBEL.out 2 _ rfl
  have zi:=Bl i0
  have hBW:Hid (Below w.heap.size w W2b):=Lh (hWb.out.then HBEL.out)
  have hBle:B≤W2b.heap.size:=Nat.le_trans hB hBW.out.size
  have hBA:B≤w.heap.size+4:=by omega
  go_wp2_with fail
  have hcall:=HQ.out c p mc.req 0 0 mc.compares fa ga fc gc B _ _ _ cells Fg Fn W2b hs HREQ.out HR2.out.pl HOK.out.mem hlog ⟨HOK.out.nodes.1,by have:=HOK.out.nodes.2;omega⟩ hBle (HC.out.below (hBW.out.mono hB)) (fun b hb=>Nat.le_trans hBA (HR2.out.g2 b hb)) HGF.out
  rw [←HCFN.out,← HCGN.out,← HCGL.out] at hcall
  refine hcall.mono ?_
  clear hcall i0 i1 i2 zi x0 x1 x2 x3 x4 x5 x6 x7 xf0 xf1 zp k0 k1 k2 k3 k4 k5 k6 k7 k8 zs e4 e5
  rintro e w5 (⟨hask,rfl,hb5⟩|⟨p',n,gv',nv',lv',cells',Fg',Fn',hask,rfl,hP5,hM5⟩)
  ·have HASK:=Lh hask
   obtain ⟨A5,hA5⟩:∃ V,V=w5.alloc (.cells (plC 0 0 mc.compares p.nodes (.slice ga1 gn1 gc1) (.slice na1 nn1 nc1) (.slice la1 ln1 lc1)) 66):=⟨_,rfl⟩
   have hb25:Below W2b.heap.size W2b A5:=hb5.then (by rw [hA5];exact Xa _ _)
   have hR5:=HR2.out.keep hb25
   have HB35:Hid (A5.heap[w.heap.size+3]?=some (.cells (plC 0 0 0 0 (.slice none 0 0) (.slice none 0 0) (.slice none 0 0)) 66 (0,0))):=Lh (Yk hb25 HB3.out)
   have HR5:=Lh hR5
   have x0:=pl_cells hR5.box 0 (.int .i64 0) rfl
   have xf0:A5.frozen? ⟨bp,0,none⟩=false:=Fz hR5.box
   have zp:=Bl x0
   unfold plV
   unfold plC at hA5 ⊢
   clear hb5 hb25 hask hR5
   go_upto_region 11 with fail
   rw [←hA5]
   clear hA5
   obtain ⟨W3,hW3⟩:∃ u,u=A5.setCell ⟨bp,0,none⟩ (.int .i64 11):=⟨_,rfl⟩
   have hm3:Xp [bp] [bp] A5 W3:=by rw [hW3];exact Xw
   have hR3:RSt (w.heap.size+4) W W3 bs bp (Xb (.slice fva fvn fvc) mc) (plC 11 0 mc.compares p.nodes (.slice ga1 gn1 gc1) (.slice na1 nn1 nc1) (.slice la1 ln1 lc1)) mc.frames p (.slice fva fvn fvc) (.slice ga1 gn1 gc1) (.slice na1 nn1 nc1) (.slice la1 ln1 lc1) cells Fm Fg Fn:=HR5.out.setB hm3 (by rw [hW3];exact heap_setCell_same _ _ 0 _ _ _ HR5.out.box)
   have b33:W3.heap[w.heap.size+3]?=some (.cells (plC 0 0 0 0 (.slice none 0 0) (.slice none 0 0) (.slice none 0 0)) 66 (0,0)):=(hm3.block _ (La HB35.out) (by simp;omega)).trans HB35.out
   have hend:=played_end (o:=⟨11,0,mc.compares,p.nodes⟩) hs hR3 HR.out (HHIST.out _ _ (.type HK4.out HK5.out HASK.out)) HOK.out.mem hlog (R:=w.heap.size+3) (by omega) (by omega) hWb.out (by omega) b33
   have HEND:=Lh hend
   obtain ⟨xx0,xx1,xx2,xx3,xx4,xx5,xx6,xx7⟩:=pl8 hR3.box
   have zx3:=(La hR3.box)
   obtain ⟨y0,y1,y2,y3,y4,y5,y6,y7⟩:=pl8 b33
   obtain ⟨q0,q1,q2,q3,q4,q5,q6,q7,q8⟩:=Xu b33
   have zy:=(La b33)
   go_upto_region 13 with fail
   rw [←hW3]
   clear hW3 hm3 hR3 b33 hend
   go_wp2_with fail
   exact bodyPost_ret (v:=plV 11 0 mc.compares p.nodes (.slice ga1 gn1 gc1) (.slice na1 nn1 nc1) (.slice la1 ln1 lc1)) (results_pl1 (p:=8) rfl HEND.out.1 _ rfl) rfl HEND.out.2
  obtain ⟨ga2,gc2,rfl⟩:=(Zs hP5.mem.glob.1).2.2
  obtain ⟨na2,nc2,rfl⟩:=(Zs hP5.mem.row).2.2
  obtain ⟨la2,lc2,rfl⟩:=(Zs hP5.log).2.2
  obtain ⟨gn2,hgn2⟩:∃ q,q=p'.mem.globals.length:=⟨_,rfl⟩
  obtain ⟨nn2,hnn2⟩:∃ q,q=p'.mem.nodes.length:=⟨_,rfl⟩
  obtain ⟨ln2,hln2⟩:∃ q,q=p'.log.length:=⟨_,rfl⟩
  rw [←hgn2,← hnn2,← hln2] at hP5 ⊢
  rw [←hnn2,← hln2] at hM5
  have HASK:=Lh hask
  obtain ⟨A5,hA5⟩:∃ V,V=w5.alloc (.cells (plC 0 0 mc.compares p'.nodes (.slice ga2 gn2 gc2) (.slice na2 nn2 nc2) (.slice la2 ln2 lc2)) 66):=⟨_,rfl⟩
  have hA5b:Below w5.heap.size w5 A5:=by rw [hA5];exact Xa _ _
  have hR5:=(HR2.out.ans hP5 hM5).keep hA5b
  obtain ⟨b11,hb11⟩:∃ b,b=w5.heap.size:=⟨_,rfl⟩
  have hbx11:A5.heap[b11]?=some (.cells (plC 0 0 mc.compares p'.nodes (.slice ga2 gn2 gc2) (.slice na2 nn2 nc2) (.slice la2 ln2 lc2)) 66 (0,0)):=by rw [hA5,hb11];exact heap_alloc_new _ _
  have hne11:¬b11=bp:=by have:=(Array.getElem?_eq_some_iff.1 ((HR2.out.ans hP5 hM5).box)).1;omega
  obtain ⟨p1,p2⟩:=plPut_facts hR5.box 0 0 mc.compares p'.nodes (.slice ga2 gn2 gc2) (.slice na2 nn2 nc2) (.slice la2 ln2 lc2)
  have hR6:=hR5.setB p2 p1
  obtain ⟨x0,x1,x2,x3,x4,x5,x6,x7⟩:=pl8 hbx11
  have zx:=(La hbx11)
  obtain ⟨y0,y1,y2,y3,y4,y5,y6,y7⟩:=pl8 hR5.box
  obtain ⟨q0,q1,q2,q3,q4,q5,q6,q7,q8⟩:=Xu hR5.box
  have zp:=(La hR5.box)
  obtain ⟨W6,hW6⟩:∃ V,V=plPut A5 bp 0 0 mc.compares p'.nodes (.slice ga2 gn2 gc2) (.slice na2 nn2 nc2) (.slice la2 ln2 lc2):=⟨_,rfl⟩
  rw [←hW6] at hR6
  have HR6:=Lh hR6
  unfold plV
  unfold plC at hA5 ⊢
  unfold plPut at hW6
  clear hask hP5 hM5 hA5b hR5 hbx11 p1 p2 hR6 hgn2 hnn2 hln2
  go_upto_region 11 with fail
  rw [←hA5,← hb11]
  clear hA5 hb11
  go_upto_region 15 with fail
  rw [←hW6]
  clear hW6 x0 x1 x2 x3 x4 x5 x6 x7 zx y0 y1 y2 y3 y4 y5 y6 y7 q0 q1 q2 q3 q4 q5 q6 q7 q8 zp
  have hbel6:Below W.heap.size W W6:=by have h:=HR6.out.bel;rw [←hsz.out] at h;exact h
  have hBW6:Hid (Below w.heap.size w W6):=Lh (hWb.out.then hbel6)
  have i0:=b0.out.keep hbel6 0 _ rfl
  have i1:=b0.out.keep hbel6 1 _ rfl
  have i2:=b0.out.keep hbel6 2 _ rfl
  have zi:=Bl i0
  obtain ⟨k0,k1,k2,k3,k4,k5,k6,k7,k8⟩:=Xq HR6.out.mach
  have zs:=(La HR6.out.mach)
  have hBle6:B≤W6.heap.size:=Nat.le_trans hB hBW6.out.size
  clear hbel6
  go_wp2_with fail
  have hvw:=HR6.out.own
  have hcall:=Xl6 hs hsm fa ga cfn fc gc cgl n HWT.out HE.out.1 B hBle6 (HG.out.funs (hBW6.out.mono hB)) hvw (fun b hb=>Nat.le_trans hBA (HR6.out.g1 b hb)) (Ji HOK.out.mem HREQ.out HASK.out)
  rw [←HCGN.out] at hcall
  refine hcall.mono ?_
  clear hcall hvw i0 i1 i2 zi k0 k1 k2 k3 k4 k5 k6 k7 k8 zs
  rintro e w7 ⟨m2,hN2,fv2,F2,rfl,hO2,hM2⟩
  obtain ⟨a7,c7,rfl⟩:=hO2.form
  have hstp:=HOK.out.step hs HK4.out HK5.out HASK.out hN2
  have hR7:=HR6.out.next hO2 hM2
  obtain ⟨n7,hn7⟩:∃ q,q=m2.frames.length:=⟨_,rfl⟩
  rw [←hn7] at hR7 ⊢
  obtain ⟨r1,r2⟩:=Xz hR7.mach (.slice a7 n7 c7) m2
  have hR8:=hR7.setM r2 r1
  obtain ⟨k0,k1,k2,k3,k4,k5,k6,k7,k8⟩:=Xq hR7.mach
  obtain ⟨q0,q1,q2,q3,q4,q5,q6,q7,q8⟩:=Xu hR7.mach
  have zs:=(La hR7.mach)
  obtain ⟨W8,hW8⟩:∃ V,V=Yp w7 bs (.slice a7 n7 c7) m2:=⟨_,rfl⟩
  rw [←hW8] at hR8
  have HR8:=Lh hR8
  have HN2:=Lh hN2
  have HSTP:=Lh hstp
  unfold Xi Xb
  unfold Yp at hW8
  clear hN2 hO2 hM2 hstp hR7 r1 r2 hR8 hn7
  go_upto_region 16 with fail
  rw [←hW8]
  clear hW8 k0 k1 k2 k3 k4 k5 k6 k7 k8 q0 q1 q2 q3 q4 q5 q6 q7 q8 zs
  obtain ⟨k0,k1,k2,k3,k4,k5,k6,k7,k8⟩:=Xq HR8.out.mach
  have zs:=(La HR8.out.mach)
  obtain ⟨W9,hW9⟩:∃ V,V=W8.alloc (.cells (Xb (.slice a7 n7 c7) m2) 36):=⟨_,rfl⟩
  obtain ⟨bs9,hbs9⟩:∃ b,b=W8.heap.size:=⟨_,rfl⟩
  have hR9:=HR8.out.newM (Xb (.slice a7 n7 c7) m2)
  rw [←hW9,← hbs9] at hR9
  have HR9:Hid (∃ mc p fva fvn fvc ga gn gc na nn nc la ln lc cells Fm Fg Fn k,RSt (w.heap.size+4) W W9 bs9 bp (Xb (.slice fva fvn fvc) mc) (plC 0 0 k p.nodes (.slice ga gn gc) (.slice na nn nc) (.slice la ln lc)) mc.frames p (.slice fva fvn fvc) (.slice ga gn gc) (.slice na nn nc) (.slice la ln lc) cells Fm Fg Fn∧Kt c mc p∧mu mc<gk - 1∧∀ o p2,Zx c mc p o p2→Zx c mq ⟨m,[],0⟩ o p2):=Lh ⟨m2,p',_,_,_,_,_,_,_,_,_,_,_,_,_,_,_,_,mc.compares,hR9,HSTP.out.1,by have:=HSTP.out.2;omega,fun o p2 h=>HHIST.out _ _ (.step HK4.out HK5.out HASK.out HN2.out h)⟩
  unfold Xb at hW9
  clear hR9
  go_wp2_with fail
  rw [←hW9,← hbs9]
  clear hW9
  go_roundg (gk - 1)
  case measure=>omega
  case rel=>exact ⟨bs9,rfl,HR9⟩
theorem rrun_all (hq:RAnsAny):RRunAny:=fun _ m x fuel cv mv xv B w hs hsm hB hc hm hx hft hgv=>rRun_any hq hs hsm m x fuel cv mv xv B w hB hc hm hx hft hgv
end Go.Proofs.YtbmeoklmachjpaaGreatDoor
