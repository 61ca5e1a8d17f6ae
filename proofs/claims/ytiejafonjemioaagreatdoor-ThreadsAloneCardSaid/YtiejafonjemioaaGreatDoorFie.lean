import Derived.Test.YtiejafonjemioaaGreatDoorInv
set_option maxHeartbeats 4000000
set_option maxRecDepth 100000
set_option linter.unusedVariables false
set_option linter.unusedSimpArgs false
namespace Go.Proofs.YtiejafonjemioaaGreatDoor
open Go.RowKit
variable {c:Cod} {s s':Thr} {t bt:Nat} {w:World} {v:Value}
theorem Xs8.stepOk (h:Xs8 c s) (h6:s.step<65536) (hc:Xsl s t=0):∃ m n l r b e,Xzl c s t m n l r b e:=by
 unfold Xsl at hc
 rw [if_neg (by omega)] at hc
 split at hc
 ·cases hc
 ·rename_i hlt
  rw [Int.toNat_natCast] at hc
  split at hc
  ·rename_i hen
   obtain ⟨m,n,l,r,b,e,aA⟩:=h.at_ (t:=t) (by omega)
   have hI:=h.all t _ _ _ _ _ _ aA
   have ho:=hI.ops
   have hb:=hI.begins
   have he:=hI.ends
   have h1:(if m.frames=[] then 0 else 1)≤1:=by split<;>omega
   refine ⟨m,n,l,r,b,e,⟨aA.m,aA.n,aA.l,aA.r,aA.b,aA.e,by omega,by omega,by omega,by have:=hI.cnt;omega,⟨h.step,by omega⟩,?_⟩⟩
   by_cases hf:m.frames=[]
   ·refine .inl ⟨hf,?_⟩
    unfold enB at hen
    rw [aA.m,aA.l] at hen
    simp only [hf,List.length_nil,Nat.lt_irrefl,decide_false,Bool.false_or,decide_eq_true_eq] at hen
    cases l with
    | nil=>simp at hen
    | cons x l'=>exact ⟨x,l',rfl,Xuz h.fuel (hI.right x (by simp))⟩
   ·refine .inr ⟨hf,?_⟩
    rcases hI.mach with ⟨h0,_⟩|h0
    ·exact absurd (by rw [h0];rfl) hf
    ·exact ⟨h0.valid h.sound,h0.asks⟩
  ·cases hc
theorem V2.look {c:Clr} (h:V2 w c bt s):∃ ga gc ma mc ra rc na nc ca cc oa oc ba bc ea ec,w.heap[bt]?=some (.cells #[.slice ga s.mem.globals.length gc,.slice ma s.mem.nodes.length mc,.int .i64 s.fuel,.slice ra s.running.length rc,.slice na s.nodes.length nc,.slice ca s.calls.length cc,.slice oa s.results.length oc,.slice ba s.begins.length bc,.slice ea s.ends.length ec,.int .i64 s.step] 34 (0,0))∧Xsd w.heap.size w (.agg #[.slice ga s.mem.globals.length gc,.slice ma s.mem.nodes.length mc,.int .i64 s.fuel,.slice ra s.running.length rc,.slice na s.nodes.length nc,.slice ca s.calls.length cc,.slice oa s.results.length oc,.slice ba s.begins.length bc,.slice ea s.ends.length ec,.int .i64 s.step]) s∧∀ R,c R=14→Xsd (Xr6 w R (.slice ga s.mem.globals.length gc) (.slice ma s.mem.nodes.length mc) (.int .i64 s.fuel) (.slice ra s.running.length rc) (.slice na s.nodes.length nc) (.slice ca s.calls.length cc) (.slice oa s.results.length oc) (.slice ba s.begins.length bc) (.slice ea s.ends.length ec) (.int .i64 s.step)).heap.size (Xr6 w R (.slice ga s.mem.globals.length gc) (.slice ma s.mem.nodes.length mc) (.int .i64 s.fuel) (.slice ra s.running.length rc) (.slice na s.nodes.length nc) (.slice ca s.calls.length cc) (.slice oa s.results.length oc) (.slice ba s.begins.length bc) (.slice ea s.ends.length ec) (.int .i64 s.step)) (.agg #[.slice ga s.mem.globals.length gc,.slice ma s.mem.nodes.length mc,.int .i64 s.fuel,.slice ra s.running.length rc,.slice na s.nodes.length nc,.slice ca s.calls.length cc,.slice oa s.results.length oc,.slice ba s.begins.length bc,.slice ea s.ends.length ec,.int .i64 s.step]) s:=by
 obtain ⟨V,hK,hB⟩:=h
 obtain ⟨ga,gc,ma,mc,ra,rc,na,nc,ca,cc,oa,oc,ba,bc,ea,ec,e⟩:=hK.opened
 refine ⟨ga,gc,ma,mc,ra,rc,na,nc,ca,cc,oa,oc,ba,bc,ea,ec,by rw [←e];exact hB.row,by rw [←e];exact hK.reads,fun R hR=>?_⟩
 have hS:=Xs2 (T:=fun t=>t=14) (c:=c) (W:=w) (R:=R) (v0:=.slice ga s.mem.globals.length gc) (v1:=.slice ma s.mem.nodes.length mc) (v2:=.int .i64 s.fuel) (v3:=.slice ra s.running.length rc) (v4:=.slice na s.nodes.length nc) (v5:=.slice ca s.calls.length cc) (v6:=.slice oa s.results.length oc) (v7:=.slice ba s.begins.length bc) (v8:=.slice ea s.ends.length ec) (v9:=.int .i64 s.step) hR (by omega)
 have K:=hK.k14 hS (fun b hb=>hK.hi b (by rw [Xtg] at hb;exact hb))
 rw [←e]
 exact K.reads
inductive Xt8 (c:Cod) (s:Thr):List Int→Thr→Prop
 | nil:Xt8 c s [] s
 | snoc {l s1 s2} {t:Int}:Xt8 c s l s1→Xsl s1 t=0→s1.step<65536→Xsq c s1 t.toNat s2→Xt8 c s (l++[t]) s2
theorem Xt8.inv {l:List Int} (h:Xt8 c s l s') (hi:Xs8 c s):Xs8 c s':=by
 induction h with
 | nil=>exact hi
 | snoc _ _ _ hR ih=>exact ih.stepR hR
structure X3k (cd:Cod) (s:Thr) (W:World) (c0:Clr) (bt k:Nat) (sch:List Int) (wr:World) (c:Clr) (sk:Thr):Prop where
 st:V2 wr c bt sk
 chg:Chg NZ c0 c W wr
 path:Xt8 cd s (sch.take k) sk
def Xro (cd:Cod) (s:Thr) (sch:List Int) (w:World) (e:Ending) (w':World):Prop:=Below w.heap.size w w'∧((¬Xse cd s∧e=.returned (.tuple #[.agg #[.slice none 0 0,.slice none 0 0,.int .i64 0,.slice none 0 0,.slice none 0 0,.slice none 0 0,.slice none 0 0,.slice none 0 0,.slice none 0 0,.int .i64 0],.int .i64 0,.int .i64 1]))∨(Xse cd s∧65536<sch.length∧e=.returned (.tuple #[.agg #[.slice none 0 0,.slice none 0 0,.int .i64 0,.slice none 0 0,.slice none 0 0,.slice none 0 0,.slice none 0 0,.slice none 0 0,.slice none 0 0,.int .i64 0],.int .i64 0,.int .i64 4]))∨
 (Xse cd s∧sch.length≤65536∧∃ (i:Nat) (s':Thr) (v:Value),Xt8 cd s (sch.take i) s'∧(i=sch.length∨∃ t,sch[i]?=some t∧(Xsl s' t≠0∨65536≤s'.step))∧e=.returned (.tuple #[v,.int .i64 i,.int .i64 0])∧Xsd w'.heap.size w' v s'))
theorem Xs4 {fn:Func} {p u q:Tmp} (hf:fn.results=#[.cell p 34,.tmp u,.tmp q]) {W:World} {R:Nat} {x0 x1 x2 x3 x4 x5 x6 x7 x8 x9 v2:Value} (h:W.heap[R]?=some (.cells #[x0,x1,x2,x3,x4,x5,x6,x7,x8,x9] 34 (0,0))) (tmps:Array Value) (h1:tmps.getD p undef=.pointer (some ⟨R,0,none⟩)) (h2:tmps.getD u undef=v) (h3:tmps.getD q undef=v2) :
  (results fn tmps).run Tryz.prog W=.ok (.tuple #[.agg #[x0,x1,x2,x3,x4,x5,x6,x7,x8,x9],v,v2]) W:=by
 simp only [results,hf]
 rw [Array.getD_eq_getD_getElem?] at h1 h2 h3
 simp [h1,h2,h3,asAddr,Xwv h,Result.andThen,Sem.run_bind]
theorem Xyi (cd:Cod) (cv sv lv:Value) (s:Thr) (sch:List Int) (w:World) (hL:Qa w) (hsm:Zb cd) (hc:Yj w.heap.size w cv cd) (hs:Xsd w.heap.size w sv s) (hl:Xf w.heap.size w 1 Zd lv sch) (hinv:Xse cd s→Xs8 cd s) :
  Calls Tryz.prog 34 #[cv,sv,lv] w (Xro cd s sch w):=by
 obtain ⟨fv,gv,rfl,hf,hg,cO⟩:=id hc
 obtain ⟨fa,fc,rfl⟩:=hf.form
 obtain ⟨qa,qc,rfl⟩:=hg.form
 have dT:sch.length≤140737488355328:=by
  obtain ⟨_,_,_,h,_⟩:=hl
  exact h
 obtain ⟨la,lc,rfl⟩:=hl.form
 obtain ⟨ga,gc,ma,mc,ra,rc,na,nc,ca,cc,oa,oc,ba,bc,ea,ec,rfl⟩:=hs.open_
 have HC:=Lh hc
 have HS:=Lh hs
 have HL:=Lh hL
 have dF:=Lh hl
 have dC:=Lh hinv
 obtain ⟨W,hW⟩:∃ W,W=((w.alloc (.cells #[.slice fa cd.fields.length fc,.int .i64 cd.globals,.slice qa cd.funcs.length qc] 25)).alloc (.cells #[.slice ga s.mem.globals.length gc,.slice ma s.mem.nodes.length mc,.int .i64 s.fuel,.slice ra s.running.length rc,.slice na s.nodes.length nc,.slice ca s.calls.length cc,.slice oa s.results.length oc,.slice ba s.begins.length bc,.slice ea s.ends.length ec,.int .i64 s.step] 34)).alloc (.cells #[.slice none 0 0,.slice none 0 0,.int .i64 0,.slice none 0 0,.slice none 0 0,.slice none 0 0,.slice none 0 0,.slice none 0 0,.slice none 0 0,.int .i64 0] 34):=⟨_,rfl⟩
 have cW:Hid (Below w.heap.size w W):=by rw [hW];exact Lh (((Xa _ _).then (Xa _ _)).then (Xa _ _))
 have bZ:Hid (W.heap.size=w.heap.size+3):=by rw [hW];exact Lh (by simp)
 have R0:Hid (W.heap[w.heap.size]?=some (.cells #[.slice fa cd.fields.length fc,.int .i64 cd.globals,.slice qa cd.funcs.length qc] 25 (0,0))):=Lh (by
  rw [hW,Ha _ _ _ (by simp;omega),Ha _ _ _ (by simp)]
  exact Hn _ _)
 have R1:Hid (W.heap[w.heap.size+1]?=some (.cells #[.slice ga s.mem.globals.length gc,.slice ma s.mem.nodes.length mc,.int .i64 s.fuel,.slice ra s.running.length rc,.slice na s.nodes.length nc,.slice ca s.calls.length cc,.slice oa s.results.length oc,.slice ba s.begins.length bc,.slice ea s.ends.length ec,.int .i64 s.step] 34 (0,0))):=Lh (by
  rw [hW,Ha _ _ _ (by simp)]
  have:=Hn (w.alloc (.cells #[.slice fa cd.fields.length fc,.int .i64 cd.globals,.slice qa cd.funcs.length qc] 25)) (.cells #[.slice ga s.mem.globals.length gc,.slice ma s.mem.nodes.length mc,.int .i64 s.fuel,.slice ra s.running.length rc,.slice na s.nodes.length nc,.slice ca s.calls.length cc,.slice oa s.results.length oc,.slice ba s.begins.length bc,.slice ea s.ends.length ec,.int .i64 s.step] 34)
  rw [show (w.alloc (.cells #[.slice fa cd.fields.length fc,.int .i64 cd.globals,.slice qa cd.funcs.length qc] 25)).heap.size=w.heap.size+1 by simp] at this
  exact this)
 have R2:Hid (W.heap[w.heap.size+1+1]?=some (.cells #[.slice none 0 0,.slice none 0 0,.int .i64 0,.slice none 0 0,.slice none 0 0,.slice none 0 0,.slice none 0 0,.slice none 0 0,.slice none 0 0,.int .i64 0] 34 (0,0))):=Lh (by
  rw [hW]
  have:=Hn ((w.alloc (.cells #[.slice fa cd.fields.length fc,.int .i64 cd.globals,.slice qa cd.funcs.length qc] 25)).alloc (.cells #[.slice ga s.mem.globals.length gc,.slice ma s.mem.nodes.length mc,.int .i64 s.fuel,.slice ra s.running.length rc,.slice na s.nodes.length nc,.slice ca s.calls.length cc,.slice oa s.results.length oc,.slice ba s.begins.length bc,.slice ea s.ends.length ec,.int .i64 s.step] 34)) (.cells #[.slice none 0 0,.slice none 0 0,.int .i64 0,.slice none 0 0,.slice none 0 0,.slice none 0 0,.slice none 0 0,.slice none 0 0,.slice none 0 0,.int .i64 0] 34)
  rw [show ((w.alloc (.cells #[.slice fa cd.fields.length fc,.int .i64 cd.globals,.slice qa cd.funcs.length qc] 25)).alloc (.cells #[.slice ga s.mem.globals.length gc,.slice ma s.mem.nodes.length mc,.int .i64 s.fuel,.slice ra s.running.length rc,.slice na s.nodes.length nc,.slice ca s.calls.length cc,.slice oa s.results.length oc,.slice ba s.begins.length bc,.slice ea s.ends.length ec,.int .i64 s.step] 34)).heap.size=w.heap.size+1+1 by simp] at this
  exact this)
 have HK:Hid (∀ V,Below W.heap.size W V→(V.cell? ⟨w.heap.size,0,none⟩=some (.slice fa cd.fields.length fc)∧V.cell? ⟨w.heap.size,1,none⟩=some (.int .i64 cd.globals)∧V.cell? ⟨w.heap.size,2,none⟩=some (.slice qa cd.funcs.length qc))∧w.heap.size<V.heap.size∧V.heap[w.heap.size+1]?=some (.cells #[.slice ga s.mem.globals.length gc,.slice ma s.mem.nodes.length mc,.int .i64 s.fuel,.slice ra s.running.length rc,.slice na s.nodes.length nc,.slice ca s.calls.length cc,.slice oa s.results.length oc,.slice ba s.begins.length bc,.slice ea s.ends.length ec,.int .i64 s.step] 34 (0,0))∧V.heap[w.heap.size+1+1]?=some (.cells #[.slice none 0 0,.slice none 0 0,.int .i64 0,.slice none 0 0,.slice none 0 0,.slice none 0 0,.slice none 0 0,.slice none 0 0,.slice none 0 0,.int .i64 0] 34 (0,0))):=Lh (fun V hV=>by
  have h:=bZ.out
  have h0:=(hV.block w.heap.size (by omega)).trans R0.out
  exact ⟨⟨Cr h0 rfl,Cr h0 rfl,Cr h0 rfl⟩,(La h0),(hV.block _ (by omega)).trans R1.out,(hV.block _ (by omega)).trans R2.out⟩)
 have HT:Hid (∀ V,Below W.heap.size W V→Qa V∧Yj w.heap.size V (.agg #[.slice fa cd.fields.length fc,.int .i64 cd.globals,.slice qa cd.funcs.length qc]) cd∧Xsd w.heap.size V (.agg #[.slice ga s.mem.globals.length gc,.slice ma s.mem.nodes.length mc,.int .i64 s.fuel,.slice ra s.running.length rc,.slice na s.nodes.length nc,.slice ca s.calls.length cc,.slice oa s.results.length oc,.slice ba s.begins.length bc,.slice ea s.ends.length ec,.int .i64 s.step]) s∧Below w.heap.size w V):=Lh (fun V hV=>by
  have hb:=cW.out.then hV
  exact ⟨hL.below hb,hc.below hb,hs.below hb,hb⟩)
 have HZ:Hid (∀ V,Below W.heap.size W V→w.heap.size≤V.heap.size):=Lh (fun V hV=>(cW.out.then hV).size)
 clear hf hg cO hL hs hc hl hinv
 obtain ⟨⟨c0,c1,c2⟩,zc,bC,-⟩:=HK.out W Br
 obtain ⟨⟨x0,x1,x2,x3,x4,x5,x6,x7,x8,x9⟩,-,xz⟩:=ten bC
 clear bC
 go_enter Tryz.func34,Tryz.ntmps34
 go_upto_region 1 with fail
 rw [←hW]
 have HW:=Lh hW
 clear hW
 go_wp2_with fail
 refine (Xt3 cd _ s _ w.heap.size W (HT.out W Br).1 (HZ.out W Br) hsm (HT.out W Br).2.1 (HT.out W Br).2.2.1).mono ?_
 rintro e w1 ⟨rfl,cX⟩
 have aF:=Lh cX
 clear c0 c1 c2 zc x0 x1 x2 x3 x4 x5 x6 x7 x8 x9 xz cX
 by_cases hv:Xse cd s
 ·rw [Kh hv]
  have HV:=Lh hv
  clear hv
  obtain ⟨-,-,bC,aQ⟩:=HK.out w1 aF.out
  by_cases cT:65536<sch.length
  ·obtain ⟨⟨y0,y1,y2,y3,y4,y5,y6,y7,y8,y9⟩,⟨z0,z1,z2,z3,z4,z5,z6,z7,z8,z9⟩,zz⟩:=ten aQ
   have cK:=Lh aQ
   have aB:Hid (Xro cd s sch w (.returned (.tuple #[.agg #[.slice none 0 0,.slice none 0 0,.int .i64 0,.slice none 0 0,.slice none 0 0,.slice none 0 0,.slice none 0 0,.slice none 0 0,.slice none 0 0,.int .i64 0],.int .i64 0,.int .i64 4])) (Xr6 w1 (w.heap.size+1+1) (.slice none 0 0) (.slice none 0 0) (.int .i64 0) (.slice none 0 0) (.slice none 0 0) (.slice none 0 0) (.slice none 0 0) (.slice none 0 0) (.slice none 0 0) (.int .i64 0))):=Lh ⟨V0 (HT.out w1 aF.out).2.2.2 (by omega) (HZ.out w1 aF.out) (.slice none 0 0) (.slice none 0 0) (.int .i64 0) (.slice none 0 0) (.slice none 0 0) (.slice none 0 0) (.slice none 0 0) (.slice none 0 0) (.slice none 0 0) (.int .i64 0),.inr (.inl ⟨HV.out,cT,rfl⟩)⟩
   clear bC aQ
   go_wp2_with fail
   exact bodyPost_ret (Xs4 (p:=6) (u:=7) (q:=8) rfl (V4 cK.out (.slice none 0 0) (.slice none 0 0) (.int .i64 0) (.slice none 0 0) (.slice none 0 0) (.slice none 0 0) (.slice none 0 0) (.slice none 0 0) (.slice none 0 0) (.int .i64 0)) _ rfl rfl rfl) rfl aB.out
  ·have bN:=Lh cT
   obtain ⟨⟨x0,x1,x2,x3,x4,x5,x6,x7,x8,x9⟩,-,xz⟩:=ten bC
   clear bC aQ
   go_wp2_with fail
   refine (Xue s _ w.heap.size w1 (HZ.out w1 aF.out) (HT.out w1 aF.out).2.2.1 (HV.out.copyOk hsm)).mono ?_
   rintro e w4 ⟨V,c',rfl,hK,hC⟩
   obtain ⟨dK,bY,aG⟩:=Xvo.own (c:=fun b=>if b=w.heap.size+1+1 then 14 else 0) hK hC (fun b hb=>if_neg (by have h1:=aF.out.size;have h2:=bZ.out;omega))
   have cY:Below w1.heap.size w1 w4:=⟨aG.os,aG.tape,aG.output,aG.size,fun b hb=>aG.keep b hb (no _)⟩
   have dB:=Lh (aF.out.then cY)
   have eD:=Lh aG
   obtain ⟨dP,dQ,dV,dW,eB,eC,dX,dY,dL,dM,dZ,eA,dI,dJ,dN,dO,cN⟩:=bY.opened
   rw [cN]
   obtain ⟨W5,bD⟩:∃ u,u=w4.alloc (.cells #[.slice dP s.mem.globals.length dQ,.slice dV s.mem.nodes.length dW,.int .i64 s.fuel,.slice eB s.running.length eC,.slice dX s.nodes.length dY,.slice dL s.calls.length dM,.slice dZ s.results.length eA,.slice dI s.begins.length dJ,.slice dN s.ends.length dO,.int .i64 s.step] 34):=⟨_,rfl⟩
   obtain ⟨bt,bH⟩:∃ b,b=w4.heap.size:=⟨_,rfl⟩
   have cM:Below w4.heap.size w4 W5:=by rw [bD];exact Xa _ _
   have dU:W5.heap.size=w4.heap.size+1:=by rw [bD];simp
   obtain ⟨c5,bI⟩:∃ u:Clr,u=(fun x=>if x=bt then 1 else dK x):=⟨_,rfl⟩
   have bL:Hid (X3k cd s W5 c5 bt 0 sch W5 c5 s):=Lh ⟨⟨V,by
    rw [bI,bH]
    exact bY.no2 (Chg.paint _ _ cM (Nr _)) (fun b hb=>by
     show (if _ then _ else _)=_
     rw [if_neg (by omega)];exact bY.hi b (by omega)),⟨by rw [cN,bD,bH];exact Hn _ _,by rw [bI];exact if_pos rfl⟩⟩,Chg.of_below Br nz0,.nil⟩
   have cI:=Lh (dB.out.then cM)
   have bA:Hid (∀ b,b<w.heap.size+1+1→c5 b=0):=Lh (fun b hb=>by
    have h1:=aF.out.size
    have h2:=bZ.out
    have h3:=aG.size
    rw [bI]
    show (if _ then _ else _)=_
    rw [if_neg (by omega),aG.old b (by omega)]
    exact if_neg (by omega))
   have bO:Hid (c5 (w.heap.size+1+1)=14∧w.heap.size+1+1<W5.heap.size):=Lh (by
    have h1:=aF.out.size
    have h2:=bZ.out
    have h3:=aG.size
    refine ⟨?_,by omega⟩
    rw [bI]
    show (if _ then _ else _)=_
    rw [if_neg (by omega),aG.old _ (by omega)]
    exact if_pos rfl)
   clear x0 x1 x2 x3 x4 x5 x6 x7 x8 x9 xz hK hC bY aG cY cN cM dU bI
   have bE:Hid (∀ (V:World) (c:Clr),Chg NZ c5 c W5 V→Below w.heap.size w V∧(V.cell? ⟨w.heap.size,0,none⟩=some (.slice fa cd.fields.length fc)∧V.cell? ⟨w.heap.size,1,none⟩=some (.int .i64 cd.globals)∧V.cell? ⟨w.heap.size,2,none⟩=some (.slice qa cd.funcs.length qc))∧w.heap.size<V.heap.size∧V.heap[w.heap.size+1+1]?=some (.cells #[.slice none 0 0,.slice none 0 0,.int .i64 0,.slice none 0 0,.slice none 0 0,.slice none 0 0,.slice none 0 0,.slice none 0 0,.slice none 0 0,.int .i64 0] 34 (0,0))∧c (w.heap.size+1+1)=14∧(∀ b,b<w.heap.size→c b=0)∧w.heap.size≤V.heap.size):=Lh (fun V c h=>by
    obtain ⟨⟨k0,k1,k2⟩,k3,k4,k5⟩:=HK.out W5 cI.out
    have hb:=(HT.out W5 cI.out).2.2.2
    have hz:=HZ.out W5 cI.out
    have e0:¬NZ (c5 w.heap.size):=by rw [bA.out _ (by omega)];exact nz0
    exact ⟨hb.trans (h.below (B:=w.heap.size) (fun b hb=>bA.out b (by omega)) hz),⟨h.cell k0 e0,h.cell k1 e0,h.cell k2 e0⟩,Nl k3 h.size,(h.keep _ bO.out.2 (by rw [bO.out.1];exact Xvf)).trans k5,(h.old _ bO.out.2).trans bO.out.1,fun b hb=>(h.old b (by omega)).trans (bA.out b (by omega)),Nt hz h.size⟩)
   go_upto_region 6 with fail
   rw [←bD]
   try rw [←bH]
   have eG:=Lh (And.intro bD bH)
   clear bD bH
   go_wp2_with fail
   go_loopw [26] (fun i wr=>∃ k:Nat,k≤sch.length∧i=.int .i64 k∧Hid (∃ c sk,X3k cd s W5 c5 bt k sch wr c sk)) (fun i _=>sch.length - (intOf i).toNat)
   case atStart=>exact ⟨0,Nat.zero_le _,rfl,Lh ⟨_,_,bL.out⟩⟩
   case round=>
    obtain ⟨k,hk,rfl,bB⟩:=hrel
    obtain ⟨c,sk,bB⟩:=bB.out
    have HSt:=Lh bB
    clear bB bL
    obtain ⟨bW,bX,cA,cB,cG,cH,cC,cD,bS,bT,cE,cF,bQ,bR,bU,bV,aD,bM,aC⟩:=HSt.out.st.look
    have dG:=Lh bM
    have dE:=Lh aC
    have eE:=Lh aD
    obtain ⟨⟨x0,x1,x2,x3,x4,x5,x6,x7,x8,x9⟩,-,xz⟩:=ten aD
    clear aD bM aC
    by_cases dS:k<sch.length
    ·obtain ⟨t,ht⟩:∃ y,sch[k]?=some y:=⟨_,Lg dS⟩
     obtain ⟨sb,so,rfl,cZ,dA⟩:=dF.out.nth ht
     have HX:=Lh ht
     have e0:=(Xbl (bE.out _ _ HSt.out.chg).1 cZ).trans dA.1
     rw [Nat.mul_one] at e0
     have ez:=Bl e0
     have eH:(0:Int)≤(k:Int):=In _
     have eI:(k:Int)<(sch.length:Int):=by omega
     have cJ:=Lh (HSt.out.path.inv (dC.out HV.out))
     clear ht cZ dA
     go_wp2_with fail
     refine (Xz5 sk _ t wr.heap.size wr (Nr _) dG.out cJ.out.calls).mono ?_
     rintro e w2 ⟨rfl,cL⟩
     have cS:=Lh (HSt.out.st.grow cL)
     have bP:Hid (Chg NZ c5 c W5 w2):=Lh (HSt.out.chg.trans (Chg.of_below cL nz0))
     clear x0 x1 x2 x3 x4 x5 x6 x7 x8 x9 xz e0 ez cL
     obtain ⟨aO,aP,aS,aT,aY,aZ,aU,aV,aK,aL,aW,aX,aI,aJ,aM,aN,aD,-,aC⟩:=cS.out.look
     obtain ⟨⟨x0,x1,x2,x3,x4,x5,x6,x7,x8,x9⟩,-,xz⟩:=ten aD
     by_cases aH:Xsl sk t=0
     ·have bJ:(Xsl sk t == 0)=true:=by simpa using aH
      by_cases bB:65536≤sk.step
      ·obtain ⟨aE,-,-,aA,aR,-,-⟩:=bE.out _ _ bP.out
       have aB:Hid (Xro cd s sch w (.returned (.tuple #[.agg #[.slice aO sk.mem.globals.length aP,.slice aS sk.mem.nodes.length aT,.int .i64 sk.fuel,.slice aY sk.running.length aZ,.slice aU sk.nodes.length aV,.slice aK sk.calls.length aL,.slice aW sk.results.length aX,.slice aI sk.begins.length aJ,.slice aM sk.ends.length aN,.int .i64 sk.step],.int .i64 (k:Int),.int .i64 0])) (Xr6 w2 (w.heap.size+1+1) (.slice aO sk.mem.globals.length aP) (.slice aS sk.mem.nodes.length aT) (.int .i64 sk.fuel) (.slice aY sk.running.length aZ) (.slice aU sk.nodes.length aV) (.slice aK sk.calls.length aL) (.slice aW sk.results.length aX) (.slice aI sk.begins.length aJ) (.slice aM sk.ends.length aN) (.int .i64 sk.step))):=Lh ⟨V0 aE (by omega) aE.size (.slice aO sk.mem.globals.length aP) (.slice aS sk.mem.nodes.length aT) (.int .i64 sk.fuel) (.slice aY sk.running.length aZ) (.slice aU sk.nodes.length aV) (.slice aK sk.calls.length aL) (.slice aW sk.results.length aX) (.slice aI sk.begins.length aJ) (.slice aM sk.ends.length aN) (.int .i64 sk.step),.inr (.inr ⟨HV.out,by have:=bN.out;omega,k,sk,_,HSt.out.path,.inr ⟨t,HX.out,.inr bB⟩,rfl,aC _ aR⟩)⟩
       obtain ⟨⟨y0,y1,y2,y3,y4,y5,y6,y7,y8,y9⟩,⟨z0,z1,z2,z3,z4,z5,z6,z7,z8,z9⟩,zz⟩:=ten aA
       have bF:=Lh aA
       clear aA aD aC aE aR
       go_wp2_with fail
       exact bodyPost_ret (Xs4 (p:=6) (u:=7) (q:=8) rfl (V4 bF.out (.slice aO sk.mem.globals.length aP) (.slice aS sk.mem.nodes.length aT) (.int .i64 sk.fuel) (.slice aY sk.running.length aZ) (.slice aU sk.nodes.length aV) (.slice aK sk.calls.length aL) (.slice aW sk.results.length aX) (.slice aI sk.begins.length aJ) (.slice aM sk.ends.length aN) (.int .i64 sk.step)) _ rfl rfl rfl) rfl aB.out
      ·have cR:=Lh aH
       have eF:=Lh bB
       have cP:sk.step<65536:=by omega
       have bG:=Lh cP
       obtain ⟨tn,rfl⟩:∃ tn:Nat,t=tn:=⟨t.toNat,Xz6 aH⟩
       obtain ⟨aE,⟨c0,c1,c2⟩,zc,-,-,bK,hz⟩:=bE.out _ _ bP.out
       have cQ:=Lh aE
       have dD:=Lh bK
       have dH:=Lh hz
       obtain ⟨m0,n,l,r,b,e,hp⟩:=cJ.out.stepOk bG.out cR.out
       have HP:=Lh hp
       clear aD aC aE bK hz hp
       go_wp2_with fail
       refine (Xvx cd fa qa fc qc w.heap.size sk c bt tn m0 n l r b e w w2 HL.out rfl cQ.out HV.out.sound hsm dH.out (HC.out.below cQ.out) dD.out cS.out cJ.out.mem HP.out).mono ?_
       rintro e9 w6 ⟨rfl,s',hR,c6,cV,cU⟩
       have HN:Hid (X3k cd s W5 c5 bt (k+1) sch w6 c6 s'):=Lh ⟨cV,bP.out.trans cU,by
        rw [List.take_add_one,HX.out]
        exact .snoc HSt.out.path cR.out bG.out (by rw [Int.toNat_natCast];exact hR)⟩
       clear hR cV cU c0 c1 c2 zc x0 x1 x2 x3 x4 x5 x6 x7 x8 x9 xz
       have dR:sch.length≤65536:=by have:=bN.out;omega
       go_wp2_with fail
       go_roundw
       case rel=>exact ⟨k+1,by omega,by go_num,Lh ⟨_,_,HN.out⟩⟩
       case measure=>simp [intOf];omega
     ·have bJ:(Xsl sk t == 0)=false:=by simpa using aH
      obtain ⟨aE,-,-,aA,aR,-,-⟩:=bE.out _ _ bP.out
      have aB:Hid (Xro cd s sch w (.returned (.tuple #[.agg #[.slice aO sk.mem.globals.length aP,.slice aS sk.mem.nodes.length aT,.int .i64 sk.fuel,.slice aY sk.running.length aZ,.slice aU sk.nodes.length aV,.slice aK sk.calls.length aL,.slice aW sk.results.length aX,.slice aI sk.begins.length aJ,.slice aM sk.ends.length aN,.int .i64 sk.step],.int .i64 (k:Int),.int .i64 0])) (Xr6 w2 (w.heap.size+1+1) (.slice aO sk.mem.globals.length aP) (.slice aS sk.mem.nodes.length aT) (.int .i64 sk.fuel) (.slice aY sk.running.length aZ) (.slice aU sk.nodes.length aV) (.slice aK sk.calls.length aL) (.slice aW sk.results.length aX) (.slice aI sk.begins.length aJ) (.slice aM sk.ends.length aN) (.int .i64 sk.step))):=Lh ⟨V0 aE (by omega) aE.size (.slice aO sk.mem.globals.length aP) (.slice aS sk.mem.nodes.length aT) (.int .i64 sk.fuel) (.slice aY sk.running.length aZ) (.slice aU sk.nodes.length aV) (.slice aK sk.calls.length aL) (.slice aW sk.results.length aX) (.slice aI sk.begins.length aJ) (.slice aM sk.ends.length aN) (.int .i64 sk.step),.inr (.inr ⟨HV.out,by have:=bN.out;omega,k,sk,_,HSt.out.path,.inr ⟨t,HX.out,.inl aH⟩,rfl,aC _ aR⟩)⟩
      obtain ⟨⟨y0,y1,y2,y3,y4,y5,y6,y7,y8,y9⟩,⟨z0,z1,z2,z3,z4,z5,z6,z7,z8,z9⟩,zz⟩:=ten aA
      have bF:=Lh aA
      clear aA aD aC aE aR
      go_wp2_with fail
      exact bodyPost_ret (Xs4 (p:=6) (u:=7) (q:=8) rfl (V4 bF.out (.slice aO sk.mem.globals.length aP) (.slice aS sk.mem.nodes.length aT) (.int .i64 sk.fuel) (.slice aY sk.running.length aZ) (.slice aU sk.nodes.length aV) (.slice aK sk.calls.length aL) (.slice aW sk.results.length aX) (.slice aI sk.begins.length aJ) (.slice aM sk.ends.length aN) (.int .i64 sk.step)) _ rfl rfl rfl) rfl aB.out
    ·obtain rfl:k=sch.length:=by omega
     obtain ⟨aE,-,-,aA,aR,-,-⟩:=bE.out _ _ HSt.out.chg
     have aB:Hid (Xro cd s sch w (.returned (.tuple #[.agg #[.slice bW sk.mem.globals.length bX,.slice cA sk.mem.nodes.length cB,.int .i64 sk.fuel,.slice cG sk.running.length cH,.slice cC sk.nodes.length cD,.slice bS sk.calls.length bT,.slice cE sk.results.length cF,.slice bQ sk.begins.length bR,.slice bU sk.ends.length bV,.int .i64 sk.step],.int .i64 (sch.length:Int),.int .i64 0])) (Xr6 wr (w.heap.size+1+1) (.slice bW sk.mem.globals.length bX) (.slice cA sk.mem.nodes.length cB) (.int .i64 sk.fuel) (.slice cG sk.running.length cH) (.slice cC sk.nodes.length cD) (.slice bS sk.calls.length bT) (.slice cE sk.results.length cF) (.slice bQ sk.begins.length bR) (.slice bU sk.ends.length bV) (.int .i64 sk.step))):=Lh ⟨V0 aE (by omega) aE.size (.slice bW sk.mem.globals.length bX) (.slice cA sk.mem.nodes.length cB) (.int .i64 sk.fuel) (.slice cG sk.running.length cH) (.slice cC sk.nodes.length cD) (.slice bS sk.calls.length bT) (.slice cE sk.results.length cF) (.slice bQ sk.begins.length bR) (.slice bU sk.ends.length bV) (.int .i64 sk.step),.inr (.inr ⟨HV.out,by have:=bN.out;omega,sch.length,sk,_,HSt.out.path,.inl rfl,rfl,dE.out _ aR⟩)⟩
     obtain ⟨⟨y0,y1,y2,y3,y4,y5,y6,y7,y8,y9⟩,⟨z0,z1,z2,z3,z4,z5,z6,z7,z8,z9⟩,zz⟩:=ten aA
     have bF:=Lh aA
     clear aA aE aR
     go_wp2_with fail
     exact bodyPost_ret (Xs4 (p:=6) (u:=7) (q:=8) rfl (V4 bF.out (.slice bW sk.mem.globals.length bX) (.slice cA sk.mem.nodes.length cB) (.int .i64 sk.fuel) (.slice cG sk.running.length cH) (.slice cC sk.nodes.length cD) (.slice bS sk.calls.length bT) (.slice cE sk.results.length cF) (.slice bQ sk.begins.length bR) (.slice bU sk.ends.length bV) (.int .i64 sk.step)) _ rfl rfl rfl) rfl aB.out
 ·rw [K8 hv]
  obtain ⟨-,-,-,aQ⟩:=HK.out w1 aF.out
  obtain ⟨⟨y0,y1,y2,y3,y4,y5,y6,y7,y8,y9⟩,⟨z0,z1,z2,z3,z4,z5,z6,z7,z8,z9⟩,zz⟩:=ten aQ
  have cK:=Lh aQ
  have aB:Hid (Xro cd s sch w (.returned (.tuple #[.agg #[.slice none 0 0,.slice none 0 0,.int .i64 0,.slice none 0 0,.slice none 0 0,.slice none 0 0,.slice none 0 0,.slice none 0 0,.slice none 0 0,.int .i64 0],.int .i64 0,.int .i64 1])) (Xr6 w1 (w.heap.size+1+1) (.slice none 0 0) (.slice none 0 0) (.int .i64 0) (.slice none 0 0) (.slice none 0 0) (.slice none 0 0) (.slice none 0 0) (.slice none 0 0) (.slice none 0 0) (.int .i64 0))):=Lh ⟨V0 (HT.out w1 aF.out).2.2.2 (by omega) (HZ.out w1 aF.out) (.slice none 0 0) (.slice none 0 0) (.int .i64 0) (.slice none 0 0) (.slice none 0 0) (.slice none 0 0) (.slice none 0 0) (.slice none 0 0) (.slice none 0 0) (.int .i64 0),.inl ⟨hv,rfl⟩⟩
  clear aQ
  go_wp2_with fail
  exact bodyPost_ret (Xs4 (p:=6) (u:=7) (q:=8) rfl (V4 cK.out (.slice none 0 0) (.slice none 0 0) (.int .i64 0) (.slice none 0 0) (.slice none 0 0) (.slice none 0 0) (.slice none 0 0) (.slice none 0 0) (.slice none 0 0) (.int .i64 0)) _ rfl rfl rfl) rfl aB.out
theorem Xwx (s:Thr) (t:Nat) (m:Mch) (n:Int):(Xr8 s t m n).running.length=s.running.length:=by
 unfold Xr8
 split
 ·show (s.running.set t Xl).length=_
  rw [List.length_set]
 ·split
  ·show (s.running.set t Xl).length=_
   rw [List.length_set]
  ·show (s.running.set t m).length=_
   rw [List.length_set]
theorem Xsq.stp (h:Xsq c s t s'):s'.step=s.step+1∧s'.running.length=s.running.length:=by
 obtain ⟨m0,n,m,s1,_,_,hB,hA⟩:=h
 obtain ⟨e1,_,_,_,_,e6,_⟩:=hB.same
 rcases hA with ⟨_,rfl⟩|⟨_,_,rfl⟩|⟨_,mm,a,m',_,_,rfl⟩
 ·refine ⟨?_,?_⟩
  ·show (Xr8 s1 t m n).step+1=_
   rw [Xts,e6]
  ·show (Xr8 s1 t m n).running.length=_
   rw [Xwx,e1]
 ·refine ⟨?_,?_⟩
  ·show s1.step+1=_
   rw [e6]
  ·show (s1.running.set t Xl).length=_
   rw [List.length_set,e1]
 ·refine ⟨?_,?_⟩
  ·show (Xr8 _ t m' _).step+1=_
   rw [Xts]
   show s1.step+1=_
   rw [e6]
  ·show (Xr8 _ t m' _).running.length=_
   rw [Xwx]
   show s1.running.length=_
   rw [e1]
inductive Xu5 (c:Cod) (s:Thr):Nat→Thr→Prop
 | start:Xu5 c s 0 s
 | skip {t s1}:Xu5 c s t s1→t<s1.running.length→enB s1 t=false→Xu5 c s (t+1) s1
 | step {t s1 s2}:Xu5 c s t s1→t<s1.running.length→enB s1 t=true→s1.step<65536→Xsq c s1 t s2→Xu5 c s t s2
theorem Xu5.inv (h:Xu5 c s t s') (hi:Xs8 c s):Xs8 c s':=by
 induction h with
 | start=>exact hi
 | skip _ _ _ ih=>exact ih
 | step _ _ _ _ hR ih=>exact ih.stepR hR
theorem Xu5.len (h:Xu5 c s t s'):s'.running.length=s.running.length:=by
 induction h with
 | start=>rfl
 | skip _ _ _ ih=>exact ih
 | step _ _ _ _ hR ih=>rw [hR.stp.2];exact ih
theorem X2h (h:enB s t=true) (ht:t<s.running.length):Xsl s t=0:=by
 unfold Xsl
 rw [if_neg (by omega),if_neg (by omega),Int.toNat_natCast,h]
 rfl
structure X2i (cd:Cod) (s:Thr) (W:World) (c0:Clr) (bt k:Nat) (wr:World) (c:Clr) (sk:Thr):Prop where
 st:V2 wr c bt sk
 chg:Chg NZ c0 c W wr
 path:Xu5 cd s k sk
theorem Xf.nil_ {α:Type} {B B':Nat} {w':World} {sz sz':Nat} {E E':World→Nat→Nat→α→Prop} {l:List α} (h:Xf B w sz E v l) (hl:l=[]):Xf B' w' sz' E' v l:=by
 obtain ⟨a,cap,h1,h2,h3,h4,_⟩:=h
 exact ⟨a,cap,h1,h2,h3,h4,.inl hl⟩
theorem V2.own2 {V:World} {c:Clr} {C:Array Value} (h:V2 w c bt s) (hr:w.heap[bt]?=some (.cells C 34 (0,0))) (hz:w.heap.size≤V.heap.size) (hk:∀ b,b<w.heap.size→c b≠0→c b≠14→V.heap[b]?=w.heap[b]?) (hc:∀ l∈s.calls,l=[]) (hm:∀ m∈s.running,m.frames=[]):Xsd V.heap.size V (.agg C) s:=by
 obtain ⟨T,K,hB⟩:=h
 obtain rfl:tvC T s=C:=by
  have:=hB.row.symm.trans hr
  simpa using this
 have aA:∀ {tag:Nat} {e:TypeId} {sz:Nat} {v:Value} {n:Nat} {xs:List Value},V3 w c tag e sz v n xs→tag≠0→tag≠14→V3 V c tag e sz v n xs:=fun h h0 h1=>⟨Xvt h.1 (fun b hb=>by have ht:=h.2.1 b hb;exact hk b (Xzw h.1 b hb) (by omega) (by omega)),h.2⟩
 have K':TK NO V c s T:=by
  refine ⟨fun b hb=>K.hi b (by omega),fun n=>⟨aA (K.g n).1 (by omega) (by omega),(K.g n).2⟩,fun n=>aA (K.n n) (by omega) (by omega),fun i x hx=>?_,fun n=>aA (K.r n) (by omega) (by omega),fun t m hx=>?_,fun n=>⟨aA (K.k n).1 (by omega) (by omega),(K.k n).2⟩,fun n=>aA (K.cr n) (by omega) (by omega),fun t l hx=>?_,fun n=>aA (K.o n) (by omega) (by omega),fun t l hx=>?_,fun n=>aA (K.b n) (by omega) (by omega),fun t l hx=>?_,fun n=>aA (K.e n) (by omega) (by omega),fun t l hx=>?_,K.f64,K.s64⟩
  ·obtain ⟨lv,h1,h2,h3,h4⟩:=K.nn i x hx
   exact ⟨lv,h1,h2,h3,fun n=>⟨aA (h4 n).1 (by omega) (by omega),(h4 n).2⟩⟩
  ·obtain ⟨fv,h1,h2,h3⟩:=K.rr t m hx
   exact ⟨fv,h1,h2.nil_ (hm m (Lm hx)),h3⟩
  ·obtain ⟨v,h1,h2⟩:=K.cl t l hx
   exact ⟨v,h1,h2.nil_ (hc l (Lm hx))⟩
  ·obtain ⟨v,h1,h2⟩:=K.ol t l hx
   exact ⟨v,h1,fun n=>⟨aA (h2 n).1 (by omega) (by omega),(h2 n).2⟩⟩
  ·obtain ⟨v,h1,h2⟩:=K.bl t l hx
   exact ⟨v,h1,fun n=>⟨aA (h2 n).1 (by omega) (by omega),(h2 n).2⟩⟩
  ·obtain ⟨v,h1,h2⟩:=K.el t l hx
   exact ⟨v,h1,fun n=>⟨aA (h2 n).1 (by omega) (by omega),(h2 n).2⟩⟩
 exact K'.reads
def Fin2 (w w':World) (v:Value) (s:Thr):Prop:=∀ V:World,w'.heap.size≤V.heap.size→(∀ b,w.heap.size≤b→b<w'.heap.size→V.heap[b]?=w'.heap[b]?)→(∀ l∈s.calls,l=[])→(∀ m∈s.running,m.frames=[])→Xsd V.heap.size V v s
def Xva (cd:Cod) (s:Thr) (w:World) (e:Ending) (w':World):Prop:=Below w.heap.size w w'∧((¬Xse cd s∧e=.returned (.tuple #[.agg #[.slice none 0 0,.slice none 0 0,.int .i64 0,.slice none 0 0,.slice none 0 0,.slice none 0 0,.slice none 0 0,.slice none 0 0,.slice none 0 0,.int .i64 0],.int .i64 1]))∨
 (Xse cd s∧∃ (t:Nat) (s':Thr),Xu5 cd s t s'∧t<s.running.length∧enB s' t=true∧65536≤s'.step∧e=.returned (.tuple #[.agg #[.slice none 0 0,.slice none 0 0,.int .i64 0,.slice none 0 0,.slice none 0 0,.slice none 0 0,.slice none 0 0,.slice none 0 0,.slice none 0 0,.int .i64 0],.int .i64 6]))∨
 (Xse cd s∧∃ (s':Thr) (v:Value),Xu5 cd s s.running.length s'∧e=.returned (.tuple #[v,.int .i64 0])∧Xsd w'.heap.size w' v s'∧Fin2 w w' v s'))
theorem X22 (cd:Cod) (cv sv:Value) (s:Thr) (w:World) (hL:Qa w) (hsm:Zb cd) (hc:Yj w.heap.size w cv cd) (hs:Xsd w.heap.size w sv s) (hinv:Xse cd s→Xs8 cd s) :
  Calls Tryz.prog 31 #[cv,sv] w (Xva cd s w):=by
 obtain ⟨fv,gv,rfl,hf,hg,bZ⟩:=id hc
 obtain ⟨fa,fc,rfl⟩:=hf.form
 obtain ⟨qa,qc,rfl⟩:=hg.form
 obtain ⟨ga,gc,ma,mc,ra,rc,na,nc,ca,cc,oa,oc,ba,bc,ea,ec,rfl⟩:=hs.open_
 have HC:=Lh hc
 have HS:=Lh hs
 have HL:=Lh hL
 have cL:=Lh hinv
 obtain ⟨W,hW⟩:∃ W,W=((w.alloc (.cells #[.slice fa cd.fields.length fc,.int .i64 cd.globals,.slice qa cd.funcs.length qc] 25)).alloc (.cells #[.slice ga s.mem.globals.length gc,.slice ma s.mem.nodes.length mc,.int .i64 s.fuel,.slice ra s.running.length rc,.slice na s.nodes.length nc,.slice ca s.calls.length cc,.slice oa s.results.length oc,.slice ba s.begins.length bc,.slice ea s.ends.length ec,.int .i64 s.step] 34)).alloc (.cells #[.slice none 0 0,.slice none 0 0,.int .i64 0,.slice none 0 0,.slice none 0 0,.slice none 0 0,.slice none 0 0,.slice none 0 0,.slice none 0 0,.int .i64 0] 34):=⟨_,rfl⟩
 have cF:Hid (Below w.heap.size w W):=by rw [hW];exact Lh (((Xa _ _).then (Xa _ _)).then (Xa _ _))
 have bF:Hid (W.heap.size=w.heap.size+3):=by rw [hW];exact Lh (by simp)
 have R0:Hid (W.heap[w.heap.size]?=some (.cells #[.slice fa cd.fields.length fc,.int .i64 cd.globals,.slice qa cd.funcs.length qc] 25 (0,0))):=Lh (by
  rw [hW,Ha _ _ _ (by simp;omega),Ha _ _ _ (by simp)]
  exact Hn _ _)
 have R1:Hid (W.heap[w.heap.size+1]?=some (.cells #[.slice ga s.mem.globals.length gc,.slice ma s.mem.nodes.length mc,.int .i64 s.fuel,.slice ra s.running.length rc,.slice na s.nodes.length nc,.slice ca s.calls.length cc,.slice oa s.results.length oc,.slice ba s.begins.length bc,.slice ea s.ends.length ec,.int .i64 s.step] 34 (0,0))):=Lh (by
  rw [hW,Ha _ _ _ (by simp)]
  have:=Hn (w.alloc (.cells #[.slice fa cd.fields.length fc,.int .i64 cd.globals,.slice qa cd.funcs.length qc] 25)) (.cells #[.slice ga s.mem.globals.length gc,.slice ma s.mem.nodes.length mc,.int .i64 s.fuel,.slice ra s.running.length rc,.slice na s.nodes.length nc,.slice ca s.calls.length cc,.slice oa s.results.length oc,.slice ba s.begins.length bc,.slice ea s.ends.length ec,.int .i64 s.step] 34)
  rw [show (w.alloc (.cells #[.slice fa cd.fields.length fc,.int .i64 cd.globals,.slice qa cd.funcs.length qc] 25)).heap.size=w.heap.size+1 by simp] at this
  exact this)
 have R2:Hid (W.heap[w.heap.size+1+1]?=some (.cells #[.slice none 0 0,.slice none 0 0,.int .i64 0,.slice none 0 0,.slice none 0 0,.slice none 0 0,.slice none 0 0,.slice none 0 0,.slice none 0 0,.int .i64 0] 34 (0,0))):=Lh (by
  rw [hW]
  have:=Hn ((w.alloc (.cells #[.slice fa cd.fields.length fc,.int .i64 cd.globals,.slice qa cd.funcs.length qc] 25)).alloc (.cells #[.slice ga s.mem.globals.length gc,.slice ma s.mem.nodes.length mc,.int .i64 s.fuel,.slice ra s.running.length rc,.slice na s.nodes.length nc,.slice ca s.calls.length cc,.slice oa s.results.length oc,.slice ba s.begins.length bc,.slice ea s.ends.length ec,.int .i64 s.step] 34)) (.cells #[.slice none 0 0,.slice none 0 0,.int .i64 0,.slice none 0 0,.slice none 0 0,.slice none 0 0,.slice none 0 0,.slice none 0 0,.slice none 0 0,.int .i64 0] 34)
  rw [show ((w.alloc (.cells #[.slice fa cd.fields.length fc,.int .i64 cd.globals,.slice qa cd.funcs.length qc] 25)).alloc (.cells #[.slice ga s.mem.globals.length gc,.slice ma s.mem.nodes.length mc,.int .i64 s.fuel,.slice ra s.running.length rc,.slice na s.nodes.length nc,.slice ca s.calls.length cc,.slice oa s.results.length oc,.slice ba s.begins.length bc,.slice ea s.ends.length ec,.int .i64 s.step] 34)).heap.size=w.heap.size+1+1 by simp] at this
  exact this)
 have HK:Hid (∀ V,Below W.heap.size W V→(V.cell? ⟨w.heap.size,0,none⟩=some (.slice fa cd.fields.length fc)∧V.cell? ⟨w.heap.size,1,none⟩=some (.int .i64 cd.globals)∧V.cell? ⟨w.heap.size,2,none⟩=some (.slice qa cd.funcs.length qc))∧w.heap.size<V.heap.size∧V.heap[w.heap.size+1]?=some (.cells #[.slice ga s.mem.globals.length gc,.slice ma s.mem.nodes.length mc,.int .i64 s.fuel,.slice ra s.running.length rc,.slice na s.nodes.length nc,.slice ca s.calls.length cc,.slice oa s.results.length oc,.slice ba s.begins.length bc,.slice ea s.ends.length ec,.int .i64 s.step] 34 (0,0))∧V.heap[w.heap.size+1+1]?=some (.cells #[.slice none 0 0,.slice none 0 0,.int .i64 0,.slice none 0 0,.slice none 0 0,.slice none 0 0,.slice none 0 0,.slice none 0 0,.slice none 0 0,.int .i64 0] 34 (0,0))):=Lh (fun V hV=>by
  have h:=bF.out
  have h0:=(hV.block w.heap.size (by omega)).trans R0.out
  exact ⟨⟨Cr h0 rfl,Cr h0 rfl,Cr h0 rfl⟩,(La h0),(hV.block _ (by omega)).trans R1.out,(hV.block _ (by omega)).trans R2.out⟩)
 have HT:Hid (∀ V,Below W.heap.size W V→Qa V∧Yj w.heap.size V (.agg #[.slice fa cd.fields.length fc,.int .i64 cd.globals,.slice qa cd.funcs.length qc]) cd∧Xsd w.heap.size V (.agg #[.slice ga s.mem.globals.length gc,.slice ma s.mem.nodes.length mc,.int .i64 s.fuel,.slice ra s.running.length rc,.slice na s.nodes.length nc,.slice ca s.calls.length cc,.slice oa s.results.length oc,.slice ba s.begins.length bc,.slice ea s.ends.length ec,.int .i64 s.step]) s∧Below w.heap.size w V):=Lh (fun V hV=>by
  have hb:=cF.out.then hV
  exact ⟨hL.below hb,hc.below hb,hs.below hb,hb⟩)
 have HZ:Hid (∀ V,Below W.heap.size W V→w.heap.size≤V.heap.size):=Lh (fun V hV=>(cF.out.then hV).size)
 clear hf hg bZ hL hs hc hinv
 obtain ⟨⟨c0,c1,c2⟩,zc,aM,-⟩:=HK.out W Br
 obtain ⟨⟨x0,x1,x2,x3,x4,x5,x6,x7,x8,x9⟩,-,xz⟩:=ten aM
 clear aM
 go_enter Tryz.func31,Tryz.ntmps31
 go_upto_region 1 with fail
 rw [←hW]
 have HW:=Lh hW
 clear hW
 go_wp2_with fail
 refine (Xt3 cd _ s _ w.heap.size W (HT.out W Br).1 (HZ.out W Br) hsm (HT.out W Br).2.1 (HT.out W Br).2.2.1).mono ?_
 rintro e w1 ⟨rfl,cG⟩
 have aE:=Lh cG
 clear c0 c1 c2 zc x0 x1 x2 x3 x4 x5 x6 x7 x8 x9 xz cG
 by_cases hv:Xse cd s
 ·rw [Kh hv]
  have HV:=Lh hv
  clear hv
  obtain ⟨-,-,aM,aL⟩:=HK.out w1 aE.out
  ·obtain ⟨⟨x0,x1,x2,x3,x4,x5,x6,x7,x8,x9⟩,-,xz⟩:=ten aM
   clear aM aL
   go_wp2_with fail
   refine (Xue s _ w.heap.size w1 (HZ.out w1 aE.out) (HT.out w1 aE.out).2.2.1 (HV.out.copyOk hsm)).mono ?_
   rintro e w4 ⟨V,c',rfl,hK,hC⟩
   obtain ⟨cV,bD,aC⟩:=Xvo.own (c:=fun b=>if b=w.heap.size+1+1 then 14 else 0) hK hC (fun b hb=>if_neg (by have h1:=aE.out.size;have h2:=bF.out;omega))
   have cH:Below w1.heap.size w1 w4:=⟨aC.os,aC.tape,aC.output,aC.size,fun b hb=>aC.keep b hb (no _)⟩
   have cK:=Lh (aE.out.then cH)
   have dL:=Lh aC
   obtain ⟨dA,dB,dD,dE,dJ,dK,dF,dG,cW,cX,dH,dI,cT,cU,cY,cZ,bY⟩:=bD.opened
   rw [bY]
   obtain ⟨W5,aK⟩:∃ u,u=w4.alloc (.cells #[.slice dA s.mem.globals.length dB,.slice dD s.mem.nodes.length dE,.int .i64 s.fuel,.slice dJ s.running.length dK,.slice dF s.nodes.length dG,.slice cW s.calls.length cX,.slice dH s.results.length dI,.slice cT s.begins.length cU,.slice cY s.ends.length cZ,.int .i64 s.step] 34):=⟨_,rfl⟩
   obtain ⟨bt,aN⟩:∃ b,b=w4.heap.size:=⟨_,rfl⟩
   have bW:Below w4.heap.size w4 W5:=by rw [aK];exact Xa _ _
   have dC:W5.heap.size=w4.heap.size+1:=by rw [aK];simp
   obtain ⟨c5,aO⟩:∃ u:Clr,u=(fun x=>if x=bt then 1 else cV x):=⟨_,rfl⟩
   have aR:Hid (X2i cd s W5 c5 bt 0 W5 c5 s):=Lh ⟨⟨V,by
    rw [aO,aN]
    exact bD.no2 (Chg.paint _ _ bW (Nr _)) (fun b hb=>by
     show (if _ then _ else _)=_
     rw [if_neg (by omega)];exact bD.hi b (by omega)),⟨by rw [bY,aK,aN];exact Hn _ _,by rw [aO];exact if_pos rfl⟩⟩,Chg.of_below Br nz0,.start⟩
   have bO:=Lh (cK.out.then bW)
   have aI:Hid (∀ b,b<w.heap.size+1+1→c5 b=0):=Lh (fun b hb=>by
    have h1:=aE.out.size
    have h2:=bF.out
    have h3:=aC.size
    rw [aO]
    show (if _ then _ else _)=_
    rw [if_neg (by omega),aC.old b (by omega)]
    exact if_neg (by omega))
   have aT:Hid (c5 (w.heap.size+1+1)=14∧w.heap.size+1+1<W5.heap.size):=Lh (by
    have h1:=aE.out.size
    have h2:=bF.out
    have h3:=aC.size
    refine ⟨?_,by omega⟩
    rw [aO]
    show (if _ then _ else _)=_
    rw [if_neg (by omega),aC.old _ (by omega)]
    exact if_pos rfl)
   clear x0 x1 x2 x3 x4 x5 x6 x7 x8 x9 xz hK hC bD aC cH bY bW dC aO
   have bQ:Hid (∀ (V:World) (c:Clr),Chg NZ c5 c W5 V→Below w.heap.size w V∧(V.cell? ⟨w.heap.size,0,none⟩=some (.slice fa cd.fields.length fc)∧V.cell? ⟨w.heap.size,1,none⟩=some (.int .i64 cd.globals)∧V.cell? ⟨w.heap.size,2,none⟩=some (.slice qa cd.funcs.length qc))∧w.heap.size<V.heap.size∧V.heap[w.heap.size+1+1]?=some (.cells #[.slice none 0 0,.slice none 0 0,.int .i64 0,.slice none 0 0,.slice none 0 0,.slice none 0 0,.slice none 0 0,.slice none 0 0,.slice none 0 0,.int .i64 0] 34 (0,0))∧c (w.heap.size+1+1)=14∧(∀ b,b<w.heap.size→c b=0)∧w.heap.size≤V.heap.size):=Lh (fun V c h=>by
    obtain ⟨⟨k0,k1,k2⟩,k3,k4,k5⟩:=HK.out W5 bO.out
    have hb:=(HT.out W5 bO.out).2.2.2
    have hz:=HZ.out W5 bO.out
    have e0:¬NZ (c5 w.heap.size):=by rw [aI.out _ (by omega)];exact nz0
    exact ⟨hb.trans (h.below (B:=w.heap.size) (fun b hb=>aI.out b (by omega)) hz),⟨h.cell k0 e0,h.cell k1 e0,h.cell k2 e0⟩,Nl k3 h.size,(h.keep _ aT.out.2 (by rw [aT.out.1];exact Xvf)).trans k5,(h.old _ aT.out.2).trans aT.out.1,fun b hb=>(h.old b (by omega)).trans (aI.out b (by omega)),Nt hz h.size⟩)
   go_upto_region 4 with fail
   rw [←aK]
   try rw [←aN]
   have dN:=Lh (And.intro aK aN)
   clear aK aN
   go_wp2_with fail
   obtain ⟨NN,cD⟩:∃ u,u=s.running.length+65536+1:=⟨_,rfl⟩
   have cN:=Lh cD
   clear cD
   go_loopg [7] NN (fun gk i wr=>∃ (k m:Nat),k≤s.running.length∧i=.int .i64 k∧(s.running.length - k)+m<gk∧Hid (∃ c sk,X2i cd s W5 c5 bt k wr c sk∧65536 - sk.step≤(m:Int)))
   case atStart=>exact ⟨0,65536,Nat.zero_le _,rfl,by have:=cN.out;omega,Lh ⟨_,_,aR.out,by have:=HV.out.step;omega⟩⟩
   case round=>
    obtain ⟨k,m,hk,rfl,dW,aJ⟩:=hrel
    obtain ⟨c,sk,aJ,cJ⟩:=aJ.out
    have HSt:=Lh aJ
    have bS:=Lh cJ
    clear aJ aR cJ
    have aH:=Lh HSt.out.path.len
    obtain ⟨bB,bC,bG,bH,bM,bN,bI,bJ,aX,aY,bK,bL,aV,aW,aZ,bA,aB,aS,aQ⟩:=HSt.out.st.look
    have cR:=Lh aS
    have cQ:=Lh aB
    have cO:=Lh aQ
    obtain ⟨⟨x0,x1,x2,x3,x4,x5,x6,x7,x8,x9⟩,-,xz⟩:=ten aB
    clear aB aS aQ
    have dX:(0:Int)≤(k:Int):=In _
    have h8:=HV.out.eight
    by_cases eA:k<s.running.length
    ·have dY:(k:Int)<(sk.running.length:Int):=by have:=aH.out;omega
     have bR:=Lh (HSt.out.path.inv (cL.out HV.out))
     go_wp2_with fail
     refine (Xtl sk _ k wr.heap.size wr (Nr _) cR.out (by have:=aH.out;omega) bR.out.calls).mono ?_
     rintro e w2 ⟨rfl,bV⟩
     have bU:=Lh (HSt.out.st.grow bV)
     have aU:Hid (Chg NZ c5 c W5 w2):=Lh (HSt.out.chg.trans (Chg.of_below bV nz0))
     clear x0 x1 x2 x3 x4 x5 x6 x7 x8 x9 xz bV
     cases bE:enB sk k with
     | false=>
      have HN:Hid (X2i cd s W5 c5 bt (k+1) w2 c sk):=Lh ⟨bU.out,aU.out,(.skip HSt.out.path (by have:=aH.out;omega) bE)⟩
      clear bE
      go_wp2_with fail
      go_roundg (gk - 1)
      case measure=>omega
      case rel=>exact ⟨k+1,m,by omega,by go_num,by omega,Lh ⟨_,_,HN.out,bS.out⟩⟩
     | true=>
      have bP:=Lh bE
      clear bE
      obtain ⟨dU,dV,eB,eC,eH,eI,eD,eE,dQ,dR,eF,eG,dO,dP,dS,dT,aB,-,-⟩:=bU.out.look
      obtain ⟨⟨x0,x1,x2,x3,x4,x5,x6,x7,x8,x9⟩,-,xz⟩:=ten aB
      by_cases aJ:65536≤sk.step
      ·obtain ⟨aF,-,-,aA,-,-,-⟩:=bQ.out _ _ aU.out
       have aD:Hid (Xva cd s w (.returned (.tuple #[.agg #[.slice none 0 0,.slice none 0 0,.int .i64 0,.slice none 0 0,.slice none 0 0,.slice none 0 0,.slice none 0 0,.slice none 0 0,.slice none 0 0,.int .i64 0],.int .i64 6])) (Xr6 w2 (w.heap.size+1+1) (.slice none 0 0) (.slice none 0 0) (.int .i64 0) (.slice none 0 0) (.slice none 0 0) (.slice none 0 0) (.slice none 0 0) (.slice none 0 0) (.slice none 0 0) (.int .i64 0))):=Lh ⟨V0 aF (by omega) aF.size (.slice none 0 0) (.slice none 0 0) (.int .i64 0) (.slice none 0 0) (.slice none 0 0) (.slice none 0 0) (.slice none 0 0) (.slice none 0 0) (.slice none 0 0) (.int .i64 0),.inr (.inl ⟨HV.out,k,sk,HSt.out.path,by have:=aH.out;omega,bP.out,aJ,rfl⟩)⟩
       obtain ⟨⟨y0,y1,y2,y3,y4,y5,y6,y7,y8,y9⟩,⟨z0,z1,z2,z3,z4,z5,z6,z7,z8,z9⟩,zz⟩:=ten aA
       have bT:=Lh aA
       clear aA aB aF
       go_wp2_with fail
       exact bodyPost_ret (V9 (p:=4) (u:=5) rfl (V4 bT.out (.slice none 0 0) (.slice none 0 0) (.int .i64 0) (.slice none 0 0) (.slice none 0 0) (.slice none 0 0) (.slice none 0 0) (.slice none 0 0) (.slice none 0 0) (.int .i64 0)) _ rfl rfl) rfl aD.out
      ·have dM:=Lh aJ
       have cA:sk.step<65536:=by omega
       have aG:=Lh cA
       obtain ⟨aF,⟨c0,c1,c2⟩,zc,-,-,aP,hz⟩:=bQ.out _ _ aU.out
       have cB:=Lh aF
       have cM:=Lh aP
       have cS:=Lh hz
       obtain ⟨m0,n,l,r,b,e,hp⟩:=bR.out.stepOk aG.out (X2h bP.out (by have:=aH.out;omega))
       have HP:=Lh hp
       clear aB aF aP hz hp
       go_wp2_with fail
       refine (Xvx cd fa qa fc qc w.heap.size sk c bt k m0 n l r b e w w2 HL.out rfl cB.out HV.out.sound hsm cS.out (HC.out.below cB.out) cM.out bU.out bR.out.mem HP.out).mono ?_
       rintro e9 w6 ⟨rfl,s',hR,c6,cE,cC⟩
       have HN:Hid (X2i cd s W5 c5 bt k w6 c6 s'∧65536 - s'.step≤((m - 1:Nat):Int)∧1≤m):=Lh ⟨⟨cE,aU.out.trans cC,(.step HSt.out.path (by have:=aH.out;omega) bP.out aG.out hR)⟩,by have:=hR.stp.1;have:=bS.out;have:=aG.out;omega,by have:=bS.out;have:=aG.out;omega⟩
       clear hR cE cC c0 c1 c2 zc x0 x1 x2 x3 x4 x5 x6 x7 x8 x9 xz
       go_wp2_with fail
       go_roundg (gk - 1)
       case measure=>omega
       case rel=>exact ⟨k,m - 1,by omega,rfl,by have:=HN.out.2.2;omega,Lh ⟨_,_,HN.out.1,HN.out.2.1⟩⟩
    ·have dZ:¬((k:Int)<(sk.running.length:Int)):=by have:=aH.out;omega
     obtain rfl:k=s.running.length:=by omega
     obtain ⟨aF,-,-,aA,bX,cI,-⟩:=bQ.out _ _ HSt.out.chg
     have aD:Hid (Xva cd s w (.returned (.tuple #[.agg #[.slice bB sk.mem.globals.length bC,.slice bG sk.mem.nodes.length bH,.int .i64 sk.fuel,.slice bM sk.running.length bN,.slice bI sk.nodes.length bJ,.slice aX sk.calls.length aY,.slice bK sk.results.length bL,.slice aV sk.begins.length aW,.slice aZ sk.ends.length bA,.int .i64 sk.step],.int .i64 0])) (Xr6 wr (w.heap.size+1+1) (.slice bB sk.mem.globals.length bC) (.slice bG sk.mem.nodes.length bH) (.int .i64 sk.fuel) (.slice bM sk.running.length bN) (.slice bI sk.nodes.length bJ) (.slice aX sk.calls.length aY) (.slice bK sk.results.length bL) (.slice aV sk.begins.length aW) (.slice aZ sk.ends.length bA) (.int .i64 sk.step))):=Lh ⟨V0 aF (by omega) aF.size (.slice bB sk.mem.globals.length bC) (.slice bG sk.mem.nodes.length bH) (.int .i64 sk.fuel) (.slice bM sk.running.length bN) (.slice bI sk.nodes.length bJ) (.slice aX sk.calls.length aY) (.slice bK sk.results.length bL) (.slice aV sk.begins.length aW) (.slice aZ sk.ends.length bA) (.int .i64 sk.step),.inr (.inr ⟨HV.out,sk,_,HSt.out.path,rfl,cO.out _ bX,fun V hz hV hc hm=>HSt.out.st.own2 cQ.out (by rw [Xtg] at hz;exact hz) (fun b hb h0 h1=>(hV b (Nat.le_of_not_lt fun h=>h0 (cI b h)) (by rw [Xtg];exact hb)).trans ((Xs2 (T:=fun t=>t=14) (c:=c) bX (by omega)).keep b hb h1)) hc hm⟩)⟩
     obtain ⟨⟨y0,y1,y2,y3,y4,y5,y6,y7,y8,y9⟩,⟨z0,z1,z2,z3,z4,z5,z6,z7,z8,z9⟩,zz⟩:=ten aA
     have bT:=Lh aA
     clear aA aF bX cI
     go_wp2_with fail
     exact bodyPost_ret (V9 (p:=4) (u:=5) rfl (V4 bT.out (.slice bB sk.mem.globals.length bC) (.slice bG sk.mem.nodes.length bH) (.int .i64 sk.fuel) (.slice bM sk.running.length bN) (.slice bI sk.nodes.length bJ) (.slice aX sk.calls.length aY) (.slice bK sk.results.length bL) (.slice aV sk.begins.length aW) (.slice aZ sk.ends.length bA) (.int .i64 sk.step)) _ rfl rfl) rfl aD.out
 ·rw [K8 hv]
  obtain ⟨-,-,-,aL⟩:=HK.out w1 aE.out
  obtain ⟨⟨y0,y1,y2,y3,y4,y5,y6,y7,y8,y9⟩,⟨z0,z1,z2,z3,z4,z5,z6,z7,z8,z9⟩,zz⟩:=ten aL
  have cP:=Lh aL
  have aD:Hid (Xva cd s w (.returned (.tuple #[.agg #[.slice none 0 0,.slice none 0 0,.int .i64 0,.slice none 0 0,.slice none 0 0,.slice none 0 0,.slice none 0 0,.slice none 0 0,.slice none 0 0,.int .i64 0],.int .i64 1])) (Xr6 w1 (w.heap.size+1+1) (.slice none 0 0) (.slice none 0 0) (.int .i64 0) (.slice none 0 0) (.slice none 0 0) (.slice none 0 0) (.slice none 0 0) (.slice none 0 0) (.slice none 0 0) (.int .i64 0))):=Lh ⟨V0 (HT.out w1 aE.out).2.2.2 (by omega) (HZ.out w1 aE.out) (.slice none 0 0) (.slice none 0 0) (.int .i64 0) (.slice none 0 0) (.slice none 0 0) (.slice none 0 0) (.slice none 0 0) (.slice none 0 0) (.slice none 0 0) (.int .i64 0),.inl ⟨hv,rfl⟩⟩
  clear aL
  go_wp2_with fail
  exact bodyPost_ret (V9 (p:=4) (u:=5) rfl (V4 cP.out (.slice none 0 0) (.slice none 0 0) (.int .i64 0) (.slice none 0 0) (.slice none 0 0) (.slice none 0 0) (.slice none 0 0) (.slice none 0 0) (.slice none 0 0) (.int .i64 0)) _ rfl rfl) rfl aD.out
