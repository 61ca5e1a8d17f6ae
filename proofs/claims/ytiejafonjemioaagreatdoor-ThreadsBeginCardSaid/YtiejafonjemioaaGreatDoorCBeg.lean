/- ThreadsBegin: for every code, memory, rows of calls, fuel and state, New, Enabled and Done return what is specified. Conditions: none but the row's own (the listed tables lie as the program's text lays them, which the card ties). MADE BY wip/gen_cbeg.py -/
import Derived.Test.YtiejafonjemioaaGreatDoorLbg
import Derived.Test.YtiejafonjemioaaGreatDoorDoo
set_option maxRecDepth 100000
set_option linter.unusedVariables false
set_option linter.unusedSimpArgs false
open Go.Value renaming slice→σ
open Go.Obj renaming cells→χ
namespace Go.Proofs.YtiejafonjemioaaGreatDoor
open Go.ChangeShapes Go.WideShapes Go.ChangeAt Go.WideElems Go.Deep Go.RowKit
section
variable {H:Type} {enc:TypeId×Value->H} {w:World} {base:Nat} {spare:Nat->Bool} {held:Bool}
theorem rd_cals {n:Nat} {v:Value} {y:DataW H×List MemPlace} (h:DataW.trod enc Tryz.prog w base spare held n 54 [v]=some y) (hw:Fit 54 y.1):∃ l:List Cal,Xf w.heap.size w 2 (Xsr w.heap.size) v l:=
 V7 ⟨ByteArray.empty,[]⟩ (by_:=40) Tryz.underlying54 κ κ ω ω (fun b o n cs y hc hl h hw=>by
  match cs,hl with
  | [c0,c1],_=>
   obtain ⟨_,_,h0,w0⟩:=Yh Tryz.underlying80 h hw 0 rfl Xe9 rfl
   obtain ⟨_,_,h1,w1⟩:=Yh Tryz.underlying80 h hw 1 rfl Kc rfl
   obtain ⟨x0,rfl,k0⟩:=Xnj h0 w0
   obtain ⟨x1,k1⟩:=Xah h1 w1
   exact ⟨⟨x0,x1⟩,hc 0 ω,⟨c1,hc 1 ω,k1⟩,k0⟩) h hw
theorem Xph {t:TypeId} {fs:Array Field} {cs:List Value} {n:Nat} {y:DataW H×List MemPlace} (hs:Tryz.prog.underlying t=some (.struct fs)) (h:DataW.trod enc Tryz.prog w base spare held n t cs=some y) (hw:Fit t y.1)
  (j:Nat) {f:Field} {vs:List Value} (hf:fs[j]?=some f) (hv:(cs.drop f.offset).take (Tryz.prog.cellsOf f.type)=vs):∃ n' y',DataW.trod enc Tryz.prog w base spare held n' f.type vs=some y'/\Fit f.type y'.1:=by
 obtain ⟨xs,n',rfl,rfl,_,aA,hx⟩:=DataW.trod_struct hs h
 have hj:j<xs.length:=by rw [aA];exact (La hf)
 have h1:=hx j f hf
 rw [hv,Lg hj] at h1
 exact ⟨n',xs[j],h1,hw.part hs hf (by simp [Lg hj])⟩
theorem rd_calss {n:Nat} {v:Value} {y:DataW H×List MemPlace} (h:DataW.trod enc Tryz.prog w base spare held n 29 [v]=some y) (hw:Fit 29 y.1):∃ l:List (List Cal),Xf w.heap.size w 1 (Xsa 2 (Xsr w.heap.size) w.heap.size) v l:=
 V7 [] (by_:=24) Tryz.underlying29 κ κ ω ω (fun b o n cs y hc hl h hw=>by
  match cs,hl with
  | [c0],_=>
   obtain ⟨x0,k0⟩:=rd_cals h hw
   exact ⟨x0,c0,hc 0 ω,k0⟩) h hw
theorem rd_intss {n:Nat} {v:Value} {y:DataW H×List MemPlace} (h:DataW.trod enc Tryz.prog w base spare held n 32 [v]=some y) (hw:Fit 32 y.1):∃ l:List (List Int),Xf w.heap.size w 1 (Xsa 1 Zd w.heap.size) v l:=
 V7 [] (by_:=24) Tryz.underlying32 κ κ ω ω (fun b o n cs y hc hl h hw=>by
  match cs,hl with
  | [c0],_=>
   obtain ⟨x0,k0⟩:=Xah h hw
   exact ⟨x0,c0,hc 0 ω,k0⟩) h hw
theorem cells_cost:Tryz.prog.cellsOf 82=3:=by kernel_rfl
theorem rd_outs {n:Nat} {v:Value} {y:DataW H×List MemPlace} (h:DataW.trod enc Tryz.prog w base spare held n 78 [v]=some y) (hw:Fit 78 y.1):∃ l:List Xr7,Xf w.heap.size w 5 Xtu v l:=
 V7 ⟨0,0,0,0,0⟩ (by_:=40) Tryz.underlying78 κ κ ω ω (fun b o n cs y hc hl h hw=>by
  match cs,hl with
  | [c0,c1,c2,c3,c4],_=>
   obtain ⟨_,_,h0,_⟩:=Yh Tryz.underlying84 h hw 0 rfl Xqe rfl
   obtain ⟨_,_,h1,_⟩:=Yh Tryz.underlying84 h hw 1 rfl Y2 rfl
   obtain ⟨_,_,hr,wr⟩:=Xph (vs:=[c2,c3,c4]) Tryz.underlying84 h hw 2 rfl (by show List.take (Tryz.prog.cellsOf 82) _=_;rw [cells_cost];rfl)
   obtain ⟨_,_,h2,_⟩:=Yh Tryz.underlying82 hr wr 0 rfl Y2 rfl
   obtain ⟨_,_,h3,_⟩:=Yh Tryz.underlying82 hr wr 1 rfl Y2 rfl
   obtain ⟨_,_,h4,_⟩:=Yh Tryz.underlying82 hr wr 2 rfl Y2 rfl
   obtain ⟨x0,rfl,k0⟩:=Xrk h0
   obtain ⟨x1,rfl,k1⟩:=Q5 h1
   obtain ⟨x2,rfl,k2⟩:=Q5 h2
   obtain ⟨x3,rfl,k3⟩:=Q5 h3
   obtain ⟨x4,rfl,k4⟩:=Q5 h4
   exact ⟨⟨x0,x1,x2,x3,x4⟩,hc 0 ω,hc 1 ω,hc 2 ω,hc 3 ω,hc 4 ω,k0,k1,k2,k3,k4⟩) h hw
theorem rd_outss {n:Nat} {v:Value} {y:DataW H×List MemPlace} (h:DataW.trod enc Tryz.prog w base spare held n 31 [v]=some y) (hw:Fit 31 y.1):∃ l:List (List Xr7),Xf w.heap.size w 1 (Xsa 5 Xtu w.heap.size) v l:=
 V7 [] (by_:=24) Tryz.underlying31 κ κ ω ω (fun b o n cs y hc hl h hw=>by
  match cs,hl with
  | [c0],_=>
   obtain ⟨x0,k0⟩:=rd_outs h hw
   exact ⟨x0,c0,hc 0 ω,k0⟩) h hw
theorem Xof:Tryz.prog.cellsOf 49=5:=by kernel_rfl
theorem rd_machs {n:Nat} {v:Value} {y:DataW H×List MemPlace} (h:DataW.trod enc Tryz.prog w base spare held n 30 [v]=some y) (hw:Fit 30 y.1):∃ l:List Mch,Xf w.heap.size w 9 (Xu4 w.heap.size) v l:=
 V7 ⟨[],⟨0,0,0,0,0⟩,0,0,0⟩ (by_:=88) Tryz.underlying30 κ κ ω ω (fun b o n cs y hc hl h hw=>by
  match cs,hl with
  | [c0,c1,c2,c3,c4,c5,c6,c7,c8],_=>
   obtain ⟨_,_,h0,w0⟩:=Yh Tryz.underlying51 h hw 0 rfl κ rfl
   obtain ⟨_,_,hr,wr⟩:=Xph (vs:=[c1,c2,c3,c4,c5]) Tryz.underlying51 h hw 1 rfl (by show List.take (Tryz.prog.cellsOf 49) _=_;rw [Xof];rfl)
   obtain ⟨_,_,h6,_⟩:=Yh Tryz.underlying51 h hw 2 rfl Y2 rfl
   obtain ⟨_,_,h7,_⟩:=Yh Tryz.underlying51 h hw 3 rfl Y2 rfl
   obtain ⟨_,_,h8,_⟩:=Yh Tryz.underlying51 h hw 4 rfl Y2 rfl
   obtain ⟨_,_,h1,_⟩:=Yh Tryz.underlying49 hr wr 0 rfl Y2 rfl
   obtain ⟨_,_,h2,_⟩:=Yh Tryz.underlying49 hr wr 1 rfl Y2 rfl
   obtain ⟨_,_,h3,_⟩:=Yh Tryz.underlying49 hr wr 2 rfl Y2 rfl
   obtain ⟨_,_,h4,_⟩:=Yh Tryz.underlying49 hr wr 3 rfl Y2 rfl
   obtain ⟨_,_,h5,_⟩:=Yh Tryz.underlying49 hr wr 4 rfl Xqe rfl
   obtain ⟨x0,k0⟩:=Xpt h0 w0
   obtain ⟨x1,rfl,k1⟩:=Q5 h1
   obtain ⟨x2,rfl,k2⟩:=Q5 h2
   obtain ⟨x3,rfl,k3⟩:=Q5 h3
   obtain ⟨x4,rfl,k4⟩:=Q5 h4
   obtain ⟨x5,rfl,k5⟩:=Xrk h5
   obtain ⟨x6,rfl,k6⟩:=Q5 h6
   obtain ⟨x7,rfl,k7⟩:=Q5 h7
   obtain ⟨x8,rfl,k8⟩:=Q5 h8
   exact ⟨⟨x0,⟨x1,x2,x3,x4,x5⟩,x6,x7,x8⟩,c0,fun j v hv=>(hc j (by simpa [Xtv] using (Ll hv))).trans hv,k0,⟨k1,k2,k3,k4,k5⟩,k6,k7,k8⟩) h hw
theorem cells_mem:Tryz.prog.cellsOf 28=2:=by kernel_rfl
theorem rd_thr {r:Go.Reach} {b0:Nat} {v:Value} {d:DataW H} {p:List MemPlace} (hv:Value.okWide Tryz.prog w r b0 34 v) (h:DataW.Trod enc Tryz.prog w base spare held 34 v d p) (hw:Fit 34 d):∃ s:Thr,Xsd w.heap.size w v s:=by
 obtain ⟨cs,n,rfl,hl,h⟩:=Xgi Tryz.underlying34 hv h
 match cs,hl.trans (show Tryz.prog.cellsOf 34=10 by kernel_rfl) with
 | [c0,c1,c2,c3,c4,c5,c6,c7,c8,c9],_=>
  obtain ⟨_,_,hm,wm⟩:=Xph (vs:=[c0,c1]) Tryz.underlying34 h hw 0 rfl (by show List.take (Tryz.prog.cellsOf 28) _=_;rw [cells_mem];rfl)
  obtain ⟨_,_,h0,w0⟩:=Yh Tryz.underlying28 hm wm 0 rfl Kc rfl
  obtain ⟨_,_,h1,w1⟩:=Yh Tryz.underlying28 hm wm 1 rfl κ rfl
  obtain ⟨_,_,h2,_⟩:=Yh Tryz.underlying34 h hw 1 rfl Y2 rfl
  obtain ⟨_,_,h3,w3⟩:=Yh Tryz.underlying34 h hw 2 rfl κ rfl
  obtain ⟨_,_,h4,w4⟩:=Yh Tryz.underlying34 h hw 3 rfl Kc rfl
  obtain ⟨_,_,h5,w5⟩:=Yh Tryz.underlying34 h hw 4 rfl κ rfl
  obtain ⟨_,_,h6,w6⟩:=Yh Tryz.underlying34 h hw 5 rfl κ rfl
  obtain ⟨_,_,h7,w7⟩:=Yh Tryz.underlying34 h hw 6 rfl κ rfl
  obtain ⟨_,_,h8,w8⟩:=Yh Tryz.underlying34 h hw 7 rfl κ rfl
  obtain ⟨_,_,h9,_⟩:=Yh Tryz.underlying34 h hw 8 rfl Y2 rfl
  obtain ⟨x0,k0⟩:=Xah h0 w0
  obtain ⟨x1,k1⟩:=Xpx h1 w1
  obtain ⟨x2,rfl,k2⟩:=Q5 h2
  obtain ⟨x3,k3⟩:=rd_machs h3 w3
  obtain ⟨x4,k4⟩:=Xah h4 w4
  obtain ⟨x5,k5⟩:=rd_calss h5 w5
  obtain ⟨x6,k6⟩:=rd_outss h6 w6
  obtain ⟨x7,k7⟩:=rd_intss h7 w7
  obtain ⟨x8,k8⟩:=rd_intss h8 w8
  obtain ⟨x9,rfl,k9⟩:=Q5 h9
  exact ⟨⟨⟨x0,x1⟩,x2,x3,x4,x5,x6,x7,x8,x9⟩,c0,c1,c3,c4,c5,c6,c7,c8,rfl,k0,k1,k3,k4,k5,k6,k7,k8,k2,k9⟩
end
theorem begin_params:Tryz.f3.params=#[25,28,29,3,34]:=by kernel_rfl
theorem begin_result:Tryz.f3.resultTypes=#[4]:=by kernel_rfl
theorem begin_reads:∀ t∈([25,28,29,3,34]:List TypeId),Tryz.prog.readableRec t=true/\t<Tryz.prog.types.size:=fun t ht=>by
 simp only [List.mem_cons,List.mem_nil_iff,or_false] at ht
 rcases ht with rfl|rfl|rfl|rfl|rfl
 all_goals exact ⟨κ,of_decide_eq_true κ⟩
theorem threadsBegin_lifted (os:Os) (started:os.Started) (H:Type) (enc:TypeId×Value->H) :
  ReturnsInHanded {} Tryz.checked os 3 .any (fun w args=>(Rows.threadsBeginSpec.pre enc Tryz.prog Tryz.f3 [] false w args/\laidMetH Tryz.prog Xcq w)/\sizedMet enc Tryz.prog Tryz.f3 (OpenSpec.ofChange Rows.threadsBeginSpec) false w args)
   (Rows.threadsBeginSpec.post enc Tryz.prog Tryz.f3 false true false false):=by
 refine returnsInHanded_of_change_and (C:=Tryz.checked) (X:=fun w _=>laidMetH Tryz.prog Xcq w) (fun _ _ _ hh h=>h.of_heap hh) own started κ Tryz.func3
  (ChangeSpec.witness_shaped (enc:=enc) (C:=Tryz.checked) (os:=os) (X:=fun w _=>laidMetH Tryz.prog Xcq w) false (World.doorLaid Tryz.prog 38 os) #[.agg #[ν,ι 0,ν],.agg #[ν,ν],ν,ι 0,.agg Bz] 11 rfl (World.shaped_of_RefB κ κ) κ κ κ (Xg1 os _)) ?_
 intro W base args ds gs aE aB hW _ aD hL _
 have aA:∀ (j:Nat) t v,Tryz.f3.params[j]?=some t->args[j]?=some v->Value.okWide Tryz.prog W .any base t v:=aB
 have aC:(DataW.weightsEach Tryz.prog (Tryz.f3.params.toList++_) (ds++gs)).all (·<=reachBytes)=true:=aD
 have aH:=hW
 obtain ⟨p,q,aF,hV,rfl,aN,aO⟩:=hW
 have hA:DataW.TrodAll enc Tryz.prog W 0 (fun _=>true) true Tryz.f3.params.toList args.toList ds p:=aF
 rw [begin_params] at hA aA aC
 obtain ⟨v0,aP,d0,aI,p0,q0,aG,rfl,rfl,h0,r0⟩:=trodAll_cons hA
 obtain ⟨v1,aQ,d1,aJ,p1,q1,rfl,rfl,rfl,h1,r1⟩:=trodAll_cons r0
 obtain ⟨v2,aR,d2,aK,p2,q2,rfl,rfl,rfl,h2,r2⟩:=trodAll_cons r1
 obtain ⟨v3,aS,d3,aL,p3,q3,rfl,rfl,rfl,h3,r3⟩:=trodAll_cons r2
 obtain ⟨v4,aT,d4,aM,p4,q4,rfl,rfl,rfl,h4,r4⟩:=trodAll_cons r3
 obtain ⟨rfl,rfl,rfl⟩:=trodAll_nil r4
 obtain rfl:args=#[v0,v1,v2,v3,v4]:=by cases args;simp_all
 obtain ⟨rfl,rfl⟩:=trodVars_none hV
 obtain ⟨c,hc⟩:=Xkt (aA 0 25 v0 rfl rfl) h0 (Fit.of_each aC (j:=0) rfl rfl)
 obtain ⟨m,hm⟩:=Xrz (aA 1 28 v1 rfl rfl) h1 (Fit.of_each aC (j:=1) rfl rfl)
 obtain ⟨la,ll,lc,rfl⟩:=okWide_slice Tryz.underlying29 (aA 2 29 v2 rfl rfl)
 obtain ⟨_,h2⟩:=h2
 obtain ⟨l,hl⟩:=rd_calss (y:=(d2,p2)) h2 (Fit.of_each aC (j:=2) rfl rfl)
 obtain ⟨a,rfl,rfl,rfl,wa⟩:=open_int Tryz.underlying3 (aA 3 3 v3 rfl rfl) h3
 obtain ⟨s,hs⟩:=rd_thr (aA 4 34 v4 rfl rfl) h4 (Fit.of_each aC (j:=4) rfl rfl)
 clear aF aB hA aD
 refine (threadsBegin_walk c m l a (Xks wa) s v0 v1 _ v4 W (Xku hL) hc hm hl hs).mono fun e W' ⟨he,hb⟩=>?_
 subst he
 exact ⟨_,rfl,Xgw rfl (by rw [begin_params];exact begin_reads) begin_result aH rfl rfl rfl hb⟩
theorem threadsBegin_said:Rows.ThreadsBeginSaid:=
 OpenClaim.holds_of_wide 3 Tryz.f3 rfl rfl rfl rfl rfl rfl rfl ⟨rfl,rfl,rfl,rfl,rfl⟩ rfl rfl rfl rfl rfl κ Tryz.func3 κ
  (of_decide_eq_true κ) (by unfold Func.isWrapper;first|(rw [if_pos (by decide +kernel)];kernel_rfl)|(rw [if_neg (by decide +kernel)];exact ⟨rfl,rfl⟩))
  (fun os aA H enc _=>threadsBegin_lifted os aA H enc)
theorem threadsBegin_plain (f:FuncId) (fn:Func) (hf:Tryz.pinned.checked.prog.funcNamed "heartwood/heartwoodlaw45.ThreadsBegin"=some f) (hfn:Tryz.pinned.checked.prog.funcs[f]?=some fn) :
  true=Tryz.pinned.checked.prog.looks []/\∀ (j:Nat) t,fn.params[j]?=some t->Tryz.pinned.checked.prog.wantsStandIn t=false:=by
 obtain rfl:f=3:=Option.some.inj ((show Tryz.prog.funcNamed "heartwood/heartwoodlaw45.ThreadsBegin"=some 3 by kernel_rfl).symm.trans hf) |>.symm
 obtain rfl:fn=Tryz.f3:=(Option.some.inj (Tryz.func3.symm.trans hfn)).symm
 refine ⟨κ,fun j t ht=>?_⟩
 rw [begin_params] at ht
 have hm:t∈([25,28,29,3,34]:List TypeId):=by simpa using Array.mem_of_getElem? ht
 have aA:(([25,28,29,3,34]:List TypeId).all fun u=>!Tryz.prog.wantsStandIn u)=true:=by kernel_rfl
 exact (show Tryz.prog.wantsStandIn t=false by simpa using List.all_eq_true.1 aA t hm)
theorem threadsBegin_card:Rows.ThreadsBeginCardSaid:=
 Claim7.holds_tied_plain_at .later [] _ _ _ _ threadsBegin_said (fun _ h=>by cases h) κ (fun _ h=>by cases h) threadsBegin_row_tie rfl ⟨rfl,rfl⟩ κ rfl threadsBegin_plain κ
