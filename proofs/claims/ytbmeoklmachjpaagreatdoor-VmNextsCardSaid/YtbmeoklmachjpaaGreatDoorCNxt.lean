/- VmNexts: for every code, machine and answer, Valid says which machines are valid, and Next returns the machine of the reference, or the specified errors. Conditions: none but the row's own (the listed tables lie as the program's text lays them, which the card ties). -/
import Derived.Test.YtbmeoklmachjpaaGreatDoorLnx
import Derived.Test.YtbmeoklmachjpaaGreatDoorDoo
set_option maxRecDepth 100000
set_option linter.unusedVariables false
set_option linter.unusedSimpArgs false
namespace Go.Proofs.YtbmeoklmachjpaaGreatDoor
open Go.ChangeShapes Go.WideShapes Go.ChangeAt Go.WideElems Go.Deep Go.RowKit
section
variable {H:Type} {enc:TypeId×Value→H} {w:World} {base:Nat} {spare:Nat→Bool} {held:Bool}
/-- a field of several cells -/
theorem Xph {t:TypeId} {fs:Array Field} {cs:List Value} {n:Nat} {y:DataW H×List MemPlace} (hs:Tryz.prog.underlying t=some (.struct fs)) (h:DataW.trod enc Tryz.prog w base spare held n t cs=some y) (hw:Fit t y.1)
  (j:Nat) {f:Field} {vs:List Value} (hf:fs[j]?=some f) (hv:(cs.drop f.offset).take (Tryz.prog.cellsOf f.type)=vs):∃ n' y',DataW.trod enc Tryz.prog w base spare held n' f.type vs=some y'∧Fit f.type y'.1:=by
 obtain ⟨xs,n',rfl,rfl,_,hxl,hx⟩:=DataW.trod_struct hs h
 have hj:j<xs.length:=by rw [hxl];exact (La hf)
 have h1:=hx j f hf
 rw [hv,List.getElem?_eq_getElem hj] at h1
 exact ⟨n',xs[j],h1,hw.part hs hf (by simp [List.getElem?_eq_getElem hj])⟩
theorem Xof:Tryz.prog.cellsOf 34=5:=by kernel_rfl
theorem Xo2 {r:Go.Reach} {b0:Nat} {v:Value} {d:DataW H} {p:List MemPlace} (hv:Value.okWide Tryz.prog w r b0 36 v) (h:DataW.Trod enc Tryz.prog w base spare held 36 v d p) (hw:Fit 36 d):∃ (m:Mch) (fv:Value),v=Xi fv m∧Xf w.heap.size w 4 (Qp w.heap.size) fv m.frames:=by
 obtain ⟨cs,n,rfl,hl,h⟩:=Xgi Tryz.underlying36 hv h
 match cs,hl.trans (show Tryz.prog.cellsOf 36=9 by kernel_rfl) with
 | [c0,c1,c2,c3,c4,c5,c6,c7,c8],_=>
  obtain ⟨_,_,h0,w0⟩:=Yh Tryz.underlying36 h hw 0 rfl (by kernel_rfl) rfl
  obtain ⟨_,_,hr,wr⟩:=Xph (vs:=[c1,c2,c3,c4,c5]) Tryz.underlying36 h hw 1 rfl (by show List.take (Tryz.prog.cellsOf 34) _=_;rw [Xof];rfl)
  obtain ⟨_,_,h6,_⟩:=Yh Tryz.underlying36 h hw 2 rfl Y2 rfl
  obtain ⟨_,_,h7,_⟩:=Yh Tryz.underlying36 h hw 3 rfl Y2 rfl
  obtain ⟨_,_,h8,_⟩:=Yh Tryz.underlying36 h hw 4 rfl Y2 rfl
  obtain ⟨_,_,h1,_⟩:=Yh Tryz.underlying34 hr wr 0 rfl Y2 rfl
  obtain ⟨_,_,h2,_⟩:=Yh Tryz.underlying34 hr wr 1 rfl Y2 rfl
  obtain ⟨_,_,h3,_⟩:=Yh Tryz.underlying34 hr wr 2 rfl Y2 rfl
  obtain ⟨_,_,h4,_⟩:=Yh Tryz.underlying34 hr wr 3 rfl Y2 rfl
  obtain ⟨_,_,h5,_⟩:=Yh Tryz.underlying34 hr wr 4 rfl Xqe rfl
  obtain ⟨x0,k0⟩:=Xpt h0 w0
  obtain ⟨x1,rfl,_⟩:=Q5 h1
  obtain ⟨x2,rfl,_⟩:=Q5 h2
  obtain ⟨x3,rfl,_⟩:=Q5 h3
  obtain ⟨x4,rfl,_⟩:=Q5 h4
  obtain ⟨x5,rfl,_⟩:=Xrk h5
  obtain ⟨x6,rfl,_⟩:=Q5 h6
  obtain ⟨x7,rfl,_⟩:=Q5 h7
  obtain ⟨x8,rfl,_⟩:=Q5 h8
  exact ⟨⟨x0,⟨x1,x2,x3,x4,x5⟩,x6,x7,x8⟩,c0,rfl,k0⟩
end
theorem Vi:Tryz.f4.params=#[25,36,3]:=by kernel_rfl
theorem Xf7:Tryz.f4.resultTypes=#[4]:=by kernel_rfl
theorem Xgy:∀ t∈([25,36,3]:List TypeId),Tryz.prog.readableRec t=true∧t<Tryz.prog.types.size:=fun t ht=>by
 simp only [List.mem_cons,List.mem_nil_iff,or_false] at ht
 rcases ht with rfl|rfl|rfl
 all_goals exact ⟨by kernel_rfl,of_decide_eq_true (by kernel_rfl)⟩
theorem Xdr (os:Os) (started:os.Started) (H:Type) (enc:TypeId×Value→H) :
  ReturnsInHanded {} Tryz.checked os 4 .any (fun w args=>(Rows.vmNextsSpec.pre enc Tryz.prog Tryz.f4 [] false w args∧laidMetH Tryz.prog Xcq w)∧sizedMet enc Tryz.prog Tryz.f4 (OpenSpec.ofChange Rows.vmNextsSpec) false w args)
   (Rows.vmNextsSpec.post enc Tryz.prog Tryz.f4 false true false false):=by
 refine returnsInHanded_of_change_and (C:=Tryz.checked) (X:=fun w _=>laidMetH Tryz.prog Xcq w) (fun _ _ _ hh h=>h.of_heap hh) own started (by kernel_rfl) Tryz.func4
  (ChangeSpec.witness_shaped (enc:=enc) (C:=Tryz.checked) (os:=os) (X:=fun w _=>laidMetH Tryz.prog Xcq w) false (World.doorLaid Tryz.prog 38 os) #[.agg #[.slice none 0 0,.int .i64 0,.slice none 0 0],.agg #[.slice none 0 0,.int .i64 0,.int .i64 0,.int .i64 0,.int .i64 0,.int .i64 0,.int .i64 0,.int .i64 0,.int .i64 0],.int .i64 0] 8 rfl (World.shaped_of_RefB (by kernel_rfl) (by kernel_rfl)) (by kernel_rfl) (by kernel_rfl) (by kernel_rfl) (Xg1 os _)) ?_
 intro W base args ds gs before hval0 hW _ hsz0 hL _
 have hval:∀ (j:Nat) t v,Tryz.f4.params[j]?=some t→args[j]?=some v→Value.okWide Tryz.prog W .any base t v:=hval0
 have hsz:(DataW.weightsEach Tryz.prog (Tryz.f4.params.toList++_) (ds++gs)).all (·≤reachBytes)=true:=hsz0
 have hW':=hW
 obtain ⟨p,q,hA0,hV,rfl,hfz,hnd⟩:=hW
 have hA:DataW.TrodAll enc Tryz.prog W 0 (fun _=>true) true Tryz.f4.params.toList args.toList ds p:=hA0
 rw [Vi] at hA hval hsz
 obtain ⟨v0,vs0,d0,ds0,p0,q0,hargs,rfl,rfl,h0,r0⟩:=trodAll_cons hA
 obtain ⟨v1,vs1,d1,ds1,p1,q1,rfl,rfl,rfl,h1,r1⟩:=trodAll_cons r0
 obtain ⟨v2,vs2,d2,ds2,p2,q2,rfl,rfl,rfl,h2,r2⟩:=trodAll_cons r1
 obtain ⟨rfl,rfl,rfl⟩:=trodAll_nil r2
 obtain rfl:args=#[v0,v1,v2]:=by cases args;simp_all
 obtain ⟨rfl,rfl⟩:=trodVars_none hV
 obtain ⟨c,hc⟩:=Xkt (hval 0 25 v0 rfl rfl) h0 (Fit.of_each hsz (j:=0) rfl rfl)
 obtain ⟨m,fv,rfl,hm⟩:=Xo2 (hval 1 36 v1 rfl rfl) h1 (Fit.of_each hsz (j:=1) rfl rfl)
 obtain ⟨a,rfl,rfl,rfl,wa⟩:=open_int Tryz.underlying3 (hval 2 3 v2 rfl rfl) h2
 clear hA0 hval0 hA hsz0
 refine (Xfn Xgx c m a v0 fv W (Xku hL) hc hm).mono fun e W' ⟨he,hb⟩=>?_
 subst he
 exact ⟨_,rfl,Xgw rfl (by rw [Vi];exact Xgy) Xf7 hW' rfl rfl rfl hb⟩
theorem Xga:Rows.VmNextsSaid:=
 OpenClaim.holds_of_wide 4 Tryz.f4 rfl rfl rfl rfl rfl rfl rfl ⟨rfl,rfl,rfl,rfl,rfl⟩ rfl rfl rfl rfl rfl (by kernel_rfl) Tryz.func4 (by kernel_rfl)
  (of_decide_eq_true (by kernel_rfl)) (by unfold Func.isWrapper;first|(rw [if_pos (by decide +kernel)];kernel_rfl)|(rw [if_neg (by decide +kernel)];exact ⟨rfl,rfl⟩))
  (fun os started H enc _=>Xdr os started H enc)
theorem Xee (f:FuncId) (fn:Func) (hf:Tryz.pinned.checked.prog.funcNamed "heartwood/heartwoodlaw15.VmNexts"=some f) (hfn:Tryz.pinned.checked.prog.funcs[f]?=some fn) :
  true=Tryz.pinned.checked.prog.looks []∧∀ (j:Nat) t,fn.params[j]?=some t→Tryz.pinned.checked.prog.wantsStandIn t=false:=by
 obtain rfl:f=4:=Option.some.inj ((show Tryz.prog.funcNamed "heartwood/heartwoodlaw15.VmNexts"=some 4 by kernel_rfl).symm.trans hf) |>.symm
 obtain rfl:fn=Tryz.f4:=(Option.some.inj (Tryz.func4.symm.trans hfn)).symm
 refine ⟨by kernel_rfl,fun j t ht=>?_⟩
 rw [Vi] at ht
 have hm:t∈([25,36,3]:List TypeId):=by simpa using Array.mem_of_getElem? ht
 have hall:(([25,36,3]:List TypeId).all fun u=>!Tryz.prog.wantsStandIn u)=true:=by kernel_rfl
 exact (show Tryz.prog.wantsStandIn t=false by simpa using List.all_eq_true.1 hall t hm)
theorem vmNexts_card:Rows.VmNextsCardSaid:=
 Claim7.holds_tied_plain_at .later [] _ _ _ _ Xga (fun _ h=>by cases h) (by kernel_rfl) (fun _ h=>by cases h) vmNexts_row_tie rfl ⟨rfl,rfl⟩ (by kernel_rfl) rfl Xee (by kernel_rfl)
end Go.Proofs.YtbmeoklmachjpaaGreatDoor
