/- VmRuns: for every code, memory, call and fuel, Run and Accesses return the outcome, the memory and the accesses of the reference, or the specified errors. Conditions: none but the row's own (the listed tables lie as the program's text lays them, which the card ties). -/
import Derived.Test.YtbmeoklmachjpaaGreatDoorLrn
import Derived.Test.YtbmeoklmachjpaaGreatDoorRru
import Derived.Test.YtbmeoklmachjpaaGreatDoorDoo
set_option maxRecDepth 100000
set_option linter.unusedVariables false
set_option linter.unusedSimpArgs false
namespace Go.Proofs.YtbmeoklmachjpaaGreatDoor
open Go.ChangeShapes Go.WideShapes Go.ChangeAt Go.WideElems Go.RowKit
theorem runs_params:Tryz.f5.params=#[25,52,27,3]:=by kernel_rfl
theorem runs_result:Tryz.f5.resultTypes=#[4]:=by kernel_rfl
theorem runs_reads:∀ t∈([25,52,27,3]:List TypeId),Tryz.prog.readableRec t=true∧t<Tryz.prog.types.size:=fun t ht=>by
 simp only [List.mem_cons,List.mem_nil_iff,or_false] at ht
 rcases ht with rfl|rfl|rfl|rfl
 all_goals exact ⟨by kernel_rfl,of_decide_eq_true (by kernel_rfl)⟩
theorem vmRuns_lifted (os:Os) (started:os.Started) (H:Type) (enc:TypeId×Value→H) :
  ReturnsInHanded {} Tryz.checked os 5 .any (fun w args=>(Rows.vmRunsSpec.pre enc Tryz.prog Tryz.f5 [] false w args∧laidMetH Tryz.prog Xcq w)∧sizedMet enc Tryz.prog Tryz.f5 (OpenSpec.ofChange Rows.vmRunsSpec) false w args)
   (Rows.vmRunsSpec.post enc Tryz.prog Tryz.f5 false true false false):=by
 refine returnsInHanded_of_change_and (C:=Tryz.checked) (X:=fun w _=>laidMetH Tryz.prog Xcq w) (fun _ _ _ hh h=>h.of_heap hh) own started (by kernel_rfl) Tryz.func5
  (ChangeSpec.witness_shaped (enc:=enc) (C:=Tryz.checked) (os:=os) (X:=fun w _=>laidMetH Tryz.prog Xcq w) false (World.doorLaid Tryz.prog 38 os) #[.agg #[.slice none 0 0,.int .i64 0,.slice none 0 0],.agg #[.slice none 0 0,.slice none 0 0],.agg #[.string ⟨#[]⟩,.slice none 0 0],.int .i64 0] 8 rfl (World.shaped_of_RefB (by kernel_rfl) (by kernel_rfl)) (by kernel_rfl) (by kernel_rfl) (by kernel_rfl) (Xg1 os _)) ?_
 intro W base args ds gs before hval0 hW _ hsz0 hL _
 have hval:∀ (j:Nat) t v,Tryz.f5.params[j]?=some t→args[j]?=some v→Value.okWide Tryz.prog W .any base t v:=hval0
 have hsz:(DataW.weightsEach Tryz.prog (Tryz.f5.params.toList++_) (ds++gs)).all (·≤reachBytes)=true:=hsz0
 have hW':=hW
 obtain ⟨p,q,hA0,hV,rfl,hfz,hnd⟩:=hW
 have hA:DataW.TrodAll enc Tryz.prog W 0 (fun _=>true) true Tryz.f5.params.toList args.toList ds p:=hA0
 rw [runs_params] at hA hval hsz
 obtain ⟨v0,vs0,d0,ds0,p0,q0,hargs,rfl,rfl,h0,r0⟩:=trodAll_cons hA
 obtain ⟨v1,vs1,d1,ds1,p1,q1,rfl,rfl,rfl,h1,r1⟩:=trodAll_cons r0
 obtain ⟨v2,vs2,d2,ds2,p2,q2,rfl,rfl,rfl,h2,r2⟩:=trodAll_cons r1
 obtain ⟨v3,vs3,d3,ds3,p3,q3,rfl,rfl,rfl,h3,r3⟩:=trodAll_cons r2
 obtain ⟨rfl,rfl,rfl⟩:=trodAll_nil r3
 obtain rfl:args=#[v0,v1,v2,v3]:=by cases args;simp_all
 obtain ⟨rfl,rfl⟩:=trodVars_none hV
 obtain ⟨c,hc⟩:=Xkt (hval 0 25 v0 rfl rfl) h0 (Fit.of_each hsz (j:=0) rfl rfl)
 obtain ⟨m,hm⟩:=Xrz (hval 1 52 v1 rfl rfl) h1 (Fit.of_each hsz (j:=1) rfl rfl)
 obtain ⟨x,hx⟩:=Xo4 (hval 2 27 v2 rfl rfl) h2 (Fit.of_each hsz (j:=2) rfl rfl)
 obtain ⟨a,rfl,rfl,rfl,wa⟩:=open_int Tryz.underlying3 (hval 3 3 v3 rfl rfl) h3
 clear hA0 hval0 hA hsz0
 refine (vmRuns_walk Xgx (rrun_all ranswered_all) c m x a v0 v1 v2 W (Xku hL) hc hm hx).mono fun e W' ⟨he,hb⟩=>?_
 subst he
 exact ⟨_,rfl,Xgw rfl (by rw [runs_params];exact runs_reads) runs_result hW' rfl rfl rfl hb⟩
theorem vmRuns_said:Rows.VmRunsSaid:=
 OpenClaim.holds_of_wide 5 Tryz.f5 rfl rfl rfl rfl rfl rfl rfl ⟨rfl,rfl,rfl,rfl,rfl⟩ rfl rfl rfl rfl rfl (by kernel_rfl) Tryz.func5 (by kernel_rfl)
  (of_decide_eq_true (by kernel_rfl)) (by unfold Func.isWrapper;first|(rw [if_pos (by decide +kernel)];kernel_rfl)|(rw [if_neg (by decide +kernel)];exact ⟨rfl,rfl⟩))
  (fun os started H enc _=>vmRuns_lifted os started H enc)
theorem vmRuns_plain (f:FuncId) (fn:Func) (hf:Tryz.pinned.checked.prog.funcNamed "heartwood/heartwoodlaw15.VmRuns"=some f) (hfn:Tryz.pinned.checked.prog.funcs[f]?=some fn) :
  true=Tryz.pinned.checked.prog.looks []∧∀ (j:Nat) t,fn.params[j]?=some t→Tryz.pinned.checked.prog.wantsStandIn t=false:=by
 obtain rfl:f=5:=Option.some.inj ((show Tryz.prog.funcNamed "heartwood/heartwoodlaw15.VmRuns"=some 5 by kernel_rfl).symm.trans hf) |>.symm
 obtain rfl:fn=Tryz.f5:=(Option.some.inj (Tryz.func5.symm.trans hfn)).symm
 refine ⟨by kernel_rfl,fun j t ht=>?_⟩
 rw [runs_params] at ht
 have hm:t∈([25,52,27,3]:List TypeId):=by simpa using Array.mem_of_getElem? ht
 have hall:(([25,52,27,3]:List TypeId).all fun u=>!Tryz.prog.wantsStandIn u)=true:=by kernel_rfl
 exact (show Tryz.prog.wantsStandIn t=false by simpa using List.all_eq_true.1 hall t hm)
theorem vmRuns_card:Rows.VmRunsCardSaid:=
 Claim7.holds_tied_plain_at .later [] _ _ _ _ vmRuns_said (fun _ h=>by cases h) (by kernel_rfl) (fun _ h=>by cases h) vmRuns_row_tie rfl ⟨rfl,rfl⟩ (by kernel_rfl) rfl vmRuns_plain (by kernel_rfl)
end Go.Proofs.YtbmeoklmachjpaaGreatDoor
