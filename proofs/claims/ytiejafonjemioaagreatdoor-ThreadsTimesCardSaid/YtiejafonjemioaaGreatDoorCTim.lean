/- ThreadsTimes: for every code, memory, rows of calls, fuel and schedule, states stay valid, steps are counted, and the access that is announced is the one that is made. Conditions: none but the row's own (the listed tables lie as the program's text lays them, which the card ties). -/
import Derived.Test.YtiejafonjemioaaGreatDoorLtm
import Derived.Test.YtiejafonjemioaaGreatDoorDoo
set_option maxRecDepth 100000
set_option linter.unusedVariables false
set_option linter.unusedSimpArgs false
open Go.Value renaming slice→σ
open Go.Obj renaming cells→χ
namespace Go.Proofs.YtiejafonjemioaaGreatDoor
open Go.ChangeShapes Go.WideShapes Go.ChangeAt Go.WideElems Go.RowKit
section
variable {H:Type} {enc:TypeId×Value->H} {w:World} {base:Nat} {spare:Nat->Bool} {held:Bool}
theorem rd_cals {n:Nat} {v:Value} {y:DataW H×List MemPlace} (h:DataW.trod enc Tryz.prog w base spare held n 54 [v]=some y) (hw:Fit 54 y.1):∃ l:List Cal,Xf w.heap.size w 2 (Xsr w.heap.size) v l:=
 V7 ⟨ByteArray.empty,[]⟩ (by_:=40) Tryz.underlying54 κ κ ω ω (fun b o n cs y hc hl h hw=>by
  match cs,hl with
  | [c0,c1],_=>
   obtain ⟨_,_,h0,w0⟩:=Yh Tryz.underlying80 h hw 0 rfl Xe9 rfl
   obtain ⟨_,_,h1,w1⟩:=Yh Tryz.underlying80 h hw 1 rfl Kc rfl
   obtain ⟨x0,rfl,k0⟩:=Xnj h0 w0
   obtain ⟨x1,k1⟩:=Xah h1 w1
   exact ⟨⟨x0,x1⟩,hc 0 ω,⟨c1,hc 1 ω,k1⟩,k0⟩) h hw
theorem rd_calss {r:Go.Reach} {b0:Nat} {v:Value} {d:DataW H} {p:List MemPlace} (hv:Value.okWide Tryz.prog w r b0 29 v) (h:DataW.Trod enc Tryz.prog w base spare held 29 v d p) (hw:Fit 29 d):∃ l:List (List Cal),Xf w.heap.size w 1 (Xsa 2 (Xsr w.heap.size) w.heap.size) v l:=by
 obtain ⟨a,len,cap,rfl⟩:=okWide_slice Tryz.underlying29 hv
 obtain ⟨n,h⟩:=h
 exact V7 [] (by_:=24) Tryz.underlying29 κ κ ω ω (fun b o n cs y hc hl h hw=>by
  match cs,hl with
  | [c0],_=>
   obtain ⟨x0,k0⟩:=rd_cals h hw
   exact ⟨x0,c0,hc 0 ω,k0⟩) h hw
end
theorem times_params:Tryz.f5.params=#[25,28,29,71,22]:=by kernel_rfl
theorem times_result:Tryz.f5.resultTypes=#[4]:=by kernel_rfl
theorem times_reads:∀ t∈([25,28,29,71,22]:List TypeId),Tryz.prog.readableRec t=true/\t<Tryz.prog.types.size:=fun t ht=>by
 simp only [List.mem_cons,List.mem_nil_iff,or_false] at ht
 rcases ht with rfl|rfl|rfl|rfl|rfl
 all_goals exact ⟨κ,of_decide_eq_true κ⟩
theorem threadsTimes_lifted (os:Os) (started:os.Started) (H:Type) (enc:TypeId×Value->H) :
  ReturnsInHanded {} Tryz.checked os 5 .any (fun w args=>(Rows.threadsTimesSpec.pre enc Tryz.prog Tryz.f5 [] false w args/\laidMetH Tryz.prog Xcq w)/\sizedMet enc Tryz.prog Tryz.f5 (OpenSpec.ofChange Rows.threadsTimesSpec) false w args)
   (Rows.threadsTimesSpec.post enc Tryz.prog Tryz.f5 false true false false):=by
 refine returnsInHanded_of_change_and (C:=Tryz.checked) (X:=fun w _=>laidMetH Tryz.prog Xcq w) (fun _ _ _ hh h=>h.of_heap hh) own started κ Tryz.func5
  (ChangeSpec.witness_shaped (enc:=enc) (C:=Tryz.checked) (os:=os) (X:=fun w _=>laidMetH Tryz.prog Xcq w) false (World.doorLaid Tryz.prog 38 os) #[.agg #[ν,ι 0,ν],.agg #[ν,ν],ν,.int .u16 0,ν] 11 rfl (World.shaped_of_RefB κ κ) κ κ κ (Xg1 os _)) ?_
 intro W base args ds gs aE aB hW _ aD hL _
 have aA:∀ (j:Nat) t v,Tryz.f5.params[j]?=some t->args[j]?=some v->Value.okWide Tryz.prog W .any base t v:=aB
 have aC:(DataW.weightsEach Tryz.prog (Tryz.f5.params.toList++_) (ds++gs)).all (·<=reachBytes)=true:=aD
 have aI:=hW
 obtain ⟨p,q,aG,hV,rfl,aP,aQ⟩:=hW
 have hA:DataW.TrodAll enc Tryz.prog W 0 (fun _=>true) true Tryz.f5.params.toList args.toList ds p:=aG
 rw [times_params] at hA aA aC
 obtain ⟨v0,aR,d0,aK,p0,q0,aH,rfl,rfl,h0,r0⟩:=trodAll_cons hA
 obtain ⟨v1,aS,d1,aL,p1,q1,rfl,rfl,rfl,h1,r1⟩:=trodAll_cons r0
 obtain ⟨v2,aT,d2,aM,p2,q2,rfl,rfl,rfl,h2,r2⟩:=trodAll_cons r1
 obtain ⟨v3,aU,d3,aN,p3,q3,rfl,rfl,rfl,h3,r3⟩:=trodAll_cons r2
 obtain ⟨v4,aV,d4,aO,p4,q4,rfl,rfl,rfl,h4,r4⟩:=trodAll_cons r3
 obtain ⟨rfl,rfl,rfl⟩:=trodAll_nil r4
 obtain rfl:args=#[v0,v1,v2,v3,v4]:=by cases args;simp_all
 obtain ⟨rfl,rfl⟩:=trodVars_none hV
 obtain ⟨c,hc⟩:=Xkt (aA 0 25 v0 rfl rfl) h0 (Fit.of_each aC (j:=0) rfl rfl)
 obtain ⟨m,hm⟩:=Xrz (aA 1 28 v1 rfl rfl) h1 (Fit.of_each aC (j:=1) rfl rfl)
 obtain ⟨l,hl⟩:=rd_calss (aA 2 29 v2 rfl rfl) h2 (Fit.of_each aC (j:=2) rfl rfl)
 obtain ⟨a,rfl,rfl,rfl,wa⟩:=open_int Tryz.underlying71 (aA 3 71 v3 rfl rfl) h3
 obtain ⟨sa,sl,sc,rfl⟩:=okWide_slice Tryz.underlying22 (aA 4 22 v4 rfl rfl)
 obtain ⟨_,h4⟩:=h4
 obtain ⟨aJ,aF⟩:=Xah (y:=(d4,p4)) h4 (Fit.of_each aC (j:=4) rfl rfl)
 clear aG aB hA aD
 have ba:=bounds_u16 wa
 obtain ⟨a,rfl⟩:∃ k:Nat,a=k:=⟨a.toNat,ω⟩
 refine (threadsTimes_walk c m l a ω aJ v0 v1 v2 _ W (Xku hL) hc hm hl aF).mono fun e W' ⟨he,hb⟩=>?_
 subst he
 exact ⟨_,rfl,Xgw rfl (by rw [times_params];exact times_reads) times_result aI rfl rfl rfl hb⟩
theorem threadsTimes_said:Rows.ThreadsTimesSaid:=
 OpenClaim.holds_of_wide 5 Tryz.f5 rfl rfl rfl rfl rfl rfl rfl ⟨rfl,rfl,rfl,rfl,rfl⟩ rfl rfl rfl rfl rfl κ Tryz.func5 κ
  (of_decide_eq_true κ) (by unfold Func.isWrapper;first|(rw [if_pos (by decide +kernel)];kernel_rfl)|(rw [if_neg (by decide +kernel)];exact ⟨rfl,rfl⟩))
  (fun os aA H enc _=>threadsTimes_lifted os aA H enc)
theorem threadsTimes_plain (f:FuncId) (fn:Func) (hf:Tryz.pinned.checked.prog.funcNamed "heartwood/heartwoodlaw45.ThreadsTimes"=some f) (hfn:Tryz.pinned.checked.prog.funcs[f]?=some fn) :
  true=Tryz.pinned.checked.prog.looks []/\∀ (j:Nat) t,fn.params[j]?=some t->Tryz.pinned.checked.prog.wantsStandIn t=false:=by
 obtain rfl:f=5:=Option.some.inj ((show Tryz.prog.funcNamed "heartwood/heartwoodlaw45.ThreadsTimes"=some 5 by kernel_rfl).symm.trans hf) |>.symm
 obtain rfl:fn=Tryz.f5:=(Option.some.inj (Tryz.func5.symm.trans hfn)).symm
 refine ⟨κ,fun j t ht=>?_⟩
 rw [times_params] at ht
 have hm:t∈([25,28,29,71,22]:List TypeId):=by simpa using Array.mem_of_getElem? ht
 have aA:(([25,28,29,71,22]:List TypeId).all fun u=>!Tryz.prog.wantsStandIn u)=true:=by kernel_rfl
 exact (show Tryz.prog.wantsStandIn t=false by simpa using List.all_eq_true.1 aA t hm)
theorem threadsTimes_card:Rows.ThreadsTimesCardSaid:=
 Claim7.holds_tied_plain_at .later [] _ _ _ _ threadsTimes_said (fun _ h=>by cases h) κ (fun _ h=>by cases h) threadsTimes_row_tie rfl ⟨rfl,rfl⟩ κ rfl threadsTimes_plain κ
