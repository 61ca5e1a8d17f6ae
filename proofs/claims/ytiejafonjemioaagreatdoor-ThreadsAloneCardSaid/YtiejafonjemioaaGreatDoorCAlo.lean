/- ThreadsAlone: for every code, memory, rows of calls and fuel, threads whose calls are never interleaved do what runs of their calls do, one after the other. Conditions: none but the row's own (the listed tables lie as the program's text lays them, which the card ties). -/
import Derived.Test.YtiejafonjemioaaGreatDoorLal
import Derived.Test.YtiejafonjemioaaGreatDoorDoo
set_option maxRecDepth 100000
set_option linter.unusedVariables false
set_option linter.unusedSimpArgs false
namespace Go.Proofs.YtiejafonjemioaaGreatDoor
open Go.ChangeShapes Go.WideShapes Go.ChangeAt Go.WideElems Go.RowKit
section
variable {H:Type} {enc:TypeId×Value→H} {w:World} {base:Nat} {spare:Nat→Bool} {held:Bool}
theorem rd_cals {n:Nat} {v:Value} {y:DataW H×List MemPlace} (h:DataW.trod enc Tryz.prog w base spare held n 54 [v]=some y) (hw:Fit 54 y.1):∃ l:List Cal,Xf w.heap.size w 2 (Xsr w.heap.size) v l:=
 V7 ⟨ByteArray.empty,[]⟩ (by_:=40) Tryz.underlying54 (by kernel_rfl) (by kernel_rfl) (by omega) (by omega) (fun b o n cs y hc hl h hw=>by
  match cs,hl with
  | [c0,c1],_=>
   obtain ⟨_,_,h0,w0⟩:=Yh Tryz.underlying80 h hw 0 rfl Xe9 rfl
   obtain ⟨_,_,h1,w1⟩:=Yh Tryz.underlying80 h hw 1 rfl Kc rfl
   obtain ⟨x0,rfl,k0⟩:=Xnj h0 w0
   obtain ⟨x1,k1⟩:=Xah h1 w1
   exact ⟨⟨x0,x1⟩,hc 0 (by omega),⟨c1,hc 1 (by omega),k1⟩,k0⟩) h hw
theorem rd_calss {r:Go.Reach} {b0:Nat} {v:Value} {d:DataW H} {p:List MemPlace} (hv:Value.okWide Tryz.prog w r b0 29 v) (h:DataW.Trod enc Tryz.prog w base spare held 29 v d p) (hw:Fit 29 d):∃ l:List (List Cal),Xf w.heap.size w 1 (Xsa 2 (Xsr w.heap.size) w.heap.size) v l:=by
 obtain ⟨a,len,cap,rfl⟩:=okWide_slice Tryz.underlying29 hv
 obtain ⟨n,h⟩:=h
 exact V7 [] (by_:=24) Tryz.underlying29 (by kernel_rfl) (by kernel_rfl) (by omega) (by omega) (fun b o n cs y hc hl h hw=>by
  match cs,hl with
  | [c0],_=>
   obtain ⟨x0,k0⟩:=rd_cals h hw
   exact ⟨x0,c0,hc 0 (by omega),k0⟩) h hw
end
theorem alone_params:Tryz.f6.params=#[25,28,29,71]:=by kernel_rfl
theorem alone_result:Tryz.f6.resultTypes=#[4]:=by kernel_rfl
theorem alone_reads:∀ t∈([25,28,29,71]:List TypeId),Tryz.prog.readableRec t=true∧t<Tryz.prog.types.size:=fun t ht=>by
 simp only [List.mem_cons,List.mem_nil_iff,or_false] at ht
 rcases ht with rfl|rfl|rfl|rfl
 all_goals exact ⟨by kernel_rfl,of_decide_eq_true (by kernel_rfl)⟩
theorem threadsAlone_lifted (os:Os) (started:os.Started) (H:Type) (enc:TypeId×Value→H) :
  ReturnsInHanded {} Tryz.checked os 6 .any (fun w args=>(Rows.threadsAloneSpec.pre enc Tryz.prog Tryz.f6 [] false w args∧laidMetH Tryz.prog Xcq w)∧sizedMet enc Tryz.prog Tryz.f6 (OpenSpec.ofChange Rows.threadsAloneSpec) false w args)
   (Rows.threadsAloneSpec.post enc Tryz.prog Tryz.f6 false true false false):=by
 refine returnsInHanded_of_change_and (C:=Tryz.checked) (X:=fun w _=>laidMetH Tryz.prog Xcq w) (fun _ _ _ hh h=>h.of_heap hh) own started (by kernel_rfl) Tryz.func6
  (ChangeSpec.witness_shaped (enc:=enc) (C:=Tryz.checked) (os:=os) (X:=fun w _=>laidMetH Tryz.prog Xcq w) false (World.doorLaid Tryz.prog 38 os) #[.agg #[.slice none 0 0,.int .i64 0,.slice none 0 0],.agg #[.slice none 0 0,.slice none 0 0],.slice none 0 0,.int .u16 0] 8 rfl (World.shaped_of_RefB (by kernel_rfl) (by kernel_rfl)) (by kernel_rfl) (by kernel_rfl) (by kernel_rfl) (Xg1 os _)) ?_
 intro W base args ds gs aE aB hW _ aC hL _
 have aA:∀ (j:Nat) t v,Tryz.f6.params[j]?=some t→args[j]?=some v→Value.okWide Tryz.prog W .any base t v:=aB
 have aD:(DataW.weightsEach Tryz.prog (Tryz.f6.params.toList++_) (ds++gs)).all (·≤reachBytes)=true:=aC
 have aH:=hW
 obtain ⟨p,q,aF,hV,rfl,aM,aN⟩:=hW
 have hA:DataW.TrodAll enc Tryz.prog W 0 (fun _=>true) true Tryz.f6.params.toList args.toList ds p:=aF
 rw [alone_params] at hA aA aD
 obtain ⟨v0,aO,d0,aI,p0,q0,aG,rfl,rfl,h0,r0⟩:=trodAll_cons hA
 obtain ⟨v1,aP,d1,aJ,p1,q1,rfl,rfl,rfl,h1,r1⟩:=trodAll_cons r0
 obtain ⟨v2,aQ,d2,aK,p2,q2,rfl,rfl,rfl,h2,r2⟩:=trodAll_cons r1
 obtain ⟨v3,aR,d3,aL,p3,q3,rfl,rfl,rfl,h3,r3⟩:=trodAll_cons r2
 obtain ⟨rfl,rfl,rfl⟩:=trodAll_nil r3
 obtain rfl:args=#[v0,v1,v2,v3]:=by cases args;simp_all
 obtain ⟨rfl,rfl⟩:=trodVars_none hV
 obtain ⟨c,hc⟩:=Xkt (aA 0 25 v0 rfl rfl) h0 (Fit.of_each aD (j:=0) rfl rfl)
 obtain ⟨m,hm⟩:=Xrz (aA 1 28 v1 rfl rfl) h1 (Fit.of_each aD (j:=1) rfl rfl)
 obtain ⟨l,hl⟩:=rd_calss (aA 2 29 v2 rfl rfl) h2 (Fit.of_each aD (j:=2) rfl rfl)
 obtain ⟨a,rfl,rfl,rfl,wa⟩:=open_int Tryz.underlying71 (aA 3 71 v3 rfl rfl) h3
 clear aF aB hA aC
 have ba:=bounds_u16 wa
 obtain ⟨a,rfl⟩:∃ k:Nat,a=k:=⟨a.toNat,by omega⟩
 refine (threadsAlone_walk Xgx c m l a (by omega) v0 v1 v2 W (Xku hL) hc hm hl).mono fun e W' ⟨he,hb⟩=>?_
 subst he
 exact ⟨_,rfl,Xgw rfl (by rw [alone_params];exact alone_reads) alone_result aH rfl rfl rfl hb⟩
theorem threadsAlone_said:Rows.ThreadsAloneSaid:=
 OpenClaim.holds_of_wide 6 Tryz.f6 rfl rfl rfl rfl rfl rfl rfl ⟨rfl,rfl,rfl,rfl,rfl⟩ rfl rfl rfl rfl rfl (by kernel_rfl) Tryz.func6 (by kernel_rfl)
  (of_decide_eq_true (by kernel_rfl)) (by unfold Func.isWrapper;first|(rw [if_pos (by decide +kernel)];kernel_rfl)|(rw [if_neg (by decide +kernel)];exact ⟨rfl,rfl⟩))
  (fun os aA H enc _=>threadsAlone_lifted os aA H enc)
theorem threadsAlone_plain (f:FuncId) (fn:Func) (hf:Tryz.pinned.checked.prog.funcNamed "heartwood/heartwoodlaw45.ThreadsAlone"=some f) (hfn:Tryz.pinned.checked.prog.funcs[f]?=some fn) :
  true=Tryz.pinned.checked.prog.looks []∧∀ (j:Nat) t,fn.params[j]?=some t→Tryz.pinned.checked.prog.wantsStandIn t=false:=by
 obtain rfl:f=6:=Option.some.inj ((show Tryz.prog.funcNamed "heartwood/heartwoodlaw45.ThreadsAlone"=some 6 by kernel_rfl).symm.trans hf) |>.symm
 obtain rfl:fn=Tryz.f6:=(Option.some.inj (Tryz.func6.symm.trans hfn)).symm
 refine ⟨by kernel_rfl,fun j t ht=>?_⟩
 rw [alone_params] at ht
 have hm:t∈([25,28,29,71]:List TypeId):=by simpa using Array.mem_of_getElem? ht
 have aA:(([25,28,29,71]:List TypeId).all fun u=>!Tryz.prog.wantsStandIn u)=true:=by kernel_rfl
 exact (show Tryz.prog.wantsStandIn t=false by simpa using List.all_eq_true.1 aA t hm)
theorem threadsAlone_card:Rows.ThreadsAloneCardSaid:=
 Claim7.holds_tied_plain_at .later [] _ _ _ _ threadsAlone_said (fun _ h=>by cases h) (by kernel_rfl) (fun _ h=>by cases h) threadsAlone_row_tie rfl ⟨rfl,rfl⟩ (by kernel_rfl) rfl threadsAlone_plain (by kernel_rfl)
