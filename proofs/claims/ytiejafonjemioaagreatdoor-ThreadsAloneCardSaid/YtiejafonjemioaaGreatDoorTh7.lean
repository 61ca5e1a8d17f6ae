import Derived.Test.YtiejafonjemioaaGreatDoorTh6
set_option maxHeartbeats 4000000
set_option maxRecDepth 100000
set_option linter.unusedVariables false
set_option linter.unusedSimpArgs false
namespace Go.Proofs.YtiejafonjemioaaGreatDoor
open Go.RowKit
structure Xse (c:Cod) (s:Thr):Prop where
 sound:Xv c
 fits:Q7 c s.mem=true
 fuel:0≤s.fuel∧s.fuel≤1048576
 step:0≤s.step∧s.step≤65536
 one:1≤s.running.length
 eight:s.running.length≤8
 nodes:s.nodes.length=s.running.length
 calls:s.calls.length=s.running.length
 results:s.results.length=s.running.length
 begins:s.begins.length=s.running.length
 ends:s.ends.length=s.running.length
 all:∀ (t:Nat) m n l r b e,s.running[t]?=some m→s.nodes[t]?=some n→s.calls[t]?=some l→s.results[t]?=some r→s.begins[t]?=some b→s.ends[t]?=some e→Xu3 c s m n l r b e
theorem Xsc {c:Cod} {s:Thr} (h:¬Xse c s) {w w':World} (hb:Below w.heap.size w w'):Ending.returned (.bool false)=.returned (.bool (pB (Xse c s)))∧Below w.heap.size w w':=⟨by rw [K8 h],hb⟩
theorem Xt3 (c:Cod) (cv:Value) (s:Thr) (sv:Value) (B:Nat) (w:World) (hL:Qa w) (hB:B≤w.heap.size) (hsm:Zb c) (hc:Yj B w cv c) (hs:Xsd B w sv s) :
  Calls Tryz.prog 60 #[cv,sv] w fun z w'=>z=.returned (.bool (pB (Xse c s)))∧Below w.heap.size w w':=by
 have aQ:=Lh hc
 have aS:=Lh hs
 obtain ⟨ga,gc,ma,mc,ra,rc,na,nc,ca,cc,oa,oc,ba,bc,ea,ec,rfl⟩:=hs.open_
 obtain ⟨aY,aZ,rfl,aN,aO,-⟩:=hc
 obtain ⟨fa,fc,rfl⟩:=aN.fm
 obtain ⟨qa,qc,rfl⟩:=aO.fm
 obtain ⟨W,hW⟩:∃ W,W=(w.alloc (.cells #[.slice fa c.fields.length fc,.int .i64 c.globals,.slice qa c.funcs.length qc] 25)).alloc (.cells #[.slice ga s.mem.globals.length gc,.slice ma s.mem.nodes.length mc,.int .i64 s.fuel,.slice ra s.running.length rc,.slice na s.nodes.length nc,.slice ca s.calls.length cc,.slice oa s.results.length oc,.slice ba s.begins.length bc,.slice ea s.ends.length ec,.int .i64 s.step] 34):=⟨_,rfl⟩
 have aA:Hid (Below w.heap.size w W):=by rw [hW];exact Lh ((Xa _ _).then (Xa _ _))
 have aW:Hid (W.heap.size=w.heap.size+2):=by rw [hW];exact Lh (by simp)
 have b0:Xo W w.heap.size [.slice fa c.fields.length fc,.int .i64 c.globals,.slice qa c.funcs.length qc]:=by rw [hW];exact Xd.alloc _
 have b1:Xo W (w.heap.size+1) [.slice ga s.mem.globals.length gc,.slice ma s.mem.nodes.length mc,.int .i64 s.fuel,.slice ra s.running.length rc,.slice na s.nodes.length nc,.slice ca s.calls.length cc,.slice oa s.results.length oc,.slice ba s.begins.length bc,.slice ea s.ends.length ec,.int .i64 s.step]:=by
  rw [hW]
  have:=@Xd (w.alloc (.cells #[.slice fa c.fields.length fc,.int .i64 c.globals,.slice qa c.funcs.length qc] 25)) #[.slice ga s.mem.globals.length gc,.slice ma s.mem.nodes.length mc,.int .i64 s.fuel,.slice ra s.running.length rc,.slice na s.nodes.length nc,.slice ca s.calls.length cc,.slice oa s.results.length oc,.slice ba s.begins.length bc,.slice ea s.ends.length ec,.int .i64 s.step] 34
  simpa using this
 obtain ⟨L,aJ⟩:∃ L:List (Addr×Value),L=[(⟨w.heap.size,0,none⟩,.slice fa c.fields.length fc),(⟨w.heap.size,1,none⟩,.int .i64 c.globals),(⟨w.heap.size,2,none⟩,.slice qa c.funcs.length qc),(⟨w.heap.size+1,0,none⟩,.slice ga s.mem.globals.length gc),(⟨w.heap.size+1,1,none⟩,.slice ma s.mem.nodes.length mc),(⟨w.heap.size+1,2,none⟩,.int .i64 s.fuel),(⟨w.heap.size+1,3,none⟩,.slice ra s.running.length rc),(⟨w.heap.size+1,4,none⟩,.slice na s.nodes.length nc),(⟨w.heap.size+1,5,none⟩,.slice ca s.calls.length cc),(⟨w.heap.size+1,6,none⟩,.slice oa s.results.length oc),(⟨w.heap.size+1,7,none⟩,.slice ba s.begins.length bc),(⟨w.heap.size+1,8,none⟩,.slice ea s.ends.length ec),(⟨w.heap.size+1,9,none⟩,.int .i64 s.step)]:=⟨_,rfl⟩
 have H0:Hid (Xth L W):=by rw [aJ];exact Lh (.cons (b0 0 _ rfl) <| .cons (b0 1 _ rfl) <| .cons (b0 2 _ rfl) <| .cons (b1 0 _ rfl) <| .cons (b1 1 _ rfl) <| .cons (b1 2 _ rfl) <| .cons (b1 3 _ rfl) <| .cons (b1 4 _ rfl) <| .cons (b1 5 _ rfl) <| .cons (b1 6 _ rfl) <| .cons (b1 7 _ rfl) <| .cons (b1 8 _ rfl) <| .cons (b1 9 _ rfl) <| Xth.nil)
 have aI:=Lh aJ
 have HL:=Lh (hL.below aA.out)
 have HC:=Lh (aQ.out.below (aA.out.mono hB))
 have HS:=Lh (aS.out.below (aA.out.mono hB))
 have aF:Hid (B≤W.heap.size):=Lh (by have:=aW.out;omega)
 have HM:Hid (MmV B W (.agg #[.slice ga s.mem.globals.length gc,.slice ma s.mem.nodes.length mc]) s.mem):=Lh ⟨_,_,rfl,HS.out.parts.1,HS.out.parts.2.1⟩
 have G0:=H0.out
 rw [aI.out] at G0
 have g0:=G0.get 0 rfl
 have g1:=G0.get 1 rfl
 have g2:=G0.get 2 rfl
 have g3:=G0.get 3 rfl
 have g4:=G0.get 4 rfl
 have g5:=G0.get 5 rfl
 have g6:=G0.get 6 rfl
 have g7:=G0.get 7 rfl
 have g8:=G0.get 8 rfl
 have g9:=G0.get 9 rfl
 have aC:=G0.get 10 rfl
 have aD:=G0.get 11 rfl
 have aE:=G0.get 12 rfl
 have z0:=Bl g0
 have z1:=Bl g3
 clear G0 hL hs aN aO b0 b1 aJ
 go_enter Tryz.func60,Tryz.ntmps60
 go_upto_region 1 with fail
 rw [←hW]
 have HW:=Lh hW
 clear hW
 go_wp2_with fail
 refine (Xw2 c _ B W HL.out aF.out HC.out).mono ?_
 rintro e1 w1 ⟨rfl,aK⟩
 have H1:=Lh (H0.out.keep aK)
 have B1:=Lh aK
 clear g0 g1 g2 g3 g4 g5 g6 g7 g8 g9 aC aD aE z0 z1 aK
 have G0:=H1.out
 rw [aI.out] at G0
 have g0:=G0.get 0 rfl
 have g1:=G0.get 1 rfl
 have g2:=G0.get 2 rfl
 have g3:=G0.get 3 rfl
 have g4:=G0.get 4 rfl
 have g5:=G0.get 5 rfl
 have g6:=G0.get 6 rfl
 have g7:=G0.get 7 rfl
 have g8:=G0.get 8 rfl
 have g9:=G0.get 9 rfl
 have aC:=G0.get 10 rfl
 have aD:=G0.get 11 rfl
 have aE:=G0.get 12 rfl
 have z0:=Bl g0
 have z1:=Bl g3
 clear G0
 cases aH:Xa2 c with
 | false=>
  have HF:Hid (¬Xse c s):=Lh (fun h=>by rw [Zg h.sound] at aH;cases aH)
  clear aH
  go_wp2_with fail
  go_ret
  exact Xsc HF.out (aA.out.then B1.out)
 | true=>
 have aT:=Lh (Xq3.1 aH)
 clear aH
 go_wp2_with fail
 refine (Xxh c _ s.mem _ B w1 (Nt aF.out B1.out.size) (HC.out.below (B1.out.mono aF.out)) (HM.out.below (B1.out.mono aF.out))).mono ?_
 rintro e2 w2 ⟨rfl,aL⟩
 have H2:=Lh (H1.out.keep aL)
 have B2:=Lh (B1.out.then aL)
 clear g0 g1 g2 g3 g4 g5 g6 g7 g8 g9 aC aD aE z0 z1 aL
 have G0:=H2.out
 rw [aI.out] at G0
 have g0:=G0.get 0 rfl
 have g1:=G0.get 1 rfl
 have g2:=G0.get 2 rfl
 have g3:=G0.get 3 rfl
 have g4:=G0.get 4 rfl
 have g5:=G0.get 5 rfl
 have g6:=G0.get 6 rfl
 have g7:=G0.get 7 rfl
 have g8:=G0.get 8 rfl
 have g9:=G0.get 9 rfl
 have aC:=G0.get 10 rfl
 have aD:=G0.get 11 rfl
 have aE:=G0.get 12 rfl
 have z0:=Bl g0
 have z1:=Bl g3
 clear G0
 cases aG:Q7 c s.mem with
 | false=>
  have HF:Hid (¬Xse c s):=Lh (fun h=>by rw [h.fits] at aG;cases aG)
  clear aG
  go_wp2_with fail
  go_ret
  exact Xsc HF.out (aA.out.then B2.out)
 | true=>
 have aR:=Lh aG
 clear aG
 by_cases q0:s.fuel<0
 ·have HF:Hid (¬Xse c s):=Lh (fun h=>by have:=h.fuel.1;omega)
  have d0:decide (s.fuel<0)=true:=by simp only [decide_eq_true_eq];exact q0
  clear q0
  go_wp2_with fail
  go_ret
  exact Xsc HF.out (aA.out.then B2.out)
 have d0:decide (s.fuel<0)=false:=by simp only [decide_eq_false_iff_not];exact q0
 have Q0:=Lh q0
 clear q0
 by_cases q1:1048576<s.fuel
 ·have HF:Hid (¬Xse c s):=Lh (fun h=>by have:=h.fuel.2;omega)
  have d1:decide (1048576<s.fuel)=true:=by simp only [decide_eq_true_eq];exact q1
  clear q1
  go_wp2_with fail
  go_ret
  exact Xsc HF.out (aA.out.then B2.out)
 have d1:decide (1048576<s.fuel)=false:=by simp only [decide_eq_false_iff_not];exact q1
 have Q1:=Lh q1
 clear q1
 by_cases q2:s.step<0
 ·have HF:Hid (¬Xse c s):=Lh (fun h=>by have:=h.step.1;omega)
  have d2:decide (s.step<0)=true:=by simp only [decide_eq_true_eq];exact q2
  clear q2
  go_wp2_with fail
  go_ret
  exact Xsc HF.out (aA.out.then B2.out)
 have d2:decide (s.step<0)=false:=by simp only [decide_eq_false_iff_not];exact q2
 have Q2:=Lh q2
 clear q2
 by_cases q3:65536<s.step
 ·have HF:Hid (¬Xse c s):=Lh (fun h=>by have:=h.step.2;omega)
  have d3:decide (65536<s.step)=true:=by simp only [decide_eq_true_eq];exact q3
  clear q3
  go_wp2_with fail
  go_ret
  exact Xsc HF.out (aA.out.then B2.out)
 have d3:decide (65536<s.step)=false:=by simp only [decide_eq_false_iff_not];exact q3
 have Q3:=Lh q3
 clear q3
 by_cases q4:s.running.length<1
 ·have HF:Hid (¬Xse c s):=Lh (fun h=>by have:=h.one;omega)
  have d4:decide (s.running.length<1)=true:=by simp only [decide_eq_true_eq];exact q4
  have aU:decide ((s.running.length:Int)<1)=true:=by simp only [decide_eq_true_eq];omega
  clear q4
  go_wp2_with fail
  go_ret
  exact Xsc HF.out (aA.out.then B2.out)
 have d4:decide (s.running.length<1)=false:=by simp only [decide_eq_false_iff_not];exact q4
 have aU:decide ((s.running.length:Int)<1)=false:=by simp only [decide_eq_false_iff_not];omega
 have Q4:=Lh q4
 clear q4
 by_cases q5:8<s.running.length
 ·have HF:Hid (¬Xse c s):=Lh (fun h=>by have:=h.eight;omega)
  have d5:decide (8<s.running.length)=true:=by simp only [decide_eq_true_eq];exact q5
  have aV:decide (8<(s.running.length:Int))=true:=by simp only [decide_eq_true_eq];omega
  clear q5
  go_wp2_with fail
  go_ret
  exact Xsc HF.out (aA.out.then B2.out)
 have d5:decide (8<s.running.length)=false:=by simp only [decide_eq_false_iff_not];exact q5
 have aV:decide (8<(s.running.length:Int))=false:=by simp only [decide_eq_false_iff_not];omega
 have Q5:=Lh q5
 clear q5
 by_cases p0:s.nodes.length=s.running.length
 rotate_left
 ·have HF:Hid (¬Xse c s):=Lh (fun h=>p0 h.nodes)
  have e0:((s.nodes.length:Int) != (s.running.length:Int))=true:=by simp only [bne_iff_ne,ne_eq];omega
  have f0:(s.nodes.length != s.running.length)=true:=by simp;exact p0
  clear p0
  go_wp2_with fail
  go_ret
  exact Xsc HF.out (aA.out.then B2.out)
 have e0:((s.nodes.length:Int) != (s.running.length:Int))=false:=by rw [p0];simp
 have f0:(s.nodes.length != s.running.length)=false:=by rw [p0];simp
 have P0:=Lh p0
 clear p0
 by_cases p1:s.calls.length=s.running.length
 rotate_left
 ·have HF:Hid (¬Xse c s):=Lh (fun h=>p1 h.calls)
  have e1:((s.calls.length:Int) != (s.running.length:Int))=true:=by simp only [bne_iff_ne,ne_eq];omega
  have f1:(s.calls.length != s.running.length)=true:=by simp;exact p1
  clear p1
  go_wp2_with fail
  go_ret
  exact Xsc HF.out (aA.out.then B2.out)
 have e1:((s.calls.length:Int) != (s.running.length:Int))=false:=by rw [p1];simp
 have f1:(s.calls.length != s.running.length)=false:=by rw [p1];simp
 have P1:=Lh p1
 clear p1
 by_cases p2:s.results.length=s.running.length
 rotate_left
 ·have HF:Hid (¬Xse c s):=Lh (fun h=>p2 h.results)
  have e2:((s.results.length:Int) != (s.running.length:Int))=true:=by simp only [bne_iff_ne,ne_eq];omega
  have f2:(s.results.length != s.running.length)=true:=by simp;exact p2
  clear p2
  go_wp2_with fail
  go_ret
  exact Xsc HF.out (aA.out.then B2.out)
 have e2:((s.results.length:Int) != (s.running.length:Int))=false:=by rw [p2];simp
 have f2:(s.results.length != s.running.length)=false:=by rw [p2];simp
 have P2:=Lh p2
 clear p2
 by_cases p3:s.begins.length=s.running.length
 rotate_left
 ·have HF:Hid (¬Xse c s):=Lh (fun h=>p3 h.begins)
  have e3:((s.begins.length:Int) != (s.running.length:Int))=true:=by simp only [bne_iff_ne,ne_eq];omega
  have f3:(s.begins.length != s.running.length)=true:=by simp;exact p3
  clear p3
  go_wp2_with fail
  go_ret
  exact Xsc HF.out (aA.out.then B2.out)
 have e3:((s.begins.length:Int) != (s.running.length:Int))=false:=by rw [p3];simp
 have f3:(s.begins.length != s.running.length)=false:=by rw [p3];simp
 have P3:=Lh p3
 clear p3
 by_cases p4:s.ends.length=s.running.length
 rotate_left
 ·have HF:Hid (¬Xse c s):=Lh (fun h=>p4 h.ends)
  have e4:((s.ends.length:Int) != (s.running.length:Int))=true:=by simp only [bne_iff_ne,ne_eq];omega
  have f4:(s.ends.length != s.running.length)=true:=by simp;exact p4
  clear p4
  go_wp2_with fail
  go_ret
  exact Xsc HF.out (aA.out.then B2.out)
 have e4:((s.ends.length:Int) != (s.running.length:Int))=false:=by rw [p4];simp
 have f4:(s.ends.length != s.running.length)=false:=by rw [p4];simp
 have P4:=Lh p4
 clear p4
 go_wp2_with fail
 clear g0 g1 g2 g3 g4 g5 g6 g7 g8 g9 aC aD aE z0 z1
 obtain ⟨N,hN⟩:∃ N,N=s.running.length:=⟨_,rfl⟩
 go_loopw [82] (fun i wr=>∃ k:Nat,k≤s.running.length∧i=.int .i64 k∧Hid (Xth L wr)∧Hid (Below W.heap.size W wr)∧Hid (∀ (t:Nat) m n l r b e,t<k→s.running[t]?=some m→s.nodes[t]?=some n→s.calls[t]?=some l→s.results[t]?=some r→s.begins[t]?=some b→s.ends[t]?=some e→Xu3 c s m n l r b e)) (fun i _=>s.running.length - (intOf i).toNat)
 case atStart=>exact ⟨0,Nat.zero_le _,rfl,H2,B2,Lh (fun t m n l r b e h=>by omega)⟩
 case round=>
  obtain ⟨k,hk,rfl,HR,BR,HA⟩:=hrel
  clear hN N
  have G0:=HR.out
  rw [aI.out] at G0
  have g0:=G0.get 0 rfl
  have g1:=G0.get 1 rfl
  have g2:=G0.get 2 rfl
  have g3:=G0.get 3 rfl
  have g4:=G0.get 4 rfl
  have g5:=G0.get 5 rfl
  have g6:=G0.get 6 rfl
  have g7:=G0.get 7 rfl
  have g8:=G0.get 8 rfl
  have g9:=G0.get 9 rfl
  have aC:=G0.get 10 rfl
  have aD:=G0.get 11 rfl
  have aE:=G0.get 12 rfl
  have z0:=Bl g0
  have z1:=Bl g3
  clear G0
  by_cases aB:k<s.running.length
  rotate_left
  ·have HF:Hid (pB (Xse c s)=true):=Lh (Kh ⟨aT.out,aR.out,⟨by have:=Q0.out;omega,by have:=Q1.out;omega⟩,⟨by have:=Q2.out;omega,by have:=Q3.out;omega⟩,by have:=Q4.out;omega,by have:=Q5.out;omega,P0.out,P1.out,P2.out,P3.out,P4.out,fun t m n l r b e h1=>HA.out t m n l r b e (by have:=(Ll h1);omega) h1⟩)
   have d:decide (k<s.running.length)=false:=by simp only [decide_eq_false_iff_not];exact aB
   clear aB
   go_wp2_with fail
   go_ret
   exact ⟨by rw [HF.out];rfl,aA.out.then BR.out⟩
  obtain ⟨m,hm⟩:∃ x,s.running[k]?=some x:=⟨_,Lg aB⟩
  obtain ⟨n,hn⟩:∃ x,s.nodes[k]?=some x:=⟨_,Lg (by rw [P0.out];exact aB)⟩
  obtain ⟨l,hl⟩:∃ x,s.calls[k]?=some x:=⟨_,Lg (by rw [P1.out];exact aB)⟩
  obtain ⟨r,hr⟩:∃ x,s.results[k]?=some x:=⟨_,Lg (by rw [P2.out];exact aB)⟩
  obtain ⟨b,hb⟩:∃ x,s.begins[k]?=some x:=⟨_,Lg (by rw [P3.out];exact aB)⟩
  obtain ⟨e,he⟩:∃ x,s.ends[k]?=some x:=⟨_,Lg (by rw [P4.out];exact aB)⟩
  have HX:=Lh (And.intro hm (And.intro hn (And.intro hl (And.intro hr (And.intro hb he)))))
  have HK:=Lh aB
  have d:decide (k<s.running.length)=true:=by simp only [decide_eq_true_eq];exact aB
  have bA:(0:Int)≤(k:Int):=In _
  have bB:IntKind.i64.wrap ((k:Int)+1)=(k:Int)+1:=by rw [IntKind.wrap_i64];have:=Q5.out;omega
  clear hm hn hl hr hb he
  go_wp2_with fail
  refine (Xv7 c _ s _ k m n l r b e B wr (HL.out.below BR.out) (Nt aF.out BR.out.size) hsm (HC.out.below (BR.out.mono aF.out)) (HS.out.below (BR.out.mono aF.out)) HX.out.1 HX.out.2.1 HX.out.2.2.1 HX.out.2.2.2.1 HX.out.2.2.2.2.1 HX.out.2.2.2.2.2).mono ?_
  rintro z w3 ⟨rfl,aM⟩
  have H3:=Lh (HR.out.keep aM)
  have B3:=Lh (BR.out.then aM)
  clear g0 g1 g2 g3 g4 g5 g6 g7 g8 g9 aC aD aE z0 z1 aM
  cases hv:pB (Xu3 c s m n l r b e) with
  | false=>
   have HF:Hid (¬Xse c s):=Lh (fun h=>by rw [Kh (h.all k m n l r b e HX.out.1 HX.out.2.1 HX.out.2.2.1 HX.out.2.2.2.1 HX.out.2.2.2.2.1 HX.out.2.2.2.2.2)] at hv;cases hv)
   clear hv
   go_wp2_with fail
   go_ret
   exact Xsc HF.out (aA.out.then B3.out)
  | true=>
   have aP:Hid (∀ (t:Nat) m n l r b e,t<k+1→s.running[t]?=some m→s.nodes[t]?=some n→s.calls[t]?=some l→s.results[t]?=some r→s.begins[t]?=some b→s.ends[t]?=some e→Xu3 c s m n l r b e):=Lh (fun t m' n' l' r' b' e' h h1 h2 h3 h4 h5 h6=>by
    by_cases aX:t=k
    ·subst aX
     obtain ⟨g1,g2,g3,g4,g5,g6⟩:=HX.out
     obtain rfl:=Option.some.inj (g1.symm.trans h1)
     obtain rfl:=Option.some.inj (g2.symm.trans h2)
     obtain rfl:=Option.some.inj (g3.symm.trans h3)
     obtain rfl:=Option.some.inj (g4.symm.trans h4)
     obtain rfl:=Option.some.inj (g5.symm.trans h5)
     obtain rfl:=Option.some.inj (g6.symm.trans h6)
     exact Xry.1 hv
    ·exact HA.out t m' n' l' r' b' e' (by omega) h1 h2 h3 h4 h5 h6)
   clear hv
   go_wp2_with fail
   go_roundw
   case rel=>exact ⟨k+1,by omega,by go_num,H3,B3,aP⟩
   case measure=>simp [intOf];omega
