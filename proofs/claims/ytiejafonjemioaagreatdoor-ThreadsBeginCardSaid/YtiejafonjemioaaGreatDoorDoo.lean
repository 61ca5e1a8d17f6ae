import Derived.Deep.Slices
import Derived.Deep.Fields
import Derived.ChangeSame
import Derived.Lib.SmallJoins
import Derived.SizedLaws
import Derived.MakeChecks
import Derived.OpenShut
import Derived.Carry
import Derived.Test.YtiejafonjemioaaGreatDoorAsk
import Derived.Test.YtiejafonjemioaaGreatDoorCards
import Derived.Test.YtiejafonjemioaaGreatDoorTie
import Derived.ProofKit
import Derived.LaidMore
import Derived.Stop.Joined
import Derived.Stop.LaidErr
import Derived.Lib.LaidTab
import Derived.SevenTiedAt
set_option maxRecDepth 100000
set_option linter.unusedVariables false
set_option linter.unusedSimpArgs false
open Go.Value renaming slice→σ
open Go.Obj renaming cells→χ
namespace Go.Proofs.YtiejafonjemioaaGreatDoor
open Go.ChangeShapes Go.WideShapes Go.Deep Go.RowKit
section
variable {H:Type} {enc:TypeId×Value->H} {w:World} {base:Nat} {spare:Nat->Bool} {held:Bool}
def Fit (t:TypeId) (d:DataW H):Prop:=∀ z∈d.weights Tryz.prog t,z<=140737488351232
theorem Fit.of_each {ts:List TypeId} {ds:List (DataW H)} (h:(DataW.weightsEach Tryz.prog ts ds).all (·<=reachBytes)=true) {j:Nat} {t:TypeId} {d:DataW H} (ht:ts[j]?=some t) (hd:ds[j]?=some d):Fit t d:=fun z hz=>by
 have:=List.all_eq_true.1 h z (DataW.weights_mem_each ht hd z hz)
 have:=of_decide_eq_true this
 unfold reachBytes at this;exact this
theorem Fit.part {t:TypeId} {fs:Array Field} {parts:List (DataW H)} (hs:Tryz.prog.underlying t=some (.struct fs)) (h:Fit t (.agg parts)) {j:Nat} {f:Field} {d:DataW H} (hf:fs[j]?=some f) (hd:parts[j]?=some d):Fit f.type d:=fun z hz=>
 h z (by
  simp only [DataW.weights,hs]
  exact DataW.weights_mem_each (j:=j) (t:=f.type) (by simp [hf]) hd z hz)
theorem Vl {e:TypeId}:∀ {ds:List (DataW H)} {j:Nat} {d:DataW H},ds[j]?=some d->∀ n∈d.weights Tryz.prog e,n∈DataW.weightsAll Tryz.prog e ds
 | d0::ds,0,d,hd,n,hn=>by
  simp only [List.getElem?_cons_zero,Option.some.injEq] at hd
  subst hd
  simp only [DataW.weightsAll,List.mem_append]
  exact Or.inl hn
 | d0::ds,j+1,d,hd,n,hn=>by
  simp only [List.getElem?_cons_succ] at hd
  simp only [DataW.weightsAll,List.mem_append]
  exact Or.inr (Vl hd n hn)
 | [],_,_,hd,_,_=>by simp at hd
theorem V7 {α:Type} (d0:α) {t e:TypeId} {sz by_:Nat} {E:World->Nat->Nat->α->Prop} (ht:Tryz.prog.underlying t=some (.slice e)) (hC:Tryz.prog.cellsOf e=sz) (hb:Tryz.prog.bytesOf e=by_) (hb1:1<=by_) (hsz:1<=sz)
  (hE:∀ (b o n:Nat) (cs:List Value) (y:DataW H×List MemPlace),(∀ j,j<sz->w.cell? (π b (o+j))=cs[j]?)->cs.length=sz->DataW.trod enc Tryz.prog w base spare held n e cs=some y->Fit e y.1->∃ x,E w b o x)
  {v:Value} {n:Nat} {y:DataW H×List MemPlace} (h:DataW.trod enc Tryz.prog w base spare held n t [v]=some y) (hw:Fit t y.1):∃ l:List α,Xf w.heap.size w sz E v l:=by
 rcases open_slice ht h with ⟨h1,_⟩|⟨a,len,cap,m,n',D,Pl,h1,_,hl,hm,aI,rfl,hi⟩
 ·cases h1
  exact ⟨[],none,0,rfl,ψ,ψ,ω,.inl rfl⟩
 ·cases h1
  have aK:len<=m:=by rw [aI];split<;>omega
  have aG:len<=140737488355328:=by
   have:=hw ((len+(m - len))*by_) (by simp [DataW.weights,ht,hb])
   have h2:(len+(m - len))*1<=(len+(m - len))*by_:=Nat.mul_le_mul_left _ hb1
   omega
  unfold maxLen at hm
  by_cases h0:len=0
  ·subst h0
   exact ⟨[],some a,cap,rfl,ψ,ψ,ω,.inl rfl⟩
  obtain ⟨b,o,aF⟩:=a
  have aC:aF=none:=by
   obtain ⟨cs',hc,_⟩:=hi 0 ω
   obtain ⟨_,aD,aB⟩:=World.cells?_some hc
   have:=aB 0 ω
   rw [Lg ω] at this
   simpa [Addr.add] using World.cell?_spot this
  subst aC
  have hx:∀ i,i<len->∃ x,E w b (o+i*sz) x:=fun i aE=>by
   obtain ⟨cs',hc,aJ⟩:=hi i ω
   obtain ⟨_,aD,aB⟩:=World.cells?_some hc
   rw [hC] at aD aB
   refine hE b (o+i*sz) n' cs' (D i,Pl i) (fun j hj=>?_) aD aJ (fun z hz=>hw z ?_)
   ·have:=aB j hj
    rw [add_plain,add_plain] at this
    exact this
   ·simp only [DataW.weights,ht]
    refine List.mem_cons_of_mem _ (List.mem_append_left _ (Vl (j:=i) ?_ z hz))
    simp [aE]
  obtain ⟨f,hf⟩:=@choose_lt α ⟨d0⟩ _ _ hx
  have aH:b<w.heap.size:=by
   obtain ⟨cs',hc,_⟩:=hi 0 ω
   obtain ⟨_,aD,aB⟩:=World.cells?_some hc
   have:=aB 0 ω
   rw [Lg ω,add_plain,add_plain] at this
   exact Bl this
  have aA:((List.range len).map f).length=len:=by simp
  refine ⟨(List.range len).map f,some (π b o),cap,by rw [aA],by rw [aA];exact aG,by rw [aA];exact hl,ω,.inr ⟨b,o,rfl,aH,fun i x hx=>?_⟩⟩
  have aE:i<len:=by have:=(Ll hx);rw [aA] at this;exact this
  rw [List.getElem?_map,List.getElem?_range aE] at hx
  simp only [Option.map_some,Option.some.injEq] at hx
  subst hx
  exact hf i aE
theorem Xks {n:Int} (h:(Lit.int .i64 n).wf=true):in64 n:=bounds_i64 h
theorem Yh {t:TypeId} {fs:Array Field} {cs:List Value} {n:Nat} {y:DataW H×List MemPlace} (hs:Tryz.prog.underlying t=some (.struct fs)) (h:DataW.trod enc Tryz.prog w base spare held n t cs=some y) (hw:Fit t y.1)
  (j:Nat) {f:Field} {v:Value} (hf:fs[j]?=some f) (hc:Tryz.prog.cellsOf f.type=1) (hv:cs[f.offset]?=some v):∃ n' y',DataW.trod enc Tryz.prog w base spare held n' f.type [v]=some y'/\Fit f.type y'.1:=by
 obtain ⟨xs,n',rfl,rfl,_,aA,hx⟩:=DataW.trod_struct hs h
 have hj:j<xs.length:=by rw [aA];exact (La hf)
 have h1:=hx j f hf
 have h2:(cs.drop f.offset).take (Tryz.prog.cellsOf f.type)=[v]:=by
  obtain ⟨hl,he⟩:=List.getElem?_eq_some_iff.1 hv
  rw [hc,List.drop_eq_getElem_cons hl,he];rfl
 rw [h2,Lg hj] at h1
 exact ⟨n',xs[j],h1,hw.part hs hf (by simp [Lg hj])⟩
theorem Y2:Tryz.prog.cellsOf 3=1:=by kernel_rfl
theorem Xix:Tryz.prog.cellsOf 4=1:=by kernel_rfl
theorem Xe9:Tryz.prog.cellsOf 9=1:=by kernel_rfl
theorem Xqe:Tryz.prog.cellsOf 40=1:=by kernel_rfl
theorem Kc:Tryz.prog.cellsOf 22=1:=by kernel_rfl
theorem Q5 {n:Nat} {v:Value} {y:DataW H×List MemPlace} (h:DataW.trod enc Tryz.prog w base spare held n 3 [v]=some y):∃ x,v=ι x/\in64 x:=by
 obtain ⟨k,h1,_,h3⟩:=DataW.trod_int Tryz.underlying3 h
 cases h1
 exact ⟨k,rfl,Xks h3⟩
theorem Xrk {n:Nat} {v:Value} {y:DataW H×List MemPlace} (h:DataW.trod enc Tryz.prog w base spare held n 40 [v]=some y):∃ x,v=ι x/\in64 x:=by
 obtain ⟨k,h1,_,h3⟩:=DataW.trod_int Tryz.underlying40 h
 cases h1
 exact ⟨k,rfl,Xks h3⟩
theorem Xpk {n:Nat} {v:Value} {y:DataW H×List MemPlace} (h:DataW.trod enc Tryz.prog w base spare held n 4 [v]=some y):∃ b,v=.bool b:=by
 obtain ⟨k,h1,_⟩:=DataW.trod_bool Tryz.underlying4 h
 cases h1
 exact ⟨k,rfl⟩
theorem Xnj {n:Nat} {v:Value} {y:DataW H×List MemPlace} (h:DataW.trod enc Tryz.prog w base spare held n 9 [v]=some y) (hw:Fit 9 y.1):∃ s:ByteArray,v=.string s/\s.size<=140737488355328:=by
 obtain ⟨s,h1,rfl,_⟩:=DataW.trod_string Tryz.underlying9 h
 cases h1
 refine ⟨s,rfl,?_⟩
 have:=hw s.data.toList.length (by simp [DataW.weights])
 rw [Array.length_toList] at this
 have h2:s.data.size=s.size:=rfl
 omega
theorem Xah {n:Nat} {v:Value} {y:DataW H×List MemPlace} (h:DataW.trod enc Tryz.prog w base spare held n 22 [v]=some y) (hw:Fit 22 y.1):∃ l:List Int,Xf w.heap.size w 1 Zd v l:=
 V7 0 (by_:=8) Tryz.underlying22 Y2 κ ω ω (fun b o n cs y hc hl h hw=>by
  match cs,hl with
  | [c],_=>
   obtain ⟨x,rfl,hx⟩:=Q5 h
   exact ⟨x,hc 0 ω,hx⟩) h hw
theorem Xo7 {n:Nat} {v:Value} {y:DataW H×List MemPlace} (h:DataW.trod enc Tryz.prog w base spare held n 91 [v]=some y) (hw:Fit 91 y.1):∃ l:List Ins,Xf w.heap.size w 2 Xbu v l:=
 V7 ⟨0,0⟩ (by_:=16) Tryz.underlying91 κ κ ω ω (fun b o n cs y hc hl h hw=>by
  match cs,hl with
  | [c0,c1],_=>
   obtain ⟨_,_,h0,_⟩:=Yh Tryz.underlying124 h hw 0 rfl Y2 rfl
   obtain ⟨_,_,h1,_⟩:=Yh Tryz.underlying124 h hw 1 rfl Y2 rfl
   obtain ⟨x0,rfl,k0⟩:=Q5 h0
   obtain ⟨x1,rfl,k1⟩:=Q5 h1
   exact ⟨⟨x0,x1⟩,hc 0 ω,hc 1 ω,k0,k1⟩) h hw
theorem Xoy {n:Nat} {v:Value} {y:DataW H×List MemPlace} (h:DataW.trod enc Tryz.prog w base spare held n 23 [v]=some y) (hw:Fit 23 y.1):∃ l:List Fun,Xf w.heap.size w 5 (Zl w.heap.size) v l:=
 V7 ⟨ByteArray.empty,0,0,false,[]⟩ (by_:=64) Tryz.underlying23 κ κ ω ω (fun b o n cs y hc hl h hw=>by
  match cs,hl with
  | [c0,c1,c2,c3,c4],_=>
   obtain ⟨_,_,h0,w0⟩:=Yh Tryz.underlying93 h hw 0 rfl Xe9 rfl
   obtain ⟨_,_,h1,_⟩:=Yh Tryz.underlying93 h hw 1 rfl Y2 rfl
   obtain ⟨_,_,h2,_⟩:=Yh Tryz.underlying93 h hw 2 rfl Y2 rfl
   obtain ⟨_,_,h3,_⟩:=Yh Tryz.underlying93 h hw 3 rfl Xix rfl
   obtain ⟨_,_,h4,w4⟩:=Yh Tryz.underlying93 h hw 4 rfl κ rfl
   obtain ⟨x0,rfl,k0⟩:=Xnj h0 w0
   obtain ⟨x1,rfl,k1⟩:=Q5 h1
   obtain ⟨x2,rfl,k2⟩:=Q5 h2
   obtain ⟨x3,rfl⟩:=Xpk h3
   obtain ⟨x4,k4⟩:=Xo7 h4 w4
   exact ⟨⟨x0,x1,x2,x3,x4⟩,hc 0 ω,hc 1 ω,hc 2 ω,hc 3 ω,⟨c4,hc 4 ω,k4⟩,k0,k1,k2⟩) h hw
theorem Xpt {n:Nat} {v:Value} {y:DataW H×List MemPlace} (h:DataW.trod enc Tryz.prog w base spare held n 47 [v]=some y) (hw:Fit 47 y.1):∃ l:List Fra,Xf w.heap.size w 4 (Qp w.heap.size) v l:=
 V7 ⟨0,0,[],[]⟩ (by_:=64) Tryz.underlying47 κ κ ω ω (fun b o n cs y hc hl h hw=>by
  match cs,hl with
  | [c0,c1,c2,c3],_=>
   obtain ⟨_,_,h0,_⟩:=Yh Tryz.underlying129 h hw 0 rfl Y2 rfl
   obtain ⟨_,_,h1,_⟩:=Yh Tryz.underlying129 h hw 1 rfl Y2 rfl
   obtain ⟨_,_,h2,w2⟩:=Yh Tryz.underlying129 h hw 2 rfl Kc rfl
   obtain ⟨_,_,h3,w3⟩:=Yh Tryz.underlying129 h hw 3 rfl Kc rfl
   obtain ⟨x0,rfl,k0⟩:=Q5 h0
   obtain ⟨x1,rfl,k1⟩:=Q5 h1
   obtain ⟨x2,k2⟩:=Xah h2 w2
   obtain ⟨x3,k3⟩:=Xah h3 w3
   exact ⟨⟨x0,x1,x2,x3⟩,hc 0 ω,hc 1 ω,⟨c2,hc 2 ω,k2⟩,⟨c3,hc 3 ω,k3⟩,k0,k1⟩) h hw
theorem Xpx {n:Nat} {v:Value} {y:DataW H×List MemPlace} (h:DataW.trod enc Tryz.prog w base spare held n 26 [v]=some y) (hw:Fit 26 y.1):∃ l:List Nod,Xf w.heap.size w 2 (Xbc w.heap.size) v l:=
 V7 ⟨0,[]⟩ (by_:=32) Tryz.underlying26 κ κ ω ω (fun b o n cs y hc hl h hw=>by
  match cs,hl with
  | [c0,c1],_=>
   obtain ⟨_,_,h0,_⟩:=Yh Tryz.underlying74 h hw 0 rfl Y2 rfl
   obtain ⟨_,_,h1,w1⟩:=Yh Tryz.underlying74 h hw 1 rfl Kc rfl
   obtain ⟨x0,rfl,k0⟩:=Q5 h0
   obtain ⟨x1,k1⟩:=Xah h1 w1
   exact ⟨⟨x0,x1⟩,hc 0 ω,⟨c1,hc 1 ω,k1⟩,k0⟩) h hw
theorem Xgi {t:TypeId} {fs:Array Field} {r:Go.Reach} {b0:Nat} {v:Value} {d:DataW H} {p:List MemPlace} (hs:Tryz.prog.underlying t=some (.struct fs)) (hv:Value.okWide Tryz.prog w r b0 t v) (h:DataW.Trod enc Tryz.prog w base spare held t v d p) :
  ∃ (cs:List Value) (n:Nat),v=.agg cs.toArray/\cs.length=Tryz.prog.cellsOf t/\DataW.trod enc Tryz.prog w base spare held n t cs=some (d,p):=by
 obtain ⟨cs,rfl,aA⟩:=okWide_struct hs hv
 obtain ⟨fuel,hf⟩:=h
 exact ⟨cs.toList,fuel,ψ,by simpa using aA,by simpa [Value.cells] using hf⟩
theorem Xkt {r:Go.Reach} {b0:Nat} {v:Value} {d:DataW H} {p:List MemPlace} (hv:Value.okWide Tryz.prog w r b0 25 v) (h:DataW.Trod enc Tryz.prog w base spare held 25 v d p) (hw:Fit 25 d):∃ c,Yj w.heap.size w v c:=by
 obtain ⟨cs,n,rfl,hl,h⟩:=Xgi Tryz.underlying25 hv h
 match cs,hl.trans (show Tryz.prog.cellsOf 25=3 by kernel_rfl) with
 | [c0,c1,c2],_=>
  obtain ⟨_,_,h0,w0⟩:=Yh Tryz.underlying25 h hw 0 rfl Kc rfl
  obtain ⟨_,_,h1,_⟩:=Yh Tryz.underlying25 h hw 1 rfl Y2 rfl
  obtain ⟨_,_,h2,w2⟩:=Yh Tryz.underlying25 h hw 2 rfl κ rfl
  obtain ⟨x0,k0⟩:=Xah h0 w0
  obtain ⟨x1,rfl,k1⟩:=Q5 h1
  obtain ⟨x2,k2⟩:=Xoy h2 w2
  exact ⟨⟨x0,x1,x2⟩,c0,c2,rfl,k0,k2,k1⟩
theorem Xrz {r:Go.Reach} {b0:Nat} {v:Value} {d:DataW H} {p:List MemPlace} (hv:Value.okWide Tryz.prog w r b0 28 v) (h:DataW.Trod enc Tryz.prog w base spare held 28 v d p) (hw:Fit 28 d):∃ m,MmV w.heap.size w v m:=by
 obtain ⟨cs,n,rfl,hl,h⟩:=Xgi Tryz.underlying28 hv h
 match cs,hl.trans (show Tryz.prog.cellsOf 28=2 by kernel_rfl) with
 | [c0,c1],_=>
  obtain ⟨_,_,h0,w0⟩:=Yh Tryz.underlying28 h hw 0 rfl Kc rfl
  obtain ⟨_,_,h1,w1⟩:=Yh Tryz.underlying28 h hw 1 rfl κ rfl
  obtain ⟨x0,k0⟩:=Xah h0 w0
  obtain ⟨x1,k1⟩:=Xpx h1 w1
  exact ⟨⟨x0,x1⟩,c0,c1,rfl,k0,k1⟩
end
end Go.Proofs.YtiejafonjemioaaGreatDoor
namespace Go.Proofs.YtiejafonjemioaaGreatDoor
open Go.RowKit
end Go.Proofs.YtiejafonjemioaaGreatDoor
namespace Go.Proofs.YtiejafonjemioaaGreatDoor
open Go.ChangeShapes Go.WideShapes Go.ChangeAt Go.WideElems Go.RowKit
theorem own:ownKnob Tryz.prog.godebug=none:=by kernel_rfl
theorem Xp6:laidOutB Tryz.prog=true:=by kernel_rfl
def Xcq:List (String×DataW Unit):=[("math/bits.deBruijn64tab",Rows.laid_math_bits_deBruijn64tab),("unicode.White_Space",Rows.laid_unicode_White_Space),("strings.asciiSpace",Rows.laid_strings_asciiSpace)]
theorem Xg1 (os:Os) (args:Array Value):laidMetH Tryz.prog Xcq ((World.doorLaid Tryz.prog 38 os).forCall (fun _ _=>0) ⟨#[],args,[]⟩).memory:=
 laidMetH_of_parts3 (fuel:=8) (laidMet_of_run' 8 κ κ) κ κ
theorem gTz:Tryz.prog.globalNamed "math/bits.deBruijn64tab"=some 0:=by kernel_rfl
theorem Xo6:(Tryz.prog.globals[0]?).map (·.type)=some 235:=by kernel_rfl
theorem gSp:Tryz.prog.globalNamed "strings.asciiSpace"=some 1:=by kernel_rfl
theorem Xou:(Tryz.prog.globals[1]?).map (·.type)=some 241:=by kernel_rfl
theorem Xgs:Tryz.prog.cellsOf 5=1:=by kernel_rfl
def Xfo:List Int:=Lib.deBruijn64tab.map (fun (n:Nat)=>(n:Int))
theorem Xku {W:World} (h:laidMetH Tryz.prog Xcq W):Qa W:=by
 rw [MakeChecks.laidMetH_plain _ _ _ κ] at h
 have h1:laidMet Tryz.prog (("math/bits.deBruijn64tab",Lib.tabData .u8 Xfo)::[("unicode.White_Space",Rows.laid_unicode_White_Space),("strings.asciiSpace",Rows.laid_strings_asciiSpace)]) W:=h
 have h2:laidMet Tryz.prog [("strings.asciiSpace",Lib.tabData .u8 Lib.asciiSpaceTab)] W:=h.tail.tail
 have t1:=Lib.tabIs_of_head gTz Xo6 Tryz.underlying235 Tryz.underlying5 Xgs κ h1
 have t2:=Lib.tabIs_of_head gSp Xou Tryz.underlying241 Tryz.underlying5 Xgs κ h2
 refine ⟨t2,fun j hj=>?_⟩
 have hl:j<Xfo.length:=by unfold Xfo;rw [List.length_map];exact hj
 rw [t1.cell gTz j hl]
 unfold Xfo
 rw [List.getD_eq_getElem?_getD,List.getElem?_map,Lg hj,List.getD_eq_getElem?_getD,Lg hj]
 rfl
theorem Xav {H:Type} {enc:TypeId×Value->H} {W W':World} {sp:Nat->Bool}:∀ {ts:List TypeId} {vs:List Value} {ds:List (DataW H)} {ps:List MemPlace},
  (∀ t∈ts,Tryz.prog.readableRec t=true/\t<Tryz.prog.types.size)->DataW.TrodAll enc Tryz.prog W 0 (fun _=>true) true ts vs ds ps->(∀ x∈ps,W.sameAt W' x)->(∀ x∈ps,sp x.block=true)->DataW.TrodAll enc Tryz.prog W' 0 sp true ts vs ds ps
 | [],[],[],_,_,h,_,_=>h
 | t::ts,v::vs,d::ds,ps,hr,h,hb,hs=>by
  obtain ⟨p,q,h1,h2,rfl⟩:=h
  exact ⟨p,q,Trod_stays Xp6 (hr t ψ).1 (hr t ψ).2 h1 (fun x hx=>hb x (by simp [hx])) (fun x hx=>hs x (by simp [hx])),Xav (fun u hu=>hr u (by simp [hu])) h2 (fun x hx=>hb x (by simp [hx])) (fun x hx=>hs x (by simp [hx])),rfl⟩
 | [],_::_,_,_,_,h,_,_=>h.elim
 | [],[],_::_,_,_,h,_,_=>h.elim
 | _::_,[],_,_,_,h,_,_=>h.elim
 | _::_,_::_,[],_,_,h,_,_=>h.elim
theorem Xgw {H:Type} {enc:TypeId×Value->H} {fn:Func} {s:ChangeSpec} {W W':World} {args:Array Value} {ds:List (DataW H)} {before:List MemPlace} (hvars:s.vars=[])
  (hr:∀ t∈fn.params.toList,Tryz.prog.readableRec t=true/\t<Tryz.prog.types.size) (hres:fn.resultTypes=#[4])
  (hW:DataW.Whole enc Tryz.prog fn.params.toList s.vars false W args.toList ds [] before) (h1:(s.fn H (ds++[])).results=[.lit (.bool true)]) (h2:(s.fn H (ds++[])).args=ds) (h3:(s.fn H (ds++[])).vars=[]) (hb:Below W.heap.size W W') :
  s.post enc Tryz.prog fn false true false false W args (.bool true) W':=by
 have aA:=hW
 obtain ⟨p,q,hA,hV,rfl,aC,aD⟩:=hW
 rw [hvars] at hV
 obtain ⟨_,rfl⟩:=trodVars_none hV
 have aB:∀ x∈p,x.block<W.heap.size:=fun x hx=>aA.lt x (by simpa using hx)
 refine ⟨ds,[],p++[],[],p,[],aA,?_,?_,?_,World.keptBut_mono (fun x hx=>⟨hx,.inr (.inl (by simpa using hx))⟩) (hb.frame _),fun h=>by cases h⟩
 ·rw [hres,h1];exact trodAll_mk1 (shut_bool Tryz.underlying4 _)
 ·rw [h2];exact Xav hr hA (fun x hx=>hb.same (aB x hx)) (fun x hx=>by simpa using aB x hx)
 ·rw [h3,hvars];rfl
