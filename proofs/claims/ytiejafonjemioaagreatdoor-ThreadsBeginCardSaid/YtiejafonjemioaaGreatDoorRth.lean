import Derived.Test.YtiejafonjemioaaGreatDoorLsc
import Derived.Test.YtiejafonjemioaaGreatDoorRft
import Derived.Test.YtiejafonjemioaaGreatDoorRva
import Derived.Test.YtiejafonjemioaaGreatDoorTh6
set_option maxHeartbeats 8000000
set_option maxRecDepth 100000
set_option linter.unusedVariables false
set_option linter.unusedSimpArgs false
open Go.Value renaming slice→σ
open Go.Obj renaming cells→χ
namespace Go.Proofs.YtiejafonjemioaaGreatDoor
open Go.RowKit
theorem rthread_any {c:Cod} (hsd:Xv c) (hsm:Zb c) (cv:Value) (s:Thr) (sv:Value) (t:Nat) (m:Mch) (n:Int) (l:List Cal) (r:List Xr7) (b e:List Int) (B:Nat) (w:World) (hB:B<=w.heap.size) (hc:Yj B w cv c) (hs:Xsd B w sv s)
  (hm:s.running[t]?=some m) (hn:s.nodes[t]?=some n) (hl:s.calls[t]?=some l) (hr:s.results[t]?=some r) (hb:s.begins[t]?=some b) (he:s.ends[t]?=some e) :
  Calls Tryz.prog 64 #[cv,sv,ι t] w fun z w'=>z=.returned (.bool (pB (Xu3 c s m n l r b e)))/\Below w.heap.size w w':=by
 obtain ⟨fa,fc,qa,qc,ga,gc,ma,mc,rb,ro,rc,nb,no,nc,cb,co,cc,ob,oo,oc,bb,bo,bc,eb,eo,ec,ua,uc,la,lc,pa,pc,cG,cH,cI,cJ,W,L,rfl,rfl,hW,aE,H0,HS,HC,HU,bF,bC,bD,bB,bE,aB,i0,i1,i2,i3,i4,i5,i6⟩:=th_open hB hc hs hm hn hl hr hb he
 have bG:=Lh hsd
 have bH:=Lh hsm
 clear hc hs hm hn hl hr hb he hsd hsm
 obtain ⟨g0,g1,g2,-,-,-,g6,g7,-,-,-,-,-,aS,bM,bN,bO,bP,bQ,bR,bS,bT,aK,-⟩:=HS.o _ H0.o
 have z0:=Bl g0
 have z6:=Bl g6
 have cC:=Bl aS
 have aZ:=Bl aK
 go_enter Tryz.func64,Tryz.ntmps64
 go_upto_region 1 with fail
 rw [<-hW]
 clear hW
 go_wp2_with fail
 refine (X3t m _ B _ aB.o HU.o).mono ?_
 rintro e1 w1 ⟨rfl,aO⟩
 have H1:=Lh (H0.o.keep aO)
 have B1:=Lh aO
 clear g0 g1 g2 g6 g7 aS bM bN bO bP bQ bR bS bT aK z0 z6 cC aZ aO
 go_upto_if 16 with fail
 go_cut [7] (fun s7 wx=>s7=ι (Xvv m:Int)/\Hid (Xth L wx)/\Hid (Below W.heap.size W wx)/\Hid (Xuw c m n))
 case first=>
  cases aF:Xsm m with
  | true=>
   have HR:Hid (Xvv m=0):=Lh (by unfold Xvv;rw [aF];rfl)
   have HI:=Lh aF
   clear aF
   obtain ⟨-,-,-,-,-,-,-,g7,-,-,-,-,-,-,-,-,-,-,-,-,-,-,aK,-⟩:=HS.o _ H1.o
   have z7:=Bl g7
   have aZ:=Bl aK
   by_cases hn:n=0
   ·subst hn
    go_wp2
    go_meet
    case rel=>exact ⟨by rw [HR.o];rfl,H1,B1,Lh (.inl ⟨HI.o,rfl⟩)⟩
   ·have HF:Hid (pB (Xu3 c s m n l r b e)=false):=Lh (K8 (fun h=>by
     rcases h.head with ⟨-,h⟩|⟨h,-⟩
     ·exact hn h
     ·rw [HI.o] at h;cases h))
    have d:(n != 0)=true:=by simpa using hn
    clear hn
    go_wp2
    go_ret
    exact ⟨by rw [HF.o];rfl,aE.o.then B1.o⟩
  | false=>
   have HR:Hid (Xvv m=1):=Lh (by unfold Xvv;rw [aF];rfl)
   have HI:=Lh aF
   clear aF
   go_upto_region 3 with fail
   go_cut [42] (fun cB wx=>cB=.bool (!pB (Xuw c m n))/\Hid (Xth L wx)/\Hid (Below W.heap.size W wx))
   case first=>
    have aH:=Lh (Xh B1.o 1)
    have aQ:=Lh (H0.o.keep aH.o)
    refine Xyo (Xth L) [6,14,23] κ κ aQ.o ?_
    repeat (first|(refine' Xto (Eq.refl false) rfl _ (fun wV aA=>?_) ?_;rotate_left;(replace aA:=HS.o _ aA);go_simp;(try with_reducible rfl);try simp only [Ap])|(refine Xtn rfl ?_;try simp only [Ap]))
    refine Xv9 (Eq.refl true) rfl ?_
    go_simp
    go_at_call 99
    refine (Xjl bG.o bH.o _ m _ B w1.drew (Nt aB.o aH.o.size) (HC.o.below (aH.o.mono aB.o)) (HU.o.fras (aH.o.mono aB.o))).mono ?_
    rintro z w2 ⟨rfl,aD⟩
    have H2:=Lh (aQ.o.keep aD)
    have B2:=Lh (aH.o.then aD)
    refine ⟨H2.o,?_⟩
    clear aD
    cases hv:pB (Yf c m) with
    | false=>
     have HF:Hid (pB (Xuw c m n)=false):=Lh (K8 (fun h=>by
      rcases h with ⟨h,-⟩|⟨-,h,-⟩
      ·rw [HI.o] at h;cases h
      ·rw [Kh h] at hv;cases hv))
     clear hv
     repeat (first|(refine' Xto (Eq.refl false) rfl _ (fun wV aA=>?_) ?_;rotate_left;(replace aA:=HS.o _ aA);go_simp;(try with_reducible rfl);try simp only [Ap])|(refine Xtn rfl ?_;try simp only [Ap]))
     refine Xxz ?_
     go_wp2
     go_meet
     case rel=>exact ⟨by rw [HF.o];rfl,H2,B2⟩
    | true=>
     have HV:=Lh (Xry.1 hv)
     clear hv
     repeat (first|(refine' Xto (Eq.refl false) rfl _ (fun wV aA=>?_) ?_;rotate_left;(replace aA:=HS.o _ aA);go_simp;(try with_reducible rfl);try simp only [Ap])|(refine Xtn rfl ?_;try simp only [Ap]))
     refine Xv9 (Eq.refl true) rfl ?_
     go_simp
     go_at_call 75
     refine (X4e m _ B w2 (HU.o.fras (B2.o.mono aB.o))).mono ?_
     rintro z w3 ⟨rfl,aP⟩
     have H3:=Lh (H2.o.keep aP)
     have B3:=Lh (B2.o.then aP)
     refine ⟨H3.o,?_⟩
     clear aP
     cases ha:Xsi m with
     | false=>
      have HF:Hid (pB (Xuw c m n)=false):=Lh (K8 (fun h=>by
       rcases h with ⟨h,-⟩|⟨-,-,h,-⟩
       ·rw [HI.o] at h;cases h
       ·rw [ha] at h;cases h))
      clear ha
      repeat (first|(refine' Xto (Eq.refl false) rfl _ (fun wV aA=>?_) ?_;rotate_left;(replace aA:=HS.o _ aA);go_simp;(try with_reducible rfl);try simp only [Ap])|(refine Xtn rfl ?_;try simp only [Ap]))
      refine Xxz ?_
      go_wp2
      go_meet
      case rel=>exact ⟨by rw [HF.o];rfl,H3,B3⟩
     | true=>
      have HF:Hid (pB (Xuw c m n)=X4h n 0 1099511627776):=Lh (by
       cases hb:X4h n 0 1099511627776 with
       | false=>
        refine K8 (fun h=>?_)
        rcases h with ⟨h,-⟩|⟨-,-,-,h1,h2⟩
        ·rw [HI.o] at h;cases h
        ·simp [X4h,h1,h2] at hb
       | true=>
        simp [X4h] at hb
        exact Kh (.inr ⟨HI.o,HV.o,ha,hb⟩))
      clear ha
      repeat (first|(refine' Xto (Eq.refl false) rfl _ (fun wV aA=>?_) ?_;rotate_left;(replace aA:=HS.o _ aA);go_simp;(try with_reducible rfl);try simp only [Ap])|(refine Xtn rfl ?_;try simp only [Ap]))
      refine Xv9 (Eq.refl true) rfl ?_
      go_simp
      go_at_call 54
      refine (X20 n 0 1099511627776 w3).mono ?_
      rintro z w4 ⟨rfl,rfl⟩
      refine ⟨H3.o,?_⟩
      cases aW:X4h n 0 1099511627776
      all_goals
       rw [aW] at HF
       clear aW
       repeat (first|(refine' Xto (Eq.refl false) rfl _ (fun wV aA=>?_) ?_;rotate_left;(replace aA:=HS.o _ aA);go_simp;(try with_reducible rfl);try simp only [Ap])|(refine Xtn rfl ?_;try simp only [Ap]))
       refine Xxz ?_
       go_wp2
       go_meet
       case rel=>exact ⟨by rw [HF.o];rfl,H3,B3⟩
   case rest=>
    obtain ⟨rfl,H4,B4⟩:=hcut
    cases hp:pB (Xuw c m n) with
    | false=>
     have HF:Hid (pB (Xu3 c s m n l r b e)=false):=Lh (K8 (fun h=>by rw [Kh h.head] at hp;cases hp))
     clear hp
     go_wp2
     go_ret
     exact ⟨by rw [HF.o];rfl,aE.o.then B4.o⟩
    | true=>
     have HH:=Lh (Xry.1 hp)
     clear hp
     go_wp2
     go_meet
     case rel=>exact ⟨by rw [HR.o];rfl,H4,B4,HH⟩
 case rest=>
  obtain ⟨rfl,H8,B8,HH⟩:=hcut
  have aR:Hid (Xvv m<=1):=Lh (by unfold Xvv;split<;>omega)
  obtain ⟨R,hR⟩:∃ R,R=Xvv m:=⟨_,rfl⟩
  rw [<-hR] at aR ⊢
  have cK:=aR.o
  have aJ:=Lh hR
  obtain ⟨-,-,-,-,-,-,-,-,g8,g9,bJ,bK,bL,-,-,-,-,-,-,-,-,-,-,aC,aT,aU,aV,-⟩:=HS.o _ H8.o
  have z8:=Bl g8
  have aL:=Bl aC
  have cD:=Bl aT
  have cE:=Bl aU
  have cF:=Bl aV
  clear hR
  have bX:=bF.o
  have bW:=bC.o
  have bY:IntKind.i64.wrap ((r.length:Int)+(R:Int))=(r.length:Int)+(R:Int):=by rw [IntKind.wrap_i64];omega
  have bZ:IntKind.i64.wrap ((l.length:Int)+(r.length:Int))=(l.length:Int)+(r.length:Int):=by rw [IntKind.wrap_i64];omega
  have cA:IntKind.i64.wrap ((l.length:Int)+(r.length:Int)+(R:Int))=(l.length:Int)+(r.length:Int)+(R:Int):=by rw [IntKind.wrap_i64];omega
  by_cases q3:2000<l.length+r.length+R
  ·have HF:Hid (pB (Xu3 c s m n l r b e)=false):=Lh (K8 (fun h=>by have:=h.ops;rw [<-aJ.o] at this;omega))
   have d5:decide ((2000:Int)<(l.length:Int)+(r.length:Int)+(R:Int))=true:=by simp only [decide_eq_true_eq];omega
   have d6:decide (2000<l.length+r.length+R)=true:=by simpa using q3
   clear q3
   go_wp2
   go_ret
   exact ⟨by rw [HF.o];rfl,aE.o.then B8.o⟩
  have d5:decide ((2000:Int)<(l.length:Int)+(r.length:Int)+(R:Int))=false:=by simp only [decide_eq_false_iff_not];omega
  have d6:decide (2000<l.length+r.length+R)=false:=by simpa using q3
  have Q3:=Lh q3
  clear q3
  by_cases q1:e.length=r.length
  rotate_left
  ·have HF:Hid (pB (Xu3 c s m n l r b e)=false):=Lh (K8 (fun h=>q1 h.ends))
   have d1:((e.length:Int) != (r.length:Int))=true:=by simp only [bne_iff_ne,ne_eq];omega
   have d2:(e.length != r.length)=true:=by simp;exact q1
   clear q1
   go_wp2
   go_ret
   exact ⟨by rw [HF.o];rfl,aE.o.then B8.o⟩
  have d1:((e.length:Int) != (r.length:Int))=false:=by rw [q1];simp
  have d2:(e.length != r.length)=false:=by simp;exact q1
  have Q1:=Lh q1
  clear q1
  by_cases q2:b.length=r.length+R
  rotate_left
  ·have HF:Hid (pB (Xu3 c s m n l r b e)=false):=Lh (K8 (fun h=>q2 (by rw [aJ.o];exact h.begins)))
   have d3:((b.length:Int) != (r.length:Int)+(R:Int))=true:=by simp only [bne_iff_ne,ne_eq];omega
   have d4:(b.length != r.length+R)=true:=by simp;exact q2
   clear q2
   go_wp2
   go_ret
   exact ⟨by rw [HF.o];rfl,aE.o.then B8.o⟩
  have d3:((b.length:Int) != (r.length:Int)+(R:Int))=false:=by rw [q2];simp
  have d4:(b.length != r.length+R)=false:=by simp;exact q2
  have Q2:=Lh q2
  clear q2
  go_wp2_with fail
  clear g8 g9 bJ bK bL aC aT aU aV z8 aL cD cE cF bY bZ cA d1 d2 d3 d4 d5 d6 i1 i2 i4
  go_loopw [9] (fun i wr=>∃ k:Nat,k<=l.length/\i=ι k/\Hid (Xth L wr)/\Hid (Below W.heap.size W wr)/\Hid (∀ (j:Nat) x,j<k->l[j]?=some x->Yd c x 0=0)) (fun i _=>l.length - (intOf i).toNat)
  case atStart=>exact ⟨0,Nat.zero_le _,rfl,H8,B8,Lh (fun j x h=>by omega)⟩
  case round=>
   obtain ⟨k,hk,rfl,H9,B9,HA⟩:=hrel
   obtain ⟨-,-,-,-,-,-,-,-,g8,-,-,-,-,-,-,-,-,-,-,-,-,-,-,aC,-⟩:=HS.o _ H9.o
   have z8:=Bl g8
   have aL:=Bl aC
   by_cases bV:k<l.length
   ·obtain ⟨x,hx⟩:∃ x,l[k]?=some x:=⟨_,Lg bV⟩
    obtain ⟨xb,xo,rfl,aX,aY⟩:=bD.o.nth hx
    obtain ⟨x0,⟨xv,x1,xs⟩,xz⟩:=aY.below (B9.o.mono aB.o) aX
    obtain ⟨xa,xc,rfl⟩:=xs.fm
    have bd:Hid (Below W.heap.size W wr.drew):=Lh (Xh B9.o 1)
    have HX:Hid (J8 B wr.drew (.agg #[.string x.proc,σ xa x.args.length xc]) x):=Lh ⟨_,rfl,xs.ints (Xh Br 1),xz⟩
    have HE:=Lh hx
    have j0:(0:Int)<=(k:Int):=In _
    have j1:(k:Int)<(l.length:Int):=ω
    have aG:Hid (Xth (((π xb (xo+k*2)),.string x.proc)::((π xb (xo+k*2+1)),σ xa x.args.length xc)::L) wr.drew):=Lh (.cons (Xc (Xh Br 1) x0) (.cons (Xc (Xh Br 1) x1) (H9.o.keep (Xh Br 1))))
    have HT:Hid (∀ V,Xth (((π xb (xo+k*2)),.string x.proc)::((π xb (xo+k*2+1)),σ xa x.args.length xc)::L) V->V.cell? (π w.heap.size 0)=some (σ fa c.fields.length fc)/\V.cell? (π w.heap.size 1)=some (ι c.globals)/\V.cell? (π w.heap.size 2)=some (σ qa c.funcs.length qc)/\V.cell? (π (w.heap.size+1) 5)=some (σ (some (π cb co)) s.calls.length cc)/\V.cell? (π cb (co+t))=some (σ (some (π xb xo)) l.length lc)/\V.cell? (π xb (xo+k*2))=some (.string x.proc)/\V.cell? (π xb (xo+k*2+1))=some (σ xa x.args.length xc)):=Lh (fun V h=>by
     obtain ⟨g0,g1,g2,-,-,-,-,-,g8,-,-,-,-,-,-,-,-,-,-,-,-,-,-,aC,-⟩:=HS.o V (fun j p hp=>h (j+2) p (by simpa using hp))
     exact ⟨g0,g1,g2,g8,aC,h.get 0 rfl,h.get 1 rfl⟩)
    clear x0 x1 xs xz aY aX hx
    go_upto_region 14 with fail
    clear g8 aC z8 aL
    refine Xyo (Xth (((π xb (xo+k*2)),.string x.proc)::((π xb (xo+k*2+1)),σ xa x.args.length xc)::L)) [9] κ κ aG.o ?_
    repeat (first|(refine' Xto (Eq.refl false) rfl _ (fun wV aA=>?_) ?_;rotate_left;(replace aA:=HT.o _ aA);go_simp;(try with_reducible rfl);try simp only [Ap])|(refine Xtn rfl ?_;try simp only [Ap]))
    refine Xv9 (Eq.refl true) rfl ?_
    go_simp
    go_at_call 55
    refine (Xd2 c _ x _ 0 B wr.drew (Nt aB.o bd.o.size) (HC.o.below (bd.o.mono aB.o)) HX.o).mono ?_
    rintro z w2 ⟨rfl,aD⟩
    have bI:=Lh (aG.o.keep aD)
    have aM:=Lh ((H9.o.keep (Xh Br 1)).keep aD)
    have aI:=Lh (bd.o.then aD)
    refine ⟨bI.o,?_⟩
    clear aD
    by_cases hg:Yd c x 0=0
    ·have d:(Yd c x 0 != 0)=false:=by rw [hg];rfl
     have bA:Hid (∀ (j:Nat) y,j<k+1->l[j]?=some y->Yd c y 0=0):=Lh (fun j y hj hy=>by
      by_cases bU:j=k
      ·subst bU;rw [HE.o] at hy;cases hy;exact hg
      ·exact HA.o j y ω hy)
     rw [hg]
     clear hg
     repeat (first|(refine' Xto (Eq.refl false) rfl _ (fun wV aA=>?_) ?_;rotate_left;(replace aA:=HT.o _ aA);go_simp;(try with_reducible rfl);try simp only [Ap])|(refine Xtn rfl ?_;try simp only [Ap]))
     refine Xxz ?_
     go_wp2
     go_roundw
     case rel=>exact ⟨k+1,ω,by go_num,aM,aI,bA⟩
     case measure=>simp [intOf];omega
    ·have d:(Yd c x 0 != 0)=true:=by simpa using hg
     have HF:Hid (pB (Xu3 c s m n l r b e)=false):=Lh (K8 (fun h=>hg (by
      have:=List.any_eq_false.1 h.right x (Lm HE.o)
      simpa using this)))
     clear hg
     repeat (first|(refine' Xto (Eq.refl false) rfl _ (fun wV aA=>?_) ?_;rotate_left;(replace aA:=HT.o _ aA);go_simp;(try with_reducible rfl);try simp only [Ap])|(refine Xtn rfl ?_;try simp only [Ap]))
     refine Xxz ?_
     go_wp2
     go_ret
     exact ⟨by rw [HF.o];rfl,aE.o.then aI.o⟩
   have HF:Hid (pB (Xu3 c s m n l r b e)=V5 b e (-1) s.step):=Lh (by
    have aN:l.any (fun x=>!(Yd c x 0 == 0))=false:=List.any_eq_false.2 (fun x hx=>by
     obtain ⟨j,hj,rfl⟩:=List.getElem_of_mem hx
     simpa using HA.o j _ ω (Lg hj))
    cases ht:V5 b e (-1) s.step with
    | false=>exact K8 (fun h=>by rw [h.timed] at ht;cases ht)
    | true=>exact Kh ⟨HH.o,Q1.o,by rw [<-aJ.o];exact Q2.o,by rw [<-aJ.o];have:=Q3.o;omega,ht,aN⟩)
   have bd:Hid (Below W.heap.size W wr.drew):=Lh (Xh B9.o 1)
   have aG:Hid (Xth L wr.drew):=Lh (H9.o.keep (Xh Br 1))
   go_upto_region 16 with fail
   clear g8 aC z8 aL
   refine Xyo (Xth L) [12] κ κ aG.o ?_
   repeat (first|(refine' Xto (Eq.refl false) rfl _ (fun wV aA=>?_) ?_;rotate_left;(replace aA:=HS.o _ aA);go_simp;(try with_reducible rfl);try simp only [Ap])|(refine Xtn rfl ?_;try simp only [Ap]))
   refine Xv9 (Eq.refl true) rfl ?_
   go_simp
   go_at_call 100
   refine (X3j b e _ _ s.step B B wr.drew (bB.o.ints (bd.o.mono aB.o)) (bE.o.ints (bd.o.mono aB.o))).mono ?_
   rintro z w2 ⟨rfl,nq,hq⟩
   have aI:Hid (Below W.heap.size W w2):=Lh (by rw [hq];exact Xh bd.o nq)
   have aM:Hid (Xth L w2):=Lh (by rw [hq];exact aG.o.keep (Xh Br nq))
   refine ⟨aM.o,?_⟩
   clear hq
   repeat (first|(refine' Xto (Eq.refl false) rfl _ (fun wV aA=>?_) ?_;rotate_left;(replace aA:=HS.o _ aA);go_simp;(try with_reducible rfl);try simp only [Ap])|(refine Xtn rfl ?_;try simp only [Ap]))
   refine Xxz ?_
   go_wp2
   go_ret
   exact ⟨by rw [HF.o];rfl,aE.o.then aI.o⟩
theorem rValid_any (c:Cod) (cv:Value) (s:Thr) (sv:Value) (B:Nat) (w:World) (hB:B<=w.heap.size) (hsm:Zb c) (hc:Yj B w cv c) (hs:Xsd B w sv s) :
  Calls Tryz.prog 21 #[cv,sv] w fun z w'=>z=.returned (.bool (pB (Xse c s)))/\Below w.heap.size w w':=by
 obtain ⟨fa,fc,qa,qc,ga,gc,ma,mc,ra,rc,na,nc,ca,cc,oa,oc,ba,bc,ea,ec,W,L,rfl,rfl,hW,aA,H0,SS,HC,HS,aF,aQ⟩:=ct_open hB hc hs
 have HM:Hid (MmV B W (.agg (Bm ga gc ma mc s.mem)) s.mem):=Lh ⟨_,_,rfl,HS.o.parts.1,HS.o.parts.2.1⟩
 have aO:=Lh hsm
 obtain ⟨g0,g1,g2,g3,g4,g5,g6,g7,g8,g9,aC,aD,aE,-⟩:=SS.o _ H0.o
 have z0:=Bl g0
 have z1:=Bl g3
 clear hc hs hsm
 go_enter Tryz.func21,Tryz.ntmps21
 go_upto_region 1 with fail
 rw [<-hW]
 clear hW
 go_wp2_with fail
 refine (U0 c _ B W aF.o HC.o).mono ?_
 rintro e1 w1 ⟨rfl,aI⟩
 have H1:=Lh (H0.o.keep aI)
 have B1:=Lh aI
 clear g0 g1 g2 g3 g4 g5 g6 g7 g8 g9 aC aD aE z0 z1 aI
 obtain ⟨g0,g1,g2,g3,g4,g5,g6,g7,g8,g9,aC,aD,aE,-⟩:=SS.o _ H1.o
 have z0:=Bl g0
 have z1:=Bl g3
 cases aH:Xa2 c with
 | false=>
  have HF:Hid (¬Xse c s):=Lh (fun h=>by rw [Zg h.sound] at aH;cases aH)
  clear aH
  go_wp2
  go_ret
  exact Xsc HF.o (aA.o.then B1.o)
 | true=>
 have aL:=Lh (Xq3.1 aH)
 clear aH
 go_wp2_with fail
 refine (rFits_any c _ s.mem _ B w1 (Nt aF.o B1.o.size) (HC.o.below (B1.o.mono aF.o)) (HM.o.below (B1.o.mono aF.o))).mono ?_
 rintro e2 w2 ⟨rfl,aJ⟩
 have H2:=Lh (H1.o.keep aJ)
 have B2:=Lh (B1.o.then aJ)
 clear g0 g1 g2 g3 g4 g5 g6 g7 g8 g9 aC aD aE z0 z1 aJ
 obtain ⟨g0,g1,g2,g3,g4,g5,g6,g7,g8,g9,aC,aD,aE,-⟩:=SS.o _ H2.o
 have z0:=Bl g0
 have z1:=Bl g3
 cases aG:Q7 c s.mem with
 | false=>
  have HF:Hid (¬Xse c s):=Lh (fun h=>by rw [h.fits] at aG;cases aG)
  clear aG
  go_wp2
  go_ret
  exact Xsc HF.o (aA.o.then B2.o)
 | true=>
 have aN:=Lh aG
 clear aG
 go_wp2_with fail
 refine (X20 s.fuel 0 1048576 w2).mono ?_
 rintro e3 w3 ⟨rfl,rfl⟩
 cases q0:X4h s.fuel 0 1048576 with
 | false=>
  have HF:Hid (¬Xse c s):=Lh (fun h=>by
   have h1:=h.fuel
   simp [X4h,h1.1,h1.2] at q0)
  clear q0
  go_wp2
  go_ret
  exact Xsc HF.o (aA.o.then B2.o)
 | true=>
 have Q0:Hid (0<=s.fuel/\s.fuel<=1048576):=Lh (by simpa [X4h] using q0)
 clear q0
 go_wp2_with fail
 refine (X20 s.step 0 65536 w2).mono ?_
 rintro e3 w3 ⟨rfl,rfl⟩
 cases q1:X4h s.step 0 65536 with
 | false=>
  have HF:Hid (¬Xse c s):=Lh (fun h=>by
   have h1:=h.step
   simp [X4h,h1.1,h1.2] at q1)
  clear q1
  go_wp2
  go_ret
  exact Xsc HF.o (aA.o.then B2.o)
 | true=>
 have Q1:Hid (0<=s.step/\s.step<=65536):=Lh (by simpa [X4h] using q1)
 clear q1
 go_wp2_with fail
 refine (X20 (s.running.length:Int) 1 8 w2).mono ?_
 rintro e3 w3 ⟨rfl,rfl⟩
 cases q2:X4h (s.running.length:Int) 1 8 with
 | false=>
  have HF:Hid (¬Xse c s):=Lh (fun h=>by
   have h1:=h.one
   have h2:=h.eight
   simp [X4h] at q2
   omega)
  clear q2
  go_wp2
  go_ret
  exact Xsc HF.o (aA.o.then B2.o)
 | true=>
 have Q2:Hid (1<=s.running.length/\s.running.length<=8):=Lh (by simp [X4h] at q2;omega)
 clear q2
 by_cases p0:s.nodes.length=s.running.length
 rotate_left
 ·have HF:Hid (¬Xse c s):=Lh (fun h=>p0 h.nodes)
  have e0:((s.nodes.length:Int) != (s.running.length:Int))=true:=by simp only [bne_iff_ne,ne_eq];omega
  have f0:(s.nodes.length != s.running.length)=true:=by simp;exact p0
  clear p0
  go_wp2
  go_ret
  exact Xsc HF.o (aA.o.then B2.o)
 have e0:((s.nodes.length:Int) != (s.running.length:Int))=false:=by rw [p0];simp
 have f0:(s.nodes.length != s.running.length)=false:=by rw [p0];simp
 have P0:=Lh p0
 clear p0
 by_cases p1:s.calls.length=s.running.length
 rotate_left
 ·have HF:Hid (¬Xse c s):=Lh (fun h=>p1 h.calls)
  have e1:((s.calls.length:Int) != (s.running.length:Int))=true:=by simp only [bne_iff_ne,ne_eq];omega
  have f1:(s.calls.length != s.running.length)=true:=by simp;exact p1
  clear p1
  go_wp2
  go_ret
  exact Xsc HF.o (aA.o.then B2.o)
 have e1:((s.calls.length:Int) != (s.running.length:Int))=false:=by rw [p1];simp
 have f1:(s.calls.length != s.running.length)=false:=by rw [p1];simp
 have P1:=Lh p1
 clear p1
 by_cases p2:s.results.length=s.running.length
 rotate_left
 ·have HF:Hid (¬Xse c s):=Lh (fun h=>p2 h.results)
  have e2:((s.results.length:Int) != (s.running.length:Int))=true:=by simp only [bne_iff_ne,ne_eq];omega
  have f2:(s.results.length != s.running.length)=true:=by simp;exact p2
  clear p2
  go_wp2
  go_ret
  exact Xsc HF.o (aA.o.then B2.o)
 have e2:((s.results.length:Int) != (s.running.length:Int))=false:=by rw [p2];simp
 have f2:(s.results.length != s.running.length)=false:=by rw [p2];simp
 have P2:=Lh p2
 clear p2
 by_cases p3:s.begins.length=s.running.length
 rotate_left
 ·have HF:Hid (¬Xse c s):=Lh (fun h=>p3 h.begins)
  have e3:((s.begins.length:Int) != (s.running.length:Int))=true:=by simp only [bne_iff_ne,ne_eq];omega
  have f3:(s.begins.length != s.running.length)=true:=by simp;exact p3
  clear p3
  go_wp2
  go_ret
  exact Xsc HF.o (aA.o.then B2.o)
 have e3:((s.begins.length:Int) != (s.running.length:Int))=false:=by rw [p3];simp
 have f3:(s.begins.length != s.running.length)=false:=by rw [p3];simp
 have P3:=Lh p3
 clear p3
 by_cases p4:s.ends.length=s.running.length
 rotate_left
 ·have HF:Hid (¬Xse c s):=Lh (fun h=>p4 h.ends)
  have e4:((s.ends.length:Int) != (s.running.length:Int))=true:=by simp only [bne_iff_ne,ne_eq];omega
  have f4:(s.ends.length != s.running.length)=true:=by simp;exact p4
  clear p4
  go_wp2
  go_ret
  exact Xsc HF.o (aA.o.then B2.o)
 have e4:((s.ends.length:Int) != (s.running.length:Int))=false:=by rw [p4];simp
 have f4:(s.ends.length != s.running.length)=false:=by rw [p4];simp
 have P4:=Lh p4
 clear p4
 go_wp2_with fail
 clear g0 g1 g2 g3 g4 g5 g6 g7 g8 g9 aC aD aE z0 z1 e0 f0 e1 f1 e2 f2 e3 f3 e4 f4
 go_loopw [6] (fun i wr=>∃ k:Nat,k<=s.running.length/\i=ι k/\Hid (Xth L wr)/\Hid (Below W.heap.size W wr)/\Hid (∀ (t:Nat) m n l r b e,t<k->s.running[t]?=some m->s.nodes[t]?=some n->s.calls[t]?=some l->s.results[t]?=some r->s.begins[t]?=some b->s.ends[t]?=some e->Xu3 c s m n l r b e)) (fun i _=>s.running.length - (intOf i).toNat)
 case atStart=>exact ⟨0,Nat.zero_le _,rfl,H2,B2,Lh (fun t m n l r b e h=>by omega)⟩
 case round=>
  obtain ⟨k,hk,rfl,HR,BR,HA⟩:=hrel
  obtain ⟨g0,g1,g2,g3,g4,g5,g6,g7,g8,g9,aC,aD,aE,-⟩:=SS.o _ HR.o
  have z0:=Bl g0
  have z1:=Bl g3
  by_cases aB:k<s.running.length
  rotate_left
  ·have HF:Hid (pB (Xse c s)=true):=Lh (Kh ⟨aL.o,aN.o,Q0.o,Q1.o,Q2.o.1,Q2.o.2,P0.o,P1.o,P2.o,P3.o,P4.o,fun t m n l r b e h1=>HA.o t m n l r b e (by have:=(Ll h1);omega) h1⟩)
   have d:decide (k<s.running.length)=false:=by simp only [decide_eq_false_iff_not];exact aB
   clear aB
   go_wp2
   go_ret
   exact ⟨by rw [HF.o];rfl,aA.o.then BR.o⟩
  obtain ⟨m,hm⟩:∃ x,s.running[k]?=some x:=⟨_,Lg aB⟩
  obtain ⟨n,hn⟩:∃ x,s.nodes[k]?=some x:=⟨_,Lg (by rw [P0.o];exact aB)⟩
  obtain ⟨l,hl⟩:∃ x,s.calls[k]?=some x:=⟨_,Lg (by rw [P1.o];exact aB)⟩
  obtain ⟨r,hr⟩:∃ x,s.results[k]?=some x:=⟨_,Lg (by rw [P2.o];exact aB)⟩
  obtain ⟨b,hb⟩:∃ x,s.begins[k]?=some x:=⟨_,Lg (by rw [P3.o];exact aB)⟩
  obtain ⟨e,he⟩:∃ x,s.ends[k]?=some x:=⟨_,Lg (by rw [P4.o];exact aB)⟩
  have HX:=Lh (And.intro hm (And.intro hn (And.intro hl (And.intro hr (And.intro hb he)))))
  have HK:=Lh aB
  have d:decide (k<s.running.length)=true:=by simp only [decide_eq_true_eq];exact aB
  have aR:(0:Int)<=(k:Int):=In _
  have aS:IntKind.i64.wrap ((k:Int)+1)=(k:Int)+1:=by rw [IntKind.wrap_i64];have:=Q2.o;omega
  clear hm hn hl hr hb he
  go_wp2_with fail
  refine (rthread_any aL.o aO.o _ s _ k m n l r b e B wr (Nt aF.o BR.o.size) (HC.o.below (BR.o.mono aF.o)) (HS.o.below (BR.o.mono aF.o)) HX.o.1 HX.o.2.1 HX.o.2.2.1 HX.o.2.2.2.1 HX.o.2.2.2.2.1 HX.o.2.2.2.2.2).mono ?_
  rintro z w3 ⟨rfl,aK⟩
  have H3:=Lh (HR.o.keep aK)
  have B3:=Lh (BR.o.then aK)
  clear g0 g1 g2 g3 g4 g5 g6 g7 g8 g9 aC aD aE z0 z1 aK
  cases hv:pB (Xu3 c s m n l r b e) with
  | false=>
   have HF:Hid (¬Xse c s):=Lh (fun h=>by rw [Kh (h.all k m n l r b e HX.o.1 HX.o.2.1 HX.o.2.2.1 HX.o.2.2.2.1 HX.o.2.2.2.2.1 HX.o.2.2.2.2.2)] at hv;cases hv)
   clear hv
   go_wp2
   go_ret
   exact Xsc HF.o (aA.o.then B3.o)
  | true=>
   have aM:Hid (∀ (t:Nat) m n l r b e,t<k+1->s.running[t]?=some m->s.nodes[t]?=some n->s.calls[t]?=some l->s.results[t]?=some r->s.begins[t]?=some b->s.ends[t]?=some e->Xu3 c s m n l r b e):=Lh (fun t m' n' l' r' b' e' h h1 h2 h3 h4 h5 h6=>by
    by_cases aP:t=k
    ·subst aP
     obtain ⟨g1,g2,g3,g4,g5,g6⟩:=HX.o
     obtain rfl:=Option.some.inj (g1.symm.trans h1)
     obtain rfl:=Option.some.inj (g2.symm.trans h2)
     obtain rfl:=Option.some.inj (g3.symm.trans h3)
     obtain rfl:=Option.some.inj (g4.symm.trans h4)
     obtain rfl:=Option.some.inj (g5.symm.trans h5)
     obtain rfl:=Option.some.inj (g6.symm.trans h6)
     exact Xry.1 hv
    ·exact HA.o t m' n' l' r' b' e' ω h1 h2 h3 h4 h5 h6)
   clear hv
   go_wp2
   go_roundw
   case rel=>exact ⟨k+1,ω,by go_num,H3,B3,aM⟩
   case measure=>simp [intOf];omega
