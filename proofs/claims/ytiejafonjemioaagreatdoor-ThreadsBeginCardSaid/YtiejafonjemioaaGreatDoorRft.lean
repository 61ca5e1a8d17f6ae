import Derived.Test.YtiejafonjemioaaGreatDoorRe
import Derived.Test.YtiejafonjemioaaGreatDoorDoe
import Derived.Test.YtiejafonjemioaaGreatDoorPly
set_option maxHeartbeats 2000000
set_option maxRecDepth 100000
set_option linter.unusedVariables false
set_option linter.unusedSimpArgs false
open Go.Value renaming slice→σ
open Go.Obj renaming cells→χ
namespace Go.Proofs.YtiejafonjemioaaGreatDoor
open Go.RowKit
def MfIs (c:Cod) (m:Mm) (w:World) (e:Ending) (w':World):Prop:=e=.returned (.bool (Q7 c m))/\Below w.heap.size w w'
theorem mfIs_of {c:Cod} {m:Mm} {w w':World} {b:Bool} (h:Q7 c m=b) (hb:Below w.heap.size w w'):MfIs c m w (.returned (.bool b)) w':=⟨by rw [h],hb⟩
theorem fitsB_bad {c:Cod} {m:Mm} {k:Nat} {x:Nod} (hx:m.nodes[k]?=some x) (h:Z2 c x=true):Q7 c m=false:=by
 have:m.nodes.any (Z2 c)=true:=List.any_eq_true.2 ⟨x,Lm hx,h⟩
 unfold Q7
 rw [this];simp
theorem rFits_any (c:Cod) (cv:Value) (m:Mm) (mv:Value) (B:Nat) (w:World) (hB:B<=w.heap.size) (hc:Yj B w cv c) (hm:MmV B w mv m) :
  Calls Tryz.prog 53 #[cv,mv] w (MfIs c m w):=by
 obtain ⟨cf,cg,rfl,aM,bA,bI⟩:=hc
 obtain ⟨fa,fc,rfl,bH⟩:=aM.frm
 obtain ⟨ga,gc,rfl,-⟩:=bA.frm
 obtain ⟨gv,nv,rfl,hg,hn⟩:=hm
 obtain ⟨va,vc,rfl,bJ⟩:=hg.frm
 obtain ⟨na,nc,rfl,bL⟩:=hn.frm
 obtain ⟨aA,aC⟩:∃ n,n=c.fields.length:=⟨_,rfl⟩
 obtain ⟨gn,aR⟩:∃ n,n=m.globals.length:=⟨_,rfl⟩
 obtain ⟨nn,aT⟩:∃ n,n=m.nodes.length:=⟨_,rfl⟩
 rw [<-aC] at aM bH ⊢
 rw [<-aR] at hg bJ ⊢
 rw [<-aT] at hn bL ⊢
 have bD:=Lh aM
 have HG:=Lh hg
 have HN:=Lh hn
 have aH:=Lh aC
 have aV:=Lh aR
 have aK:=Lh aT
 obtain ⟨W,hW⟩:∃ W,W=(w.alloc (χ #[σ fa aA fc,ι c.globals,σ ga c.funcs.length gc] 25)).alloc (χ #[σ va gn vc,σ na nn nc] 28):=⟨_,rfl⟩
 have aB:Hid (Below w.heap.size w W):=by rw [hW];exact Lh ((Xa _ _).then (Xa _ _))
 have B0:Hid (Xo W w.heap.size [σ fa aA fc,ι c.globals,σ ga c.funcs.length gc]):=by rw [hW];exact Lh (Xd.alloc _)
 have B1:Hid (Xo W (w.heap.size+1) [σ va gn vc,σ na nn nc]):=by rw [hW];exact Lh K1
 have i0:=B0.o 0 _ rfl
 have i1:=B0.o 1 _ rfl
 have m0:=B1.o 0 _ rfl
 have m1:=B1.o 1 _ rfl
 have zi:=Bl i0
 have zm:=Bl m0
 have bM:B<=W.heap.size:=Nt hB aB.o.size
 clear aM hg hn aC aR aT bA
 go_enter Tryz.func53,Tryz.ntmps53
 go_upto_region 1 with fail
 rw [<-hW]
 clear hW
 by_cases h1:(gn:Int)=c.globals
 rotate_left
 ·have d1:((gn:Int) != c.globals)=true:=by simpa using h1
  have HF:Hid (Q7 c m=false):=Lh (by unfold Q7;rw [<-aV.o,decide_eq_false h1];rfl)
  clear h1
  go_wp2
  go_ret
  exact mfIs_of HF.o aB.o
 have d1:((gn:Int) != c.globals)=false:=by simpa using h1
 have H1:=Lh h1
 clear h1
 go_wp2_with fail
 refine (Uk m.globals _ B W (HG.o.ints (aB.o.mono hB))).mono ?_
 rintro e w' ⟨rfl,rfl⟩
 cases hv:Jg m.globals with
 | false=>
  have HF:Hid (Q7 c m=false):=Lh (by
   unfold Q7 Jg at *
   rw [hv];simp)
  clear hv
  go_wp2
  go_ret
  exact mfIs_of HF.o aB.o
 | true=>
 have HV:=Lh hv
 clear hv
 by_cases h2:(nn:Int)<=4096
 rotate_left
 ·have d2:decide ((4096:Int)<(nn:Int))=true:=by simp;omega
  have HF:Hid (Q7 c m=false):=Lh (by
   unfold Q7
   rw [<-aK.o,decide_eq_false (show ¬nn<=4096 by omega)];simp)
  clear h2
  go_wp2
  go_ret
  exact mfIs_of HF.o aB.o
 have d2:decide ((4096:Int)<(nn:Int))=false:=by simp;omega
 have H2:Hid (nn<=4096):=Lh ω
 have aQ:Hid ((∀ x∈m.nodes,Z2 c x=false)->Q7 c m=true):=Lh (fun h=>by
  have h3:m.nodes.any (Z2 c)=false:=List.any_eq_false.2 (fun x hx=>by rw [h x hx];simp)
  have h4:=HV.o
  unfold Jg at h4
  unfold Q7
  rw [h3,h4,<- aV.o,<- aK.o,decide_eq_true H1.o,decide_eq_true H2.o];rfl)
 clear h2
 go_wp2_with fail
 clear i0 i1 m0 m1 zi zm
 go_loopw [5] (fun i wr=>∃ k:Nat,k<=nn/\i=ι k/\Hid ((∀ (j:Nat) x,j<k->m.nodes[j]?=some x->Z2 c x=false)/\Below W.heap.size W wr)) (fun i _=>nn - (intOf i).toNat)
 case atStart=>exact ⟨0,Nat.zero_le _,rfl,Lh ⟨fun j x hj=>by omega,Below.refl _ _⟩⟩
 case round=>
  obtain ⟨k,hk,rfl,aU⟩:=hrel
  have aG:=Lh aU.o.1
  have aE:=Lh aU.o.2
  clear aU
  have i0:=B0.o.keep aE.o 0 _ rfl
  have m1:=B1.o.keep aE.o 1 _ rfl
  have zi:=Bl i0
  have zm:=Bl m1
  by_cases bQ:k<nn
  rotate_left
  ·have HY:Hid (Q7 c m=true):=Lh (aQ.o (fun x hx=>by
    obtain ⟨j,hj,rfl⟩:=List.getElem_of_mem hx
    exact aG.o j _ (by have:=aK.o;omega) (Lg hj)))
   have aD:=Lh (aB.o.then aE.o)
   go_wp2
   go_ret
   exact mfIs_of HY.o aD.o
  obtain ⟨x,hx⟩:∃ x,m.nodes[k]?=some x:=⟨_,Lg (by have:=aK.o;omega)⟩
  have aI:Below B w wr:=(aB.o.then aE.o).mono hB
  obtain ⟨b,o,la,lc,rfl,bN,k1,k2,hl⟩:=HN.o.nodElem aI hx
  have zb:=Bl k1
  have bO:(0:Int)<=(k:Int):=In _
  have bP:(k:Int)<(nn:Int):=ω
  have HX:=Lh hx
  obtain ⟨ty,fl⟩:=x
  dsimp only at k1 k2 hl
  obtain ⟨fn,aN⟩:∃ n,n=fl.length:=⟨_,rfl⟩
  rw [<-aN] at k2 hl
  have bE:=Lh aN
  obtain ⟨W6,aL⟩:∃ V,V=wr.alloc (χ #[ι ty,σ la fn lc] 74):=⟨_,rfl⟩
  have aF:Below wr.heap.size wr W6:=by rw [aL];exact Xa _ _
  have C6:Hid (Xo W6 wr.heap.size [ι ty,σ la fn lc]):=by rw [aL];exact Lh Xd
  have aW:Hid (Xf B W6 1 Zd (σ la fn lc) fl):=Lh (hl.ints (aF.mono (Nt hB aI.size)))
  have bC:=Lh (aE.o.then aF)
  have aD:=Lh (aB.o.then (aE.o.then aF))
  have n0:=C6.o 0 _ rfl
  have n1:=C6.o 1 _ rfl
  have zn:=Bl n0
  have j0:=Xc aF i0
  have zj:=Bl j0
  have aO:Hid (Xf B W6 1 Zd (σ fa aA fc) c.fields):=Lh (bD.o.ints (aI.trans (aF.mono (Nt hB aI.size))))
  go_upto_region 7 with fail
  rw [<-aN,<- aL]
  clear aL hl hx aN aF aI i0 m1 zi zm k1 k2 zb
  by_cases t0:ty<0
  ·have e0:decide (ty<0)=true:=by simpa using t0
   have HF:Hid (Q7 c m=false):=Lh (fitsB_bad HX.o (by unfold Z2;rw [if_pos t0]))
   clear t0
   go_quiet (fail)
   go_wp2
   go_ret
   exact mfIs_of HF.o (Xh aD.o _)
  have e0:decide (ty<0)=false:=by simp;omega
  obtain ⟨ti,rfl⟩:∃ t:Nat,ty=t:=⟨ty.toNat,ω⟩
  have aX:=Lh t0
  clear t0
  by_cases t1:aA<=ti
  ·have e1:decide ((aA:Int)<=(ti:Int))=true:=by simp;omega
   have bG:decide (aA<=ti)=true:=by simp;omega
   have HF:Hid (Q7 c m=false):=Lh (fitsB_bad HX.o (by
    unfold Z2
    dsimp only
    rw [if_neg aX.o,Int.toNat_natCast,List.getElem?_eq_none (by rw [<-aH.o];exact t1)]))
   clear t1
   go_quiet (fail)
   go_wp2
   go_ret
   exact mfIs_of HF.o (Xh aD.o _)
  have e1:decide ((aA:Int)<=(ti:Int))=false:=by simp;omega
  have bG:decide (aA<=ti)=false:=by simp;omega
  obtain ⟨kf,aS⟩:∃ q,c.fields[ti]?=some q:=⟨_,Lg (by have:=aH.o;omega)⟩
  obtain ⟨fb,fo,rfl,-,bB⟩:=aO.o.elem aS
  have aZ:=bB.1
  rw [Nat.mul_one] at aZ
  have zf:=Bl aZ
  have bR:(0:Int)<=(ti:Int):=In _
  have bS:(ti:Int)<(aA:Int):=ω
  have aP:Hid (Z2 c ⟨(ti:Int),fl⟩=if (fn:Int)≠kf then true else fl.any (fun n=>!X1 n)):=Lh (by
   unfold Z2
   dsimp only
   rw [if_neg aX.o,Int.toNat_natCast,aS,<- bE.o])
  clear t1 aS bB
  by_cases t2:(fn:Int)=kf
  rotate_left
  ·have e2:((fn:Int) != kf)=true:=by simpa using t2
   have HF:Hid (Q7 c m=false):=Lh (fitsB_bad HX.o (by rw [aP.o,if_pos t2]))
   clear t2
   go_quiet (fail)
   go_wp2
   go_ret
   exact mfIs_of HF.o (Xh aD.o _)
  have e2:((fn:Int) != kf)=false:=by simpa using t2
  have aY:=Lh t2
  clear t2
  cases hq:Jg fl with
  | false=>
   have HF:Hid (Q7 c m=false):=Lh (fitsB_bad HX.o (by
    unfold Jg at hq
    rw [aP.o,if_neg (by simpa using aY.o)]
    cases h:fl.any (fun n=>!X1 n) with
    | true=>rfl
    | false=>rw [h] at hq;simp at hq))
   have HQ:=Lh hq
   clear hq
   go_quiet ((go_at_call 94;exact Calls.quiet_of_same ((Uk fl _ B _ (aW.o.ints (Xh Br _))).mono (fun e w' h=>⟨by rw [h.1,HQ.o],h.2.symm⟩))))
   go_wp2
   go_ret
   exact mfIs_of HF.o (Xh aD.o _)
  | true=>
   have bF:Hid (∀ (j:Nat) y,j<k+1->m.nodes[j]?=some y->Z2 c y=false):=Lh (fun j y hj hy=>by
    by_cases bK:j=k
    ·subst bK
     have:=HX.o.symm.trans hy
     cases this
     unfold Jg at hq
     rw [aP.o,if_neg (by simpa using aY.o)]
     cases h:fl.any (fun n=>!X1 n) with
     | true=>rw [h] at hq;simp at hq
     | false=>rfl
    ·exact aG.o j y ω hy)
   have HQ:=Lh hq
   clear hq
   go_quiet ((go_at_call 94;exact Calls.quiet_of_same ((Uk fl _ B _ (aW.o.ints (Xh Br _))).mono (fun e w' h=>⟨by rw [h.1,HQ.o],h.2.symm⟩))))
   have aJ:Hid (∀ n,(∀ (j:Nat) y,j<k+1->m.nodes[j]?=some y->Z2 c y=false)/\Below W.heap.size W (W6.drewN n)):=Lh (fun n=>⟨bF.o,Xh bC.o n⟩)
   go_wp2
   go_roundw
   case rel=>exact ⟨k+1,ω,by go_num,Lh (aJ.o _)⟩
   case measure=>simp [intOf];omega
