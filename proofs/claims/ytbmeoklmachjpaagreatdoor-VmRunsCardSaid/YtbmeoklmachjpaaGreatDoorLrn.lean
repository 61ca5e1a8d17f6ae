/- The contract of the reference's Fits: a memory fits a code. The walk of VmRuns. MADE BY wip/gen_lrn.py -/
import Derived.Test.YtbmeoklmachjpaaGreatDoorRe
import Derived.Test.YtbmeoklmachjpaaGreatDoorSam2
import Derived.BigQuiet
import Derived.Deep.QuietTactic
import Derived.Test.YtbmeoklmachjpaaGreatDoorAwk
import Derived.Test.YtbmeoklmachjpaaGreatDoorRpl
import Derived.Test.YtbmeoklmachjpaaGreatDoorSam
import Derived.Test.YtbmeoklmachjpaaGreatDoorRg
set_option maxHeartbeats 4000000
set_option maxRecDepth 1000000
set_option linter.unusedVariables false
set_option linter.unusedSimpArgs false
namespace Go.Proofs.YtbmeoklmachjpaaGreatDoor
open Go.RowKit
def Xn9 (c:Cod) (m:Mm) (w:World) (e:Ending) (w':World):Prop:=e=.returned (.bool (Q7 c m))∧Below w.heap.size w w'
theorem Xhf {c:Cod} {m:Mm} {w w':World} {b:Bool} (h:Q7 c m=b) (hb:Below w.heap.size w w'):Xn9 c m w (.returned (.bool b)) w':=⟨by rw [h],hb⟩
theorem fitsB_bad {c:Cod} {m:Mm} {k:Nat} {x:Nod} (hx:m.nodes[k]?=some x) (h:Z2 c x=true):Q7 c m=false:=by
 have:m.nodes.any (Z2 c)=true:=List.any_eq_true.2 ⟨x,List.mem_of_getElem? hx,h⟩
 unfold Q7
 rw [this];simp
theorem rFits_any (c:Cod) (cv:Value) (m:Mm) (mv:Value) (B:Nat) (w:World) (hB:B≤w.heap.size) (hc:Yj B w cv c) (hm:MmV B w mv m) :
  Calls Tryz.prog 25 #[cv,mv] w (Xn9 c m w):=by
 obtain ⟨cf,cg,rfl,hcf,hcg,hg64⟩:=hc
 obtain ⟨fa,fc,rfl,hfl⟩:=hcf.frm
 obtain ⟨ga,gc,rfl,-⟩:=hcg.frm
 obtain ⟨gv,nv,rfl,hg,hn⟩:=hm
 obtain ⟨va,vc,rfl,hgl⟩:=hg.frm
 obtain ⟨na,nc,rfl,hnl⟩:=hn.frm
 obtain ⟨cfn,hcfn⟩:∃ n,n=c.fields.length:=⟨_,rfl⟩
 obtain ⟨gn,hgn⟩:∃ n,n=m.globals.length:=⟨_,rfl⟩
 obtain ⟨nn,hnn⟩:∃ n,n=m.nodes.length:=⟨_,rfl⟩
 rw [←hcfn] at hcf hfl ⊢
 rw [←hgn] at hg hgl ⊢
 rw [←hnn] at hn hnl ⊢
 have HCF:=Lh hcf
 have HG:=Lh hg
 have HN:=Lh hn
 have HCFN:=Lh hcfn
 have HGN:=Lh hgn
 have HNN:=Lh hnn
 obtain ⟨W,hW⟩:∃ W,W=(w.alloc (.cells #[.slice fa cfn fc,.int .i64 c.globals,.slice ga c.funcs.length gc] 25)).alloc (.cells #[.slice va gn vc,.slice na nn nc] 52):=⟨_,rfl⟩
 have hWb:Hid (Below w.heap.size w W):=by rw [hW];exact Lh ((Xa _ _).then (Xa _ _))
 have B0:Hid (Xo W w.heap.size [.slice fa cfn fc,.int .i64 c.globals,.slice ga c.funcs.length gc]):=by rw [hW];exact Lh (Xd.alloc _)
 have B1:Hid (Xo W (w.heap.size+1) [.slice va gn vc,.slice na nn nc]):=by rw [hW];exact Lh K1
 have i0:=B0.out 0 _ rfl
 have i1:=B0.out 1 _ rfl
 have m0:=B1.out 0 _ rfl
 have m1:=B1.out 1 _ rfl
 have zi:=Bl i0
 have zm:=Bl m0
 have hWB:B≤W.heap.size:=Nat.le_trans hB hWb.out.size
 clear hcf hg hn hcfn hgn hnn hcg
 go_enter Tryz.func25,Tryz.ntmps25
 go_upto_region 1 with fail
 rw [←hW]
 clear hW
 by_cases h1:(gn:Int)=c.globals
 rotate_left
 ·have d1:((gn:Int) != c.globals)=true:=by simpa using h1
  have HF:Hid (Q7 c m=false):=Lh (by unfold Q7;rw [←HGN.out,decide_eq_false h1];rfl)
  clear h1
  go_wp2_with fail
  go_ret
  exact Xhf HF.out hWb.out
 have d1:((gn:Int) != c.globals)=false:=by simpa using h1
 have H1:=Lh h1
 clear h1
 go_wp2_with fail
 refine (Uk m.globals _ B W (HG.out.ints (hWb.out.mono hB))).mono ?_
 rintro e w' ⟨rfl,rfl⟩
 cases hv:Jg m.globals with
 | false=>
  have HF:Hid (Q7 c m=false):=Lh (by
   unfold Q7 Jg at *
   rw [hv];simp)
  clear hv
  go_wp2_with fail
  go_ret
  exact Xhf HF.out hWb.out
 | true=>
 have HV:=Lh hv
 clear hv
 by_cases h2:(nn:Int)≤4096
 rotate_left
 ·have d2:decide ((4096:Int)<(nn:Int))=true:=by simp;omega
  have HF:Hid (Q7 c m=false):=Lh (by
   unfold Q7
   rw [←HNN.out,decide_eq_false (show ¬nn≤4096 by omega)];simp)
  clear h2
  go_wp2_with fail
  go_ret
  exact Xhf HF.out hWb.out
 have d2:decide ((4096:Int)<(nn:Int))=false:=by simp;omega
 have H2:Hid (nn≤4096):=Lh (by omega)
 have HYES:Hid ((∀ x∈m.nodes,Z2 c x=false)→Q7 c m=true):=Lh (fun h=>by
  have h3:m.nodes.any (Z2 c)=false:=List.any_eq_false.2 (fun x hx=>by rw [h x hx];simp)
  have h4:=HV.out
  unfold Jg at h4
  unfold Q7
  rw [h3,h4,← HGN.out,← HNN.out,decide_eq_true H1.out,decide_eq_true H2.out];rfl)
 clear h2
 go_wp2_with fail
 clear i0 i1 m0 m1 zi zm
 go_loopw [5] (fun i wr=>∃ k:Nat,k≤nn∧i=.int .i64 k∧Hid ((∀ (j:Nat) x,j<k→m.nodes[j]?=some x→Z2 c x=false)∧Below W.heap.size W wr)) (fun i _=>nn - (intOf i).toNat)
 case atStart=>exact ⟨0,Nat.zero_le _,rfl,Lh ⟨fun j x hj=>by omega,Below.refl _ _⟩⟩
 case round=>
  obtain ⟨k,hk,rfl,hrel⟩:=hrel
  have HALL:=Lh hrel.out.1
  have HBR:=Lh hrel.out.2
  clear hrel
  have i0:=B0.out.keep HBR.out 0 _ rfl
  have m1:=B1.out.keep HBR.out 1 _ rfl
  have zi:=Bl i0
  have zm:=Bl m1
  by_cases hlt:k<nn
  rotate_left
  ·have HY:Hid (Q7 c m=true):=Lh (HYES.out (fun x hx=>by
    obtain ⟨j,hj,rfl⟩:=List.getElem_of_mem hx
    exact HALL.out j _ (by have:=HNN.out;omega) (List.getElem?_eq_getElem hj)))
   have HB9:=Lh (hWb.out.then HBR.out)
   go_wp2_with fail
   go_ret
   exact Xhf HY.out HB9.out
  obtain ⟨x,hx⟩:∃ x,m.nodes[k]?=some x:=⟨_,List.getElem?_eq_getElem (by have:=HNN.out;omega)⟩
  have hBw:Below B w wr:=(hWb.out.then HBR.out).mono hB
  obtain ⟨b,o,la,lc,rfl,hbB,k1,k2,hl⟩:=HN.out.nodElem hBw hx
  have zb:=Bl k1
  have hi0:(0:Int)≤(k:Int):=Int.natCast_nonneg _
  have hi1:(k:Int)<(nn:Int):=by omega
  have HX:=Lh hx
  obtain ⟨ty,fl⟩:=x
  dsimp only at k1 k2 hl
  obtain ⟨fn,hfn⟩:∃ n,n=fl.length:=⟨_,rfl⟩
  rw [←hfn] at k2 hl
  have HFN:=Lh hfn
  obtain ⟨W6,hW6⟩:∃ V,V=wr.alloc (.cells #[.int .i64 ty,.slice la fn lc] 107):=⟨_,rfl⟩
  have hb6:Below wr.heap.size wr W6:=by rw [hW6];exact Xa _ _
  have C6:Hid (Xo W6 wr.heap.size [.int .i64 ty,.slice la fn lc]):=by rw [hW6];exact Lh Xd
  have HL6:Hid (Xf B W6 1 Zd (.slice la fn lc) fl):=Lh (hl.ints (hb6.mono (Nat.le_trans hB hBw.size)))
  have HB6:=Lh (HBR.out.then hb6)
  have HB9:=Lh (hWb.out.then (HBR.out.then hb6))
  have n0:=C6.out 0 _ rfl
  have n1:=C6.out 1 _ rfl
  have zn:=Bl n0
  have j0:=Xc hb6 i0
  have zj:=Bl j0
  have HCF6:Hid (Xf B W6 1 Zd (.slice fa cfn fc) c.fields):=Lh (HCF.out.ints (hBw.trans (hb6.mono (Nat.le_trans hB hBw.size))))
  go_upto_region 7 with fail
  rw [←hfn,← hW6]
  clear hW6 hl hx hfn hb6 hBw i0 m1 zi zm k1 k2 zb
  by_cases t0:ty<0
  ·have e0:decide (ty<0)=true:=by simpa using t0
   have HF:Hid (Q7 c m=false):=Lh (fitsB_bad HX.out (by unfold Z2;rw [if_pos t0]))
   clear t0
   go_quiet (fail)
   go_wp2_with fail
   go_ret
   exact Xhf HF.out (Xh HB9.out _)
  have e0:decide (ty<0)=false:=by simp;omega
  obtain ⟨ti,rfl⟩:∃ t:Nat,ty=t:=⟨ty.toNat,by omega⟩
  have HT0:=Lh t0
  clear t0
  by_cases t1:cfn≤ti
  ·have e1:decide ((cfn:Int)≤(ti:Int))=true:=by simp;omega
   have e1n:decide (cfn≤ti)=true:=by simp;omega
   have HF:Hid (Q7 c m=false):=Lh (fitsB_bad HX.out (by
    unfold Z2
    dsimp only
    rw [if_neg HT0.out,Int.toNat_natCast,List.getElem?_eq_none (by rw [←HCFN.out];exact t1)]))
   clear t1
   go_quiet (fail)
   go_wp2_with fail
   go_ret
   exact Xhf HF.out (Xh HB9.out _)
  have e1:decide ((cfn:Int)≤(ti:Int))=false:=by simp;omega
  have e1n:decide (cfn≤ti)=false:=by simp;omega
  obtain ⟨kf,hkf⟩:∃ q,c.fields[ti]?=some q:=⟨_,List.getElem?_eq_getElem (by have:=HCFN.out;omega)⟩
  obtain ⟨fb,fo,rfl,-,hfe⟩:=HCF6.out.elem hkf
  have cf0:=hfe.1
  rw [Nat.mul_one] at cf0
  have zf:=Bl cf0
  have ht0:(0:Int)≤(ti:Int):=Int.natCast_nonneg _
  have ht1:(ti:Int)<(cfn:Int):=by omega
  have HKF:Hid (Z2 c ⟨(ti:Int),fl⟩=if (fn:Int)≠kf then true else fl.any (fun n=>!X1 n)):=Lh (by
   unfold Z2
   dsimp only
   rw [if_neg HT0.out,Int.toNat_natCast,hkf,← HFN.out])
  clear t1 hkf hfe
  by_cases t2:(fn:Int)=kf
  rotate_left
  ·have e2:((fn:Int) != kf)=true:=by simpa using t2
   have HF:Hid (Q7 c m=false):=Lh (fitsB_bad HX.out (by rw [HKF.out,if_pos t2]))
   clear t2
   go_quiet (fail)
   go_wp2_with fail
   go_ret
   exact Xhf HF.out (Xh HB9.out _)
  have e2:((fn:Int) != kf)=false:=by simpa using t2
  have HT2:=Lh t2
  clear t2
  cases hq:Jg fl with
  | false=>
   have HF:Hid (Q7 c m=false):=Lh (fitsB_bad HX.out (by
    unfold Jg at hq
    rw [HKF.out,if_neg (by simpa using HT2.out)]
    cases h:fl.any (fun n=>!X1 n) with
    | true=>rfl
    | false=>rw [h] at hq;simp at hq))
   have HQ:=Lh hq
   clear hq
   go_quiet ((go_at_call 36;exact Calls.quiet_of_same ((Uk fl _ B _ (HL6.out.ints (Xh (Below.refl _ _) _))).mono (fun e w' h=>⟨by rw [h.1,HQ.out],h.2.symm⟩))))
   go_wp2_with fail
   go_ret
   exact Xhf HF.out (Xh HB9.out _)
  | true=>
   have HNB:Hid (∀ (j:Nat) y,j<k+1→m.nodes[j]?=some y→Z2 c y=false):=Lh (fun j y hj hy=>by
    by_cases hjk:j=k
    ·subst hjk
     have:=HX.out.symm.trans hy
     cases this
     unfold Jg at hq
     rw [HKF.out,if_neg (by simpa using HT2.out)]
     cases h:fl.any (fun n=>!X1 n) with
     | true=>rw [h] at hq;simp at hq
     | false=>rfl
    ·exact HALL.out j y (by omega) hy)
   have HQ:=Lh hq
   clear hq
   go_quiet ((go_at_call 36;exact Calls.quiet_of_same ((Uk fl _ B _ (HL6.out.ints (Xh (Below.refl _ _) _))).mono (fun e w' h=>⟨by rw [h.1,HQ.out],h.2.symm⟩))))
   have hrel2:Hid (∀ n,(∀ (j:Nat) y,j<k+1→m.nodes[j]?=some y→Z2 c y=false)∧Below W.heap.size W (W6.drewN n)):=Lh (fun n=>⟨HNB.out,Xh HB6.out n⟩)
   go_wp2_with fail
   go_roundw
   case rel=>exact ⟨k+1,by omega,by go_num,Lh (hrel2.out _)⟩
   case measure=>simp [intOf];omega
/-- the boxes of a law's code, memory and call, and what they read as -/
def FuIn (bk:Nat) (c0 c2 m0 m1 x1:Value) (g:Int) (xp:ByteArray) (c:Cod) (m:Mm) (x:Cal) (V:World):Prop:=
 Xo V bk [c0,.int .i64 g,c2]∧Xo V (bk+1) [m0,m1]∧Xo V (bk+2) [.string xp,x1]∧Yj bk V (.agg #[c0,.int .i64 g,c2]) c∧MmV bk V (.agg #[m0,m1]) m∧J8 bk V (.agg #[.string xp,x1]) x∧Qa V∧bk+2<V.heap.size
theorem FuIn.keep {bk:Nat} {c0 c2 m0 m1 x1:Value} {g:Int} {xp:ByteArray} {c:Cod} {m:Mm} {x:Cal} {V V':World} (h:FuIn bk c0 c2 m0 m1 x1 g xp c m x V) (hb:Below V.heap.size V V'):FuIn bk c0 c2 m0 m1 x1 g xp c m x V':=by
 obtain ⟨h1,h2,h3,h4,h5,h6,h7,h8⟩:=h
 have hm:Below bk V V':=hb.mono (by omega)
 exact ⟨h1.keep hb,h2.keep hb,h3.keep hb,h4.below hm,h5.below hm,h6.below hm,h7.below hb,by have:=hb.size;omega⟩
theorem cells_next {w:World} {A:Array Value} {T:TypeId} {o:Obj}:Xo ((w.alloc o).alloc (.cells A T)) (w.heap.size+1) A.toList:=by
 have:=@Xd (w.alloc o) A T
 simpa using this
theorem cells_next2 {w:World} {A:Array Value} {T:TypeId} {o o2:Obj}:Xo (((w.alloc o).alloc o2).alloc (.cells A T)) (w.heap.size+2) A.toList:=by
 have:=@Xd ((w.alloc o).alloc o2) A T
 simpa using this
theorem fuIn_start {w:World} {c0 c2 m0 m1 x1:Value} {g:Int} {xp:ByteArray} {c:Cod} {m:Mm} {x:Cal} {T1 T2 T3:TypeId} (hL:Qa w) (hc:Yj w.heap.size w (.agg #[c0,.int .i64 g,c2]) c) (hm:MmV w.heap.size w (.agg #[m0,m1]) m) (hx:J8 w.heap.size w (.agg #[.string xp,x1]) x) :
  FuIn w.heap.size c0 c2 m0 m1 x1 g xp c m x (((w.alloc (.cells #[c0,.int .i64 g,c2] T1)).alloc (.cells #[m0,m1] T2)).alloc (.cells #[.string xp,x1] T3)):=by
 have hb:Below w.heap.size w (((w.alloc (.cells #[c0,.int .i64 g,c2] T1)).alloc (.cells #[m0,m1] T2)).alloc (.cells #[.string xp,x1] T3)):=((Xa _ _).then (Xa _ _)).then (Xa _ _)
 exact ⟨(Xd.alloc _).alloc _,cells_next.alloc _,cells_next2,hc.below hb,hm.below hb,hx.below hb,hL.below hb,by simp⟩
theorem Xbg.bad {A:Nat} {c:Cod} {m:Mm} {x:Cal} {fuel er:Int} {o:Ks} {gv nv lv:Value} {w:World} (h:Xbg A c m x fuel er o gv nv lv w) (he:er≠0):o=Xc8∧gv=.slice none 0 0∧nv=.slice none 0 0∧lv=.slice none 0 0:=by
 rcases h with ⟨_,h⟩|⟨h,_⟩
 ·exact h
 ·exact absurd h he
theorem nil_mm (B:Nat) (w:World):MmV B w (.agg #[.slice none 0 0,.slice none 0 0]) ⟨[],[]⟩:=⟨_,_,rfl,⟨none,0,rfl,by simp,by simp,by omega,.inl rfl⟩,⟨none,0,rfl,by simp,by simp,by omega,.inl rfl⟩⟩
theorem vmRuns_walk (hp:U6) (hq:RRunAny) (c:Cod) (m:Mm) (x:Cal) (fuel:Int) (cv mv xv:Value) (w:World) (hL:Qa w) (hc:Yj w.heap.size w cv c) (hm:MmV w.heap.size w mv m) (hx:J8 w.heap.size w xv x) :
  Calls Tryz.prog 5 #[cv,mv,xv,.int .i64 fuel] w (fun e w'=>e=.returned (.bool true)∧Below w.heap.size w w'):=by
 obtain ⟨cf,cg,hcv,hcf,hcg,hg64⟩:=hc
 have hc:Yj w.heap.size w (.agg #[cf,.int .i64 c.globals,cg]) c:=⟨cf,cg,rfl,hcf,hcg,hg64⟩
 obtain ⟨fa,fc,rfl⟩:=hcf.form
 obtain ⟨ga,gc,rfl⟩:=hcg.form
 obtain ⟨mg,mn,hmv,hmg,hmn⟩:=hm
 have hm:MmV w.heap.size w (.agg #[mg,mn]) m:=⟨mg,mn,rfl,hmg,hmn⟩
 obtain ⟨va,vc,rfl⟩:=hmg.form
 obtain ⟨na,nc,rfl⟩:=hmn.form
 obtain ⟨xg,hxv,hxg,hx47⟩:=hx
 have hx:J8 w.heap.size w (.agg #[.string x.proc,xg]) x:=⟨xg,rfl,hxg,hx47⟩
 obtain ⟨xa,xc,rfl⟩:=hxg.form
 have hI:=@fuIn_start w _ _ _ _ _ _ _ c m x 25 52 27 hL hc hm hx
 subst hcv hmv hxv
 obtain ⟨cfn,hcfn⟩:∃ n,n=c.fields.length:=⟨_,rfl⟩
 obtain ⟨cgn,hcgn⟩:∃ n,n=c.funcs.length:=⟨_,rfl⟩
 obtain ⟨mgn,hmgn⟩:∃ n,n=m.globals.length:=⟨_,rfl⟩
 obtain ⟨mnn,hmnn⟩:∃ n,n=m.nodes.length:=⟨_,rfl⟩
 obtain ⟨xan,hxan⟩:∃ n,n=x.args.length:=⟨_,rfl⟩
 obtain ⟨cgl,hcgl⟩:∃ n,n=c.globals:=⟨_,rfl⟩
 obtain ⟨xpr,hxpr⟩:∃ n,n=x.proc:=⟨_,rfl⟩
 rw [←hcfn,← hcgn,← hmgn,← hmnn,← hxan,← hcgl,← hxpr] at hI ⊢
 have HP:=Lh hp
 have HQ:=Lh hq
 clear hcf hcg hmg hmn hxg hcfn hcgn hmgn hmnn hxan hcgl hxpr hL hc hm hx hp hq hg64 hx47
 obtain ⟨W,hW⟩:∃ W,W=((w.alloc (.cells #[.slice fa cfn fc,.int .i64 cgl,.slice ga cgn gc] 25)).alloc (.cells #[.slice va mgn vc,.slice na mnn nc] 52)).alloc (.cells #[.string xpr,.slice xa xan xc] 27):=⟨_,rfl⟩
 have HW:Hid (Below w.heap.size w W):=by rw [hW];exact Lh (((Xa _ _).then (Xa _ _)).then (Xa _ _))
 rw [←hW] at hI
 have HI:=Lh hI
 clear hI
 go_enter Tryz.func5,Tryz.ntmps5
 go_wp2_with fail
 rw [←hW]
 clear hW
 refine (Jl HP.out W HI.out.2.2.2.2.2.2.1).mono ?_
 rintro e w1 ⟨rfl,hb1⟩
 have HI:=Lh (HI.out.keep hb1)
 have HB1:=Lh (HW.out.then hb1)
 clear hb1 HW
 have q0:=HI.out.1 0 _ rfl
 have q1:=HI.out.1 1 _ rfl
 have q2:=HI.out.1 2 _ rfl
 go_wp2_with fail
 clear q0 q1 q2
 refine (Xkx c _ w.heap.size w1 (by have:=HI.out.2.2.2.2.2.2.2;omega) HI.out.2.2.2.1).mono ?_
 rintro e w2 ⟨r1,rfl,hsm,hb2⟩
 have HI:=Lh (HI.out.keep hb2)
 have HB2:=Lh (HB1.out.then hb2)
 have HSM:=Lh hsm
 clear hb2 HB1 hsm
 cases r1 with
 | false=>
  go_wp2_with fail
  refine (Jl HP.out _ HI.out.2.2.2.2.2.2.1).mono ?_
  rintro e w3 ⟨rfl,hb3⟩
  have HB3:=Lh (HB2.out.then hb3)
  clear hb3
  go_wp2_with fail
  go_ret
  exact ⟨rfl,HB3.out⟩
 | true=>
 have HS:Hid (Zb c):=Lh (fun y hy=>by have:=HSM.out rfl y hy;omega)
 clear HSM
 have q0:=HI.out.2.2.1 0 _ rfl
 have q1:=HI.out.2.2.1 1 _ rfl
 go_wp2_with fail
 clear q0 q1
 refine (Xk8 x _ w.heap.size w2 HI.out.2.2.2.2.2.1).mono ?_
 rintro e w3 ⟨r2,rfl,hb3⟩
 have HI:=Lh (HI.out.keep hb3)
 have HB3:=Lh (HB2.out.then hb3)
 clear hb3 HB2
 cases r2 with
 | false=>
  go_wp2_with fail
  refine (Jl HP.out _ HI.out.2.2.2.2.2.2.1).mono ?_
  rintro e w4 ⟨rfl,hb4⟩
  have HB4:=Lh (HB3.out.then hb4)
  clear hb4
  go_wp2_with fail
  go_ret
  exact ⟨rfl,HB4.out⟩
 | true=>
 have q0:=HI.out.2.1 0 _ rfl
 have q1:=HI.out.2.1 1 _ rfl
 go_wp2_with fail
 clear q0 q1
 refine (Xqm m _ w.heap.size w3 (by have:=HI.out.2.2.2.2.2.2.2;omega) HI.out.2.2.2.2.1).mono ?_
 rintro e w4 ⟨r3,rfl,hb4⟩
 have HI:=Lh (HI.out.keep hb4)
 have HB4:=Lh (HB3.out.then hb4)
 clear hb4 HB3
 cases r3 with
 | false=>
  go_wp2_with fail
  refine (Jl HP.out _ HI.out.2.2.2.2.2.2.1).mono ?_
  rintro e w5 ⟨rfl,hb5⟩
  have HB5:=Lh (HB4.out.then hb5)
  clear hb5
  go_wp2_with fail
  go_ret
  exact ⟨rfl,HB5.out⟩
 | true=>
 by_cases h6:60<fuel∧fuel≤1048576
 ·have e1:decide (60<fuel)=true:=by simp;omega
  have e2:decide (fuel≤1048576)=true:=by simp;omega
  clear h6
  go_wp2_with fail
  refine (Jl HP.out _ HI.out.2.2.2.2.2.2.1).mono ?_
  rintro e w5 ⟨rfl,hb5⟩
  have HB5:=Lh (HB4.out.then hb5)
  clear hb5
  go_wp2_with fail
  go_ret
  exact ⟨rfl,HB5.out⟩
 have q0:=HI.out.1 0 _ rfl
 have q1:=HI.out.1 1 _ rfl
 have q2:=HI.out.1 2 _ rfl
 have q3:=HI.out.2.1 0 _ rfl
 have q4:=HI.out.2.1 1 _ rfl
 have q5:=HI.out.2.2.1 0 _ rfl
 have q6:=HI.out.2.2.1 1 _ rfl
 have hWs:w.heap.size≤w4.heap.size:=by have:=HI.out.2.2.2.2.2.2.2;omega
 rcases (show decide (60<fuel)=false∨(decide (60<fuel)=true∧decide (fuel≤1048576)=false) by
  by_cases h:60<fuel
  ·right;simp;omega
  ·left;simp;omega) with e1|⟨e1,e2⟩
 all_goals
  clear h6
  go_wp2_with fail
  clear q0 q1 q2 q3 q4 q5 q6 e1
  refine (Xp9 HP.out c m x fuel _ _ _ w.heap.size w4 HI.out.2.2.2.2.2.2.1 hWs HI.out.2.2.2.1 HI.out.2.2.2.2.1 HI.out.2.2.2.2.2.1 HS.out).mono ?_
  rintro e w5 ⟨er1,o1,ga1,na1,la1,gn1,gc1,nn1,nc1,ln1,lc1,rfl,hE1,hR1,hb5⟩
  obtain ⟨f1,v1,k1,d1⟩:=o1
  obtain ⟨A5,hA5⟩:∃ V,V=(w5.alloc (.cells #[.int .i64 f1,.int .i64 v1,.int .i64 k1,.int .i64 d1,.int .i64 0] 57)).alloc (.cells #[.slice ga1 gn1 gc1,.slice na1 nn1 nc1] 52):=⟨_,rfl⟩
  have hAb5:Below w5.heap.size w5 A5:=by rw [hA5];exact (Xa _ _).then (Xa _ _)
  have HO1:Hid (Xo A5 w5.heap.size [.int .i64 f1,.int .i64 v1,.int .i64 k1,.int .i64 d1,.int .i64 0]):=by rw [hA5];exact Lh (Xd.alloc _)
  have HM1:Hid (Xo A5 (w5.heap.size+1) [.slice ga1 gn1 gc1,.slice na1 nn1 nc1]):=by rw [hA5];exact Lh cells_next
  have HE1:=Lh hE1
  have HR1:=Lh (hR1.keepB hAb5)
  have HI:=Lh (HI.out.keep (hb5.then hAb5))
  have HB5:=Lh ((HB4.out.then hb5).then hAb5)
  obtain ⟨b5,hb5k⟩:∃ n,n=w5.heap.size:=⟨_,rfl⟩
  rw [←hb5k] at HO1 HM1
  clear hE1 hR1 hb5 hAb5 hWs
  unfold Xap X8
  go_upto_region 4 with fail
  rw [←hA5,← hb5k]
  clear hA5 hb5k
  have q0:=HI.out.1 0 _ rfl
  have q1:=HI.out.1 1 _ rfl
  have q2:=HI.out.1 2 _ rfl
  have q3:=HI.out.2.1 0 _ rfl
  have q4:=HI.out.2.1 1 _ rfl
  have q5:=HI.out.2.2.1 0 _ rfl
  have q6:=HI.out.2.2.1 1 _ rfl
  go_wp2_with fail
  clear q0 q1 q2 q3 q4 q5 q6
  have hWs:w.heap.size≤A5.heap.size:=by have:=HI.out.2.2.2.2.2.2.2;omega
  refine (Xrt HP.out c m x fuel _ _ _ w.heap.size A5 HI.out.2.2.2.2.2.2.1 hWs HI.out.2.2.2.1 HI.out.2.2.2.2.1 HI.out.2.2.2.2.2.1 HS.out).mono ?_
  rintro e w6 ⟨er2,o2,ga2,na2,la2,gn2,gc2,nn2,nc2,ln2,lc2,rfl,hE2,hR2,hb6⟩
  obtain rfl:er2=er1:=hE2.det HE1.out
  have HR2:=Lh hR2
  have HR1:=Lh (HR1.out.keepB hb6)
  have HO1:=Lh (HO1.out.keep hb6)
  have HM1:=Lh (HM1.out.keep hb6)
  have HI:=Lh (HI.out.keep hb6)
  have HB6:=Lh (HB5.out.then hb6)
  clear hE2 hR2 hb6 hWs
  have hWs:w.heap.size≤w6.heap.size:=by have:=HI.out.2.2.2.2.2.2.2;omega
  have q0:=HI.out.1 0 _ rfl
  have q1:=HI.out.1 1 _ rfl
  have q2:=HI.out.1 2 _ rfl
  have q3:=HI.out.2.1 0 _ rfl
  have q4:=HI.out.2.1 1 _ rfl
  have q5:=HI.out.2.2.1 0 _ rfl
  have q6:=HI.out.2.2.1 1 _ rfl
  go_wp2_with fail
  clear q0 q1 q2 q3 q4 q5 q6
  refine (U0 c _ w.heap.size w6 hWs HI.out.2.2.2.1).mono ?_
  rintro e w7 ⟨rfl,hb7⟩
  have HR1:=Lh (HR1.out.keepB hb7)
  have HR2:=Lh (HR2.out.keepB hb7)
  have HO1:=Lh (HO1.out.keep hb7)
  have HM1:=Lh (HM1.out.keep hb7)
  have HI:=Lh (HI.out.keep hb7)
  have HB7:=Lh (HB6.out.then hb7)
  clear hb7
  by_cases hs:Xv c
  rotate_left
  ·rw [Jp hs]
   obtain rfl:er2=1:=by
    rcases HE1.out with ⟨_,h⟩|⟨h,_⟩
    ·exact h
    ·exact absurd h hs
   clear hs
   obtain ⟨ho,hg,hn,hlv⟩:=HR1.out.bad (by decide)
   obtain ⟨_,_,_,hl⟩:=HR2.out.bad (by decide)
   cases ho
   cases hg
   cases hn
   cases hl
   have r0:=HO1.out 0 _ rfl
   have r1:=HO1.out 1 _ rfl
   have r2:=HO1.out 2 _ rfl
   have r3:=HO1.out 3 _ rfl
   have r4:=HO1.out 4 _ rfl
   have s0:=HM1.out 0 _ rfl
   have s1:=HM1.out 1 _ rfl
   clear hlv
   go_wp2_with fail
   refine (Equal_eq ⟨[],[]⟩ _ _ w7.heap.size w7.heap.size w7 (Nat.le_refl _) (Nat.le_refl _) (nil_mm _ _) (nil_mm _ _)).mono ?_
   rintro e wz ⟨rfl,hbz⟩
   have HBZ:=Lh (HB7.out.then hbz)
   clear hbz r0 r1 r2 r3 r4 s0 s1
   go_wp2_with fail
   go_ret
   exact ⟨rfl,HBZ.out⟩
  rw [Zg hs]
  have HSO:=Lh hs
  clear hs
  have hWs7:w.heap.size≤w7.heap.size:=by have:=HI.out.2.2.2.2.2.2.2;omega
  have q0:=HI.out.1 0 _ rfl
  have q1:=HI.out.1 1 _ rfl
  have q2:=HI.out.1 2 _ rfl
  have q3:=HI.out.2.1 0 _ rfl
  have q4:=HI.out.2.1 1 _ rfl
  have q5:=HI.out.2.2.1 0 _ rfl
  have q6:=HI.out.2.2.1 1 _ rfl
  go_wp2_with fail
  clear q0 q1 q2 q3 q4 q5 q6
  refine (rFits_any c _ m _ w.heap.size w7 hWs7 HI.out.2.2.2.1 HI.out.2.2.2.2.1).mono ?_
  rintro e w8 ⟨rfl,hb8⟩
  have HR1:=Lh (HR1.out.keepB hb8)
  have HR2:=Lh (HR2.out.keepB hb8)
  have HO1:=Lh (HO1.out.keep hb8)
  have HM1:=Lh (HM1.out.keep hb8)
  have HI:=Lh (HI.out.keep hb8)
  have HB8:=Lh (HB7.out.then hb8)
  clear hb8
  cases hft:Q7 c m with
  | false=>
   obtain rfl:er2=1:=by
    rcases HE1.out with ⟨_,h⟩|⟨_,h,_⟩
    ·exact h
    ·rw [hft] at h;cases h
   clear hft
   obtain ⟨ho,hg,hn,hlv⟩:=HR1.out.bad (by decide)
   obtain ⟨_,_,_,hl⟩:=HR2.out.bad (by decide)
   cases ho
   cases hg
   cases hn
   cases hl
   have r0:=HO1.out 0 _ rfl
   have r1:=HO1.out 1 _ rfl
   have r2:=HO1.out 2 _ rfl
   have r3:=HO1.out 3 _ rfl
   have r4:=HO1.out 4 _ rfl
   have s0:=HM1.out 0 _ rfl
   have s1:=HM1.out 1 _ rfl
   clear hlv
   go_wp2_with fail
   refine (Equal_eq ⟨[],[]⟩ _ _ w8.heap.size w8.heap.size w8 (Nat.le_refl _) (Nat.le_refl _) (nil_mm _ _) (nil_mm _ _)).mono ?_
   rintro e wz ⟨rfl,hbz⟩
   have HBZ:=Lh (HB8.out.then hbz)
   clear hbz r0 r1 r2 r3 r4 s0 s1
   go_wp2_with fail
   go_ret
   exact ⟨rfl,HBZ.out⟩
  | true=>
  have HFT:=Lh hft
  have HEG:Hid (er2=Yd c x fuel):=Lh (by
   rcases HE1.out with ⟨h,_⟩|⟨_,_,h⟩
   ·exact absurd ⟨HSO.out,hft⟩ h
   ·exact h)
  clear hft
  have hWs8:w.heap.size≤w8.heap.size:=by have:=HI.out.2.2.2.2.2.2.2;omega
  have q0:=HI.out.1 0 _ rfl
  have q1:=HI.out.1 1 _ rfl
  have q2:=HI.out.1 2 _ rfl
  have q3:=HI.out.2.1 0 _ rfl
  have q4:=HI.out.2.1 1 _ rfl
  have q5:=HI.out.2.2.1 0 _ rfl
  have q6:=HI.out.2.2.1 1 _ rfl
  go_wp2_with fail
  clear q0 q1 q2 q3 q4 q5 q6
  refine (Xd2 c _ x _ fuel w.heap.size w8 hWs8 HI.out.2.2.2.1 HI.out.2.2.2.2.2.1).mono ?_
  rintro e w9 ⟨rfl,hb9⟩
  rw [←HEG.out]
  have HR1:=Lh (HR1.out.keepB hb9)
  have HR2:=Lh (HR2.out.keepB hb9)
  have HO1:=Lh (HO1.out.keep hb9)
  have HM1:=Lh (HM1.out.keep hb9)
  have HI:=Lh (HI.out.keep hb9)
  have HB9:=Lh (HB8.out.then hb9)
  clear hb9
  by_cases h0:er2=0
  rotate_left
  ·have e3:(er2 != 0)=true:=by simpa using h0
   have H0:=Lh h0
   clear h0
   obtain ⟨ho,hg,hn,hlv⟩:=HR1.out.bad (H0.out)
   obtain ⟨_,_,_,hl⟩:=HR2.out.bad (H0.out)
   cases ho
   cases hg
   cases hn
   cases hl
   have r0:=HO1.out 0 _ rfl
   have r1:=HO1.out 1 _ rfl
   have r2:=HO1.out 2 _ rfl
   have r3:=HO1.out 3 _ rfl
   have r4:=HO1.out 4 _ rfl
   have s0:=HM1.out 0 _ rfl
   have s1:=HM1.out 1 _ rfl
   clear hlv
   go_wp2_with fail
   refine (Equal_eq ⟨[],[]⟩ _ _ w9.heap.size w9.heap.size w9 (Nat.le_refl _) (Nat.le_refl _) (nil_mm _ _) (nil_mm _ _)).mono ?_
   rintro e wz ⟨rfl,hbz⟩
   have HBZ:=Lh (HB9.out.then hbz)
   clear hbz r0 r1 r2 r3 r4 s0 s1
   go_wp2_with fail
   go_ret
   exact ⟨rfl,HBZ.out⟩
  subst h0
  have hWs9:w.heap.size≤w9.heap.size:=by have:=HI.out.2.2.2.2.2.2.2;omega
  have q0:=HI.out.1 0 _ rfl
  have q1:=HI.out.1 1 _ rfl
  have q2:=HI.out.1 2 _ rfl
  have q3:=HI.out.2.1 0 _ rfl
  have q4:=HI.out.2.1 1 _ rfl
  have q5:=HI.out.2.2.1 0 _ rfl
  have q6:=HI.out.2.2.1 1 _ rfl
  go_wp2_with fail
  clear q0 q1 q2 q3 q4 q5 q6
  refine (HQ.out c m x fuel _ _ _ w.heap.size w9 HSO.out HS.out hWs9 HI.out.2.2.2.1 HI.out.2.2.2.2.1 HI.out.2.2.2.2.2.1 HFT.out HEG.out.symm).mono ?_
  rintro e w10 ⟨m3,o3,p3,ga3,na3,la3,gn3,gc3,nn3,nc3,ln3,lc3,h31,h32,rfl,h33,h34,hb10⟩
  obtain ⟨m1,p1,h11,h12,h13,h14,h15,h16⟩:=HR1.out.reads
  obtain ⟨m2,p2,h21,h22,h23,h24,h25,h26⟩:=HR2.out.reads
  obtain rfl:=Vv h21 h11
  obtain ⟨rfl,rfl⟩:=Xlp h22 h12
  obtain rfl:=Vv h31 h21
  obtain ⟨rfl,rfl⟩:=Xlp h32 h22
  dsimp only
  obtain ⟨A10,hA10⟩:∃ V,V=w10.alloc (.cells (plC f1 v1 k1 d1 (.slice ga3 gn3 gc3) (.slice na3 nn3 nc3) (.slice la3 ln3 lc3)) 66):=⟨_,rfl⟩
  have hAb10:Below w10.heap.size w10 A10:=by rw [hA10];exact Xa _ _
  have HO3:Hid (A10.heap[w10.heap.size]?=some (.cells (plC f1 v1 k1 d1 (.slice ga3 gn3 gc3) (.slice na3 nn3 nc3) (.slice la3 ln3 lc3)) 66 (0,0))):=by rw [hA10];exact Lh (heap_alloc_new _ _)
  have hb910:Below w9.heap.size w9 A10:=hb10.then hAb10
  have HO1:=Lh (HO1.out.keep hb910)
  have HM1:=Lh (HM1.out.keep hb910)
  have HB10:=Lh (HB9.out.then hb910)
  have HG1:=Lh (h13.below hb910)
  have HL1:=Lh (h24.accs hb910)
  have HG3:=Lh (h33.below hAb10)
  have HL3:=Lh (h34.accs hAb10)
  obtain ⟨b10,hb10k⟩:∃ n,n=w10.heap.size:=⟨_,rfl⟩
  have hz9:w9.heap.size≤A10.heap.size:=hb910.size
  have hz10:w10.heap.size≤A10.heap.size:=hAb10.size
  clear h31 h32 h33 h34 h11 h12 h13 h14 h15 h16 h21 h22 h23 h24 h25 h26 hb10 hAb10 hb910 HI HR1 HR2 HE1
  unfold plV plC
  unfold plC at hA10
  go_upto_region 12 with fail
  rw [←hA10,← hb10k]
  rw [←hb10k] at HO3
  clear hA10 hb10k
  have r0:=HO1.out 0 _ rfl
  have r1:=HO1.out 1 _ rfl
  have r2:=HO1.out 2 _ rfl
  have r3:=HO1.out 3 _ rfl
  have r4:=HO1.out 4 _ rfl
  have s0:=HM1.out 0 _ rfl
  have s1:=HM1.out 1 _ rfl
  obtain ⟨t0,t1,t2,t3,t4,t5,t6,t7⟩:=pl8 HO3.out
  have zt:=Bl t0
  go_wp2_with fail
  refine (Equal_eq p3.mem _ _ w9.heap.size w10.heap.size A10 hz9 hz10 HG1.out HG3.out).mono ?_
  rintro e w11 ⟨rfl,hb11⟩
  have HB11:=Lh (HB10.out.then hb11)
  have HL1:=Lh (HL1.out.accs (hb11.mono hz9))
  have HL3:=Lh (HL3.out.accs (hb11.mono hz10))
  have t7:=Xc hb11 t7
  have zt:=Bl t7
  clear hb11 r0 r1 r2 r3 r4 s0 s1 t0 t1 t2 t3 t4 t5 t6
  go_wp2_with fail
  refine (equalA_eq p3.log _ _ w9.heap.size w10.heap.size w11 HL1.out HL3.out).mono ?_
  rintro e w12 ⟨rfl,nq,rfl⟩
  have HB12:=Lh (Xh HB11.out nq)
  clear t7 zt
  go_wp2_with fail
  go_ret
  exact ⟨rfl,HB12.out⟩
end Go.Proofs.YtbmeoklmachjpaaGreatDoor
