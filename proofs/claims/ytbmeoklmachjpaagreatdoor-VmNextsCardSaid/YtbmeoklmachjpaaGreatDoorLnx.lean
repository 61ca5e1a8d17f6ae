/- The walk of VmNexts. -/
import Derived.Test.YtbmeoklmachjpaaGreatDoorAwk
import Derived.Test.YtbmeoklmachjpaaGreatDoorRnx
import Derived.Test.YtbmeoklmachjpaaGreatDoorRva
import Derived.Test.YtbmeoklmachjpaaGreatDoorRg
import Derived.Deep.RegionHeld3
set_option maxHeartbeats 4000000
set_option maxRecDepth 1000000
set_option linter.unusedVariables false
set_option linter.unusedSimpArgs false
namespace Go.Proofs.YtbmeoklmachjpaaGreatDoor
open Go.RowKit
theorem Xde:Zn 41:=fun _ _=>by kernel_rfl
def Xfi (f:Fra):Bool:=decide (200<(f.locals.length:Int)) || decide (200<(f.stack.length:Int))
theorem Xhs (f p:Int) (a b:Option Addr) (n k c d:Nat) (w:World) (hn:n≤140737488355328) (hk:k≤140737488355328) :
  Calls Tryz.prog 41 #[.agg #[.int .i64 f,.int .i64 p,.slice a n c,.slice b k d]] w fun e w'=>e=.returned (.bool (decide (200<(n:Int)) || decide (200<(k:Int))))∧Below w.heap.size w w':=by
 by_cases h:200<(n:Int)
 ·have h1:decide (200<(n:Int))=true:=by simpa using h
  rw [h1,Bool.true_or]
  go_enter Tryz.func41,Tryz.ntmps41
  go_wp2_with fail
  go_ret
  exact ⟨rfl,(Below.refl _ _).alloc (Nat.le_refl _) _⟩
 ·have h1:decide (200<(n:Int))=false:=by simpa using h
  rw [h1,Bool.false_or]
  go_enter Tryz.func41,Tryz.ntmps41
  go_wp2_with fail
  go_ret
  exact ⟨Za (by rw [Bool.eq_iff_iff]),(Below.refl _ _).alloc (Nat.le_refl _) _⟩
theorem Xio (B:Nat) (w:World):∀ (x:Fra) (w1:World) (av:Value),Below w.heap.size w w1→Xq0 B w1 av x→Calls Tryz.prog 41 (#[av]++#[]) w1 (fun e w2=>e=.returned (.bool (Xfi x))∧Below w1.heap.size w1 w2):=by
 rintro x w1 av hb1 ⟨lv,sv,rfl,hl,hs,_⟩
 obtain ⟨a,c,rfl,hn⟩:=hl.frm
 obtain ⟨b,d,rfl,hk⟩:=hs.frm
 exact Xhs x.fn x.pc a b _ _ c d w1 hn hk
/-- what a narrow machine is -/
def Xiq (m:Mch):Prop:=m.frames.length≤1000∧∀ f∈m.frames,f.locals.length≤1000000∧f.stack.length≤1000000
def Xpc (m:Mch) (w:World) (e:Ending) (w':World):Prop:=∃ b,e=.returned (.bool b)∧(b=true→Xiq m)∧Below w.heap.size w w'
theorem Xl2 {m:Mch} (h1:(m.frames.length:Int)≤210) (h2:(!m.frames.any Xfi)=true):Xiq m:=by
 refine ⟨by omega,fun f hf=>?_⟩
 have h3:Xfi f=false:=by
  cases h:Xfi f with
  | false=>rfl
  | true=>
   have:=List.any_eq_true.2 ⟨f,hf,h⟩
   rw [this] at h2
   cases h2
 unfold Xfi at h3
 simp at h3
 omega
theorem Xjc (m:Mch) (fv:Value) (B:Nat) (w:World) (hB:B≤w.heap.size) (hm:Xf B w 4 (Qp B) fv m.frames):Calls Tryz.prog 15 #[Xi fv m] w (Xpc m w):=by
 obtain ⟨fa,fc,rfl,hl⟩:=hm.frm
 have HM:=Lh hm
 obtain ⟨n,hn⟩:∃ n,n=m.frames.length:=⟨_,rfl⟩
 rw [←hn] at hl HM ⊢
 have HN:=Lh hn
 obtain ⟨W,hW⟩:∃ W,W=w.alloc (.cells (Xb (.slice fa n fc) m) 36):=⟨_,rfl⟩
 have hWb:Hid (Below w.heap.size w W):=by rw [hW];exact Lh (Xa _ _)
 have b0:W.heap[w.heap.size]?=some (.cells (Xb (.slice fa n fc) m) 36 (0,0)):=by rw [hW];exact heap_alloc_new _ _
 have k0:=Xe b0 0 (.slice fa n fc) rfl
 have z0:=(La b0)
 have hWB:B≤W.heap.size:=Nat.le_trans hB hWb.out.size
 clear b0 hm hn
 unfold Xi
 unfold Xb at hW ⊢
 try dsimp only at hW ⊢
 go_enter Tryz.func15,Tryz.ntmps15
 go_upto_region 1 with fail
 rw [←hW]
 clear hW
 by_cases hq:(n:Int)≤210
 ·have HQ:Hid ((m.frames.length:Int)≤210):=Lh (by rw [←HN.out];exact hq)
  go_wp2_with fail
  refine (Xa7 41 #[] Xfi m.frames _ B W Xde hWB (HM.out.fras (hWb.out.mono hB)) (Xio B W)).mono ?_
  rintro e w8 ⟨rfl,hb8⟩
  have HB8:=Lh (hWb.out.then hb8)
  clear hb8
  go_wp2_with fail
  go_ret
  exact ⟨_,rfl,fun h=>Xl2 HQ.out h,HB8.out⟩
 ·go_wp2_with fail
  go_ret
  exact ⟨false,rfl,fun h=>(by cases h),hWb.out⟩
/-- the boxes of a law's code and machine, and what they read as -/
def Xpp (bk:Nat) (c0 c2:Value) (g:Int) (fv:Value) (c:Cod) (m:Mch) (V:World):Prop:=
 Xo V bk [c0,.int .i64 g,c2]∧Xo V (bk+1) (Xb fv m).toList∧Yj bk V (.agg #[c0,.int .i64 g,c2]) c∧Xf bk V 4 (Qp bk) fv m.frames∧Qa V∧bk+1<V.heap.size
theorem Xpp.keep {bk:Nat} {c0 c2:Value} {g:Int} {fv:Value} {c:Cod} {m:Mch} {V V':World} (h:Xpp bk c0 c2 g fv c m V) (hb:Below V.heap.size V V'):Xpp bk c0 c2 g fv c m V':=by
 obtain ⟨h1,h3,h4,h6,h7,h8⟩:=h
 have hm:Below bk V V':=hb.mono (by omega)
 exact ⟨h1.keep hb,h3.keep hb,h4.below hm,h6.fras hm,h7.below hb,by have:=hb.size;omega⟩
theorem Xra {w:World} {c0 c2:Value} {g:Int} {fv:Value} {c:Cod} {m:Mch} {T1 T3:TypeId} (hL:Qa w) (hc:Yj w.heap.size w (.agg #[c0,.int .i64 g,c2]) c) (hm:Xf w.heap.size w 4 (Qp w.heap.size) fv m.frames) :
  Xpp w.heap.size c0 c2 g fv c m ((w.alloc (.cells #[c0,.int .i64 g,c2] T1)).alloc (.cells (Xb fv m) T3)):=by
 have hb:Below w.heap.size w ((w.alloc (.cells #[c0,.int .i64 g,c2] T1)).alloc (.cells (Xb fv m) T3)):=(Xa _ _).then (Xa _ _)
 exact ⟨Xd.alloc _,K1,hc.below hb,hm.fras hb,hL.below hb,by simp⟩
theorem Xfs {c:Cod} {m m':Mch} {n:Int} (hv:Yf c m) (hsm:Zb c) (hk:¬(m.req.kind=4∨m.req.kind=5)) (ha:Yr m.req n=true) (hn:Jv c m n m'):J6 m':=by
 rw [not_or] at hk
 rcases (Xd7 hv.sound ⟨hv.nums,.inr (.inr (hv.waits hk.1 hk.2))⟩ hk.1 hk.2 ha hn).1 with h|⟨h,_⟩
 ·exact h.modest hv.sound hsm
 ·exact Xa5 h
theorem Xfn (hp:U6) (c:Cod) (m:Mch) (n:Int) (cv fv:Value) (w:World) (hL:Qa w) (hc:Yj w.heap.size w cv c) (hm:Xf w.heap.size w 4 (Qp w.heap.size) fv m.frames) :
  Calls Tryz.prog 4 #[cv,Xi fv m,.int .i64 n] w (fun e w'=>e=.returned (.bool true)∧Below w.heap.size w w'):=by
 obtain ⟨cf,cg,hcv,hcf,hcg,hg64⟩:=hc
 have hc:Yj w.heap.size w (.agg #[cf,.int .i64 c.globals,cg]) c:=⟨cf,cg,rfl,hcf,hcg,hg64⟩
 obtain ⟨fa,fc,rfl⟩:=hcf.form
 obtain ⟨ga,gc,rfl⟩:=hcg.form
 obtain ⟨ma,mc,rfl⟩:=hm.form
 have hI:=@Xra w _ _ _ _ c m 25 36 hL hc hm
 subst hcv
 obtain ⟨cfn,hcfn⟩:∃ n,n=c.fields.length:=⟨_,rfl⟩
 obtain ⟨cgn,hcgn⟩:∃ n,n=c.funcs.length:=⟨_,rfl⟩
 obtain ⟨cgl,hcgl⟩:∃ n,n=c.globals:=⟨_,rfl⟩
 obtain ⟨mn,hmn⟩:∃ n,n=m.frames.length:=⟨_,rfl⟩
 rw [←hcfn,← hcgn,← hcgl,← hmn] at hI ⊢
 have HMN:=Lh hmn
 have HP:=Lh hp
 clear hcf hcg hcfn hcgn hcgl hmn hL hc hm hg64
 obtain ⟨W,hW⟩:∃ W,W=(w.alloc (.cells #[.slice fa cfn fc,.int .i64 cgl,.slice ga cgn gc] 25)).alloc (.cells (Xb (.slice ma mn mc) m) 36):=⟨_,rfl⟩
 have HW:Hid (Below w.heap.size w W):=by rw [hW];exact Lh ((Xa _ _).then (Xa _ _))
 rw [←hW] at hI
 have HI:=Lh hI
 clear hI
 unfold Xi
 unfold Xb at hW ⊢
 try dsimp only at hW ⊢
 go_enter Tryz.func4,Tryz.ntmps4
 go_wp2_with fail
 rw [←hW]
 clear hW
 refine (Jl HP.out W HI.out.2.2.2.2.1).mono ?_
 rintro e w1 ⟨rfl,hb1⟩
 have HI:=Lh (HI.out.keep hb1)
 have HB1:=Lh (HW.out.then hb1)
 clear hb1 HW
 have q0:=HI.out.1 0 _ rfl
 have q1:=HI.out.1 1 _ rfl
 have q2:=HI.out.1 2 _ rfl
 go_wp2_with fail
 clear q0 q1 q2
 refine (Xkx c _ w.heap.size w1 (by have:=HI.out.2.2.2.2.2;omega) HI.out.2.2.1).mono ?_
 rintro e w2 ⟨r1,rfl,hsm,hb2⟩
 have HI:=Lh (HI.out.keep hb2)
 have HB2:=Lh (HB1.out.then hb2)
 have HSM:=Lh hsm
 clear hb2 HB1 hsm
 cases r1 with
 | false=>
  go_wp2_with fail
  refine (Jl HP.out _ HI.out.2.2.2.2.1).mono ?_
  rintro e w3 ⟨rfl,hb3⟩
  have HB3:=Lh (HB2.out.then hb3)
  clear hb3
  go_wp2_with fail
  go_ret
  exact ⟨rfl,HB3.out⟩
 | true=>
 have HS:Hid (Zb c):=Lh (fun y hy=>by have:=HSM.out rfl y hy;omega)
 clear HSM
 have p0:=HI.out.2.1 0 _ rfl
 have p1:=HI.out.2.1 1 _ rfl
 have p2:=HI.out.2.1 2 _ rfl
 have p3:=HI.out.2.1 3 _ rfl
 have p4:=HI.out.2.1 4 _ rfl
 have p5:=HI.out.2.1 5 _ rfl
 have p6:=HI.out.2.1 6 _ rfl
 have p7:=HI.out.2.1 7 _ rfl
 have p8:=HI.out.2.1 8 _ rfl
 go_wp2_with fail
 clear p0 p1 p2 p3 p4 p5 p6 p7 p8
 refine (Xjc m _ w.heap.size w2 (by have:=HI.out.2.2.2.2.2;omega) HI.out.2.2.2.1).mono ?_
 rintro e w3 ⟨r2,rfl,hnar,hb3⟩
 have HI:=Lh (HI.out.keep hb3)
 have HB3:=Lh (HB2.out.then hb3)
 have HNAR:=Lh hnar
 clear hb3 HB2 hnar
 cases r2 with
 | false=>
  go_wp2_with fail
  refine (Jl HP.out _ HI.out.2.2.2.2.1).mono ?_
  rintro e w4 ⟨rfl,hb4⟩
  have HB4:=Lh (HB3.out.then hb4)
  clear hb4
  go_wp2_with fail
  go_ret
  exact ⟨rfl,HB4.out⟩
 | true=>
 have HNA:Hid (Xiq m):=Lh (HNAR.out rfl)
 clear HNAR
 have p6:=HI.out.2.1 6 _ rfl
 by_cases h6:60<m.fuel∧m.fuel≤1048576
 ·have e1:decide (60<m.fuel)=true:=by simp;omega
  have e2:decide (m.fuel≤1048576)=true:=by simp;omega
  clear h6
  go_wp2_with fail
  refine (Jl HP.out _ HI.out.2.2.2.2.1).mono ?_
  rintro e w4 ⟨rfl,hb4⟩
  have HB4:=Lh (HB3.out.then hb4)
  clear hb4
  go_wp2_with fail
  go_ret
  exact ⟨rfl,HB4.out⟩
 have q0:=HI.out.1 0 _ rfl
 have q1:=HI.out.1 1 _ rfl
 have q2:=HI.out.1 2 _ rfl
 have hWs:w.heap.size≤w3.heap.size:=by have:=HI.out.2.2.2.2.2;omega
 rcases (show decide (60<m.fuel)=false∨(decide (60<m.fuel)=true∧decide (m.fuel≤1048576)=false) by
  by_cases h:60<m.fuel
  ·right;simp;omega
  ·left;simp;omega) with e1|⟨e1,e2⟩
 all_goals
  clear h6
  go_upto_region 3 with fail
  clear p6
  go_cut [3,4,7] (fun s3 s4 s7 wx=>s3=.pointer (some ⟨w.heap.size,0,none⟩)∧s4=.pointer (some ⟨w.heap.size+1,0,none⟩)∧s7=.bool (pB (Yf c m))∧Hid (Below w3.heap.size w3 wx))
  case first=>
   go_wp2_with fail
   clear q0 q1 q2
   refine (U0 c _ w.heap.size w3 hWs HI.out.2.2.1).mono ?_
   rintro e w4 ⟨rfl,hb4⟩
   have HI:=Lh (HI.out.keep hb4)
   by_cases hs:Xv c
   ·rw [Zg hs]
    have HSO:=Lh hs
    have HB4:=Lh hb4
    clear hs hb4
    have q0:=HI.out.1 0 _ rfl
    have q1:=HI.out.1 1 _ rfl
    have q2:=HI.out.1 2 _ rfl
    have hWs4:w.heap.size≤w4.heap.size:=by have:=HI.out.2.2.2.2.2;omega
    have p0:=HI.out.2.1 0 _ rfl
    have p1:=HI.out.2.1 1 _ rfl
    have p2:=HI.out.2.1 2 _ rfl
    have p3:=HI.out.2.1 3 _ rfl
    have p4:=HI.out.2.1 4 _ rfl
    have p5:=HI.out.2.1 5 _ rfl
    have p6:=HI.out.2.1 6 _ rfl
    have p7:=HI.out.2.1 7 _ rfl
    have p8:=HI.out.2.1 8 _ rfl
    go_wp2_with fail
    clear q0 q1 q2 p0 p1 p2 p3 p4 p5 p6 p7 p8
    refine (Xjl HSO.out HS.out _ m _ w.heap.size w4 hWs4 HI.out.2.2.1 HI.out.2.2.2.1).mono ?_
    rintro e w5 ⟨rfl,hb5⟩
    have HB5:=Lh (HB4.out.then hb5)
    clear hb5
    go_wp2_with fail
    go_meet
    exact ⟨rfl,rfl,rfl,HB5⟩
   ·rw [Jp hs]
    have HPB:Hid (pB (Yf c m)=false):=Lh (K8 (fun h=>hs h.sound))
    have HB4:=Lh hb4
    clear hs hb4
    go_wp2_with fail
    go_meet
    exact ⟨rfl,rfl,by rw [HPB.out],HB4⟩
  case rest=>
   obtain ⟨rfl,rfl,rfl,hbc⟩:=hcut
   clear q0 q1 q2 e1
   have HI:=Lh (HI.out.keep hbc.out)
   have HB4:=Lh (HB3.out.then hbc.out)
   clear hbc
   have q0:=HI.out.1 0 _ rfl
   have q1:=HI.out.1 1 _ rfl
   have q2:=HI.out.1 2 _ rfl
   have hWs4:w.heap.size≤wc.heap.size:=by have:=HI.out.2.2.2.2.2;omega
   have p0:=HI.out.2.1 0 _ rfl
   have p1:=HI.out.2.1 1 _ rfl
   have p2:=HI.out.2.1 2 _ rfl
   have p3:=HI.out.2.1 3 _ rfl
   have p4:=HI.out.2.1 4 _ rfl
   have p5:=HI.out.2.1 5 _ rfl
   have p6:=HI.out.2.1 6 _ rfl
   have p7:=HI.out.2.1 7 _ rfl
   have p8:=HI.out.2.1 8 _ rfl
   go_wp2_with fail
   clear q0 q1 q2 p0 p1 p2 p3 p4 p5 p6 p7 p8
   refine (Xer c _ m _ w.heap.size wc HI.out.2.2.2.2.1 hWs4 HI.out.2.2.1 HI.out.2.2.2.1 HS.out).mono ?_
   rintro e w5 ⟨rfl,hb5⟩
   have HI:=Lh (HI.out.keep hb5)
   have HB5:=Lh (HB4.out.then hb5)
   clear hb5
   have hbne:(pB (Yf c m) != pB (Yf c m))=false:=by simp
   have hWs5:w.heap.size≤w5.heap.size:=by have:=HI.out.2.2.2.2.2;omega
   have p0:=HI.out.2.1 0 _ rfl
   have p1:=HI.out.2.1 1 _ rfl
   have p2:=HI.out.2.1 2 _ rfl
   have p3:=HI.out.2.1 3 _ rfl
   have p4:=HI.out.2.1 4 _ rfl
   have p5:=HI.out.2.1 5 _ rfl
   have p6:=HI.out.2.1 6 _ rfl
   have p7:=HI.out.2.1 7 _ rfl
   have p8:=HI.out.2.1 8 _ rfl
   go_wp2_with fail
   clear p0 p1 p2 p3 p4 p5 p6 p7 p8
   refine (Xe0 m _ w.heap.size w5 hWs5 HI.out.2.2.2.1 HNA.out.1 HNA.out.2).mono ?_
   rintro e w6 ⟨fv6,rfl,hN6⟩
   obtain ⟨F6,hv6,hge6,hb6⟩:=hN6
   have hm47:J6 m:=⟨by have:=HNA.out.1;omega,fun f hf=>by have:=HNA.out.2 f hf;omega⟩
   obtain ⟨a6,c6,rfl⟩:=hv6.form
   have HS6:=Lh (hv6.reads hm47.1 hm47.2)
   rw [←HMN.out] at HS6 ⊢
   clear hv6 hge6 hm47
   unfold Xi Xb
   obtain ⟨A6,hA6⟩:∃ V,V=w6.alloc (.cells #[.slice a6 mn c6,.int .i64 m.req.kind,.int .i64 m.req.node,.int .i64 m.req.field,.int .i64 m.req.value,.int .i64 m.req.fault,.int .i64 m.fuel,.int .i64 m.compares,.int .i64 m.idle] 36):=⟨_,rfl⟩
   have hAb6:Below w6.heap.size w6 A6:=by rw [hA6];exact Xa _ _
   have HK6:Hid (Xo A6 w6.heap.size (#[.slice a6 mn c6,.int .i64 m.req.kind,.int .i64 m.req.node,.int .i64 m.req.field,.int .i64 m.req.value,.int .i64 m.req.fault,.int .i64 m.fuel,.int .i64 m.compares,.int .i64 m.idle]:Array Value).toList):=by rw [hA6];exact Lh Xd
   have HI:=Lh (HI.out.keep (hb6.then hAb6))
   have HB6:=Lh ((HB5.out.then hb6).then hAb6)
   have HS6:=Lh ((HS6.out.fras hAb6).up hAb6.size (fun _ _ _ h=>h.up hAb6.size))
   obtain ⟨b6,hb6k⟩:∃ n,n=w6.heap.size:=⟨_,rfl⟩
   go_upto_region 7 with fail
   rw [←hA6,← hb6k]
   rw [←hb6k] at HK6
   clear hA6 hAb6 hb6k hb6
   have q0:=HI.out.1 0 _ rfl
   have q1:=HI.out.1 1 _ rfl
   have q2:=HI.out.1 2 _ rfl
   have hWs6:w.heap.size≤A6.heap.size:=by have:=HI.out.2.2.2.2.2;omega
   have p0:=HI.out.2.1 0 _ rfl
   have p1:=HI.out.2.1 1 _ rfl
   have p2:=HI.out.2.1 2 _ rfl
   have p3:=HI.out.2.1 3 _ rfl
   have p4:=HI.out.2.1 4 _ rfl
   have p5:=HI.out.2.1 5 _ rfl
   have p6:=HI.out.2.1 6 _ rfl
   have p7:=HI.out.2.1 7 _ rfl
   have p8:=HI.out.2.1 8 _ rfl
   go_wp2_with fail
   clear q0 q1 q2 p0 p1 p2 p3 p4 p5 p6 p7 p8
   refine (Xhv c _ m _ n w.heap.size A6 HI.out.2.2.2.2.1 hWs6 HI.out.2.2.1 HI.out.2.2.2.1 HS.out).mono ?_
   rintro e w7 (⟨hnv,rfl,hb7⟩|⟨hv,hkk,rfl,hb7⟩|⟨hv,hkk,han,rfl,hb7⟩|⟨hv,hkk,han,m',fv7,hN,rfl,hNM⟩)
   ·rw [K8 hnv]
    clear hnv
    unfold Xi Xb Xl
    dsimp only
    obtain ⟨A7,hA7⟩:∃ V,V=w7.alloc (.cells #[.slice none 0 0,.int .i64 0,.int .i64 0,.int .i64 0,.int .i64 0,.int .i64 0,.int .i64 0,.int .i64 0,.int .i64 0] 36):=⟨_,rfl⟩
    have hAb7:Below w7.heap.size w7 A7:=by rw [hA7];exact Xa _ _
    have HK7:Hid (Xo A7 w7.heap.size (#[.slice none 0 0,.int .i64 0,.int .i64 0,.int .i64 0,.int .i64 0,.int .i64 0,.int .i64 0,.int .i64 0,.int .i64 0]:Array Value).toList):=by rw [hA7];exact Lh Xd
    have HI:=Lh (HI.out.keep (hb7.then hAb7))
    have HK6:=Lh (HK6.out.keep (hb7.then hAb7))
    have HB7:=Lh ((HB6.out.then hb7).then hAb7)
    have HS6:=Lh ((HS6.out.fras (hb7.then hAb7)).up (hb7.then hAb7).size (fun _ _ _ h=>h.up (hb7.then hAb7).size))
    obtain ⟨b7,hb7k⟩:∃ n,n=w7.heap.size:=⟨_,rfl⟩
    go_upto_region 8 with fail
    rw [←hA7,← hb7k]
    rw [←hb7k] at HK7
    clear hA7 hAb7 hb7k hb7
    have hWs7:w.heap.size≤A7.heap.size:=by have:=HI.out.2.2.2.2.2;omega
    have p0:=HI.out.2.1 0 _ rfl
    have p1:=HI.out.2.1 1 _ rfl
    have p2:=HI.out.2.1 2 _ rfl
    have p3:=HI.out.2.1 3 _ rfl
    have p4:=HI.out.2.1 4 _ rfl
    have p5:=HI.out.2.1 5 _ rfl
    have p6:=HI.out.2.1 6 _ rfl
    have p7:=HI.out.2.1 7 _ rfl
    have p8:=HI.out.2.1 8 _ rfl
    have k0:=HK6.out 0 _ rfl
    have k1:=HK6.out 1 _ rfl
    have k2:=HK6.out 2 _ rfl
    have k3:=HK6.out 3 _ rfl
    have k4:=HK6.out 4 _ rfl
    have k5:=HK6.out 5 _ rfl
    have k6:=HK6.out 6 _ rfl
    have k7:=HK6.out 7 _ rfl
    have k8:=HK6.out 8 _ rfl
    have zk:=Bl k0
    go_wp2_with fail
    clear p0 p1 p2 p3 p4 p5 p6 p7 p8 k0 k1 k2 k3 k4 k5 k6 k7 k8 zk
    refine (Vj m (.slice ma mn mc) (.slice a6 mn c6) w.heap.size A7.heap.size A7 hWs7 (Nat.le_refl _) HI.out.2.2.2.1 HS6.out).mono ?_
    rintro e w8 ⟨rfl,hb8⟩
    have HI:=Lh (HI.out.keep hb8)
    have HK7:=Lh (HK7.out.keep hb8)
    have HB8:=Lh (HB7.out.then hb8)
    clear hb8 HK6 HS6
    have k0:=HK7.out 0 _ rfl
    have k1:=HK7.out 1 _ rfl
    have k2:=HK7.out 2 _ rfl
    have k3:=HK7.out 3 _ rfl
    have k4:=HK7.out 4 _ rfl
    have k5:=HK7.out 5 _ rfl
    have k6:=HK7.out 6 _ rfl
    have k7:=HK7.out 7 _ rfl
    have k8:=HK7.out 8 _ rfl
    have zk:=Bl k0
    go_wp2_with fail
    clear k0 k1 k2 k3 k4 k5 k6 k7 k8 zk
    refine (Xad _).mono ?_
    rintro e w9 ⟨rfl,hb9⟩
    have HB9:=Lh (HB8.out.then hb9)
    clear hb9
    go_wp2_with fail
    go_ret
    exact ⟨rfl,HB9.out⟩
   ·rw [Kh hv]
    have HV:=Lh hv
    clear hv
    obtain ⟨kd,hkd⟩:∃ q,q=m.req.kind:=⟨_,rfl⟩
    rw [←hkd] at hkk
    have HKK:=Lh hkk
    have HKD:=Lh hkd
    clear hkk hkd
    unfold Xi Xb Xl
    dsimp only
    obtain ⟨A7,hA7⟩:∃ V,V=w7.alloc (.cells #[.slice none 0 0,.int .i64 0,.int .i64 0,.int .i64 0,.int .i64 0,.int .i64 0,.int .i64 0,.int .i64 0,.int .i64 0] 36):=⟨_,rfl⟩
    have hAb7:Below w7.heap.size w7 A7:=by rw [hA7];exact Xa _ _
    have HK7:Hid (Xo A7 w7.heap.size (#[.slice none 0 0,.int .i64 0,.int .i64 0,.int .i64 0,.int .i64 0,.int .i64 0,.int .i64 0,.int .i64 0,.int .i64 0]:Array Value).toList):=by rw [hA7];exact Lh Xd
    have HI:=Lh (HI.out.keep (hb7.then hAb7))
    have HK6:=Lh (HK6.out.keep (hb7.then hAb7))
    have HB7:=Lh ((HB6.out.then hb7).then hAb7)
    have HS6:=Lh ((HS6.out.fras (hb7.then hAb7)).up (hb7.then hAb7).size (fun _ _ _ h=>h.up (hb7.then hAb7).size))
    obtain ⟨b7,hb7k⟩:∃ n,n=w7.heap.size:=⟨_,rfl⟩
    go_upto_region 8 with fail
    rw [←hA7,← hb7k]
    rw [←hb7k] at HK7
    clear hA7 hAb7 hb7k hb7
    have hWs7:w.heap.size≤A7.heap.size:=by have:=HI.out.2.2.2.2.2;omega
    have p0:=HI.out.2.1 0 _ rfl
    have p1:=HI.out.2.1 1 _ rfl
    have p2:=HI.out.2.1 2 _ rfl
    have p3:=HI.out.2.1 3 _ rfl
    have p4:=HI.out.2.1 4 _ rfl
    have p5:=HI.out.2.1 5 _ rfl
    have p6:=HI.out.2.1 6 _ rfl
    have p7:=HI.out.2.1 7 _ rfl
    have p8:=HI.out.2.1 8 _ rfl
    have k0:=HK6.out 0 _ rfl
    have k1:=HK6.out 1 _ rfl
    have k2:=HK6.out 2 _ rfl
    have k3:=HK6.out 3 _ rfl
    have k4:=HK6.out 4 _ rfl
    have k5:=HK6.out 5 _ rfl
    have k6:=HK6.out 6 _ rfl
    have k7:=HK6.out 7 _ rfl
    have k8:=HK6.out 8 _ rfl
    have zk:=Bl k0
    go_wp2_with fail
    clear p0 p1 p2 p3 p4 p5 p6 p7 p8 k0 k1 k2 k3 k4 k5 k6 k7 k8 zk
    refine (Vj m (.slice ma mn mc) (.slice a6 mn c6) w.heap.size A7.heap.size A7 hWs7 (Nat.le_refl _) HI.out.2.2.2.1 HS6.out).mono ?_
    rintro e w8 ⟨rfl,hb8⟩
    have HI:=Lh (HI.out.keep hb8)
    have HK7:=Lh (HK7.out.keep hb8)
    have HB8:=Lh (HB7.out.then hb8)
    clear hb8 HK6 HS6
    have k0:=HK7.out 0 _ rfl
    have k1:=HK7.out 1 _ rfl
    have k2:=HK7.out 2 _ rfl
    have k3:=HK7.out 3 _ rfl
    have k4:=HK7.out 4 _ rfl
    have k5:=HK7.out 5 _ rfl
    have k6:=HK7.out 6 _ rfl
    have k7:=HK7.out 7 _ rfl
    have k8:=HK7.out 8 _ rfl
    have zk:=Bl k0
    have p1:=HI.out.2.1 1 _ rfl
    rcases HKK.out with h4|h4
    all_goals
     have e5:m.req.kind=_:=HKD.out.symm.trans h4
     clear h4
     rw [e5] at p1
     clear e5
     go_wp2_with fail
     clear p1 k0 k1 k2 k3 k4 k5 k6 k7 k8 zk
     refine (Xad _).mono ?_
     rintro e w9 ⟨rfl,hb9⟩
     have HB9:=Lh (HB8.out.then hb9)
     clear hb9
     go_wp2_with fail
     go_ret
     exact ⟨rfl,HB9.out⟩
   ·rw [Kh hv]
    have HV:=Lh hv
    clear hv
    rw [not_or] at hkk
    have HK4:=Lh hkk.1
    have HK5:=Lh hkk.2
    clear hkk
    have HAN:=Lh han
    clear han
    unfold Xi Xb Xl
    dsimp only
    obtain ⟨A7,hA7⟩:∃ V,V=w7.alloc (.cells #[.slice none 0 0,.int .i64 0,.int .i64 0,.int .i64 0,.int .i64 0,.int .i64 0,.int .i64 0,.int .i64 0,.int .i64 0] 36):=⟨_,rfl⟩
    have hAb7:Below w7.heap.size w7 A7:=by rw [hA7];exact Xa _ _
    have HK7:Hid (Xo A7 w7.heap.size (#[.slice none 0 0,.int .i64 0,.int .i64 0,.int .i64 0,.int .i64 0,.int .i64 0,.int .i64 0,.int .i64 0,.int .i64 0]:Array Value).toList):=by rw [hA7];exact Lh Xd
    have HI:=Lh (HI.out.keep (hb7.then hAb7))
    have HK6:=Lh (HK6.out.keep (hb7.then hAb7))
    have HB7:=Lh ((HB6.out.then hb7).then hAb7)
    have HS6:=Lh ((HS6.out.fras (hb7.then hAb7)).up (hb7.then hAb7).size (fun _ _ _ h=>h.up (hb7.then hAb7).size))
    obtain ⟨b7,hb7k⟩:∃ n,n=w7.heap.size:=⟨_,rfl⟩
    go_upto_region 8 with fail
    rw [←hA7,← hb7k]
    rw [←hb7k] at HK7
    clear hA7 hAb7 hb7k hb7
    have hWs7:w.heap.size≤A7.heap.size:=by have:=HI.out.2.2.2.2.2;omega
    have p0:=HI.out.2.1 0 _ rfl
    have p1:=HI.out.2.1 1 _ rfl
    have p2:=HI.out.2.1 2 _ rfl
    have p3:=HI.out.2.1 3 _ rfl
    have p4:=HI.out.2.1 4 _ rfl
    have p5:=HI.out.2.1 5 _ rfl
    have p6:=HI.out.2.1 6 _ rfl
    have p7:=HI.out.2.1 7 _ rfl
    have p8:=HI.out.2.1 8 _ rfl
    have k0:=HK6.out 0 _ rfl
    have k1:=HK6.out 1 _ rfl
    have k2:=HK6.out 2 _ rfl
    have k3:=HK6.out 3 _ rfl
    have k4:=HK6.out 4 _ rfl
    have k5:=HK6.out 5 _ rfl
    have k6:=HK6.out 6 _ rfl
    have k7:=HK6.out 7 _ rfl
    have k8:=HK6.out 8 _ rfl
    have zk:=Bl k0
    go_wp2_with fail
    clear p0 p1 p2 p3 p4 p5 p6 p7 p8 k0 k1 k2 k3 k4 k5 k6 k7 k8 zk
    refine (Vj m (.slice ma mn mc) (.slice a6 mn c6) w.heap.size A7.heap.size A7 hWs7 (Nat.le_refl _) HI.out.2.2.2.1 HS6.out).mono ?_
    rintro e w8 ⟨rfl,hb8⟩
    have HI:=Lh (HI.out.keep hb8)
    have HK7:=Lh (HK7.out.keep hb8)
    have HB8:=Lh (HB7.out.then hb8)
    clear hb8 HK6 HS6
    have k0:=HK7.out 0 _ rfl
    have k1:=HK7.out 1 _ rfl
    have k2:=HK7.out 2 _ rfl
    have k3:=HK7.out 3 _ rfl
    have k4:=HK7.out 4 _ rfl
    have k5:=HK7.out 5 _ rfl
    have k6:=HK7.out 6 _ rfl
    have k7:=HK7.out 7 _ rfl
    have k8:=HK7.out 8 _ rfl
    have zk:=Bl k0
    have p1:=HI.out.2.1 1 _ rfl
    have p2:=HI.out.2.1 2 _ rfl
    have p3:=HI.out.2.1 3 _ rfl
    have p4:=HI.out.2.1 4 _ rfl
    have p5:=HI.out.2.1 5 _ rfl
    have e4:(m.req.kind == 4)=false:=by simpa using HK4.out
    have e5:(m.req.kind == 5)=false:=by simpa using HK5.out
    go_wp2_with fail
    clear p1 p2 p3 p4 p5 e4 e5 k0 k1 k2 k3 k4 k5 k6 k7 k8 zk
    refine (Xcp m.req n _).mono ?_
    rintro e w9 ⟨rfl,hb9⟩
    have HI:=Lh (HI.out.keep hb9)
    have HK7:=Lh (HK7.out.keep hb9)
    have HB8:=Lh (HB8.out.then hb9)
    clear hb9
    rw [HAN.out]
    have k0:=HK7.out 0 _ rfl
    have k1:=HK7.out 1 _ rfl
    have k2:=HK7.out 2 _ rfl
    have k3:=HK7.out 3 _ rfl
    have k4:=HK7.out 4 _ rfl
    have k5:=HK7.out 5 _ rfl
    have k6:=HK7.out 6 _ rfl
    have k7:=HK7.out 7 _ rfl
    have k8:=HK7.out 8 _ rfl
    have zk:=Bl k0
    go_wp2_with fail
    clear k0 k1 k2 k3 k4 k5 k6 k7 k8 zk
    refine (Xad _).mono ?_
    rintro e wz ⟨rfl,hbz⟩
    have HBz:=Lh (HB8.out.then hbz)
    clear hbz
    go_wp2_with fail
    go_ret
    exact ⟨rfl,HBz.out⟩
   ·rw [Kh hv]
    have hmod:J6 m':=Xfs hv HS.out hkk han hN
    have HMO:=Lh hmod
    have HV:=Lh hv
    have HR:=Lh hN
    clear hv hN
    rw [not_or] at hkk
    have HK4:=Lh hkk.1
    have HK5:=Lh hkk.2
    clear hkk
    have HAN:=Lh han
    clear han
    obtain ⟨F7,hv7,hge7,hb7⟩:=hNM
    obtain ⟨a7,c7,rfl⟩:=hv7.form
    have HS7:=Lh (hv7.reads hmod.1 hmod.2)
    obtain ⟨n7,hn7⟩:∃ q,q=m'.frames.length:=⟨_,rfl⟩
    rw [←hn7] at HS7 ⊢
    have HN7:=Lh hn7
    unfold Xi Xb
    clear hv7 hge7 hmod hn7
    obtain ⟨A7,hA7⟩:∃ V,V=w7.alloc (.cells #[.slice a7 n7 c7,.int .i64 m'.req.kind,.int .i64 m'.req.node,.int .i64 m'.req.field,.int .i64 m'.req.value,.int .i64 m'.req.fault,.int .i64 m'.fuel,.int .i64 m'.compares,.int .i64 m'.idle] 36):=⟨_,rfl⟩
    have hAb7:Below w7.heap.size w7 A7:=by rw [hA7];exact Xa _ _
    have HK7:Hid (Xo A7 w7.heap.size (#[.slice a7 n7 c7,.int .i64 m'.req.kind,.int .i64 m'.req.node,.int .i64 m'.req.field,.int .i64 m'.req.value,.int .i64 m'.req.fault,.int .i64 m'.fuel,.int .i64 m'.compares,.int .i64 m'.idle]:Array Value).toList):=by rw [hA7];exact Lh Xd
    have HI:=Lh (HI.out.keep (hb7.then hAb7))
    have HK6:=Lh (HK6.out.keep (hb7.then hAb7))
    have HB7:=Lh ((HB6.out.then hb7).then hAb7)
    have HS6:=Lh ((HS6.out.fras (hb7.then hAb7)).up (hb7.then hAb7).size (fun _ _ _ h=>h.up (hb7.then hAb7).size))
    obtain ⟨b7,hb7k⟩:∃ n,n=w7.heap.size:=⟨_,rfl⟩
    go_upto_region 8 with fail
    rw [←hA7,← hb7k]
    rw [←hb7k] at HK7
    have HS7:=Lh ((HS7.out.fras hAb7).up hAb7.size (fun _ _ _ h=>h.up hAb7.size))
    clear hA7 hAb7 hb7k hb7
    have hWs7:w.heap.size≤A7.heap.size:=by have:=HI.out.2.2.2.2.2;omega
    have p0:=HI.out.2.1 0 _ rfl
    have p1:=HI.out.2.1 1 _ rfl
    have p2:=HI.out.2.1 2 _ rfl
    have p3:=HI.out.2.1 3 _ rfl
    have p4:=HI.out.2.1 4 _ rfl
    have p5:=HI.out.2.1 5 _ rfl
    have p6:=HI.out.2.1 6 _ rfl
    have p7:=HI.out.2.1 7 _ rfl
    have p8:=HI.out.2.1 8 _ rfl
    have k0:=HK6.out 0 _ rfl
    have k1:=HK6.out 1 _ rfl
    have k2:=HK6.out 2 _ rfl
    have k3:=HK6.out 3 _ rfl
    have k4:=HK6.out 4 _ rfl
    have k5:=HK6.out 5 _ rfl
    have k6:=HK6.out 6 _ rfl
    have k7:=HK6.out 7 _ rfl
    have k8:=HK6.out 8 _ rfl
    have zk:=Bl k0
    go_wp2_with fail
    clear p0 p1 p2 p3 p4 p5 p6 p7 p8 k0 k1 k2 k3 k4 k5 k6 k7 k8 zk
    refine (Vj m (.slice ma mn mc) (.slice a6 mn c6) w.heap.size A7.heap.size A7 hWs7 (Nat.le_refl _) HI.out.2.2.2.1 HS6.out).mono ?_
    rintro e w8 ⟨rfl,hb8⟩
    have HI:=Lh (HI.out.keep hb8)
    have HK7:=Lh (HK7.out.keep hb8)
    have HB8:=Lh (HB7.out.then hb8)
    have HS7:=Lh ((HS7.out.fras hb8).up hb8.size (fun _ _ _ h=>h.up hb8.size))
    clear hb8 HK6 HS6
    have k0:=HK7.out 0 _ rfl
    have k1:=HK7.out 1 _ rfl
    have k2:=HK7.out 2 _ rfl
    have k3:=HK7.out 3 _ rfl
    have k4:=HK7.out 4 _ rfl
    have k5:=HK7.out 5 _ rfl
    have k6:=HK7.out 6 _ rfl
    have k7:=HK7.out 7 _ rfl
    have k8:=HK7.out 8 _ rfl
    have zk:=Bl k0
    have p1:=HI.out.2.1 1 _ rfl
    have p2:=HI.out.2.1 2 _ rfl
    have p3:=HI.out.2.1 3 _ rfl
    have p4:=HI.out.2.1 4 _ rfl
    have p5:=HI.out.2.1 5 _ rfl
    have e4:(m.req.kind == 4)=false:=by simpa using HK4.out
    have e5:(m.req.kind == 5)=false:=by simpa using HK5.out
    go_wp2_with fail
    clear p1 p2 p3 p4 p5 e4 e5 k0 k1 k2 k3 k4 k5 k6 k7 k8 zk
    refine (Xcp m.req n _).mono ?_
    rintro e w9 ⟨rfl,hb9⟩
    have HI:=Lh (HI.out.keep hb9)
    have HK7:=Lh (HK7.out.keep hb9)
    have HB8:=Lh (HB8.out.then hb9)
    have HS7:=Lh ((HS7.out.fras hb9).up hb9.size (fun _ _ _ h=>h.up hb9.size))
    clear hb9
    rw [HAN.out]
    have k0:=HK7.out 0 _ rfl
    have k1:=HK7.out 1 _ rfl
    have k2:=HK7.out 2 _ rfl
    have k3:=HK7.out 3 _ rfl
    have k4:=HK7.out 4 _ rfl
    have k5:=HK7.out 5 _ rfl
    have k6:=HK7.out 6 _ rfl
    have k7:=HK7.out 7 _ rfl
    have k8:=HK7.out 8 _ rfl
    have zk:=Bl k0
    have q0:=HI.out.1 0 _ rfl
    have q1:=HI.out.1 1 _ rfl
    have q2:=HI.out.1 2 _ rfl
    have p0:=HI.out.2.1 0 _ rfl
    have p1:=HI.out.2.1 1 _ rfl
    have p2:=HI.out.2.1 2 _ rfl
    have p3:=HI.out.2.1 3 _ rfl
    have p4:=HI.out.2.1 4 _ rfl
    have p5:=HI.out.2.1 5 _ rfl
    have p6:=HI.out.2.1 6 _ rfl
    have p7:=HI.out.2.1 7 _ rfl
    have p8:=HI.out.2.1 8 _ rfl
    have hWs9:w.heap.size≤w9.drew.heap.size:=by have:=HI.out.2.2.2.2.2;show w.heap.size≤w9.heap.size;omega
    have HCd:=Lh (HI.out.2.2.1.below (Xh (Below.refl w.heap.size w9) 1))
    have HMd:=Lh (HI.out.2.2.2.1.fras (Xh (Below.refl w.heap.size w9) 1))
    obtain ⟨fsw,ftw,hwt⟩:=HV.out.waits HK4.out HK5.out
    have HWT:=Lh hwt
    clear hwt
    go_upto_region 16 with fail
    go_region_held3 (fun V=>V.cell? ⟨b7,0,none⟩=some (.slice a7 n7 c7)∧V.cell? ⟨b7,1,none⟩=some (.int .i64 m'.req.kind)∧V.cell? ⟨b7,2,none⟩=some (.int .i64 m'.req.node)∧V.cell? ⟨b7,3,none⟩=some (.int .i64 m'.req.field)∧V.cell? ⟨b7,4,none⟩=some (.int .i64 m'.req.value)∧V.cell? ⟨b7,5,none⟩=some (.int .i64 m'.req.fault)∧V.cell? ⟨b7,6,none⟩=some (.int .i64 m'.fuel)∧V.cell? ⟨b7,7,none⟩=some (.int .i64 m'.compares)∧V.cell? ⟨b7,8,none⟩=some (.int .i64 m'.idle)∧V.cell? ⟨w.heap.size,0,none⟩=some (.slice fa cfn fc)∧V.cell? ⟨w.heap.size,1,none⟩=some (.int .i64 cgl)∧V.cell? ⟨w.heap.size,2,none⟩=some (.slice ga cgn gc)∧V.cell? ⟨w.heap.size+1,0,none⟩=some (.slice ma mn mc)∧V.cell? ⟨w.heap.size+1,1,none⟩=some (.int .i64 m.req.kind)∧V.cell? ⟨w.heap.size+1,2,none⟩=some (.int .i64 m.req.node)∧V.cell? ⟨w.heap.size+1,3,none⟩=some (.int .i64 m.req.field)∧V.cell? ⟨w.heap.size+1,4,none⟩=some (.int .i64 m.req.value)∧V.cell? ⟨w.heap.size+1,5,none⟩=some (.int .i64 m.req.fault)∧V.cell? ⟨w.heap.size+1,6,none⟩=some (.int .i64 m.fuel)∧V.cell? ⟨w.heap.size+1,7,none⟩=some (.int .i64 m.compares)∧V.cell? ⟨w.heap.size+1,8,none⟩=some (.int .i64 m.idle))
     (first|with_reducible exact ⟨l0,l1,l2,l3,l4,l5,l6,l7,l8,u0,u1,u2,s0,s1,s2,s3,s4,s5,s6,s7,s8⟩|with_reducible exact ⟨j0,j1,j2,j3,j4,j5,j6,j7,j8,v0,v1,v2,r0,r1,r2,r3,r4,r5,r6,r7,r8⟩|exact ⟨k0,k1,k2,k3,k4,k5,k6,k7,k8,q0,q1,q2,p0,p1,p2,p3,p4,p5,p6,p7,p8⟩)
     (first
      | (go_at_call 21;refine (Xme HV.out.sound HS.out _ _ m n HWT.out HV.out.nums w.heap.size w9.drew hWs9 HCd.out HMd.out HNA.out.2 HAN.out).mono ?_;rintro e w10 ⟨m2,fv2,hR2,rfl,hN2⟩;obtain rfl:=Xb8 hR2 HR.out;obtain ⟨F10,hv10,hge10,hb10⟩:=hN2;obtain ⟨a10,c10,rfl⟩:=hv10.form;have HS10:=Lh (hv10.reads HMO.out.1 HMO.out.2);have hb910:Below w9.heap.size w9 w10:=(Xh (Below.refl _ _) 1).trans hb10;have HS710:=Lh ((HS7.out.fras hb910).up hb910.size (fun _ _ _ h=>h.up hb910.size));have j0:=Xc hb910 k0;have j1:=Xc hb910 k1;have j2:=Xc hb910 k2;have j3:=Xc hb910 k3;have j4:=Xc hb910 k4;have j5:=Xc hb910 k5;have j6:=Xc hb910 k6;have j7:=Xc hb910 k7;have j8:=Xc hb910 k8;have v0:=Xc hb910 q0;have v1:=Xc hb910 q1;have v2:=Xc hb910 q2;have r0:=Xc hb910 p0;have r1:=Xc hb910 p1;have r2:=Xc hb910 p2;have r3:=Xc hb910 p3;have r4:=Xc hb910 p4;have r5:=Xc hb910 p5;have r6:=Xc hb910 p6;have r7:=Xc hb910 p7;have r8:=Xc hb910 p8;have HB10:=Lh (HB8.out.then hb910);clear hR2 hv10 hge10 hb10 hb910;unfold Xi Xb;rw [←HN7.out] at HS10 ⊢)
      | (go_at_call 13;refine (Vj m2 (.slice a7 n7 c7) (.slice a10 n7 c10) w10.heap.size w10.heap.size w10 (Nat.le_refl _) (Nat.le_refl _) HS710.out HS10.out).mono ?_;rintro e w11 ⟨rfl,hb11⟩;have l0:=Xc hb11 j0;have l1:=Xc hb11 j1;have l2:=Xc hb11 j2;have l3:=Xc hb11 j3;have l4:=Xc hb11 j4;have l5:=Xc hb11 j5;have l6:=Xc hb11 j6;have l7:=Xc hb11 j7;have l8:=Xc hb11 j8;have u0:=Xc hb11 v0;have u1:=Xc hb11 v1;have u2:=Xc hb11 v2;have s0:=Xc hb11 r0;have s1:=Xc hb11 r1;have s2:=Xc hb11 r2;have s3:=Xc hb11 r3;have s4:=Xc hb11 r4;have s5:=Xc hb11 r5;have s6:=Xc hb11 r6;have s7:=Xc hb11 r7;have s8:=Xc hb11 r8;have HB11:=Lh (HB10.out.then hb11);clear hb11))
    all_goals
     go_wp2_with fail
     go_ret
     exact ⟨rfl,HB11.out⟩
end Go.Proofs.YtbmeoklmachjpaaGreatDoor
