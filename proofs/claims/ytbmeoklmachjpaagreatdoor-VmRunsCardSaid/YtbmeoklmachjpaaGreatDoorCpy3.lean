/- The contracts of answer and next. MADE BY wip/gen_nxt.py The contracts of slices.Clone at frames and integers, and of copied. The contract of copied. The contract of copied: the walk. -/
import Derived.Test.YtbmeoklmachjpaaGreatDoorSta4
import Derived.Laws.AppendOwn
import Derived.Deep.RegionHeld3
import Derived.Deep.RegionWith
import Derived.Outline
import Derived.Deep.DeepCutAuto
set_option maxHeartbeats 2000000
set_option maxRecDepth 100000
set_option linter.unusedVariables false
set_option linter.unusedSimpArgs false
namespace Go.Proofs.YtbmeoklmachjpaaGreatDoor
open Go.RowKit
theorem Xjt (r:Rq) (n:Int) (w:World) :
  Calls Tryz.prog 52 #[rqV r,.int .i64 n] w fun e w'=>e=.returned (.bool (Yr r n))∧Below w.heap.size w w':=by
 obtain ⟨kind,node,field,value,fault⟩:=r
 unfold rqV
 by_cases h1:kind=1
 ·subst h1
  have hf:Hid (Yr ⟨1,node,field,value,fault⟩ n=X1 n):=Lh (by unfold Yr;rw [if_pos rfl])
  go_enter Tryz.func52,Tryz.ntmps52
  go_wp2_with (go_at_call 45;refine (Yy n _).mono ?_;rintro e w' ⟨rfl,rfl⟩)
  go_ret
  exact ⟨by rw [hf.out];rfl,Xa _ _⟩
 by_cases h3:kind=3
 ·subst h3
  have hf:Hid (Yr ⟨3,node,field,value,fault⟩ n=decide (0≤n∧n≤1099511627776)):=Lh (by unfold Yr;rw [if_neg (by simp),if_pos rfl])
  by_cases hn:0≤n
  ·have hn2:decide (0≤n)=true:=by simp [hn]
   go_enter Tryz.func52,Tryz.ntmps52
   go_wp2_with fail
   all_goals (go_ret;exact ⟨by rw [hf.out];exact Za (by simp [*]),Xa _ _⟩)
  ·have hn2:decide (0≤n)=false:=by simp;omega
   go_enter Tryz.func52,Tryz.ntmps52
   go_wp2_with fail
   all_goals (go_ret;exact ⟨by rw [hf.out];exact Za (by simp;try omega),Xa _ _⟩)
 ·have hf:Hid (Yr ⟨kind,node,field,value,fault⟩ n=true):=Lh (by unfold Yr;rw [if_neg h1,if_neg h3])
  have hb1:(kind == 1)=false:=by simp [h1]
  have hb3:(kind == 3)=false:=by simp [h3]
  go_enter Tryz.func52,Tryz.ntmps52
  go_wp2_with fail
  go_ret
  exact ⟨by rw [hf.out];rfl,Xa _ _⟩
theorem Xbe {w:World} {bm:Nat} {m:Mch} {F:List Nat} (h:X3 w bm m F) (r:Rq):X3 (Yq w bm r) bm { m with req:=r } F∧Xp F F w (Yq w bm r):=by
 obtain ⟨fv,F0,hm,hv,rfl,hn⟩:=Xt.1 h
 obtain ⟨h1,h2⟩:=Ju hm r
 exact ⟨Xt.2 ⟨fv,F0,h1,hv.keep (fun b hb=>h2.block b (hv.lt b hb) (fun e=>hn (by rw [List.mem_singleton] at e;exact e▸hb))),rfl,hn⟩,h2.wide (fun b hb=>by simp at hb;simp [hb]) (fun b hb=>.inr hb)⟩
def Jz (c:Cod) (m:Mch) (n:Int) (bm:Nat) (F:List Nat) (w:World) (e:Ending) (w':World):Prop:=
 e=.returned (.tuple #[])∧∃ m' F',Jv c m n m'∧X3 w' bm m' F'∧Xp F F' w w'
theorem Xpd {c:Cod} (hs:Xv c) (hsm:Zb c) {w:World} {bm:Nat} {m:Mch} {F:List Nat} {fs:List Fra} {f:Fra} (fa ga:Option Addr) (fn fc gc:Nat) (g n:Int) (hwt:Qr c m m.req fs f) (hnum:Ug m) (hO:X3 w bm m F)
  (B:Nat) (hB:∀ b∈F,B≤b) (hfs:Xf B w 5 (Zl B) (.slice ga c.funcs.length gc) c.funcs) (hk:m.req.kind=2) :
  Calls Tryz.prog 54 #[.agg #[.slice fa fn fc,.int .i64 g,.slice ga c.funcs.length gc],.pointer (some ⟨bm,0,none⟩),.int .i64 n] w (Jz c m n bm F w):=by
 have hlt:=Lh hO.lt
 obtain ⟨W,hW⟩:∃ W,W=(w.alloc (.cells #[.slice fa fn fc,.int .i64 g,.slice ga c.funcs.length gc] 25)).alloc (.cells #[.slice fa fn fc,.int .i64 g,.slice ga c.funcs.length gc,.pointer (some ⟨bm,0,none⟩)] 134):=⟨_,rfl⟩
 have hWb:Hid (Below w.heap.size w W):=by rw [hW];exact (Xa _ _).then (Xa _ _)
 have hsz:Hid (W.heap.size=w.heap.size+2):=by rw [hW];exact Lh (by simp)
 have b0:Hid (Xo W w.heap.size [.slice fa fn fc,.int .i64 g,.slice ga c.funcs.length gc]):=by rw [hW];exact Lh (Xd.alloc _)
 have b1:Hid (Xo W (w.heap.size+1) [.slice fa fn fc,.int .i64 g,.slice ga c.funcs.length gc,.pointer (some ⟨bm,0,none⟩)]):=by
  rw [hW]
  have:=@Xd (w.alloc (.cells #[.slice fa fn fc,.int .i64 g,.slice ga c.funcs.length gc] 25)) #[.slice fa fn fc,.int .i64 g,.slice ga c.funcs.length gc,.pointer (some ⟨bm,0,none⟩)] 134
  exact Lh (by simpa using this)
 have hBw:B≤w.heap.size:=by
  obtain ⟨fv,F0,hm,hv,rfl,hn⟩:=Xt.1 hO
  have h1:=hB bm (by simp)
  have h2:=hlt.out bm (by simp)
  omega
 have hbmF:bm∈F:=by obtain ⟨fv,F0,hm,hv,rfl,hn⟩:=Xt.1 hO;simp
 have hbm:=hlt.out bm hbmF
 have HFS:=Lh hfs
 have HB:=Lh hB
 have HO:=Lh (hO.keep hWb.out)
 have HWT:=Lh hwt
 have i0:=b0.out 0 _ rfl
 have i1:=b0.out 1 _ rfl
 have i2:=b0.out 2 _ rfl
 have k0:=b1.out 0 _ rfl
 have k1:=b1.out 1 _ rfl
 have k2:=b1.out 2 _ rfl
 have k3:=b1.out 3 _ rfl
 have z0:w.heap.size<W.heap.size:=by have:=hsz.out;omega
 have z1:w.heap.size+1<W.heap.size:=by have:=hsz.out;omega
 have zb:bm<W.heap.size:=by have:=hsz.out;omega
 have n0:w.heap.size∉F:=fun e=>by have:=hlt.out _ e;omega
 have n1:w.heap.size+1∉F:=fun e=>by have:=hlt.out _ e;omega
 clear hO hfs hB hwt
 have HK:=Lh hk
 have hgood:=Lh (HWT.out.goOn hnum hk noR)
 clear hk
 have hck:W.cell? ⟨bm,1,none⟩=some (.int .i64 2):=by
  obtain ⟨fv,F0,hm,hv,e,hn⟩:=Xt.1 HO.out
  have:=Xe hm 1 (.int .i64 m.req.kind) rfl
  rw [HK.out] at this
  exact this
 go_enter Tryz.func54,Tryz.ntmps54
 go_upto_region 2 with fail
 rw [←hW]
 have HW:=Lh hW
 clear hW
 have n5:w.heap.size∉F:=n0
 obtain ⟨h6,hM6⟩:=Xbe HO.out noR
 have HO6:=Lh h6
 have HM6:=Lh ((Xp.self (F:=F) (w:=W)).trans hM6)
 obtain ⟨fv5,F05,hm5,hv5,hF5,hn5⟩:=Xt.1 HO.out
 have c1:=Xe hm5 1 (.int .i64 _) rfl
 have f1:W.frozen? ⟨bm,1,none⟩=false:=Fz hm5
 have c2:=Xe hm5 2 (.int .i64 _) rfl
 have f2:W.frozen? ⟨bm,2,none⟩=false:=Fz hm5
 have c3:=Xe hm5 3 (.int .i64 _) rfl
 have f3:W.frozen? ⟨bm,3,none⟩=false:=Fz hm5
 have c4:=Xe hm5 4 (.int .i64 _) rfl
 have f4:W.frozen? ⟨bm,4,none⟩=false:=Fz hm5
 have c5:=Xe hm5 5 (.int .i64 _) rfl
 have f5:W.frozen? ⟨bm,5,none⟩=false:=Fz hm5
 have zb5:=(La hm5)
 obtain ⟨w6,hw6⟩:∃ u,u=Yq W bm noR:=⟨_,rfl⟩
 rw [←hw6] at HO6 HM6
 have e0:=hM6.cell i0 n5
 have e1:=hM6.cell i1 n5
 have e2:=hM6.cell i2 n5
 rw [←hw6] at e0 e1 e2
 have ez:=Bl e0
 have hgB:Hid (∀ b∈F,B≤b):=HB
 have hfs6:=Lh (HFS.out.funs ((hWb.out.mono hBw).trans (HM6.out.below HB.out (Nat.le_trans hBw hWb.out.size))))
 have HW6:=Lh hw6
 unfold Yq noR at hw6
 clear h6 hM6 hm5 hv5 hF5 hn5
 go_upto_region 10 with fail
 rw [←hw6]
 clear hw6
 go_wp2_with fail
 refine (Xc2 hs hsm fa ga fn fc gc g hgood.out HO6.out B hgB.out hfs6.out).mono ?_
 rintro e w7 ⟨rfl,m7,F7,hR7,hO7,hM7⟩
 have HP:Hid (Jz c m n bm F w (.returned (.tuple #[])) w7):=Lh ⟨rfl,m7,F7,.inr (.inr ⟨HK.out,hR7⟩),hO7,(Xp.of_below hWb.out).trans (HM6.out.trans hM7)⟩
 clear hR7 hO7 hM7
 go_wp2_with fail
 go_end0
 exact HP.out
theorem Xiv {c:Cod} (hs:Xv c) (hsm:Zb c) {w:World} {bm:Nat} {m:Mch} {F:List Nat} {fs:List Fra} {f:Fra} (fa ga:Option Addr) (fn fc gc:Nat) (g n:Int) (hwt:Qr c m m.req fs f) (hnum:Ug m) (hO:X3 w bm m F)
  (B:Nat) (hB:∀ b∈F,B≤b) (hfs:Xf B w 5 (Zl B) (.slice ga c.funcs.length gc) c.funcs) (hk:m.req.kind=1) (hv:isV n) :
  Calls Tryz.prog 54 #[.agg #[.slice fa fn fc,.int .i64 g,.slice ga c.funcs.length gc],.pointer (some ⟨bm,0,none⟩),.int .i64 n] w (Jz c m n bm F w):=by
 have hlt:=Lh hO.lt
 obtain ⟨W,hW⟩:∃ W,W=(w.alloc (.cells #[.slice fa fn fc,.int .i64 g,.slice ga c.funcs.length gc] 25)).alloc (.cells #[.slice fa fn fc,.int .i64 g,.slice ga c.funcs.length gc,.pointer (some ⟨bm,0,none⟩)] 134):=⟨_,rfl⟩
 have hWb:Hid (Below w.heap.size w W):=by rw [hW];exact (Xa _ _).then (Xa _ _)
 have hsz:Hid (W.heap.size=w.heap.size+2):=by rw [hW];exact Lh (by simp)
 have b0:Hid (Xo W w.heap.size [.slice fa fn fc,.int .i64 g,.slice ga c.funcs.length gc]):=by rw [hW];exact Lh (Xd.alloc _)
 have b1:Hid (Xo W (w.heap.size+1) [.slice fa fn fc,.int .i64 g,.slice ga c.funcs.length gc,.pointer (some ⟨bm,0,none⟩)]):=by
  rw [hW]
  have:=@Xd (w.alloc (.cells #[.slice fa fn fc,.int .i64 g,.slice ga c.funcs.length gc] 25)) #[.slice fa fn fc,.int .i64 g,.slice ga c.funcs.length gc,.pointer (some ⟨bm,0,none⟩)] 134
  exact Lh (by simpa using this)
 have hBw:B≤w.heap.size:=by
  obtain ⟨fv,F0,hm,hv,rfl,hn⟩:=Xt.1 hO
  have h1:=hB bm (by simp)
  have h2:=hlt.out bm (by simp)
  omega
 have hbmF:bm∈F:=by obtain ⟨fv,F0,hm,hv,rfl,hn⟩:=Xt.1 hO;simp
 have hbm:=hlt.out bm hbmF
 have HFS:=Lh hfs
 have HB:=Lh hB
 have HO:=Lh (hO.keep hWb.out)
 have HWT:=Lh hwt
 have i0:=b0.out 0 _ rfl
 have i1:=b0.out 1 _ rfl
 have i2:=b0.out 2 _ rfl
 have k0:=b1.out 0 _ rfl
 have k1:=b1.out 1 _ rfl
 have k2:=b1.out 2 _ rfl
 have k3:=b1.out 3 _ rfl
 have z0:w.heap.size<W.heap.size:=by have:=hsz.out;omega
 have z1:w.heap.size+1<W.heap.size:=by have:=hsz.out;omega
 have zb:bm<W.heap.size:=by have:=hsz.out;omega
 have n0:w.heap.size∉F:=fun e=>by have:=hlt.out _ e;omega
 have n1:w.heap.size+1∉F:=fun e=>by have:=hlt.out _ e;omega
 clear hO hfs hB hwt
 have HK:=Lh hk
 have hgood:=Lh (HWT.out.push hnum (by omega) n hv noR)
 clear hk
 have hck:W.cell? ⟨bm,1,none⟩=some (.int .i64 1):=by
  obtain ⟨fv,F0,hm,hv,e,hn⟩:=Xt.1 HO.out
  have:=Xe hm 1 (.int .i64 m.req.kind) rfl
  rw [HK.out] at this
  exact this
 obtain ⟨fb,cap,cur,cs,lv,sv,Fi,Fl,Fs,hT,hFT⟩:=HO.out.top HWT.out.fr
 have HT:=Lh hT
 have HFT:=Lh hFT
 have hlen:fs.length≤200:=by have:=HWT.out.len;omega
 have hst:f.stack.length<1000000:=by
  obtain ⟨y,x,hh,hb,h1,hx,_,hr,hl⟩:=HWT.out.top
  have h2:=Qu (hs.wf hb.fn) (hs.snd hb.fn) hr
  have h3:=hsm y (List.mem_of_getElem? hb.fn)
  have h4:=((hs.wf hb.fn).pops x (List.mem_of_getElem? hx)).1
  omega
 clear hT hFT
 go_enter Tryz.func54,Tryz.ntmps54
 go_upto_region 2 with fail
 rw [←hW]
 have HW:=Lh hW
 clear hW
 go_wp2_with fail
 refine (Qt fa ga fn fc c.funcs.length gc g HT.out hlen n hv.in64 hst).mono ?_
 rintro e w5 ⟨rfl,cur5,sv5,Fs5,hT5,hM5⟩
 have HO5:=Lh ((hT5.reframe (fs++[{ f with stack:=f.stack++[n] }])).own rfl)
 have HM5:Hid (Xp F (bm::fb::(Fi++(Fl++Fs5))) W w5):=Lh (by rw [HFT.out];exact hM5)
 have j0:=HM5.out.cell i0 n0
 have j1:=HM5.out.cell i1 n0
 have j2:=HM5.out.cell i2 n0
 have hgF5:Hid (∀ b∈bm::fb::(Fi++(Fl++Fs5)),B≤b):=Lh (HM5.out.ge HB.out (Nat.le_trans hBw hWb.out.size))
 clear hT5 hM5
 have n5:w.heap.size∉bm::fb::(Fi++(Fl++Fs5)):=HM5.out.notin z0 n0
 obtain ⟨h6,hM6⟩:=Xbe HO5.out noR
 have HO6:=Lh h6
 have HM6:=Lh (HM5.out.trans hM6)
 obtain ⟨fv5,F05,hm5,hv5,hF5,hn5⟩:=Xt.1 HO5.out
 have c1:=Xe hm5 1 (.int .i64 _) rfl
 have f1:w5.frozen? ⟨bm,1,none⟩=false:=Fz hm5
 have c2:=Xe hm5 2 (.int .i64 _) rfl
 have f2:w5.frozen? ⟨bm,2,none⟩=false:=Fz hm5
 have c3:=Xe hm5 3 (.int .i64 _) rfl
 have f3:w5.frozen? ⟨bm,3,none⟩=false:=Fz hm5
 have c4:=Xe hm5 4 (.int .i64 _) rfl
 have f4:w5.frozen? ⟨bm,4,none⟩=false:=Fz hm5
 have c5:=Xe hm5 5 (.int .i64 _) rfl
 have f5:w5.frozen? ⟨bm,5,none⟩=false:=Fz hm5
 have zb5:=(La hm5)
 obtain ⟨w6,hw6⟩:∃ u,u=Yq w5 bm noR:=⟨_,rfl⟩
 rw [←hw6] at HO6 HM6
 have e0:=hM6.cell j0 n5
 have e1:=hM6.cell j1 n5
 have e2:=hM6.cell j2 n5
 rw [←hw6] at e0 e1 e2
 have ez:=Bl e0
 have hgB:Hid (∀ b∈bm::fb::(Fi++(Fl++Fs5)),B≤b):=hgF5
 have hfs6:=Lh (HFS.out.funs ((hWb.out.mono hBw).trans (HM6.out.below HB.out (Nat.le_trans hBw hWb.out.size))))
 have HW6:=Lh hw6
 unfold Yq noR at hw6
 clear h6 hM6 hm5 hv5 hF5 hn5
 go_upto_region 10 with fail
 rw [←hw6]
 clear hw6
 go_wp2_with fail
 refine (Xc2 hs hsm fa ga fn fc gc g hgood.out HO6.out B hgB.out hfs6.out).mono ?_
 rintro e w7 ⟨rfl,m7,F7,hR7,hO7,hM7⟩
 have HP:Hid (Jz c m n bm F w (.returned (.tuple #[])) w7):=Lh ⟨rfl,m7,F7,.inr (.inl ⟨.inl HK.out,fs,f,HWT.out.fr,hR7⟩),hO7,(Xp.of_below hWb.out).trans (HM6.out.trans hM7)⟩
 clear hR7 hO7 hM7
 go_wp2_with fail
 go_end0
 exact HP.out
theorem Xju {c:Cod} (hs:Xv c) (hsm:Zb c) {w:World} {bm:Nat} {m:Mch} {F:List Nat} {fs:List Fra} {f:Fra} (fa ga:Option Addr) (fn fc gc:Nat) (g n:Int) (hwt:Qr c m m.req fs f) (hnum:Ug m) (hO:X3 w bm m F)
  (B:Nat) (hB:∀ b∈F,B≤b) (hfs:Xf B w 5 (Zl B) (.slice ga c.funcs.length gc) c.funcs) (hk:m.req.kind=3) (hv:isV n) (hn:n≠0) :
  Calls Tryz.prog 54 #[.agg #[.slice fa fn fc,.int .i64 g,.slice ga c.funcs.length gc],.pointer (some ⟨bm,0,none⟩),.int .i64 n] w (Jz c m n bm F w):=by
 have hlt:=Lh hO.lt
 obtain ⟨W,hW⟩:∃ W,W=(w.alloc (.cells #[.slice fa fn fc,.int .i64 g,.slice ga c.funcs.length gc] 25)).alloc (.cells #[.slice fa fn fc,.int .i64 g,.slice ga c.funcs.length gc,.pointer (some ⟨bm,0,none⟩)] 134):=⟨_,rfl⟩
 have hWb:Hid (Below w.heap.size w W):=by rw [hW];exact (Xa _ _).then (Xa _ _)
 have hsz:Hid (W.heap.size=w.heap.size+2):=by rw [hW];exact Lh (by simp)
 have b0:Hid (Xo W w.heap.size [.slice fa fn fc,.int .i64 g,.slice ga c.funcs.length gc]):=by rw [hW];exact Lh (Xd.alloc _)
 have b1:Hid (Xo W (w.heap.size+1) [.slice fa fn fc,.int .i64 g,.slice ga c.funcs.length gc,.pointer (some ⟨bm,0,none⟩)]):=by
  rw [hW]
  have:=@Xd (w.alloc (.cells #[.slice fa fn fc,.int .i64 g,.slice ga c.funcs.length gc] 25)) #[.slice fa fn fc,.int .i64 g,.slice ga c.funcs.length gc,.pointer (some ⟨bm,0,none⟩)] 134
  exact Lh (by simpa using this)
 have hBw:B≤w.heap.size:=by
  obtain ⟨fv,F0,hm,hv,rfl,hn⟩:=Xt.1 hO
  have h1:=hB bm (by simp)
  have h2:=hlt.out bm (by simp)
  omega
 have hbmF:bm∈F:=by obtain ⟨fv,F0,hm,hv,rfl,hn⟩:=Xt.1 hO;simp
 have hbm:=hlt.out bm hbmF
 have HFS:=Lh hfs
 have HB:=Lh hB
 have HO:=Lh (hO.keep hWb.out)
 have HWT:=Lh hwt
 have i0:=b0.out 0 _ rfl
 have i1:=b0.out 1 _ rfl
 have i2:=b0.out 2 _ rfl
 have k0:=b1.out 0 _ rfl
 have k1:=b1.out 1 _ rfl
 have k2:=b1.out 2 _ rfl
 have k3:=b1.out 3 _ rfl
 have z0:w.heap.size<W.heap.size:=by have:=hsz.out;omega
 have z1:w.heap.size+1<W.heap.size:=by have:=hsz.out;omega
 have zb:bm<W.heap.size:=by have:=hsz.out;omega
 have n0:w.heap.size∉F:=fun e=>by have:=hlt.out _ e;omega
 have n1:w.heap.size+1∉F:=fun e=>by have:=hlt.out _ e;omega
 clear hO hfs hB hwt
 have HK:=Lh hk
 have hgood:=Lh (HWT.out.push hnum (by omega) n hv noR)
 clear hk
 have hck:W.cell? ⟨bm,1,none⟩=some (.int .i64 3):=by
  obtain ⟨fv,F0,hm,hv,e,hn⟩:=Xt.1 HO.out
  have:=Xe hm 1 (.int .i64 m.req.kind) rfl
  rw [HK.out] at this
  exact this
 have hn0:(n == 0)=false:=by simp [hn]
 have hn1:¬n=0:=hn
 have HN:=Lh hn
 clear hn
 obtain ⟨fb,cap,cur,cs,lv,sv,Fi,Fl,Fs,hT,hFT⟩:=HO.out.top HWT.out.fr
 have HT:=Lh hT
 have HFT:=Lh hFT
 have hlen:fs.length≤200:=by have:=HWT.out.len;omega
 have hst:f.stack.length<1000000:=by
  obtain ⟨y,x,hh,hb,h1,hx,_,hr,hl⟩:=HWT.out.top
  have h2:=Qu (hs.wf hb.fn) (hs.snd hb.fn) hr
  have h3:=hsm y (List.mem_of_getElem? hb.fn)
  have h4:=((hs.wf hb.fn).pops x (List.mem_of_getElem? hx)).1
  omega
 clear hT hFT
 go_enter Tryz.func54,Tryz.ntmps54
 go_upto_region 2 with fail
 rw [←hW]
 have HW:=Lh hW
 clear hW
 go_wp2_with fail
 refine (Qt fa ga fn fc c.funcs.length gc g HT.out hlen n hv.in64 hst).mono ?_
 rintro e w5 ⟨rfl,cur5,sv5,Fs5,hT5,hM5⟩
 have HO5:=Lh ((hT5.reframe (fs++[{ f with stack:=f.stack++[n] }])).own rfl)
 have HM5:Hid (Xp F (bm::fb::(Fi++(Fl++Fs5))) W w5):=Lh (by rw [HFT.out];exact hM5)
 have j0:=HM5.out.cell i0 n0
 have j1:=HM5.out.cell i1 n0
 have j2:=HM5.out.cell i2 n0
 have hgF5:Hid (∀ b∈bm::fb::(Fi++(Fl++Fs5)),B≤b):=Lh (HM5.out.ge HB.out (Nat.le_trans hBw hWb.out.size))
 clear hT5 hM5
 have n5:w.heap.size∉bm::fb::(Fi++(Fl++Fs5)):=HM5.out.notin z0 n0
 obtain ⟨h6,hM6⟩:=Xbe HO5.out noR
 have HO6:=Lh h6
 have HM6:=Lh (HM5.out.trans hM6)
 obtain ⟨fv5,F05,hm5,hv5,hF5,hn5⟩:=Xt.1 HO5.out
 have c1:=Xe hm5 1 (.int .i64 _) rfl
 have f1:w5.frozen? ⟨bm,1,none⟩=false:=Fz hm5
 have c2:=Xe hm5 2 (.int .i64 _) rfl
 have f2:w5.frozen? ⟨bm,2,none⟩=false:=Fz hm5
 have c3:=Xe hm5 3 (.int .i64 _) rfl
 have f3:w5.frozen? ⟨bm,3,none⟩=false:=Fz hm5
 have c4:=Xe hm5 4 (.int .i64 _) rfl
 have f4:w5.frozen? ⟨bm,4,none⟩=false:=Fz hm5
 have c5:=Xe hm5 5 (.int .i64 _) rfl
 have f5:w5.frozen? ⟨bm,5,none⟩=false:=Fz hm5
 have zb5:=(La hm5)
 obtain ⟨w6,hw6⟩:∃ u,u=Yq w5 bm noR:=⟨_,rfl⟩
 rw [←hw6] at HO6 HM6
 have e0:=hM6.cell j0 n5
 have e1:=hM6.cell j1 n5
 have e2:=hM6.cell j2 n5
 rw [←hw6] at e0 e1 e2
 have ez:=Bl e0
 have hgB:Hid (∀ b∈bm::fb::(Fi++(Fl++Fs5)),B≤b):=hgF5
 have hfs6:=Lh (HFS.out.funs ((hWb.out.mono hBw).trans (HM6.out.below HB.out (Nat.le_trans hBw hWb.out.size))))
 have HW6:=Lh hw6
 unfold Yq noR at hw6
 clear h6 hM6 hm5 hv5 hF5 hn5
 go_upto_region 10 with fail
 rw [←hw6]
 clear hw6
 go_wp2_with fail
 refine (Xc2 hs hsm fa ga fn fc gc g hgood.out HO6.out B hgB.out hfs6.out).mono ?_
 rintro e w7 ⟨rfl,m7,F7,hR7,hO7,hM7⟩
 have HP:Hid (Jz c m n bm F w (.returned (.tuple #[])) w7):=Lh ⟨rfl,m7,F7,.inr (.inl ⟨.inr ⟨HK.out,HN.out⟩,fs,f,HWT.out.fr,hR7⟩),hO7,(Xp.of_below hWb.out).trans (HM6.out.trans hM7)⟩
 clear hR7 hO7 hM7
 go_wp2_with fail
 go_end0
 exact HP.out
theorem Xmu {c:Cod} (hs:Xv c) (hsm:Zb c) {w:World} {bm:Nat} {m:Mch} {F:List Nat} {fs:List Fra} {f:Fra} (fa ga:Option Addr) (fn fc gc:Nat) (g n:Int) (hwt:Qr c m m.req fs f) (hnum:Ug m) (hO:X3 w bm m F)
  (B:Nat) (hB:∀ b∈F,B≤b) (hfs:Xf B w 5 (Zl B) (.slice ga c.funcs.length gc) c.funcs) (hk:m.req.kind=3) (hn:n=0) :
  Calls Tryz.prog 54 #[.agg #[.slice fa fn fc,.int .i64 g,.slice ga c.funcs.length gc],.pointer (some ⟨bm,0,none⟩),.int .i64 n] w (Jz c m n bm F w):=by
 have hlt:=Lh hO.lt
 obtain ⟨W,hW⟩:∃ W,W=(w.alloc (.cells #[.slice fa fn fc,.int .i64 g,.slice ga c.funcs.length gc] 25)).alloc (.cells #[.slice fa fn fc,.int .i64 g,.slice ga c.funcs.length gc,.pointer (some ⟨bm,0,none⟩)] 134):=⟨_,rfl⟩
 have hWb:Hid (Below w.heap.size w W):=by rw [hW];exact (Xa _ _).then (Xa _ _)
 have hsz:Hid (W.heap.size=w.heap.size+2):=by rw [hW];exact Lh (by simp)
 have b0:Hid (Xo W w.heap.size [.slice fa fn fc,.int .i64 g,.slice ga c.funcs.length gc]):=by rw [hW];exact Lh (Xd.alloc _)
 have b1:Hid (Xo W (w.heap.size+1) [.slice fa fn fc,.int .i64 g,.slice ga c.funcs.length gc,.pointer (some ⟨bm,0,none⟩)]):=by
  rw [hW]
  have:=@Xd (w.alloc (.cells #[.slice fa fn fc,.int .i64 g,.slice ga c.funcs.length gc] 25)) #[.slice fa fn fc,.int .i64 g,.slice ga c.funcs.length gc,.pointer (some ⟨bm,0,none⟩)] 134
  exact Lh (by simpa using this)
 have hBw:B≤w.heap.size:=by
  obtain ⟨fv,F0,hm,hv,rfl,hn⟩:=Xt.1 hO
  have h1:=hB bm (by simp)
  have h2:=hlt.out bm (by simp)
  omega
 have hbmF:bm∈F:=by obtain ⟨fv,F0,hm,hv,rfl,hn⟩:=Xt.1 hO;simp
 have hbm:=hlt.out bm hbmF
 have HFS:=Lh hfs
 have HB:=Lh hB
 have HO:=Lh (hO.keep hWb.out)
 have HWT:=Lh hwt
 have i0:=b0.out 0 _ rfl
 have i1:=b0.out 1 _ rfl
 have i2:=b0.out 2 _ rfl
 have k0:=b1.out 0 _ rfl
 have k1:=b1.out 1 _ rfl
 have k2:=b1.out 2 _ rfl
 have k3:=b1.out 3 _ rfl
 have z0:w.heap.size<W.heap.size:=by have:=hsz.out;omega
 have z1:w.heap.size+1<W.heap.size:=by have:=hsz.out;omega
 have zb:bm<W.heap.size:=by have:=hsz.out;omega
 have n0:w.heap.size∉F:=fun e=>by have:=hlt.out _ e;omega
 have n1:w.heap.size+1∉F:=fun e=>by have:=hlt.out _ e;omega
 clear hO hfs hB hwt
 have HK:=Lh hk
 subst hn
 clear hk
 have hck:W.cell? ⟨bm,1,none⟩=some (.int .i64 3):=by
  obtain ⟨fv,F0,hm,hv,e,hn⟩:=Xt.1 HO.out
  have:=Xe hm 1 (.int .i64 m.req.kind) rfl
  rw [HK.out] at this
  exact this
 obtain ⟨fv5,F05,hm5,hv5,hF5,hn5⟩:=Xt.1 HO.out
 have c0:=Xe hm5 0 fv5 rfl
 have c2:=Xe hm5 2 (.int .i64 _) rfl
 have c3:=Xe hm5 3 (.int .i64 _) rfl
 have c4:=Xe hm5 4 (.int .i64 _) rfl
 have c5:=Xe hm5 5 (.int .i64 _) rfl
 have f0:W.frozen? ⟨bm,0,none⟩=false:=Fz hm5
 have f1:W.frozen? ⟨bm,1,none⟩=false:=Fz hm5
 have f2:W.frozen? ⟨bm,2,none⟩=false:=Fz hm5
 have f3:W.frozen? ⟨bm,3,none⟩=false:=Fz hm5
 have f4:W.frozen? ⟨bm,4,none⟩=false:=Fz hm5
 have f5:W.frozen? ⟨bm,5,none⟩=false:=Fz hm5
 have hfin:Hid (∃ F',X3 (Yq (W.setCell ⟨bm,0,none⟩ (.slice none 0 0)) bm (X0 21)) bm { m with frames:=[],req:=X0 21 } F'∧Xp F F' W (Yq (W.setCell ⟨bm,0,none⟩ (.slice none 0 0)) bm (X0 21))):=Lh (by
  have h0:=heap_setCell_same _ bm 0 _ _ (.slice none 0 0) hm5
  rw [Qo] at h0
  have h1:X3 (W.setCell ⟨bm,0,none⟩ (.slice none 0 0)) bm { m with frames:=[] } [bm]:=Xt.2 ⟨_,[],h0,Jd _,rfl,by simp⟩
  obtain ⟨h2,h3⟩:=Xbe h1 (X0 21)
  refine ⟨[bm],h2,?_⟩
  rw [hF5]
  exact (Xw.trans h3).wide (fun b hb=>by simp at hb;simp [hb]) (fun b hb=>.inl hb))
 clear hm5 hv5 hF5 hn5
 unfold Yq X0 at hfin
 go_enter Tryz.func54,Tryz.ntmps54
 go_upto_region 2 with fail
 rw [←hW]
 have HW:=Lh hW
 clear hW
 go_wp2_with fail
 have hP:Jz c m 0 bm F w (.returned (.tuple #[])) _:=⟨rfl,_,_,.inl ⟨HK.out,rfl,rfl⟩,hfin.out.choose_spec.1,(Xp.of_below hWb.out).trans hfin.out.choose_spec.2⟩
 refine bodyPost_ret (results_none rfl _ _ _) rfl ?_
 exact hP
/-- the cells of frames whose lists are shared -/
def Z1 (B:Nat) (w:World):List Value→List Fra→Prop
 | cells,[]=>cells=[]
 | cells,f::fs=>∃ lv sv cs,cells=.int .i64 f.fn::.int .i64 f.pc::lv::sv::cs∧Xf B w 1 Zd lv f.locals∧Xf B w 1 Zd sv f.stack∧in64 f.fn∧in64 f.pc∧Z1 B w cs fs
theorem Z1.below {B:Nat} {w w':World} (hb:Below B w w'):∀ {fs:List Fra} {cells:List Value},Z1 B w cells fs→Z1 B w' cells fs
 | [],_,h=>h
 | _::_,_,⟨lv,sv,cs,h1,h2,h3,h4,h5,h6⟩=>⟨lv,sv,cs,h1,h2.ints hb,h3.ints hb,h4,h5,h6.below hb⟩
theorem Z1.len {B:Nat} {w:World}:∀ {fs:List Fra} {cells:List Value},Z1 B w cells fs→cells.length=fs.length*4
 | [],_,h=>by rw [show _=[] from h];rfl
 | _::_,_,⟨lv,sv,cs,h1,h2,h3,h4,h5,h6⟩=>by rw [h1];simp [h6.len];omega
theorem Z1.one {B:Nat} {w:World}:∀ {fs:List Fra} {cells:List Value},Z1 B w cells fs→∀ u∈cells,u.oneCell'=true
 | [],_,h,u,hu=>by rw [show _=[] from h] at hu;simp at hu
 | _::_,_,⟨lv,sv,cs,h1,h2,h3,h4,h5,h6⟩,u,hu=>by
  obtain ⟨a,c,rfl⟩:=h2.form
  obtain ⟨a',c',rfl⟩:=h3.form
  rw [h1] at hu
  simp only [List.mem_cons] at hu
  rcases hu with rfl|rfl|rfl|rfl|hu
  ·rfl
  ·rfl
  ·rfl
  ·rfl
  ·exact h6.one u hu
theorem Xdp {B:Nat} {w:World} {b:Nat}:∀ {fs:List Fra} {o:Nat},(∀ (i:Nat) x,fs[i]?=some x→Qp B w b (o+i*4) x)→∃ cells,Z1 B w cells fs∧∀ (j:Nat) u,cells[j]?=some u→w.cell? ⟨b,o+j,none⟩=some u
 | [],o,_=>⟨[],rfl,by simp⟩
 | f::fs,o,h=>by
  obtain ⟨h1,h2,⟨lv,h3,h4⟩,⟨sv,h5,h6⟩,h7,h8⟩:=h 0 f rfl
  obtain ⟨cs,hc,hcell⟩:=Xdp (fs:=fs) (o:=o+4) (fun i x hx=>by
   have:=h (i+1) x (by simpa using hx)
   rwa [show o+(i+1)*4=o+4+i*4 by omega] at this)
  refine ⟨.int .i64 f.fn::.int .i64 f.pc::lv::sv::cs,⟨lv,sv,cs,rfl,h4,h6,h7,h8,hc⟩,fun j u hu=>?_⟩
  match j,hu with
  | 0,hu=>simp at hu;subst hu;simpa using h1
  | 1,hu=>simp at hu;subst hu;simpa using h2
  | 2,hu=>simp at hu;subst hu;simpa using h3
  | 3,hu=>simp at hu;subst hu;simpa using h5
  | j+4,hu=>
   have:=hcell j u (by simpa using hu)
   rwa [show o+(j+4)=o+4+j by omega]
theorem Xfz {w w':World} {o:Obj} (hg:(w.alloc o).grownBy w' (some w.heap.size)):Below w.heap.size w w':=
 ⟨hg.os,hg.tape,hg.output,by have:=hg.size;simp at this;omega,fun k hk=>by
  rw [hg.block k (by simp;omega) (fun e=>by simp at e;omega)]
  exact Below.heap_alloc _ _ _ hk⟩
def Xrg (B:Nat) (fs:List Fra) (w:World) (e:Ending) (w':World):Prop:=
 ∃ v cells,e=.returned v∧w'.ownsRow w.heap.size 83 4 v fs.length cells∧Z1 B w' cells fs∧Below w.heap.size w w'
theorem Xi2 (fs:List Fra) (v:Value) (B:Nat) (w:World) (hB:B≤w.heap.size) (hv:Xf B w 4 (Qp B) v fs) (hl:fs.length≤1000) :
  Calls Tryz.prog 81 #[v] w (Xrg B fs w):=by
 obtain ⟨a,cap,rfl,h1,h2,h3,hE⟩:=hv
 obtain ⟨i0,hi,hz0,hz1,hz2⟩:=info_parts Vb
 cases a with
 | none=>
  have hnil:fs=[]:=by
   rcases hE with h|⟨b,o,h,_⟩
   ·exact h
   ·cases h
  subst hnil
  have hq:=Lib.run_eql_slice_nil (P:=Tryz.prog)
  go_enter Tryz.func81,Tryz.ntmps81
  go_wp2
  go_ret
  exact ⟨_,[],rfl,World.ownsRow_nil _ _ _ _,rfl,Below.refl _ _⟩
 | some ad=>
  have hq:∀ w:World,(binOp .eql 31 (.slice (some ad) fs.length cap) (.slice none 0 0)).run Tryz.prog w=.ok (.bool false) w:=fun w=>by simpa using Lib.run_eql_slice_nil (P:=Tryz.prog) w 31 83 (some ad) fs.length cap 0 0 Tryz.underlying31
  obtain ⟨cells,hcs,hcell⟩:∃ cells,Z1 B w cells fs∧∀ (j:Nat) u,cells[j]?=some u→w.cell? (ad.add j)=some u:=by
   rcases hE with h|⟨b,o,h,hb,hE⟩
   ·subst h;exact ⟨[],rfl,by simp⟩
   ·cases h
    obtain ⟨cells,h1,h2⟩:=Xdp hE
    exact ⟨cells,h1,fun j u hu=>by rw [Xbt];exact h2 j u hu⟩
  have HCS:=Lh hcs
  have hlen:=Lh hcs.len
  have hone:=Lh hcs.one
  have hcell1:Hid (∀ (j:Nat) u,cells[j]?=some u→(w.alloc (.cells #[] 83)).cell? (ad.add j)=some u):=Lh (fun j u hu=>Xc (Xa _ _) (hcell j u hu))
  have hown:Hid ((w.alloc (.cells #[] 83)).ownsRow w.heap.size 83 4 (.slice (some ⟨w.heap.size,0,none⟩) 0 0) 0 []):=Lh (World.ownsRow_made w #[] 0 (Nat.le_refl _) (by unfold maxLen;omega) rfl)
  clear hE hcs hcell
  go_enter Tryz.func81,Tryz.ntmps81
  go_wp2_with (at_builtin;refine wpList_append_own _ rfl (.tmp 5) (.tmp 6) 31 rfl w.heap.size 83 i0 (.agg #[.int .i64 0,.int .i64 0,.slice none 0 0,.slice none 0 0]) 4 64 Tryz.underlying31 hi hz0 hz1 hz2 rfl (by decide) (.slice (some ⟨w.heap.size,0,none⟩) 0 0) 0 [] rfl hown.out ad fs.length cap cells rfl hlen.out hcell1.out hone.out ?_ ?_ ?_ ?_;(unfold maxLen;omega);omega;(simp);intro v' w' hown' hgr hnil;have HOWN:=Lh hown';have HGR:=Lh hgr;clear hown' hgr hnil)
  go_ret
  have hb:=Lh (Xfz HGR.out)
  have ho:w'.ownsRow w.heap.size 83 4 v' fs.length cells:=by simpa using HOWN.out
  exact ⟨v',cells,rfl,ho,HCS.out.below (hb.out.mono hB),hb.out⟩
def Xni (l:List Int) (w:World) (e:Ending) (w':World):Prop:=∃ a c F,e=.returned (.slice a l.length c)∧Yv w' (.slice a l.length c) l F∧(∀ b∈F,w.heap.size≤b)∧F.length≤1∧Below w.heap.size w w'
theorem Zs {w:World} {base:Nat} {e:TypeId} {size:Nat} {v:Value} {n:Nat} {xs:List Value} (h:w.ownsRow base e size v n xs):w.ownsRow 0 e size v n xs∧(∀ b∈v.ownBlock.toList,base≤b)∧∃ a c,v=.slice a n c:=by
 obtain ⟨h1,h2⟩:=h
 rcases h2 with ⟨rfl,hn⟩|⟨g,cap,cur,rfl,hb,r⟩
 ·subst hn
  exact ⟨⟨h1,.inl ⟨rfl,rfl⟩⟩,by simp [Value.ownBlock],none,0,rfl⟩
 ·exact ⟨⟨h1,.inr ⟨g,cap,cur,rfl,Nat.zero_le _,r⟩⟩,by simp [Value.ownBlock];exact hb,_,_,rfl⟩
theorem Vc (l:List Int) (v:Value) (B:Nat) (w:World) (hv:Xf B w 1 Zd v l) (hl:l.length≤1000000):Calls Tryz.prog 82 #[v] w (Xni l w):=by
 obtain ⟨a,cap,rfl,h1,h2,h3,hE⟩:=hv
 have fin:∀ v' w',w'.ownsRow w.heap.size 3 1 v' l.length (l.map (Value.int .i64))→(∀ n∈l,in64 n)→Below w.heap.size w w'→Xni l w (.returned v') w':=fun v' w' ho h64 hb=>by
  obtain ⟨h4,h5,a',c',rfl⟩:=Zs ho
  exact ⟨a',c',_,rfl,⟨h4,rfl,h64⟩,h5,by cases a'<;>simp [Value.ownBlock],hb⟩
 cases a with
 | none=>
  have hnil:l=[]:=by
   rcases hE with h|⟨b,o,h,_⟩
   ·exact h
   ·cases h
  subst hnil
  exact (Tryz.slices_Clone_int_nil _ cap w).mono fun e w' ⟨he,hw⟩=>by subst he hw;exact fin _ _ (World.ownsRow_nil _ _ _ _) (by simp) (Below.refl _ _)
 | some ad=>
  rcases hE with h|⟨b,o,h,hb,hE⟩
  ·subst h
   exact (Tryz.slices_Clone_int_zero ad cap w).mono fun e w' ⟨v',he,ho,_,hb⟩=>by subst he;exact fin _ _ ho (by simp) hb
  ·cases h
   refine (Tryz.slices_Clone_int b o l.length cap l w (Nat.le_refl _) (by omega) (fun j hj=>?_)).mono fun e w' ⟨v',he,ho,_,hb⟩=>by
    subst he
    rw [List.take_length] at ho
    exact fin _ _ ho (fun n hn=>by
     obtain ⟨i,hi,rfl⟩:=List.getElem_of_mem hn
     exact (hE i _ (List.getElem?_eq_getElem hi)).2) hb
   have:=(hE j _ (getD_some hj)).1
   rw [Nat.mul_one] at this
   exact this
theorem Xfc {cur:Array Value} {cs L:List Value} {N j:Nat} {v:Value} (h:cur.toList.take N=cs++L):(cur.setIfInBounds (cs.length+j) v).toList.take N=cs++L.set j v:=by
 rw [Array.toList_setIfInBounds,List.take_set,h,List.set_append_right _ _ (by omega),Nat.add_sub_cancel_left]
/-- while frames are copied: the row in block g of cap elements; k frames are done; F: their blocks; A: blocks from A on are new -/
structure Ku (B A:Nat) (fs:List Fra) (k g cap:Nat) (W wr:World) (cur:Array Value) (csd csr:List Value) (F:List Nat):Prop where
 row:wr.heap[g]?=some (.cells cur 83 (0,0))
 csize:cur.size=cap*4
 capl:fs.length≤cap
 capm:cap≤9223372036854775807
 take:cur.toList.take (fs.length*4)=csd++csr
 done:Yl wr csd (fs.take k) F
 rest:Z1 B wr csr (fs.drop k)
 nodup:(g::F).Nodup
 ge:∀ b∈g::F,A≤b
 bel:Below A W wr
 cslen:csd.length=k*4
theorem Ku.cells {B A:Nat} {fs:List Fra} {k g cap:Nat} {W wr:World} {cur:Array Value} {csd csr:List Value} {F:List Nat} (h:Ku B A fs k g cap W wr cur csd csr F) (j:Nat) (u:Value) (hu:csr[j]?=some u):wr.cell? ⟨g,k*4+j,none⟩=some u:=by
 rw [cell_of_row _ _ _ _ _ _ h.row]
 have h1:(csd++csr)[k*4+j]?=some u:=by rw [List.getElem?_append_right (by rw [h.cslen];omega),h.cslen,Nat.add_sub_cancel_left];exact hu
 rw [←h.take,List.getElem?_take] at h1
 split at h1
 ·simpa using h1
 ·cases h1
/-- the lists of frame k have been copied -/
theorem Ku.next {B A:Nat} {fs:List Fra} {k g cap:Nat} {W wr w1 w2:World} {cur:Array Value} {csd rest:List Value} {F:List Nat} {f:Fra} {lv sv lv' sv':Value} {Fl Fs:List Nat} (hk:fs[k]?=some f) (h:Ku B A fs k g cap W wr cur csd (.int .i64 f.fn::.int .i64 f.pc::lv::sv::rest) F) (hBA:B≤A)
  (hb1:Below wr.heap.size wr w1) (hl:Yv w1 lv' f.locals Fl) (hl1:∀ b∈Fl,wr.heap.size≤b) (hl2:Fl.length≤1) (hb2:Below (w1.setCell ⟨g,k*4+2,none⟩ lv').heap.size (w1.setCell ⟨g,k*4+2,none⟩ lv') w2) (hs:Yv w2 sv' f.stack Fs) (hs1:∀ b∈Fs,w1.heap.size≤b) (hs2:Fs.length≤1) :
  Ku B A fs (k+1) g cap W (w2.setCell ⟨g,k*4+3,none⟩ sv') ((cur.setIfInBounds (k*4+2) lv').setIfInBounds (k*4+3) sv') (csd++[.int .i64 f.fn,.int .i64 f.pc,lv',sv']) rest (F++(Fl++Fs)):=by
 have hgl:=(La h.row)
 have hz1:=hb1.size
 have hz2:=hb2.size
 simp at hz2
 have r1:w1.heap[g]?=some (.cells cur 83 (0,0)):=by rw [hb1.block g hgl];exact h.row
 have r2:=heap_setCell_same _ g (k*4+2) _ _ lv' r1
 have r3:w2.heap[g]?=_:=(hb2.block g (by simp;omega)).trans r2
 have r4:=heap_setCell_same _ g (k*4+3) _ _ sv' r3
 have hAg:A≤g:=h.ge g (by simp)
 have hF:∀ b∈F,b<wr.heap.size:=h.done.lt
 have hFl:∀ b∈Fl,b<w1.heap.size:=hl.lt
 have hFs:∀ b∈Fs,b<w2.heap.size:=hs.lt
 have ho1:∀ b,b≠g→b<w1.heap.size→w2.heap[b]?=w1.heap[b]?:=fun b hb hbl=>by rw [hb2.block b (by simp;omega),heap_setCell_other _ _ _ _ hb]
 have ho:∀ b,b≠g→(w2.setCell ⟨g,k*4+3,none⟩ sv').heap[b]?=w2.heap[b]?:=fun b hb=>heap_setCell_other _ _ _ _ hb
 have hnd:=h.nodup
 rw [List.nodup_cons] at hnd
 have hgF:∀ b∈F,b≠g:=fun b hb e=>hnd.1 (e▸hb)
 have hgl2:∀ b∈Fl,b≠g:=fun b hb e=>by have:=hl1 b hb;omega
 have hgs2:∀ b∈Fs,b≠g:=fun b hb e=>by have:=hs1 b hb;omega
 have hAw:A≤wr.heap.size:=by omega
 have hbelow:Below A wr (w2.setCell ⟨g,k*4+3,none⟩ sv'):=((hb1.mono hAw).trans ((Below.refl _ _).setCell hAg _)).trans ((hb2.mono (by simp;omega)).trans ((Below.refl _ _).setCell hAg _))
 have hks:fs.take (k+1)=fs.take k++[f]:=by rw [List.take_add_one,hk];rfl
 refine ⟨r4,by simp [h.csize],h.capl,h.capm,?_,?_,?_,?_,?_,h.bel.trans hbelow,by simp [h.cslen];omega⟩
 ·have t1:=Xfc (j:=2) (v:=lv') h.take
  rw [h.cslen] at t1
  have t2:=Xfc (j:=3) (v:=sv') t1
  rw [h.cslen] at t2
  rw [t2]
  simp
 ·rw [hks]
  exact ((h.done.keep (fun b hb=>by rw [ho b (hgF b hb),ho1 b (hgF b hb) (by have:=hF b hb;omega),hb1.block b (hF b hb)])).add (hl.keep (fun b hb=>by rw [ho b (hgl2 b hb),ho1 b (hgl2 b hb) (hFl b hb)])) (hs.keep (fun b hb=>ho b (hgs2 b hb))) (by
   obtain ⟨lv0,sv0,cs0,e,h2,h3,h4,h5,h6⟩:Z1 B wr _ (f::fs.drop (k+1)):=by
    have:=h.rest
    rwa [List.drop_eq_getElem_cons (Ll hk),(List.getElem?_eq_some_iff.1 hk).2] at this
   exact h4) (by
   obtain ⟨lv0,sv0,cs0,e,h2,h3,h4,h5,h6⟩:Z1 B wr _ (f::fs.drop (k+1)):=by
    have:=h.rest
    rwa [List.drop_eq_getElem_cons (Ll hk),(List.getElem?_eq_some_iff.1 hk).2] at this
   exact h5))
 ·obtain ⟨lv0,sv0,cs0,e,h2,h3,h4,h5,h6⟩:Z1 B wr _ (f::fs.drop (k+1)):=by
   have:=h.rest
   rwa [List.drop_eq_getElem_cons (Ll hk),(List.getElem?_eq_some_iff.1 hk).2] at this
  simp at e
  rw [e.2.2]
  exact h6.below (hbelow.mono hBA)
 ·rw [List.nodup_cons]
  refine ⟨fun e=>?_,?_⟩
  ·rw [List.mem_append,List.mem_append] at e
   rcases e with e|e|e
   ·exact hgF _ e rfl
   ·exact hgl2 _ e rfl
   ·exact hgs2 _ e rfl
  ·have one:∀ l:List Nat,l.length≤1→l.Nodup:=fun l hl=>by
    match l,hl with
    | [],_=>simp
    | [a],_=>simp
   rw [List.nodup_append]
   refine ⟨hnd.2,?_,fun a ha b hb e=>?_⟩
   ·rw [List.nodup_append]
    exact ⟨one _ hl2,one _ hs2,fun a ha b hb e=>by have:=hFl a ha;have:=hs1 b hb;omega⟩
   ·have h1:=hF a ha
    rw [List.mem_append] at hb
    rcases hb with hb|hb
    ·have:=hl1 b hb;omega
    ·have:=hs1 b hb;omega
 ·intro b hb
  rw [List.mem_cons,List.mem_append,List.mem_append] at hb
  rcases hb with rfl|hb|hb|hb
  ·exact hAg
  ·exact h.ge b (by simp [hb])
  ·have:=hl1 b hb;omega
  ·have:=hs1 b hb;omega
def Xd9 (m:Mch) (w:World) (e:Ending) (w':World):Prop:=∃ a c,e=.returned (Xi (.slice a m.frames.length c) m)∧Qq w (.slice a m.frames.length c) m w'
theorem Ku.vown {B A:Nat} {fs:List Fra} {g cap:Nat} {W wr:World} {cur:Array Value} {csd csr:List Value} {F:List Nat} (h:Ku B A fs fs.length g cap W wr cur csd csr F):Z9 wr (.slice (some ⟨g,0,none⟩) fs.length cap) fs (g::F):=by
 have h1:=h.rest
 rw [List.drop_length] at h1
 have h2:csr=[]:=h1
 have h3:=h.done
 rw [List.take_length] at h3
 have h4:=h.take
 rw [h2,List.append_nil] at h4
 exact ⟨csd,F,⟨h.cslen,.inr ⟨g,cap,cur,rfl,Nat.zero_le _,h.row,h.capl,by unfold maxLen;have:=h.capm;omega,h.csize,h4⟩⟩,h3,rfl,h.nodup⟩
theorem Ku.start {B A:Nat} {fs:List Fra} {g cap:Nat} {W wr:World} {cells:List Value} (ho:wr.ownsRow A 83 4 (.slice (some ⟨g,0,none⟩) fs.length cap) fs.length cells) (hc:Z1 B wr cells fs) (hb:Below A W wr):∃ cur,Ku B A fs 0 g cap W wr cur [] cells []:=by
 obtain ⟨h1,h2⟩:=ho
 rcases h2 with ⟨h,_⟩|⟨g',cap',cur,he,hbs,hg,hc1,hc2,hs,ht⟩
 ·cases h
 ·simp at he
  obtain ⟨rfl,rfl⟩:=he
  exact ⟨cur,hg,hs,hc1,by unfold maxLen at hc2;omega,by simpa using ht,⟨rfl,rfl⟩,by simpa using hc,by simp,by simpa using hbs,hb,rfl⟩
/-- a list of frame k has been copied and stored -/
def Xru (W:World) (g off:Nat) (l:List Int) (wx:World):Prop:=∃ w1 a c F,Below W.heap.size W w1∧Yv w1 (.slice a l.length c) l F∧(∀ b∈F,W.heap.size≤b)∧F.length≤1∧wx=w1.setCell ⟨g,off,none⟩ (.slice a l.length c)
theorem Xh9 (m:Mch) (fa:Option Addr) (fc B:Nat) (w:World) (hB:B≤w.heap.size) (hv:Xf B w 4 (Qp B) (.slice fa m.frames.length fc) m.frames) (hl:m.frames.length≤1000) (hst:∀ f∈m.frames,f.locals.length≤1000000∧f.stack.length≤1000000) (hne:0<m.frames.length) :
  Calls Tryz.prog 53 #[Xi (.slice fa m.frames.length fc) m] w (Xd9 m w):=by
 obtain ⟨fs,req,fuel,compares,idle⟩:=m
 obtain ⟨W,hW⟩:∃ W,W=(w.alloc (.cells (Xb (.slice fa fs.length fc) ⟨fs,req,fuel,compares,idle⟩) 36)).alloc (.cells (Xb (.slice none 0 0) Xl) 36):=⟨_,rfl⟩
 have hWb:Hid (Below w.heap.size w W):=by rw [hW];exact (Xa _ _).then (Xa _ _)
 have hsz:Hid (W.heap.size=w.heap.size+2):=by rw [hW];exact Lh (by simp)
 have b0:Hid (W.heap[w.heap.size]?=some (.cells (Xb (.slice fa fs.length fc) ⟨fs,req,fuel,compares,idle⟩) 36 (0,0))):=by
  rw [hW,Below.heap_alloc _ _ _ (by simp)]
  exact Lh (heap_alloc_new _ _)
 have b1:Hid (W.heap[w.heap.size+1]?=some (.cells (Xb (.slice none 0 0) Xl) 36 (0,0))):=by
  rw [hW]
  have:=heap_alloc_new (w.alloc (.cells (Xb (.slice fa fs.length fc) ⟨fs,req,fuel,compares,idle⟩) 36)) (.cells (Xb (.slice none 0 0) Xl) 36)
  exact Lh (by simpa using this)
 have HV:=Lh (hv.fras (hWb.out.mono hB))
 have hWB:B≤W.heap.size:=by have:=hsz.out;omega
 have HST:=Lh hst
 have hl':fs.length≤1000:=hl
 have hne':0<fs.length:=hne
 clear hv hst hl hne
 unfold Xi
 unfold Xb at hW ⊢
 go_enter Tryz.func53,Tryz.ntmps53
 go_upto_region 1 with fail
 unfold Xl at hW
 dsimp only at hW ⊢
 rw [←hW]
 have HW:=Lh hW
 clear hW
 have c0:=Xe b0.out 0 (.slice fa fs.length fc) rfl
 have z0:w.heap.size<W.heap.size:=by have:=hsz.out;omega
 go_wp2_with fail
 refine (Xi2 fs _ B W hWB HV.out hl').mono ?_
 rintro e w1 ⟨v1,cells,rfl,ho1,hc1,hb1⟩
 obtain ⟨_,_,ga,cap,rfl⟩:=Zs ho1
 obtain ⟨g,rfl⟩:∃ g,ga=some ⟨g,0,none⟩:=by
  rcases ho1.2 with ⟨h,hn⟩|⟨g,c,cur,h,_⟩
  ·omega
  ·simp at h;exact ⟨g,h.1⟩
 have b0':=(hb1.block _ z0).trans b0.out
 have c0:=Xe b0' 0 (.slice fa fs.length fc) rfl
 have f0:w1.frozen? ⟨w.heap.size,0,none⟩=false:=Fz b0'
 have z0':=(La b0')
 obtain ⟨w2,hw2⟩:∃ u,u=w1.setCell ⟨w.heap.size,0,none⟩ (.slice (some ⟨g,0,none⟩) fs.length cap):=⟨_,rfl⟩
 have hb12:Below W.heap.size W w2→True:=fun _=>trivial
 have k0:=heap_setCell_same _ w.heap.size 0 _ _ (.slice (some ⟨g,0,none⟩) fs.length cap) b0'
 rw [Qo,← hw2] at k0
 have K0:=Lh k0
 have hgn:g≠w.heap.size:=by
  rcases ho1.2 with ⟨h,hn⟩|⟨g',c,cur,h,hb',_⟩
  ·omega
  ·simp at h;omega
 have k1:Hid (w2.heap[w.heap.size+1]?=some (.cells (Xb (.slice none 0 0) Xl) 36 (0,0))):=Lh (by
  rw [hw2,heap_setCell_other _ _ _ _ (by simp),hb1.block _ (by have:=hsz.out;omega)]
  exact b1.out)
 have ho2:w2.ownsRow W.heap.size 83 4 (.slice (some ⟨g,0,none⟩) fs.length cap) fs.length cells:=by
  refine ⟨ho1.1,?_⟩
  rcases ho1.2 with ⟨h,hn⟩|⟨g',c,cur,h,hb',hg',r⟩
  ·cases h
  ·refine .inr ⟨g',c,cur,h,hb',?_,r⟩
   rw [hw2,heap_setCell_other _ _ _ _ (by show g'≠w.heap.size;simp at h;omega)];exact hg'
 have hbB:Below w.heap.size W w2:=by rw [hw2];exact (hb1.mono (Nat.le_of_lt z0)).setCell (Nat.le_refl _) _
 obtain ⟨cur,hst0⟩:=Ku.start ho2 (hc1.below (by rw [hw2];exact (Below.refl _ _).setCell hB _)) (Below.refl W.heap.size w2)
 have HST0:=Lh hst0
 have HBB:=Lh hbB
 go_upto_region 2 with fail
 rw [←hw2]
 have HW2:=Lh hw2
 clear hw2 b0' c0 f0 ho1 hc1 hb1 ho2 hst0 hbB k0 hb12
 have c0:=Xe K0.out 0 (.slice (some ⟨g,0,none⟩) fs.length cap) rfl
 have z2:=(La K0.out)
 go_wp2_with fail
 go_loopg [11] (fs.length+1) (fun gk i wr=>∃ k:Nat,k≤fs.length∧i=.int .i64 k∧fs.length - k<gk∧Hid (∃ cur csd csr F,Ku B W.heap.size fs k g cap w2 wr cur csd csr F))
 case atStart=>exact ⟨0,Nat.zero_le _,rfl,by omega,Lh ⟨cur,[],cells,[],HST0.out⟩⟩
 case round=>
  obtain ⟨k,hk,rfl,hgk,hs⟩:=hrel
  obtain ⟨cur',csd,csr,F,hS⟩:=hs.out
  clear hs
  have HS:=Lh hS
  clear hS
  have k0:wr.heap[w.heap.size]?=_:=(HS.out.bel.block _ (by have:=hsz.out;omega)).trans K0.out
  have cw0:=Xe k0 0 (.slice (some ⟨g,0,none⟩) fs.length cap) rfl
  have zw:=(La k0)
  have HK0:=Lh k0
  clear k0
  by_cases hlt:k<fs.length
  ·obtain ⟨f,hf⟩:∃ f,fs[k]?=some f:=⟨_,List.getElem?_eq_getElem hlt⟩
   obtain ⟨lv,sv,rest,hcsr,hlv,hsv,hfn,hpc,hrest⟩:Z1 B wr csr (f::fs.drop (k+1)):=by
    have:=HS.out.rest
    rwa [List.drop_eq_getElem_cons hlt,(List.getElem?_eq_some_iff.1 hf).2] at this
   subst hcsr
   have q2:=HS.out.cells 2 lv rfl
   have q3:=HS.out.cells 3 sv rfl
   have hfr:∀ j,wr.frozen? ⟨g,j,none⟩=false:=fun j=>Fz HS.out.row
   have zg:=(La HS.out.row)
   obtain ⟨la,lc,rfl⟩:=hlv.form
   obtain ⟨sa,sc,rfl⟩:=hsv.form
   have HLV:=Lh hlv
   have HSV:=Lh hsv
   have HF:=Lh hf
   have hlen:=HST.out f (List.mem_of_getElem? hf)
   have hi0:(0:Int)≤(k:Int):=Int.natCast_nonneg _
   have hi1:(k:Int)<(fs.length:Int):=by omega
   clear hlv hsv hf
   go_upto_region 5 with fail
   have hbd:Below wr.heap.size wr wr.drew:=Xh (Below.refl _ _) 1
   have HLVd:Hid (Xf B wr.drew 1 Zd (.slice la f.locals.length lc) f.locals):=Lh (HLV.out.ints (hbd.mono (by have:=HS.out.bel.size;have:=HBB.out.size;omega)))
   go_cut [3,11] (fun s3 s11 wx=>s3=.int .i64 (k:Int)∧s11=.int .i64 (k:Int)∧Hid (Xru wr g (k*4+2) f.locals wx))
   case first=>
    go_region_with (first|(go_at_call 82;refine (Vc f.locals _ B _ HLVd.out hlen.1).mono ?_;rintro e w3 ⟨a3,c3,F3,rfl,hO3,hF3,hn3,hb3⟩;have q2':=Xc hb3 (show wr.drew.cell? _=_ from q2);have q3':=Xc hb3 (show wr.drew.cell? _=_ from q3);have cw0':=Xc hb3 (show wr.drew.cell? _=_ from cw0);have hrow3:w3.heap[g]?=some (.cells cur' 83 (0,0)):=((hb3.block _ zg).trans HS.out.row);have hfr3:w3.frozen? ⟨g,k*4+2,none⟩=false:=(Fz hrow3);have zg3:=(La hrow3);have zw3:=Bl cw0';have HO3:=Lh hO3;have HF3:=Lh hF3;have HB3:=Lh hb3;clear hO3 hF3 hb3 hrow3))
    all_goals
     go_wp2_with fail
     go_meet
     exact ⟨rfl,rfl,Lh ⟨w3,a3,c3,F3,hbd.then HB3.out,HO3.out,HF3.out,hn3,rfl⟩⟩
   case rest=>
    obtain ⟨rfl,rfl,hmid⟩:=hcut
    obtain ⟨w3,a3,c3,F3,hb3,hO3,hF3,hn3,hwc⟩:=hmid.out
    have hrow3:w3.heap[g]?=some (.cells cur' 83 (0,0)):=(hb3.block _ zg).trans HS.out.row
    have hrowc:wc.heap[g]?=some (.cells (cur'.setIfInBounds (k*4+2) (.slice a3 f.locals.length c3)) 83 (0,0)):=by rw [hwc];exact heap_setCell_same _ _ _ _ _ _ hrow3
    have HROW:=Lh hrowc
    have hgB:W.heap.size≤g:=HS.out.ge g (by simp)
    have hbc:Below W.heap.size wr wc:=by rw [hwc];exact (hb3.mono (by omega)).setCell hgB _
    have cwc:=(hbc.cell (p:=⟨w.heap.size,0,none⟩) (show w.heap.size<W.heap.size by have:=hsz.out;omega)).trans cw0
    have q2c:wc.cell? ⟨g,k*4+2,none⟩=some (.slice a3 f.locals.length c3):=by rw [hwc];exact World.cell?_setCell_same _ _ _ (Xc hb3 q2)
    have q3c:wc.cell? ⟨g,k*4+3,none⟩=some (.slice sa f.stack.length sc):=by rw [hwc,World.cell?_setCell_other _ _ _ _ (by simp)];exact Xc hb3 q3
    have zgc:=(La hrowc)
    have zwc:=Bl cwc
    have hBW:B≤W.heap.size:=by have:=hsz.out;omega
    have HSVd:Hid (Xf B wc.drew 1 Zd (.slice sa f.stack.length sc) f.stack):=Lh ((HSV.out.ints (hbc.mono hBW)).ints (Xh (Below.refl _ _) 1))
    have hbdc:Below wc.heap.size wc wc.drew:=Xh (Below.refl _ _) 1
    have HB3':=Lh hb3
    have HO3':=Lh hO3
    have HF3':=Lh hF3
    have HN3':=Lh hn3
    have HWC:=Lh hwc
    clear hb3 hO3 hF3 hn3 hwc hrow3 hrowc hmid hbc q2 q3 cw0 hfr
    go_upto_region 6 with fail
    go_region_with (first|(go_at_call 82;refine (Vc f.stack _ B _ HSVd.out hlen.2).mono ?_;rintro e w4 ⟨a4,c4,F4,rfl,hO4,hF4,hn4,hb4⟩;have q2':=Xc hb4 (show wc.drew.cell? _=_ from q2c);have q3':=Xc hb4 (show wc.drew.cell? _=_ from q3c);have cw0':=Xc hb4 (show wc.drew.cell? _=_ from cwc);have hrow4:w4.heap[g]?=some (.cells (cur'.setIfInBounds (k*4+2) (.slice a3 f.locals.length c3)) 83 (0,0)):=((hb4.block _ zgc).trans HROW.out);have hfr3:w4.frozen? ⟨g,k*4+3,none⟩=false:=(Fz hrow4);have zg3:=(La hrow4);have zw4:=Bl cw0';have HO4:=Lh hO4;have HF4:=Lh hF4;have HB4:=Lh hb4;clear hO4 hF4 hb4 hrow4))
    all_goals
     have hwcs:wc.heap.size=w3.heap.size:=by rw [HWC.out];simp
     have hnx:=Lh (Ku.next HF.out HS.out hBW HB3'.out HO3'.out HF3'.out HN3'.out (w2:=w4) (sv':=.slice a4 f.stack.length c4) (by rw [←HWC.out];exact hbdc.then HB4.out) HO4.out (fun b hb=>by have:=HF4.out b hb;simp at this;omega) hn4)
     have hg1:fs.length - (k+1)<gk - 1+0:=by omega
     clear hwcs
     go_wp2_with fail
     go_roundg (gk - 1)
     case measure=>omega
     case rel=>exact ⟨k+1,by omega,by go_num,by omega,Lh ⟨_,_,_,_,hnx.out⟩⟩
  ·obtain rfl:k=fs.length:=by omega
   have hvo:=Lh HS.out.vown
   have hb0:wr.heap[w.heap.size+1]?=some (.cells (Xb (.slice none 0 0) Xl) 36 (0,0)):=(HS.out.bel.block _ (by have:=hsz.out;omega)).trans k1.out
   have HR:=Lh hb0
   clear hb0
   have rc:∀ (j:Nat) (v:Value),(Xb (.slice none 0 0) Xl)[j]?=some v→wr.cell? ⟨w.heap.size+1,j,none⟩=some v:=fun j v hv=>Xe HR.out j v hv
   have rc0:=rc 0 (.slice none 0 0) rfl
   have rf0:wr.frozen? ⟨w.heap.size+1,0,none⟩=false:=Fz HR.out
   have rc1:=rc 1 (.int .i64 0) rfl
   have rf1:wr.frozen? ⟨w.heap.size+1,1,none⟩=false:=Fz HR.out
   have rc2:=rc 2 (.int .i64 0) rfl
   have rf2:wr.frozen? ⟨w.heap.size+1,2,none⟩=false:=Fz HR.out
   have rc3:=rc 3 (.int .i64 0) rfl
   have rf3:wr.frozen? ⟨w.heap.size+1,3,none⟩=false:=Fz HR.out
   have rc4:=rc 4 (.int .i64 0) rfl
   have rf4:wr.frozen? ⟨w.heap.size+1,4,none⟩=false:=Fz HR.out
   have rc5:=rc 5 (.int .i64 0) rfl
   have rf5:wr.frozen? ⟨w.heap.size+1,5,none⟩=false:=Fz HR.out
   have rc6:=rc 6 (.int .i64 0) rfl
   have rf6:wr.frozen? ⟨w.heap.size+1,6,none⟩=false:=Fz HR.out
   have rc7:=rc 7 (.int .i64 0) rfl
   have rf7:wr.frozen? ⟨w.heap.size+1,7,none⟩=false:=Fz HR.out
   have rc8:=rc 8 (.int .i64 0) rfl
   have rf8:wr.frozen? ⟨w.heap.size+1,8,none⟩=false:=Fz HR.out
   have rz:=(La HR.out)
   have mc1:=Xe HK0.out 1 (.int .i64 req.kind) rfl
   have mc2:=Xe HK0.out 2 (.int .i64 req.node) rfl
   have mc3:=Xe HK0.out 3 (.int .i64 req.field) rfl
   have mc4:=Xe HK0.out 4 (.int .i64 req.value) rfl
   have mc5:=Xe HK0.out 5 (.int .i64 req.fault) rfl
   have mc6:=Xe HK0.out 6 (.int .i64 fuel) rfl
   have mc7:=Xe HK0.out 7 (.int .i64 compares) rfl
   have mc8:=Xe HK0.out 8 (.int .i64 idle) rfl
   have hfin:=Lh (Xz HR.out (.slice (some ⟨g,0,none⟩) fs.length cap) ⟨fs,req,fuel,compares,idle⟩)
   have hge:=HS.out.ge
   have hbel:=HS.out.bel
   have HNEW:Hid (Qq w (.slice (some ⟨g,0,none⟩) fs.length cap) ⟨fs,req,fuel,compares,idle⟩ (Yp wr (w.heap.size+1) (.slice (some ⟨g,0,none⟩) fs.length cap) ⟨fs,req,fuel,compares,idle⟩)):=Lh ⟨g::F,hvo.out.keep (fun b hb=>hfin.out.2.block b (hvo.out.lt b hb) (fun e=>by
     have h1:=hge b hb
     have h2:=hsz.out
     rw [List.mem_singleton] at e
     omega)),fun b hb=>by
      have h1:=hge b hb
      have h2:=hsz.out
      omega,by
      have h1:Below w.heap.size w wr:=(hWb.out.trans HBB.out).trans (hbel.mono (by have:=hsz.out;omega))
      exact h1.trans (hfin.out.2.below (fun b hb=>by simp at hb;omega) h1.size)⟩
   clear rc hge hbel
   go_wp2_with fail
   have hpost:Xd9 ⟨fs,req,fuel,compares,idle⟩ w (.returned (Xi (.slice (some ⟨g,0,none⟩) fs.length cap) ⟨fs,req,fuel,compares,idle⟩)) (Yp wr (w.heap.size+1) (.slice (some ⟨g,0,none⟩) fs.length cap) ⟨fs,req,fuel,compares,idle⟩):=⟨_,_,rfl,HNEW.out⟩
   exact bodyPost_ret (Xn (p:=2) rfl hfin.out.1 _ rfl) rfl hpost
end Go.Proofs.YtbmeoklmachjpaaGreatDoor
