/- The contract of step: instructions 6a, 6b. MADE BY wip/group_steps.py -/
import Derived.Test.YtbmeoklmachjpaaGreatDoorStep0
import Derived.Deep.RegionHeld3
import Derived.Deep.RegionWith
set_option maxHeartbeats 8000000
set_option maxRecDepth 100000
set_option linter.unusedVariables false
set_option linter.unusedSimpArgs false
namespace Go.Proofs.YtbmeoklmachjpaaGreatDoor
open Go.RowKit
theorem Xhm {w:World} {bm fb cap:Nat} {cur:Array Value} {cs:List Value} {fs:List Fra} {f:Fra} {lv sv:Value} {m:Mch} {Fi Fl Fs:List Nat} (fa ga:Option Addr) (fn fc gc:Nat) (g:Int) (h:Xk w bm fb cap cur cs fs f lv sv m Fi Fl Fs) (hn:fs.length<200)
  (B:Nat) (hB:∀ b∈bm::fb::(Fi++(Fl++Fs)),B≤b) (funcs:List Fun) (hfl:funcs.length≤1000000) (hfs:Xf B w 5 (Zl B) (.slice ga funcs.length gc) funcs) (k:Nat) (hk:f.fn=k) (y:Fun) (hy:funcs[k]?=some y) (p:Nat) (hp:f.pc=p) (x:Ins) (hx:y.code[p]?=some x) (hcl:y.code.length≤1000000)
  (hid:0≤m.idle∧m.idle<100000) (o:Out)
  (hcs:((x.op=6)∧∃ (l:List Int),∃ (u:Int),(f.stack=l++[u])∧(u<1)∧o=.stop (X0 17) { m with idle:=m.idle+1,frames:=fs++[{ f with pc:=f.pc+1,stack:=l }] })∨((x.op=6)∧∃ (l:List Int),∃ (u:Int),(f.stack=l++[u])∧(1≤u)∧o=.stop ⟨1,u,x.a,0,0⟩ { m with idle:=m.idle+1,frames:=fs++[{ f with pc:=f.pc+1,stack:=l }] })) :
  Calls Tryz.prog 92 #[Yw (.slice fa fn fc) (.slice ga funcs.length gc) g bm] w (Km w bm (bm::fb::(Fi++(Fl++Fs))) o):=by
 have HCS:=Lh hcs
 clear hcs
 have HFS:=Lh hfs
 have HK:=Lh hk
 have HP:=Lh hp
 clear hk hp
 obtain ⟨a0,cap0,he0,hl1,hl2,hl3,hE⟩:=hfs
 obtain ⟨rfl,rfl⟩:ga=a0∧gc=cap0:=by simpa using he0
 have hkl:k<funcs.length:=(Ll hy)
 rcases hE with h0|⟨b,o,rfl,hbB,hE⟩
 ·rw [h0] at hy;simp at hy
 have hEk:=Lh (hE k y hy)
 obtain ⟨yv,q4,hyc⟩:=hEk.out.2.2.2.2.1
 obtain ⟨ya,ycap,rfl,hyl1,hyl2,hyl3,hEc⟩:=hyc
 have hpl:p<y.code.length:=(Ll hx)
 rcases hEc with h0|⟨yb,yo,rfl,hybB,hEc⟩
 ·rw [h0] at hx;simp at hx
 obtain ⟨i0,i1,hi64,hi64a⟩:=hEc p x hx
 obtain ⟨xop,xa⟩:=x
 dsimp only at i0 i1 hi64 hi64a
 obtain ⟨WA,hWA⟩:∃ W,W=w.alloc (.cells #[.slice fa fn fc,.int .i64 g,.slice (some ⟨b,o,none⟩) funcs.length gc,.pointer (some ⟨bm,0,none⟩)] 134):=⟨_,rfl⟩
 have hbox:Hid (Xo WA w.heap.size [.slice fa fn fc,.int .i64 g,.slice (some ⟨b,o,none⟩) funcs.length gc,.pointer (some ⟨bm,0,none⟩)]):=by rw [hWA];exact Xd
 have hWAb:Below w.heap.size w WA:=by rw [hWA];exact Xa w _
 have hWs:WA.heap.size=w.heap.size+1:=by rw [hWA];simp
 have H:=Lh h
 have hlt:=Lh h.lt
 have HB:=Lh hB
 have hnot:w.heap.size∉bm::fb::(Fi++(Fl++Fs)):=fun e=>by have:=hlt.out _ e;omega
 obtain ⟨h2,hM2⟩:=Kw (m':={ m with idle:=m.idle+1 }) h hWAb 8 (.int .i64 (m.idle+1)) rfl
 obtain ⟨W2,hW2⟩:∃ W,W=WA.setCell ⟨bm,8,none⟩ (.int .i64 (m.idle+1)):=⟨_,rfl⟩
 rw [←hW2] at h2 hM2
 have H2:=Lh h2
 have HM2:=Lh hM2
 have hA:=h.keep hWAb
 have c8:=hA.cIdle
 have f8:=hA.frm 8
 have k0:=hbox.out 0 _ rfl
 have k1:=hbox.out 1 _ rfl
 have k2:=hbox.out 2 _ rfl
 have k3:=hbox.out 3 _ rfl
 have hbw:¬w.heap.size=bm:=fun e=>hnot (by simp [e])
 have hbm:bm<w.heap.size:=h.lt bm (by simp)
 have hfb:fb<w.heap.size:=h.lt fb (by simp)
 have HWAb:=Lh hWAb
 have HI0:=Lh i0
 have HI1:=Lh i1
 have HQ4:=Lh q4
 clear h hB he0 hE hEc h2 hM2 hA i0 i1 q4 hWAb
 unfold Yw
 go_enter Tryz.func92,Tryz.ntmps92
 go_upto_region 1 with fail
 rw [←hWA]
 clear hWA
 go_upto_region 4 with fail
 rw [←hW2]
 have hM2w:Hid (Below w.heap.size WA W2→True):=fun _=>trivial
 have k0:W2.cell? ⟨w.heap.size,0,none⟩=some (.slice fa fn fc):=by rw [hW2];go_simp
 have k1:W2.cell? ⟨w.heap.size,1,none⟩=some (.int .i64 g):=by rw [hW2];go_simp
 have k2:W2.cell? ⟨w.heap.size,2,none⟩=some (.slice (some ⟨b,o,none⟩) funcs.length gc):=by rw [hW2];go_simp
 have k3:W2.cell? ⟨w.heap.size,3,none⟩=some (.pointer (some ⟨bm,0,none⟩)):=by rw [hW2];go_simp
 have HW2:=Lh hW2
 clear hW2 c8 f8 hM2w
 go_wp2_with fail
 refine (Kz fa (some ⟨b,o,none⟩) fn fc funcs.length gc g H2.out (by omega)).mono ?_
 rintro e w3 ⟨rfl,hb3⟩
 have H3:=Lh (H2.out.keep hb3)
 have HM3:=Lh (HM2.out.trans (Xp.of_below hb3))
 have hBw:B≤w.heap.size:=Nat.le_of_lt (Nat.lt_of_le_of_lt (HB.out bm (by simp)) hbm)
 have hnB:∀ bb,bb<B→bb∉bm::fb::(Fi++(Fl++Fs)):=fun bb hb e=>by have:=HB.out bb e;omega
 have k0:=Xc hb3 k0
 have k1:=Xc hb3 k1
 have k2:=Xc hb3 k2
 have k3:=Xc hb3 k3
 have i0:=HM3.out.cell HI0.out (hnB _ hybB)
 have i1:=HM3.out.cell HI1.out (hnB _ hybB)
 have q4:=HM3.out.cell HQ4.out (hnB _ hbB)
 have cfn:=H3.out.cFn
 have cpc:=H3.out.cPc
 rw [HK.out] at cfn
 rw [HP.out] at cpc
 have fpc:=H3.out.frf (fs.length*4+1)
 have hsz3:w.heap.size<w3.heap.size:=Bl k0
 have hfb3:fb<w3.heap.size:=by omega
 have hbm3:bm<w3.heap.size:=by omega
 have hi0:(0:Int)≤(k:Int):=Int.natCast_nonneg _
 have hi1:(k:Int)<(funcs.length:Int):=by omega
 have hj0:(0:Int)≤(p:Int):=Int.natCast_nonneg _
 have hj1:(p:Int)<(y.code.length:Int):=by omega
 have hyb3:=Bl i0
 have hbb3:=Bl q4
 clear hb3
 go_wp2_with fail
 go_region
 go_upto_region 7 with fail
 obtain ⟨h4,hM4⟩:=K9 H3.out ((p:Int)+1) ⟨by omega,by omega⟩
 obtain ⟨W4,hW4⟩:∃ W,W=((w3.setCell ⟨fb,fs.length*4+1,none⟩ (.int .i64 ((p:Int)+1))).alloc (.cells #[.int .i64 xop,.int .i64 xa] 100)).drew:=⟨_,rfl⟩
 have hb4:Below (w3.setCell ⟨fb,fs.length*4+1,none⟩ (.int .i64 ((p:Int)+1))).heap.size (w3.setCell ⟨fb,fs.length*4+1,none⟩ (.int .i64 ((p:Int)+1))) W4:=by rw [hW4];exact Xh (Xa _ _) 1
 have H4:=Lh (h4.keep hb4)
 have HM4:=Lh ((HM3.out.trans hM4).trans (Xp.of_below hb4))
 have d0:W4.cell? ⟨w3.heap.size,0,none⟩=some (.int .i64 xop):=by rw [hW4];go_simp
 have d1:W4.cell? ⟨w3.heap.size,1,none⟩=some (.int .i64 xa):=by rw [hW4];go_simp
 have hnfb:¬w.heap.size=fb:=fun e=>hnot (by simp [e])
 have k0:W4.cell? ⟨w.heap.size,0,none⟩=some (.slice fa fn fc):=by rw [hW4];go_simp
 have k1:W4.cell? ⟨w.heap.size,1,none⟩=some (.int .i64 g):=by rw [hW4];go_simp
 have k2:W4.cell? ⟨w.heap.size,2,none⟩=some (.slice (some ⟨b,o,none⟩) funcs.length gc):=by rw [hW4];go_simp
 have k3:W4.cell? ⟨w.heap.size,3,none⟩=some (.pointer (some ⟨bm,0,none⟩)):=by rw [hW4];go_simp
 have hds:w3.heap.size<W4.heap.size:=Bl d0
 have hdn:w3.heap.size∉bm::fb::(Fi++(Fl++Fs)):=fun e=>by have:=hlt.out _ e;omega
 have hnd:=H.out.nodup
 rw [←hW4]
 obtain ⟨ib,hib⟩:∃ ib,ib=w3.heap.size:=⟨_,rfl⟩
 rw [←hib]
 rw [←hib] at d0 d1 hds hdn
 have hsz4:w.heap.size<W4.heap.size:=by omega
 have hibs:w.heap.size<ib:=by omega
 have HEf:=Lh hEk.out
 clear hW4 hib H3 HM3 H2 HM2 HW2 hb4 h4 hM4 i0 i1 q4 cfn cpc fpc hfb3 hbm3 hyb3 hbb3 hsz3 HI0 HI1 HQ4 hbox HWAb hWs hEk
 rcases HCS.out with ⟨hop,l,u,hst,hu1,rfl⟩|⟨hop,l,u,hst,hu1,rfl⟩
 ·have HOP:=Lh hop
  clear hop HCS
  obtain rfl:xop=6:=HOP.out
  have HST:=Lh hst
  clear hst
  have H4d:Hid (Xk W4.drew bm fb cap (cur.setIfInBounds (fs.length*4+1) (.int .i64 ((p:Int)+1))) cs fs { f with pc:=(p:Int)+1 } lv sv { m with idle:=m.idle+1 } Fi Fl Fs):=H4.out.keep (Xh (Below.refl _ _) 1)
  have HM4d:Hid (Xp (bm::fb::(Fi++(Fl++Fs))) (bm::fb::(Fi++(Fl++Fs))) w W4.drew):=HM4.out.trans (Xp.of_below (Xh (Below.refl _ _) 1))
  go_upto_region 20 with fail
  go_region_with (first|(go_at_call 123;refine (Xbw fa (some ⟨b,o,none⟩) fn fc funcs.length gc g H4d.out (by omega) l u HST.out hu1).mono ?_;rintro e w6 hBP;obtain ⟨rfl,hF⟩|⟨rfl,cur6,sv6,Fs6,hT6,hM6⟩:(e=.returned (.int .i64 0)∧Hid False)∨Vg (X0 17) _ bm fb cap cs fs _ lv _ Fi Fl _ e w6:=.inr hBP;rotate_left;(refine ⟨rfl,?_⟩;rw [HP.out];exact ⟨rfl,_,(hT6.reframe _).own rfl,HM4d.out.trans hM6⟩);have j0:w6.cell? ⟨w.heap.size,0,none⟩=some (.slice fa fn fc):=hF.out.elim;have j1:w6.cell? ⟨w.heap.size,1,none⟩=some (.int .i64 g):=hF.out.elim;have j2:w6.cell? ⟨w.heap.size,2,none⟩=some (.slice (some ⟨b,o,none⟩) funcs.length gc):=hF.out.elim;have j3:w6.cell? ⟨w.heap.size,3,none⟩=some (.pointer (some ⟨bm,0,none⟩)):=hF.out.elim;have j4:w6.cell? ⟨ib,1,none⟩=some (.int .i64 xa):=hF.out.elim)|(go_at_call 122;refine (show Calls Tryz.prog 122 _ _ (fun e _=>e=.returned (.tuple #[])) from hF.out.elim).mono ?_;rintro e w7 rfl))
  all_goals exact hF.out.elim
 ·have HOP:=Lh hop
  clear hop HCS
  obtain rfl:xop=6:=HOP.out
  have HST:=Lh hst
  clear hst
  have H4d:Hid (Xk W4.drew bm fb cap (cur.setIfInBounds (fs.length*4+1) (.int .i64 ((p:Int)+1))) cs fs { f with pc:=(p:Int)+1 } lv sv { m with idle:=m.idle+1 } Fi Fl Fs):=H4.out.keep (Xh (Below.refl _ _) 1)
  have HM4d:Hid (Xp (bm::fb::(Fi++(Fl++Fs))) (bm::fb::(Fi++(Fl++Fs))) w W4.drew):=HM4.out.trans (Xp.of_below (Xh (Below.refl _ _) 1))
  go_upto_region 20 with fail
  go_region_with (first|(go_at_call 123;refine (Xas fa (some ⟨b,o,none⟩) fn fc funcs.length gc g H4d.out (by omega) l u HST.out hu1).mono ?_;rintro e w6 ⟨rfl,cur6,sv6,Fs6,hT6,hM6⟩;have j0:=hM6.cell (show W4.drew.cell? _=_ from k0) hnot;have j1:=hM6.cell (show W4.drew.cell? _=_ from k1) hnot;have j2:=hM6.cell (show W4.drew.cell? _=_ from k2) hnot;have j3:=hM6.cell (show W4.drew.cell? _=_ from k3) hnot;have j4:=hM6.cell (show W4.drew.cell? _=_ from d1) hdn;have HT6:=Lh hT6;have HM6:=Lh (HM4d.out.trans hM6);clear hT6 hM6)|(go_at_call 122;refine (U5 fa (some ⟨b,o,none⟩) fn fc funcs.length gc g bm 1 u xa 0 0 _).mono ?_;rintro e w9 hst;obtain ⟨rfl,hF⟩|⟨rfl,hb9⟩:(e=.returned (.tuple #[])∧Hid False)∨Xec ⟨1,u,xa,0,0⟩ _ e w9:=.inr hst;rotate_left;(refine ⟨rfl,?_⟩;rw [HP.out];exact ⟨rfl,_,((HT6.out.keep hb9).reframe _).own rfl,HM6.out.trans (Xp.of_below hb9)⟩)))
  all_goals exact hF.out.elim
end Go.Proofs.YtbmeoklmachjpaaGreatDoor
