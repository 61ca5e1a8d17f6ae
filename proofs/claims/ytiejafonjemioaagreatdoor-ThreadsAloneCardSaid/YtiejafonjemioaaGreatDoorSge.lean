import Derived.Test.YtiejafonjemioaaGreatDoorStep0
import Derived.Deep.RegionHeld3
import Derived.Deep.RegionWith
set_option maxHeartbeats 8000000
set_option maxRecDepth 100000
set_option linter.unusedVariables false
set_option linter.unusedSimpArgs false
namespace Go.Proofs.YtiejafonjemioaaGreatDoor
open Go.RowKit
theorem Xhm {w:World} {bm fb cap:Nat} {cur:Array Value} {cs:List Value} {fs:List Fra} {f:Fra} {lv sv:Value} {m:Mch} {Fi Fl Fs:List Nat} (fa ga:Option Addr) (fn fc gc:Nat) (g:Int) (h:Xk w bm fb cap cur cs fs f lv sv m Fi Fl Fs) (hn:fs.length<200)
  (B:Nat) (hB:∀ b∈bm::fb::(Fi++(Fl++Fs)),B≤b) (funcs:List Fun) (hfl:funcs.length≤1000000) (hfs:Xf B w 5 (Zl B) (.slice ga funcs.length gc) funcs) (k:Nat) (hk:f.fn=k) (y:Fun) (hy:funcs[k]?=some y) (p:Nat) (hp:f.pc=p) (x:Ins) (hx:y.code[p]?=some x) (hcl:y.code.length≤1000000)
  (hid:0≤m.idle∧m.idle<100000) (o:Out)
  (hcs:((x.op=6)∧∃ (l:List Int),∃ (u:Int),(f.stack=l++[u])∧(u<1)∧o=.stop (X0 17) { m with idle:=m.idle+1,frames:=fs++[{ f with pc:=f.pc+1,stack:=l }] })∨((x.op=6)∧∃ (l:List Int),∃ (u:Int),(f.stack=l++[u])∧(1≤u)∧o=.stop ⟨1,u,x.a,0,0⟩ { m with idle:=m.idle+1,frames:=fs++[{ f with pc:=f.pc+1,stack:=l }] })) :
  Calls Tryz.prog 170 #[Yw (.slice fa fn fc) (.slice ga funcs.length gc) g bm] w (Km w bm (bm::fb::(Fi++(Fl++Fs))) o):=by
 have aS:=Lh hcs
 clear hcs
 have cQ:=Lh hfs
 have HK:=Lh hk
 have HP:=Lh hp
 clear hk hp
 obtain ⟨a0,aW,bU,cZ,dA,dB,hE⟩:=hfs
 obtain ⟨rfl,rfl⟩:ga=a0∧gc=aW:=by simpa using bU
 have cY:k<funcs.length:=(Ll hy)
 rcases hE with h0|⟨b,o,rfl,cD,hE⟩
 ·rw [h0] at hy;simp at hy
 have aY:=Lh (hE k y hy)
 obtain ⟨yv,q4,cJ⟩:=aY.out.2.2.2.2.1
 obtain ⟨ya,cO,rfl,cK,cL,cM,aO⟩:=cJ
 have dD:p<y.code.length:=(Ll hx)
 rcases aO with h0|⟨yb,yo,rfl,aN,aO⟩
 ·rw [h0] at hx;simp at hx
 obtain ⟨i0,i1,bF,aL⟩:=aO p x hx
 obtain ⟨aQ,xa⟩:=x
 dsimp only at i0 i1 bF aL
 obtain ⟨WA,aK⟩:∃ W,W=w.alloc (.cells #[.slice fa fn fc,.int .i64 g,.slice (some ⟨b,o,none⟩) funcs.length gc,.pointer (some ⟨bm,0,none⟩)] 175):=⟨_,rfl⟩
 have aB:Hid (Xo WA w.heap.size [.slice fa fn fc,.int .i64 g,.slice (some ⟨b,o,none⟩) funcs.length gc,.pointer (some ⟨bm,0,none⟩)]):=by rw [aK];exact Xd
 have aE:Below w.heap.size w WA:=by rw [aK];exact Xa w _
 have cC:WA.heap.size=w.heap.size+1:=by rw [aK];simp
 have H:=Lh h
 have bV:=Lh h.lt
 have HB:=Lh hB
 have aA:w.heap.size∉bm::fb::(Fi++(Fl++Fs)):=fun e=>by have:=bV.out _ e;omega
 obtain ⟨h2,aZ⟩:=Kw (m':={ m with idle:=m.idle+1 }) h aE 8 (.int .i64 (m.idle+1)) rfl
 obtain ⟨W2,aF⟩:∃ W,W=WA.setCell ⟨bm,8,none⟩ (.int .i64 (m.idle+1)):=⟨_,rfl⟩
 rw [←aF] at h2 aZ
 have H2:=Lh h2
 have bN:=Lh aZ
 have hA:=h.keep aE
 have c8:=hA.cIdle
 have f8:=hA.frm 8
 have k0:=aB.out 0 _ rfl
 have k1:=aB.out 1 _ rfl
 have k2:=aB.out 2 _ rfl
 have k3:=aB.out 3 _ rfl
 have cS:¬w.heap.size=bm:=fun e=>aA (by simp [e])
 have cE:bm<w.heap.size:=h.lt bm (by simp)
 have cT:fb<w.heap.size:=h.lt fb (by simp)
 have aV:=Lh aE
 have bL:=Lh i0
 have bM:=Lh i1
 have bP:=Lh q4
 clear h hB bU hE aO h2 aZ hA i0 i1 q4 aE
 unfold Yw
 go_enter Tryz.func170,Tryz.ntmps170
 go_upto_region 1 with fail
 rw [←aK]
 clear aK
 go_upto_region 4 with fail
 rw [←aF]
 have bA:Hid (Below w.heap.size WA W2→True):=fun _=>trivial
 have k0:W2.cell? ⟨w.heap.size,0,none⟩=some (.slice fa fn fc):=by rw [aF];go_simp
 have k1:W2.cell? ⟨w.heap.size,1,none⟩=some (.int .i64 g):=by rw [aF];go_simp
 have k2:W2.cell? ⟨w.heap.size,2,none⟩=some (.slice (some ⟨b,o,none⟩) funcs.length gc):=by rw [aF];go_simp
 have k3:W2.cell? ⟨w.heap.size,3,none⟩=some (.pointer (some ⟨bm,0,none⟩)):=by rw [aF];go_simp
 have bZ:=Lh aF
 clear aF c8 f8 bA
 go_wp2_with fail
 refine (Kz fa (some ⟨b,o,none⟩) fn fc funcs.length gc g H2.out (by omega)).mono ?_
 rintro e w3 ⟨rfl,aH⟩
 have H3:=Lh (H2.out.keep aH)
 have aJ:=Lh (bN.out.trans (Xp.of_below aH))
 have cR:B≤w.heap.size:=Nat.le_of_lt (Nat.lt_of_le_of_lt (HB.out bm (by simp)) cE)
 have bH:∀ bb,bb<B→bb∉bm::fb::(Fi++(Fl++Fs)):=fun bb hb e=>by have:=HB.out bb e;omega
 have k0:=Xc aH k0
 have k1:=Xc aH k1
 have k2:=Xc aH k2
 have k3:=Xc aH k3
 have i0:=aJ.out.cell bL.out (bH _ aN)
 have i1:=aJ.out.cell bM.out (bH _ aN)
 have q4:=aJ.out.cell bP.out (bH _ cD)
 have bQ:=H3.out.cFn
 have bR:=H3.out.cPc
 rw [HK.out] at bQ
 rw [HP.out] at bR
 have cA:=H3.out.frf (fs.length*4+1)
 have bI:w.heap.size<w3.heap.size:=Bl k0
 have bE:fb<w3.heap.size:=by omega
 have bD:bm<w3.heap.size:=by omega
 have cU:(0:Int)≤(k:Int):=In _
 have cV:(k:Int)<(funcs.length:Int):=by omega
 have cW:(0:Int)≤(p:Int):=In _
 have cX:(p:Int)<(y.code.length:Int):=by omega
 have bK:=Bl i0
 have bC:=Bl q4
 clear aH
 go_wp2_with fail
 go_region
 go_upto_region 7 with fail
 obtain ⟨h4,bS⟩:=K9 H3.out ((p:Int)+1) ⟨by omega,by omega⟩
 obtain ⟨W4,aD⟩:∃ W,W=((w3.setCell ⟨fb,fs.length*4+1,none⟩ (.int .i64 ((p:Int)+1))).alloc (.cells #[.int .i64 aQ,.int .i64 xa] 124)).drew:=⟨_,rfl⟩
 have bB:Below (w3.setCell ⟨fb,fs.length*4+1,none⟩ (.int .i64 ((p:Int)+1))).heap.size (w3.setCell ⟨fb,fs.length*4+1,none⟩ (.int .i64 ((p:Int)+1))) W4:=by rw [aD];exact Xh (Xa _ _) 1
 have H4:=Lh (h4.keep bB)
 have bO:=Lh ((aJ.out.trans bS).trans (Xp.of_below bB))
 have d0:W4.cell? ⟨w3.heap.size,0,none⟩=some (.int .i64 aQ):=by rw [aD];go_simp
 have d1:W4.cell? ⟨w3.heap.size,1,none⟩=some (.int .i64 xa):=by rw [aD];go_simp
 have cH:¬w.heap.size=fb:=fun e=>aA (by simp [e])
 have k0:W4.cell? ⟨w.heap.size,0,none⟩=some (.slice fa fn fc):=by rw [aD];go_simp
 have k1:W4.cell? ⟨w.heap.size,1,none⟩=some (.int .i64 g):=by rw [aD];go_simp
 have k2:W4.cell? ⟨w.heap.size,2,none⟩=some (.slice (some ⟨b,o,none⟩) funcs.length gc):=by rw [aD];go_simp
 have k3:W4.cell? ⟨w.heap.size,3,none⟩=some (.pointer (some ⟨bm,0,none⟩)):=by rw [aD];go_simp
 have cF:w3.heap.size<W4.heap.size:=Bl d0
 have bT:w3.heap.size∉bm::fb::(Fi++(Fl++Fs)):=fun e=>by have:=bV.out _ e;omega
 have dC:=H.out.nodup
 rw [←aD]
 obtain ⟨ib,bG⟩:∃ ib,ib=w3.heap.size:=⟨_,rfl⟩
 rw [←bG]
 rw [←bG] at d0 d1 cF bT
 have cI:w.heap.size<W4.heap.size:=by omega
 have cG:w.heap.size<ib:=by omega
 have cP:=Lh aY.out
 clear aD bG H3 aJ H2 bN bZ bB h4 bS i0 i1 q4 bQ bR cA bE bD bK bC bI bL bM bP aB aV cC aY
 rcases aS.out with ⟨aM,l,u,aI,bJ,rfl⟩|⟨aM,l,u,aI,bJ,rfl⟩
 ·have aT:=Lh aM
  clear aM aS
  obtain rfl:aQ=6:=aT.out
  have aU:=Lh aI
  clear aI
  have aR:Hid (Xk W4.drew bm fb cap (cur.setIfInBounds (fs.length*4+1) (.int .i64 ((p:Int)+1))) cs fs { f with pc:=(p:Int)+1 } lv sv { m with idle:=m.idle+1 } Fi Fl Fs):=H4.out.keep (Xh Br 1)
  have aG:Hid (Xp (bm::fb::(Fi++(Fl++Fs))) (bm::fb::(Fi++(Fl++Fs))) w W4.drew):=bO.out.trans (Xp.of_below (Xh Br 1))
  go_upto_region 20 with fail
  go_region_with (first|(go_at_call 190;refine (Xbw fa (some ⟨b,o,none⟩) fn fc funcs.length gc g aR.out (by omega) l u aU.out bJ).mono ?_;rintro e w6 cB;obtain ⟨rfl,hF⟩|⟨rfl,aX,cN,bW,aP,aC⟩:(e=.returned (.int .i64 0)∧Hid False)∨Vg (X0 17) _ bm fb cap cs fs _ lv _ Fi Fl _ e w6:=.inr cB;rotate_left;(refine ⟨rfl,?_⟩;rw [HP.out];exact ⟨rfl,_,(aP.reframe _).own rfl,aG.out.trans aC⟩);have j0:w6.cell? ⟨w.heap.size,0,none⟩=some (.slice fa fn fc):=hF.out.elim;have j1:w6.cell? ⟨w.heap.size,1,none⟩=some (.int .i64 g):=hF.out.elim;have j2:w6.cell? ⟨w.heap.size,2,none⟩=some (.slice (some ⟨b,o,none⟩) funcs.length gc):=hF.out.elim;have j3:w6.cell? ⟨w.heap.size,3,none⟩=some (.pointer (some ⟨bm,0,none⟩)):=hF.out.elim;have j4:w6.cell? ⟨ib,1,none⟩=some (.int .i64 xa):=hF.out.elim)|(go_at_call 189;refine (show Calls Tryz.prog 189 _ _ (fun e _=>e=.returned (.tuple #[])) from hF.out.elim).mono ?_;rintro e w7 rfl))
  all_goals exact hF.out.elim
 ·have aT:=Lh aM
  clear aM aS
  obtain rfl:aQ=6:=aT.out
  have aU:=Lh aI
  clear aI
  have aR:Hid (Xk W4.drew bm fb cap (cur.setIfInBounds (fs.length*4+1) (.int .i64 ((p:Int)+1))) cs fs { f with pc:=(p:Int)+1 } lv sv { m with idle:=m.idle+1 } Fi Fl Fs):=H4.out.keep (Xh Br 1)
  have aG:Hid (Xp (bm::fb::(Fi++(Fl++Fs))) (bm::fb::(Fi++(Fl++Fs))) w W4.drew):=bO.out.trans (Xp.of_below (Xh Br 1))
  go_upto_region 20 with fail
  go_region_with (first|(go_at_call 190;refine (Xas fa (some ⟨b,o,none⟩) fn fc funcs.length gc g aR.out (by omega) l u aU.out bJ).mono ?_;rintro e w6 ⟨rfl,aX,cN,bW,aP,aC⟩;have j0:=aC.cell (show W4.drew.cell? _=_ from k0) aA;have j1:=aC.cell (show W4.drew.cell? _=_ from k1) aA;have j2:=aC.cell (show W4.drew.cell? _=_ from k2) aA;have j3:=aC.cell (show W4.drew.cell? _=_ from k3) aA;have j4:=aC.cell (show W4.drew.cell? _=_ from d1) bT;have bY:=Lh aP;have bX:=Lh (aG.out.trans aC);clear aP aC)|(go_at_call 189;refine (U5 fa (some ⟨b,o,none⟩) fn fc funcs.length gc g bm 1 u xa 0 0 _).mono ?_;rintro e w9 aI;obtain ⟨rfl,hF⟩|⟨rfl,hb9⟩:(e=.returned (.tuple #[])∧Hid False)∨Xec ⟨1,u,xa,0,0⟩ _ e w9:=.inr aI;rotate_left;(refine ⟨rfl,?_⟩;rw [HP.out];exact ⟨rfl,_,((bY.out.keep hb9).reframe _).own rfl,bX.out.trans (Xp.of_below hb9)⟩)))
  all_goals exact hF.out.elim
