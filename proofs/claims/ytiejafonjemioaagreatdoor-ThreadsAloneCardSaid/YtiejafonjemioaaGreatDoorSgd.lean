import Derived.Test.YtiejafonjemioaaGreatDoorStep0
import Derived.Deep.RegionHeld3
import Derived.Deep.RegionWith
set_option maxHeartbeats 8000000
set_option maxRecDepth 100000
set_option linter.unusedVariables false
set_option linter.unusedSimpArgs false
namespace Go.Proofs.YtiejafonjemioaaGreatDoor
open Go.RowKit
variable {op a b:Int} {w w':World} {bm fb cap:Nat} {cs:List Value} {fs:List Fra} {f':Fra} {lv:Value} {m:Mch} {Fi Fl F:List Nat} {e:Ending}
theorem Zv.ok (h:Zv op a b w bm fb cap cs fs f' lv m Fi Fl F e w') (h0:Yb op a b=0) :
  e=.returned (.int .i64 (Qk op a b))∧Yz w bm fb cap cs fs f' lv { m with compares:=m.compares+Zk op } Fi Fl F w':=by
 rcases h with ⟨_,h1,h2⟩|⟨h1,_⟩
 ·exact ⟨h1,h2⟩
 ·exact absurd h0 h1
theorem Zv.no (h:Zv op a b w bm fb cap cs fs f' lv m Fi Fl F e w') (h0:¬Yb op a b=0) :
  Vg (X0 (Yb op a b)) w bm fb cap cs fs f' lv { m with compares:=m.compares+Zk op } Fi Fl F e w':=by
 rcases h with ⟨h1,_⟩|⟨_,h1⟩
 ·exact absurd h1 h0
 ·exact h1
theorem Xgt {cur:Array Value} {f:Fra} {sv:Value} {Fs:List Nat} (fa ga:Option Addr) (fn fc gc:Nat) (g:Int) (h:Xk w bm fb cap cur cs fs f lv sv m Fi Fl Fs) (hn:fs.length<200)
  (B:Nat) (hB:∀ b∈bm::fb::(Fi++(Fl++Fs)),B≤b) (funcs:List Fun) (hfl:funcs.length≤1000000) (hfs:Xf B w 5 (Zl B) (.slice ga funcs.length gc) funcs) (k:Nat) (hk:f.fn=k) (y:Fun) (hy:funcs[k]?=some y) (p:Nat) (hp:f.pc=p) (x:Ins) (hx:y.code[p]?=some x) (hcl:y.code.length≤1000000)
  (hid:0≤m.idle∧m.idle<100000) (o:Out)
  (hcs:((Ya x.op)∧(f.stack.length<1000000)∧∃ (l:List Int),∃ (u v:Int),(f.stack=l++[u]++[v])∧(-1099511627776≤u∧u≤1099511627776)∧(-1099511627776≤v∧v≤1099511627776)∧(-1≤m.compares∧m.compares≤4611686018427387904)∧(Yb x.op u v=0)∧(in64 (Qk x.op u v))∧o=.go { m with idle:=m.idle+1,compares:=m.compares+Zk x.op,frames:=fs++[{ f with pc:=f.pc+1,stack:=l++[Qk x.op u v] }] })∨((Ya x.op)∧(f.stack.length<1000000)∧∃ (l:List Int),∃ (u v:Int),(f.stack=l++[u]++[v])∧(-1099511627776≤u∧u≤1099511627776)∧(-1099511627776≤v∧v≤1099511627776)∧(-1≤m.compares∧m.compares≤4611686018427387904)∧(¬Yb x.op u v=0)∧o=.stop (X0 (Yb x.op u v)) { m with idle:=m.idle+1,compares:=m.compares+Zk x.op,frames:=fs++[{ f with pc:=f.pc+1,stack:=l }] })) :
  Calls Tryz.prog 170 #[Yw (.slice fa fn fc) (.slice ga funcs.length gc) g bm] w (Km w bm (bm::fb::(Fi++(Fl++Fs))) o):=by
 have aV:=Lh hcs
 clear hcs
 have dG:=Lh hfs
 have HK:=Lh hk
 have HP:=Lh hp
 clear hk hp
 obtain ⟨a0,aX,cF,dP,dQ,dR,hE⟩:=hfs
 obtain ⟨rfl,rfl⟩:ga=a0∧gc=aX:=by simpa using cF
 have dO:k<funcs.length:=(Ll hy)
 rcases hE with h0|⟨b,o,rfl,cP,hE⟩
 ·rw [h0] at hy;simp at hy
 have aZ:=Lh (hE k y hy)
 obtain ⟨yv,q4,cU⟩:=aZ.out.2.2.2.2.1
 obtain ⟨ya,dE,rfl,cV,cW,cX,aS⟩:=cU
 have dT:p<y.code.length:=(Ll hx)
 rcases aS with h0|⟨yb,yo,rfl,aR,aS⟩
 ·rw [h0] at hx;simp at hx
 obtain ⟨i0,i1,bG,aO⟩:=aS p x hx
 obtain ⟨aA,xa⟩:=x
 dsimp only at i0 i1 bG aO
 obtain ⟨WA,aM⟩:∃ W,W=w.alloc (.cells #[.slice fa fn fc,.int .i64 g,.slice (some ⟨b,o,none⟩) funcs.length gc,.pointer (some ⟨bm,0,none⟩)] 175):=⟨_,rfl⟩
 have aD:Hid (Xo WA w.heap.size [.slice fa fn fc,.int .i64 g,.slice (some ⟨b,o,none⟩) funcs.length gc,.pointer (some ⟨bm,0,none⟩)]):=by rw [aM];exact Xd
 have aG:Below w.heap.size w WA:=by rw [aM];exact Xa w _
 have cO:WA.heap.size=w.heap.size+1:=by rw [aM];simp
 have H:=Lh h
 have cH:=Lh h.lt
 have HB:=Lh hB
 have aB:w.heap.size∉bm::fb::(Fi++(Fl++Fs)):=fun e=>by have:=cH.out _ e;omega
 obtain ⟨h2,bA⟩:=Kw (m':={ m with idle:=m.idle+1 }) h aG 8 (.int .i64 (m.idle+1)) rfl
 obtain ⟨W2,aH⟩:∃ W,W=WA.setCell ⟨bm,8,none⟩ (.int .i64 (m.idle+1)):=⟨_,rfl⟩
 rw [←aH] at h2 bA
 have H2:=Lh h2
 have bY:=Lh bA
 have hA:=h.keep aG
 have c8:=hA.cIdle
 have f8:=hA.frm 8
 have k0:=aD.out 0 _ rfl
 have k1:=aD.out 1 _ rfl
 have k2:=aD.out 2 _ rfl
 have k3:=aD.out 3 _ rfl
 have dI:¬w.heap.size=bm:=fun e=>aB (by simp [e])
 have cQ:bm<w.heap.size:=h.lt bm (by simp)
 have dJ:fb<w.heap.size:=h.lt fb (by simp)
 have aW:=Lh aG
 have bW:=Lh i0
 have bX:=Lh i1
 have cA:=Lh q4
 clear h hB cF hE aS h2 bA hA i0 i1 q4 aG
 unfold Yw
 go_enter Tryz.func170,Tryz.ntmps170
 go_upto_region 1 with fail
 rw [←aM]
 clear aM
 go_upto_region 4 with fail
 rw [←aH]
 have bB:Hid (Below w.heap.size WA W2→True):=fun _=>trivial
 have k0:W2.cell? ⟨w.heap.size,0,none⟩=some (.slice fa fn fc):=by rw [aH];go_simp
 have k1:W2.cell? ⟨w.heap.size,1,none⟩=some (.int .i64 g):=by rw [aH];go_simp
 have k2:W2.cell? ⟨w.heap.size,2,none⟩=some (.slice (some ⟨b,o,none⟩) funcs.length gc):=by rw [aH];go_simp
 have k3:W2.cell? ⟨w.heap.size,3,none⟩=some (.pointer (some ⟨bm,0,none⟩)):=by rw [aH];go_simp
 have cM:=Lh aH
 clear aH c8 f8 bB
 go_wp2_with fail
 refine (Kz fa (some ⟨b,o,none⟩) fn fc funcs.length gc g H2.out (by omega)).mono ?_
 rintro e w3 ⟨rfl,aJ⟩
 have H3:=Lh (H2.out.keep aJ)
 have aK:=Lh (bY.out.trans (Xp.of_below aJ))
 have dH:B≤w.heap.size:=Nat.le_of_lt (Nat.lt_of_le_of_lt (HB.out bm (by simp)) cQ)
 have bI:∀ bb,bb<B→bb∉bm::fb::(Fi++(Fl++Fs)):=fun bb hb e=>by have:=HB.out bb e;omega
 have k0:=Xc aJ k0
 have k1:=Xc aJ k1
 have k2:=Xc aJ k2
 have k3:=Xc aJ k3
 have i0:=aK.out.cell bW.out (bI _ aR)
 have i1:=aK.out.cell bX.out (bI _ aR)
 have q4:=aK.out.cell cA.out (bI _ cP)
 have cB:=H3.out.cFn
 have cC:=H3.out.cPc
 rw [HK.out] at cB
 rw [HP.out] at cC
 have cN:=H3.out.frf (fs.length*4+1)
 have bK:w.heap.size<w3.heap.size:=Bl k0
 have bF:fb<w3.heap.size:=by omega
 have bE:bm<w3.heap.size:=by omega
 have dK:(0:Int)≤(k:Int):=In _
 have dL:(k:Int)<(funcs.length:Int):=by omega
 have dM:(0:Int)≤(p:Int):=In _
 have dN:(p:Int)<(y.code.length:Int):=by omega
 have bM:=Bl i0
 have bD:=Bl q4
 clear aJ
 go_wp2_with fail
 go_region
 go_upto_region 7 with fail
 obtain ⟨h4,cD⟩:=K9 H3.out ((p:Int)+1) ⟨by omega,by omega⟩
 obtain ⟨W4,aF⟩:∃ W,W=((w3.setCell ⟨fb,fs.length*4+1,none⟩ (.int .i64 ((p:Int)+1))).alloc (.cells #[.int .i64 aA,.int .i64 xa] 124)).drew:=⟨_,rfl⟩
 have bC:Below (w3.setCell ⟨fb,fs.length*4+1,none⟩ (.int .i64 ((p:Int)+1))).heap.size (w3.setCell ⟨fb,fs.length*4+1,none⟩ (.int .i64 ((p:Int)+1))) W4:=by rw [aF];exact Xh (Xa _ _) 1
 have H4:=Lh (h4.keep bC)
 have bZ:=Lh ((aK.out.trans cD).trans (Xp.of_below bC))
 have d0:W4.cell? ⟨w3.heap.size,0,none⟩=some (.int .i64 aA):=by rw [aF];go_simp
 have d1:W4.cell? ⟨w3.heap.size,1,none⟩=some (.int .i64 xa):=by rw [aF];go_simp
 have cS:¬w.heap.size=fb:=fun e=>aB (by simp [e])
 have k0:W4.cell? ⟨w.heap.size,0,none⟩=some (.slice fa fn fc):=by rw [aF];go_simp
 have k1:W4.cell? ⟨w.heap.size,1,none⟩=some (.int .i64 g):=by rw [aF];go_simp
 have k2:W4.cell? ⟨w.heap.size,2,none⟩=some (.slice (some ⟨b,o,none⟩) funcs.length gc):=by rw [aF];go_simp
 have k3:W4.cell? ⟨w.heap.size,3,none⟩=some (.pointer (some ⟨bm,0,none⟩)):=by rw [aF];go_simp
 have cE:w3.heap.size<W4.heap.size:=Bl d0
 have aT:w3.heap.size∉bm::fb::(Fi++(Fl++Fs)):=fun e=>by have:=cH.out _ e;omega
 have dS:=H.out.nodup
 rw [←aF]
 obtain ⟨ib,bH⟩:∃ ib,ib=w3.heap.size:=⟨_,rfl⟩
 rw [←bH]
 rw [←bH] at d0 d1 cE aT
 have bL:w.heap.size<W4.heap.size:=by omega
 have cR:w.heap.size<ib:=by omega
 have dF:=Lh aZ.out
 clear aF bH H3 aK H2 bY cM bC h4 cD i0 i1 q4 cB cC cN bF bE bM bD bK bW bX cA aD aW cO aZ
 rcases aV.out with ⟨aP,cT,l,u,v,aQ,hu,hv,hc,hE,hr,rfl⟩|⟨aP,cT,l,u,v,aQ,hu,hv,hc,hE,rfl⟩
 ·have H_hst:=Lh aQ
  have H_hE:=Lh hE
  have H_hr:=Lh hr
  clear aQ hE hr
  have aL:=Lh aP
  clear aP aV
  have aE:=aL.out
  unfold Ya at aE
  have cY:¬aA=1:=by omega
  have ne2:¬aA=2:=by omega
  have ne3:¬aA=3:=by omega
  have ne4:¬aA=4:=by omega
  have cZ:¬aA=5:=by omega
  have dA:¬aA=6:=by omega
  have dB:¬aA=7:=by omega
  have dC:¬aA=8:=by omega
  have dD:¬aA=9:=by omega
  have bN:¬aA=10:=by omega
  have bO:¬aA=11:=by omega
  have bP:¬aA=12:=by omega
  have bQ:¬aA=13:=by omega
  have bR:¬aA=14:=by omega
  have bS:¬aA=26:=by omega
  have bT:¬aA=29:=by omega
  have bU:¬aA=30:=by omega
  have bV:¬aA=31:=by omega
  clear aE
  have cG:l.length<1000000:=by have:=congrArg List.length H_hst.out;simp at this;omega
  have aU:Hid (Xk W4.drew bm fb cap (cur.setIfInBounds (fs.length*4+1) (.int .i64 ((p:Int)+1))) cs fs { f with pc:=(p:Int)+1 } lv sv { m with idle:=m.idle+1 } Fi Fl Fs):=H4.out.keep (Xh Br 1)
  have aI:Hid (Xp (bm::fb::(Fi++(Fl++Fs))) (bm::fb::(Fi++(Fl++Fs))) w W4.drew):=bZ.out.trans (Xp.of_below (Xh Br 1))
  go_upto_region 8 with fail
  have bJ:=H_hr.out
  go_region_held3 (fun W=>W.cell? ⟨w.heap.size,0,none⟩=some (.slice fa fn fc)∧W.cell? ⟨w.heap.size,1,none⟩=some (.int .i64 g)∧W.cell? ⟨w.heap.size,2,none⟩=some (.slice (some ⟨b,o,none⟩) funcs.length gc)∧W.cell? ⟨w.heap.size,3,none⟩=some (.pointer (some ⟨bm,0,none⟩))∧W.cell? ⟨ib,1,none⟩=some (.int .i64 xa)∧W.cell? ⟨ib,0,none⟩=some (.int .i64 aA))
   (first|exact ⟨k0,k1,k2,k3,d1,d0⟩|exact ⟨p0,p1,p2,p3,p4,p5⟩|exact ⟨j0,j1,j2,j3,j4,j5⟩)
   (first|(go_at_call 196;refine (Xdf aA aL.out fa (some ⟨b,o,none⟩) fn fc funcs.length gc g aU.out (by omega) l u v H_hst.out hu hv hc).mono ?_;rintro e w5 aY;obtain ⟨rfl,cur5,sv5,Fs5,hT5,hM5⟩:=aY.ok H_hE.out;have j0:=hM5.cell (show W4.drew.cell? _=_ from k0) aB;have j1:=hM5.cell (show W4.drew.cell? _=_ from k1) aB;have j2:=hM5.cell (show W4.drew.cell? _=_ from k2) aB;have j3:=hM5.cell (show W4.drew.cell? _=_ from k3) aB;have j4:=hM5.cell (show W4.drew.cell? _=_ from d1) aT;have j5:=hM5.cell (show W4.drew.cell? _=_ from d0) aT;have aC:=hM5.notin (by exact bL) aB;have aN:=hM5.notin (by exact cE) aT;have cK:=Lh hT5;have cI:=Lh (aI.out.trans hM5);clear hT5 hM5)|(go_at_call 144;refine (Qt fa (some ⟨b,o,none⟩) fn fc funcs.length gc g cK.out (by omega) (Qk aA u v) ?_ ?_).mono ?_;(exact bJ);(exact cG);rintro e w7 ⟨rfl,cur7,sv7,Fs7,hT7,hM7⟩;have p0:=hM7.cell j0 aC;have p1:=hM7.cell j1 aC;have p2:=hM7.cell j2 aC;have p3:=hM7.cell j3 aC;have p4:=hM7.cell j4 aN;have p5:=hM7.cell j5 aN;have cL:=Lh hT7;have cJ:=Lh (cI.out.trans hM7);clear hT7 hM7))
  go_wp2_with fail
  go_end0
  rw [HP.out]
  exact ⟨rfl,_,(cL.out.reframe _).own rfl,cJ.out⟩
 ·have H_hst:=Lh aQ
  have H_hE:=Lh hE
  clear aQ hE
  have aL:=Lh aP
  clear aP aV
  have aE:=aL.out
  unfold Ya at aE
  have cY:¬aA=1:=by omega
  have ne2:¬aA=2:=by omega
  have ne3:¬aA=3:=by omega
  have ne4:¬aA=4:=by omega
  have cZ:¬aA=5:=by omega
  have dA:¬aA=6:=by omega
  have dB:¬aA=7:=by omega
  have dC:¬aA=8:=by omega
  have dD:¬aA=9:=by omega
  have bN:¬aA=10:=by omega
  have bO:¬aA=11:=by omega
  have bP:¬aA=12:=by omega
  have bQ:¬aA=13:=by omega
  have bR:¬aA=14:=by omega
  have bS:¬aA=26:=by omega
  have bT:¬aA=29:=by omega
  have bU:¬aA=30:=by omega
  have bV:¬aA=31:=by omega
  clear aE
  have cG:l.length<1000000:=by have:=congrArg List.length H_hst.out;simp at this;omega
  have aU:Hid (Xk W4.drew bm fb cap (cur.setIfInBounds (fs.length*4+1) (.int .i64 ((p:Int)+1))) cs fs { f with pc:=(p:Int)+1 } lv sv { m with idle:=m.idle+1 } Fi Fl Fs):=H4.out.keep (Xh Br 1)
  have aI:Hid (Xp (bm::fb::(Fi++(Fl++Fs))) (bm::fb::(Fi++(Fl++Fs))) w W4.drew):=bZ.out.trans (Xp.of_below (Xh Br 1))
  go_upto_region 8 with fail
  go_region_with (first|(go_at_call 196;refine (Xdf aA aL.out fa (some ⟨b,o,none⟩) fn fc funcs.length gc g aU.out (by omega) l u v H_hst.out hu hv hc).mono ?_;rintro e w5 aY;obtain ⟨rfl,hF⟩|⟨rfl,cur5,sv5,Fs5,hT5,hM5⟩:(e=.returned (.int .i64 0)∧Hid False)∨Vg (X0 (Yb aA u v)) _ bm fb cap cs fs _ lv _ Fi Fl _ e w5:=.inr (aY.no H_hE.out);rotate_left;(refine ⟨rfl,?_⟩;rw [HP.out];exact ⟨rfl,_,(hT5.reframe _).own rfl,aI.out.trans hM5⟩);have j0:w5.cell? ⟨w.heap.size,0,none⟩=some (.slice fa fn fc):=hF.out.elim;have j1:w5.cell? ⟨w.heap.size,1,none⟩=some (.int .i64 g):=hF.out.elim;have j2:w5.cell? ⟨w.heap.size,2,none⟩=some (.slice (some ⟨b,o,none⟩) funcs.length gc):=hF.out.elim;have j3:w5.cell? ⟨w.heap.size,3,none⟩=some (.pointer (some ⟨bm,0,none⟩)):=hF.out.elim)|(go_at_call 144;refine (show Calls Tryz.prog 144 _ _ (fun e _=>e=.returned (.tuple #[])) from hF.out.elim).mono ?_;rintro e w6 rfl))
  all_goals exact hF.out.elim
