import Derived.Test.YtiejafonjemioaaGreatDoorSgp
set_option maxHeartbeats 8000000
set_option maxRecDepth 100000
set_option linter.unusedVariables false
set_option linter.unusedSimpArgs false
open Go.Value renaming slice→σ
open Go.Obj renaming cells→χ
namespace Go.Proofs.YtiejafonjemioaaGreatDoor
open Go.RowKit
variable {w:World} {bm fb cap:Nat} {cur:Array Value} {cs:List Value} {fs:List Fra} {f:Fra} {lv sv:Value} {m:Mch} {Fi Fl Fs:List Nat}
theorem Xj6 (fa ga:Option Addr) (fn fc gn gc:Nat) (g:Int) (h:Xk w bm fb cap cur cs fs f lv sv m Fi Fl Fs) (hm:m.frames=fs++[f])
  (hid:100000<=m.idle/\m.idle<=100000) :
  Calls Tryz.prog 170 #[Yw (σ fa fn fc) (σ ga gn gc) g bm] w (Km w bm (bm::fb::(Fi++(Fl++Fs))) (.stop (X0 6) m)):=by
 have aA:=Xa w (χ #[σ fa fn fc,ι g,σ ga gn gc,.pointer (some (π bm 0))] 175)
 have hA:=h.keep aA
 have c8:=hA.cIdle
 have HA:=Lh hA
 have HM:=Lh hm
 have aC:=Lh aA
 clear hA h hm aA
 unfold Yw
 go_enter Tryz.func170,Tryz.ntmps170
 go_wp2_with fail
 refine (Jx fa ga fn fc gn gc g bm 6 _).mono ?_
 rintro e w5 ⟨rfl,aB⟩
 refine ⟨rfl,?_⟩
 exact ⟨rfl,_,(HA.o.keep aB).own HM.o,Xp.of_below (aC.o.then aB)⟩
theorem Kq (fa ga:Option Addr) (fn fc gc:Nat) (g:Int) (h:Xk w bm fb cap cur cs fs f lv sv m Fi Fl Fs) (hn:fs.length<200)
  (B:Nat) (hB:∀ b∈bm::fb::(Fi++(Fl++Fs)),B<=b) (funcs:List Fun) (hfl:funcs.length<=1000000) (hfs:Xf B w 5 (Zl B) (σ ga funcs.length gc) funcs) (k:Nat) (hk:f.fn=k) (y:Fun) (hy:funcs[k]?=some y) (p:Nat) (hp:f.pc=p) (x:Ins) (hx:y.code[p]?=some x) (hcl:y.code.length<=1000000)
  (hid:0<=m.idle/\m.idle<100000) (o:Out)
  (hcs:((x.op=1)/\(f.stack.length<1000000)/\o=.go { m with idle:=m.idle+1,frames:=fs++[{ f with pc:=f.pc+1,stack:=f.stack++[x.a] }] })\/((x.op=4)/\o=.stop ⟨1,0,x.a,0,0⟩ { m with idle:=m.idle+1,frames:=fs++[{ f with pc:=f.pc+1 }] })\/((x.op=8)/\o=.stop ⟨3,0,x.a,0,0⟩ { m with idle:=m.idle+1,frames:=fs++[{ f with pc:=f.pc+1 }] })\/((x.op=11)/\o=.go { m with idle:=m.idle+1,frames:=fs++[{ f with pc:=x.a }] })\/((x.op=5)/\∃ (l:List Int),∃ (v:Int),(f.stack=l++[v])/\o=.stop ⟨2,0,x.a,v,0⟩ { m with idle:=m.idle+1,frames:=fs++[{ f with pc:=f.pc+1,stack:=l }] })\/((x.op=30)/\∃ (l:List Int),∃ (v:Int),(f.stack=l++[v])/\o=.go { m with idle:=m.idle+1,frames:=fs++[{ f with pc:=f.pc+1,stack:=l }] })\/((x.op=12)/\∃ (l:List Int),∃ (v:Int),(f.stack=l++[v])/\(v≠0)/\o=.go { m with idle:=m.idle+1,frames:=fs++[{ f with pc:=f.pc+1,stack:=l }] })\/((x.op=12)/\∃ (l:List Int),(f.stack=l++[0])/\o=.go { m with idle:=m.idle+1,frames:=fs++[{ f with pc:=x.a,stack:=l }] })) :
  Calls Tryz.prog 170 #[Yw (σ fa fn fc) (σ ga funcs.length gc) g bm] w (Km w bm (bm::fb::(Fi++(Fl++Fs))) o):=by
 have aH:=Lh hcs
 clear hcs
 obtain ⟨aL,xa⟩:=x
 obtain ⟨a0,aV,bB,-,-,-,hE⟩:=id hfs
 rcases hE with h0|⟨b,o,rfl,-,-⟩
 ·rw [h0] at hy;simp at hy
 obtain ⟨rfl,rfl⟩:ga=some (π b o)/\gc=aV:=by simpa using bB
 clear bB
 refine (sgp fa b o fn fc gc g (Lh h) hn B (Lh hB) funcs hfl (Lh hfs) k (Lh hk) y hy p (Lh hp) aL xa hx hcl hid _).2 (Lh ?_)
 intro bV bL bY yb yo bG aG bW aB bP bO bQ bN bX bR bS bT bU K hK W4 H4 aM bI k0 k1 k2 k3 ib aP bA d1 d0 aR bH bM
 have HP:=Lh hp
 clear h hB hfs hk hp
 rcases aH.o with ⟨aC,bJ,rfl⟩|⟨aC,rfl⟩|⟨aC,rfl⟩|⟨aC,rfl⟩|⟨aC,l,v,aF,rfl⟩|⟨aC,l,v,aF,rfl⟩|⟨aC,l,v,aF,bK,rfl⟩|⟨aC,l,aF,rfl⟩
 ·have aD:=Lh aC
  clear aC aH
  obtain rfl:aL=1:=aD.o
  go_wp2_with fail
  refine (Qt fa (some (π b o)) fn fc funcs.length gc g H4.o ω xa aG bJ).mono ?_
  rintro e w5 ⟨rfl,aK,aT,aS,aE,aA⟩
  go_wp2_with fail
  go_end0
  rw [HP.o]
  exact ⟨rfl,_,(aE.reframe _).own rfl,aM.o.trans aA⟩
 ·have aD:=Lh aC
  clear aC aH
  obtain rfl:aL=4:=aD.o
  go_wp2_with fail
  refine (U5 fa (some (π b o)) fn fc funcs.length gc g bm 1 0 xa 0 0 _).mono ?_
  rintro e w5 ⟨rfl,aO⟩
  refine ⟨rfl,?_⟩
  rw [HP.o]
  exact ⟨rfl,_,((H4.o.keep aO).reframe _).own rfl,aM.o.trans (Xp.of_below aO)⟩
 ·have aD:=Lh aC
  clear aC aH
  obtain rfl:aL=8:=aD.o
  go_wp2_with fail
  refine (U5 fa (some (π b o)) fn fc funcs.length gc g bm 3 0 xa 0 0 _).mono ?_
  rintro e w5 ⟨rfl,aO⟩
  refine ⟨rfl,?_⟩
  rw [HP.o]
  exact ⟨rfl,_,((H4.o.keep aO).reframe _).own rfl,aM.o.trans (Xp.of_below aO)⟩
 ·have aD:=Lh aC
  clear aC aH
  obtain rfl:aL=11:=aD.o
  have bE:=H4.o.cPc
  have bF:=H4.o.frf (fs.length*4+1)
  obtain ⟨h5,aA⟩:=K9 H4.o xa aG
  have H5:=Lh h5
  have aI:=Lh (aM.o.trans aA)
  clear h5 aA
  go_wp2_with fail
  go_end0
  exact ⟨rfl,_,(H5.o.reframe _).own rfl,aI.o⟩
 ·have aD:=Lh aC
  clear aC aH
  obtain rfl:aL=5:=aD.o
  have aN:=Lh aF
  clear aF
  have bC:Hid (Xk W4.drew bm fb cap (cur.setIfInBounds (fs.length*4+1) (ι ((p:Int)+1))) cs fs { f with pc:=(p:Int)+1 } lv sv { m with idle:=m.idle+1 } Fi Fl Fs):=H4.o.keep (Xh Br 1)
  have aU:Hid (Xp (bm::fb::(Fi++(Fl++Fs))) (bm::fb::(Fi++(Fl++Fs))) w W4.drew):=aM.o.trans (Xp.of_below (Xh Br 1))
  go_upto_region 18 with fail
  go_region_with (first|(go_at_call 188;refine (X9 fa (some (π b o)) fn fc funcs.length gc g bC.o ω l v aN.o).mono ?_;rintro e w5 ⟨rfl,aK,aT,aS,aE,aA⟩;have j0:=aA.cell (show W4.drew.cell? _=_ from k0) aB;have j1:=aA.cell (show W4.drew.cell? _=_ from k1) aB;have j2:=aA.cell (show W4.drew.cell? _=_ from k2) aB;have j3:=aA.cell (show W4.drew.cell? _=_ from k3) aB;have j4:=aA.cell (show W4.drew.cell? _=_ from d1) aP;have aJ:=Lh aE;have aI:=Lh (aU.o.trans aA);clear aE aA)|(go_at_call 189;refine (U5 fa (some (π b o)) fn fc funcs.length gc g bm 2 0 xa v 0 _).mono ?_;rintro e w9 aF;obtain ⟨rfl,hF⟩|⟨rfl,hb9⟩:(e=.returned (.tuple #[])/\Hid False)\/Xec ⟨2,0,xa,v,0⟩ _ e w9:=.inr aF;rotate_left;(refine ⟨rfl,?_⟩;rw [HP.o];exact ⟨rfl,_,((aJ.o.keep hb9).reframe _).own rfl,aI.o.trans (Xp.of_below hb9)⟩)))
  all_goals exact hF.o.elim
 ·have aD:=Lh aC
  clear aC aH
  obtain rfl:aL=30:=aD.o
  have aN:=Lh aF
  clear aF
  go_wp2_with fail
  refine (X9 fa (some (π b o)) fn fc funcs.length gc g H4.o ω l v aN.o).mono ?_
  rintro e w5 ⟨rfl,aK,aT,aS,aE,aA⟩
  have aJ:=Lh aE
  have aI:=Lh (aM.o.trans aA)
  clear aE aA
  go_wp2_with fail
  go_end0
  rw [HP.o]
  exact ⟨rfl,_,(aJ.o.reframe _).own rfl,aI.o⟩
 ·have aD:=Lh aC
  clear aC aH
  obtain rfl:aL=12:=aD.o
  have aN:=Lh aF
  clear aF
  go_wp2_with fail
  refine (X9 fa (some (π b o)) fn fc funcs.length gc g H4.o ω l v aN.o).mono ?_
  rintro e w5 ⟨rfl,aK,aT,aS,aE,aA⟩
  have k0:=aA.cell k0 aB
  have k1:=aA.cell k1 aB
  have k2:=aA.cell k2 aB
  have k3:=aA.cell k3 aB
  have d1:=aA.cell d1 aP
  have aQ:=aA.notin aR aB
  have aW:=aA.notin bA aP
  have aY:w.heap.size<w5.heap.size:=Bl k0
  have aX:ib<w5.heap.size:=Bl d1
  have aJ:=Lh aE
  have aI:=Lh (aM.o.trans aA)
  clear aE aA
  have bZ:¬v=0:=bK
  go_wp2_with fail
  go_end0
  rw [HP.o]
  exact ⟨rfl,_,(aJ.o.reframe _).own rfl,aI.o⟩
 ·have aD:=Lh aC
  clear aC aH
  obtain rfl:aL=12:=aD.o
  have aN:=Lh aF
  clear aF
  go_wp2_with fail
  refine (X9 fa (some (π b o)) fn fc funcs.length gc g H4.o ω l 0 aN.o).mono ?_
  rintro e w5 ⟨rfl,aK,aT,aS,aE,aA⟩
  have k0:=aA.cell k0 aB
  have k1:=aA.cell k1 aB
  have k2:=aA.cell k2 aB
  have k3:=aA.cell k3 aB
  have d1:=aA.cell d1 aP
  have aQ:=aA.notin aR aB
  have aW:=aA.notin bA aP
  have aY:w.heap.size<w5.heap.size:=Bl k0
  have aX:ib<w5.heap.size:=Bl d1
  have aJ:=Lh aE
  have aI:=Lh (aM.o.trans aA)
  clear aE aA
  have bE:=aJ.o.cPc
  have bF:=aJ.o.frf (fs.length*4+1)
  obtain ⟨h6,aZ⟩:=K9 aJ.o xa aG
  have H6:=Lh h6
  have bD:=Lh (aI.o.trans aZ)
  clear h6 aZ
  go_wp2_with fail
  go_end0
  exact ⟨rfl,_,(H6.o.reframe _).own rfl,bD.o⟩
