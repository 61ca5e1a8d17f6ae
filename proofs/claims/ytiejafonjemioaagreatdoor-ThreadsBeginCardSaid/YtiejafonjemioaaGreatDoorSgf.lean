import Derived.Test.YtiejafonjemioaaGreatDoorSgp
set_option maxHeartbeats 8000000
set_option maxRecDepth 100000
set_option linter.unusedVariables false
set_option linter.unusedSimpArgs false
open Go.Value renaming slice→σ
open Go.Obj renaming cells→χ
namespace Go.Proofs.YtiejafonjemioaaGreatDoor
open Go.RowKit
theorem Xia {w:World} {bm fb cap:Nat} {cur:Array Value} {cs:List Value} {fs:List Fra} {f:Fra} {lv sv:Value} {m:Mch} {Fi Fl Fs:List Nat} (fa ga:Option Addr) (fn fc gc:Nat) (g:Int) (h:Xk w bm fb cap cur cs fs f lv sv m Fi Fl Fs) (hn:fs.length<200)
  (B:Nat) (hB:∀ b∈bm::fb::(Fi++(Fl++Fs)),B<=b) (funcs:List Fun) (hfl:funcs.length<=1000000) (hfs:Xf B w 5 (Zl B) (σ ga funcs.length gc) funcs) (k:Nat) (hk:f.fn=k) (y:Fun) (hy:funcs[k]?=some y) (p:Nat) (hp:f.pc=p) (x:Ins) (hx:y.code[p]?=some x) (hcl:y.code.length<=1000000)
  (hid:0<=m.idle/\m.idle<100000) (o:Out)
  (hcs:((x.op=7)/\∃ (l:List Int),∃ (u v:Int),(f.stack=l++[u]++[v])/\(u<1)/\o=.stop (X0 17) { m with idle:=m.idle+1,frames:=fs++[{ f with pc:=f.pc+1,stack:=l }] })\/((x.op=7)/\∃ (l:List Int),∃ (u v:Int),(f.stack=l++[u]++[v])/\(1<=u)/\o=.stop ⟨2,u,x.a,v,0⟩ { m with idle:=m.idle+1,frames:=fs++[{ f with pc:=f.pc+1,stack:=l }] })) :
  Calls Tryz.prog 170 #[Yw (σ fa fn fc) (σ ga funcs.length gc) g bm] w (Km w bm (bm::fb::(Fi++(Fl++Fs))) o):=by
 have aP:=Lh hcs
 clear hcs
 obtain ⟨bA,xa⟩:=x
 obtain ⟨a0,aU,bD,-,-,-,hE⟩:=id hfs
 rcases hE with h0|⟨b,o,rfl,-,-⟩
 ·rw [h0] at hy;simp at hy
 obtain ⟨rfl,rfl⟩:ga=some (π b o)/\gc=aU:=by simpa using bD
 clear bD
 refine (sgp fa b o fn fc gc g (Lh h) hn B (Lh hB) funcs hfl (Lh hfs) k (Lh hk) y hy p (Lh hp) bA xa hx hcl hid _).2 (Lh ?_)
 intro bX bN cA yb yo bJ bE bY aA bR bQ bS bP bZ bT bU bV bW K hK W4 H4 bB bL k0 k1 k2 k3 ib aN bC d1 d0 aL bK bO
 have HP:=Lh hp
 clear h hB hfs hk hp
 rcases aP.o with ⟨aK,l,u,v,aG,aY,rfl⟩|⟨aK,l,u,v,aG,aY,rfl⟩
 ·have aR:=Lh aK
  clear aK aP
  obtain rfl:bA=7:=aR.o
  have aS:=Lh aG
  clear aG
  go_wp2_with fail
  refine (X9 fa (some (π b o)) fn fc funcs.length gc g H4.o ω (l++[u]) v aS.o).mono ?_
  rintro e w5 ⟨rfl,aF,aZ,aH,aI,aB⟩
  have k0:=aB.cell k0 aA
  have k1:=aB.cell k1 aA
  have k2:=aB.cell k2 aA
  have k3:=aB.cell k3 aA
  have d1:=aB.cell d1 aN
  have aC:=aB.notin aL aA
  have aJ:=aB.notin bC aN
  have aX:w.heap.size<w5.heap.size:=Bl k0
  have aW:ib<w5.heap.size:=Bl d1
  have aT:=Lh aI
  have aQ:=Lh (bB.o.trans aB)
  clear aI aB
  have aO:Hid (Xk w5.drew bm fb cap aF cs fs _ lv aZ _ Fi Fl aH):=aT.o.keep (Xh Br 1)
  have aE:Hid (Xp (bm::fb::(Fi++(Fl++Fs))) (bm::fb::(Fi++(Fl++aH))) w w5.drew):=aQ.o.trans (Xp.of_below (Xh Br 1))
  go_upto_region 23 with fail
  go_region_with (first|(go_at_call 190;refine (Xbw fa (some (π b o)) fn fc funcs.length gc g aO.o ω l u rfl aY).mono ?_;rintro e w6 bI;obtain ⟨rfl,hF⟩|⟨rfl,aV,bM,bF,aM,aD⟩:(e=.returned (ι 0)/\Hid False)\/Vg (X0 17) _ bm fb cap cs fs _ lv _ Fi Fl _ e w6:=.inr bI;rotate_left;(refine ⟨rfl,?_⟩;rw [HP.o];exact ⟨rfl,_,(aM.reframe _).own rfl,aE.o.trans aD⟩);have j0:w6.cell? (π w.heap.size 0)=some (σ fa fn fc):=hF.o.elim;have j1:w6.cell? (π w.heap.size 1)=some (ι g):=hF.o.elim;have j2:w6.cell? (π w.heap.size 2)=some (σ (some (π b o)) funcs.length gc):=hF.o.elim;have j3:w6.cell? (π w.heap.size 3)=some (.pointer (some (π bm 0))):=hF.o.elim;have j4:w6.cell? (π ib 1)=some (ι xa):=hF.o.elim)|(go_at_call 189;refine (show Calls Tryz.prog 189 _ _ (fun e _=>e=.returned (.tuple #[])) from hF.o.elim).mono ?_;rintro e w7 rfl))
  all_goals exact hF.o.elim
 ·have aR:=Lh aK
  clear aK aP
  obtain rfl:bA=7:=aR.o
  have aS:=Lh aG
  clear aG
  go_wp2_with fail
  refine (X9 fa (some (π b o)) fn fc funcs.length gc g H4.o ω (l++[u]) v aS.o).mono ?_
  rintro e w5 ⟨rfl,aF,aZ,aH,aI,aB⟩
  have k0:=aB.cell k0 aA
  have k1:=aB.cell k1 aA
  have k2:=aB.cell k2 aA
  have k3:=aB.cell k3 aA
  have d1:=aB.cell d1 aN
  have aC:=aB.notin aL aA
  have aJ:=aB.notin bC aN
  have aX:w.heap.size<w5.heap.size:=Bl k0
  have aW:ib<w5.heap.size:=Bl d1
  have aT:=Lh aI
  have aQ:=Lh (bB.o.trans aB)
  clear aI aB
  have aO:Hid (Xk w5.drew bm fb cap aF cs fs _ lv aZ _ Fi Fl aH):=aT.o.keep (Xh Br 1)
  have aE:Hid (Xp (bm::fb::(Fi++(Fl++Fs))) (bm::fb::(Fi++(Fl++aH))) w w5.drew):=aQ.o.trans (Xp.of_below (Xh Br 1))
  go_upto_region 23 with fail
  go_region_with (first|(go_at_call 190;refine (Xas fa (some (π b o)) fn fc funcs.length gc g aO.o ω l u rfl aY).mono ?_;rintro e w6 ⟨rfl,aV,bM,bF,aM,aD⟩;have j0:=aD.cell (show w5.drew.cell? _=_ from k0) aC;have j1:=aD.cell (show w5.drew.cell? _=_ from k1) aC;have j2:=aD.cell (show w5.drew.cell? _=_ from k2) aC;have j3:=aD.cell (show w5.drew.cell? _=_ from k3) aC;have j4:=aD.cell (show w5.drew.cell? _=_ from d1) aJ;have bH:=Lh aM;have bG:=Lh (aE.o.trans aD);clear aM aD)|(go_at_call 189;refine (U5 fa (some (π b o)) fn fc funcs.length gc g bm 2 u xa v 0 _).mono ?_;rintro e w9 aG;obtain ⟨rfl,hF⟩|⟨rfl,hb9⟩:(e=.returned (.tuple #[])/\Hid False)\/Xec ⟨2,u,xa,v,0⟩ _ e w9:=.inr aG;rotate_left;(refine ⟨rfl,?_⟩;rw [HP.o];exact ⟨rfl,_,((bH.o.keep hb9).reframe _).own rfl,bG.o.trans (Xp.of_below hb9)⟩)))
  all_goals exact hF.o.elim
