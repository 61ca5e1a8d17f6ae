import Derived.Test.YtiejafonjemioaaGreatDoorSgp
set_option maxHeartbeats 8000000
set_option maxRecDepth 100000
set_option linter.unusedVariables false
set_option linter.unusedSimpArgs false
open Go.Value renaming slice→σ
open Go.Obj renaming cells→χ
namespace Go.Proofs.YtiejafonjemioaaGreatDoor
open Go.RowKit
theorem Xhm {w:World} {bm fb cap:Nat} {cur:Array Value} {cs:List Value} {fs:List Fra} {f:Fra} {lv sv:Value} {m:Mch} {Fi Fl Fs:List Nat} (fa ga:Option Addr) (fn fc gc:Nat) (g:Int) (h:Xk w bm fb cap cur cs fs f lv sv m Fi Fl Fs) (hn:fs.length<200)
  (B:Nat) (hB:∀ b∈bm::fb::(Fi++(Fl++Fs)),B<=b) (funcs:List Fun) (hfl:funcs.length<=1000000) (hfs:Xf B w 5 (Zl B) (σ ga funcs.length gc) funcs) (k:Nat) (hk:f.fn=k) (y:Fun) (hy:funcs[k]?=some y) (p:Nat) (hp:f.pc=p) (x:Ins) (hx:y.code[p]?=some x) (hcl:y.code.length<=1000000)
  (hid:0<=m.idle/\m.idle<100000) (o:Out)
  (hcs:((x.op=6)/\∃ (l:List Int),∃ (u:Int),(f.stack=l++[u])/\(u<1)/\o=.stop (X0 17) { m with idle:=m.idle+1,frames:=fs++[{ f with pc:=f.pc+1,stack:=l }] })\/((x.op=6)/\∃ (l:List Int),∃ (u:Int),(f.stack=l++[u])/\(1<=u)/\o=.stop ⟨1,u,x.a,0,0⟩ { m with idle:=m.idle+1,frames:=fs++[{ f with pc:=f.pc+1,stack:=l }] })) :
  Calls Tryz.prog 170 #[Yw (σ fa fn fc) (σ ga funcs.length gc) g bm] w (Km w bm (bm::fb::(Fi++(Fl++Fs))) o):=by
 have aH:=Lh hcs
 clear hcs
 obtain ⟨aN,xa⟩:=x
 obtain ⟨a0,aK,aP,-,-,-,hE⟩:=id hfs
 rcases hE with h0|⟨b,o,rfl,-,-⟩
 ·rw [h0] at hy;simp at hy
 obtain ⟨rfl,rfl⟩:ga=some (π b o)/\gc=aK:=by simpa using aP
 clear aP
 refine (sgp fa b o fn fc gc g (Lh h) hn B (Lh hB) funcs hfl (Lh hfs) k (Lh hk) y hy p (Lh hp) aN xa hx hcl hid _).2 (Lh ?_)
 intro bM bB bP yb yo aW aQ bN aB bF bE bH bD bO bI bJ bK bL K hK W4 H4 aO aY k0 k1 k2 k3 ib aV bG d1 d0 aZ aX bC
 have HP:=Lh hp
 clear h hB hfs hk hp
 rcases aH.o with ⟨aE,l,u,aD,aM,rfl⟩|⟨aE,l,u,aD,aM,rfl⟩
 ·have aI:=Lh aE
  clear aE aH
  obtain rfl:aN=6:=aI.o
  have aJ:=Lh aD
  clear aD
  have aG:Hid (Xk W4.drew bm fb cap (cur.setIfInBounds (fs.length*4+1) (ι ((p:Int)+1))) cs fs { f with pc:=(p:Int)+1 } lv sv { m with idle:=m.idle+1 } Fi Fl Fs):=H4.o.keep (Xh Br 1)
  have aC:Hid (Xp (bm::fb::(Fi++(Fl++Fs))) (bm::fb::(Fi++(Fl++Fs))) w W4.drew):=aO.o.trans (Xp.of_below (Xh Br 1))
  go_upto_region 20 with fail
  go_region_with (first|(go_at_call 190;refine (Xbw fa (some (π b o)) fn fc funcs.length gc g aG.o ω l u aJ.o aM).mono ?_;rintro e w6 aU;obtain ⟨rfl,hF⟩|⟨rfl,aL,bA,aR,aF,aA⟩:(e=.returned (ι 0)/\Hid False)\/Vg (X0 17) _ bm fb cap cs fs _ lv _ Fi Fl _ e w6:=.inr aU;rotate_left;(refine ⟨rfl,?_⟩;rw [HP.o];exact ⟨rfl,_,(aF.reframe _).own rfl,aC.o.trans aA⟩);have j0:w6.cell? (π w.heap.size 0)=some (σ fa fn fc):=hF.o.elim;have j1:w6.cell? (π w.heap.size 1)=some (ι g):=hF.o.elim;have j2:w6.cell? (π w.heap.size 2)=some (σ (some (π b o)) funcs.length gc):=hF.o.elim;have j3:w6.cell? (π w.heap.size 3)=some (.pointer (some (π bm 0))):=hF.o.elim;have j4:w6.cell? (π ib 1)=some (ι xa):=hF.o.elim)|(go_at_call 189;refine (show Calls Tryz.prog 189 _ _ (fun e _=>e=.returned (.tuple #[])) from hF.o.elim).mono ?_;rintro e w7 rfl))
  all_goals exact hF.o.elim
 ·have aI:=Lh aE
  clear aE aH
  obtain rfl:aN=6:=aI.o
  have aJ:=Lh aD
  clear aD
  have aG:Hid (Xk W4.drew bm fb cap (cur.setIfInBounds (fs.length*4+1) (ι ((p:Int)+1))) cs fs { f with pc:=(p:Int)+1 } lv sv { m with idle:=m.idle+1 } Fi Fl Fs):=H4.o.keep (Xh Br 1)
  have aC:Hid (Xp (bm::fb::(Fi++(Fl++Fs))) (bm::fb::(Fi++(Fl++Fs))) w W4.drew):=aO.o.trans (Xp.of_below (Xh Br 1))
  go_upto_region 20 with fail
  go_region_with (first|(go_at_call 190;refine (Xas fa (some (π b o)) fn fc funcs.length gc g aG.o ω l u aJ.o aM).mono ?_;rintro e w6 ⟨rfl,aL,bA,aR,aF,aA⟩;have j0:=aA.cell (show W4.drew.cell? _=_ from k0) aB;have j1:=aA.cell (show W4.drew.cell? _=_ from k1) aB;have j2:=aA.cell (show W4.drew.cell? _=_ from k2) aB;have j3:=aA.cell (show W4.drew.cell? _=_ from k3) aB;have j4:=aA.cell (show W4.drew.cell? _=_ from d1) aV;have aT:=Lh aF;have aS:=Lh (aC.o.trans aA);clear aF aA)|(go_at_call 189;refine (U5 fa (some (π b o)) fn fc funcs.length gc g bm 1 u xa 0 0 _).mono ?_;rintro e w9 aD;obtain ⟨rfl,hF⟩|⟨rfl,hb9⟩:(e=.returned (.tuple #[])/\Hid False)\/Xec ⟨1,u,xa,0,0⟩ _ e w9:=.inr aD;rotate_left;(refine ⟨rfl,?_⟩;rw [HP.o];exact ⟨rfl,_,((aT.o.keep hb9).reframe _).own rfl,aS.o.trans (Xp.of_below hb9)⟩)))
  all_goals exact hF.o.elim
