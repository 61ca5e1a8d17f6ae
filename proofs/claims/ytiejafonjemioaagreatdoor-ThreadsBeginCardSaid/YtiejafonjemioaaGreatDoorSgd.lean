import Derived.Test.YtiejafonjemioaaGreatDoorSgp
set_option maxHeartbeats 8000000
set_option maxRecDepth 100000
set_option linter.unusedVariables false
set_option linter.unusedSimpArgs false
open Go.Value renaming slice→σ
open Go.Obj renaming cells→χ
namespace Go.Proofs.YtiejafonjemioaaGreatDoor
open Go.RowKit
variable {op a b:Int} {w w':World} {bm fb cap:Nat} {cs:List Value} {fs:List Fra} {f':Fra} {lv:Value} {m:Mch} {Fi Fl F:List Nat} {e:Ending}
theorem Zv.ok (h:Zv op a b w bm fb cap cs fs f' lv m Fi Fl F e w') (h0:Yb op a b=0) :
  e=.returned (ι (Qk op a b))/\Yz w bm fb cap cs fs f' lv { m with compares:=m.compares+Zk op } Fi Fl F w':=by
 rcases h with ⟨_,h1,h2⟩|⟨h1,_⟩
 ·exact ⟨h1,h2⟩
 ·exact absurd h0 h1
theorem Zv.no (h:Zv op a b w bm fb cap cs fs f' lv m Fi Fl F e w') (h0:¬Yb op a b=0) :
  Vg (X0 (Yb op a b)) w bm fb cap cs fs f' lv { m with compares:=m.compares+Zk op } Fi Fl F e w':=by
 rcases h with ⟨h1,_⟩|⟨_,h1⟩
 ·exact absurd h1 h0
 ·exact h1
theorem Xgt {cur:Array Value} {f:Fra} {sv:Value} {Fs:List Nat} (fa ga:Option Addr) (fn fc gc:Nat) (g:Int) (h:Xk w bm fb cap cur cs fs f lv sv m Fi Fl Fs) (hn:fs.length<200)
  (B:Nat) (hB:∀ b∈bm::fb::(Fi++(Fl++Fs)),B<=b) (funcs:List Fun) (hfl:funcs.length<=1000000) (hfs:Xf B w 5 (Zl B) (σ ga funcs.length gc) funcs) (k:Nat) (hk:f.fn=k) (y:Fun) (hy:funcs[k]?=some y) (p:Nat) (hp:f.pc=p) (x:Ins) (hx:y.code[p]?=some x) (hcl:y.code.length<=1000000)
  (hid:0<=m.idle/\m.idle<100000) (o:Out)
  (hcs:((Ya x.op)/\(f.stack.length<1000000)/\∃ (l:List Int),∃ (u v:Int),(f.stack=l++[u]++[v])/\(-1099511627776<=u/\u<=1099511627776)/\(-1099511627776<=v/\v<=1099511627776)/\(-1<=m.compares/\m.compares<=4611686018427387904)/\(Yb x.op u v=0)/\(in64 (Qk x.op u v))/\o=.go { m with idle:=m.idle+1,compares:=m.compares+Zk x.op,frames:=fs++[{ f with pc:=f.pc+1,stack:=l++[Qk x.op u v] }] })\/((Ya x.op)/\(f.stack.length<1000000)/\∃ (l:List Int),∃ (u v:Int),(f.stack=l++[u]++[v])/\(-1099511627776<=u/\u<=1099511627776)/\(-1099511627776<=v/\v<=1099511627776)/\(-1<=m.compares/\m.compares<=4611686018427387904)/\(¬Yb x.op u v=0)/\o=.stop (X0 (Yb x.op u v)) { m with idle:=m.idle+1,compares:=m.compares+Zk x.op,frames:=fs++[{ f with pc:=f.pc+1,stack:=l }] })) :
  Calls Tryz.prog 170 #[Yw (σ fa fn fc) (σ ga funcs.length gc) g bm] w (Km w bm (bm::fb::(Fi++(Fl++Fs))) o):=by
 have aK:=Lh hcs
 clear hcs
 obtain ⟨aA,xa⟩:=x
 obtain ⟨a0,aL,bA,-,-,-,hE⟩:=id hfs
 rcases hE with h0|⟨b,o,rfl,-,-⟩
 ·rw [h0] at hy;simp at hy
 obtain ⟨rfl,rfl⟩:ga=some (π b o)/\gc=aL:=by simpa using bA
 clear bA
 refine (sgp fa b o fn fc gc g (Lh h) hn B (Lh hB) funcs hfl (Lh hfs) k (Lh hk) y hy p (Lh hp) aA xa hx hcl hid _).2 (Lh ?_)
 intro cC bS cF yb yo bI bB cD aC bW bV bX bU cE bY bZ cA cB K hK W4 H4 aZ bK k0 k1 k2 k3 ib aN bH d1 d0 aP bJ bT
 have HP:=Lh hp
 clear h hB hfs hk hp
 rcases aK.o with ⟨aH,bL,l,u,v,aI,hu,hv,hc,hE,hr,rfl⟩|⟨aH,bL,l,u,v,aI,hu,hv,hc,hE,rfl⟩
 ·have H_hst:=Lh aI
  have H_hE:=Lh hE
  have H_hr:=Lh hr
  clear aI hE hr
  have aF:=Lh aH
  clear aH aK
  have aD:Ya aA:=aF.o
  unfold Ya at aD
  have bM:¬aA=1:=ω
  have ne2:¬aA=2:=ω
  have ne3:¬aA=3:=ω
  have ne4:¬aA=4:=ω
  have bN:¬aA=5:=ω
  have bO:¬aA=6:=ω
  have bP:¬aA=7:=ω
  have bQ:¬aA=8:=ω
  have bR:¬aA=9:=ω
  have aQ:¬aA=10:=ω
  have aR:¬aA=11:=ω
  have aS:¬aA=12:=ω
  have aT:¬aA=13:=ω
  have aU:¬aA=14:=ω
  have aV:¬aA=26:=ω
  have aW:¬aA=29:=ω
  have aX:¬aA=30:=ω
  have aY:¬aA=31:=ω
  clear aD
  have bC:l.length<1000000:=by have:=congrArg List.length H_hst.o;simp at this;omega
  have aJ:Hid (Xk W4.drew bm fb cap (cur.setIfInBounds (fs.length*4+1) (ι ((p:Int)+1))) cs fs { f with pc:=(p:Int)+1 } lv sv { m with idle:=m.idle+1 } Fi Fl Fs):=H4.o.keep (Xh Br 1)
  have aE:Hid (Xp (bm::fb::(Fi++(Fl++Fs))) (bm::fb::(Fi++(Fl++Fs))) w W4.drew):=aZ.o.trans (Xp.of_below (Xh Br 1))
  go_upto_region 8 with fail
  have aO:=H_hr.o
  go_region_held3 (fun W=>W.cell? (π w.heap.size 0)=some (σ fa fn fc)/\W.cell? (π w.heap.size 1)=some (ι g)/\W.cell? (π w.heap.size 2)=some (σ (some (π b o)) funcs.length gc)/\W.cell? (π w.heap.size 3)=some (.pointer (some (π bm 0)))/\W.cell? (π ib 1)=some (ι xa)/\W.cell? (π ib 0)=some (ι aA))
   (first|exact ⟨k0,k1,k2,k3,d1,d0⟩|exact ⟨p0,p1,p2,p3,p4,p5⟩|exact ⟨j0,j1,j2,j3,j4,j5⟩)
   (first|(go_at_call 196;refine (Xdf aA aF.o fa (some (π b o)) fn fc funcs.length gc g aJ.o ω l u v H_hst.o hu hv hc).mono ?_;rintro e w5 aM;obtain ⟨rfl,cur5,sv5,Fs5,hT5,hM5⟩:=aM.ok H_hE.o;have j0:=hM5.cell (show W4.drew.cell? _=_ from k0) aC;have j1:=hM5.cell (show W4.drew.cell? _=_ from k1) aC;have j2:=hM5.cell (show W4.drew.cell? _=_ from k2) aC;have j3:=hM5.cell (show W4.drew.cell? _=_ from k3) aC;have j4:=hM5.cell (show W4.drew.cell? _=_ from d1) aN;have j5:=hM5.cell (show W4.drew.cell? _=_ from d0) aN;have aB:=hM5.notin (by exact aP) aC;have aG:=hM5.notin (by exact bH) aN;have bF:=Lh hT5;have bD:=Lh (aE.o.trans hM5);clear hT5 hM5)|(go_at_call 144;refine (Qt fa (some (π b o)) fn fc funcs.length gc g bF.o ω (Qk aA u v) ?_ ?_).mono ?_;(exact aO);(exact bC);rintro e w7 ⟨rfl,cur7,sv7,Fs7,hT7,hM7⟩;have p0:=hM7.cell j0 aB;have p1:=hM7.cell j1 aB;have p2:=hM7.cell j2 aB;have p3:=hM7.cell j3 aB;have p4:=hM7.cell j4 aG;have p5:=hM7.cell j5 aG;have bG:=Lh hT7;have bE:=Lh (bD.o.trans hM7);clear hT7 hM7))
  go_wp2_with fail
  go_end0
  rw [HP.o]
  exact ⟨rfl,_,(bG.o.reframe _).own rfl,bE.o⟩
 ·have H_hst:=Lh aI
  have H_hE:=Lh hE
  clear aI hE
  have aF:=Lh aH
  clear aH aK
  have aD:Ya aA:=aF.o
  unfold Ya at aD
  have bM:¬aA=1:=ω
  have ne2:¬aA=2:=ω
  have ne3:¬aA=3:=ω
  have ne4:¬aA=4:=ω
  have bN:¬aA=5:=ω
  have bO:¬aA=6:=ω
  have bP:¬aA=7:=ω
  have bQ:¬aA=8:=ω
  have bR:¬aA=9:=ω
  have aQ:¬aA=10:=ω
  have aR:¬aA=11:=ω
  have aS:¬aA=12:=ω
  have aT:¬aA=13:=ω
  have aU:¬aA=14:=ω
  have aV:¬aA=26:=ω
  have aW:¬aA=29:=ω
  have aX:¬aA=30:=ω
  have aY:¬aA=31:=ω
  clear aD
  have bC:l.length<1000000:=by have:=congrArg List.length H_hst.o;simp at this;omega
  have aJ:Hid (Xk W4.drew bm fb cap (cur.setIfInBounds (fs.length*4+1) (ι ((p:Int)+1))) cs fs { f with pc:=(p:Int)+1 } lv sv { m with idle:=m.idle+1 } Fi Fl Fs):=H4.o.keep (Xh Br 1)
  have aE:Hid (Xp (bm::fb::(Fi++(Fl++Fs))) (bm::fb::(Fi++(Fl++Fs))) w W4.drew):=aZ.o.trans (Xp.of_below (Xh Br 1))
  go_upto_region 8 with fail
  go_region_with (first|(go_at_call 196;refine (Xdf aA aF.o fa (some (π b o)) fn fc funcs.length gc g aJ.o ω l u v H_hst.o hu hv hc).mono ?_;rintro e w5 aM;obtain ⟨rfl,hF⟩|⟨rfl,cur5,sv5,Fs5,hT5,hM5⟩:(e=.returned (ι 0)/\Hid False)\/Vg (X0 (Yb aA u v)) _ bm fb cap cs fs _ lv _ Fi Fl _ e w5:=.inr (aM.no H_hE.o);rotate_left;(refine ⟨rfl,?_⟩;rw [HP.o];exact ⟨rfl,_,(hT5.reframe _).own rfl,aE.o.trans hM5⟩);have j0:w5.cell? (π w.heap.size 0)=some (σ fa fn fc):=hF.o.elim;have j1:w5.cell? (π w.heap.size 1)=some (ι g):=hF.o.elim;have j2:w5.cell? (π w.heap.size 2)=some (σ (some (π b o)) funcs.length gc):=hF.o.elim;have j3:w5.cell? (π w.heap.size 3)=some (.pointer (some (π bm 0))):=hF.o.elim)|(go_at_call 144;refine (show Calls Tryz.prog 144 _ _ (fun e _=>e=.returned (.tuple #[])) from hF.o.elim).mono ?_;rintro e w6 rfl))
  all_goals exact hF.o.elim
