import Derived.Test.YtiejafonjemioaaGreatDoorSgp
set_option maxHeartbeats 8000000
set_option maxRecDepth 100000
set_option linter.unusedVariables false
set_option linter.unusedSimpArgs false
open Go.Value renaming slice→σ
open Go.Obj renaming cells→χ
namespace Go.Proofs.YtiejafonjemioaaGreatDoor
open Go.RowKit
theorem Xbs {w:World} {bm fb cap:Nat} {cur:Array Value} {cs:List Value} {fs:List Fra} {f:Fra} {lv sv:Value} {m:Mch} {Fi Fl Fs:List Nat} (fa ga:Option Addr) (fn fc gc:Nat) (g:Int) (h:Xk w bm fb cap cur cs fs f lv sv m Fi Fl Fs) (hn:fs.length<200)
  (B:Nat) (hB:∀ b∈bm::fb::(Fi++(Fl++Fs)),B<=b) (funcs:List Fun) (hfl:funcs.length<=1000000) (hfs:Xf B w 5 (Zl B) (σ ga funcs.length gc) funcs) (k:Nat) (hk:f.fn=k) (y:Fun) (hy:funcs[k]?=some y) (p:Nat) (hp:f.pc=p) (x:Ins) (hx:y.code[p]?=some x) (hcl:y.code.length<=1000000)
  (hid:0<=m.idle/\m.idle<100000) (o:Out)
  (hcs:((x.op=3)/\∃ (i:Nat),(x.a=i)/\(i<f.locals.length)/\∃ (l:List Int),∃ (v:Int),(f.stack=l++[v])/\(in64 v)/\(f.locals.length<=1000)/\o=.go { m with idle:=m.idle+1,frames:=fs++[{ f with pc:=f.pc+1,locals:=f.locals.set i v,stack:=l }] })\/((x.op=14)/\(f.stack.length<1000000)/\∃ (l:List Int),∃ (v:Int),(f.stack=l++[v])/\(-1099511627776<=v/\v<=1099511627776)/\o=.go { m with idle:=m.idle+1,frames:=fs++[{ f with pc:=f.pc+1,stack:=l++[-v] }] })\/((x.op=26)/\(f.stack.length<1000000)/\∃ (l:List Int),∃ (v:Int),(f.stack=l++[v])/\o=.go { m with idle:=m.idle+1,frames:=fs++[{ f with pc:=f.pc+1,stack:=l++[b2i (v == 0)] }] })\/((x.op=29)/\(f.stack.length<1000000)/\∃ (l:List Int),∃ (v:Int),(f.stack=l++[v])/\(-1099511627776<=v/\v<=1099511627776)/\o=.go { m with idle:=m.idle+1,frames:=fs++[{ f with pc:=f.pc+1,stack:=l++[(Lib.bitLen (max 1 v).toNat:Int) - 1] }] })) :
  Calls Tryz.prog 170 #[Yw (σ fa fn fc) (σ ga funcs.length gc) g bm] w (Km w bm (bm::fb::(Fi++(Fl++Fs))) o):=by
 have aR:=Lh hcs
 clear hcs
 obtain ⟨aV,xa⟩:=x
 obtain ⟨a0,aZ,bH,-,-,-,hE⟩:=id hfs
 rcases hE with h0|⟨b,o,rfl,-,-⟩
 ·rw [h0] at hy;simp at hy
 obtain ⟨rfl,rfl⟩:ga=some (π b o)/\gc=aZ:=by simpa using bH
 clear bH
 refine (sgp fa b o fn fc gc g (Lh h) hn B (Lh hB) funcs hfl (Lh hfs) k (Lh hk) y hy p (Lh hp) aV xa hx hcl hid _).2 (Lh ?_)
 intro cJ bZ cN yb yo bT bI cK aB cF cE cG cC cM bR bS cH cI K hK W4 H4 aW bY k0 k1 k2 k3 ib aO bA d1 d0 aP bU cA
 have HP:=Lh hp
 clear h hB hfs hk hp
 rcases aR.o with ⟨aG,i,ha,hi,l,v,aI,bD,aQ,rfl⟩|⟨aG,bL,l,v,aI,hv,rfl⟩|⟨aG,bL,l,v,aI,rfl⟩|⟨aG,bL,l,v,aI,hv,rfl⟩
 ·have H_ha:=Lh ha
  have H_hi:=Lh hi
  have H_hst:=Lh aI
  clear ha hi aI
  have aL:=Lh aG
  clear aG aR
  obtain rfl:xa=i:=H_ha.o
  obtain rfl:aV=3:=aL.o
  have bV:=H_hi.o
  have bN:=Lh H_hst.o
  obtain ⟨n,bK⟩:∃ n,f.locals[i]?=some n:=⟨_,Lg bV⟩
  have bG:=Lh bK
  clear bK
  obtain ⟨lb,bE,bJ,bP,bW,bX⟩:=H4.o.loc.form (by show 0<f.locals.length;omega)
  dsimp only at bJ bP bW
  subst bJ
  have aJ:Hid (Xk W4.drew bm fb cap (cur.setIfInBounds (fs.length*4+1) (ι ((p:Int)+1))) cs fs { f with pc:=(p:Int)+1 } (σ (some (π lb 0)) f.locals.length bE) sv { m with idle:=m.idle+1 } Fi Fl Fs):=H4.o.keep (Xh Br 1)
  have aD:Hid (Xp (bm::fb::(Fi++(Fl++Fs))) (bm::fb::(Fi++(Fl++Fs))) w W4.drew):=aW.o.trans (Xp.of_below (Xh Br 1))
  have cLv:=H4.o.cLv
  have cL:=H4.o.loc.cellAt bG.o
  have fL:=H4.o.loc.1.frozenAt i
  have bR:(0:Int)<=(i:Int):=In _
  have bS:(i:Int)<(f.locals.length:Int):=ω
  go_upto_region 14 with fail
  go_region_with (first|(go_at_call 188;refine (X9 fa (some (π b o)) fn fc funcs.length gc g aJ.o ω l v bN.o).mono ?_;rintro e w5 ⟨rfl,aN,bF,aX,aE,aC⟩;have j0:=aC.cell (show W4.drew.cell? _=_ from k0) aB;have j1:=aC.cell (show W4.drew.cell? _=_ from k1) aB;have j2:=aC.cell (show W4.drew.cell? _=_ from k2) aB;have j3:=aC.cell (show W4.drew.cell? _=_ from k3) aB;have j4:=aC.cell (show W4.drew.cell? _=_ from d1) aO;have cQ:=aE.cLv;have jL:=aE.loc.cellAt bG.o;have cB:=aE.loc.1.frozenAt i;have aM:=Lh aE;have aK:=Lh (aD.o.trans aC);clear aE aC))
  all_goals (go_wp2_with fail)
  all_goals go_end0
  all_goals (rw [HP.o];obtain ⟨h6,bQ⟩:=Xko aM.o i v bD;exact ⟨rfl,_,(h6.reframe _).own rfl,aK.o.trans bQ⟩)
 ·have H_hst:=Lh aI
  clear aI
  have aL:=Lh aG
  clear aG aR
  obtain rfl:aV=14:=aL.o
  have aQ:l.length<1000000:=by have:=congrArg List.length H_hst.o;simp at this;omega
  have aH:in64 (-v):=⟨ω,ω⟩
  have aU:X1 (-v)=true:=by unfold X1;simp;omega
  have aY:=Lh aU
  clear aU
  have hw:IntKind.i64.wrap (-v) = -v:=by rw [IntKind.wrap_i64];omega
  have aJ:Hid (Xk W4.drew bm fb cap (cur.setIfInBounds (fs.length*4+1) (ι ((p:Int)+1))) cs fs { f with pc:=(p:Int)+1 } lv sv { m with idle:=m.idle+1 } Fi Fl Fs):=H4.o.keep (Xh Br 1)
  have aD:Hid (Xp (bm::fb::(Fi++(Fl++Fs))) (bm::fb::(Fi++(Fl++Fs))) w W4.drew):=aW.o.trans (Xp.of_below (Xh Br 1))
  go_upto_region 41 with fail
  go_region_held3 (fun W=>W.cell? (π w.heap.size 0)=some (σ fa fn fc)/\W.cell? (π w.heap.size 1)=some (ι g)/\W.cell? (π w.heap.size 2)=some (σ (some (π b o)) funcs.length gc)/\W.cell? (π w.heap.size 3)=some (.pointer (some (π bm 0)))/\W.cell? (π ib 1)=some (ι xa))
   (first|exact ⟨k0,k1,k2,k3,d1⟩|exact ⟨p0,p1,p2,p3,p4⟩|exact ⟨q0,q1,q2,q3,q4⟩|exact ⟨j0,j1,j2,j3,j4⟩)
   (first|(go_at_call 188;refine (X9 fa (some (π b o)) fn fc funcs.length gc g aJ.o ω l v H_hst.o).mono ?_;rintro e w5 ⟨rfl,aN,bF,aX,aE,aC⟩;have j0:=aC.cell (show W4.drew.cell? _=_ from k0) aB;have j1:=aC.cell (show W4.drew.cell? _=_ from k1) aB;have j2:=aC.cell (show W4.drew.cell? _=_ from k2) aB;have j3:=aC.cell (show W4.drew.cell? _=_ from k3) aB;have j4:=aC.cell (show W4.drew.cell? _=_ from d1) aO;have aA:=aC.notin (by exact aP) aB;have aF:=aC.notin (by exact bA) aO;have aM:=Lh aE;have aK:=Lh (aD.o.trans aC);clear aE aC)|(go_at_call 193;refine (Vx fa (some (π b o)) fn fc funcs.length gc g bm (-v) _ aY.o).mono ?_;rintro e w6 ⟨rfl,hb6⟩;have q0:=Xc hb6 j0;have q1:=Xc hb6 j1;have q2:=Xc hb6 j2;have q3:=Xc hb6 j3;have q4:=Xc hb6 j4;have bO:=Lh (aM.o.keep hb6);have bM:=Lh (aK.o.trans (Xp.of_below hb6));clear hb6)|(go_at_call 144;refine (Qt fa (some (π b o)) fn fc funcs.length gc g bO.o ω (-v) ?_ ?_).mono ?_;(exact aH);(exact aQ);rintro e w7 ⟨rfl,cur7,sv7,Fs7,hT7,hM7⟩;have p0:=hM7.cell q0 aA;have p1:=hM7.cell q1 aA;have p2:=hM7.cell q2 aA;have p3:=hM7.cell q3 aA;have p4:=hM7.cell q4 aF;have aT:=Lh hT7;have aS:=Lh (bM.o.trans hM7);clear hT7 hM7))
  go_wp2_with fail
  go_end0
  rw [HP.o]
  exact ⟨rfl,_,(aT.o.reframe _).own rfl,aS.o⟩
 ·have H_hst:=Lh aI
  clear aI
  have aL:=Lh aG
  clear aG aR
  obtain rfl:aV=26:=aL.o
  have aQ:l.length<1000000:=by have:=congrArg List.length H_hst.o;simp at this;omega
  have aH:in64 (b2i (v == 0)):=by unfold b2i;split<;>exact ⟨δ,δ⟩
  have aJ:Hid (Xk W4.drew bm fb cap (cur.setIfInBounds (fs.length*4+1) (ι ((p:Int)+1))) cs fs { f with pc:=(p:Int)+1 } lv sv { m with idle:=m.idle+1 } Fi Fl Fs):=H4.o.keep (Xh Br 1)
  have aD:Hid (Xp (bm::fb::(Fi++(Fl++Fs))) (bm::fb::(Fi++(Fl++Fs))) w W4.drew):=aW.o.trans (Xp.of_below (Xh Br 1))
  go_upto_region 43 with fail
  go_region_held3 (fun W=>W.cell? (π w.heap.size 0)=some (σ fa fn fc)/\W.cell? (π w.heap.size 1)=some (ι g)/\W.cell? (π w.heap.size 2)=some (σ (some (π b o)) funcs.length gc)/\W.cell? (π w.heap.size 3)=some (.pointer (some (π bm 0)))/\W.cell? (π ib 1)=some (ι xa))
   (first|exact ⟨k0,k1,k2,k3,d1⟩|exact ⟨p0,p1,p2,p3,p4⟩|exact ⟨q0,q1,q2,q3,q4⟩|exact ⟨j0,j1,j2,j3,j4⟩)
   (first|(go_at_call 188;refine (X9 fa (some (π b o)) fn fc funcs.length gc g aJ.o ω l v H_hst.o).mono ?_;rintro e w5 ⟨rfl,aN,bF,aX,aE,aC⟩;have j0:=aC.cell (show W4.drew.cell? _=_ from k0) aB;have j1:=aC.cell (show W4.drew.cell? _=_ from k1) aB;have j2:=aC.cell (show W4.drew.cell? _=_ from k2) aB;have j3:=aC.cell (show W4.drew.cell? _=_ from k3) aB;have j4:=aC.cell (show W4.drew.cell? _=_ from d1) aO;have aA:=aC.notin (by exact aP) aB;have aF:=aC.notin (by exact bA) aO;have aM:=Lh aE;have aK:=Lh (aD.o.trans aC);clear aE aC)|(go_at_call 194;refine (Ka (v == 0) _).mono ?_;rintro e w6 ⟨rfl,rfl⟩)|(go_at_call 144;refine (Qt fa (some (π b o)) fn fc funcs.length gc g aM.o ω (b2i (v == 0)) ?_ ?_).mono ?_;(exact aH);(exact aQ);rintro e w7 ⟨rfl,cur7,sv7,Fs7,hT7,hM7⟩;have p0:=hM7.cell j0 aA;have p1:=hM7.cell j1 aA;have p2:=hM7.cell j2 aA;have p3:=hM7.cell j3 aA;have p4:=hM7.cell j4 aF;have aT:=Lh hT7;have aS:=Lh (aK.o.trans hM7);clear hT7 hM7))
  go_wp2_with fail
  go_end0
  rw [HP.o]
  exact ⟨rfl,_,(aT.o.reframe _).own rfl,aS.o⟩
 ·have H_hst:=Lh aI
  clear aI
  have aL:=Lh aG
  clear aG aR
  obtain rfl:aV=29:=aL.o
  have aQ:l.length<1000000:=by have:=congrArg List.length H_hst.o;simp at this;omega
  have cD:Lib.bitLen (max 1 v).toNat<=64:=K2 64 _
  have aH:in64 ((Lib.bitLen (max 1 v).toNat:Int) - 1):=⟨ω,ω⟩
  have bB:0<=max 1 v:=ω
  have bC:max 1 v<=18446744073709551615:=ω
  have cP:IntKind.u64.wrap (max 1 v)=max 1 v:=by rw [IntKind.wrap_u64];omega
  have cO:IntKind.i64.wrap ((Lib.bitLen (max 1 v).toNat:Int) - 1)=(Lib.bitLen (max 1 v).toNat:Int) - 1:=by rw [IntKind.wrap_i64];omega
  have aJ:Hid (Xk W4.drew bm fb cap (cur.setIfInBounds (fs.length*4+1) (ι ((p:Int)+1))) cs fs { f with pc:=(p:Int)+1 } lv sv { m with idle:=m.idle+1 } Fi Fl Fs):=H4.o.keep (Xh Br 1)
  have aD:Hid (Xp (bm::fb::(Fi++(Fl++Fs))) (bm::fb::(Fi++(Fl++Fs))) w W4.drew):=aW.o.trans (Xp.of_below (Xh Br 1))
  go_upto_region 45 with fail
  go_region_held3 (fun W=>W.cell? (π w.heap.size 0)=some (σ fa fn fc)/\W.cell? (π w.heap.size 1)=some (ι g)/\W.cell? (π w.heap.size 2)=some (σ (some (π b o)) funcs.length gc)/\W.cell? (π w.heap.size 3)=some (.pointer (some (π bm 0)))/\W.cell? (π ib 1)=some (ι xa))
   (first|exact ⟨k0,k1,k2,k3,d1⟩|exact ⟨p0,p1,p2,p3,p4⟩|exact ⟨q0,q1,q2,q3,q4⟩|exact ⟨j0,j1,j2,j3,j4⟩)
   (first|(go_at_call 188;refine (X9 fa (some (π b o)) fn fc funcs.length gc g aJ.o ω l v H_hst.o).mono ?_;rintro e w5 ⟨rfl,aN,bF,aX,aE,aC⟩;have j0:=aC.cell (show W4.drew.cell? _=_ from k0) aB;have j1:=aC.cell (show W4.drew.cell? _=_ from k1) aB;have j2:=aC.cell (show W4.drew.cell? _=_ from k2) aB;have j3:=aC.cell (show W4.drew.cell? _=_ from k3) aB;have j4:=aC.cell (show W4.drew.cell? _=_ from d1) aO;have aA:=aC.notin (by exact aP) aB;have aF:=aC.notin (by exact bA) aO;have aM:=Lh aE;have aK:=Lh (aD.o.trans aC);clear aE aC)|(go_at_call 195;refine (Tryz.bits_Len (max 1 v) _ bB bC).mono ?_;rintro e w6 ⟨rfl,rfl⟩)|(go_at_call 144;refine (Qt fa (some (π b o)) fn fc funcs.length gc g aM.o ω ((Lib.bitLen (max 1 v).toNat:Int) - 1) ?_ ?_).mono ?_;(exact aH);(exact aQ);rintro e w7 ⟨rfl,cur7,sv7,Fs7,hT7,hM7⟩;have p0:=hM7.cell j0 aA;have p1:=hM7.cell j1 aA;have p2:=hM7.cell j2 aA;have p3:=hM7.cell j3 aA;have p4:=hM7.cell j4 aF;have aT:=Lh hT7;have aS:=Lh (aK.o.trans hM7);clear hT7 hM7))
  go_wp2_with fail
  go_end0
  rw [HP.o]
  exact ⟨rfl,_,(aT.o.reframe _).own rfl,aS.o⟩
