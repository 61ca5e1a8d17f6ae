import Derived.Test.YtiejafonjemioaaGreatDoorNwn
import Derived.Test.YtiejafonjemioaaGreatDoorRft
import Derived.Test.YtiejafonjemioaaGreatDoorRg
import Derived.Test.YtiejafonjemioaaGreatDoorLsc
import Derived.Test.YtiejafonjemioaaGreatDoorRcy
set_option maxHeartbeats 8000000
set_option maxRecDepth 100000
set_option linter.unusedVariables false
set_option linter.unusedSimpArgs false
open Go.Value renaming slice→σ
open Go.Obj renaming cells→χ
namespace Go.Proofs.YtiejafonjemioaaGreatDoor
open Go.RowKit
theorem givenE_fuel {c:Cod} {x:Cal} {fuel:Int} (h:0<=fuel/\fuel<=1048576):Yd c x fuel=Yd c x 0:=by
 have h1:¬(fuel<0\/1048576<fuel):=ω
 have h2:¬((0:Int)<0\/(1048576:Int)<0):=ω
 unfold Yd
 rw [if_neg h1,if_neg h2]
theorem enters_rcm:Zn 29:=fun _ _=>by kernel_rfl
theorem rNew_any (cd:Cod) (m:Mm) (cs:List (List Cal)) (fuel:Int) (cv mv lv:Value) (w:World) (hL:Qa w) (hc:Yj w.heap.size w cv cd) (hm:MmV w.heap.size w mv m) (hl:Xf w.heap.size w 1 (Xsa 2 (Xsr w.heap.size) w.heap.size) lv cs) (f64:in64 fuel) (ok:X38 m cs) :
  Calls Tryz.prog 13 #[cv,mv,lv,ι fuel] w (Xut cd m cs fuel w):=by
 obtain ⟨fv,gv,rfl,hf,hg,bW⟩:=id hc
 obtain ⟨fa,fc,rfl⟩:=hf.form
 obtain ⟨qa,qc,rfl⟩:=hg.form
 obtain ⟨fC,fI,rfl,cX,cY⟩:=id hm
 obtain ⟨ga,gc,rfl⟩:=cX.form
 obtain ⟨ma,mc,rfl⟩:=cY.form
 have eJ:cs.length<=140737488355328:=by
  obtain ⟨_,_,_,h,_⟩:=hl
  exact h
 obtain ⟨la,lc,rfl⟩:=hl.form
 have OK:=Lh ok
 have eS:=Lh hl
 have dF:=Lh f64
 obtain ⟨W,hW⟩:∃ W,W=((w.alloc (χ (Bc fa fc qa qc cd) 25)).alloc (χ (Bm ga gc ma mc m) 28)).alloc (χ Bz 34):=⟨_,rfl⟩
 have HB:=Lh (nw_open hW hL hc hm hl)
 clear hf hg bW hL hc hm hl cX cY ok f64
 obtain ⟨⟨c0,c1,c2,zc⟩,⟨g0,g1,zg⟩,-⟩:=HB.o W Br
 go_enter Tryz.func13,Tryz.ntmps13
 go_upto_region 1 with fail
 rw [<-hW]
 have HW:=Lh hW
 clear hW
 go_wp2_with fail
 refine (U0 cd _ w.heap.size W (HB.o W Br).b.size (HB.o W Br).cod).mono ?_
 rintro e w1 ⟨rfl,cS⟩
 have aH:=Lh cS
 clear c0 c1 c2 zc g0 g1 zg cS
 cases bK:Xa2 cd with
 | false=>
  have bQ:=Lh bK
  clear bK
  obtain ⟨⟨y0,y1,y2,y3,y4,y5,y6,y7,y8,y9⟩,⟨z0,z1,z2,z3,z4,z5,z6,z7,z8,z9⟩,zR⟩:=ten (HB.o w1 aH.o).t
  go_wp2
  exact nw_err rfl (HB.o w1 aH.o) (X1x (.inl bQ.o)) ω rfl rfl rfl
 | true=>
 have bQ:=Lh bK
 clear bK
 obtain ⟨⟨c0,c1,c2,zc⟩,⟨g0,g1,zg⟩,-⟩:=HB.o w1 aH.o
 go_wp2_with fail
 refine (rFits_any cd _ m _ w.heap.size w1 (HB.o w1 aH.o).b.size (HB.o w1 aH.o).cod (HB.o w1 aH.o).mm).mono ?_
 rintro e w2 ⟨rfl,aX⟩
 have aF:=Lh (aH.o.then aX)
 clear c0 c1 c2 zc g0 g1 zg aX
 cases bI:Q7 cd m with
 | false=>
  have dJ:=Lh bI
  clear bI
  obtain ⟨⟨y0,y1,y2,y3,y4,y5,y6,y7,y8,y9⟩,⟨z0,z1,z2,z3,z4,z5,z6,z7,z8,z9⟩,zR⟩:=ten (HB.o w2 aF.o).t
  go_wp2
  exact nw_err rfl (HB.o w2 aF.o) (X1x (.inr dJ.o)) ω rfl rfl rfl
 | true=>
 have aU:=Lh (And.intro bQ.o bI)
 clear bI
 go_wp2_with fail
 refine (X20 fuel 0 1048576 w2).mono ?_
 rintro e _ ⟨rfl,rfl⟩
 cases bH:X4h fuel 0 1048576 with
 | false=>
  have dI:Hid (fuel<0\/1048576<fuel):=Lh (by simp [X4h] at bH;omega)
  clear bH
  obtain ⟨⟨y0,y1,y2,y3,y4,y5,y6,y7,y8,y9⟩,⟨z0,z1,z2,z3,z4,z5,z6,z7,z8,z9⟩,zR⟩:=ten (HB.o w2 aF.o).t
  go_wp2
  exact nw_err rfl (HB.o w2 aF.o) (X1t aU.o dI.o) ω rfl rfl rfl
 | true=>
 have aR:Hid (0<=fuel/\fuel<=1048576):=Lh (by simpa [X4h] using bH)
 clear bH
 by_cases hz:cs.length=0
 ·have aV:=Lh hz
  have eM:((cs.length:Int) == 0)=true:=by simp [hz]
  clear hz
  obtain ⟨⟨y0,y1,y2,y3,y4,y5,y6,y7,y8,y9⟩,⟨z0,z1,z2,z3,z4,z5,z6,z7,z8,z9⟩,zR⟩:=ten (HB.o w2 aF.o).t
  go_wp2
  exact nw_err rfl (HB.o w2 aF.o) (X29 aU.o aR.o aV.o) ω rfl rfl rfl
 have aV:=Lh hz
 have eM:((cs.length:Int) == 0)=false:=by simp [hz]
 clear hz
 by_cases h8:8<(cs.length:Int)
 ·have H8:=Lh h8
  obtain ⟨⟨y0,y1,y2,y3,y4,y5,y6,y7,y8,y9⟩,⟨z0,z1,z2,z3,z4,z5,z6,z7,z8,z9⟩,zR⟩:=ten (HB.o w2 aF.o).t
  go_wp2
  exact nw_err rfl (HB.o w2 aF.o) (X08 aU.o aR.o aV.o (.inl (by have:=H8.o;omega))) ω rfl rfl rfl
 have H8:Hid (cs.length<=8):=Lh ω
 go_wp2_with fail
 go_loopw [10] (fun i wr=>∃ k:Nat,k<=cs.length/\i=ι k/\Hid (Below W.heap.size W wr)/\Hid (∀ (j:Nat) l,j<k->cs[j]?=some l->l.length<=2000)) (fun i _=>cs.length - (intOf i).toNat)
 case atStart=>exact ⟨0,Nat.zero_le _,rfl,aF,Lh (fun j l h=>by omega)⟩
 case round=>
  obtain ⟨k,hk,rfl,aO,HJ⟩:=hrel
  obtain ⟨wo,rfl⟩:∃ wo:World,wo=wr:=⟨_,rfl⟩
  by_cases bY:k<cs.length
  ·obtain ⟨l,hl⟩:∃ y,cs[k]?=some y:=⟨_,Lg bY⟩
   obtain ⟨b0,o0,rfl,bL,eN,aQ,aM⟩:=(HB.o wo aO.o).cs.nth hl
   obtain ⟨xa,xc,rfl⟩:=aM.form
   have eK:l.length<=140737488355328:=by
    obtain ⟨_,_,_,h,_⟩:=aM
    exact h
   rw [Nat.mul_one] at aQ
   have HX:=Lh hl
   have eG:(0:Int)<=(k:Int):=In _
   have eH:(k:Int)<(cs.length:Int):=ω
   clear hl aM bL
   by_cases hq:2000<(l.length:Int)
   ·have HA:Hid (cs.any (fun l=>decide (2000<(l.length:Int)))=true):=Lh (List.any_eq_true.2 ⟨l,Lm HX.o,by simpa using hq⟩)
    obtain ⟨⟨y0,y1,y2,y3,y4,y5,y6,y7,y8,y9⟩,⟨z0,z1,z2,z3,z4,z5,z6,z7,z8,z9⟩,zR⟩:=ten (HB.o wo aO.o).t
    go_wp2
    exact nw_err rfl (HB.o wo aO.o) (X08 aU.o aR.o aV.o (.inr HA.o)) ω rfl rfl rfl
   ·have dP:Hid (∀ (j:Nat) l,j<k+1->cs[j]?=some l->l.length<=2000):=Lh (fun j y hj hy=>by
     by_cases eI:j=k
     ·subst eI;rw [HX.o] at hy;cases hy;omega
     ·exact HJ.o j y ω hy)
    go_wp2
    go_roundw
    case rel=>exact ⟨k+1,ω,by go_num,aO,dP⟩
    case measure=>simp [intOf];omega
  obtain rfl:k=cs.length:=ω
  have cG:Hid (∀ l∈cs,l.length<=2000):=Lh (fun l hl=>by
   obtain ⟨j,hj,rfl⟩:=List.getElem_of_mem hl
   exact HJ.o j _ hj (Lg hj))
  have cI:Hid (Xs9 cd m cs fuel=Xsx cd cs):=Lh (X3h aU.o aR.o aV.o H8.o (List.any_eq_false.2 (fun l hl=>by have:=cG.o l hl;simp;omega)))
  have bD:=aO
  clear aO aF aH HJ
  obtain ⟨-,⟨g0,g1,zg⟩,-⟩:=HB.o wo bD.o
  go_upto_region 15 with fail
  have hD:=HB.o wo.drew (Xh bD.o 1)
  refine X6 (fun Vs=>Vs.cell? (π (w.heap.size+1) 0)=some (σ ga m.globals.length gc)/\Vs.cell? (π (w.heap.size+1) 1)=some (σ ma m.nodes.length mc)) [1,4,6,8,10,12,13,14,15] true 16 rfl κ κ ⟨g0,g1⟩ ?_
  repeat (first|(refine' Xr4.take (Eq.refl false) _ (fun wV aE=>?_) ?_;rotate_left;(try dsimp only at aE);go_simp;(try with_reducible rfl);try simp only [Ap])|refine Xr4.skip (Eq.refl true) ?_)
  refine Xr4.stop ?_
  simp only [List.nil_append,List.cons_append]
  clear g0 g1 zg
  refine nw_region (q:=55) (x:=12) (C0:=(fun b=>if b=w.heap.size+1+1 then 14 else 0)) fuel (.agg (Bm ga gc ma mc m)) δ enters_rcm rfl κ δ (n:=cs.length) (m:=m) (by have:=H8.o;omega) dF.o ψ ⟨rfl,rfl,rfl,rfl,rfl⟩ rfl rfl (fun V c' h=>⟨h.cell hD.g.1 (no _),h.cell hD.g.2.1 (no _)⟩) (fun b hb=>if_neg (by have:=hD.s;omega)) (fun V c' h=>?_) (fun u1 u4 u6 u8 fN fO fP bo c Wf aC cU=>?_)
  ·have aX:Below w.heap.size wo.drew V:=(⟨h.os,h.tape,h.output,h.size,fun b hb=>h.keep b hb (no _)⟩:Below wo.drew.heap.size wo.drew V).mono hD.b.size
   exact rCopy12_any m _ w.heap.size V (Nt hD.b.size aX.size) (hD.mm.below aX) OK.o.g OK.o.n OK.o.f
  simp only [Ap]
  have cL:Hid (X19 m cs fuel wo.drew (fun b=>if b=w.heap.size+1+1 then 14 else 0) bo 0 Wf c):=Lh ⟨aC,cU⟩
  clear aC cU hD
  have cB:Hid (∀ (V:World) (c':Clr),Chg NZ (fun b=>if b=w.heap.size+1+1 then 14 else 0) c' wo.drew V->Below W.heap.size W V/\c' (w.heap.size+1+1)=14):=Lh (fun V c' h=>by
   have hk:=HB.o wo.drew (Xh bD.o 1)
   exact ⟨(Xh bD.o 1).then ⟨h.os,h.tape,h.output,h.size,fun b hb=>h.keep b hb (by show ¬NZ (if _ then _ else _);split;exact Xvf;exact nz0)⟩,(h.old _ (by have:=hk.s;omega)).trans (if_pos rfl)⟩)
  go_wp2_with fail
  go_loopw [13] (fun i wr=>∃ k:Nat,k<=cs.length/\i=ι k/\Hid (∃ c,X19 m cs fuel wo.drew (fun b=>if b=w.heap.size+1+1 then 14 else 0) bo k wr c)/\Hid (∀ l∈cs.take k,∀ y∈l,Yd cd y 0=0)) (fun i _=>cs.length - (intOf i).toNat)
  case atStart=>exact ⟨0,Nat.zero_le _,rfl,Lh ⟨_,cL.o⟩,Lh ψ⟩
  case round=>
   obtain ⟨k,hk,rfl,aC,HG⟩:=hrel
   obtain ⟨c,aC⟩:=aC.o
   have HS:=Lh aC
   clear aC cL
   obtain ⟨wi,rfl⟩:∃ wi:World,wi=wr:=⟨_,rfl⟩
   have cP:=Lh (cB.o wi c HS.o.chg).1
   have aT:=Lh (HB.o wi cP.o)
   by_cases bY:k<cs.length
   ·obtain ⟨l,hl⟩:∃ y,cs[k]?=some y:=⟨_,Lg bY⟩
    obtain ⟨b0,o0,rfl,bL,eN,aQ,aM⟩:=aT.o.cs.nth hl
    obtain ⟨xa,xc,rfl⟩:=aM.form
    rw [Nat.mul_one] at aQ
    have HX:=Lh hl
    have dT:=Lh aM
    have dR:=Lh aQ
    have aS:=Lh (cG.o l (Lm hl))
    have eG:(0:Int)<=(k:Int):=In _
    have eH:(k:Int)<(cs.length:Int):=ω
    have zl:=Bl aQ
    have ZL:=Lh bL
    clear hl aM bL
    go_wp2_with fail
    clear aQ zl
    go_loopw [14,15] (fun v i wr=>∃ (p:Nat) (oa:Option Addr) (aA:Nat),p<=l.length/\v=σ oa p aA/\i=ι p/\Hid (∃ c xs,Xzb l wi p (σ oa p aA) c xs wr)/\Hid (∀ y∈l.take p,Yd cd y 0=0)) (fun _ i _=>l.length - (intOf i).toNat)
    case atStart=>exact ⟨0,none,0,Nat.zero_le _,rfl,rfl,Lh ⟨_,_,V3.nil _ _ _ _ _,Chg.of_below Br δ,Xt4,fun i x hi=>by omega,rfl⟩,Lh ψ⟩
    case round=>
     obtain ⟨p,oa,aA,hp,rfl,rfl,aY,bP⟩:=hrel
     obtain ⟨c2,xs,aY⟩:=aY.o
     have aP:=Lh aY
     have aK:Hid (Below wi.heap.size wi wr):=Lh (aY.chg.below0 δ)
     clear aY
     have bC:=Lh (cP.o.then aK.o)
     obtain ⟨⟨c0,c1,bS,zc⟩,-⟩:=HB.o wr bC.o
     have q0:=Xc aK.o dR.o
     have zq:=Bl q0
     by_cases eL:p<l.length
     ·obtain ⟨x,hx⟩:∃ y,l[p]?=some y:=⟨_,Lg eL⟩
      obtain ⟨b1,o1,rfl,eR,x0,⟨av,x1,cA⟩,dB⟩:=(dT.o.cals (aK.o.mono aT.o.b.size)).nth hx
      obtain ⟨aI,aJ,rfl⟩:=cA.form
      have bR:=Lh hx
      have cK:=Lh dB
      have eA:=Lh (OK.o.a l (Lm HX.o) x (Lm hx))
      have cQ:=Lh cA
      have fE:(0:Int)<=(p:Int):=In _
      have fF:(p:Int)<(l.length:Int):=ω
      have dS:Hid (Xth [((π b1 (o1+p*2)),.string x.proc),((π b1 (o1+p*2+1)),σ aI x.args.length aJ),((π b0 (o0+k)),σ (some (π b1 o1)) l.length xc),((π w.heap.size 0),σ fa cd.fields.length fc),((π w.heap.size 1),ι cd.globals),((π w.heap.size 2),σ qa cd.funcs.length qc)] wr):=Lh (.cons x0 (.cons x1 (.cons q0 (.cons c0 (.cons c1 (.cons bS .nil))))))
      have HT:Hid (∀ V,Xth [((π b1 (o1+p*2)),.string x.proc),((π b1 (o1+p*2+1)),σ aI x.args.length aJ),((π b0 (o0+k)),σ (some (π b1 o1)) l.length xc),((π w.heap.size 0),σ fa cd.fields.length fc),((π w.heap.size 1),ι cd.globals),((π w.heap.size 2),σ qa cd.funcs.length qc)] V->V.cell? (π b1 (o1+p*2))=some (.string x.proc)/\V.cell? (π b1 (o1+p*2+1))=some (σ aI x.args.length aJ)/\V.cell? (π b0 (o0+k))=some (σ (some (π b1 o1)) l.length xc)/\V.cell? (π w.heap.size 0)=some (σ fa cd.fields.length fc)/\V.cell? (π w.heap.size 1)=some (ι cd.globals)/\V.cell? (π w.heap.size 2)=some (σ qa cd.funcs.length qc)):=Lh (fun V h=>⟨h.get 0 rfl,h.get 1 rfl,h.get 2 rfl,h.get 3 rfl,h.get 4 rfl,h.get 5 rfl⟩)
      have ZB:Hid (b1<wi.heap.size/\b0<wi.heap.size):=Lh (by have:=aT.o.b.size;have:=ZL.o;omega)
      clear x0 x1 hx cA eR c0 c1 bS zc dB
      go_upto_region 23 with fail
      have HD:=Lh (dS.o.keep (Xh Br 1))
      have cD:=Lh (Xh bC.o 1)
      have cJ:=Lh (HB.o wr.drew cD.o)
      have eB:Hid (J8 w.heap.size wr.drew (.agg #[.string x.proc,σ aI x.args.length aJ]) x):=Lh ⟨_,rfl,cQ.o.ints ((Xh Br 1).mono (HB.o wr bC.o).b.size),cK.o⟩
      clear q0 zq
      refine Xyo (Xth [((π b1 (o1+p*2)),.string x.proc),((π b1 (o1+p*2+1)),σ aI x.args.length aJ),((π b0 (o0+k)),σ (some (π b1 o1)) l.length xc),((π w.heap.size 0),σ fa cd.fields.length fc),((π w.heap.size 1),ι cd.globals),((π w.heap.size 2),σ qa cd.funcs.length qc)]) [9] κ κ HD.o ?_
      repeat (first|(refine' Xto (Eq.refl false) rfl _ (fun wV aE=>?_) ?_;rotate_left;(replace aE:=HT.o _ aE);go_simp;(try with_reducible rfl);try simp only [Ap])|(refine Xtn rfl ?_;try simp only [Ap]))
      refine Xv9 (Eq.refl true) rfl ?_
      go_simp
      go_at_call 55
      refine (Xd2 cd _ x _ fuel w.heap.size wr.drew cJ.o.b.size cJ.o.cod eB.o).mono ?_
      rintro e w6 ⟨rfl,bG⟩
      rw [givenE_fuel aR.o]
      have bN:=Lh (HD.o.keep bG)
      have bM:=Lh (cD.o.then bG)
      have bF:Hid (Below wr.heap.size wr w6):=Lh ((Xh Br 1).then bG)
      refine ⟨bN.o,?_⟩
      clear bG
      obtain ⟨ge,bX⟩:∃ q,q=Yd cd x 0:=⟨_,rfl⟩
      rw [<-bX]
      have cF:=Lh bX
      clear bX
      repeat (first|(refine' Xto (Eq.refl false) rfl _ (fun wV aE=>?_) ?_;rotate_left;(replace aE:=HT.o _ aE);go_simp;(try with_reducible rfl);try simp only [Ap])|(refine Xtn rfl ?_;try simp only [Ap]))
      refine Xxz ?_
      by_cases bA:ge=0
      ·subst bA
       have dL:Hid (∀ y∈l.take (p+1),Yd cd y 0=0):=Lh (fun y hy=>by
        rw [List.take_add_one,bR.o] at hy
        rcases List.mem_append.1 hy with hy|hy
        ·exact bP.o y hy
        ·simp at hy;subst hy;exact cF.o.symm)
       go_upto_region 26 with fail
       obtain ⟨V,hV⟩:∃ V,V=w6:=⟨_,rfl⟩
       rw [<-hV] at bN bM bF ⊢
       clear hV
       have dO:Hid (∀ b,V.heap.size<=b->c2 b=0):=Lh (fun b hb=>aP.o.hi b (Nt bF.o.size hb))
       have HE:Hid ((V.alloc (χ #[] 3)).drew.heap[V.heap.size]?=some (χ #[] 3 (0,0))):=Lh (Hn V _)
       have cE:Hid (Below V.heap.size V (V.alloc (χ #[] 3)).drew):=Lh (Xsh V _)
       have dQ:Hid (Xf w.heap.size (V.alloc (χ #[] 3)).drew 1 Zd (σ aI x.args.length aJ) x.args):=Lh (cQ.o.ints ((bF.o.then cE.o).mono (HB.o wr bC.o).b.size))
       obtain ⟨v0,v1,v2,-⟩:=HT.o V bN.o
       have aD:=Lh (And.intro v0 (And.intro v1 v2))
       refine X6 (fun Vs=>Vs.cell? (π b1 (o1+p*2))=some (.string x.proc)/\Vs.cell? (π b1 (o1+p*2+1))=some (σ aI x.args.length aJ)/\Vs.cell? (π b0 (o0+k))=some (σ (some (π b1 o1)) l.length xc)) [9,18,19,20,21,22] true 23 rfl κ κ ⟨v0,v1,v2⟩ ?_
       repeat (first|(refine' Xr4.take (Eq.refl false) _ (fun wV aE=>?_) ?_;rotate_left;(try dsimp only at aE);go_simp;(try with_reducible rfl);try simp only [Ap])|refine Xr4.skip (Eq.refl true) ?_)
       refine Xr4.stop ?_
       simp only [List.nil_append,List.cons_append]
       clear v0 v1 v2
       refine X5 κ ?_
       go_simp
       refine ⟨⟨Xc (Xa _ _) aD.o.1,Xc (Xa _ _) aD.o.2.1,Xc (Xa _ _) aD.o.2.2⟩,?_⟩
       refine X5 κ ?_
       refine Xuy (w0:=V) (.tmp 105) (.tmp 113) rfl (c:=c2) V.heap.size HE.o rfl cE.o (Nr _) aI x.args.length aJ x.args w.heap.size rfl dQ.o eA.o dO.o (fun g1 bT w8 dA cT _=>?_)
       have dW:=Lh dA
       have aG:=Lh cT
       clear dA cT
       refine ⟨.inl ⟨Xc aG.o aD.o.1,Xc aG.o aD.o.2.1,Xc aG.o aD.o.2.2⟩,?_⟩
       (refine' Z6 κ _ (fun wV aE=>?_) ?_;rotate_left;(clear aE;go_simp);(try with_reducible rfl);try simp only [Ap])
       refine X5 κ ?_
       go_simp
       refine ⟨⟨Xc (Xa _ _) (Xc aG.o aD.o.1),Xc (Xa _ _) (Xc aG.o aD.o.2.1),Xc (Xa _ _) (Xc aG.o aD.o.2.2)⟩,?_⟩
       have cO:Hid (Below wr.heap.size wr w8):=Lh (bF.o.then aG.o)
       have cN:Hid (Below wr.heap.size wr (w8.alloc (χ #[.string x.proc,σ (some (π g1 0)) x.args.length bT] 80))):=Lh (cO.o.then (Xa _ _))
       have dN:Hid (∀ b,(w8.alloc (χ #[.string x.proc,σ (some (π g1 0)) x.args.length bT] 80)).heap.size<=b->c2 b=0):=Lh (fun b hb=>aP.o.hi b (Nt cN.o.size hb))
       refine X5 κ ?_
       refine Xsy (fun t=>t=1) (.tmp 96) (.tmp 116) 54 80 rfl Tryz.underlying54 Xzd rfl δ δ (c:=c2) (tag:=1) (v:=σ oa p aA) (n:=p) (xs:=xs) rfl (aP.o.row.keep (T:=NO) (Chg.of_below (c:=c2) cN.o (fun h=>h)) (fun h=>h)) (π w8.heap.size 0) 1 1 [.string x.proc,σ (some (π g1 0)) x.args.length bT] rfl rfl (fun j u hu=>(Xso w8 _ _ j).trans (by simpa using hu)) (by simp [Value.oneCell']) δ (by have:=aS.o;omega) rfl δ dN.o (fun g2 eD w9 c9 aB hC bB bV=>?_)
       have cZ:=aP.o.next bR.o cK.o cO.o dW.o hC bB aB
       have dU:=Lh cZ
       have bJ:∀ b,b<wi.heap.size->¬c2 b=1:=fun b hb=>by rw [aP.o.chg.old b hb,Xxq hb];decide
       refine ⟨.inl ⟨hC.cell (Xc (Xa _ _) (Xc aG.o aD.o.1)) (bJ _ (by have:=ZB.o.1;omega)),hC.cell (Xc (Xa _ _) (Xc aG.o aD.o.2.1)) (bJ _ (by have:=ZB.o.1;omega)),hC.cell (Xc (Xa _ _) (Xc aG.o aD.o.2.2)) (bJ _ (by have:=ZB.o.2;omega))⟩,?_⟩
       clear aB hC bB bV cZ bJ
       refine X5 κ ?_
       go_simp
       refine Xr3 ?_
       have eK:=aS.o
       go_wp2
       go_roundw
       case rel=>exact ⟨p+1,_,_,ω,rfl,by go_num,Lh ⟨_,_,dU.o⟩,dL⟩
       case measure=>simp [intOf];omega
      ·have dV:=Lh bA
       have fD:(ge != 0)=true:=by simpa using bA
       have dX:Hid (Xsx cd cs=ge):=Lh (by
        have h:=cF.o
        rw [h]
        exact Xw0 HX.o HG.o bR.o bP.o (by rw [<-h];exact bA))
       clear bA
       obtain ⟨⟨y0,y1,y2,y3,y4,y5,y6,y7,y8,y9⟩,⟨z0,z1,z2,z3,z4,z5,z6,z7,z8,z9⟩,zR⟩:=ten (HB.o w6 bM.o).t
       go_wp2
       exact nw_err rfl (HB.o w6 bM.o) (cI.o.trans dX.o) dV.o rfl rfl rfl
     ·obtain rfl:p=l.length:=ω
      have eF:=aP.o.post
      obtain ⟨eP,eQ,cV,eE,dC⟩:=eF
      have eC:=Lh dC
      have dM:Hid (∀ z∈cs.take (k+1),∀ y∈z,Yd cd y 0=0):=Lh (fun z hz y hy=>by
       rw [List.take_add_one,HX.o] at hz
       rcases List.mem_append.1 hz with hz|hz
       ·exact HG.o z hz y hy
       ·simp at hz;subst hz;exact bP.o y (by rw [List.take_length];exact hy))
      obtain ⟨rfl,rfl⟩:oa=eP/\aA=eQ:=by simpa using cV
      have cH:Hid ((cs.take k).length=k):=Lh (by rw [List.length_take];omega)
      have LB:=Lh HS.o.st.lab
      obtain ⟨dD,dE,eO,p5,bZ,cW⟩:=HS.o.st.pushC
      rw [show ({ Xy9 m cs.length fuel with calls:=cs.take k }:Thr).calls.length=k from cH.o] at p5 bZ
      have dY:=Lh bZ
      have dK:=Lh cW
      have eT:=Lh p5
      have p6:=Xc aK.o p5
      have zb:bo<wr.heap.size:=Nl LB.o.2.1 aK.o.size
      clear bZ cW cV eE dC p5 c0 c1 bS zc
      have cC:Hid (Chg (fun t=>t=19) c c wi wr):=Lh (Chg.of_below aK.o ω)
      have cM:Hid (∀ b,wr.heap.size<=b->c b=0):=Lh (fun b hb=>LB.o.2.2.1 b (Nt aK.o.size hb))
      have dG:Hid (∀ b,(wr.alloc (χ #[σ oa l.length aA] 54)).heap.size<=b->c b=0):=Lh (fun b hb=>cM.o b (by simp at hb;omega))
      have bE:Hid (Chg (fun t=>t=19) c c wi (wr.alloc (χ #[σ oa l.length aA] 54))):=Lh (cC.o.trans (Chg.of_below (Xa _ _) ω))
      go_wp2_with (at_builtin;refine wpList_plain rfl (fun K hK=>?_);refine Xsy (fun t=>t=6) (.tmp 119) (.tmp 121) 29 54 rfl Tryz.underlying29 Xw9 rfl δ δ (c:=c) (tag:=6) (v:=σ dD k dE) (n:=k) (xs:=eO) rfl (dY.o.keep bE.o ω) (π wr.heap.size 0) 1 1 [σ oa l.length aA] rfl rfl (fun j u hu=>(Xso wr _ _ j).trans (by simpa using hu)) (by simp [Value.oneCell']) δ (by have:=H8.o;omega) rfl δ dG.o (fun g6 aW v6 cR aB hC bB bV=>?_);obtain ⟨aC,aL⟩:=dK.o wr c v6 cR (σ oa l.length aA) l (σ (some (π g6 0)) (k+1) aW) cC.o cM.o (eC.o c (fun b hb=>LB.o.2.2.1 b hb)) ((Chg.of_below (Xa _ _) ω).trans hC) bB (by rw [show ({ Xy9 m cs.length fuel with calls:=cs.take k }:Thr).calls.length=k from cH.o];exact aB);have e0:=hC.cell (Xc (Xa _ _) p6) (by show ¬c _=_;rw [LB.o.1];omega);have ef:v6.frozen? (π bo 5)=false:=hC.frozen (Nl LB.o.2.1 bE.o.size) (bE.o.frozen LB.o.2.1 (LB.o.2.2.2 5) (by show ¬c bo=_;rw [LB.o.1];omega)) (by show ¬c bo=_;rw [LB.o.1];omega);have zv:bo<v6.heap.size:=Nl LB.o.2.1 (Nt bE.o.size hC.size))
      obtain ⟨W6,bU⟩:∃ u,u=v6.setCell (π bo 5) (σ (some (π g6 0)) (k+1) aW):=⟨_,rfl⟩
      rw [<-bU] at aC aL
      have dZ:Hid (X19 m cs fuel wo.drew (fun b=>if b=w.heap.size+1+1 then 14 else 0) bo (k+1) W6 cR):=Lh ⟨(by
       have e:({ Xy9 m cs.length fuel with calls:=cs.take k++[l] }:Thr)={ Xy9 m cs.length fuel with calls:=cs.take (k+1) }:=by
        rw [List.take_add_one,HX.o];rfl
       rw [<-e];exact aC),HS.o.chg.trans aL⟩
      rw [<-bU]
      clear aC aL aB hC bB bV bU p6
      go_roundw
      case rel=>exact ⟨k+1,ω,by go_num,Lh ⟨_,dZ.o⟩,dM⟩
      case measure=>simp [intOf];omega
   ·obtain rfl:k=cs.length:=ω
    have dH:Hid (Xs9 cd m cs fuel=0):=Lh (cI.o.trans (Xua (by
     have h:=HG.o
     rw [List.take_length] at h
     exact h)))
    have aC:=HS.o.st
    rw [List.take_length] at aC
    have aN:=aT.o.t
    obtain ⟨fA,fB,fG,fH,fL,fM,dD,dE,eW,eX,fJ,fK,eU,eV,eY,eZ,nr,nk,no,nb,ne,aB,aZ⟩:=nw_ok (cd:=cd) (show V2 wi c bo (Xtb m fuel cs) from aC) (cB.o wi c HS.o.chg).2 aN aT.o.b dH.o
    have bO:=Lh aZ
    obtain ⟨⟨x0,x1,x2,x3,x4,x5,x6,x7,x8,x9⟩,-,xz⟩:=ten aB
    obtain ⟨⟨y0,y1,y2,y3,y4,y5,y6,y7,y8,y9⟩,⟨z0,z1,z2,z3,z4,z5,z6,z7,z8,z9⟩,zz⟩:=ten aN
    clear aN aB aC aZ
    go_wp2_with fail
    exact bO.o _ rfl _ rfl rfl rfl
