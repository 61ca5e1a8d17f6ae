import Derived.Test.YtigbfkiddlhhjaaGreatDoorSqh
set_option maxHeartbeats 8000000
set_option maxRecDepth 1000000
set_option linter.all false
open Go renaming World→Ϣ,Value→ϒ,Calls→ϙ
open Go.RowKit renaming Below→ϐ
open Option renaming some→D
open Bool renaming false→ϝ,true→ϑ
open Go.Value renaming slice→O
open Go.Obj renaming cells→Z
namespace Go.Proofs.YtigbfkiddlhhjaaGreatDoor
open Go.RowKit Proofs.Tryz
open Go.RowKit renaming ι→X,π→H,ν→U,ω→K
variable{T:TypeId}{B:Nat}{w:Ϣ}{c:AQ}{A:Array ϒ}{o:Obj}{f:BK}{x:Cd}
def BoT(w:Ϣ)(e:Ending)(w':Ϣ):Prop:=e=.returned (.bool ϑ)/\ϐ w w w'
def Xkw(w:Ϣ)(a:Int)(e:in64 a):AE (w.alloc (Z #[X a] 3)).heap.size (w.alloc (Z #[X a] 3)) 1 Aj (O (D (H w 0)) 1 1) [a]:=by
 refine⟨_,1,rfl,ψ,ψ,K,.inr ⟨_,0,rfl,ψ,λi x d=>?_⟩⟩
 match i,d with
 |0,b=>cases b;exact⟨(B6 w _ _ 0).trans rfl,e⟩
 |i+1,c=>cases c
def Xgx:An 19:=λ_ _=>by kernel_rfl
def Xov{a b:Nat}(g:w.heap[a]?=D (Z #[.string ⟨#[97,100,100]⟩,U] 64 (0,0)))(k:w.heap[b]?=D (Z #[O (D (H a 0)) 1 1,O (D (H a 0)) 1 1] 65 (0,0)))(l:a<B)(m:b<B):AE B w 1 (Bg 2 (DA B) B) (O (D (H b 0)) 2 2) Xfq:=by
 have j:AE B w 2 (DA B) (O (D (H a 0)) 1 1) [ctX]:=by
  refine⟨_,1,rfl,ψ,ψ,K,.inr ⟨_,0,rfl,l,λi x a=>?_⟩⟩
  match i,a with
  |0,h=>cases h;exact⟨Cr g rfl,⟨U,Cr g rfl,none,0,rfl,by simp[ctX],by simp[ctX],K,.inl rfl⟩,δ⟩
  |i+1,c=>cases c
 refine⟨_,2,rfl,by simp[Xfq],by simp[Xfq],K,.inr ⟨_,0,rfl,m,λi x a=>?_⟩⟩
 match i,a with
 |0,d=>cases d;exact⟨_,Cr k rfl,j⟩
 |1,e=>cases e;exact⟨_,Cr k rfl,j⟩
 |i+2,f=>cases f
def Rb(w:Ϣ)(pD:C8 w):ϙ prog 5 #[] w (BoT w):=by
 have vX:=Lh pD;let⟨pW,a⟩:=ε (w.alloc (Z #[.string ⟨#[97,100,100]⟩,U] 64));have sR:=Lh (bl1 a);have tH:=Lh (sz1 a);have tK:=Lh (Xao a);go_in;go_upto_region 2 with fail;rw[<-a];clear a;go_wp2_with fail;refine(Xc0 pW).mono ?_;rintro tM nT⟨_,_,_,_,rfl,oO,oX⟩;have tI:=Lh oO;have pI:=Lh oX;let⟨d,a⟩:=ε ((nT.alloc (Z #[X 0] 3)).alloc (Z #[O (D (H w 0)) 1 1,O (D (H w 0)) 1 1] 65));have nX:=Lh (bl2 a);let⟨pG,oY,pZ,rN⟩:=Λ4 (pI.o.th nX.o) (sz2 a) (Xct a) (Xcm a);have sW:Hid (Lw d d (.agg #[O (D (H nT 0)) 1 1,U]) ⟨[0],[]⟩):=Lh ⟨_,_,rfl,⟨_,1,rfl,ψ,ψ,K,.inr ⟨_,0,rfl,by have:=oY.o;omega,λi x oO=>by
  match i,oO with
  |0,oG=>cases oG;exact⟨Cr pZ.o rfl,by unfold in64;omega⟩
  |i+1,oH=>cases oH⟩⟩,⟨none,0,rfl,ψ,ψ,K,.inl rfl⟩⟩
 have rF:=@Lh (AE d d 1 (Bg 2 (DA d) d) (O (D (H (nT+1) 0)) 2 2) Xfq) (by
  have:=tH.o;have:=pI.o.size;have:=oY.o;exact Xov ((pG.o.block _ K).trans tK.o) rN.o K K)
 go_wp2_with fail;rw[<-a];clear a;refine(Xf9 ctC ⟨[0],[]⟩ Xfq 9 _ _ _ d (vX.o.below (sR.o.th pG.o)) ((tI.o.below nX.o).up nX.o.size) sW.o rF.o (by unfold in64;omega) ⟨ψ,ψ,ψ,λwA mC x nN=>by
  simp only[Xfq,List.mem_cons,List.not_mem_nil,or_false,or_self]at mC;subst mC;simp only[List.mem_cons,List.not_mem_nil,or_false]at nN;subst nN;simp[ctX]⟩).mono ?_
 rintro d pJ⟨b,oI⟩;rcases oI with ⟨oZ,-⟩|⟨-,sY,rfl,l⟩
 .exact absurd Xo4 oZ
 rw[Xk4]at l;let⟨g,a⟩:=ε Xob;rw[<-a]at l;have tT:=Lh a;clear a;obtain⟨qC,qD,qE,qF,qG,qH,qI,qJ,qK,qL,qM,qN,qO,qP,qQ,qR,qS,qT,qU,qV,qW,cQ,qX,qY,qZ,rA,rB,rfl⟩:=l.shape;have vH:=Lh l;have d:=Lh ((sR.o.th pG.o).th b);clear b;let⟨A,e⟩:=ε (pJ.alloc (Z #[O qC qD qE,O qF qG qH,O qI qJ qK,X g.q3,X g.Y,O qL qM qN,O qO qP qQ,O qR qS qT,O qU qV qW,O cQ qX qY,O qZ rA rB,X g.q5,X g.U] 39));have rG:=Lh (bl1 e);have nZ:=Lh (Xao e);have wB:=Lh (d.o.th rG.o);let⟨b,a⟩:=ε (pJ:Nat);go_upto_region 3 with fail;rw[<-e,<- a];rw[<-a]at nZ;clear e a;have mC:Hid (∀a,ϐ A A a->a.cell? (H b 0)=D (O qC qD qE)/\a.cell? (H b 1)=D (O qF qG qH)/\a.cell? (H b 2)=D (O qI qJ qK)/\a.cell? (H b 3)=D (X g.q3)/\a.cell? (H b 4)=D (X g.Y)/\a.cell? (H b 5)=D (O qL qM qN)/\a.cell? (H b 6)=D (O qO qP qQ)/\a.cell? (H b 7)=D (O qR qS qT)/\a.cell? (H b 8)=D (O qU qV qW)/\a.cell? (H b 9)=D (O cQ qX qY)/\a.cell? (H b 10)=D (O qZ rA rB)/\a.cell? (H b 11)=D (X g.q5)/\a.cell? (H b 12)=D (X g.U)):=Lh (λa l=>by
  have d:=row13 ((l.block b (La nZ.o)).trans nZ.o);exact⟨d 0 _ rfl,d 1 _ rfl,d 2 _ rfl,d 3 _ rfl,d 4 _ rfl,d 5 _ rfl,d 6 _ rfl,d 7 _ rfl,d 8 _ rfl,d 9 _ rfl,d 10 _ rfl,d 11 _ rfl,d 12 _ rfl⟩)
 have sZ:Hid (∀a,ϐ A A a->C8 a/\TraVs a.heap.size a [O qC qD qE,O qF qG qH,O qI qJ qK,X g.q3,X g.Y,O qL qM qN,O qO qP qQ,O qR qS qT,O qU qV qW,O cQ qX qY,O qZ rA rB,X g.q5,X g.U] g):=Lh (λa l=>by
  have d:=rG.o.th l;exact⟨vX.o.below (wB.o.th l),vH.o.ups d.size (JT.below d)⟩)
 refine Ac (λa=>a.cell? (H b 0)=D (O qC qD qE)/\a.cell? (H b 1)=D (O qF qG qH)/\a.cell? (H b 2)=D (O qI qJ qK)/\a.cell? (H b 3)=D (X g.q3)/\a.cell? (H b 4)=D (X g.Y)/\a.cell? (H b 5)=D (O qL qM qN)/\a.cell? (H b 6)=D (O qO qP qQ)/\a.cell? (H b 7)=D (O qR qS qT)/\a.cell? (H b 8)=D (O qU qV qW)/\a.cell? (H b 9)=D (O cQ qX qY)/\a.cell? (H b 10)=D (O qZ rA rB)/\a.cell? (H b 11)=D (X g.q5)/\a.cell? (H b 12)=D (X g.U)) [0,2,3,4,5,6,7,8,9,10,11] ϝ 12 rfl κ κ (mC.o _ (AG (Below.refl _ A) 1)) ?_;refine Xac ?_;let⟨A1,b⟩:=ε A.drew;rw[<-b];have uU:=@Lh (ϐ A A A1) (by rw[b];exact AG (Below.refl _ A) 1);clear b;refine Xjm (λvQ vN pP=>∃(f:Nat->ϒ)(h:Nat)(sY:List ϒ),sY.length=13/\ϐ A1 A1 pP/\pP.heap[h]?=D (Z sY.toArray 39 (0,0))/\TraVs pP.heap.size pP sY Xar/\Xba ctC Xar/\f 4=.pointer (D (H h 0))/\f 5=X 6/\f 6=X 0/\vN=GS vQ (λi=>i) f [6,5,4,28,27,26,21,25,24,22]) (λa=>ϐ A1 A1 a) (λa l=>mC.o a (uU.o.th l)) (λb d pY vU=>?_) ?_
 .refine Jg (Xpr ..) ?_
  refine Xny (rest:=[_,_,_,_,_,_,_]) ⟨rfl,rfl⟩ (λb w=>by go_simp) rfl (λb w=>by go_simp) rfl Xgx pY δ κ κ κ (λf a lF=>?_) (λf a lF=>?_)
  .obtain ⟨vD,vF,vE,vG,b,pO⟩:=lF.c0 ψ
   let⟨vZ,mC,nN⟩:=lF.c2 ψ;let⟨h,d,oS,vM⟩:=lF.c8 ψ;rw[b]at pO;simp only[GS,show Xd6 0=22 from rfl,show Xd6 2=24 from rfl,show Xd6 8=4 from rfl,b,mC,d,Act.put,List.setIfInBounds_toArray,List.set_cons_zero,List.set_cons_succ];refine AH κ ?_;go_simp;have l:=uU.o.th lF.below;refine(Xgq ctC vD vF vE vG g [O qC qD qE,O qF qG qH,O qI qJ qK,X g.q3,X g.Y,O qL qM qN,O qO qP qQ,O qR qS qT,O qU qV qW,O cQ qX qY,O qZ rA rB,X g.q5,X g.U] [0,1,0,1,0,1] _ _ a (sZ.o a l).1 Xdy pO (sZ.o a l).2 (by rw[tT.o];exact Xm7) nN.ints).mono ?_;rintro b nQ⟨oC,oJ⟩;rcases oJ with ⟨tA,-⟩|⟨-,i,vT,vS,tC,pR,qA,-,tB,rfl,rE,c,pQ,tJ,vR⟩
   .simp at tA
   rw[tT.o]at pR;obtain⟨rfl,rfl⟩:=Xi9.run tC pR tB;obtain⟨kC,kD,kE,kF,kG,kH,kI,kJ,kK,kL,kM,kN,kO,kP,kQ,kR,kS,kT,kU,kV,kW,kX,kY,kZ,lA,lB,lC,rfl⟩:=pQ.shape;have mC:=lF.below.th oC;have b:=(oC.block h (La oS)).trans oS;have nX:=tJ h (La oS);refine⟨pY nQ mC,?_⟩
   (refine' Ae κ _ (λd e=>?_) ?_;rotate_left;(clear e;go_simp);(try with_reducible rfl);try simp only[Ap])
   (refine' Ae κ _ (λd e=>?_) ?_;rotate_left;(clear e;go_simp);(try with_reducible rfl);try simp only[Ap])
   (refine' Ae κ _ (λd e=>?_) ?_;rotate_left;(clear e;go_simp);(try with_reducible rfl);try simp only[Ap])
   (refine' Ae κ _ (λd e=>?_) ?_;rotate_left;(clear e;go_simp);(try with_reducible rfl);try simp only[Ap])
   refine AH κ ?_;have:=ϵ b;have:=ϴ b;have nT:=Xab b (O kC kD kE) (O kF kG kH) (O kI kJ kK) (X Xar.q3) (X Xar.Y) (O kL kM kN) (O kO kP kQ) (O kR kS kT) (O kU kV kW) (O kX kY kZ) (O lA lB lC) (X Xar.q5) (X Xar.U);have nN:AT (λb=>b=14) c c nQ (Xaa nQ h 0 [O kC kD kE,O kF kG kH,O kI kJ kK,X Xar.q3,X Xar.Y,O kL kM kN,O kO kP kQ,O kR kS kT,O kU kV kW,O kX kY kZ,O lA lB lC,X Xar.q5,X Xar.U]):=Xak nX K _ _ _;have d:ϐ A1 A1 (Xaa nQ h 0 [O kC kD kE,O kF kG kH,O kI kJ kK,X Xar.q3,X Xar.Y,O kL kM kN,O kO kP kQ,O kR kS kT,O kU kV kW,O kX kY kZ,O lA lB lC,X Xar.q5,X Xar.U]):=Xal vM _ _ mC;have mC:=(pQ.kp nN (Xai λnN b=>by omega)).q4 (Xbh.wf qA.inv qA.outs qA.steps);let⟨_,b⟩:=ε (Xaa nQ h 0 [O kC kD kE,O kF kG kH,O kI kJ kK,X Xar.q3,X Xar.Y,O kL kM kN,O kO kP kQ,O kR kS kT,O kU kV kW,O kX kY kZ,O lA lB lC,X Xar.q5,X Xar.U]);rw[<-b]at nT d mC;go_simp;rw[Xaf,<- b];refine⟨pY _ d,?_⟩
   (refine' Ae κ _ (λb e=>?_) ?_;rotate_left;(clear e;go_simp);(try with_reducible rfl);try simp only[Ap])
   (refine' Ae κ _ (λb e=>?_) ?_;rotate_left;(clear e;go_simp);(try with_reducible rfl);try simp only[Ap])
   refine BH (vU _ _ ⟨λi=>if i=4 then .pointer (D (H h 0))else if i=5 then X 6 else if i=6 then X 0 else if i=28 then X 0 else if i=27 then X 6 else if i=26 then .agg #[O kC kD kE,O kF kG kH,O kI kJ kK,X Xar.q3,X Xar.Y,O kL kM kN,O kO kP kQ,O kR kS kT,O kU kV kW,O kX kY kZ,O lA lB lC,X Xar.q5,X Xar.U]else if i=21 then .tuple #[.agg #[O kC kD kE,O kF kG kH,O kI kJ kK,X Xar.q3,X Xar.Y,O kL kM kN,O kO kP kQ,O kR kS kT,O kU kV kW,O kX kY kZ,O lA lB lC,X Xar.q5,X Xar.U],X 6,X 0]else if i=25 then .tuple #[.agg #[O kC kD kE,O kF kG kH,O kI kJ kK,X Xar.q3,X Xar.Y,O kL kM kN,O kO kP kQ,O kR kS kT,O kU kV kW,O kX kY kZ,O lA lB lC,X Xar.q5,X Xar.U],X 6,X 0]else if i=24 then O (D (H vZ 0)) 6 6 else .agg #[O vD ctC.H vE,X 1,O vF ctC.q0 vG],h,[O kC kD kE,O kF kG kH,O kI kJ kK,X Xar.q3,X Xar.Y,O kL kM kN,O kO kP kQ,O kR kS kT,O kU kV kW,O kX kY kZ,O lA lB lC,X Xar.q5,X Xar.U],rfl,d,nT,mC,qA,rfl,rfl,rfl,?_⟩);simp only[GS,Act.put,List.setIfInBounds_toArray,List.set_cons_zero,List.set_cons_succ];rfl
  obtain⟨uZ,vB,vA,vC,b,pO⟩:=lF.c0 ψ;let⟨vY,d,kC⟩:=lF.c2 ψ;rw[b]at pO;simp only[GS,show Xd6 0=22 from rfl,show Xd6 2=24 from rfl,b,d,Act.put,List.setIfInBounds_toArray,List.set_cons_zero,List.set_cons_succ];go_simp;have l:=uU.o.th lF.below;refine(Xgq ctC uZ vB vA vC g [O qC qD qE,O qF qG qH,O qI qJ qK,X g.q3,X g.Y,O qL qM qN,O qO qP qQ,O qR qS qT,O qU qV qW,O cQ qX qY,O qZ rA rB,X g.q5,X g.U] [0,1,0,1,0,1] _ _ a (sZ.o a l).1 Xdy pO (sZ.o a l).2 (by rw[tT.o];exact Xm7) kC.ints).mono ?_;rintro b lE⟨qB,oK⟩;rcases oK with ⟨tA,-⟩|⟨-,i,vT,vS,tC,pR,qA,-,tB,rfl,rE,c,pQ,tJ,vR⟩
  .simp at tA
  rw[tT.o]at pR;obtain⟨rfl,rfl⟩:=Xi9.run tC pR tB;obtain⟨mL,mM,mN,mO,mP,mQ,mR,mS,mT,mU,mV,mW,mX,mY,mZ,nA,nB,nC,nD,nF,nG,nH,nI,nJ,nK,nL,nM,rfl⟩:=pQ.shape;have kD:=lF.below.th qB;refine⟨pY lE kD,?_⟩;refine Jg (List.perm_middle (l₁:=[_,_,_,_]) (l₂:=[_,_,_])) ?_;simp only[List.cons_append,List.nil_append]
  (refine' Ae κ _ (λb e=>?_) ?_;rotate_left;(clear e;go_simp);(try with_reducible rfl);try simp only[Ap])
  (refine' Ae κ _ (λb e=>?_) ?_;rotate_left;(clear e;go_simp);(try with_reducible rfl);try simp only[Ap])
  (refine' Ae κ _ (λb e=>?_) ?_;rotate_left;(clear e;go_simp);(try with_reducible rfl);try simp only[Ap])
  (refine' Ae κ _ (λb e=>?_) ?_;rotate_left;(clear e;go_simp);(try with_reducible rfl);try simp only[Ap])
  refine AH κ ?_;go_simp;let⟨g,d⟩:=ε (lE.alloc (Z #[U,U,U,X 0,X 0,U,U,U,U,U,U,X 0,X 0] 39));have kC:=bl1 d;have b:=Xao d;rw[<-d];refine⟨pY g (kD.th kC),?_⟩;refine AH κ ?_;have:=ϵ b;have:=ϴ b;have kE:=Xab b (O mL mM mN) (O mO mP mQ) (O mR mS mT) (X Xar.q3) (X Xar.Y) (O mU mV mW) (O mX mY mZ) (O nA nB nC) (O nD nF nG) (O nH nI nJ) (O nK nL nM) (X Xar.q5) (X Xar.U);have b:ϐ lE lE (Xaa g (lE:Nat) 0 [O mL mM mN,O mO mP mQ,O mR mS mT,X Xar.q3,X Xar.Y,O mU mV mW,O mX mY mZ,O nA nB nC,O nD nF nG,O nH nI nJ,O nK nL nM,X Xar.q5,X Xar.U]):=Xal (Nr _) _ _ kC;have kC:=kD.th b;have kD:=rE.ups b.size (JT.below b);let⟨_,b⟩:=ε (Xaa g (lE:Nat) 0 [O mL mM mN,O mO mP mQ,O mR mS mT,X Xar.q3,X Xar.Y,O mU mV mW,O mX mY mZ,O nA nB nC,O nD nF nG,O nH nI nJ,O nK nL nM,X Xar.q5,X Xar.U]);rw[<-b]at kE kC kD;clear d;go_simp;rw[Xaf,<- b];refine⟨pY _ kC,?_⟩
  (refine' Ae κ _ (λb e=>?_) ?_;rotate_left;(clear e;go_simp);(try with_reducible rfl);try simp only[Ap])
  (refine' Ae κ _ (λb e=>?_) ?_;rotate_left;(clear e;go_simp);(try with_reducible rfl);try simp only[Ap])
  refine BH (vU _ _ ⟨λi=>if i=4 then .pointer (D (H lE 0))else if i=5 then X 6 else if i=6 then X 0 else if i=28 then X 0 else if i=27 then X 6 else if i=26 then .agg #[O mL mM mN,O mO mP mQ,O mR mS mT,X Xar.q3,X Xar.Y,O mU mV mW,O mX mY mZ,O nA nB nC,O nD nF nG,O nH nI nJ,O nK nL nM,X Xar.q5,X Xar.U]else if i=21 then .tuple #[.agg #[O mL mM mN,O mO mP mQ,O mR mS mT,X Xar.q3,X Xar.Y,O mU mV mW,O mX mY mZ,O nA nB nC,O nD nF nG,O nH nI nJ,O nK nL nM,X Xar.q5,X Xar.U],X 6,X 0]else if i=25 then .tuple #[.agg #[O mL mM mN,O mO mP mQ,O mR mS mT,X Xar.q3,X Xar.Y,O mU mV mW,O mX mY mZ,O nA nB nC,O nD nF nG,O nH nI nJ,O nK nL nM,X Xar.q5,X Xar.U],X 6,X 0]else if i=24 then O (D (H vY 0)) 6 6 else .agg #[O uZ ctC.H vA,X 1,O vB ctC.q0 vC],(lE:Nat),[O mL mM mN,O mO mP mQ,O mR mS mT,X Xar.q3,X Xar.Y,O mU mV mW,O mX mY mZ,O nA nB nC,O nD nF nG,O nH nI nJ,O nK nL nM,X Xar.q5,X Xar.U],rfl,kC,kE,kD,qA,rfl,rfl,rfl,?_⟩);simp only[GS,Act.put,List.setIfInBounds_toArray,List.set_cons_zero,List.set_cons_succ];rfl
 rintro vN t⟨f,h,sY,-,rM,rQ,rE,oW,oT,oU,oV,rfl⟩;simp only[GS,oT,oU,oV,Act.put,List.setIfInBounds_toArray,List.set_cons_zero,List.set_cons_succ];generalize f 28=u28;generalize f 27=u27;generalize f 26=u26;generalize f 21=u21;generalize f 25=u25;generalize f 24=u24;generalize f 22=u22;let⟨j,b⟩:=ε Xar;rw[<-b]at rE oW;have rJ:=Lh b;clear b;obtain⟨rR,rS,rT,rU,rV,rW,rX,rY,rZ,sA,sB,sC,sD,sF,sG,sH,sI,sJ,sK,sL,sM,sS,rI,sT,sN,sO,sP,rfl⟩:=rE.shape;have vP:=Lh oW;have wC:=Lh ((wB.o.th uU.o).th rM);have d:=Lh rQ;have g:=Lh rE;have vL:Hid (∀a,ϐ t t a->a.cell? (H h 0)=D (O rR rS rT)/\a.cell? (H h 1)=D (O rU rV rW)/\a.cell? (H h 2)=D (O rX rY rZ)/\a.cell? (H h 3)=D (X j.q3)/\a.cell? (H h 4)=D (X j.Y)/\a.cell? (H h 5)=D (O sA sB sC)/\a.cell? (H h 6)=D (O sD sF sG)/\a.cell? (H h 7)=D (O sH sI sJ)/\a.cell? (H h 8)=D (O sK sL sM)/\a.cell? (H h 9)=D (O sS rI sT)/\a.cell? (H h 10)=D (O sN sO sP)/\a.cell? (H h 11)=D (X j.q5)/\a.cell? (H h 12)=D (X j.U)):=Lh (λa l=>by
  have b:=row13 ((l.block h (La d.o)).trans d.o);exact⟨b 0 _ rfl,b 1 _ rfl,b 2 _ rfl,b 3 _ rfl,b 4 _ rfl,b 5 _ rfl,b 6 _ rfl,b 7 _ rfl,b 8 _ rfl,b 9 _ rfl,b 10 _ rfl,b 11 _ rfl,b 12 _ rfl⟩)
 have rO:=@Lh (∀a,ϐ t t a->C8 a/\TraVs a.heap.size a [O rR rS rT,O rU rV rW,O rX rY rZ,X j.q3,X j.Y,O sA sB sC,O sD sF sG,O sH sI sJ,O sK sL sM,O sS rI sT,O sN sO sP,X j.q5,X j.U] j) (λa l=>⟨vX.o.below (wC.o.th l),g.o.ups l.size (JT.below l)⟩);go_upto_region 4 with fail;refine Ac (λa=>a.cell? (H h 0)=D (O rR rS rT)/\a.cell? (H h 1)=D (O rU rV rW)/\a.cell? (H h 2)=D (O rX rY rZ)/\a.cell? (H h 3)=D (X j.q3)/\a.cell? (H h 4)=D (X j.Y)/\a.cell? (H h 5)=D (O sA sB sC)/\a.cell? (H h 6)=D (O sD sF sG)/\a.cell? (H h 7)=D (O sH sI sJ)/\a.cell? (H h 8)=D (O sK sL sM)/\a.cell? (H h 9)=D (O sS rI sT)/\a.cell? (H h 10)=D (O sN sO sP)/\a.cell? (H h 11)=D (X j.q5)/\a.cell? (H h 12)=D (X j.U)) [0,2,3,4,5,6,7,8] ϝ 9 rfl κ κ (vL.o _ (AG (Below.refl _ t) 1)) ?_;refine Xac ?_;let⟨U1,b⟩:=ε t.drew;rw[<-b];have tU:=@Lh (ϐ t t U1) (by rw[b];exact AG (Below.refl _ t) 1);clear b;refine Xjm (λvQ vN pP=>∃(f:Nat->ϒ)(h:Nat)(sY:List ϒ),ϐ U1 U1 pP/\pP.heap[h]?=D (Z sY.toArray 39 (0,0))/\TraVs pP.heap.size pP sY Xah/\f 7=.pointer (D (H h 0))/\f 8=X 0/\vN=GS vQ (λi=>i) f [8,7,34,33,29,32,30]) (λa=>ϐ U1 U1 a) (λa l=>vL.o a (tU.o.th l)) (λb d oD vO=>?_) ?_
 .refine Jg (.cons _ (List.perm_middle (l₁:=[_,_,_,_]) (l₂:=[_,_])).symm) ?_
  refine Dv δ κ ?_ ?_
  .go_simp
   refine(Xc0 _).mono ?_;rintro tN p⟨tD,tF,tE,tG,rfl,pO,rD⟩;refine⟨oD p rD,?_⟩;refine Dv δ κ ?_ ?_
   .go_simp
    let⟨a,b⟩:=ε (p.alloc (Z #[U,U,U,X 0,X 0,U,U,U,U,U,U,X 0,X 0] 39));have d:=bl1 b;have oS:=Xao b;rw[<-b];clear b;have nY:=rD.th d;have pO:=(pO.below d).up d.size;have vK:=rD.size;refine⟨oD a nY,?_⟩;refine AH κ ?_;go_simp;have l:=tU.o.th nY;refine(Xbr ctC tD tF tE tG j [O rR rS rT,O rU rV rW,O rX rY rZ,X j.q3,X j.Y,O sA sB sC,O sD sF sG,O sH sI sJ,O sK sL sM,O sS rI sT,O sN sO sP,X j.q5,X j.U] a (rO.o a l).1 Xdy pO (rO.o a l).2 vP.o).mono ?_;rintro b nP⟨oF,oM⟩;rcases oM with ⟨vW,hF,-,vV,-⟩|⟨vT,vS,hF,pN,-,rP,rfl,vI,c,pQ,tJ,vR⟩
    .rw [rJ.o]at hF
     have:=(Xfk hF).1;omega
    rw[rJ.o]at hF;obtain rfl:=(Xfk hF).2 rP;obtain⟨Q,R,S,T,V,W,Y,iP,iQ,jJ,jK,jL,jM,jN,jO,jP,jQ,jR,jS,jT,jU,jV,jW,jX,jY,jZ,kA,rfl⟩:=pQ.shape;have g:=nY.th oF;have b:=(oF.block (p:Nat) (La oS)).trans oS;have d:=tJ ((p:Nat)) (La oS);refine⟨oD nP g,?_⟩
    (refine' Ae κ _ (λt e=>?_) ?_;rotate_left;(clear e;go_simp);(try with_reducible rfl);try simp only[Ap])
    (refine' Ae κ _ (λt e=>?_) ?_;rotate_left;(clear e;go_simp);(try with_reducible rfl);try simp only[Ap])
    (refine' Ae κ _ (λt e=>?_) ?_;rotate_left;(clear e;go_simp);(try with_reducible rfl);try simp only[Ap])
    refine AH κ ?_;have:=ϵ b;have:=ϴ b;have kC:=Xab b (O Q R S) (O T V W) (O Y iP iQ) (X Xah.q3) (X Xah.Y) (O jJ jK jL) (O jM jN jO) (O jP jQ jR) (O jS jT jU) (O jV jW jX) (O jY jZ kA) (X Xah.q5) (X Xah.U);have t:AT (λb=>b=14) c c nP (Xaa nP (p:Nat) 0 [O Q R S,O T V W,O Y iP iQ,X Xah.q3,X Xah.Y,O jJ jK jL,O jM jN jO,O jP jQ jR,O jS jT jU,O jV jW jX,O jY jZ kA,X Xah.q5,X Xah.U]):=Xak d K _ _ _;have d:ϐ U1 U1 (Xaa nP (p:Nat) 0 [O Q R S,O T V W,O Y iP iQ,X Xah.q3,X Xah.Y,O jJ jK jL,O jM jN jO,O jP jQ jR,O jS jT jU,O jV jW jX,O jY jZ kA,X Xah.q5,X Xah.U]):=Xal vK _ _ g;have g:=(pQ.kp t (Xai λt b=>by omega)).q4 (Xbh.wf pN.inv pN.outs pN.steps);let⟨_,b⟩:=ε (Xaa nP (p:Nat) 0 [O Q R S,O T V W,O Y iP iQ,X Xah.q3,X Xah.Y,O jJ jK jL,O jM jN jO,O jP jQ jR,O jS jT jU,O jV jW jX,O jY jZ kA,X Xah.q5,X Xah.U]);rw[<-b]at kC d g;go_simp;rw[Xaf,<- b];refine⟨oD _ d,?_⟩
    (refine' Ae κ _ (λb e=>?_) ?_;rotate_left;(clear e;go_simp);(try with_reducible rfl);try simp only[Ap])
    refine BH (vO _ _ ⟨λi=>if i=8 then X 0 else if i=7 then .pointer (D (H p 0))else if i=34 then X 0 else if i=33 then .agg #[O Q R S,O T V W,O Y iP iQ,X Xah.q3,X Xah.Y,O jJ jK jL,O jM jN jO,O jP jQ jR,O jS jT jU,O jV jW jX,O jY jZ kA,X Xah.q5,X Xah.U]else if i=29 then .tuple #[.agg #[O Q R S,O T V W,O Y iP iQ,X Xah.q3,X Xah.Y,O jJ jK jL,O jM jN jO,O jP jQ jR,O jS jT jU,O jV jW jX,O jY jZ kA,X Xah.q5,X Xah.U],X 0]else if i=32 then .tuple #[.agg #[O Q R S,O T V W,O Y iP iQ,X Xah.q3,X Xah.Y,O jJ jK jL,O jM jN jO,O jP jQ jR,O jS jT jU,O jV jW jX,O jY jZ kA,X Xah.q5,X Xah.U],X 0]else .agg #[O tD ctC.H tE,X 1,O tF ctC.q0 tG],(p:Nat),[O Q R S,O T V W,O Y iP iQ,X Xah.q3,X Xah.Y,O jJ jK jL,O jM jN jO,O jP jQ jR,O jS jT jU,O jV jW jX,O jY jZ kA,X Xah.q5,X Xah.U],d,kC,g,rfl,rfl,?_⟩);simp only[GS,Act.put,List.setIfInBounds_toArray,List.set_cons_zero,List.set_cons_succ];rfl
   go_simp;have pH:=rD;have l:=tU.o.th pH;refine(Xbr ctC tD tF tE tG j [O rR rS rT,O rU rV rW,O rX rY rZ,X j.q3,X j.Y,O sA sB sC,O sD sF sG,O sH sI sJ,O sK sL sM,O sS rI sT,O sN sO sP,X j.q5,X j.U] p (rO.o p l).1 Xdy pO (rO.o p l).2 vP.o).mono ?_;rintro b kB⟨rC,oN⟩;rcases oN with ⟨vW,hF,-,vV,-⟩|⟨vT,vS,hF,pN,-,rP,rfl,vI,c,pQ,tJ,vR⟩
   .rw [rJ.o]at hF
    have:=(Xfk hF).1;omega
   rw[rJ.o]at hF;obtain rfl:=(Xfk hF).2 rP;obtain⟨lH,lI,lJ,lK,lL,lM,lN,lO,lP,lQ,lR,lS,lT,lU,lV,lW,lX,lY,lZ,mA,mB,mD,mE,mF,mG,mH,mI,rfl⟩:=pQ.shape;have p:=pH.th rC;refine⟨oD kB p,?_⟩;refine Jg (List.perm_middle (l₁:=[_,_,_]) (l₂:=[_,_])) ?_;simp only[List.cons_append,List.nil_append]
   (refine' Ae κ _ (λb e=>?_) ?_;rotate_left;(clear e;go_simp);(try with_reducible rfl);try simp only[Ap])
   (refine' Ae κ _ (λb e=>?_) ?_;rotate_left;(clear e;go_simp);(try with_reducible rfl);try simp only[Ap])
   (refine' Ae κ _ (λb e=>?_) ?_;rotate_left;(clear e;go_simp);(try with_reducible rfl);try simp only[Ap])
   refine AH κ ?_;go_simp;let⟨g,d⟩:=ε (kB.alloc (Z #[U,U,U,X 0,X 0,U,U,U,U,U,U,X 0,X 0] 39));have t:=bl1 d;have b:=Xao d;rw[<-d];refine⟨oD g (p.th t),?_⟩;refine AH κ ?_;have:=ϵ b;have:=ϴ b;have Q:=Xab b (O lH lI lJ) (O lK lL lM) (O lN lO lP) (X Xah.q3) (X Xah.Y) (O lQ lR lS) (O lT lU lV) (O lW lX lY) (O lZ mA mB) (O mD mE mF) (O mG mH mI) (X Xah.q5) (X Xah.U);have b:ϐ kB kB (Xaa g (kB:Nat) 0 [O lH lI lJ,O lK lL lM,O lN lO lP,X Xah.q3,X Xah.Y,O lQ lR lS,O lT lU lV,O lW lX lY,O lZ mA mB,O mD mE mF,O mG mH mI,X Xah.q5,X Xah.U]):=Xal (Nr _) _ _ t;have t:=p.th b;have p:=vI.ups b.size (JT.below b);let⟨_,b⟩:=ε (Xaa g (kB:Nat) 0 [O lH lI lJ,O lK lL lM,O lN lO lP,X Xah.q3,X Xah.Y,O lQ lR lS,O lT lU lV,O lW lX lY,O lZ mA mB,O mD mE mF,O mG mH mI,X Xah.q5,X Xah.U]);rw[<-b]at Q t p;clear d;go_simp;rw[Xaf,<- b];refine⟨oD _ t,?_⟩
   (refine' Ae κ _ (λb e=>?_) ?_;rotate_left;(clear e;go_simp);(try with_reducible rfl);try simp only[Ap])
   refine BH (vO _ _ ⟨λi=>if i=8 then X 0 else if i=7 then .pointer (D (H kB 0))else if i=34 then X 0 else if i=33 then .agg #[O lH lI lJ,O lK lL lM,O lN lO lP,X Xah.q3,X Xah.Y,O lQ lR lS,O lT lU lV,O lW lX lY,O lZ mA mB,O mD mE mF,O mG mH mI,X Xah.q5,X Xah.U]else if i=29 then .tuple #[.agg #[O lH lI lJ,O lK lL lM,O lN lO lP,X Xah.q3,X Xah.Y,O lQ lR lS,O lT lU lV,O lW lX lY,O lZ mA mB,O mD mE mF,O mG mH mI,X Xah.q5,X Xah.U],X 0]else if i=32 then .tuple #[.agg #[O lH lI lJ,O lK lL lM,O lN lO lP,X Xah.q3,X Xah.Y,O lQ lR lS,O lT lU lV,O lW lX lY,O lZ mA mB,O mD mE mF,O mG mH mI,X Xah.q5,X Xah.U],X 0]else .agg #[O tD ctC.H tE,X 1,O tF ctC.q0 tG],(kB:Nat),[O lH lI lJ,O lK lL lM,O lN lO lP,X Xah.q3,X Xah.Y,O lQ lR lS,O lT lU lV,O lW lX lY,O lZ mA mB,O mD mE mF,O mG mH mI,X Xah.q5,X Xah.U],t,Q,p,rfl,rfl,?_⟩);simp only[GS,Act.put,List.setIfInBounds_toArray,List.set_cons_zero,List.set_cons_succ];rfl
  go_simp;let⟨a,b⟩:=ε (U1.alloc (Z #[U,U,U,X 0,X 0,U,U,U,U,U,U,X 0,X 0] 39));have nW:=bl1 b;have oS:=Xao b;rw[<-b];clear b;refine⟨oD a nW,?_⟩;refine AH κ ?_;go_simp;refine(Xc0 _).mono ?_;rintro tO u⟨uV,uX,uW,uY,rfl,pO,lG⟩;have oS:=(lG.block (U1:Nat) (La oS)).trans oS;have nV:=nW.th lG;have vJ:=Nr (U1:Nat);refine⟨oD u nV,?_⟩;refine AH κ ?_;go_simp;have l:=tU.o.th nV;refine(Xbr ctC uV uX uW uY j [O rR rS rT,O rU rV rW,O rX rY rZ,X j.q3,X j.Y,O sA sB sC,O sD sF sG,O sH sI sJ,O sK sL sM,O sS rI sT,O sN sO sP,X j.q5,X j.U] u (rO.o u l).1 Xdy pO (rO.o u l).2 vP.o).mono ?_;rintro b nO⟨oE,oL⟩;rcases oL with ⟨vW,hF,-,vV,-⟩|⟨vT,vS,hF,pN,-,rP,rfl,vI,c,pQ,tJ,vR⟩
  .rw [rJ.o]at hF
   have:=(Xfk hF).1;omega
  rw[rJ.o]at hF;obtain rfl:=(Xfk hF).2 rP;obtain⟨C,E,F,G,J,L,M,N,P,iR,iS,iT,iU,iV,iW,iX,iY,iZ,jA,jB,jC,jD,jE,jF,jG,jH,jI,rfl⟩:=pQ.shape;have g:=nV.th oE;have b:=(oE.block (U1:Nat) (La oS)).trans oS;have d:=tJ ((U1:Nat)) (La oS);refine⟨oD nO g,?_⟩
  (refine' Ae κ _ (λj e=>?_) ?_;rotate_left;(clear e;go_simp);(try with_reducible rfl);try simp only[Ap])
  (refine' Ae κ _ (λj e=>?_) ?_;rotate_left;(clear e;go_simp);(try with_reducible rfl);try simp only[Ap])
  (refine' Ae κ _ (λj e=>?_) ?_;rotate_left;(clear e;go_simp);(try with_reducible rfl);try simp only[Ap])
  refine AH κ ?_;have:=ϵ b;have:=ϴ b;have p:=Xab b (O C E F) (O G J L) (O M N P) (X Xah.q3) (X Xah.Y) (O iR iS iT) (O iU iV iW) (O iX iY iZ) (O jA jB jC) (O jD jE jF) (O jG jH jI) (X Xah.q5) (X Xah.U);have j:AT (λb=>b=14) c c nO (Xaa nO (U1:Nat) 0 [O C E F,O G J L,O M N P,X Xah.q3,X Xah.Y,O iR iS iT,O iU iV iW,O iX iY iZ,O jA jB jC,O jD jE jF,O jG jH jI,X Xah.q5,X Xah.U]):=Xak d K _ _ _;have d:ϐ U1 U1 (Xaa nO (U1:Nat) 0 [O C E F,O G J L,O M N P,X Xah.q3,X Xah.Y,O iR iS iT,O iU iV iW,O iX iY iZ,O jA jB jC,O jD jE jF,O jG jH jI,X Xah.q5,X Xah.U]):=Xal vJ _ _ g;have g:=(pQ.kp j (Xai λj b=>by omega)).q4 (Xbh.wf pN.inv pN.outs pN.steps);let⟨_,b⟩:=ε (Xaa nO (U1:Nat) 0 [O C E F,O G J L,O M N P,X Xah.q3,X Xah.Y,O iR iS iT,O iU iV iW,O iX iY iZ,O jA jB jC,O jD jE jF,O jG jH jI,X Xah.q5,X Xah.U]);rw[<-b]at p d g;go_simp;rw[Xaf,<- b];refine⟨oD _ d,?_⟩
  (refine' Ae κ _ (λb e=>?_) ?_;rotate_left;(clear e;go_simp);(try with_reducible rfl);try simp only[Ap])
  refine BH (vO _ _ ⟨λi=>if i=8 then X 0 else if i=7 then .pointer (D (H U1 0))else if i=34 then X 0 else if i=33 then .agg #[O C E F,O G J L,O M N P,X Xah.q3,X Xah.Y,O iR iS iT,O iU iV iW,O iX iY iZ,O jA jB jC,O jD jE jF,O jG jH jI,X Xah.q5,X Xah.U]else if i=29 then .tuple #[.agg #[O C E F,O G J L,O M N P,X Xah.q3,X Xah.Y,O iR iS iT,O iU iV iW,O iX iY iZ,O jA jB jC,O jD jE jF,O jG jH jI,X Xah.q5,X Xah.U],X 0]else if i=32 then .tuple #[.agg #[O C E F,O G J L,O M N P,X Xah.q3,X Xah.Y,O iR iS iT,O iU iV iW,O iX iY iZ,O jA jB jC,O jD jE jF,O jG jH jI,X Xah.q5,X Xah.U],X 0]else .agg #[O uV ctC.H uW,X 1,O uX ctC.q0 uY],(U1:Nat),[O C E F,O G J L,O M N P,X Xah.q3,X Xah.Y,O iR iS iT,O iU iV iW,O iX iY iZ,O jA jB jC,O jD jE jF,O jG jH jI,X Xah.q5,X Xah.U],d,p,g,rfl,rfl,?_⟩);simp only[GS,Act.put,List.setIfInBounds_toArray,List.set_cons_zero,List.set_cons_succ];rfl
 rintro vN U2⟨f,e,sY,rL,rK,mJ,oQ,oR,rfl⟩;simp only[GS,oQ,oR,Act.put,List.setIfInBounds_toArray,List.set_cons_zero,List.set_cons_succ];generalize f 34=u34;generalize f 33=u33;generalize f 29=u29;generalize f 32=u32;generalize f 30=u30;let⟨m,b⟩:=ε Xah;rw[<-b]at mJ;have sU:=Lh b;clear b;obtain⟨pV,oB,pU,tV,tW,tX,tY,tZ,uA,uB,uC,uD,uE,uF,uG,uH,uI,uJ,uK,uL,uM,uN,uO,uP,uQ,uR,uS,rfl⟩:=mJ.shape;have uT:=Lh mJ;have sX:=Lh rK;have pX:=Lh (tU.o.th rL);let⟨s,o,b,q,r,_,kg,nS⟩:∃(s o b:Nat)(q:Option Addr)(r:Nat),U2.cell? (H h 9)=D (O (D (H s o)) 2 b)/\U2.cell? (H s o)=D (O q 1 r)/\AE U2 U2 1 Aj (O q 1 r) [4]:=by
  obtain⟨_,_,_,_,_,_,_,pE,_,pK,-,-,-,-,-,-,-,y,-⟩:=(rO.o U2 pX.o).2;obtain rfl:pE=O sS rI sT:=by have:=congrArg (λwA=>wA[9]?) pK;simpa using this.symm
  rw[rJ.o]at y;let⟨_,_,nR⟩:=AE.u1 y;obtain⟨s,o,rfl,-,_,pT,nS⟩:=AE.nth y (k:=0) (x:=[4]) rfl;obtain⟨q,r,rfl⟩:=nS.u1;have pL:=(vL.o U2 pX.o).2.2.2.2.2.2.2.2.2.1;obtain rfl:rI=2:=by simp at nR;exact nR.2.1
  exact⟨s,o,_,q,r,pL,by simpa using pT,nS⟩
 have:U2.cell? (H h 11)=D (X 1):=by have:=(vL.o U2 pX.o).2.2.2.2.2.2.2.2.2.2.2.1;rw[rJ.o]at this;exact this
 have sV:=@Lh (oB=1/\∀a,ϐ U2 U2 a->AE U2 a 1 Aj (O pV 1 pU) [2]) (by
  obtain⟨pC,_,_,_,_,_,_,_,_,pF,B,-⟩:=uT.o;obtain rfl:pC=O pV oB pU:=by have:=congrArg (λwA=>wA[0]?) pF;simpa using this.symm
  rw[sU.o]at B;let⟨_,_,lD⟩:=AE.u1 B;obtain rfl:oB=1:=by simp at lD;exact lD.2.1
  exact⟨rfl,λa l=>B.ints l⟩)
 have tL:=Lh nS;have sQ:Hid (∀a,ϐ U2 U2 a->a.cell? (H e 0)=D (O pV oB pU)/\a.cell? (H e 1)=D (O tV tW tX)/\a.cell? (H e 2)=D (O tY tZ uA)/\a.cell? (H e 3)=D (X m.q3)/\a.cell? (H e 4)=D (X m.Y)/\a.cell? (H e 5)=D (O uB uC uD)/\a.cell? (H e 6)=D (O uE uF uG)/\a.cell? (H e 7)=D (O uH uI uJ)/\a.cell? (H e 8)=D (O uK uL uM)/\a.cell? (H e 9)=D (O uN uO uP)/\a.cell? (H e 10)=D (O uQ uR uS)/\a.cell? (H e 11)=D (X m.q5)/\a.cell? (H e 12)=D (X m.U)):=Lh (λa l=>by
  have a:=row13 ((l.block e (La sX.o)).trans sX.o);exact⟨a 0 _ rfl,a 1 _ rfl,a 2 _ rfl,a 3 _ rfl,a 4 _ rfl,a 5 _ rfl,a 6 _ rfl,a 7 _ rfl,a 8 _ rfl,a 9 _ rfl,a 10 _ rfl,a 11 _ rfl,a 12 _ rfl⟩)
 let⟨X1,a⟩:=ε (U2.alloc (Z #[X 4] 3));have n:=Lh a;clear a;go_wp2_with fail;rw[<-n.o];refine(lq [4] _ _ (U2:Nat) (X1:Nat) X1 (tL.o.ints (bl1 n.o)) (by rw[n.o];exact Xkw _ _ (by unfold in64;omega))).mono ?_;rintro tP tR⟨rfl,mK,rfl⟩;let⟨Y3,z⟩:=ε (X1.drewN mK);rw[<-z];have nU:=@Lh (ϐ U2 U2 Y3) (by rw[z];exact AG (bl1 n.o) mK);have oP:=sV.o.1;subst oP;have:=sQ.o Y3 nU.o;let⟨X2,a⟩:=ε (Y3.alloc (Z #[X 2] 3));have v:=Lh a;clear z a;go_wp2_with fail;rw[<-v.o];have oA:=Lh (nU.o.th (bl1 v.o));refine(lq [2] _ _ (U2:Nat) (X2:Nat) X2 (sV.o.2 X2 oA.o) (by rw[v.o];exact Xkw _ _ (by unfold in64;omega))).mono ?_;rintro tQ tS⟨rfl,z,rfl⟩;let⟨Y4,a⟩:=ε (X2.drewN z);rw[<-a];have b:=@Lh (ϐ U2 U2 Y4) (by rw[a];exact AG oA.o z);clear a;have:=sQ.o Y4 b.o;have rH:=Lh (Xh4 m [O pV 1 pU,O tV tW tX,O tY tZ uA,X m.q3,X m.Y,O uB uC uD,O uE uF uG,O uH uI uJ,O uK uL uM,O uN uO uP,O uQ uR uS,X m.q5,X m.U] Y4 rfl (uT.o.ups b.o.size (JT.below b.o)) (by rw[sU.o];decide));have pS:=@Lh (decide (enS m m.A.length=[])=ϑ) (by rw[sU.o];rfl);have pM:=Lh (wC.o.th (pX.o.th b.o));go_wp2_with fail;refine rH.o.mono ?_;rintro b d⟨rfl,a⟩;rw[pS.o];have pA:=Lh (pM.o.th a);go_wp2;go_ret;exact⟨rfl,pA.o⟩
def Xfo(w:Ϣ):ϙ prog 11 #[.agg #[U,U,U,X 0,X 0,U,U,U,U,U,U,X 0,X 0],.agg #[U,U,U,X 0,X 0,U,U,U,U,U,U,X 0,X 0]] w (BoT w):=by
 let⟨e,d⟩:=ε ((w.alloc (Z #[U,U,U,X 0,X 0,U,U,U,U,U,U,X 0,X 0] 39)).alloc (Z #[U,U,U,X 0,X 0,U,U,U,U,U,U,X 0,X 0] 39));have g:=Lh (bl2 d);have a:=Lh (row13 (Xct d));have b:=Lh (row13 (Xcm d));have c:=Below.refl (e:Nat) e;have:=Δ9 c (a.o 0 _ rfl) (a.o 1 _ rfl) (a.o 2 _ rfl) (a.o 3 _ rfl) (a.o 4 _ rfl) (a.o 5 _ rfl) (a.o 6 _ rfl) (a.o 7 _ rfl) (a.o 8 _ rfl);have:=Δ9 c (a.o 9 _ rfl) (a.o 10 _ rfl) (a.o 11 _ rfl) (a.o 12 _ rfl) (b.o 0 _ rfl) (b.o 1 _ rfl) (b.o 2 _ rfl) (b.o 3 _ rfl) (b.o 4 _ rfl);have:=Δ5 c (b.o 5 _ rfl) (b.o 6 _ rfl) (b.o 7 _ rfl) (b.o 8 _ rfl) (b.o 9 _ rfl);have:=Δ3 c (b.o 10 _ rfl) (b.o 11 _ rfl) (b.o 12 _ rfl);go_in;go_upto_region 1 with fail;rw[<-d];clear d;go_wp2_with fail;have c:Lw 0 e (.agg #[U,U]) ⟨[],[]⟩:=⟨_,_,rfl,⟨none,0,rfl,ψ,ψ,K,.inl rfl⟩,⟨none,0,rfl,ψ,ψ,K,.inl rfl⟩⟩;refine(TH ⟨[],[]⟩ _ _ 0 0 e (Nat.zero_le _) (Nat.zero_le _) c c).mono ?_;rintro e d⟨rfl,c⟩;have:=Δ9 c (a.o 0 _ rfl) (a.o 1 _ rfl) (a.o 2 _ rfl) (a.o 3 _ rfl) (a.o 4 _ rfl) (a.o 5 _ rfl) (a.o 6 _ rfl) (a.o 7 _ rfl) (a.o 8 _ rfl);have:=Δ9 c (a.o 9 _ rfl) (a.o 10 _ rfl) (a.o 11 _ rfl) (a.o 12 _ rfl) (b.o 0 _ rfl) (b.o 1 _ rfl) (b.o 2 _ rfl) (b.o 3 _ rfl) (b.o 4 _ rfl);have:=Δ5 c (b.o 5 _ rfl) (b.o 6 _ rfl) (b.o 7 _ rfl) (b.o 8 _ rfl) (b.o 9 _ rfl);have:=Δ3 c (b.o 10 _ rfl) (b.o 11 _ rfl) (b.o 12 _ rfl);have f:=Lh (g.o.th c);go_wp2_with fail;go_loopw[6] (λa wr=>a=X 0/\d=wr) (λ_ _=>0)
 case atStart=>exact⟨rfl,rfl⟩
 case round=>
 obtain⟨rfl,rfl⟩:=hrel;go_wp2_with fail;go_loopw[7] (λa wr=>a=X 0/\d=wr) (λ_ _=>0)
 case atStart=>exact⟨rfl,rfl⟩
 case round=>
 obtain⟨rfl,rfl⟩:=hrel;go_wp2_with fail;go_loopw[8] (λa wr=>a=X 0/\d=wr) (λ_ _=>0)
 case atStart=>exact⟨rfl,rfl⟩
 case round=>
 obtain⟨rfl,rfl⟩:=hrel;go_wp2;go_ret;exact⟨rfl,f.o⟩
def Xgl(w:Ϣ):ϙ prog 13 #[.agg #[U,U,U,X 0,X 0,U,U,U,U,U,U,X 0,X 0]] w (BoT w):=by
 let⟨c,b⟩:=ε (w.alloc (Z #[U,U,U,X 0,X 0,U,U,U,U,U,U,X 0,X 0] 39));have e:=Lh (bl1 b);have a:=Lh (row13 (Xao b));have d:=Below.refl (c:Nat) c;have:=Δ9 d (a.o 0 _ rfl) (a.o 1 _ rfl) (a.o 2 _ rfl) (a.o 3 _ rfl) (a.o 4 _ rfl) (a.o 5 _ rfl) (a.o 6 _ rfl) (a.o 7 _ rfl) (a.o 8 _ rfl);have:=Δ4 d (a.o 9 _ rfl) (a.o 10 _ rfl) (a.o 11 _ rfl) (a.o 12 _ rfl);go_in;go_upto_region 1 with fail;rw[<-b];clear b;go_wp2_with fail;refine(Xfo c).mono ?_;rintro c d⟨rfl,a⟩;have b:=Lh (e.o.th a);go_wp2;go_ret;exact⟨rfl,b.o⟩
def Xgu{a:Nat}{w':Ϣ}{v:ϒ}{l:List (List Bi)}(d:B<=a)(c:JT w w')(b:AE B w 1 (Bg 2 (DA B) B) v l):AE a w' 1 (Bg 2 (DA a) a) v l:=AE.ups (E:=λB=>Bg 2 (DA B) B) (Il (E:=DA) Hd) d c b
def fg{m:Mm}{b:List (List Bi)}{fuel:Int}(a:GO c m b fuel=0):Xba c (ff m fuel b)/\(ff m fuel b).q1.length=b.length/\(ff m fuel b).results.length=b.length:=by
 unfold GO at a;by_cases e:DW c=ϑ/\Bb c m=ϑ;rotate_left
 .rw [if_pos e]at a;omega
 rw[if_neg (λd=>d e)]at a;by_cases h:fuel<0\/1048576<fuel
 .rw [if_pos h]at a;omega
 rw[if_neg h]at a;by_cases g:b.length=0
 .rw [if_pos g]at a;omega
 rw[if_neg g]at a;by_cases f:8<b.length\/b.any (λd=>decide (2000<(d:Int)))=ϑ
 .rw [if_pos f]at a;omega
 rw[if_neg f]at a;have l:=Ki.1 e.1;have k:=Ik.1 e.2;have j:0<=fuel/\fuel<=1048576:=K;have i:=Y5 a;have a:∀d∈b,d.length<=2000:=λd a=>Nat.le_of_not_lt λb=>f (.inr (List.any_eq_true.2 ⟨d,a,by simp;omega⟩));exact⟨⟨Xjn l k j i a,Xho _ _ _,by simp[ff];omega,by simp[ff];omega,by simp[ff]⟩,by simp[ff],by simp[ff]⟩
def IB(c:Int):Az c=2↔(97<=c/\c<=122\/65<=c/\c<=90):=by
 unfold Az;split
 .constructor<;>intro a<;>omega
 split
 .constructor<;>intro a<;>omega
 split
 .constructor<;>intro a<;>omega
 split<;>constructor<;>intro a<;>omega
def Gy(c:Int):2<=Az c↔((97<=c/\c<=122\/65<=c/\c<=90)\/(48<=c/\c<=57)\/c=95):=by
 unfold Az;split
 .constructor<;>intro a<;>omega
 split
 .constructor<;>intro a<;>omega
 split
 .constructor<;>intro a<;>omega
 split<;>constructor<;>intro a<;>omega
def Vr(c:Int):Bool:=decide (Az c=2)
def KH(c:Int):Bool:=decide (2<=Az c)
def VA{c:Int}(a:KH c=ϝ):Az c<2:=by
 have:¬2<=Az c:=of_decide_eq_false a;omega
def TG{c:Int}(a:KH c=ϑ):2<=Az c:=of_decide_eq_true a
def XF(c:Int):Bool:=decide (48<=c/\c<=57)
def En(c:Int)(w:Ϣ):ϙ prog 157 #[.int .u8 c] w λa b=>a=.returned (.bool (Vr c))/\w=b:=by
 go_in;go_wp2;all_goals (go_ret;exact⟨Ca (by unfold Vr;rw[Bool.eq_iff_iff];simp[IB]at *;omega),rfl⟩)
def LZ(c:Int)(w:Ϣ):ϙ prog 176 #[.int .u8 c] w λa b=>a=.returned (.bool (XF c))/\w=b:=by
 go_in;go_wp2;all_goals (go_ret;exact⟨Ca (by unfold XF;rw[Bool.eq_iff_iff];simp at *;omega),rfl⟩)
def St(c:Int)(w:Ϣ):ϙ prog 158 #[.int .u8 c] w λd e=>d=.returned (.bool (KH c))/\w=e:=by
 cases a:Vr c with
 |true=>
  have k:Hid (KH c=ϑ):=by have:=of_decide_eq_true a;exact Lh (decide_eq_true K)
  have f:=Lh a;go_in;go_wp2_with fail;refine(En _ _).mono ?_;rintro o t⟨rfl,rfl⟩;rw[f.o];go_wp2;go_ret;exact⟨by rw[k.o];rfl,rfl⟩
 |false=>
  have n:=of_decide_eq_false a;cases b:XF c with
  |true=>
   have l:Hid (KH c=ϑ):=by have:=of_decide_eq_true b;exact Lh (decide_eq_true ((Gy c).2 K))
   have g:=Lh a;have i:=Lh b;go_in;go_wp2_with fail;refine(En _ _).mono ?_;rintro p u⟨rfl,rfl⟩;rw[g.o];go_wp2_with fail;refine(LZ _ _).mono ?_;rintro q v⟨rfl,rfl⟩;rw[i.o];go_wp2;go_ret;exact⟨by rw[l.o];rfl,rfl⟩
  |false=>
   have m:Hid (KH c=(c==95)):=by have:=of_decide_eq_false b;rw[IB]at n;refine Lh ?_;unfold KH;rw[Bool.eq_iff_iff];simp[Gy];omega
   have h:=Lh a;have j:=Lh b;go_in;go_wp2_with fail;refine(En _ _).mono ?_;rintro r x⟨rfl,rfl⟩;rw[h.o];go_wp2_with fail;refine(LZ _ _).mono ?_;rintro s y⟨rfl,rfl⟩;rw[j.o];go_wp2;go_ret;exact⟨by rw[m.o];rfl,rfl⟩
def Vq(b:List ByteArray)(s:ByteArray)(v:ϒ)(B:Nat)(w:Ϣ)(i:AE B w 1 M8 v b):ϙ prog 177 #[v,.string s] w λe f=>e=.returned (.bool (Dn b s))/\w=f:=by
 obtain⟨_,_,rfl,_,_,_,k⟩:=i;have E:=Lh k;go_in;go_wp2_with fail;go_loop[5] (λf=>∃e:Nat,e<=b.length/\f=X e/\Hid (∀(i:Nat) x,i<e->b[i]?=D x->CM x s=ϝ)) (λf=>b.length-(intOf f).toNat);exact⟨0,Nat.zero_le _,rfl,λf x e=>by omega⟩;obtain⟨c,_,rfl,z⟩:=hrel;by_cases A:c<b.length
 .obtain ⟨x,h⟩:=Ϡ b c A
  rcases E.o with m|⟨t,o,rfl,_,k⟩
  .subst m;simp at h
  have:w.cell? (H t (o+c))=D (.string x):=by have:=k c x h;unfold M8 at this;simpa using this
  have l:=Lh h;cases g:CM x s with
  |true=>have u:=@Lh (Dn b s=ϑ) (List.any_eq_true.2 ⟨x,Lm l.o,g⟩);have:(x.toList==s.toList)=ϑ:=g;go_wp2;go_ret;exact⟨by rw[u.o];rfl,rfl⟩
  |false=>
   have C:Hid (∀(a:Nat) d,a<c+1->b[a]?=D d->CM d s=ϝ):=Lh (λa d e j=>by
    by_cases n:a=c
    .subst n;have:=l.o.symm.trans j;cases this;exact g
    exact z.o a d K j)
   have:(x.toList==s.toList)=ϝ:=g;go_wp2;go_round;exact⟨c+1,K,by go_num,C⟩;simp[intOf];omega
 have y:=@Lh (Dn b s=ϝ) (by
  unfold Dn;rw[List.any_eq_false];intro x p;obtain⟨q,r,rfl⟩:=List.getElem_of_mem p;rw[z.o q _ K (Lg r)];simp)
 go_wp2;go_ret;exact⟨by rw[y.o];rfl,rfl⟩
def XQ:List ByteArray:=[⟨#[116,121,112,101]⟩,⟨#[118,97,114]⟩,⟨#[112,114,111,99]⟩,⟨#[108,111,99,97,108]⟩,⟨#[109,101,97,115,117,114,101]⟩,⟨#[105,110,118,97,114,105,97,110,116]⟩,⟨#[112,111,116,101,110,116,105,97,108]⟩,⟨#[98,111,117,110,100]⟩,⟨#[105,102]⟩,⟨#[101,108,115,101]⟩,⟨#[119,104,105,108,101]⟩,⟨#[114,101,116,117,114,110]⟩,⟨#[110,101,119]⟩,⟨#[110,105,108]⟩,⟨#[116,114,117,101]⟩,⟨#[102,97,108,115,101]⟩,⟨#[97,110,100]⟩,⟨#[111,114]⟩,⟨#[110,111,116]⟩,⟨#[109,97,120]⟩,⟨#[109,105,110]⟩,⟨#[108,111,103]⟩,⟨#[105,110,116]⟩,⟨#[98,111,111,108]⟩,⟨#[116,104,105,115]⟩,⟨#[115,111,114,116]⟩,⟨#[111,112]⟩,⟨#[114,117,108,101]⟩,⟨#[115,112,101,99]⟩,⟨#[100,101,115,99]⟩,⟨#[115,99,114,105,112,116]⟩]
def L9(w:Ϣ):ϙ prog 178 #[] w λa b=>a=.returned (O (D (H w 0)) 31 31)/\b=w.alloc (Z (XQ.map .string).toArray 9):=by
 go_in;go_wp2;go_ret;exact⟨rfl,rfl⟩
def O6:(XQ.all λb=>D5.any λa=>b.toList==a.toList)=ϑ/\(D5.all λb=>XQ.any λa=>b.toList==a.toList)=ϑ:=⟨κ,κ⟩
def Ur(s:ByteArray):Dn XQ s=Oa s:=by
 have d:∀b c:List ByteArray,(b.all λe=>c.any λa=>e.toList==a.toList)=ϑ->Dn b s=ϑ->Dn c s=ϑ:=λb c f a=>by unfold Dn at a ⊢;rw[List.any_eq_true]at a ⊢;let⟨c,e,b⟩:=a;have:=List.all_eq_true.1 f c e;rw[List.any_eq_true]at this;let⟨a,c,e⟩:=this;refine⟨a,c,?_⟩;unfold CM at b ⊢;rw[<-eq_of_beq e];exact b
 rw[Bool.eq_iff_iff];exact⟨d _ _ O6.1,d _ _ O6.2⟩
def LY(s:ByteArray)(w:Ϣ):ϙ prog 159 #[.string s] w λa b=>a=.returned (.bool (Oa s))/\ϐ w w b:=by
 have b:AE (w+1) (w.alloc (Z (XQ.map .string).toArray 9)) 1 M8 (O (D (H w 0)) 31 31) XQ:=by refine⟨D (H w 0),31,rfl,by decide +kernel,by decide +kernel,by decide +kernel,.inr ⟨_,_,rfl,K,λg x a=>?_⟩⟩;unfold M8;rw[cell_of_row _ _ _ _ _ _ (Hn _ _)];simp[a]
 have c:=Lh b;have d:=Lh (Ur s);go_in;go_wp2_with fail;refine(L9 _).mono ?_;rintro e h⟨rfl,rfl⟩;go_wp2_with fail;refine(Vq XQ s _ _ _ c.o).mono ?_;rintro f i⟨rfl,rfl⟩;go_wp2;go_ret;exact⟨by rw[<-d.o];rfl,AA _ _⟩
def O1(s:ByteArray)(w:Ϣ)(hs:s.size<=140737488355328) :
  ϙ prog 132 #[.string s] w λz c=>z=.returned (.bool (Gi s))/\ϐ w w c:=by
 by_cases n:0<s.size;rotate_left
 .have p:=Lh (Ob n)
  have:((s.size:Int)==0)=ϑ:=beq_iff_eq.2 K;go_in;go_wp2;go_ret;exact⟨by rw[p.o];rfl,Below.refl _ _⟩
 have:=ξ (s.size:Int) 0;by_cases v:s.size<=40;rotate_left
 .have d:=Lh (Oc v)
  have:=η (40<(s.size:Int));go_in;go_wp2;go_ret;exact⟨by rw[d.o];rfl,Below.refl _ _⟩
 have:=θ (40<(s.size:Int));cases j:Vr (s[0].toNat:Int)with
 |false=>have r:=Lh (Od n (of_decide_eq_false j));have e:=Lh j;go_in;go_wp2_with fail;refine(En _ _).mono ?_;rintro G B⟨rfl,rfl⟩;rw[e.o];go_wp2;go_ret;exact⟨by rw[r.o];rfl,Below.refl _ _⟩
 |true=>
  have y:=Lh j;go_in;go_wp2_with fail;refine(En _ _).mono ?_;rintro F C⟨rfl,rfl⟩;rw[y.o];go_wp2_with fail;go_loop[3] (λe=>∃d:Nat,d<=s.size/\e=X d/\Hid (∀c (p:c<s.size),c<d->2<=Az (s[c].toNat:Int))) (λe=>s.size-(intOf e).toNat);exact⟨0,Nat.zero_le _,rfl,λe d c=>by omega⟩;obtain⟨b,_,rfl,q⟩:=hrel;by_cases u:b<s.size
  .go_wp2_with fail
   refine(St _ _).mono ?_;rintro A E⟨rfl,rfl⟩;cases i:KH (s[b].toNat:Int)with
   |false=>have m:=Lh (Of b u (VA i));go_wp2;go_ret;exact⟨by rw[m.o];rfl,Below.refl _ _⟩
   |true=>
    have t:Hid (∀a (g:a<s.size),a<b+1->2<=Az (s[a].toNat:Int)):=Lh (λa g c=>by
     by_cases l:a=b
     .subst l;exact TG i
     exact q.o a g K)
    go_wp2;go_round;exact⟨b+1,K,by go_num,t⟩;simp[intOf];omega
  go_wp2_with fail;refine(LY _ _).mono ?_;rintro x a⟨rfl,h⟩;cases f:Oa s with
  |true=>have k:=Lh (Oe f);go_wp2;go_ret;exact⟨by rw[k.o];rfl,h⟩
  |false=>have o:=Lh (Og n v (of_decide_eq_true y.o) f (λb a=>q.o b a K));go_wp2;go_ret;exact⟨by rw[o.o];rfl,h⟩
def ND(a n:Int):Bool:=decide (0<=a/\a<n)
def QQ(a n:Int)(w:Ϣ):ϙ prog 160 #[X a,X n] w λb c=>b=.returned (.bool (ND a n))/\w=c:=by
 go_in;go_wp2;all_goals (go_ret;exact⟨Ca (by unfold ND;simp;try omega),rfl⟩)
def GF:AR ((w.alloc o).alloc (Z A T)) ((w:Nat)+1) A.toList:=by
 have:=@AF (w.alloc o) A T;simpa using this
def J3{a:Obj}:AR (((w.alloc o).alloc a).alloc (Z A T)) ((w:Nat)+1+1) A.toList:=by
 have:=@AF ((w.alloc o).alloc a) A T;simpa using this
def Fv{n:Int}(k:Int)(a:x.op=k)(b:1<=k/\k<=31)(hl:Ey c f k=D n):ND x.a n=Ct c f x:=by
 unfold Ct ND;rw[if_neg K,a,hl]
def XN(a:x.op=1):Ct c f x=decide (-1099511627776<=x.a/\x.a<=1099511627776):=by
 unfold Ct;rw[if_neg K,a];rfl
def UP(m:¬x.op=1)(l:¬x.op=2)(k:¬x.op=3)(j:¬x.op=4)(i:¬x.op=5)(h:¬x.op=6)(g:¬x.op=7)(e:¬x.op=8)(d:¬x.op=9)(b:¬x.op=11)(a:¬x.op=12):Ct c f x=decide (1<=x.op/\x.op<=31/\x.a=0):=by
 unfold Ct Ey;rw[if_neg l,if_neg k,if_neg j,if_neg i,if_neg h,if_neg g,if_neg e,if_neg d,if_neg b,if_neg a,if_neg m];by_cases a:x.op<1\/31<x.op
 .rw [if_pos a];symm;rw[decide_eq_false_iff_not];omega
 rw[if_neg a];show decide (x.a=0)=_;rw[Bool.eq_iff_iff];simp;omega
def Sl(c:AQ)(d:ϒ)(f:BK)(fv:ϒ)(x:Cd)(a:ϒ)(B:Nat)(w:Ϣ)(p:BF B w d c)(q:EI B w fv f)(r:IV B w a x) :
  ϙ prog 133 #[d,fv,a] w λa d=>a=.returned (.bool (Ct c f x))/\ϐ w w d:=by
 obtain⟨fv,_,rfl,g,j,_⟩:=p;obtain⟨_,rfl,k,_,_,_⟩:=q;obtain⟨rfl,_,_⟩:=r;obtain⟨m,l,rfl,_,-,-,-⟩:=g;obtain⟨i,h,rfl,_,_,_,_⟩:=j;obtain⟨n,o,rfl,_,-,-,-⟩:=k;unfold in64 at *;let⟨d,a⟩:=ε ((((w.alloc (Z (Bc m l i h c) 25)).alloc (Z #[.string f.name,X f.params,X f.L,.bool f.result,O n f.q9 o] 70)).alloc (Z #[X x.op,X x.a] 96)));have b:=@Lh (ϐ w w d) (by rw[a];exact((AA _ _).th (AA _ _)).th (AA _ _));go_in;have e:=Lh a;clear a;go_wp2_with(rw[<-e.o];go_at_call 160;refine(QQ _ _ _).mono ?_;rintro s t⟨rfl,rfl⟩);all_goals
  go_ret;refine⟨Ca ?_,by first|exact b.o|(rw[e.o]at b;exact b.o)⟩;simp only[beq_iff_eq,beq_eq_false_iff_ne,decide_eq_true_eq,decide_eq_false_iff_not]at *;first
   |(
    have a:x.op=1:=by assumption
    rw[XN a,Bool.eq_iff_iff];simp;omega)
   |exact Fv 2 (by assumption) K rfl
   |exact Fv 3 (by assumption) K rfl
   |exact Fv 4 (by assumption) K rfl
   |exact Fv 5 (by assumption) K rfl
   |exact Fv 6 (by assumption) K rfl
   |exact Fv 7 (by assumption) K rfl
   |exact Fv 8 (by assumption) K rfl
   |exact Fv 9 (by assumption) K rfl
   |exact Fv 11 (by assumption) K rfl
   |exact Fv 12 (by assumption) K rfl
   |(rw[UP (by assumption) (by assumption) (by assumption) (by assumption) (by assumption) (by assumption) (by assumption) (by assumption) (by assumption) (by assumption) (by assumption),Bool.eq_iff_iff];simp;omega)
def Qf(c:AQ)(k:ϒ)(B:Nat)(w:Ϣ)(cE:B<=w)(p:BF B w k c) :
  ϙ prog 94 #[k] w (RD (Dl c) w):=by
 have dK:=Lh p;obtain⟨_,_,rfl,G,R,_⟩:=p;obtain⟨cJ,cK,rfl,_,-,-,-⟩:=G;obtain⟨V,cL,rfl,_,_,_,C⟩:=R;have dB:=Lh C;let⟨s,a⟩:=ε (w.alloc (Z (Bc cJ cK V cL c) 25));have cR:=Lh (bl1 a);have cW:=Lh (Xbq a);have T:=Lh a;clear a;go_in;go_wp2_with fail;rw[<-T.o];go_loopw[5] (λp wr=>∃k:Nat,k<=c.q0.length/\p=X k/\Hid (ϐ s s wr/\∀(s:Nat) x,s<k->c.q0[s]?=D x->(x.q9.any λe=>!Ct c x e)=ϝ)) (λp _=>c.q0.length-(intOf p).toNat);exact⟨0,Nat.zero_le _,rfl,Lh ⟨Below.refl _ _,λp x k=>by omega⟩⟩;obtain⟨i,_,rfl,bT⟩:=hrel;obtain⟨S,rfl⟩:=ε (wr:Ϣ);have dA:=Lh (cR.o.th bT.o.1);have bW:=Lh (cW.o.kp bT.o.1);have:=bW.o 2 _ rfl;by_cases dJ:i<c.q0.length
 .obtain ⟨x,g⟩:=Ϡ c.q0 i dJ
  rcases dB.o with N|⟨r,o,rfl,bS,u⟩
  .rw [N]at g;simp at g
  have k:=(u i x g).below (dA.o.mono cE) bS;have cZ:=Lh (u i x g);have dG:=Lh g;let⟨_,_,_,_,⟨_,_,t⟩,_,_,_⟩:=k;have:=Lh t;obtain⟨_,_,rfl,_,-,-,_⟩:=t;go_wp2_with fail;go_loopw[6] (λk wr=>∃g:Nat,g<=x.q9.length/\k=X g/\Hid (ϐ S S wr/\∀(p:Nat) e,p<g->x.q9[p]?=D e->Ct c x e=ϑ)) (λk _=>x.q9.length-(intOf k).toNat);exact⟨0,Nat.zero_le _,rfl,Lh ⟨Below.refl _ _,λk x g=>by omega⟩⟩;obtain⟨j,_,rfl,y⟩:=hrel;have bY:=Lh (dA.o.th y.o.1);have bV:=Lh (bW.o.kp y.o.1);let⟨cS,cT,cV,cX,⟨_,bU,v⟩,cF,cG,cH⟩:=cZ.o.below (bY.o.mono cE) bS;have F:=v;obtain⟨bZ,cI,rfl,-⟩:=F;let⟨cM,cN,cO⟩:=Γ3 bV.o;have:=Bl bU;by_cases dF:j<x.q9.length
  .obtain ⟨e,n⟩:=Ϡ x.q9 j dF
   have dI:Hid (EI B wr.drew (.agg #[.string x.name,X x.params,X x.L,.bool x.result,O bZ x.q9 cI]) x):=Lh ⟨_,rfl,v.inss (AG Br 1),cF,cG,cH⟩;obtain⟨_,_,E,-,-,-,m⟩:=v;cases E;rcases m with N|⟨z,A,rfl,_,m⟩
   .rw [N]at n;simp at n
   let⟨cC,cD,g,k⟩:=m j e n;have cY:=Lh n;have dE:=@Lh (BF B wr.drew (.agg #[O cJ c.H cK,X c.G,O (D (H r o)) c.q0 cL]) c) (dK.o.below ((AG bY.o 1).mono cE));have dD:Hid (IV B wr.drew (.agg #[X e.op,X e.a]) e):=Lh ⟨rfl,g,k⟩;have:=In i;have:(i:Int)<(c.q0:Int):=K;have:=In j;have:(j:Int)<(x.q9:Int):=K;go_wp2_with fail;go_upto_region 7 with fail;go_region_held3 (λb=>b.cell? (H w 0)=D (O cJ c.H cK)/\b.cell? (H w 1)=D (X c.G)/\b.cell? (H w 2)=D (O (D (H r o)) c.q0 cL)/\b.cell? (H r (o+i*5))=D (.string x.name)/\b.cell? (H r (o+i*5+1))=D (X x.params)/\b.cell? (H r (o+i*5+2))=D (X x.L)/\b.cell? (H r (o+i*5+3))=D (.bool x.result)/\b.cell? (H r (o+i*5+4))=D (O (D (H z A)) x.q9 cI)/\b.cell? (H z (A+j*2))=D (X e.op)/\b.cell? (H z (A+j*2+1))=D (X e.a))
    (first|exact⟨cM,cN,cO,cS,cT,cV,cX,bU,cC,cD⟩|exact⟨AB a cM,AB a cN,AB a cO,AB a cS,AB a cT,AB a cV,AB a cX,AB a bU,AB a cC,AB a cD⟩)
    (first|(go_at_call 133;refine(Sl c _ x _ e _ B _ dE.o dI.o dD.o).mono ?_;rintro dH dC⟨rfl,a⟩))
   have cA:=Lh ((AG bY.o 1).th a);have cU:=Lh ((AG y.o.1 1).th a);cases Q:Ct c x e with
   |false=>
    have bR:=Lh (Mj dG.o (List.any_eq_true.2 ⟨e,Lm cY.o,by rw[Q];rfl⟩));go_wp2_with fail;go_ret3;exact⟨_,_,by rw[bR.o];rfl,cA.o⟩
   |true=>
    have cB:Hid (∀(f:Nat) d,f<j+1->x.q9[f]?=D d->Ct c x d=ϑ):=Lh (λf d a l=>by
     by_cases bX:f=j
     .subst bX;rw[cY.o]at l;cases l;exact Q
     exact y.o.2 f d K l)
    go_wp2;go_roundw;exact⟨j+1,K,by go_num,Lh ⟨cU.o,cB.o⟩⟩;simp[intOf];omega
  have cP:Hid (∀(h:Nat) d,h<i+1->c.q0[h]?=D d->(d.q9.any λe=>!Ct c d e)=ϝ):=Lh (λh d a q=>by
   by_cases P:h=i
   .subst P;rw[dG.o]at q;cases q
    rw[List.any_eq_false];intro e J;obtain⟨L,M,rfl⟩:=List.getElem_of_mem J;rw[y.o.2 L _ K (Lg M)];simp
   exact bT.o.2 h d K q)
  have W:=Lh (bT.o.1.th y.o.1);go_wp2;go_roundw;exact⟨i+1,K,by go_num,Lh ⟨W.o,cP.o⟩⟩;simp[intOf];omega
 have Y:=Lh (KK (λb x _ a=>bT.o.2 b x (by have:=(Ll a);omega) a));go_wp2_with fail;go_ret3;exact⟨_,_,by rw[Y.o];rfl,dA.o⟩
def Si(c:AQ)(q:ϒ)(B:Nat)(w:Ϣ)(dK:B<=w)(bU:BF B w q c) :
  ϙ prog 93 #[q] w λdZ q=>dZ=.returned (.bool (GX c))/\ϐ w w q:=by
 obtain⟨_,_,rfl,E,S,bT⟩:=bU;obtain⟨bY,bZ,rfl,_,-,-,M⟩:=E;obtain⟨Y,bQ,rfl,_,_,_,C⟩:=S;have dT:=Lh M;have eA:=Lh C;unfold in64 at bT;let⟨dJ,a⟩:=ε (w.alloc (Z (Bc bY bZ Y bQ c) 25));have t:=Lh (bl1 a);have dL:=Lh (Xbq a);have k:=Lh a;clear a;by_cases dQ:c.H.length<=12;rotate_left
 .have cD:=Lh (Bs (c:=c) (λh=>dQ h.1))
  have:=η (12<(c.H:Int));go_in;go_wp2_with fail;rw[<-k.o];go_ret;exact⟨by rw[cD.o];rfl,t.o⟩
 have:=θ (12<(c.H:Int));by_cases dO:0<=c.G;rotate_left
 .have cC:=Lh (Bs (c:=c) (λh=>dO h.2.2.1))
  have:=η (c.G<0);go_in;go_wp2_with fail;rw[<-k.o];go_ret;exact⟨by rw[cC.o];rfl,t.o⟩
 have:=θ (c.G<0);by_cases dN:c.G<=8;rotate_left
 .have cE:=Lh (Bs (c:=c) (λh=>dN h.2.2.2.1))
  have:=η (8<c.G);go_in;go_wp2_with fail;rw[<-k.o];go_ret;exact⟨by rw[cE.o];rfl,t.o⟩
 have:=θ (8<c.G);by_cases dM:c.q0.length<=40;rotate_left
 .have cF:=Lh (Bs (c:=c) (λh=>dM h.2.2.2.2.1))
  have:=η (40<(c.q0:Int));go_in;go_wp2_with fail;rw[<-k.o];go_ret;exact⟨by rw[cF.o];rfl,t.o⟩
 have:=θ (40<(c.q0:Int));go_in;go_wp2_with fail;rw[<-k.o];have:=dL.o 0 _ rfl;go_loop[3] (λi=>∃k:Nat,k<=c.H.length/\i=X k/\Hid (∀(q:Nat) a,q<k->c.H[q]?=D a->¬(a<0\/12<a))) (λi=>c.H.length-(intOf i).toNat);exact⟨0,Nat.zero_le _,rfl,λq a k=>by omega⟩;obtain⟨l,_,rfl,cT⟩:=hrel;by_cases dY:l<c.H.length
 .obtain ⟨a,cY⟩:=Ϡ c.H l dY
  rcases dT.o with h|⟨dP,o,rfl,cN,y⟩
  .rw [h]at cY;simp at cY
  let⟨q,k⟩:=(y l a cY).below (t.o.mono dK) cN;unfold in64 at k;rw[Nat.mul_one]at q;have z:=Lh cY;by_cases cB:a<0\/12<a
  .have cL:=Lh (Bs (c:=c) (λh=>by
    have:=List.any_eq_false.1 h.2.1 a (Lm z.o);exact this (decide_eq_true cB)))
   rcases cB with cB|cB;all_goals
    go_wp2;go_ret;exact⟨by rw[cL.o];rfl,t.o⟩
  have cR:Hid (∀(d:Nat) a,d<l+1->c.H[d]?=D a->¬(a<0\/12<a)):=Lh (λd T k n=>by
   by_cases dV:d=l
   .subst dV;rw[z.o]at n;cases n;exact cB
   exact cT.o d T K n)
  have:=θ (a<0);have:=θ (12<a);go_wp2;go_round;exact⟨l+1,K,by go_num,cR⟩;simp[intOf];omega
 have eC:=@Lh (c.H.any (λa=>decide (a<0\/12<a))=ϝ) (by
  rw[List.any_eq_false];intro a dU;obtain⟨F,N,rfl⟩:=List.getElem_of_mem dU;have:=cT.o F _ K (Lg N);simp;omega)
 go_wp2_with fail;go_loopw[4] (λi wr=>∃d:Nat,d<=c.q0.length/\i=X d/\Hid (ϐ dJ dJ wr/\∀(a:Nat) x,a<d->c.q0[a]?=D x->Ir c a x)) (λi _=>c.q0.length-(intOf i).toNat);exact⟨0,Nat.zero_le _,rfl,Lh ⟨Below.refl _ _,λd x a=>by omega⟩⟩;obtain⟨m,_,rfl,cI⟩:=hrel;obtain⟨dC,rfl⟩:=ε (wr:Ϣ);have dH:=Lh (t.o.th cI.o.1);have dG:=Lh (dL.o.kp cI.o.1);have cJ:=dG.o 2 _ rfl;by_cases dS:m<c.q0.length
 .obtain ⟨x,j⟩:=Ϡ c.q0 m dS
  rcases eA.o with h|⟨dP,o,rfl,cN,y⟩
  .rw [h]at j;simp at j
  have a:=(y m x j).below (dH.o.mono dK) cN;have dR:=Lh y;have cU:=Lh j;let⟨_,_,_,_,⟨_,_,G⟩,cW,P,Q⟩:=a;obtain⟨bW,cA,rfl,_,-,-,-⟩:=G;unfold in64 at P Q;let⟨_,a⟩:=ε (dC.alloc (Z #[.string x.name,X x.params,X x.L,.bool x.result,O bW x.q9 cA] 70));have cH:=Lh (bl1 a);have cM:=Lh (Xbq a);have L:=Lh a;clear a;go_wp2_with fail;rw[<-L.o];refine(O1 _ _ cW).mono ?_;rintro eB cG⟨rfl,a⟩;have A:=Lh (cH.o.th a);have dE:=Lh (dH.o.th A.o);have dA:=Lh (cM.o.kp a);have:=Γ5 dA.o;have cJ:=AB A.o cJ;cases cP:Gi x.name with
  |false=>have bS:=Lh (Bs (c:=c) (λh=>by rw[(h.2.2.2.2.2 m x cU.o).1]at cP;cases cP));go_wp2;go_ret;exact⟨by rw[bS.o];rfl,dE.o⟩
  |true=>
   have dX:=Lh cP;by_cases v:CX x
   .have dW:=Lh v
    let⟨_,_,_,_,_,_⟩:=v;have:=θ (x.params<0);have:=θ (6<x.params);have:=θ (x.L<x.params);have:=θ (100<x.L);have:=ξ (x.q9:Int) 0;have:=θ (1048576<(x.q9:Int));go_wp2_with fail;go_loopw[6] (λi wr=>∃a:Nat,a<=m/\i=X a/\Hid (ϐ cG cG wr/\∀(d:Nat) b,d<a->c.q0[d]?=D b->CM b.name x.name=ϝ)) (λi _=>m-(intOf i).toNat);exact⟨0,Nat.zero_le _,rfl,Lh ⟨Below.refl _ _,λd x a=>by omega⟩⟩;obtain⟨g,_,rfl,s⟩:=hrel;have cK:=Lh (dE.o.th s.o.1);have dF:=Lh (A.o.th s.o.1);by_cases dI:g<m
    .obtain ⟨b,a⟩:=Ϡ c.q0 g
     have:=((dR.o g b a).below (cK.o.mono dK) cN).1;have:=(dG.o.kp dF.o) 2 _ rfl;have:=(dA.o.kp s.o.1) 0 _ rfl;have bX:=Lh a;have:=In g;have:(g:Int)<(c.q0:Int):=K;cases u:CM b.name x.name with
     |true=>
      have cX:=Lh (Bs (c:=c) (λh=>by
       have:=List.any_eq_false.1 (h.2.2.2.2.2 m x cU.o).2.2 b (Lm (i:=g) (by rw[List.getElem?_take];simp[dI,bX.o]));exact this u))
      have:(b.name.toList==x.name.toList)=ϑ:=u;go_wp2_with fail;go_quiet(fail);go_wp2;go_ret;exact⟨by rw[cX.o];rfl,AG cK.o _⟩
     |false=>
      have dD:Hid (∀(e:Nat) b,e<g+1->c.q0[e]?=D b->CM b.name x.name=ϝ):=Lh (λe bR a p=>by
       by_cases dB:e=g
       .subst dB;rw[bX.o]at p;cases p;exact u
       exact s.o.2 e bR K p)
      have:(b.name.toList==x.name.toList)=ϝ:=u;go_wp2_with fail;go_quiet(fail);go_wp2;go_roundw;exact⟨g+1,K,by go_num,Lh ⟨AG s.o.1 _,dD.o⟩⟩;simp[intOf];omega
    have cV:Hid (∀(f:Nat) b,f<m+1->c.q0[f]?=D b->Ir c f b):=Lh (λf cZ a r=>by
     by_cases cO:f=m
     .subst cO;rw[cU.o]at r;cases r
      refine⟨dX.o,dW.o,?_⟩;rw[List.any_eq_false];intro b J;obtain⟨W,R,rfl⟩:=List.getElem_of_mem J;rw[List.length_take]at R;rw[List.getElem_take,s.o.2 W _ K (Lg K)];simp
     exact cI.o.2 f cZ K r)
    have V:=Lh (cI.o.1.th dF.o);go_wp2;go_roundw;exact⟨m+1,K,by go_num,Lh ⟨V.o,cV.o⟩⟩;simp[intOf];omega
   have cS:=Lh (Bs (c:=c) (λh=>v (h.2.2.2.2.2 m x cU.o).2.1));unfold CX at v;go_wp2_with fail;all_goals first
    |(exfalso;apply v;simp only[beq_iff_eq,beq_eq_false_iff_ne,decide_eq_true_eq,decide_eq_false_iff_not]at *;omega)
    |(go_ret;exact⟨by rw[cS.o];rfl,dE.o⟩)
 have bV:=Lh (FP (c:=c) ⟨dQ,eC.o,dO,dN,dM,λi x a=>cI.o.2 i x (by have:=(Ll a);omega) a⟩);go_wp2;go_ret;exact⟨by rw[bV.o];rfl,dH.o⟩