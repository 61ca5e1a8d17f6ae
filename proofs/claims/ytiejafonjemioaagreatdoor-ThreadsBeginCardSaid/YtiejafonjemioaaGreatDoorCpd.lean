import Derived.Test.YtiejafonjemioaaGreatDoorCpe
set_option maxHeartbeats 4000000
set_option maxRecDepth 100000
set_option linter.unusedVariables false
set_option linter.unusedSimpArgs false
open Go.Value renaming slice→σ
open Go.Obj renaming cells→χ
namespace Go.Proofs.YtiejafonjemioaaGreatDoor
open Go.RowKit
variable {w w' P:World} {c c':Clr} {T:Nat->Prop} {b:Nat} {o:Obj}
def Xxc (w:World) (c:Clr) (b:Nat):Prop:=w.heap[b]?=some (χ Bz 34 (0,0))/\c b=1
def Xyb (w:World) (c:Clr) (b:Nat):Prop:=w.heap[b]?=some (χ #[] 3 (0,0))/\c b=5
theorem Xxc.keep (h:Xxc w c b) (k:Chg T c c' w w') (hT:¬T 1):Xxc w' c' b:=
 have hl:=(La h.1)
 ⟨(k.keep b hl (by rw [h.2];exact hT)).trans h.1,(k.old b hl).trans h.2⟩
theorem Xyb.keep (h:Xyb w c b) (k:Chg T c c' w w') (hT:¬T 5):Xyb w' c' b:=
 have hl:=(La h.1)
 ⟨(k.keep b hl (by rw [h.2];exact hT)).trans h.1,(k.old b hl).trans h.2⟩
theorem X21 {T G:Prop} (h:T->G) (t:T):G:=h t
theorem Chg.t5 (h:Chg NO c c' w w'):Chg (fun t=>t=5) c c' w w':=h.mono (fun t h=>h.elim) δ
theorem Xuo {tag:Nat} (hw:w'=P.alloc o\/w'=(P.alloc o).drew):Chg NO c (fun x=>if x=P.heap.size then tag else c x) P w'/\w'.heap[P.heap.size]?=some o/\((∀ b,P.heap.size<=b->c b=0)->∀ b,w'.heap.size<=b->(fun x=>if x=P.heap.size then tag else c x) b=0):=by
 have hs:w'.heap.size=P.heap.size+1:=by rcases hw with rfl|rfl<;>simp
 refine ⟨Chg.paint _ _ ?_ (Nr _),?_,fun hi b hb=>?_⟩
 ·rcases hw with rfl|rfl
  ·exact Xa _ _
  ·exact Xsh _ _
 ·rcases hw with rfl|rfl
  ·exact Hn _ _
  ·exact Hn P o
 ·show (if _ then _ else _)=_
  rw [if_neg ω];exact hi b ω
theorem Xta (tag:Nat) (hw:w'=P.alloc o\/w'=(P.alloc o).drew) (h0:∀ b,P.heap.size<=b->c b=0):∃ (c':Clr) (b:Nat),b=P.heap.size/\Chg NO c c' P w'/\w'.heap[b]?=some o/\c' b=tag/\∀ b,w'.heap.size<=b->c' b=0:=by
 obtain ⟨h1,h2,h3⟩:=Xuo (c:=c) (tag:=tag) hw
 exact ⟨_,_,rfl,h1,h2,if_pos rfl,h3 h0⟩
theorem Xu9:(Tryz.prog.info? 51).map (fun i=>(i.zero,i.size,i.bytes))=some (some (.agg #[ν,ι 0,ι 0,ι 0,ι 0,ι 0,ι 0,ι 0,ι 0]),9,88):=by kernel_rfl
theorem Xw9:(Tryz.prog.info? 54).map (fun i=>(i.zero,i.size,i.bytes))=some (some ν,1,24):=by kernel_rfl
theorem Xxj:(Tryz.prog.info? 78).map (fun i=>(i.zero,i.size,i.bytes))=some (some ν,1,24):=by kernel_rfl
theorem Xun:(Tryz.prog.info? 22).map (fun i=>(i.zero,i.size,i.bytes))=some (some ν,1,24):=by kernel_rfl
theorem Xvu:∀ {l:List Xr7} {j:Nat} {u:Value},(Xss l)[j]?=some u->∃ i x r,l[i]?=some x/\(Xsv x)[r]?=some u/\j=i*5+r
 | [],_,_,h=>by simp [Xss] at h
 | y::l,j,u,h=>by
  have e:Xss (y::l)=Xsv y++Xss l:=rfl
  rw [e] at h
  by_cases hj:j<5
  ·rw [Al (by simpa [Xsv] using hj)] at h
   exact ⟨0,y,j,rfl,h,ω⟩
  ·rw [Ar (by simp [Xsv];omega)] at h
   obtain ⟨i,x,r,h1,h2,h3⟩:=Xvu h
   refine ⟨i+1,x,r,by simpa using h1,h2,?_⟩
   simp [Xsv] at h3
   omega
theorem Xyf:∀ l:List Xr7,(Xss l).length=l.length*5
 | []=>rfl
 | y::l=>by
  have e:Xss (y::l)=Xsv y++Xss l:=rfl
  rw [e,List.length_append,Xyf l]
  simp [Xsv];omega
theorem X1f:∀ l:List Xr7,∀ u∈Xss l,u.oneCell'=true:=fun l u hu=>by
 obtain ⟨j,hj,rfl⟩:=List.getElem_of_mem hu
 obtain ⟨i,x,r,h1,h2,h3⟩:=Xvu (Lg hj)
 have hm:=Lm h2
 simp only [Xsv,List.mem_cons,List.not_mem_nil,or_false] at hm
 rcases hm with h|h|h|h|h<;>rw [h]<;>rfl
theorem X2c {o:Nat} {x:Xr7} (h:Xtu w b o x) {r:Nat} {u:Value} (hu:(Xsv x)[r]?=some u):w.cell? (π b (o+r))=some u:=by
 obtain ⟨h0,h1,h2,h3,h4,-⟩:=h
 have hr:r<5:=by have:=(Ll hu);simpa [Xsv] using this
 match r,hr,hu with
 | 0,_,hu=>simp [Xsv] at hu;subst hu;exact h0
 | 1,_,hu=>simp [Xsv] at hu;subst hu;exact h1
 | 2,_,hu=>simp [Xsv] at hu;subst hu;exact h2
 | 3,_,hu=>simp [Xsv] at hu;subst hu;exact h3
 | 4,_,hu=>simp [Xsv] at hu;subst hu;exact h4
theorem X3b {o:Oper} {a:Act} {K:Act->World->Prop} {Q:Exit->Act->World->Prop} (tag:Nat) (s x:Operand) (ho:o.op=.call { callee:=.builtin .append,args:=#[s,x],argTypes:=#[78,78] })
  (e1:Nat) (he:w.heap[e1]?=some (χ #[] 84 (0,0))) (hs:a.eval s=σ (some (π e1 0)) 0 0) (xa:Option Addr) (n xc:Nat) (l:List Xr7) (B:Nat) (hx:a.eval x=σ xa n xc) (hl:Xf B w 5 Xtu (σ xa n xc) l) (hm:l.length<=1000000) (hc:c e1=tag) (h0:tag≠0) (hhi:∀ b,w.heap.size<=b->c b=0)
  (h:∀ g cap w' c',Xup w' c' tag (σ (some (π g 0)) n cap) l->Chg (fun k=>k=tag) c c' w w'->(∀ b,w'.heap.size<=b->c' b=0)->K (a.put o.dst (σ (some (π g 0)) n cap)) w'):o.wp Tryz.prog a w K Q:=by
 obtain ⟨aC,aD,aB,aE,aF,aG,hE⟩:=hl
 obtain ⟨rfl,rfl,rfl⟩:xa=aC/\n=l.length/\xc=aD:=by simpa using aB
 refine Xxy tag s x 78 84 ho Tryz.underlying78 Xvh rfl δ δ e1 he hs xa l.length xc (Xss l) hx (Xyf l) ?_ (X1f l) hm hc h0 hhi (fun g cap w' c' h1 h2 h3=>h g cap w' c' ⟨h1,fun q hq=>?_⟩ h2 h3)
 ·rcases hE with h0|⟨b,oo,rfl,aA,hE⟩
  ·left;rw [h0];rfl
  ·refine .inr ⟨_,rfl,fun j u hu=>?_⟩
   obtain ⟨i,y,r,h1,h2,rfl⟩:=Xvu hu
   have:=X2c (hE i y h1) h2
   rw [Xtf,show oo+(i*5+r)=oo+i*5+r by omega];exact this
 ·rcases hE with h0|⟨b,oo,rfl,aA,hE⟩
  ·subst h0;cases hq
  ·obtain ⟨i,hi,rfl⟩:=List.getElem_of_mem hq
   exact (hE i _ (Lg hi)).2.2.2.2.2
theorem Xue (s:Thr) (sv:Value) (B:Nat) (w:World) (hB:B<=w.heap.size) (hs:Xsd B w sv s) (ok:Xw7 s) :
  Calls Tryz.prog 67 #[sv] w (Xvo s w):=by
 obtain ⟨gv,mv,rv,kv,cv,ov,bv,ev,rfl,hg,hm,hr,hk,hc,ho,gD,gI,f64,s64⟩:=hs
 obtain ⟨ga,gc,rfl⟩:=hg.form
 obtain ⟨ma,mc,rfl⟩:=hm.form
 obtain ⟨ra,rc,rfl⟩:=hr.form
 obtain ⟨ka,kc,rfl⟩:=hk.form
 obtain ⟨ca,cc,rfl⟩:=hc.form
 obtain ⟨oa,oc,rfl⟩:=ho.form
 obtain ⟨ba,bc,rfl⟩:=gD.form
 obtain ⟨ea,ec,rfl⟩:=gI.form
 obtain ⟨W,hW⟩:∃ W,W=(w.alloc (χ (Bt ga gc ma mc ra rc ka kc ca cc oa oc ba bc ea ec s) 34)).alloc (χ Bz 34):=⟨_,rfl⟩
 have dY:Hid (Below w.heap.size w W):=by rw [hW];exact Lh ((Xa _ _).then (Xa _ _))
 have iF:Hid (W.heap.size=w.heap.size+2):=by rw [hW];exact Lh ψ
 have B0:Hid (W.heap[w.heap.size]?=some (χ (Bt ga gc ma mc ra rc ka kc ca cc oa oc ba bc ea ec s) 34 (0,0))):=Lh (by
  rw [hW,Ha _ _ _ ψ]
  exact Hn _ _)
 have B1:Hid (W.heap[w.heap.size+1]?=some (χ Bz 34 (0,0))):=Lh (by
  rw [hW]
  have:=Hn (w.alloc (χ (Bt ga gc ma mc ra rc ka kc ca cc oa oc ba bc ea ec s) 34)) (χ Bz 34)
  rw [show (w.alloc (χ (Bt ga gc ma mc ra rc ka kc ca cc oa oc ba bc ea ec s) 34)).heap.size=w.heap.size+1 by simp] at this
  exact this)
 have HG:=Lh hg
 have HM:=Lh hm
 have HR:=Lh hr
 have HK:=Lh hk
 have HC:=Lh hc
 have HO:=Lh ho
 have iT:=Lh gD
 have iU:=Lh gI
 have gR:=Lh (And.intro f64 s64)
 have HB:=Lh hB
 have OK:=Lh ok
 have aQ:Hid (∀ (V:World) (c':Clr) (T:Nat->Prop),Chg T (fun b=>if b<w.heap.size\/b=w.heap.size+1 then 14 else 0) c' W V->¬T 14->Below w.heap.size w V):=Lh (fun V c' T h jA=>dY.o.trans ⟨h.os,h.tape,h.output,h.size,fun b hb=>h.keep b (Nl hb dY.o.size) (by rw [if_pos (.inl hb)];exact jA)⟩)
 have eS:Hid (Chg (fun t=>t=5) (fun b=>if b<w.heap.size\/b=w.heap.size+1 then 14 else 0) (fun b=>if b<w.heap.size\/b=w.heap.size+1 then 14 else 0) W W.drew):=Lh (Chg.of_below (Xh Br 1) δ)
 have eZ:Hid (∀ b,W.heap.size<=b->(fun b=>if b<w.heap.size\/b=w.heap.size+1 then 14 else 0) b=0):=Lh (fun b hb=>if_neg (by have:=iF.o;omega))
 have aP:Hid (∀ V,Below w.heap.size w V->Calls Tryz.prog 50 #[.agg (Bm ga gc ma mc s.mem)] V (Xwp s.mem V)):=Lh (fun V hV=>Xyr s.mem _ B V (Nt hB hV.size) (MmV.below (hV.mono hB) ⟨_,_,rfl,hg,hm⟩) ok.g ok.n ok.f)
 have cH:Hid (∀ V,Below w.heap.size w V->Xf B V 1 Zd (σ ka s.nodes.length kc) s.nodes):=Lh (fun V hV=>hk.ints (hV.mono hB))
 have aJ:Hid (∀ (V:World) (c':Clr),Chg (fun t=>t=5) (fun b=>if b<w.heap.size\/b=w.heap.size+1 then 14 else 0) c' W V->V.cell? (π w.heap.size 0)=some (σ ga s.mem.globals.length gc)/\V.cell? (π w.heap.size 1)=some (σ ma s.mem.nodes.length mc)/\V.cell? (π w.heap.size 2)=some (ι s.fuel)/\V.cell? (π w.heap.size 4)=some (σ ka s.nodes.length kc)/\V.cell? (π w.heap.size 9)=some (ι s.step)):=Lh (fun V c' h=>by
  have dW:∀ (j:Nat) v,((Bt ga gc ma mc ra rc ka kc ca cc oa oc ba bc ea ec s):Array Value)[j]?=some v->V.cell? (π w.heap.size j)=some v:=fun j v hv=>h.cell (by rw [cell_of_row _ _ _ _ _ _ B0.o];exact hv) (by show ¬(if _ then _ else _)=_;rw [if_neg (by show ¬(w.heap.size<w.heap.size\/w.heap.size=_);omega)];decide)
  exact ⟨dW 0 _ rfl,dW 1 _ rfl,dW 2 _ rfl,dW 4 _ rfl,dW 9 _ rfl⟩)
 have jB:=aJ.o W _ (Chg.of_below Br δ)
 obtain ⟨p0,p1,p2,p4,p9⟩:=jB
 have cU:Hid (s.nodes.length<=1000000):=Lh ok.kl
 clear hg hm hr hk hc ho gD gI f64 s64 hB ok
 go_enter Tryz.func67,Tryz.ntmps67
 go_upto_region 1 with fail
 rw [<-hW]
 have HW:=Lh hW
 clear hW
 refine X6 (fun Vs=>Vs.cell? (π w.heap.size 0)=some (σ ga s.mem.globals.length gc)/\Vs.cell? (π w.heap.size 1)=some (σ ma s.mem.nodes.length mc)/\Vs.cell? (π w.heap.size 2)=some (ι s.fuel)/\Vs.cell? (π w.heap.size 4)=some (σ ka s.nodes.length kc)/\Vs.cell? (π w.heap.size 9)=some (ι s.step)) [2,5,8,11,12,13] true 14 rfl κ κ ⟨p0,p1,p2,p4,p9⟩ ?_
 repeat (first|(refine' Xr4.take (Eq.refl false) _ (fun wV aK=>?_) ?_;rotate_left;(try dsimp only at aK);go_simp;(try with_reducible rfl);try simp only [Ap])|refine Xr4.skip (Eq.refl true) ?_)
 refine Xr4.stop ?_
 simp only [List.nil_append,List.cons_append]
 clear p0 p1 p2 p4 p9
 refine' X21 (fun fX=>?_) ?_
 rotate_left
 ·refine Xu2 [_,_,_] ?_
  refine Xze κ κ ?kx1 ?ky1 ?kz1
  case' kx1=>
   go_simp
   refine (aP.o W.drew (aQ.o _ _ _ eS.o δ)).mono ?_
   rintro e w1 ⟨cM,aV,cO,aX,rfl,hb,bF⟩
   obtain ⟨c1,nx,hC,hM⟩:=bF (fun b=>if b<w.heap.size\/b=w.heap.size+1 then 14 else 0) eZ.o
   have eK:=Lh hM
   have bO:=Lh (eS.o.trans hC.t5)
   have cT:=Lh hM.hi
   clear bF hb hC hM
   refine ⟨aJ.o _ _ bO.o,?_⟩
   refine Xs3 κ κ ?kx2 ?ky2
   case' kx2=>
    go_simp
    obtain ⟨w2,hw⟩:∃ u,u=(w1.alloc (χ Bz 34)):=⟨_,rfl⟩
    rw [<-hw]
    obtain ⟨c2,bo,aF,hC,hE,aB,aA⟩:=Xta (c:=c1) 1 (.inl hw) cT.o
    try rw [<-aF]
    have aM:=Lh (bO.o.trans hC.t5)
    have bE:=Lh aA
    have D2:Hid (Xxc w2 c2 bo):=Lh ⟨hE,aB⟩
    have cC:=Lh (eK.o.keep hC bE.o (fun t h=>h.elim))
    clear hC hE aA aB hw aF
    refine ⟨aJ.o _ _ aM.o,?_⟩
    refine X5 κ ?_
    go_simp
    obtain ⟨w3,hw⟩:∃ u,u=(w2.alloc (χ #[] 3)):=⟨_,rfl⟩
    rw [<-hw]
    obtain ⟨c3,e1,aF,hC,hE,aB,aA⟩:=Xta (c:=c2) 5 (.inl hw) bE.o
    try rw [<-aF]
    have aG:=Lh (aM.o.trans hC.t5)
    have aU:=Lh aA
    have E3:Hid (Xyb w3 c3 e1):=Lh ⟨hE,aB⟩
    have D3:=Lh (D2.o.keep hC (no _))
    have bA:=Lh (cC.o.keep hC aU.o (fun t h=>h.elim))
    clear hC hE aA aB hw aF
    refine ⟨aJ.o _ _ aG.o,?_⟩
    refine X5 κ ?_
    refine Xtj 5 (.tmp 10) (.tmp 12) rfl (c:=c3) e1 E3.o.1 rfl ka s.nodes.length kc s.nodes B rfl (cH.o w3 (aQ.o _ _ _ aG.o δ)) cU.o E3.o.2 δ aU.o (fun gk aN w4 c4 hI hC aA=>?_)
    have cL:=Lh hI
    have aY:=Lh (aG.o.trans hC)
    have bS:=Lh aA
    have bP:=Lh (bA.o.keep hC aA (fun t h=>h))
    have D4:=Lh (D3.o.keep hC δ)
    clear hI hC aA
    refine ⟨.inl (aJ.o _ _ aY.o),?_⟩
    (refine' Z6 κ _ (fun wV aK=>?_) ?_;rotate_left;(clear aK;go_simp);(try with_reducible rfl);try simp only [Ap])
   case' ky2=>
    go_simp
    obtain ⟨w2,hw⟩:∃ u,u=(w1.alloc (χ #[] 3)):=⟨_,rfl⟩
    rw [<-hw]
    obtain ⟨c2,e1,aF,hC,hE,aB,aA⟩:=Xta (c:=c1) 5 (.inl hw) cT.o
    try rw [<-aF]
    have aM:=Lh (bO.o.trans hC.t5)
    have bE:=Lh aA
    have E2:Hid (Xyb w2 c2 e1):=Lh ⟨hE,aB⟩
    have cC:=Lh (eK.o.keep hC bE.o (fun t h=>h.elim))
    clear hC hE aA aB hw aF
    refine ⟨aJ.o _ _ aM.o,?_⟩
    refine Xs3 κ κ ?kx3 ?ky3
    case' kx3=>
     go_simp
     obtain ⟨w3,hw⟩:∃ u,u=(w2.alloc (χ Bz 34)):=⟨_,rfl⟩
     rw [<-hw]
     obtain ⟨c3,bo,aF,hC,hE,aB,aA⟩:=Xta (c:=c2) 1 (.inl hw) bE.o
     try rw [<-aF]
     have aG:=Lh (aM.o.trans hC.t5)
     have aU:=Lh aA
     have D3:Hid (Xxc w3 c3 bo):=Lh ⟨hE,aB⟩
     have E3:=Lh (E2.o.keep hC (no _))
     have bA:=Lh (cC.o.keep hC aU.o (fun t h=>h.elim))
     clear hC hE aA aB hw aF
     refine ⟨aJ.o _ _ aG.o,?_⟩
     refine X5 κ ?_
     refine Xtj 5 (.tmp 10) (.tmp 12) rfl (c:=c3) e1 E3.o.1 rfl ka s.nodes.length kc s.nodes B rfl (cH.o w3 (aQ.o _ _ _ aG.o δ)) cU.o E3.o.2 δ aU.o (fun gk aN w4 c4 hI hC aA=>?_)
     have cL:=Lh hI
     have aY:=Lh (aG.o.trans hC)
     have bS:=Lh aA
     have bP:=Lh (bA.o.keep hC aA (fun t h=>h))
     have D4:=Lh (D3.o.keep hC δ)
     clear hI hC aA
     refine ⟨.inl (aJ.o _ _ aY.o),?_⟩
     (refine' Z6 κ _ (fun wV aK=>?_) ?_;rotate_left;(clear aK;go_simp);(try with_reducible rfl);try simp only [Ap])
    case' ky3=>
     refine Xtj 5 (.tmp 10) (.tmp 12) rfl (c:=c2) e1 E2.o.1 rfl ka s.nodes.length kc s.nodes B rfl (cH.o w2 (aQ.o _ _ _ aM.o δ)) cU.o E2.o.2 δ bE.o (fun gk aN w3 c3 hI hC aA=>?_)
     have dX:=Lh hI
     have aG:=Lh (aM.o.trans hC)
     have aU:=Lh aA
     have bA:=Lh (cC.o.keep hC aA (fun t h=>h))
     clear hI hC aA
     refine ⟨.inl (aJ.o _ _ aG.o),?_⟩
     refine Xte ?_
     (refine' Z6 κ _ (fun wV aK=>?_) ?_;rotate_left;(clear aK;go_simp);(try with_reducible rfl);try simp only [Ap])
     refine X5 κ ?_
     go_simp
     obtain ⟨w4,hw⟩:∃ u,u=(w3.alloc (χ Bz 34)):=⟨_,rfl⟩
     rw [<-hw]
     obtain ⟨c4,bo,aF,hC,hE,aB,aA⟩:=Xta (c:=c3) 1 (.inl hw) aU.o
     try rw [<-aF]
     have aY:=Lh (aG.o.trans hC.t5)
     have bS:=Lh aA
     have D4:Hid (Xxc w4 c4 bo):=Lh ⟨hE,aB⟩
     have bP:=Lh (bA.o.keep hC bS.o (fun t h=>h.elim))
     have cL:=Lh (dX.o.keep hC (no _))
     clear hC hE aA aB hw aF
     refine ⟨aJ.o _ _ aY.o,?_⟩
  case' ky1=>
   go_simp
   obtain ⟨w1,hw⟩:∃ u,u=(W.alloc (χ Bz 34)).drew:=⟨_,rfl⟩
   rw [<-hw]
   obtain ⟨c1,bo,aF,hC,hE,aB,aA⟩:=Xta (c:=(fun b=>if b<w.heap.size\/b=w.heap.size+1 then 14 else 0)) 1 (.inr hw) eZ.o
   try rw [<-aF]
   have bO:=Lh ((Chg.of_below (T:=fun t=>t=5) (c:=(fun b=>if b<w.heap.size\/b=w.heap.size+1 then 14 else 0)) Br δ).trans hC.t5)
   have cT:=Lh aA
   have D1:Hid (Xxc w1 c1 bo):=Lh ⟨hE,aB⟩
   clear hC hE aA aB hw aF
   refine ⟨aJ.o _ _ (Chg.of_below (Xa W _) δ),?_⟩
   refine Xs3 κ κ ?kx4 ?ky4
   case' kx4=>
    go_simp
    refine (aP.o w1 (aQ.o _ _ _ bO.o δ)).mono ?_
    rintro e w2 ⟨cM,aV,cO,aX,rfl,hb,bF⟩
    obtain ⟨c2,nx,hC,hM⟩:=bF c1 cT.o
    have cC:=Lh hM
    have aM:=Lh (bO.o.trans hC.t5)
    have bE:=Lh hM.hi
    have D2:=Lh (D1.o.keep hC (no _))
    clear bF hb hC hM
    refine ⟨aJ.o _ _ aM.o,?_⟩
    refine X5 κ ?_
    go_simp
    obtain ⟨w3,hw⟩:∃ u,u=(w2.alloc (χ #[] 3)):=⟨_,rfl⟩
    rw [<-hw]
    obtain ⟨c3,e1,aF,hC,hE,aB,aA⟩:=Xta (c:=c2) 5 (.inl hw) bE.o
    try rw [<-aF]
    have aG:=Lh (aM.o.trans hC.t5)
    have aU:=Lh aA
    have E3:Hid (Xyb w3 c3 e1):=Lh ⟨hE,aB⟩
    have D3:=Lh (D2.o.keep hC (no _))
    have bA:=Lh (cC.o.keep hC aU.o (fun t h=>h.elim))
    clear hC hE aA aB hw aF
    refine ⟨aJ.o _ _ aG.o,?_⟩
    refine X5 κ ?_
    refine Xtj 5 (.tmp 10) (.tmp 12) rfl (c:=c3) e1 E3.o.1 rfl ka s.nodes.length kc s.nodes B rfl (cH.o w3 (aQ.o _ _ _ aG.o δ)) cU.o E3.o.2 δ aU.o (fun gk aN w4 c4 hI hC aA=>?_)
    have cL:=Lh hI
    have aY:=Lh (aG.o.trans hC)
    have bS:=Lh aA
    have bP:=Lh (bA.o.keep hC aA (fun t h=>h))
    have D4:=Lh (D3.o.keep hC δ)
    clear hI hC aA
    refine ⟨.inl (aJ.o _ _ aY.o),?_⟩
    (refine' Z6 κ _ (fun wV aK=>?_) ?_;rotate_left;(clear aK;go_simp);(try with_reducible rfl);try simp only [Ap])
   case' ky4=>
    go_simp
    obtain ⟨w2,hw⟩:∃ u,u=(w1.alloc (χ #[] 3)):=⟨_,rfl⟩
    rw [<-hw]
    obtain ⟨c2,e1,aF,hC,hE,aB,aA⟩:=Xta (c:=c1) 5 (.inl hw) cT.o
    try rw [<-aF]
    have aM:=Lh (bO.o.trans hC.t5)
    have bE:=Lh aA
    have E2:Hid (Xyb w2 c2 e1):=Lh ⟨hE,aB⟩
    have D2:=Lh (D1.o.keep hC (no _))
    clear hC hE aA aB hw aF
    refine ⟨aJ.o _ _ aM.o,?_⟩
    refine X5 κ ?_
    go_simp
    refine (aP.o w2 (aQ.o _ _ _ aM.o δ)).mono ?_
    rintro e w3 ⟨cM,aV,cO,aX,rfl,hb,bF⟩
    obtain ⟨c3,nx,hC,hM⟩:=bF c2 bE.o
    have bA:=Lh hM
    have aG:=Lh (aM.o.trans hC.t5)
    have aU:=Lh hM.hi
    have E3:=Lh (E2.o.keep hC (no _))
    have D3:=Lh (D2.o.keep hC (no _))
    clear bF hb hC hM
    refine ⟨aJ.o _ _ aG.o,?_⟩
    refine X5 κ ?_
    refine Xtj 5 (.tmp 10) (.tmp 12) rfl (c:=c3) e1 E3.o.1 rfl ka s.nodes.length kc s.nodes B rfl (cH.o w3 (aQ.o _ _ _ aG.o δ)) cU.o E3.o.2 δ aU.o (fun gk aN w4 c4 hI hC aA=>?_)
    have cL:=Lh hI
    have aY:=Lh (aG.o.trans hC)
    have bS:=Lh aA
    have bP:=Lh (bA.o.keep hC aA (fun t h=>h))
    have D4:=Lh (D3.o.keep hC δ)
    clear hI hC aA
    refine ⟨.inl (aJ.o _ _ aY.o),?_⟩
    (refine' Z6 κ _ (fun wV aK=>?_) ?_;rotate_left;(clear aK;go_simp);(try with_reducible rfl);try simp only [Ap])
  case' kz1=>
   go_simp
   obtain ⟨w1,hw⟩:∃ u,u=(W.alloc (χ #[] 3)).drew:=⟨_,rfl⟩
   rw [<-hw]
   obtain ⟨c1,e1,aF,hC,hE,aB,aA⟩:=Xta (c:=(fun b=>if b<w.heap.size\/b=w.heap.size+1 then 14 else 0)) 5 (.inr hw) eZ.o
   try rw [<-aF]
   have bO:=Lh ((Chg.of_below (T:=fun t=>t=5) (c:=(fun b=>if b<w.heap.size\/b=w.heap.size+1 then 14 else 0)) Br δ).trans hC.t5)
   have cT:=Lh aA
   have E1:Hid (Xyb w1 c1 e1):=Lh ⟨hE,aB⟩
   clear hC hE aA aB hw aF
   refine ⟨aJ.o _ _ (Chg.of_below (Xa W _) δ),?_⟩
   refine Xs3 κ κ ?kx5 ?ky5
   case' kx5=>
    go_simp
    refine (aP.o w1 (aQ.o _ _ _ bO.o δ)).mono ?_
    rintro e w2 ⟨cM,aV,cO,aX,rfl,hb,bF⟩
    obtain ⟨c2,nx,hC,hM⟩:=bF c1 cT.o
    have cC:=Lh hM
    have aM:=Lh (bO.o.trans hC.t5)
    have bE:=Lh hM.hi
    have E2:=Lh (E1.o.keep hC (no _))
    clear bF hb hC hM
    refine ⟨aJ.o _ _ aM.o,?_⟩
    refine Xs3 κ κ ?kx6 ?ky6
    case' kx6=>
     go_simp
     obtain ⟨w3,hw⟩:∃ u,u=(w2.alloc (χ Bz 34)):=⟨_,rfl⟩
     rw [<-hw]
     obtain ⟨c3,bo,aF,hC,hE,aB,aA⟩:=Xta (c:=c2) 1 (.inl hw) bE.o
     try rw [<-aF]
     have aG:=Lh (aM.o.trans hC.t5)
     have aU:=Lh aA
     have D3:Hid (Xxc w3 c3 bo):=Lh ⟨hE,aB⟩
     have E3:=Lh (E2.o.keep hC (no _))
     have bA:=Lh (cC.o.keep hC aU.o (fun t h=>h.elim))
     clear hC hE aA aB hw aF
     refine ⟨aJ.o _ _ aG.o,?_⟩
     refine X5 κ ?_
     refine Xtj 5 (.tmp 10) (.tmp 12) rfl (c:=c3) e1 E3.o.1 rfl ka s.nodes.length kc s.nodes B rfl (cH.o w3 (aQ.o _ _ _ aG.o δ)) cU.o E3.o.2 δ aU.o (fun gk aN w4 c4 hI hC aA=>?_)
     have cL:=Lh hI
     have aY:=Lh (aG.o.trans hC)
     have bS:=Lh aA
     have bP:=Lh (bA.o.keep hC aA (fun t h=>h))
     have D4:=Lh (D3.o.keep hC δ)
     clear hI hC aA
     refine ⟨.inl (aJ.o _ _ aY.o),?_⟩
     (refine' Z6 κ _ (fun wV aK=>?_) ?_;rotate_left;(clear aK;go_simp);(try with_reducible rfl);try simp only [Ap])
    case' ky6=>
     refine Xtj 5 (.tmp 10) (.tmp 12) rfl (c:=c2) e1 E2.o.1 rfl ka s.nodes.length kc s.nodes B rfl (cH.o w2 (aQ.o _ _ _ aM.o δ)) cU.o E2.o.2 δ bE.o (fun gk aN w3 c3 hI hC aA=>?_)
     have dX:=Lh hI
     have aG:=Lh (aM.o.trans hC)
     have aU:=Lh aA
     have bA:=Lh (cC.o.keep hC aA (fun t h=>h))
     clear hI hC aA
     refine ⟨.inl (aJ.o _ _ aG.o),?_⟩
     refine Xte ?_
     (refine' Z6 κ _ (fun wV aK=>?_) ?_;rotate_left;(clear aK;go_simp);(try with_reducible rfl);try simp only [Ap])
     refine X5 κ ?_
     go_simp
     obtain ⟨w4,hw⟩:∃ u,u=(w3.alloc (χ Bz 34)):=⟨_,rfl⟩
     rw [<-hw]
     obtain ⟨c4,bo,aF,hC,hE,aB,aA⟩:=Xta (c:=c3) 1 (.inl hw) aU.o
     try rw [<-aF]
     have aY:=Lh (aG.o.trans hC.t5)
     have bS:=Lh aA
     have D4:Hid (Xxc w4 c4 bo):=Lh ⟨hE,aB⟩
     have bP:=Lh (bA.o.keep hC bS.o (fun t h=>h.elim))
     have cL:=Lh (dX.o.keep hC (no _))
     clear hC hE aA aB hw aF
     refine ⟨aJ.o _ _ aY.o,?_⟩
   case' ky5=>
    go_simp
    obtain ⟨w2,hw⟩:∃ u,u=(w1.alloc (χ Bz 34)):=⟨_,rfl⟩
    rw [<-hw]
    obtain ⟨c2,bo,aF,hC,hE,aB,aA⟩:=Xta (c:=c1) 1 (.inl hw) cT.o
    try rw [<-aF]
    have aM:=Lh (bO.o.trans hC.t5)
    have bE:=Lh aA
    have D2:Hid (Xxc w2 c2 bo):=Lh ⟨hE,aB⟩
    have E2:=Lh (E1.o.keep hC (no _))
    clear hC hE aA aB hw aF
    refine ⟨aJ.o _ _ aM.o,?_⟩
    refine X5 κ ?_
    go_simp
    refine (aP.o w2 (aQ.o _ _ _ aM.o δ)).mono ?_
    rintro e w3 ⟨cM,aV,cO,aX,rfl,hb,bF⟩
    obtain ⟨c3,nx,hC,hM⟩:=bF c2 bE.o
    have bA:=Lh hM
    have aG:=Lh (aM.o.trans hC.t5)
    have aU:=Lh hM.hi
    have E3:=Lh (E2.o.keep hC (no _))
    have D3:=Lh (D2.o.keep hC (no _))
    clear bF hb hC hM
    refine ⟨aJ.o _ _ aG.o,?_⟩
    refine X5 κ ?_
    refine Xtj 5 (.tmp 10) (.tmp 12) rfl (c:=c3) e1 E3.o.1 rfl ka s.nodes.length kc s.nodes B rfl (cH.o w3 (aQ.o _ _ _ aG.o δ)) cU.o E3.o.2 δ aU.o (fun gk aN w4 c4 hI hC aA=>?_)
    have cL:=Lh hI
    have aY:=Lh (aG.o.trans hC)
    have bS:=Lh aA
    have bP:=Lh (bA.o.keep hC aA (fun t h=>h))
    have D4:=Lh (D3.o.keep hC δ)
    clear hI hC aA
    refine ⟨.inl (aJ.o _ _ aY.o),?_⟩
    (refine' Z6 κ _ (fun wV aK=>?_) ?_;rotate_left;(clear aK;go_simp);(try with_reducible rfl);try simp only [Ap])
  all_goals
   obtain ⟨⟨y0,y1,y2,y3,y4,y5,y6,y7,y8,y9⟩,⟨z0,z1,z2,z3,z4,z5,z6,z7,z8,z9⟩,zz⟩:=ten D4.o.1
   refine X5 κ ?_
   go_simp
   refine Xr3 ?_
   clear y0 y1 y2 y3 y4 y5 y6 y7 y8 y9 z0 z1 z2 z3 z4 z5 z6 z7 z8 z9 zz
   obtain ⟨Wf,dF⟩:∃ u,u=Xr6 w4 bo (σ cM s.mem.globals.length aV) (σ cO s.mem.nodes.length aX) (ι s.fuel) ν (σ (some (π gk 0)) s.nodes.length aN) ν ν ν ν (ι s.step):=⟨_,rfl⟩
   have hP:Chg (fun t=>t=1) c4 c4 w4 Wf:=by rw [dF];exact Xs2 D4.o.2 δ
   have hz:Wf.heap.size=w4.heap.size:=by rw [dF,Xtg]
   have aA:∀ b,Wf.heap.size<=b->c4 b=0:=fun b hb=>bS.o b (by rw [<-hz];exact hb)
   have hO:Xxp Wf c4 s.mem (σ cM s.mem.globals.length aV) (σ cO s.mem.nodes.length aX) nx:=⟨aA,bP.o.g.keep hP δ,bP.o.n.keep hP δ,fun i x hx=>by
    obtain ⟨lv,h1,h2,h3,h4⟩:=bP.o.nn i x hx
    exact ⟨lv,h1,h2,h3,h4.keep hP ω⟩⟩
   have dJ:Hid (X13 s W (fun b=>if b<w.heap.size\/b=w.heap.size+1 then 14 else 0) bo 0 Wf c4):=Lh ⟨X06 hO (cL.o.keep hP δ) (by rw [dF];exact V4 D4.o.1 (σ cM s.mem.globals.length aV) (σ cO s.mem.nodes.length aX) (ι s.fuel) ν (σ (some (π gk 0)) s.nodes.length aN) ν ν ν ν (ι s.step)) D4.o.2 gR.o.1 gR.o.2,(aY.o.nz δ).trans (hP.nz δ)⟩
   unfold Xr6 at dF
   rw [<-dF]
   clear hP hz aA hO dF
   try clear D4
   try clear cL
   try clear bP
   try clear aY
   try clear bS
   try clear D3
   try clear E3
   try clear dX
   try clear bA
   try clear D2
   try clear E2
   try clear KI2
   try clear cC
   try clear D1
   try clear E1
   try clear eK
   revert dJ
   revert c4
   revert Wf
   revert bo
   revert e1
   revert aN
   revert gk
   revert aX
   revert cO
   revert aV
   revert cM
   exact fX
 intro cM aV cO aX gk aN e1 bo Wf c4 dJ
 have dE:Hid (∀ (V:World) (c':Clr),Chg NZ (fun b=>if b<w.heap.size\/b=w.heap.size+1 then 14 else 0) c' W V->∀ (j:Nat) v,((Bt ga gc ma mc ra rc ka kc ca cc oa oc ba bc ea ec s):Array Value)[j]?=some v->V.cell? (π w.heap.size j)=some v):=Lh (fun V c' h j v hv=>h.cell (by rw [cell_of_row _ _ _ _ _ _ B0.o];exact hv) (by show ¬NZ (if _ then _ else _);rw [if_neg (by show ¬(w.heap.size<w.heap.size\/w.heap.size=_);omega)];exact nz0))
 have i3:=dE.o Wf c4 dJ.o.chg 3 _ rfl
 have zi:=Bl i3
 clear aP cH aJ eS
 go_wp2_with fail
 clear i3 zi
 go_loopw [20] (fun i wr=>∃ k:Nat,k<=s.running.length/\i=ι k/\Hid (∃ c,X13 s W (fun b=>if b<w.heap.size\/b=w.heap.size+1 then 14 else 0) bo k wr c)) (fun i _=>s.running.length - (intOf i).toNat)
 case atStart=>exact ⟨0,Nat.zero_le _,rfl,Lh ⟨_,dJ.o⟩⟩
 case round=>
  obtain ⟨k,hk,rfl,aL⟩:=hrel
  obtain ⟨c,aL⟩:=aL.o
  have HS:=Lh aL
  clear aL dJ
  by_cases dV:k<s.running.length
  ·obtain ⟨m,hm⟩:∃ y,s.running[k]?=some y:=⟨_,Lg dV⟩
   obtain ⟨lc_,gL⟩:∃ y,s.calls[k]?=some y:=⟨_,Lg (by rw [OK.o.cl];exact dV)⟩
   obtain ⟨lo_,gN⟩:∃ y,s.results[k]?=some y:=⟨_,Lg (by rw [OK.o.ol];exact dV)⟩
   obtain ⟨lb_,gK⟩:∃ y,s.begins[k]?=some y:=⟨_,Lg (by rw [OK.o.bl];exact dV)⟩
   obtain ⟨le_,gM⟩:∃ y,s.ends[k]?=some y:=⟨_,Lg (by rw [OK.o.el];exact dV)⟩
   obtain ⟨rb,ro,rfl,iE,iC⟩:=HR.o.nth hm
   obtain ⟨cb,co,rfl,iA,jI,gE,gF⟩:=HC.o.nth gL
   obtain ⟨ob,oo,rfl,iD,jQ,gO,gP⟩:=HO.o.nth gN
   obtain ⟨bb,bo_,rfl,hX,jH,gB,gC⟩:=iT.o.nth gK
   obtain ⟨eb,eo,rfl,iB,jJ,gG,gH⟩:=iU.o.nth gM
   obtain ⟨fY,fZ,rfl⟩:=gF.form
   obtain ⟨iR,iS,rfl⟩:=gP.form
   obtain ⟨hD,hF,rfl⟩:=gC.form
   obtain ⟨hL,hN,rfl⟩:=gH.form
   rw [Nat.mul_one] at gE gO gB gG
   have HX:=Lh (And.intro hm (And.intro gL (And.intro gN (And.intro gK gM))))
   have aO:=Lh (And.intro iE (And.intro iA (And.intro iD (And.intro hX iB))))
   have iX:=Lh iC
   have gT:=Lh (And.intro gE gF)
   have gV:=Lh (And.intro gO gP)
   have gS:=Lh (And.intro gB gC)
   have gU:=Lh (And.intro gG gH)
   have jK:(0:Int)<=(k:Int):=In _
   have dZ:(k:Int)<(s.running.length:Int):=ω
   have jL:(k:Int)<(s.calls.length:Int):=by rw [OK.o.cl];exact dZ
   have jM:(k:Int)<(s.results.length:Int):=by rw [OK.o.ol];exact dZ
   have jN:(k:Int)<(s.begins.length:Int):=by rw [OK.o.bl];exact dZ
   have jO:(k:Int)<(s.ends.length:Int):=by rw [OK.o.el];exact dZ
   have bC:Hid ((s.running.take k).length=k/\(s.calls.take k).length=k/\(s.results.take k).length=k/\(s.begins.take k).length=k/\(s.ends.take k).length=k):=Lh (by
    rw [List.length_take,List.length_take,List.length_take,List.length_take,List.length_take,OK.o.cl,OK.o.ol,OK.o.bl,OK.o.el];omega)
   have cD:Hid (∀ (V:World) (c':Clr),Chg NZ (fun b=>if b<w.heap.size\/b=w.heap.size+1 then 14 else 0) c' W V->Below B w V):=Lh (fun V c' h=>(aQ.o V c' _ h Xvf).mono HB.o)
   have bB:Hid (∀ (V:World) (c':Clr),Chg NZ (fun b=>if b<w.heap.size\/b=w.heap.size+1 then 14 else 0) c' W V->∀ b,b<B->c' b=14):=Lh (fun V c' h b hb=>by have h1:=HB.o;have h2:=dY.o.size;rw [h.old b ω];exact if_pos (.inl ω))
   have cP:Hid (∀ (V:World) (c':Clr),Chg NZ (fun b=>if b<w.heap.size\/b=w.heap.size+1 then 14 else 0) c' W V->c' w.heap.size=0):=Lh (fun V c' h=>by have h2:=iF.o;rw [h.old _ ω];exact if_neg ω)
   have gW:=Lh HS.o.st
   have bD:=Lh HS.o.chg
   clear hm gL gN gK gM iE iA iD hX iB iC gE gF gO gP gB gC gG gH
   have hP:=cD.o _ _ bD.o
   obtain ⟨iH,iM,jC,b0,aW,bG⟩:=gW.o.pushR
   rw [show (tk5 s k k k k k).running.length=k from bC.o.1] at b0 aW
   have fJ:=Lh aW
   have eT:=Lh bG
   have bT:=Lh gW.o.lab
   have i0:=dE.o _ _ bD.o 3 _ rfl
   clear aW bG
   obtain ⟨fv,gJ,m0,m1,m2,m3,m4,m5,m6,m7,m8,iG⟩:=(Xu4.below hP aO.o.1 iX.o).nine
   obtain ⟨fa,fc,rfl⟩:=gJ.form
   have iV:=Lh gJ
   have iZ:=Lh iG
   clear gJ iG
   clear hP
   have z0:=bT.o.2.1
   have z1:=Bl i0
   have z2:=Bl m0
   go_upto_region 5 with fail
   clear z0 z1 z2
   refine X6 (fun Vs=>Vs.cell? (π bo 3)=some (σ iH k iM)/\Vs.cell? (π w.heap.size 3)=some (σ (some (π rb ro)) s.running.length rc)/\Vs.cell? (π rb (ro+k*9))=some (σ fa m.frames.length fc)/\Vs.cell? (π rb (ro+k*9+1))=some (ι m.req.kind)/\Vs.cell? (π rb (ro+k*9+2))=some (ι m.req.node)/\Vs.cell? (π rb (ro+k*9+3))=some (ι m.req.field)/\Vs.cell? (π rb (ro+k*9+4))=some (ι m.req.value)/\Vs.cell? (π rb (ro+k*9+5))=some (ι m.req.fault)/\Vs.cell? (π rb (ro+k*9+6))=some (ι m.fuel)/\Vs.cell? (π rb (ro+k*9+7))=some (ι m.compares)/\Vs.cell? (π rb (ro+k*9+8))=some (ι m.idle)) [7,8,9,11] true 12 rfl κ κ ⟨b0,i0,m0,m1,m2,m3,m4,m5,m6,m7,m8⟩ ?_
   repeat (first|(refine' Xr4.take (Eq.refl false) _ (fun wV aK=>?_) ?_;rotate_left;(try dsimp only at aK);go_simp;(try with_reducible rfl);try simp only [Ap])|refine Xr4.skip (Eq.refl true) ?_)
   refine Xr4.stop ?_
   simp only [List.nil_append,List.cons_append]
   have aC:=Lh (And.intro b0 (And.intro i0 (And.intro m0 (And.intro m1 (And.intro m2 (And.intro m3 (And.intro m4 (And.intro m5 (And.intro m6 (And.intro m7 (m8)))))))))))
   clear b0 i0 m0 m1 m2 m3 m4 m5 m6 m7 m8
   have eQ:Hid (∀ V,Below wr.heap.size wr V->Calls Tryz.prog 101 #[.agg #[σ fa m.frames.length fc,ι m.req.kind,ι m.req.node,ι m.req.field,ι m.req.value,ι m.req.fault,ι m.fuel,ι m.compares,ι m.idle]] V (fun e w'=>∃ a cap,e=.returned (.agg #[σ a m.frames.length cap,ι m.req.kind,ι m.req.node,ι m.req.field,ι m.req.value,ι m.req.fault,ι m.fuel,ι m.compares,ι m.idle])/\Below V.heap.size V w'/\∀ c:Clr,(∀ b,V.heap.size<=b->c b=0)->Xf w'.heap.size (mask w' c) 4 (Qp w'.heap.size) (σ a m.frames.length cap) m.frames)):=Lh (fun V hV=>by
    have hY:=cD.o _ _ bD.o
    have dU:=(aQ.o _ _ _ bD.o (by first|exact Xvf|(show ¬(14:Nat)=5;decide))).size
    have hm:=OK.o.r m (Lm HX.o.1)
    exact X0n m (σ fa m.frames.length fc) B V (Nt (Nt HB.o dU) hV.size) (iV.o.fras (hV.mono (Nt HB.o dU))) hm.1 hm.2)
   refine X5 κ ?_
   go_simp
   refine (eQ.o _ (Xh Br 1)).mono ?_
   rintro e u5 ⟨eA,eC,rfl,hb,hx⟩
   have aE:Hid (Below wr.heap.size wr u5):=Lh ((Xh Br 1).then hb)
   have fV:=Lh hx
   clear hb hx
   refine ⟨⟨Xc aE.o aC.o.1,Xc aE.o aC.o.2.1,Xc aE.o aC.o.2.2.1,Xc aE.o aC.o.2.2.2.1,Xc aE.o aC.o.2.2.2.2.1,Xc aE.o aC.o.2.2.2.2.2.1,Xc aE.o aC.o.2.2.2.2.2.2.1,Xc aE.o aC.o.2.2.2.2.2.2.2.1,Xc aE.o aC.o.2.2.2.2.2.2.2.2.1,Xc aE.o aC.o.2.2.2.2.2.2.2.2.2.1,Xc aE.o aC.o.2.2.2.2.2.2.2.2.2.2⟩,?_⟩
   refine X5 κ ?_
   go_simp
   refine ⟨⟨Xc (Xa _ _) (Xc aE.o aC.o.1),Xc (Xa _ _) (Xc aE.o aC.o.2.1),Xc (Xa _ _) (Xc aE.o aC.o.2.2.1),Xc (Xa _ _) (Xc aE.o aC.o.2.2.2.1),Xc (Xa _ _) (Xc aE.o aC.o.2.2.2.2.1),Xc (Xa _ _) (Xc aE.o aC.o.2.2.2.2.2.1),Xc (Xa _ _) (Xc aE.o aC.o.2.2.2.2.2.2.1),Xc (Xa _ _) (Xc aE.o aC.o.2.2.2.2.2.2.2.1),Xc (Xa _ _) (Xc aE.o aC.o.2.2.2.2.2.2.2.2.1),Xc (Xa _ _) (Xc aE.o aC.o.2.2.2.2.2.2.2.2.2.1),Xc (Xa _ _) (Xc aE.o aC.o.2.2.2.2.2.2.2.2.2.2)⟩,?_⟩
   have aH:Hid (Chg (fun t=>t=19) c c wr u5):=Lh (Chg.of_below aE.o ω)
   have dK:Hid (∀ b,u5.heap.size<=b->c b=0):=Lh (fun b hb=>bT.o.2.2.1 b (Nt aE.o.size hb))
   have eL:Hid (∀ b,(u5.alloc (χ #[σ eA m.frames.length eC,ι m.req.kind,ι m.req.node,ι m.req.field,ι m.req.value,ι m.req.fault,ι m.fuel,ι m.compares,ι m.idle] 51)).heap.size<=b->c b=0):=Lh (fun b hb=>dK.o b (by simp at hb;omega))
   have cY:Hid (Chg (fun t=>t=19) c c wr (u5.alloc (χ #[σ eA m.frames.length eC,ι m.req.kind,ι m.req.node,ι m.req.field,ι m.req.value,ι m.req.fault,ι m.fuel,ι m.compares,ι m.idle] 51))):=Lh (aH.o.trans (Chg.of_below (Xa _ _) ω))
   refine X5 κ ?_
   refine Xsy (fun t=>t=4) (.tmp 24) (.tmp 31) 30 51 rfl Tryz.underlying30 Xu9 rfl δ δ (c:=c) (tag:=4) (v:=σ iH k iM) (n:=k) (xs:=jC) rfl (fJ.o.keep cY.o ω) (π u5.heap.size 0) 1 1 [σ eA m.frames.length eC,ι m.req.kind,ι m.req.node,ι m.req.field,ι m.req.value,ι m.req.fault,ι m.fuel,ι m.compares,ι m.idle] rfl rfl (fun j u hu=>(Xso u5 _ _ j).trans (by simpa using hu)) (by simp [Value.oneCell']) δ (by have:=OK.o.rl;omega) rfl δ eL.o (fun g5 dP v5 aZ aI hC aA cN=>?_)
   obtain ⟨aL,aD⟩:=eT.o u5 c v5 aZ (σ eA m.frames.length eC) m (σ (some (π g5 0)) (k+1) dP) aH.o dK.o (fV.o c (fun b hb=>bT.o.2.2.1 b hb)) iZ.o ((Chg.of_below (Xa _ _) ω).trans hC) aA (by rw [show (tk5 s k k k k k).running.length=k from bC.o.1];exact aI)
   have e0:=hC.cell (Xc (Xa _ _) (Xc aE.o aC.o.1)) (by show ¬c _=_;rw [aH.o.old _ bT.o.2.1,(bT.o.1)];omega)
   have e1:=hC.cell (Xc (Xa _ _) (Xc aE.o aC.o.2.1)) (by show ¬c _=_;rw [aH.o.old _ (Bl aC.o.2.1),(cP.o _ _ bD.o)];omega)
   have e2:=hC.cell (Xc (Xa _ _) (Xc aE.o aC.o.2.2.1)) (by show ¬c _=_;rw [aH.o.old _ (Bl aC.o.2.2.1),(bB.o _ _ bD.o _ aO.o.1)];omega)
   have e3:=hC.cell (Xc (Xa _ _) (Xc aE.o aC.o.2.2.2.1)) (by show ¬c _=_;rw [aH.o.old _ (Bl aC.o.2.2.1),(bB.o _ _ bD.o _ aO.o.1)];omega)
   have e4:=hC.cell (Xc (Xa _ _) (Xc aE.o aC.o.2.2.2.2.1)) (by show ¬c _=_;rw [aH.o.old _ (Bl aC.o.2.2.1),(bB.o _ _ bD.o _ aO.o.1)];omega)
   have e5:=hC.cell (Xc (Xa _ _) (Xc aE.o aC.o.2.2.2.2.2.1)) (by show ¬c _=_;rw [aH.o.old _ (Bl aC.o.2.2.1),(bB.o _ _ bD.o _ aO.o.1)];omega)
   have e6:=hC.cell (Xc (Xa _ _) (Xc aE.o aC.o.2.2.2.2.2.2.1)) (by show ¬c _=_;rw [aH.o.old _ (Bl aC.o.2.2.1),(bB.o _ _ bD.o _ aO.o.1)];omega)
   have e7:=hC.cell (Xc (Xa _ _) (Xc aE.o aC.o.2.2.2.2.2.2.2.1)) (by show ¬c _=_;rw [aH.o.old _ (Bl aC.o.2.2.1),(bB.o _ _ bD.o _ aO.o.1)];omega)
   have e8:=hC.cell (Xc (Xa _ _) (Xc aE.o aC.o.2.2.2.2.2.2.2.2.1)) (by show ¬c _=_;rw [aH.o.old _ (Bl aC.o.2.2.1),(bB.o _ _ bD.o _ aO.o.1)];omega)
   have e9:=hC.cell (Xc (Xa _ _) (Xc aE.o aC.o.2.2.2.2.2.2.2.2.2.1)) (by show ¬c _=_;rw [aH.o.old _ (Bl aC.o.2.2.1),(bB.o _ _ bD.o _ aO.o.1)];omega)
   have hK:=hC.cell (Xc (Xa _ _) (Xc aE.o aC.o.2.2.2.2.2.2.2.2.2.2)) (by show ¬c _=_;rw [aH.o.old _ (Bl aC.o.2.2.1),(bB.o _ _ bD.o _ aO.o.1)];omega)
   have ef:v5.frozen? (π bo 3)=false:=hC.frozen (Nl bT.o.2.1 cY.o.size) (cY.o.frozen bT.o.2.1 (bT.o.2.2.2 3) (by show ¬c bo=_;rw [bT.o.1];omega)) (by show ¬c bo=_;rw [aH.o.old _ bT.o.2.1,bT.o.1];omega)
   refine ⟨.inl ⟨e0,e1,e2,e3,e4,e5,e6,e7,e8,e9,hK⟩,?_⟩
   clear e1 e2 e3 e4 e5 e6 e7 e8 e9 hK
   refine X5 κ ?_
   go_simp
   refine Xr3 ?_
   obtain ⟨W5,hQ⟩:∃ u,u=v5.setCell (π bo 3) (σ (some (π g5 0)) (k+1) dP):=⟨_,rfl⟩
   rw [<-hQ] at aL aD ⊢
   have gX:Hid (V2 W5 aZ bo (tk5 s (k+1) k k k k)):=Lh (by
    have e:{ tk5 s k k k k k with running:=(tk5 s k k k k k).running++[m] }=tk5 s (k+1) k k k k:=by
     simp [tk5,List.take_add_one,HX.o.1]
    rw [<-e];exact aL)
   have dD:Hid (Chg NZ (fun b=>if b<w.heap.size\/b=w.heap.size+1 then 14 else 0) aZ W W5):=Lh (bD.o.trans aD)
   clear aL aD aI hC aA cN hQ e0 ef
   have hP:=cD.o _ _ dD.o
   obtain ⟨iI,iN,jD,b0,aW,bG⟩:=gX.o.pushC
   rw [show (tk5 s (k+1) k k k k).calls.length=k from bC.o.2.1] at b0 aW
   have fK:=Lh aW
   have eU:=Lh bG
   have bU:=Lh gX.o.lab
   have i0:=dE.o _ _ dD.o 5 _ rfl
   clear aW bG
   have x0:=(Xbl hP aO.o.2.1 (o:=co+k)).trans gT.o.1
   clear hP
   have z0:=bU.o.2.1
   have z1:=Bl i0
   have z2:=Bl x0
   go_upto_region 6 with fail
   clear z0 z1 z2
   refine X6 (fun Vs=>Vs.cell? (π bo 5)=some (σ iI k iN)/\Vs.cell? (π w.heap.size 5)=some (σ (some (π cb co)) s.calls.length cc)/\Vs.cell? (π cb (co+k))=some (σ fY lc_.length fZ)) [7,8,9,11] true 12 rfl κ κ ⟨b0,i0,x0⟩ ?_
   repeat (first|(refine' Xr4.take (Eq.refl false) _ (fun wV aK=>?_) ?_;rotate_left;(try dsimp only at aK);go_simp;(try with_reducible rfl);try simp only [Ap])|refine Xr4.skip (Eq.refl true) ?_)
   refine Xr4.stop ?_
   simp only [List.nil_append,List.cons_append]
   have bR:=Lh (And.intro b0 (And.intro i0 (x0)))
   clear b0 i0 x0
   have eR:Hid (∀ V,Below W5.heap.size W5 V->Calls Tryz.prog 51 #[σ fY lc_.length fZ] V (Xwd lc_ V)):=Lh (fun V hV=>by
    have hY:=cD.o _ _ dD.o
    have dU:=(aQ.o _ _ _ dD.o (by first|exact Xvf|(show ¬(14:Nat)=5;decide))).size
    have hm:=OK.o.c lc_ (Lm HX.o.2.1)
    exact Xwm lc_ (σ fY lc_.length fZ) B V (Nt (Nt HB.o dU) hV.size) ((gT.o.2.cals hY).cals (hV.mono (Nt HB.o dU))) hm.1 hm.2)
   refine X5 κ ?_
   go_simp
   refine (eR.o _ (Xh Br 1)).mono ?_
   rintro e u6 ⟨eB,eD,rfl,hb,hx⟩
   have bQ:Hid (Below W5.heap.size W5 u6):=Lh ((Xh Br 1).then hb)
   have fW:=Lh hx
   clear hb hx
   refine ⟨⟨Xc bQ.o bR.o.1,Xc bQ.o bR.o.2.1,Xc bQ.o bR.o.2.2⟩,?_⟩
   refine X5 κ ?_
   go_simp
   refine ⟨⟨Xc (Xa _ _) (Xc bQ.o bR.o.1),Xc (Xa _ _) (Xc bQ.o bR.o.2.1),Xc (Xa _ _) (Xc bQ.o bR.o.2.2)⟩,?_⟩
   have bH:Hid (Chg (fun t=>t=19) aZ aZ W5 u6):=Lh (Chg.of_below bQ.o ω)
   have dL:Hid (∀ b,u6.heap.size<=b->aZ b=0):=Lh (fun b hb=>bU.o.2.2.1 b (Nt bQ.o.size hb))
   have eM:Hid (∀ b,(u6.alloc (χ #[σ eB lc_.length eD] 54)).heap.size<=b->aZ b=0):=Lh (fun b hb=>dL.o b (by simp at hb;omega))
   have cZ:Hid (Chg (fun t=>t=19) aZ aZ W5 (u6.alloc (χ #[σ eB lc_.length eD] 54))):=Lh (bH.o.trans (Chg.of_below (Xa _ _) ω))
   refine X5 κ ?_
   refine Xsy (fun t=>t=6) (.tmp 35) (.tmp 42) 29 54 rfl Tryz.underlying29 Xw9 rfl δ δ (c:=aZ) (tag:=6) (v:=σ iI k iN) (n:=k) (xs:=jD) rfl (fK.o.keep cZ.o ω) (π u6.heap.size 0) 1 1 [σ eB lc_.length eD] rfl rfl (fun j u hu=>(Xso u6 _ _ j).trans (by simpa using hu)) (by simp [Value.oneCell']) δ (by have:=OK.o.rl;omega) rfl δ eM.o (fun g6 dQ v6 bL aI hC aA cN=>?_)
   obtain ⟨aL,aD⟩:=eU.o u6 aZ v6 bL (σ eB lc_.length eD) lc_ (σ (some (π g6 0)) (k+1) dQ) bH.o dL.o (fW.o aZ (fun b hb=>bU.o.2.2.1 b hb)) ((Chg.of_below (Xa _ _) ω).trans hC) aA (by rw [show (tk5 s (k+1) k k k k).calls.length=k from bC.o.2.1];exact aI)
   have e0:=hC.cell (Xc (Xa _ _) (Xc bQ.o bR.o.1)) (by show ¬aZ _=_;rw [bH.o.old _ bU.o.2.1,(bU.o.1)];omega)
   have e1:=hC.cell (Xc (Xa _ _) (Xc bQ.o bR.o.2.1)) (by show ¬aZ _=_;rw [bH.o.old _ (Bl bR.o.2.1),(cP.o _ _ dD.o)];omega)
   have e2:=hC.cell (Xc (Xa _ _) (Xc bQ.o bR.o.2.2)) (by show ¬aZ _=_;rw [bH.o.old _ (Bl bR.o.2.2),(bB.o _ _ dD.o _ aO.o.2.1)];omega)
   have ef:v6.frozen? (π bo 5)=false:=hC.frozen (Nl bU.o.2.1 cZ.o.size) (cZ.o.frozen bU.o.2.1 (bU.o.2.2.2 5) (by show ¬aZ bo=_;rw [bU.o.1];omega)) (by show ¬aZ bo=_;rw [bH.o.old _ bU.o.2.1,bU.o.1];omega)
   refine ⟨.inl ⟨e0,e1,e2⟩,?_⟩
   clear e1 e2
   refine X5 κ ?_
   go_simp
   refine Xr3 ?_
   obtain ⟨W6,hR⟩:∃ u,u=v6.setCell (π bo 5) (σ (some (π g6 0)) (k+1) dQ):=⟨_,rfl⟩
   rw [<-hR] at aL aD ⊢
   have gY:Hid (V2 W6 bL bo (tk5 s (k+1) (k+1) k k k)):=Lh (by
    have e:{ tk5 s (k+1) k k k k with calls:=(tk5 s (k+1) k k k k).calls++[lc_] }=tk5 s (k+1) (k+1) k k k:=by
     simp [tk5,List.take_add_one,HX.o.2.1]
    rw [<-e];exact aL)
   have cE:Hid (Chg NZ (fun b=>if b<w.heap.size\/b=w.heap.size+1 then 14 else 0) bL W W6):=Lh (dD.o.trans aD)
   clear aL aD aI hC aA cN hR e0 ef
   have hP:=cD.o _ _ cE.o
   obtain ⟨iJ,iO,jE,b0,aW,bG⟩:=gY.o.pushO
   rw [show (tk5 s (k+1) (k+1) k k k).results.length=k from bC.o.2.2.1] at b0 aW
   have fL:=Lh aW
   have eV:=Lh bG
   have bV:=Lh gY.o.lab
   have i0:=dE.o _ _ cE.o 6 _ rfl
   clear aW bG
   have x0:=(Xbl hP aO.o.2.2.1 (o:=oo+k)).trans gV.o.1
   clear hP
   have z0:=bV.o.2.1
   have z1:=Bl i0
   have z2:=Bl x0
   go_upto_region 7 with fail
   clear z0 z1 z2
   refine X6 (fun Vs=>Vs.cell? (π bo 6)=some (σ iJ k iO)/\Vs.cell? (π w.heap.size 6)=some (σ (some (π ob oo)) s.results.length oc)/\Vs.cell? (π ob (oo+k))=some (σ iR lo_.length iS)) [2,8,9,10,12] true 13 rfl κ κ ⟨b0,i0,x0⟩ ?_
   repeat (first|(refine' Xr4.take (Eq.refl false) _ (fun wV aK=>?_) ?_;rotate_left;(try dsimp only at aK);go_simp;(try with_reducible rfl);try simp only [Ap])|refine Xr4.skip (Eq.refl true) ?_)
   refine Xr4.stop ?_
   simp only [List.nil_append,List.cons_append]
   have cQ:=Lh (And.intro b0 (And.intro i0 (x0)))
   clear b0 i0 x0
   refine X5 κ ?_
   go_simp
   refine ⟨⟨Xc (Xa _ _) cQ.o.1,Xc (Xa _ _) cQ.o.2.1,Xc (Xa _ _) cQ.o.2.2⟩,?_⟩
   obtain ⟨q7,hq⟩:∃ u,u=(W6.alloc (χ #[] 84)).drew:=⟨_,rfl⟩
   rw [<-hq]
   obtain ⟨hC,hE,aA⟩:=Xuo (c:=bL) (tag:=11+5*k) (.inr hq)
   obtain ⟨hG,cB⟩:∃ u:Clr,u=(fun x=>if x=W6.heap.size then 11+5*k else bL x):=⟨_,rfl⟩
   rw [<-cB] at hC aA
   have aB:hG W6.heap.size=11+5*k:=by rw [cB];exact if_pos rfl
   have dG:=Lh (And.intro hE aB)
   have fD:=Lh hC
   have fG:=Lh (aA bV.o.2.2.1)
   have cW:Below W6.heap.size W6 q7:=by rw [hq];exact Xsh _ _
   have cX:=(cD.o _ _ cE.o).trans (cW.mono (Nt HB.o (aQ.o _ _ _ cE.o (by first|exact Xvf|(show ¬(14:Nat)=5;decide))).size))
   have fA:=Lh (gV.o.2.outs cX)
   clear hC hE aA cB aB hq cW cX
   refine X5 κ ?_
   refine X3b (11+5*k) (.tmp 47) (.tmp 52) rfl (c:=hG) W6.heap.size dG.o.1 rfl iR lo_.length iS lo_ B rfl fA.o (OK.o.o lo_ (Lm HX.o.2.2.1)) dG.o.2 ω fG.o (fun eH eE u7 bY hI hC aA=>?_)
   have fS:=Lh hI
   have cI:Hid (Chg (fun t=>t=11+5*k) bL bY W6 u7):=Lh ((fD.o.mono (fun t h=>h.elim) ω).trans hC)
   have fP:=Lh aA
   clear hI hC aA
   have e0:=cI.o.cell cQ.o.1 (by show ¬bL _=_;rw [(bV.o.1)];omega)
   have e1:=cI.o.cell cQ.o.2.1 (by show ¬bL _=_;rw [(cP.o _ _ cE.o)];omega)
   have e2:=cI.o.cell cQ.o.2.2 (by show ¬bL _=_;rw [(bB.o _ _ cE.o _ aO.o.2.2.1)];omega)
   have aR:=Lh (And.intro e0 (And.intro e1 (e2)))
   clear e0 e1 e2
   refine ⟨.inl ⟨aR.o.1,aR.o.2.1,aR.o.2.2⟩,?_⟩
   refine X5 κ ?_
   go_simp
   refine ⟨⟨Xc (Xa _ _) (aR.o.1),Xc (Xa _ _) (aR.o.2.1),Xc (Xa _ _) (aR.o.2.2)⟩,?_⟩
   have bI:Hid (Chg (fun t=>t=11+5*k) bL bY W6 u7):=Lh cI.o
   have dM:Hid (∀ b,u7.heap.size<=b->bY b=0):=Lh fP.o
   have eN:Hid (∀ b,(u7.alloc (χ #[σ (some (π eH 0)) lo_.length eE] 78)).heap.size<=b->bY b=0):=Lh (fun b hb=>dM.o b (by simp at hb;omega))
   have dA:Hid (Chg (fun t=>t=11+5*k) bL bY W6 (u7.alloc (χ #[σ (some (π eH 0)) lo_.length eE] 78))):=Lh (bI.o.trans (Chg.of_below (Xa _ _) ω))
   refine X5 κ ?_
   refine Xsy (fun t=>t=7) (.tmp 46) (.tmp 54) 31 78 rfl Tryz.underlying31 Xxj rfl δ δ (c:=bY) (tag:=7) (v:=σ iJ k iO) (n:=k) (xs:=jE) rfl (fL.o.keep dA.o ω) (π u7.heap.size 0) 1 1 [σ (some (π eH 0)) lo_.length eE] rfl rfl (fun j u hu=>(Xso u7 _ _ j).trans (by simpa using hu)) (by simp [Value.oneCell']) δ (by have:=OK.o.rl;omega) rfl δ eN.o (fun g7 dR v7 bM aI hC aA cN=>?_)
   obtain ⟨aL,aD⟩:=eV.o u7 bY v7 bM (σ (some (π eH 0)) lo_.length eE) lo_ (σ (some (π g7 0)) (k+1) dR) (by rw [show (tk5 s (k+1) (k+1) k k k).results.length=k from bC.o.2.2.1];exact bI.o) dM.o (by rw [show (tk5 s (k+1) (k+1) k k k).results.length=k from bC.o.2.2.1];exact fS.o) ((Chg.of_below (Xa _ _) ω).trans hC) aA (by rw [show (tk5 s (k+1) (k+1) k k k).results.length=k from bC.o.2.2.1];exact aI)
   have e0:=hC.cell (Xc (Xa _ _) (aR.o.1)) (by show ¬bY _=_;rw [bI.o.old _ bV.o.2.1,(bV.o.1)];omega)
   have e1:=hC.cell (Xc (Xa _ _) (aR.o.2.1)) (by show ¬bY _=_;rw [bI.o.old _ (Bl cQ.o.2.1),(cP.o _ _ cE.o)];omega)
   have e2:=hC.cell (Xc (Xa _ _) (aR.o.2.2)) (by show ¬bY _=_;rw [bI.o.old _ (Bl cQ.o.2.2),(bB.o _ _ cE.o _ aO.o.2.2.1)];omega)
   have ef:v7.frozen? (π bo 6)=false:=hC.frozen (Nl bV.o.2.1 dA.o.size) (dA.o.frozen bV.o.2.1 (bV.o.2.2.2 6) (by show ¬bL bo=_;rw [bV.o.1];omega)) (by show ¬bY bo=_;rw [bI.o.old _ bV.o.2.1,bV.o.1];omega)
   refine ⟨.inl ⟨e0,e1,e2⟩,?_⟩
   clear e1 e2
   refine X5 κ ?_
   go_simp
   refine Xr3 ?_
   obtain ⟨W7,hS⟩:∃ u,u=v7.setCell (π bo 6) (σ (some (π g7 0)) (k+1) dR):=⟨_,rfl⟩
   rw [<-hS] at aL aD ⊢
   have gZ:Hid (V2 W7 bM bo (tk5 s (k+1) (k+1) (k+1) k k)):=Lh (by
    have e:{ tk5 s (k+1) (k+1) k k k with results:=(tk5 s (k+1) (k+1) k k k).results++[lo_] }=tk5 s (k+1) (k+1) (k+1) k k:=by
     simp [tk5,List.take_add_one,HX.o.2.2.1]
    rw [<-e];exact aL)
   have cF:Hid (Chg NZ (fun b=>if b<w.heap.size\/b=w.heap.size+1 then 14 else 0) bM W W7):=Lh (cE.o.trans aD)
   clear aL aD aI hC aA cN hS e0 ef
   have hP:=cD.o _ _ cF.o
   obtain ⟨iK,iP,jF,b0,aW,bG⟩:=gZ.o.pushB
   rw [show (tk5 s (k+1) (k+1) (k+1) k k).begins.length=k from bC.o.2.2.2.1] at b0 aW
   have fM:=Lh aW
   have eW:=Lh bG
   have bW:=Lh gZ.o.lab
   have i0:=dE.o _ _ cF.o 7 _ rfl
   clear aW bG
   have x0:=(Xbl hP aO.o.2.2.2.1 (o:=bo_+k)).trans gS.o.1
   clear hP
   have z0:=bW.o.2.1
   have z1:=Bl i0
   have z2:=Bl x0
   go_upto_region 8 with fail
   clear z0 z1 z2
   refine X6 (fun Vs=>Vs.cell? (π bo 7)=some (σ iK k iP)/\Vs.cell? (π w.heap.size 7)=some (σ (some (π bb bo_)) s.begins.length bc)/\Vs.cell? (π bb (bo_+k))=some (σ hD lb_.length hF)) [2,8,9,10,12] true 13 rfl κ κ ⟨b0,i0,x0⟩ ?_
   repeat (first|(refine' Xr4.take (Eq.refl false) _ (fun wV aK=>?_) ?_;rotate_left;(try dsimp only at aK);go_simp;(try with_reducible rfl);try simp only [Ap])|refine Xr4.skip (Eq.refl true) ?_)
   refine Xr4.stop ?_
   simp only [List.nil_append,List.cons_append]
   have cR:=Lh (And.intro b0 (And.intro i0 (x0)))
   clear b0 i0 x0
   refine X5 κ ?_
   go_simp
   refine ⟨⟨Xc (Xa _ _) cR.o.1,Xc (Xa _ _) cR.o.2.1,Xc (Xa _ _) cR.o.2.2⟩,?_⟩
   obtain ⟨q8,hq⟩:∃ u,u=(W7.alloc (χ #[] 3)).drew:=⟨_,rfl⟩
   rw [<-hq]
   obtain ⟨hC,hE,aA⟩:=Xuo (c:=bM) (tag:=12+5*k) (.inr hq)
   obtain ⟨hH,cB⟩:∃ u:Clr,u=(fun x=>if x=W7.heap.size then 12+5*k else bM x):=⟨_,rfl⟩
   rw [<-cB] at hC aA
   have aB:hH W7.heap.size=12+5*k:=by rw [cB];exact if_pos rfl
   have dH:=Lh (And.intro hE aB)
   have fE:=Lh hC
   have fH:=Lh (aA bW.o.2.2.1)
   have cW:Below W7.heap.size W7 q8:=by rw [hq];exact Xsh _ _
   have cX:=(cD.o _ _ cF.o).trans (cW.mono (Nt HB.o (aQ.o _ _ _ cF.o (by first|exact Xvf|(show ¬(14:Nat)=5;decide))).size))
   have fB:=Lh (gS.o.2.ints cX)
   clear hC hE aA cB aB hq cW cX
   refine X5 κ ?_
   refine Xtj (12+5*k) (.tmp 59) (.tmp 64) rfl (c:=hH) W7.heap.size dH.o.1 rfl hD lb_.length hF lb_ B rfl fB.o (OK.o.b lb_ (Lm HX.o.2.2.2.1)) dH.o.2 ω fH.o (fun eI eF u8 bZ hI hC aA=>?_)
   have fT:=Lh hI
   have cJ:Hid (Chg (fun t=>t=12+5*k) bM bZ W7 u8):=Lh ((fE.o.mono (fun t h=>h.elim) ω).trans hC)
   have fQ:=Lh aA
   clear hI hC aA
   have e0:=cJ.o.cell cR.o.1 (by show ¬bM _=_;rw [(bW.o.1)];omega)
   have e1:=cJ.o.cell cR.o.2.1 (by show ¬bM _=_;rw [(cP.o _ _ cF.o)];omega)
   have e2:=cJ.o.cell cR.o.2.2 (by show ¬bM _=_;rw [(bB.o _ _ cF.o _ aO.o.2.2.2.1)];omega)
   have aS:=Lh (And.intro e0 (And.intro e1 (e2)))
   clear e0 e1 e2
   refine ⟨.inl ⟨aS.o.1,aS.o.2.1,aS.o.2.2⟩,?_⟩
   refine X5 κ ?_
   go_simp
   refine ⟨⟨Xc (Xa _ _) (aS.o.1),Xc (Xa _ _) (aS.o.2.1),Xc (Xa _ _) (aS.o.2.2)⟩,?_⟩
   have bJ:Hid (Chg (fun t=>t=12+5*k) bM bZ W7 u8):=Lh cJ.o
   have dN:Hid (∀ b,u8.heap.size<=b->bZ b=0):=Lh fQ.o
   have eO:Hid (∀ b,(u8.alloc (χ #[σ (some (π eI 0)) lb_.length eF] 22)).heap.size<=b->bZ b=0):=Lh (fun b hb=>dN.o b (by simp at hb;omega))
   have dB:Hid (Chg (fun t=>t=12+5*k) bM bZ W7 (u8.alloc (χ #[σ (some (π eI 0)) lb_.length eF] 22))):=Lh (bJ.o.trans (Chg.of_below (Xa _ _) ω))
   refine X5 κ ?_
   refine Xsy (fun t=>t=8) (.tmp 58) (.tmp 66) 32 22 rfl Tryz.underlying32 Xun rfl δ δ (c:=bZ) (tag:=8) (v:=σ iK k iP) (n:=k) (xs:=jF) rfl (fM.o.keep dB.o ω) (π u8.heap.size 0) 1 1 [σ (some (π eI 0)) lb_.length eF] rfl rfl (fun j u hu=>(Xso u8 _ _ j).trans (by simpa using hu)) (by simp [Value.oneCell']) δ (by have:=OK.o.rl;omega) rfl δ eO.o (fun g8 dS v8 bN aI hC aA cN=>?_)
   obtain ⟨aL,aD⟩:=eW.o u8 bZ v8 bN (σ (some (π eI 0)) lb_.length eF) lb_ (σ (some (π g8 0)) (k+1) dS) (by rw [show (tk5 s (k+1) (k+1) (k+1) k k).begins.length=k from bC.o.2.2.2.1];exact bJ.o) dN.o (by rw [show (tk5 s (k+1) (k+1) (k+1) k k).begins.length=k from bC.o.2.2.2.1];exact fT.o) ((Chg.of_below (Xa _ _) ω).trans hC) aA (by rw [show (tk5 s (k+1) (k+1) (k+1) k k).begins.length=k from bC.o.2.2.2.1];exact aI)
   have e0:=hC.cell (Xc (Xa _ _) (aS.o.1)) (by show ¬bZ _=_;rw [bJ.o.old _ bW.o.2.1,(bW.o.1)];omega)
   have e1:=hC.cell (Xc (Xa _ _) (aS.o.2.1)) (by show ¬bZ _=_;rw [bJ.o.old _ (Bl cR.o.2.1),(cP.o _ _ cF.o)];omega)
   have e2:=hC.cell (Xc (Xa _ _) (aS.o.2.2)) (by show ¬bZ _=_;rw [bJ.o.old _ (Bl cR.o.2.2),(bB.o _ _ cF.o _ aO.o.2.2.2.1)];omega)
   have ef:v8.frozen? (π bo 7)=false:=hC.frozen (Nl bW.o.2.1 dB.o.size) (dB.o.frozen bW.o.2.1 (bW.o.2.2.2 7) (by show ¬bM bo=_;rw [bW.o.1];omega)) (by show ¬bZ bo=_;rw [bJ.o.old _ bW.o.2.1,bW.o.1];omega)
   refine ⟨.inl ⟨e0,e1,e2⟩,?_⟩
   clear e1 e2
   refine X5 κ ?_
   go_simp
   refine Xr3 ?_
   obtain ⟨W8,hT⟩:∃ u,u=v8.setCell (π bo 7) (σ (some (π g8 0)) (k+1) dS):=⟨_,rfl⟩
   rw [<-hT] at aL aD ⊢
   have hA:Hid (V2 W8 bN bo (tk5 s (k+1) (k+1) (k+1) (k+1) k)):=Lh (by
    have e:{ tk5 s (k+1) (k+1) (k+1) k k with begins:=(tk5 s (k+1) (k+1) (k+1) k k).begins++[lb_] }=tk5 s (k+1) (k+1) (k+1) (k+1) k:=by
     simp [tk5,List.take_add_one,HX.o.2.2.2.1]
    rw [<-e];exact aL)
   have cG:Hid (Chg NZ (fun b=>if b<w.heap.size\/b=w.heap.size+1 then 14 else 0) bN W W8):=Lh (cF.o.trans aD)
   clear aL aD aI hC aA cN hT e0 ef
   have hP:=cD.o _ _ cG.o
   obtain ⟨iL,iQ,jG,b0,aW,bG⟩:=hA.o.pushE
   rw [show (tk5 s (k+1) (k+1) (k+1) (k+1) k).ends.length=k from bC.o.2.2.2.2] at b0 aW
   have fN:=Lh aW
   have eX:=Lh bG
   have bX:=Lh hA.o.lab
   have i0:=dE.o _ _ cG.o 8 _ rfl
   clear aW bG
   have x0:=(Xbl hP aO.o.2.2.2.2 (o:=eo+k)).trans gU.o.1
   clear hP
   have z0:=bX.o.2.1
   have z1:=Bl i0
   have z2:=Bl x0
   go_upto_region 9 with fail
   clear z0 z1 z2
   refine X6 (fun Vs=>Vs.cell? (π bo 8)=some (σ iL k iQ)/\Vs.cell? (π w.heap.size 8)=some (σ (some (π eb eo)) s.ends.length ec)/\Vs.cell? (π eb (eo+k))=some (σ hL le_.length hN)) [2,8,9,10,12] true 13 rfl κ κ ⟨b0,i0,x0⟩ ?_
   repeat (first|(refine' Xr4.take (Eq.refl false) _ (fun wV aK=>?_) ?_;rotate_left;(try dsimp only at aK);go_simp;(try with_reducible rfl);try simp only [Ap])|refine Xr4.skip (Eq.refl true) ?_)
   refine Xr4.stop ?_
   simp only [List.nil_append,List.cons_append]
   have cS:=Lh (And.intro b0 (And.intro i0 (x0)))
   clear b0 i0 x0
   refine X5 κ ?_
   go_simp
   refine ⟨⟨Xc (Xa _ _) cS.o.1,Xc (Xa _ _) cS.o.2.1,Xc (Xa _ _) cS.o.2.2⟩,?_⟩
   obtain ⟨q9,hq⟩:∃ u,u=(W8.alloc (χ #[] 3)).drew:=⟨_,rfl⟩
   rw [<-hq]
   obtain ⟨hC,hE,aA⟩:=Xuo (c:=bN) (tag:=13+5*k) (.inr hq)
   obtain ⟨hJ,cB⟩:∃ u:Clr,u=(fun x=>if x=W8.heap.size then 13+5*k else bN x):=⟨_,rfl⟩
   rw [<-cB] at hC aA
   have aB:hJ W8.heap.size=13+5*k:=by rw [cB];exact if_pos rfl
   have dI:=Lh (And.intro hE aB)
   have fF:=Lh hC
   have fI:=Lh (aA bX.o.2.2.1)
   have cW:Below W8.heap.size W8 q9:=by rw [hq];exact Xsh _ _
   have cX:=(cD.o _ _ cG.o).trans (cW.mono (Nt HB.o (aQ.o _ _ _ cG.o (by first|exact Xvf|(show ¬(14:Nat)=5;decide))).size))
   have fC:=Lh (gU.o.2.ints cX)
   clear hC hE aA cB aB hq cW cX
   refine X5 κ ?_
   refine Xtj (13+5*k) (.tmp 71) (.tmp 76) rfl (c:=hJ) W8.heap.size dI.o.1 rfl hL le_.length hN le_ B rfl fC.o (OK.o.e le_ (Lm HX.o.2.2.2.2)) dI.o.2 ω fI.o (fun eJ eG u9 cA hI hC aA=>?_)
   have fU:=Lh hI
   have cK:Hid (Chg (fun t=>t=13+5*k) bN cA W8 u9):=Lh ((fF.o.mono (fun t h=>h.elim) ω).trans hC)
   have fR:=Lh aA
   clear hI hC aA
   have e0:=cK.o.cell cS.o.1 (by show ¬bN _=_;rw [(bX.o.1)];omega)
   have e1:=cK.o.cell cS.o.2.1 (by show ¬bN _=_;rw [(cP.o _ _ cG.o)];omega)
   have e2:=cK.o.cell cS.o.2.2 (by show ¬bN _=_;rw [(bB.o _ _ cG.o _ aO.o.2.2.2.2)];omega)
   have aT:=Lh (And.intro e0 (And.intro e1 (e2)))
   clear e0 e1 e2
   refine ⟨.inl ⟨aT.o.1,aT.o.2.1,aT.o.2.2⟩,?_⟩
   refine X5 κ ?_
   go_simp
   refine ⟨⟨Xc (Xa _ _) (aT.o.1),Xc (Xa _ _) (aT.o.2.1),Xc (Xa _ _) (aT.o.2.2)⟩,?_⟩
   have bK:Hid (Chg (fun t=>t=13+5*k) bN cA W8 u9):=Lh cK.o
   have dO:Hid (∀ b,u9.heap.size<=b->cA b=0):=Lh fR.o
   have eP:Hid (∀ b,(u9.alloc (χ #[σ (some (π eJ 0)) le_.length eG] 22)).heap.size<=b->cA b=0):=Lh (fun b hb=>dO.o b (by simp at hb;omega))
   have dC:Hid (Chg (fun t=>t=13+5*k) bN cA W8 (u9.alloc (χ #[σ (some (π eJ 0)) le_.length eG] 22))):=Lh (bK.o.trans (Chg.of_below (Xa _ _) ω))
   refine X5 κ ?_
   refine Xsy (fun t=>t=9) (.tmp 70) (.tmp 78) 32 22 rfl Tryz.underlying32 Xun rfl δ δ (c:=cA) (tag:=9) (v:=σ iL k iQ) (n:=k) (xs:=jG) rfl (fN.o.keep dC.o ω) (π u9.heap.size 0) 1 1 [σ (some (π eJ 0)) le_.length eG] rfl rfl (fun j u hu=>(Xso u9 _ _ j).trans (by simpa using hu)) (by simp [Value.oneCell']) δ (by have:=OK.o.rl;omega) rfl δ eP.o (fun g9 dT v9 gA aI hC aA cN=>?_)
   obtain ⟨aL,aD⟩:=eX.o u9 cA v9 gA (σ (some (π eJ 0)) le_.length eG) le_ (σ (some (π g9 0)) (k+1) dT) (by rw [show (tk5 s (k+1) (k+1) (k+1) (k+1) k).ends.length=k from bC.o.2.2.2.2];exact bK.o) dO.o (by rw [show (tk5 s (k+1) (k+1) (k+1) (k+1) k).ends.length=k from bC.o.2.2.2.2];exact fU.o) ((Chg.of_below (Xa _ _) ω).trans hC) aA (by rw [show (tk5 s (k+1) (k+1) (k+1) (k+1) k).ends.length=k from bC.o.2.2.2.2];exact aI)
   have e0:=hC.cell (Xc (Xa _ _) (aT.o.1)) (by show ¬cA _=_;rw [bK.o.old _ bX.o.2.1,(bX.o.1)];omega)
   have e1:=hC.cell (Xc (Xa _ _) (aT.o.2.1)) (by show ¬cA _=_;rw [bK.o.old _ (Bl cS.o.2.1),(cP.o _ _ cG.o)];omega)
   have e2:=hC.cell (Xc (Xa _ _) (aT.o.2.2)) (by show ¬cA _=_;rw [bK.o.old _ (Bl cS.o.2.2),(bB.o _ _ cG.o _ aO.o.2.2.2.2)];omega)
   have ef:v9.frozen? (π bo 8)=false:=hC.frozen (Nl bX.o.2.1 dC.o.size) (dC.o.frozen bX.o.2.1 (bX.o.2.2.2 8) (by show ¬bN bo=_;rw [bX.o.1];omega)) (by show ¬cA bo=_;rw [bK.o.old _ bX.o.2.1,bX.o.1];omega)
   refine ⟨.inl ⟨e0,e1,e2⟩,?_⟩
   clear e1 e2
   refine X5 κ ?_
   go_simp
   refine Xr3 ?_
   obtain ⟨W9,hU⟩:∃ u,u=v9.setCell (π bo 8) (σ (some (π g9 0)) (k+1) dT):=⟨_,rfl⟩
   rw [<-hU] at aL aD ⊢
   have fO:Hid (V2 W9 gA bo (tk5 s (k+1) (k+1) (k+1) (k+1) (k+1))):=Lh (by
    have e:{ tk5 s (k+1) (k+1) (k+1) (k+1) k with ends:=(tk5 s (k+1) (k+1) (k+1) (k+1) k).ends++[le_] }=tk5 s (k+1) (k+1) (k+1) (k+1) (k+1):=by
     simp [tk5,List.take_add_one,HX.o.2.2.2.2]
    rw [<-e];exact aL)
   have eY:Hid (Chg NZ (fun b=>if b<w.heap.size\/b=w.heap.size+1 then 14 else 0) gA W W9):=Lh (cG.o.trans aD)
   clear aL aD aI hC aA cN hU e0 ef
   have jP:=OK.o.rl
   go_wp2
   go_roundw
   case rel=>exact ⟨k+1,ω,by go_num,Lh ⟨_,⟨fO.o,eY.o⟩⟩⟩
   case measure=>simp [intOf];omega
  ·obtain rfl:k=s.running.length:=ω
   obtain ⟨a0,a1,a2,a3,a4,a5,a6,a7,a8,a9,d0,d1,d2,d3,d4,d5,hZ,gQ,cV⟩:=HS.o.post (w:=w) (br:=w.heap.size+1) OK.o rfl dY.o ω B1.o
   obtain ⟨⟨x0,x1,x2,x3,x4,x5,x6,x7,x8,x9⟩,-,xz⟩:=ten hZ
   obtain ⟨⟨y0,y1,y2,y3,y4,y5,y6,y7,y8,y9⟩,⟨z0,z1,z2,z3,z4,z5,z6,z7,z8,z9⟩,zz⟩:=ten gQ
   have iW:=Lh cV
   have iY:=Lh gQ
   clear cV hZ gQ
   go_wp2
   exact bodyPost_ret (Xyk (p:=2) rfl (V4 iY.o _ _ _ _ _ _ _ _ _ _) _ rfl) rfl iW.o
