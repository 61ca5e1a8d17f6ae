import Derived.Test.YtiejafonjemioaaGreatDoorCpe
set_option maxHeartbeats 4000000
set_option maxRecDepth 100000
set_option linter.unusedVariables false
set_option linter.unusedSimpArgs false
namespace Go.Proofs.YtiejafonjemioaaGreatDoor
open Go.RowKit
variable {w w' P:World} {c c':Clr} {T:Nat→Prop} {b:Nat} {o:Obj}
def Xxc (w:World) (c:Clr) (b:Nat):Prop:=w.heap[b]?=some (.cells #[.slice none 0 0,.slice none 0 0,.int .i64 0,.slice none 0 0,.slice none 0 0,.slice none 0 0,.slice none 0 0,.slice none 0 0,.slice none 0 0,.int .i64 0] 34 (0,0))∧c b=1
def Xyb (w:World) (c:Clr) (b:Nat):Prop:=w.heap[b]?=some (.cells #[] 3 (0,0))∧c b=5
theorem Xxc.keep (h:Xxc w c b) (k:Chg T c c' w w') (hT:¬T 1):Xxc w' c' b:=
 have hl:=(La h.1)
 ⟨(k.keep b hl (by rw [h.2];exact hT)).trans h.1,(k.old b hl).trans h.2⟩
theorem Xyb.keep (h:Xyb w c b) (k:Chg T c c' w w') (hT:¬T 5):Xyb w' c' b:=
 have hl:=(La h.1)
 ⟨(k.keep b hl (by rw [h.2];exact hT)).trans h.1,(k.old b hl).trans h.2⟩
theorem X21 {T G:Prop} (h:T→G) (t:T):G:=h t
theorem Chg.t5 (h:Chg NO c c' w w'):Chg (fun t=>t=5) c c' w w':=h.mono (fun t h=>h.elim) (by decide)
theorem Xuo {tag:Nat} (hw:w'=P.alloc o∨w'=(P.alloc o).drew):Chg NO c (fun x=>if x=P.heap.size then tag else c x) P w'∧w'.heap[P.heap.size]?=some o∧((∀ b,P.heap.size≤b→c b=0)→∀ b,w'.heap.size≤b→(fun x=>if x=P.heap.size then tag else c x) b=0):=by
 have hs:w'.heap.size=P.heap.size+1:=by rcases hw with rfl|rfl<;>simp
 refine ⟨Chg.paint _ _ ?_ (Nr _),?_,fun hi b hb=>?_⟩
 ·rcases hw with rfl|rfl
  ·exact Xa _ _
  ·exact Xsh _ _
 ·rcases hw with rfl|rfl
  ·exact Hn _ _
  ·exact Hn P o
 ·show (if _ then _ else _)=_
  rw [if_neg (by omega)];exact hi b (by omega)
theorem Xta (tag:Nat) (hw:w'=P.alloc o∨w'=(P.alloc o).drew) (h0:∀ b,P.heap.size≤b→c b=0):∃ (c':Clr) (b:Nat),b=P.heap.size∧Chg NO c c' P w'∧w'.heap[b]?=some o∧c' b=tag∧∀ b,w'.heap.size≤b→c' b=0:=by
 obtain ⟨h1,h2,h3⟩:=Xuo (c:=c) (tag:=tag) hw
 exact ⟨_,_,rfl,h1,h2,if_pos rfl,h3 h0⟩
theorem Xu9:(Tryz.prog.info? 51).map (fun i=>(i.zero,i.size,i.bytes))=some (some (.agg #[.slice none 0 0,.int .i64 0,.int .i64 0,.int .i64 0,.int .i64 0,.int .i64 0,.int .i64 0,.int .i64 0,.int .i64 0]),9,88):=by kernel_rfl
theorem Xw9:(Tryz.prog.info? 54).map (fun i=>(i.zero,i.size,i.bytes))=some (some (.slice none 0 0),1,24):=by kernel_rfl
theorem Xxj:(Tryz.prog.info? 78).map (fun i=>(i.zero,i.size,i.bytes))=some (some (.slice none 0 0),1,24):=by kernel_rfl
theorem Xun:(Tryz.prog.info? 22).map (fun i=>(i.zero,i.size,i.bytes))=some (some (.slice none 0 0),1,24):=by kernel_rfl
theorem Xvu:∀ {l:List Xr7} {j:Nat} {u:Value},(Xss l)[j]?=some u→∃ i x r,l[i]?=some x∧(Xsv x)[r]?=some u∧j=i*5+r
 | [],_,_,h=>by simp [Xss] at h
 | y::l,j,u,h=>by
  have e:Xss (y::l)=Xsv y++Xss l:=rfl
  rw [e] at h
  by_cases hj:j<5
  ·rw [Al (by simpa [Xsv] using hj)] at h
   exact ⟨0,y,j,rfl,h,by omega⟩
  ·rw [Ar (by simp [Xsv];omega)] at h
   obtain ⟨i,x,r,h1,h2,h3⟩:=Xvu h
   refine ⟨i+1,x,r,by simpa using h1,h2,?_⟩
   simp [Xsv] at h3
   omega
theorem Xyf:∀ l:List Xr7,(Xss l).length=l.length*5
 | []=>rfl
 | y::l=>by
  have e:Xss (y::l)=Xsv y++Xss l:=rfl
  rw [e,List.length_append,Xyf l]
  simp [Xsv];omega
theorem X1f:∀ l:List Xr7,∀ u∈Xss l,u.oneCell'=true:=fun l u hu=>by
 obtain ⟨j,hj,rfl⟩:=List.getElem_of_mem hu
 obtain ⟨i,x,r,h1,h2,h3⟩:=Xvu (Lg hj)
 have hm:=Lm h2
 simp only [Xsv,List.mem_cons,List.not_mem_nil,or_false] at hm
 rcases hm with h|h|h|h|h<;>rw [h]<;>rfl
theorem X2c {o:Nat} {x:Xr7} (h:Xtu w b o x) {r:Nat} {u:Value} (hu:(Xsv x)[r]?=some u):w.cell? ⟨b,o+r,none⟩=some u:=by
 obtain ⟨h0,h1,h2,h3,h4,-⟩:=h
 have hr:r<5:=by have:=(Ll hu);simpa [Xsv] using this
 match r,hr,hu with
 | 0,_,hu=>simp [Xsv] at hu;subst hu;exact h0
 | 1,_,hu=>simp [Xsv] at hu;subst hu;exact h1
 | 2,_,hu=>simp [Xsv] at hu;subst hu;exact h2
 | 3,_,hu=>simp [Xsv] at hu;subst hu;exact h3
 | 4,_,hu=>simp [Xsv] at hu;subst hu;exact h4
theorem X3b {o:Oper} {a:Act} {K:Act→World→Prop} {Q:Exit→Act→World→Prop} (tag:Nat) (s x:Operand) (ho:o.op=.call { callee:=.builtin .append,args:=#[s,x],argTypes:=#[78,78] })
  (e1:Nat) (he:w.heap[e1]?=some (.cells #[] 84 (0,0))) (hs:a.eval s=.slice (some ⟨e1,0,none⟩) 0 0) (xa:Option Addr) (n xc:Nat) (l:List Xr7) (B:Nat) (hx:a.eval x=.slice xa n xc) (hl:Xf B w 5 Xtu (.slice xa n xc) l) (hm:l.length≤1000000) (hc:c e1=tag) (h0:tag≠0) (hhi:∀ b,w.heap.size≤b→c b=0)
  (h:∀ g cap w' c',Xup w' c' tag (.slice (some ⟨g,0,none⟩) n cap) l→Chg (fun k=>k=tag) c c' w w'→(∀ b,w'.heap.size≤b→c' b=0)→K (a.put o.dst (.slice (some ⟨g,0,none⟩) n cap)) w'):o.wp Tryz.prog a w K Q:=by
 obtain ⟨aC,aD,aB,aE,aF,aG,hE⟩:=hl
 obtain ⟨rfl,rfl,rfl⟩:xa=aC∧n=l.length∧xc=aD:=by simpa using aB
 refine Xxy tag s x 78 84 ho Tryz.underlying78 Xvh rfl (by decide) (by decide) e1 he hs xa l.length xc (Xss l) hx (Xyf l) ?_ (X1f l) hm hc h0 hhi (fun g cap w' c' h1 h2 h3=>h g cap w' c' ⟨h1,fun q hq=>?_⟩ h2 h3)
 ·rcases hE with h0|⟨b,oo,rfl,aA,hE⟩
  ·left;rw [h0];rfl
  ·refine .inr ⟨_,rfl,fun j u hu=>?_⟩
   obtain ⟨i,y,r,h1,h2,rfl⟩:=Xvu hu
   have:=X2c (hE i y h1) h2
   rw [Xtf,show oo+(i*5+r)=oo+i*5+r by omega];exact this
 ·rcases hE with h0|⟨b,oo,rfl,aA,hE⟩
  ·subst h0;cases hq
  ·obtain ⟨i,hi,rfl⟩:=List.getElem_of_mem hq
   exact (hE i _ (Lg hi)).2.2.2.2.2
theorem Xue (s:Thr) (sv:Value) (B:Nat) (w:World) (hB:B≤w.heap.size) (hs:Xsd B w sv s) (ok:Xw7 s) :
  Calls Tryz.prog 67 #[sv] w (Xvo s w):=by
 obtain ⟨gv,mv,rv,kv,cv,ov,bv,ev,rfl,hg,hm,hr,hk,hc,ho,gD,gI,f64,s64⟩:=hs
 obtain ⟨ga,gc,rfl⟩:=hg.form
 obtain ⟨ma,mc,rfl⟩:=hm.form
 obtain ⟨ra,rc,rfl⟩:=hr.form
 obtain ⟨ka,kc,rfl⟩:=hk.form
 obtain ⟨ca,cc,rfl⟩:=hc.form
 obtain ⟨oa,oc,rfl⟩:=ho.form
 obtain ⟨ba,bc,rfl⟩:=gD.form
 obtain ⟨ea,ec,rfl⟩:=gI.form
 obtain ⟨W,hW⟩:∃ W,W=(w.alloc (.cells #[.slice ga s.mem.globals.length gc,.slice ma s.mem.nodes.length mc,.int .i64 s.fuel,.slice ra s.running.length rc,.slice ka s.nodes.length kc,.slice ca s.calls.length cc,.slice oa s.results.length oc,.slice ba s.begins.length bc,.slice ea s.ends.length ec,.int .i64 s.step] 34)).alloc (.cells #[.slice none 0 0,.slice none 0 0,.int .i64 0,.slice none 0 0,.slice none 0 0,.slice none 0 0,.slice none 0 0,.slice none 0 0,.slice none 0 0,.int .i64 0] 34):=⟨_,rfl⟩
 have dY:Hid (Below w.heap.size w W):=by rw [hW];exact Lh ((Xa _ _).then (Xa _ _))
 have iF:Hid (W.heap.size=w.heap.size+2):=by rw [hW];exact Lh (by simp)
 have B0:Hid (W.heap[w.heap.size]?=some (.cells #[.slice ga s.mem.globals.length gc,.slice ma s.mem.nodes.length mc,.int .i64 s.fuel,.slice ra s.running.length rc,.slice ka s.nodes.length kc,.slice ca s.calls.length cc,.slice oa s.results.length oc,.slice ba s.begins.length bc,.slice ea s.ends.length ec,.int .i64 s.step] 34 (0,0))):=Lh (by
  rw [hW,Ha _ _ _ (by simp)]
  exact Hn _ _)
 have B1:Hid (W.heap[w.heap.size+1]?=some (.cells #[.slice none 0 0,.slice none 0 0,.int .i64 0,.slice none 0 0,.slice none 0 0,.slice none 0 0,.slice none 0 0,.slice none 0 0,.slice none 0 0,.int .i64 0] 34 (0,0))):=Lh (by
  rw [hW]
  have:=Hn (w.alloc (.cells #[.slice ga s.mem.globals.length gc,.slice ma s.mem.nodes.length mc,.int .i64 s.fuel,.slice ra s.running.length rc,.slice ka s.nodes.length kc,.slice ca s.calls.length cc,.slice oa s.results.length oc,.slice ba s.begins.length bc,.slice ea s.ends.length ec,.int .i64 s.step] 34)) (.cells #[.slice none 0 0,.slice none 0 0,.int .i64 0,.slice none 0 0,.slice none 0 0,.slice none 0 0,.slice none 0 0,.slice none 0 0,.slice none 0 0,.int .i64 0] 34)
  rw [show (w.alloc (.cells #[.slice ga s.mem.globals.length gc,.slice ma s.mem.nodes.length mc,.int .i64 s.fuel,.slice ra s.running.length rc,.slice ka s.nodes.length kc,.slice ca s.calls.length cc,.slice oa s.results.length oc,.slice ba s.begins.length bc,.slice ea s.ends.length ec,.int .i64 s.step] 34)).heap.size=w.heap.size+1 by simp] at this
  exact this)
 have HG:=Lh hg
 have HM:=Lh hm
 have HR:=Lh hr
 have HK:=Lh hk
 have HC:=Lh hc
 have HO:=Lh ho
 have iT:=Lh gD
 have iU:=Lh gI
 have gR:=Lh (And.intro f64 s64)
 have HB:=Lh hB
 have OK:=Lh ok
 have aQ:Hid (∀ (V:World) (c':Clr) (T:Nat→Prop),Chg T (fun b=>if b<w.heap.size∨b=w.heap.size+1 then 14 else 0) c' W V→¬T 14→Below w.heap.size w V):=Lh (fun V c' T h jA=>dY.out.trans ⟨h.os,h.tape,h.output,h.size,fun b hb=>h.keep b (Nl hb dY.out.size) (by rw [if_pos (.inl hb)];exact jA)⟩)
 have eS:Hid (Chg (fun t=>t=5) (fun b=>if b<w.heap.size∨b=w.heap.size+1 then 14 else 0) (fun b=>if b<w.heap.size∨b=w.heap.size+1 then 14 else 0) W W.drew):=Lh (Chg.of_below (Xh Br 1) (by decide))
 have eZ:Hid (∀ b,W.heap.size≤b→(fun b=>if b<w.heap.size∨b=w.heap.size+1 then 14 else 0) b=0):=Lh (fun b hb=>if_neg (by have:=iF.out;omega))
 have aP:Hid (∀ V,Below w.heap.size w V→Calls Tryz.prog 50 #[.agg #[.slice ga s.mem.globals.length gc,.slice ma s.mem.nodes.length mc]] V (Xwp s.mem V)):=Lh (fun V hV=>Xyr s.mem _ B V (Nt hB hV.size) (MmV.below (hV.mono hB) ⟨_,_,rfl,hg,hm⟩) ok.g ok.n ok.f)
 have cH:Hid (∀ V,Below w.heap.size w V→Xf B V 1 Zd (.slice ka s.nodes.length kc) s.nodes):=Lh (fun V hV=>hk.ints (hV.mono hB))
 have aJ:Hid (∀ (V:World) (c':Clr),Chg (fun t=>t=5) (fun b=>if b<w.heap.size∨b=w.heap.size+1 then 14 else 0) c' W V→V.cell? ⟨w.heap.size,0,none⟩=some (.slice ga s.mem.globals.length gc)∧V.cell? ⟨w.heap.size,1,none⟩=some (.slice ma s.mem.nodes.length mc)∧V.cell? ⟨w.heap.size,2,none⟩=some (.int .i64 s.fuel)∧V.cell? ⟨w.heap.size,4,none⟩=some (.slice ka s.nodes.length kc)∧V.cell? ⟨w.heap.size,9,none⟩=some (.int .i64 s.step)):=Lh (fun V c' h=>by
  have dW:∀ (j:Nat) v,(#[.slice ga s.mem.globals.length gc,.slice ma s.mem.nodes.length mc,.int .i64 s.fuel,.slice ra s.running.length rc,.slice ka s.nodes.length kc,.slice ca s.calls.length cc,.slice oa s.results.length oc,.slice ba s.begins.length bc,.slice ea s.ends.length ec,.int .i64 s.step]:Array Value)[j]?=some v→V.cell? ⟨w.heap.size,j,none⟩=some v:=fun j v hv=>h.cell (by rw [cell_of_row _ _ _ _ _ _ B0.out];exact hv) (by show ¬(if _ then _ else _)=_;rw [if_neg (by show ¬(w.heap.size<w.heap.size∨w.heap.size=_);omega)];decide)
  exact ⟨dW 0 _ rfl,dW 1 _ rfl,dW 2 _ rfl,dW 4 _ rfl,dW 9 _ rfl⟩)
 have jB:=aJ.out W _ (Chg.of_below Br (by decide))
 obtain ⟨p0,p1,p2,p4,p9⟩:=jB
 have cU:Hid (s.nodes.length≤1000000):=Lh ok.kl
 clear hg hm hr hk hc ho gD gI f64 s64 hB ok
 go_enter Tryz.func67,Tryz.ntmps67
 go_upto_region 1 with fail
 rw [←hW]
 have HW:=Lh hW
 clear hW
 refine X6 (fun Vs=>Vs.cell? ⟨w.heap.size,0,none⟩=some (.slice ga s.mem.globals.length gc)∧Vs.cell? ⟨w.heap.size,1,none⟩=some (.slice ma s.mem.nodes.length mc)∧Vs.cell? ⟨w.heap.size,2,none⟩=some (.int .i64 s.fuel)∧Vs.cell? ⟨w.heap.size,4,none⟩=some (.slice ka s.nodes.length kc)∧Vs.cell? ⟨w.heap.size,9,none⟩=some (.int .i64 s.step)) [2,5,8,11,12,13] true 14 rfl (by kernel_rfl) (by kernel_rfl) ⟨p0,p1,p2,p4,p9⟩ ?_
 repeat (first|(refine' Xr4.take (Eq.refl false) _ (fun wV aK=>?_) ?_;rotate_left;(try dsimp only at aK);go_simp;(try with_reducible rfl);try simp only [Ap])|refine Xr4.skip (Eq.refl true) ?_)
 refine Xr4.stop ?_
 simp only [List.nil_append,List.cons_append]
 clear p0 p1 p2 p4 p9
 refine' X21 (fun fX=>?_) ?_
 rotate_left
 ·refine Xu2 [_,_,_] ?_
  refine Xze (by kernel_rfl) (by kernel_rfl) ?kx1 ?ky1 ?kz1
  case' kx1=>
   go_simp
   refine (aP.out W.drew (aQ.out _ _ _ eS.out (by decide))).mono ?_
   rintro e w1 ⟨cM,aV,cO,aX,rfl,hb,bF⟩
   obtain ⟨c1,nx,hC,hM⟩:=bF (fun b=>if b<w.heap.size∨b=w.heap.size+1 then 14 else 0) eZ.out
   have eK:=Lh hM
   have bO:=Lh (eS.out.trans hC.t5)
   have cT:=Lh hM.hi
   clear bF hb hC hM
   refine ⟨aJ.out _ _ bO.out,?_⟩
   refine Xs3 (by kernel_rfl) (by kernel_rfl) ?kx2 ?ky2
   case' kx2=>
    go_simp
    obtain ⟨w2,hw⟩:∃ u,u=(w1.alloc (.cells #[.slice none 0 0,.slice none 0 0,.int .i64 0,.slice none 0 0,.slice none 0 0,.slice none 0 0,.slice none 0 0,.slice none 0 0,.slice none 0 0,.int .i64 0] 34)):=⟨_,rfl⟩
    rw [←hw]
    obtain ⟨c2,bo,aF,hC,hE,aB,aA⟩:=Xta (c:=c1) 1 (.inl hw) cT.out
    try rw [←aF]
    have aM:=Lh (bO.out.trans hC.t5)
    have bE:=Lh aA
    have D2:Hid (Xxc w2 c2 bo):=Lh ⟨hE,aB⟩
    have cC:=Lh (eK.out.keep hC bE.out (fun t h=>h.elim))
    clear hC hE aA aB hw aF
    refine ⟨aJ.out _ _ aM.out,?_⟩
    refine X5 (by kernel_rfl) ?_
    go_simp
    obtain ⟨w3,hw⟩:∃ u,u=(w2.alloc (.cells #[] 3)):=⟨_,rfl⟩
    rw [←hw]
    obtain ⟨c3,e1,aF,hC,hE,aB,aA⟩:=Xta (c:=c2) 5 (.inl hw) bE.out
    try rw [←aF]
    have aG:=Lh (aM.out.trans hC.t5)
    have aU:=Lh aA
    have E3:Hid (Xyb w3 c3 e1):=Lh ⟨hE,aB⟩
    have D3:=Lh (D2.out.keep hC (no _))
    have bA:=Lh (cC.out.keep hC aU.out (fun t h=>h.elim))
    clear hC hE aA aB hw aF
    refine ⟨aJ.out _ _ aG.out,?_⟩
    refine X5 (by kernel_rfl) ?_
    refine Xtj 5 (.tmp 10) (.tmp 12) rfl (c:=c3) e1 E3.out.1 rfl ka s.nodes.length kc s.nodes B rfl (cH.out w3 (aQ.out _ _ _ aG.out (by decide))) cU.out E3.out.2 (by decide) aU.out (fun gk aN w4 c4 hI hC aA=>?_)
    have cL:=Lh hI
    have aY:=Lh (aG.out.trans hC)
    have bS:=Lh aA
    have bP:=Lh (bA.out.keep hC aA (fun t h=>h))
    have D4:=Lh (D3.out.keep hC (by decide))
    clear hI hC aA
    refine ⟨.inl (aJ.out _ _ aY.out),?_⟩
    (refine' Z6 (by kernel_rfl) _ (fun wV aK=>?_) ?_;rotate_left;(clear aK;go_simp);(try with_reducible rfl);try simp only [Ap])
   case' ky2=>
    go_simp
    obtain ⟨w2,hw⟩:∃ u,u=(w1.alloc (.cells #[] 3)):=⟨_,rfl⟩
    rw [←hw]
    obtain ⟨c2,e1,aF,hC,hE,aB,aA⟩:=Xta (c:=c1) 5 (.inl hw) cT.out
    try rw [←aF]
    have aM:=Lh (bO.out.trans hC.t5)
    have bE:=Lh aA
    have E2:Hid (Xyb w2 c2 e1):=Lh ⟨hE,aB⟩
    have cC:=Lh (eK.out.keep hC bE.out (fun t h=>h.elim))
    clear hC hE aA aB hw aF
    refine ⟨aJ.out _ _ aM.out,?_⟩
    refine Xs3 (by kernel_rfl) (by kernel_rfl) ?kx3 ?ky3
    case' kx3=>
     go_simp
     obtain ⟨w3,hw⟩:∃ u,u=(w2.alloc (.cells #[.slice none 0 0,.slice none 0 0,.int .i64 0,.slice none 0 0,.slice none 0 0,.slice none 0 0,.slice none 0 0,.slice none 0 0,.slice none 0 0,.int .i64 0] 34)):=⟨_,rfl⟩
     rw [←hw]
     obtain ⟨c3,bo,aF,hC,hE,aB,aA⟩:=Xta (c:=c2) 1 (.inl hw) bE.out
     try rw [←aF]
     have aG:=Lh (aM.out.trans hC.t5)
     have aU:=Lh aA
     have D3:Hid (Xxc w3 c3 bo):=Lh ⟨hE,aB⟩
     have E3:=Lh (E2.out.keep hC (no _))
     have bA:=Lh (cC.out.keep hC aU.out (fun t h=>h.elim))
     clear hC hE aA aB hw aF
     refine ⟨aJ.out _ _ aG.out,?_⟩
     refine X5 (by kernel_rfl) ?_
     refine Xtj 5 (.tmp 10) (.tmp 12) rfl (c:=c3) e1 E3.out.1 rfl ka s.nodes.length kc s.nodes B rfl (cH.out w3 (aQ.out _ _ _ aG.out (by decide))) cU.out E3.out.2 (by decide) aU.out (fun gk aN w4 c4 hI hC aA=>?_)
     have cL:=Lh hI
     have aY:=Lh (aG.out.trans hC)
     have bS:=Lh aA
     have bP:=Lh (bA.out.keep hC aA (fun t h=>h))
     have D4:=Lh (D3.out.keep hC (by decide))
     clear hI hC aA
     refine ⟨.inl (aJ.out _ _ aY.out),?_⟩
     (refine' Z6 (by kernel_rfl) _ (fun wV aK=>?_) ?_;rotate_left;(clear aK;go_simp);(try with_reducible rfl);try simp only [Ap])
    case' ky3=>
     refine Xtj 5 (.tmp 10) (.tmp 12) rfl (c:=c2) e1 E2.out.1 rfl ka s.nodes.length kc s.nodes B rfl (cH.out w2 (aQ.out _ _ _ aM.out (by decide))) cU.out E2.out.2 (by decide) bE.out (fun gk aN w3 c3 hI hC aA=>?_)
     have dX:=Lh hI
     have aG:=Lh (aM.out.trans hC)
     have aU:=Lh aA
     have bA:=Lh (cC.out.keep hC aA (fun t h=>h))
     clear hI hC aA
     refine ⟨.inl (aJ.out _ _ aG.out),?_⟩
     refine Xte ?_
     (refine' Z6 (by kernel_rfl) _ (fun wV aK=>?_) ?_;rotate_left;(clear aK;go_simp);(try with_reducible rfl);try simp only [Ap])
     refine X5 (by kernel_rfl) ?_
     go_simp
     obtain ⟨w4,hw⟩:∃ u,u=(w3.alloc (.cells #[.slice none 0 0,.slice none 0 0,.int .i64 0,.slice none 0 0,.slice none 0 0,.slice none 0 0,.slice none 0 0,.slice none 0 0,.slice none 0 0,.int .i64 0] 34)):=⟨_,rfl⟩
     rw [←hw]
     obtain ⟨c4,bo,aF,hC,hE,aB,aA⟩:=Xta (c:=c3) 1 (.inl hw) aU.out
     try rw [←aF]
     have aY:=Lh (aG.out.trans hC.t5)
     have bS:=Lh aA
     have D4:Hid (Xxc w4 c4 bo):=Lh ⟨hE,aB⟩
     have bP:=Lh (bA.out.keep hC bS.out (fun t h=>h.elim))
     have cL:=Lh (dX.out.keep hC (no _))
     clear hC hE aA aB hw aF
     refine ⟨aJ.out _ _ aY.out,?_⟩
  case' ky1=>
   go_simp
   obtain ⟨w1,hw⟩:∃ u,u=(W.alloc (.cells #[.slice none 0 0,.slice none 0 0,.int .i64 0,.slice none 0 0,.slice none 0 0,.slice none 0 0,.slice none 0 0,.slice none 0 0,.slice none 0 0,.int .i64 0] 34)).drew:=⟨_,rfl⟩
   rw [←hw]
   obtain ⟨c1,bo,aF,hC,hE,aB,aA⟩:=Xta (c:=(fun b=>if b<w.heap.size∨b=w.heap.size+1 then 14 else 0)) 1 (.inr hw) eZ.out
   try rw [←aF]
   have bO:=Lh ((Chg.of_below (T:=fun t=>t=5) (c:=(fun b=>if b<w.heap.size∨b=w.heap.size+1 then 14 else 0)) Br (by decide)).trans hC.t5)
   have cT:=Lh aA
   have D1:Hid (Xxc w1 c1 bo):=Lh ⟨hE,aB⟩
   clear hC hE aA aB hw aF
   refine ⟨aJ.out _ _ (Chg.of_below (Xa W _) (by decide)),?_⟩
   refine Xs3 (by kernel_rfl) (by kernel_rfl) ?kx4 ?ky4
   case' kx4=>
    go_simp
    refine (aP.out w1 (aQ.out _ _ _ bO.out (by decide))).mono ?_
    rintro e w2 ⟨cM,aV,cO,aX,rfl,hb,bF⟩
    obtain ⟨c2,nx,hC,hM⟩:=bF c1 cT.out
    have cC:=Lh hM
    have aM:=Lh (bO.out.trans hC.t5)
    have bE:=Lh hM.hi
    have D2:=Lh (D1.out.keep hC (no _))
    clear bF hb hC hM
    refine ⟨aJ.out _ _ aM.out,?_⟩
    refine X5 (by kernel_rfl) ?_
    go_simp
    obtain ⟨w3,hw⟩:∃ u,u=(w2.alloc (.cells #[] 3)):=⟨_,rfl⟩
    rw [←hw]
    obtain ⟨c3,e1,aF,hC,hE,aB,aA⟩:=Xta (c:=c2) 5 (.inl hw) bE.out
    try rw [←aF]
    have aG:=Lh (aM.out.trans hC.t5)
    have aU:=Lh aA
    have E3:Hid (Xyb w3 c3 e1):=Lh ⟨hE,aB⟩
    have D3:=Lh (D2.out.keep hC (no _))
    have bA:=Lh (cC.out.keep hC aU.out (fun t h=>h.elim))
    clear hC hE aA aB hw aF
    refine ⟨aJ.out _ _ aG.out,?_⟩
    refine X5 (by kernel_rfl) ?_
    refine Xtj 5 (.tmp 10) (.tmp 12) rfl (c:=c3) e1 E3.out.1 rfl ka s.nodes.length kc s.nodes B rfl (cH.out w3 (aQ.out _ _ _ aG.out (by decide))) cU.out E3.out.2 (by decide) aU.out (fun gk aN w4 c4 hI hC aA=>?_)
    have cL:=Lh hI
    have aY:=Lh (aG.out.trans hC)
    have bS:=Lh aA
    have bP:=Lh (bA.out.keep hC aA (fun t h=>h))
    have D4:=Lh (D3.out.keep hC (by decide))
    clear hI hC aA
    refine ⟨.inl (aJ.out _ _ aY.out),?_⟩
    (refine' Z6 (by kernel_rfl) _ (fun wV aK=>?_) ?_;rotate_left;(clear aK;go_simp);(try with_reducible rfl);try simp only [Ap])
   case' ky4=>
    go_simp
    obtain ⟨w2,hw⟩:∃ u,u=(w1.alloc (.cells #[] 3)):=⟨_,rfl⟩
    rw [←hw]
    obtain ⟨c2,e1,aF,hC,hE,aB,aA⟩:=Xta (c:=c1) 5 (.inl hw) cT.out
    try rw [←aF]
    have aM:=Lh (bO.out.trans hC.t5)
    have bE:=Lh aA
    have E2:Hid (Xyb w2 c2 e1):=Lh ⟨hE,aB⟩
    have D2:=Lh (D1.out.keep hC (no _))
    clear hC hE aA aB hw aF
    refine ⟨aJ.out _ _ aM.out,?_⟩
    refine X5 (by kernel_rfl) ?_
    go_simp
    refine (aP.out w2 (aQ.out _ _ _ aM.out (by decide))).mono ?_
    rintro e w3 ⟨cM,aV,cO,aX,rfl,hb,bF⟩
    obtain ⟨c3,nx,hC,hM⟩:=bF c2 bE.out
    have bA:=Lh hM
    have aG:=Lh (aM.out.trans hC.t5)
    have aU:=Lh hM.hi
    have E3:=Lh (E2.out.keep hC (no _))
    have D3:=Lh (D2.out.keep hC (no _))
    clear bF hb hC hM
    refine ⟨aJ.out _ _ aG.out,?_⟩
    refine X5 (by kernel_rfl) ?_
    refine Xtj 5 (.tmp 10) (.tmp 12) rfl (c:=c3) e1 E3.out.1 rfl ka s.nodes.length kc s.nodes B rfl (cH.out w3 (aQ.out _ _ _ aG.out (by decide))) cU.out E3.out.2 (by decide) aU.out (fun gk aN w4 c4 hI hC aA=>?_)
    have cL:=Lh hI
    have aY:=Lh (aG.out.trans hC)
    have bS:=Lh aA
    have bP:=Lh (bA.out.keep hC aA (fun t h=>h))
    have D4:=Lh (D3.out.keep hC (by decide))
    clear hI hC aA
    refine ⟨.inl (aJ.out _ _ aY.out),?_⟩
    (refine' Z6 (by kernel_rfl) _ (fun wV aK=>?_) ?_;rotate_left;(clear aK;go_simp);(try with_reducible rfl);try simp only [Ap])
  case' kz1=>
   go_simp
   obtain ⟨w1,hw⟩:∃ u,u=(W.alloc (.cells #[] 3)).drew:=⟨_,rfl⟩
   rw [←hw]
   obtain ⟨c1,e1,aF,hC,hE,aB,aA⟩:=Xta (c:=(fun b=>if b<w.heap.size∨b=w.heap.size+1 then 14 else 0)) 5 (.inr hw) eZ.out
   try rw [←aF]
   have bO:=Lh ((Chg.of_below (T:=fun t=>t=5) (c:=(fun b=>if b<w.heap.size∨b=w.heap.size+1 then 14 else 0)) Br (by decide)).trans hC.t5)
   have cT:=Lh aA
   have E1:Hid (Xyb w1 c1 e1):=Lh ⟨hE,aB⟩
   clear hC hE aA aB hw aF
   refine ⟨aJ.out _ _ (Chg.of_below (Xa W _) (by decide)),?_⟩
   refine Xs3 (by kernel_rfl) (by kernel_rfl) ?kx5 ?ky5
   case' kx5=>
    go_simp
    refine (aP.out w1 (aQ.out _ _ _ bO.out (by decide))).mono ?_
    rintro e w2 ⟨cM,aV,cO,aX,rfl,hb,bF⟩
    obtain ⟨c2,nx,hC,hM⟩:=bF c1 cT.out
    have cC:=Lh hM
    have aM:=Lh (bO.out.trans hC.t5)
    have bE:=Lh hM.hi
    have E2:=Lh (E1.out.keep hC (no _))
    clear bF hb hC hM
    refine ⟨aJ.out _ _ aM.out,?_⟩
    refine Xs3 (by kernel_rfl) (by kernel_rfl) ?kx6 ?ky6
    case' kx6=>
     go_simp
     obtain ⟨w3,hw⟩:∃ u,u=(w2.alloc (.cells #[.slice none 0 0,.slice none 0 0,.int .i64 0,.slice none 0 0,.slice none 0 0,.slice none 0 0,.slice none 0 0,.slice none 0 0,.slice none 0 0,.int .i64 0] 34)):=⟨_,rfl⟩
     rw [←hw]
     obtain ⟨c3,bo,aF,hC,hE,aB,aA⟩:=Xta (c:=c2) 1 (.inl hw) bE.out
     try rw [←aF]
     have aG:=Lh (aM.out.trans hC.t5)
     have aU:=Lh aA
     have D3:Hid (Xxc w3 c3 bo):=Lh ⟨hE,aB⟩
     have E3:=Lh (E2.out.keep hC (no _))
     have bA:=Lh (cC.out.keep hC aU.out (fun t h=>h.elim))
     clear hC hE aA aB hw aF
     refine ⟨aJ.out _ _ aG.out,?_⟩
     refine X5 (by kernel_rfl) ?_
     refine Xtj 5 (.tmp 10) (.tmp 12) rfl (c:=c3) e1 E3.out.1 rfl ka s.nodes.length kc s.nodes B rfl (cH.out w3 (aQ.out _ _ _ aG.out (by decide))) cU.out E3.out.2 (by decide) aU.out (fun gk aN w4 c4 hI hC aA=>?_)
     have cL:=Lh hI
     have aY:=Lh (aG.out.trans hC)
     have bS:=Lh aA
     have bP:=Lh (bA.out.keep hC aA (fun t h=>h))
     have D4:=Lh (D3.out.keep hC (by decide))
     clear hI hC aA
     refine ⟨.inl (aJ.out _ _ aY.out),?_⟩
     (refine' Z6 (by kernel_rfl) _ (fun wV aK=>?_) ?_;rotate_left;(clear aK;go_simp);(try with_reducible rfl);try simp only [Ap])
    case' ky6=>
     refine Xtj 5 (.tmp 10) (.tmp 12) rfl (c:=c2) e1 E2.out.1 rfl ka s.nodes.length kc s.nodes B rfl (cH.out w2 (aQ.out _ _ _ aM.out (by decide))) cU.out E2.out.2 (by decide) bE.out (fun gk aN w3 c3 hI hC aA=>?_)
     have dX:=Lh hI
     have aG:=Lh (aM.out.trans hC)
     have aU:=Lh aA
     have bA:=Lh (cC.out.keep hC aA (fun t h=>h))
     clear hI hC aA
     refine ⟨.inl (aJ.out _ _ aG.out),?_⟩
     refine Xte ?_
     (refine' Z6 (by kernel_rfl) _ (fun wV aK=>?_) ?_;rotate_left;(clear aK;go_simp);(try with_reducible rfl);try simp only [Ap])
     refine X5 (by kernel_rfl) ?_
     go_simp
     obtain ⟨w4,hw⟩:∃ u,u=(w3.alloc (.cells #[.slice none 0 0,.slice none 0 0,.int .i64 0,.slice none 0 0,.slice none 0 0,.slice none 0 0,.slice none 0 0,.slice none 0 0,.slice none 0 0,.int .i64 0] 34)):=⟨_,rfl⟩
     rw [←hw]
     obtain ⟨c4,bo,aF,hC,hE,aB,aA⟩:=Xta (c:=c3) 1 (.inl hw) aU.out
     try rw [←aF]
     have aY:=Lh (aG.out.trans hC.t5)
     have bS:=Lh aA
     have D4:Hid (Xxc w4 c4 bo):=Lh ⟨hE,aB⟩
     have bP:=Lh (bA.out.keep hC bS.out (fun t h=>h.elim))
     have cL:=Lh (dX.out.keep hC (no _))
     clear hC hE aA aB hw aF
     refine ⟨aJ.out _ _ aY.out,?_⟩
   case' ky5=>
    go_simp
    obtain ⟨w2,hw⟩:∃ u,u=(w1.alloc (.cells #[.slice none 0 0,.slice none 0 0,.int .i64 0,.slice none 0 0,.slice none 0 0,.slice none 0 0,.slice none 0 0,.slice none 0 0,.slice none 0 0,.int .i64 0] 34)):=⟨_,rfl⟩
    rw [←hw]
    obtain ⟨c2,bo,aF,hC,hE,aB,aA⟩:=Xta (c:=c1) 1 (.inl hw) cT.out
    try rw [←aF]
    have aM:=Lh (bO.out.trans hC.t5)
    have bE:=Lh aA
    have D2:Hid (Xxc w2 c2 bo):=Lh ⟨hE,aB⟩
    have E2:=Lh (E1.out.keep hC (no _))
    clear hC hE aA aB hw aF
    refine ⟨aJ.out _ _ aM.out,?_⟩
    refine X5 (by kernel_rfl) ?_
    go_simp
    refine (aP.out w2 (aQ.out _ _ _ aM.out (by decide))).mono ?_
    rintro e w3 ⟨cM,aV,cO,aX,rfl,hb,bF⟩
    obtain ⟨c3,nx,hC,hM⟩:=bF c2 bE.out
    have bA:=Lh hM
    have aG:=Lh (aM.out.trans hC.t5)
    have aU:=Lh hM.hi
    have E3:=Lh (E2.out.keep hC (no _))
    have D3:=Lh (D2.out.keep hC (no _))
    clear bF hb hC hM
    refine ⟨aJ.out _ _ aG.out,?_⟩
    refine X5 (by kernel_rfl) ?_
    refine Xtj 5 (.tmp 10) (.tmp 12) rfl (c:=c3) e1 E3.out.1 rfl ka s.nodes.length kc s.nodes B rfl (cH.out w3 (aQ.out _ _ _ aG.out (by decide))) cU.out E3.out.2 (by decide) aU.out (fun gk aN w4 c4 hI hC aA=>?_)
    have cL:=Lh hI
    have aY:=Lh (aG.out.trans hC)
    have bS:=Lh aA
    have bP:=Lh (bA.out.keep hC aA (fun t h=>h))
    have D4:=Lh (D3.out.keep hC (by decide))
    clear hI hC aA
    refine ⟨.inl (aJ.out _ _ aY.out),?_⟩
    (refine' Z6 (by kernel_rfl) _ (fun wV aK=>?_) ?_;rotate_left;(clear aK;go_simp);(try with_reducible rfl);try simp only [Ap])
  all_goals
   obtain ⟨⟨y0,y1,y2,y3,y4,y5,y6,y7,y8,y9⟩,⟨z0,z1,z2,z3,z4,z5,z6,z7,z8,z9⟩,zz⟩:=ten D4.out.1
   refine X5 (by kernel_rfl) ?_
   go_simp
   refine Xr3 ?_
   clear y0 y1 y2 y3 y4 y5 y6 y7 y8 y9 z0 z1 z2 z3 z4 z5 z6 z7 z8 z9 zz
   obtain ⟨Wf,dF⟩:∃ u,u=Xr6 w4 bo (.slice cM s.mem.globals.length aV) (.slice cO s.mem.nodes.length aX) (.int .i64 s.fuel) (.slice none 0 0) (.slice (some ⟨gk,0,none⟩) s.nodes.length aN) (.slice none 0 0) (.slice none 0 0) (.slice none 0 0) (.slice none 0 0) (.int .i64 s.step):=⟨_,rfl⟩
   have hP:Chg (fun t=>t=1) c4 c4 w4 Wf:=by rw [dF];exact Xs2 D4.out.2 (by decide)
   have hz:Wf.heap.size=w4.heap.size:=by rw [dF,Xtg]
   have aA:∀ b,Wf.heap.size≤b→c4 b=0:=fun b hb=>bS.out b (by rw [←hz];exact hb)
   have hO:Xxp Wf c4 s.mem (.slice cM s.mem.globals.length aV) (.slice cO s.mem.nodes.length aX) nx:=⟨aA,bP.out.g.keep hP (by decide),bP.out.n.keep hP (by decide),fun i x hx=>by
    obtain ⟨lv,h1,h2,h3,h4⟩:=bP.out.nn i x hx
    exact ⟨lv,h1,h2,h3,h4.keep hP (by omega)⟩⟩
   have dJ:Hid (X13 s W (fun b=>if b<w.heap.size∨b=w.heap.size+1 then 14 else 0) bo 0 Wf c4):=Lh ⟨X06 hO (cL.out.keep hP (by decide)) (by rw [dF];exact V4 D4.out.1 (.slice cM s.mem.globals.length aV) (.slice cO s.mem.nodes.length aX) (.int .i64 s.fuel) (.slice none 0 0) (.slice (some ⟨gk,0,none⟩) s.nodes.length aN) (.slice none 0 0) (.slice none 0 0) (.slice none 0 0) (.slice none 0 0) (.int .i64 s.step)) D4.out.2 gR.out.1 gR.out.2,(aY.out.nz (by decide)).trans (hP.nz (by decide))⟩
   unfold Xr6 at dF
   rw [←dF]
   clear hP hz aA hO dF
   try clear D4
   try clear cL
   try clear bP
   try clear aY
   try clear bS
   try clear D3
   try clear E3
   try clear dX
   try clear bA
   try clear D2
   try clear E2
   try clear KI2
   try clear cC
   try clear D1
   try clear E1
   try clear eK
   revert dJ
   revert c4
   revert Wf
   revert bo
   revert e1
   revert aN
   revert gk
   revert aX
   revert cO
   revert aV
   revert cM
   exact fX
 intro cM aV cO aX gk aN e1 bo Wf c4 dJ
 have dE:Hid (∀ (V:World) (c':Clr),Chg NZ (fun b=>if b<w.heap.size∨b=w.heap.size+1 then 14 else 0) c' W V→∀ (j:Nat) v,(#[.slice ga s.mem.globals.length gc,.slice ma s.mem.nodes.length mc,.int .i64 s.fuel,.slice ra s.running.length rc,.slice ka s.nodes.length kc,.slice ca s.calls.length cc,.slice oa s.results.length oc,.slice ba s.begins.length bc,.slice ea s.ends.length ec,.int .i64 s.step]:Array Value)[j]?=some v→V.cell? ⟨w.heap.size,j,none⟩=some v):=Lh (fun V c' h j v hv=>h.cell (by rw [cell_of_row _ _ _ _ _ _ B0.out];exact hv) (by show ¬NZ (if _ then _ else _);rw [if_neg (by show ¬(w.heap.size<w.heap.size∨w.heap.size=_);omega)];exact nz0))
 have i3:=dE.out Wf c4 dJ.out.chg 3 _ rfl
 have zi:=Bl i3
 clear aP cH aJ eS
 go_wp2_with fail
 clear i3 zi
 go_loopw [20] (fun i wr=>∃ k:Nat,k≤s.running.length∧i=.int .i64 k∧Hid (∃ c,X13 s W (fun b=>if b<w.heap.size∨b=w.heap.size+1 then 14 else 0) bo k wr c)) (fun i _=>s.running.length - (intOf i).toNat)
 case atStart=>exact ⟨0,Nat.zero_le _,rfl,Lh ⟨_,dJ.out⟩⟩
 case round=>
  obtain ⟨k,hk,rfl,aL⟩:=hrel
  obtain ⟨c,aL⟩:=aL.out
  have HS:=Lh aL
  clear aL dJ
  by_cases dV:k<s.running.length
  ·obtain ⟨m,hm⟩:∃ y,s.running[k]?=some y:=⟨_,Lg dV⟩
   obtain ⟨lc_,gL⟩:∃ y,s.calls[k]?=some y:=⟨_,Lg (by rw [OK.out.cl];exact dV)⟩
   obtain ⟨lo_,gN⟩:∃ y,s.results[k]?=some y:=⟨_,Lg (by rw [OK.out.ol];exact dV)⟩
   obtain ⟨lb_,gK⟩:∃ y,s.begins[k]?=some y:=⟨_,Lg (by rw [OK.out.bl];exact dV)⟩
   obtain ⟨le_,gM⟩:∃ y,s.ends[k]?=some y:=⟨_,Lg (by rw [OK.out.el];exact dV)⟩
   obtain ⟨rb,ro,rfl,iE,iC⟩:=HR.out.nth hm
   obtain ⟨cb,co,rfl,iA,jI,gE,gF⟩:=HC.out.nth gL
   obtain ⟨ob,oo,rfl,iD,jQ,gO,gP⟩:=HO.out.nth gN
   obtain ⟨bb,bo_,rfl,hX,jH,gB,gC⟩:=iT.out.nth gK
   obtain ⟨eb,eo,rfl,iB,jJ,gG,gH⟩:=iU.out.nth gM
   obtain ⟨fY,fZ,rfl⟩:=gF.form
   obtain ⟨iR,iS,rfl⟩:=gP.form
   obtain ⟨hD,hF,rfl⟩:=gC.form
   obtain ⟨hL,hN,rfl⟩:=gH.form
   rw [Nat.mul_one] at gE gO gB gG
   have HX:=Lh (And.intro hm (And.intro gL (And.intro gN (And.intro gK gM))))
   have aO:=Lh (And.intro iE (And.intro iA (And.intro iD (And.intro hX iB))))
   have iX:=Lh iC
   have gT:=Lh (And.intro gE gF)
   have gV:=Lh (And.intro gO gP)
   have gS:=Lh (And.intro gB gC)
   have gU:=Lh (And.intro gG gH)
   have jK:(0:Int)≤(k:Int):=In _
   have dZ:(k:Int)<(s.running.length:Int):=by omega
   have jL:(k:Int)<(s.calls.length:Int):=by rw [OK.out.cl];exact dZ
   have jM:(k:Int)<(s.results.length:Int):=by rw [OK.out.ol];exact dZ
   have jN:(k:Int)<(s.begins.length:Int):=by rw [OK.out.bl];exact dZ
   have jO:(k:Int)<(s.ends.length:Int):=by rw [OK.out.el];exact dZ
   have bC:Hid ((s.running.take k).length=k∧(s.calls.take k).length=k∧(s.results.take k).length=k∧(s.begins.take k).length=k∧(s.ends.take k).length=k):=Lh (by
    rw [List.length_take,List.length_take,List.length_take,List.length_take,List.length_take,OK.out.cl,OK.out.ol,OK.out.bl,OK.out.el];omega)
   have cD:Hid (∀ (V:World) (c':Clr),Chg NZ (fun b=>if b<w.heap.size∨b=w.heap.size+1 then 14 else 0) c' W V→Below B w V):=Lh (fun V c' h=>(aQ.out V c' _ h Xvf).mono HB.out)
   have bB:Hid (∀ (V:World) (c':Clr),Chg NZ (fun b=>if b<w.heap.size∨b=w.heap.size+1 then 14 else 0) c' W V→∀ b,b<B→c' b=14):=Lh (fun V c' h b hb=>by have h1:=HB.out;have h2:=dY.out.size;rw [h.old b (by omega)];exact if_pos (.inl (by omega)))
   have cP:Hid (∀ (V:World) (c':Clr),Chg NZ (fun b=>if b<w.heap.size∨b=w.heap.size+1 then 14 else 0) c' W V→c' w.heap.size=0):=Lh (fun V c' h=>by have h2:=iF.out;rw [h.old _ (by omega)];exact if_neg (by omega))
   have gW:=Lh HS.out.st
   have bD:=Lh HS.out.chg
   clear hm gL gN gK gM iE iA iD hX iB iC gE gF gO gP gB gC gG gH
   have hP:=cD.out _ _ bD.out
   obtain ⟨iH,iM,jC,b0,aW,bG⟩:=gW.out.pushR
   rw [show (tk5 s k k k k k).running.length=k from bC.out.1] at b0 aW
   have fJ:=Lh aW
   have eT:=Lh bG
   have bT:=Lh gW.out.lab
   have i0:=dE.out _ _ bD.out 3 _ rfl
   clear aW bG
   obtain ⟨fv,gJ,m0,m1,m2,m3,m4,m5,m6,m7,m8,iG⟩:=(Xu4.below hP aO.out.1 iX.out).nine
   obtain ⟨fa,fc,rfl⟩:=gJ.form
   have iV:=Lh gJ
   have iZ:=Lh iG
   clear gJ iG
   clear hP
   have z0:=bT.out.2.1
   have z1:=Bl i0
   have z2:=Bl m0
   go_upto_region 5 with fail
   clear z0 z1 z2
   refine X6 (fun Vs=>Vs.cell? ⟨bo,3,none⟩=some (.slice iH k iM)∧Vs.cell? ⟨w.heap.size,3,none⟩=some (.slice (some ⟨rb,ro,none⟩) s.running.length rc)∧Vs.cell? ⟨rb,ro+k*9,none⟩=some (.slice fa m.frames.length fc)∧Vs.cell? ⟨rb,ro+k*9+1,none⟩=some (.int .i64 m.req.kind)∧Vs.cell? ⟨rb,ro+k*9+2,none⟩=some (.int .i64 m.req.node)∧Vs.cell? ⟨rb,ro+k*9+3,none⟩=some (.int .i64 m.req.field)∧Vs.cell? ⟨rb,ro+k*9+4,none⟩=some (.int .i64 m.req.value)∧Vs.cell? ⟨rb,ro+k*9+5,none⟩=some (.int .i64 m.req.fault)∧Vs.cell? ⟨rb,ro+k*9+6,none⟩=some (.int .i64 m.fuel)∧Vs.cell? ⟨rb,ro+k*9+7,none⟩=some (.int .i64 m.compares)∧Vs.cell? ⟨rb,ro+k*9+8,none⟩=some (.int .i64 m.idle)) [7,8,9,11] true 12 rfl (by kernel_rfl) (by kernel_rfl) ⟨b0,i0,m0,m1,m2,m3,m4,m5,m6,m7,m8⟩ ?_
   repeat (first|(refine' Xr4.take (Eq.refl false) _ (fun wV aK=>?_) ?_;rotate_left;(try dsimp only at aK);go_simp;(try with_reducible rfl);try simp only [Ap])|refine Xr4.skip (Eq.refl true) ?_)
   refine Xr4.stop ?_
   simp only [List.nil_append,List.cons_append]
   have aC:=Lh (And.intro b0 (And.intro i0 (And.intro m0 (And.intro m1 (And.intro m2 (And.intro m3 (And.intro m4 (And.intro m5 (And.intro m6 (And.intro m7 (m8)))))))))))
   clear b0 i0 m0 m1 m2 m3 m4 m5 m6 m7 m8
   have eQ:Hid (∀ V,Below wr.heap.size wr V→Calls Tryz.prog 101 #[.agg #[.slice fa m.frames.length fc,.int .i64 m.req.kind,.int .i64 m.req.node,.int .i64 m.req.field,.int .i64 m.req.value,.int .i64 m.req.fault,.int .i64 m.fuel,.int .i64 m.compares,.int .i64 m.idle]] V (fun e w'=>∃ a cap,e=.returned (.agg #[.slice a m.frames.length cap,.int .i64 m.req.kind,.int .i64 m.req.node,.int .i64 m.req.field,.int .i64 m.req.value,.int .i64 m.req.fault,.int .i64 m.fuel,.int .i64 m.compares,.int .i64 m.idle])∧Below V.heap.size V w'∧∀ c:Clr,(∀ b,V.heap.size≤b→c b=0)→Xf w'.heap.size (mask w' c) 4 (Qp w'.heap.size) (.slice a m.frames.length cap) m.frames)):=Lh (fun V hV=>by
    have hY:=cD.out _ _ bD.out
    have dU:=(aQ.out _ _ _ bD.out (by first|exact Xvf|(show ¬(14:Nat)=5;decide))).size
    have hm:=OK.out.r m (Lm HX.out.1)
    exact X0n m (.slice fa m.frames.length fc) B V (Nt (Nt HB.out dU) hV.size) (iV.out.fras (hV.mono (Nt HB.out dU))) hm.1 hm.2)
   refine X5 (by kernel_rfl) ?_
   go_simp
   refine (eQ.out _ (Xh Br 1)).mono ?_
   rintro e u5 ⟨eA,eC,rfl,hb,hx⟩
   have aE:Hid (Below wr.heap.size wr u5):=Lh ((Xh Br 1).then hb)
   have fV:=Lh hx
   clear hb hx
   refine ⟨⟨Xc aE.out aC.out.1,Xc aE.out aC.out.2.1,Xc aE.out aC.out.2.2.1,Xc aE.out aC.out.2.2.2.1,Xc aE.out aC.out.2.2.2.2.1,Xc aE.out aC.out.2.2.2.2.2.1,Xc aE.out aC.out.2.2.2.2.2.2.1,Xc aE.out aC.out.2.2.2.2.2.2.2.1,Xc aE.out aC.out.2.2.2.2.2.2.2.2.1,Xc aE.out aC.out.2.2.2.2.2.2.2.2.2.1,Xc aE.out aC.out.2.2.2.2.2.2.2.2.2.2⟩,?_⟩
   refine X5 (by kernel_rfl) ?_
   go_simp
   refine ⟨⟨Xc (Xa _ _) (Xc aE.out aC.out.1),Xc (Xa _ _) (Xc aE.out aC.out.2.1),Xc (Xa _ _) (Xc aE.out aC.out.2.2.1),Xc (Xa _ _) (Xc aE.out aC.out.2.2.2.1),Xc (Xa _ _) (Xc aE.out aC.out.2.2.2.2.1),Xc (Xa _ _) (Xc aE.out aC.out.2.2.2.2.2.1),Xc (Xa _ _) (Xc aE.out aC.out.2.2.2.2.2.2.1),Xc (Xa _ _) (Xc aE.out aC.out.2.2.2.2.2.2.2.1),Xc (Xa _ _) (Xc aE.out aC.out.2.2.2.2.2.2.2.2.1),Xc (Xa _ _) (Xc aE.out aC.out.2.2.2.2.2.2.2.2.2.1),Xc (Xa _ _) (Xc aE.out aC.out.2.2.2.2.2.2.2.2.2.2)⟩,?_⟩
   have aH:Hid (Chg (fun t=>t=19) c c wr u5):=Lh (Chg.of_below aE.out (by omega))
   have dK:Hid (∀ b,u5.heap.size≤b→c b=0):=Lh (fun b hb=>bT.out.2.2.1 b (Nt aE.out.size hb))
   have eL:Hid (∀ b,(u5.alloc (.cells #[.slice eA m.frames.length eC,.int .i64 m.req.kind,.int .i64 m.req.node,.int .i64 m.req.field,.int .i64 m.req.value,.int .i64 m.req.fault,.int .i64 m.fuel,.int .i64 m.compares,.int .i64 m.idle] 51)).heap.size≤b→c b=0):=Lh (fun b hb=>dK.out b (by simp at hb;omega))
   have cY:Hid (Chg (fun t=>t=19) c c wr (u5.alloc (.cells #[.slice eA m.frames.length eC,.int .i64 m.req.kind,.int .i64 m.req.node,.int .i64 m.req.field,.int .i64 m.req.value,.int .i64 m.req.fault,.int .i64 m.fuel,.int .i64 m.compares,.int .i64 m.idle] 51))):=Lh (aH.out.trans (Chg.of_below (Xa _ _) (by omega)))
   refine X5 (by kernel_rfl) ?_
   refine Xsy (fun t=>t=4) (.tmp 24) (.tmp 31) 30 51 rfl Tryz.underlying30 Xu9 rfl (by decide) (by decide) (c:=c) (tag:=4) (v:=.slice iH k iM) (n:=k) (xs:=jC) rfl (fJ.out.keep cY.out (by omega)) ⟨u5.heap.size,0,none⟩ 1 1 [.slice eA m.frames.length eC,.int .i64 m.req.kind,.int .i64 m.req.node,.int .i64 m.req.field,.int .i64 m.req.value,.int .i64 m.req.fault,.int .i64 m.fuel,.int .i64 m.compares,.int .i64 m.idle] rfl rfl (fun j u hu=>(Xso u5 _ _ j).trans (by simpa using hu)) (by simp [Value.oneCell']) (by decide) (by have:=OK.out.rl;omega) rfl (by decide) eL.out (fun g5 dP v5 aZ aI hC aA cN=>?_)
   obtain ⟨aL,aD⟩:=eT.out u5 c v5 aZ (.slice eA m.frames.length eC) m (.slice (some ⟨g5,0,none⟩) (k+1) dP) aH.out dK.out (fV.out c (fun b hb=>bT.out.2.2.1 b hb)) iZ.out ((Chg.of_below (Xa _ _) (by omega)).trans hC) aA (by rw [show (tk5 s k k k k k).running.length=k from bC.out.1];exact aI)
   have e0:=hC.cell (Xc (Xa _ _) (Xc aE.out aC.out.1)) (by show ¬c _=_;rw [aH.out.old _ bT.out.2.1,(bT.out.1)];omega)
   have e1:=hC.cell (Xc (Xa _ _) (Xc aE.out aC.out.2.1)) (by show ¬c _=_;rw [aH.out.old _ (Bl aC.out.2.1),(cP.out _ _ bD.out)];omega)
   have e2:=hC.cell (Xc (Xa _ _) (Xc aE.out aC.out.2.2.1)) (by show ¬c _=_;rw [aH.out.old _ (Bl aC.out.2.2.1),(bB.out _ _ bD.out _ aO.out.1)];omega)
   have e3:=hC.cell (Xc (Xa _ _) (Xc aE.out aC.out.2.2.2.1)) (by show ¬c _=_;rw [aH.out.old _ (Bl aC.out.2.2.1),(bB.out _ _ bD.out _ aO.out.1)];omega)
   have e4:=hC.cell (Xc (Xa _ _) (Xc aE.out aC.out.2.2.2.2.1)) (by show ¬c _=_;rw [aH.out.old _ (Bl aC.out.2.2.1),(bB.out _ _ bD.out _ aO.out.1)];omega)
   have e5:=hC.cell (Xc (Xa _ _) (Xc aE.out aC.out.2.2.2.2.2.1)) (by show ¬c _=_;rw [aH.out.old _ (Bl aC.out.2.2.1),(bB.out _ _ bD.out _ aO.out.1)];omega)
   have e6:=hC.cell (Xc (Xa _ _) (Xc aE.out aC.out.2.2.2.2.2.2.1)) (by show ¬c _=_;rw [aH.out.old _ (Bl aC.out.2.2.1),(bB.out _ _ bD.out _ aO.out.1)];omega)
   have e7:=hC.cell (Xc (Xa _ _) (Xc aE.out aC.out.2.2.2.2.2.2.2.1)) (by show ¬c _=_;rw [aH.out.old _ (Bl aC.out.2.2.1),(bB.out _ _ bD.out _ aO.out.1)];omega)
   have e8:=hC.cell (Xc (Xa _ _) (Xc aE.out aC.out.2.2.2.2.2.2.2.2.1)) (by show ¬c _=_;rw [aH.out.old _ (Bl aC.out.2.2.1),(bB.out _ _ bD.out _ aO.out.1)];omega)
   have e9:=hC.cell (Xc (Xa _ _) (Xc aE.out aC.out.2.2.2.2.2.2.2.2.2.1)) (by show ¬c _=_;rw [aH.out.old _ (Bl aC.out.2.2.1),(bB.out _ _ bD.out _ aO.out.1)];omega)
   have hK:=hC.cell (Xc (Xa _ _) (Xc aE.out aC.out.2.2.2.2.2.2.2.2.2.2)) (by show ¬c _=_;rw [aH.out.old _ (Bl aC.out.2.2.1),(bB.out _ _ bD.out _ aO.out.1)];omega)
   have ef:v5.frozen? ⟨bo,3,none⟩=false:=hC.frozen (Nl bT.out.2.1 cY.out.size) (cY.out.frozen bT.out.2.1 (bT.out.2.2.2 3) (by show ¬c bo=_;rw [bT.out.1];omega)) (by show ¬c bo=_;rw [aH.out.old _ bT.out.2.1,bT.out.1];omega)
   refine ⟨.inl ⟨e0,e1,e2,e3,e4,e5,e6,e7,e8,e9,hK⟩,?_⟩
   clear e1 e2 e3 e4 e5 e6 e7 e8 e9 hK
   refine X5 (by kernel_rfl) ?_
   go_simp
   refine Xr3 ?_
   obtain ⟨W5,hQ⟩:∃ u,u=v5.setCell ⟨bo,3,none⟩ (.slice (some ⟨g5,0,none⟩) (k+1) dP):=⟨_,rfl⟩
   rw [←hQ] at aL aD ⊢
   have gX:Hid (V2 W5 aZ bo (tk5 s (k+1) k k k k)):=Lh (by
    have e:{ tk5 s k k k k k with running:=(tk5 s k k k k k).running++[m] }=tk5 s (k+1) k k k k:=by
     simp [tk5,List.take_add_one,HX.out.1]
    rw [←e];exact aL)
   have dD:Hid (Chg NZ (fun b=>if b<w.heap.size∨b=w.heap.size+1 then 14 else 0) aZ W W5):=Lh (bD.out.trans aD)
   clear aL aD aI hC aA cN hQ e0 ef
   have hP:=cD.out _ _ dD.out
   obtain ⟨iI,iN,jD,b0,aW,bG⟩:=gX.out.pushC
   rw [show (tk5 s (k+1) k k k k).calls.length=k from bC.out.2.1] at b0 aW
   have fK:=Lh aW
   have eU:=Lh bG
   have bU:=Lh gX.out.lab
   have i0:=dE.out _ _ dD.out 5 _ rfl
   clear aW bG
   have x0:=(Xbl hP aO.out.2.1 (o:=co+k)).trans gT.out.1
   clear hP
   have z0:=bU.out.2.1
   have z1:=Bl i0
   have z2:=Bl x0
   go_upto_region 6 with fail
   clear z0 z1 z2
   refine X6 (fun Vs=>Vs.cell? ⟨bo,5,none⟩=some (.slice iI k iN)∧Vs.cell? ⟨w.heap.size,5,none⟩=some (.slice (some ⟨cb,co,none⟩) s.calls.length cc)∧Vs.cell? ⟨cb,co+k,none⟩=some (.slice fY lc_.length fZ)) [7,8,9,11] true 12 rfl (by kernel_rfl) (by kernel_rfl) ⟨b0,i0,x0⟩ ?_
   repeat (first|(refine' Xr4.take (Eq.refl false) _ (fun wV aK=>?_) ?_;rotate_left;(try dsimp only at aK);go_simp;(try with_reducible rfl);try simp only [Ap])|refine Xr4.skip (Eq.refl true) ?_)
   refine Xr4.stop ?_
   simp only [List.nil_append,List.cons_append]
   have bR:=Lh (And.intro b0 (And.intro i0 (x0)))
   clear b0 i0 x0
   have eR:Hid (∀ V,Below W5.heap.size W5 V→Calls Tryz.prog 51 #[.slice fY lc_.length fZ] V (Xwd lc_ V)):=Lh (fun V hV=>by
    have hY:=cD.out _ _ dD.out
    have dU:=(aQ.out _ _ _ dD.out (by first|exact Xvf|(show ¬(14:Nat)=5;decide))).size
    have hm:=OK.out.c lc_ (Lm HX.out.2.1)
    exact Xwm lc_ (.slice fY lc_.length fZ) B V (Nt (Nt HB.out dU) hV.size) ((gT.out.2.cals hY).cals (hV.mono (Nt HB.out dU))) hm.1 hm.2)
   refine X5 (by kernel_rfl) ?_
   go_simp
   refine (eR.out _ (Xh Br 1)).mono ?_
   rintro e u6 ⟨eB,eD,rfl,hb,hx⟩
   have bQ:Hid (Below W5.heap.size W5 u6):=Lh ((Xh Br 1).then hb)
   have fW:=Lh hx
   clear hb hx
   refine ⟨⟨Xc bQ.out bR.out.1,Xc bQ.out bR.out.2.1,Xc bQ.out bR.out.2.2⟩,?_⟩
   refine X5 (by kernel_rfl) ?_
   go_simp
   refine ⟨⟨Xc (Xa _ _) (Xc bQ.out bR.out.1),Xc (Xa _ _) (Xc bQ.out bR.out.2.1),Xc (Xa _ _) (Xc bQ.out bR.out.2.2)⟩,?_⟩
   have bH:Hid (Chg (fun t=>t=19) aZ aZ W5 u6):=Lh (Chg.of_below bQ.out (by omega))
   have dL:Hid (∀ b,u6.heap.size≤b→aZ b=0):=Lh (fun b hb=>bU.out.2.2.1 b (Nt bQ.out.size hb))
   have eM:Hid (∀ b,(u6.alloc (.cells #[.slice eB lc_.length eD] 54)).heap.size≤b→aZ b=0):=Lh (fun b hb=>dL.out b (by simp at hb;omega))
   have cZ:Hid (Chg (fun t=>t=19) aZ aZ W5 (u6.alloc (.cells #[.slice eB lc_.length eD] 54))):=Lh (bH.out.trans (Chg.of_below (Xa _ _) (by omega)))
   refine X5 (by kernel_rfl) ?_
   refine Xsy (fun t=>t=6) (.tmp 35) (.tmp 42) 29 54 rfl Tryz.underlying29 Xw9 rfl (by decide) (by decide) (c:=aZ) (tag:=6) (v:=.slice iI k iN) (n:=k) (xs:=jD) rfl (fK.out.keep cZ.out (by omega)) ⟨u6.heap.size,0,none⟩ 1 1 [.slice eB lc_.length eD] rfl rfl (fun j u hu=>(Xso u6 _ _ j).trans (by simpa using hu)) (by simp [Value.oneCell']) (by decide) (by have:=OK.out.rl;omega) rfl (by decide) eM.out (fun g6 dQ v6 bL aI hC aA cN=>?_)
   obtain ⟨aL,aD⟩:=eU.out u6 aZ v6 bL (.slice eB lc_.length eD) lc_ (.slice (some ⟨g6,0,none⟩) (k+1) dQ) bH.out dL.out (fW.out aZ (fun b hb=>bU.out.2.2.1 b hb)) ((Chg.of_below (Xa _ _) (by omega)).trans hC) aA (by rw [show (tk5 s (k+1) k k k k).calls.length=k from bC.out.2.1];exact aI)
   have e0:=hC.cell (Xc (Xa _ _) (Xc bQ.out bR.out.1)) (by show ¬aZ _=_;rw [bH.out.old _ bU.out.2.1,(bU.out.1)];omega)
   have e1:=hC.cell (Xc (Xa _ _) (Xc bQ.out bR.out.2.1)) (by show ¬aZ _=_;rw [bH.out.old _ (Bl bR.out.2.1),(cP.out _ _ dD.out)];omega)
   have e2:=hC.cell (Xc (Xa _ _) (Xc bQ.out bR.out.2.2)) (by show ¬aZ _=_;rw [bH.out.old _ (Bl bR.out.2.2),(bB.out _ _ dD.out _ aO.out.2.1)];omega)
   have ef:v6.frozen? ⟨bo,5,none⟩=false:=hC.frozen (Nl bU.out.2.1 cZ.out.size) (cZ.out.frozen bU.out.2.1 (bU.out.2.2.2 5) (by show ¬aZ bo=_;rw [bU.out.1];omega)) (by show ¬aZ bo=_;rw [bH.out.old _ bU.out.2.1,bU.out.1];omega)
   refine ⟨.inl ⟨e0,e1,e2⟩,?_⟩
   clear e1 e2
   refine X5 (by kernel_rfl) ?_
   go_simp
   refine Xr3 ?_
   obtain ⟨W6,hR⟩:∃ u,u=v6.setCell ⟨bo,5,none⟩ (.slice (some ⟨g6,0,none⟩) (k+1) dQ):=⟨_,rfl⟩
   rw [←hR] at aL aD ⊢
   have gY:Hid (V2 W6 bL bo (tk5 s (k+1) (k+1) k k k)):=Lh (by
    have e:{ tk5 s (k+1) k k k k with calls:=(tk5 s (k+1) k k k k).calls++[lc_] }=tk5 s (k+1) (k+1) k k k:=by
     simp [tk5,List.take_add_one,HX.out.2.1]
    rw [←e];exact aL)
   have cE:Hid (Chg NZ (fun b=>if b<w.heap.size∨b=w.heap.size+1 then 14 else 0) bL W W6):=Lh (dD.out.trans aD)
   clear aL aD aI hC aA cN hR e0 ef
   have hP:=cD.out _ _ cE.out
   obtain ⟨iJ,iO,jE,b0,aW,bG⟩:=gY.out.pushO
   rw [show (tk5 s (k+1) (k+1) k k k).results.length=k from bC.out.2.2.1] at b0 aW
   have fL:=Lh aW
   have eV:=Lh bG
   have bV:=Lh gY.out.lab
   have i0:=dE.out _ _ cE.out 6 _ rfl
   clear aW bG
   have x0:=(Xbl hP aO.out.2.2.1 (o:=oo+k)).trans gV.out.1
   clear hP
   have z0:=bV.out.2.1
   have z1:=Bl i0
   have z2:=Bl x0
   go_upto_region 7 with fail
   clear z0 z1 z2
   refine X6 (fun Vs=>Vs.cell? ⟨bo,6,none⟩=some (.slice iJ k iO)∧Vs.cell? ⟨w.heap.size,6,none⟩=some (.slice (some ⟨ob,oo,none⟩) s.results.length oc)∧Vs.cell? ⟨ob,oo+k,none⟩=some (.slice iR lo_.length iS)) [2,8,9,10,12] true 13 rfl (by kernel_rfl) (by kernel_rfl) ⟨b0,i0,x0⟩ ?_
   repeat (first|(refine' Xr4.take (Eq.refl false) _ (fun wV aK=>?_) ?_;rotate_left;(try dsimp only at aK);go_simp;(try with_reducible rfl);try simp only [Ap])|refine Xr4.skip (Eq.refl true) ?_)
   refine Xr4.stop ?_
   simp only [List.nil_append,List.cons_append]
   have cQ:=Lh (And.intro b0 (And.intro i0 (x0)))
   clear b0 i0 x0
   refine X5 (by kernel_rfl) ?_
   go_simp
   refine ⟨⟨Xc (Xa _ _) cQ.out.1,Xc (Xa _ _) cQ.out.2.1,Xc (Xa _ _) cQ.out.2.2⟩,?_⟩
   obtain ⟨q7,hq⟩:∃ u,u=(W6.alloc (.cells #[] 84)).drew:=⟨_,rfl⟩
   rw [←hq]
   obtain ⟨hC,hE,aA⟩:=Xuo (c:=bL) (tag:=11+5*k) (.inr hq)
   obtain ⟨hG,cB⟩:∃ u:Clr,u=(fun x=>if x=W6.heap.size then 11+5*k else bL x):=⟨_,rfl⟩
   rw [←cB] at hC aA
   have aB:hG W6.heap.size=11+5*k:=by rw [cB];exact if_pos rfl
   have dG:=Lh (And.intro hE aB)
   have fD:=Lh hC
   have fG:=Lh (aA bV.out.2.2.1)
   have cW:Below W6.heap.size W6 q7:=by rw [hq];exact Xsh _ _
   have cX:=(cD.out _ _ cE.out).trans (cW.mono (Nt HB.out (aQ.out _ _ _ cE.out (by first|exact Xvf|(show ¬(14:Nat)=5;decide))).size))
   have fA:=Lh (gV.out.2.outs cX)
   clear hC hE aA cB aB hq cW cX
   refine X5 (by kernel_rfl) ?_
   refine X3b (11+5*k) (.tmp 47) (.tmp 52) rfl (c:=hG) W6.heap.size dG.out.1 rfl iR lo_.length iS lo_ B rfl fA.out (OK.out.o lo_ (Lm HX.out.2.2.1)) dG.out.2 (by omega) fG.out (fun eH eE u7 bY hI hC aA=>?_)
   have fS:=Lh hI
   have cI:Hid (Chg (fun t=>t=11+5*k) bL bY W6 u7):=Lh ((fD.out.mono (fun t h=>h.elim) (by omega)).trans hC)
   have fP:=Lh aA
   clear hI hC aA
   have e0:=cI.out.cell cQ.out.1 (by show ¬bL _=_;rw [(bV.out.1)];omega)
   have e1:=cI.out.cell cQ.out.2.1 (by show ¬bL _=_;rw [(cP.out _ _ cE.out)];omega)
   have e2:=cI.out.cell cQ.out.2.2 (by show ¬bL _=_;rw [(bB.out _ _ cE.out _ aO.out.2.2.1)];omega)
   have aR:=Lh (And.intro e0 (And.intro e1 (e2)))
   clear e0 e1 e2
   refine ⟨.inl ⟨aR.out.1,aR.out.2.1,aR.out.2.2⟩,?_⟩
   refine X5 (by kernel_rfl) ?_
   go_simp
   refine ⟨⟨Xc (Xa _ _) (aR.out.1),Xc (Xa _ _) (aR.out.2.1),Xc (Xa _ _) (aR.out.2.2)⟩,?_⟩
   have bI:Hid (Chg (fun t=>t=11+5*k) bL bY W6 u7):=Lh cI.out
   have dM:Hid (∀ b,u7.heap.size≤b→bY b=0):=Lh fP.out
   have eN:Hid (∀ b,(u7.alloc (.cells #[.slice (some ⟨eH,0,none⟩) lo_.length eE] 78)).heap.size≤b→bY b=0):=Lh (fun b hb=>dM.out b (by simp at hb;omega))
   have dA:Hid (Chg (fun t=>t=11+5*k) bL bY W6 (u7.alloc (.cells #[.slice (some ⟨eH,0,none⟩) lo_.length eE] 78))):=Lh (bI.out.trans (Chg.of_below (Xa _ _) (by omega)))
   refine X5 (by kernel_rfl) ?_
   refine Xsy (fun t=>t=7) (.tmp 46) (.tmp 54) 31 78 rfl Tryz.underlying31 Xxj rfl (by decide) (by decide) (c:=bY) (tag:=7) (v:=.slice iJ k iO) (n:=k) (xs:=jE) rfl (fL.out.keep dA.out (by omega)) ⟨u7.heap.size,0,none⟩ 1 1 [.slice (some ⟨eH,0,none⟩) lo_.length eE] rfl rfl (fun j u hu=>(Xso u7 _ _ j).trans (by simpa using hu)) (by simp [Value.oneCell']) (by decide) (by have:=OK.out.rl;omega) rfl (by decide) eN.out (fun g7 dR v7 bM aI hC aA cN=>?_)
   obtain ⟨aL,aD⟩:=eV.out u7 bY v7 bM (.slice (some ⟨eH,0,none⟩) lo_.length eE) lo_ (.slice (some ⟨g7,0,none⟩) (k+1) dR) (by rw [show (tk5 s (k+1) (k+1) k k k).results.length=k from bC.out.2.2.1];exact bI.out) dM.out (by rw [show (tk5 s (k+1) (k+1) k k k).results.length=k from bC.out.2.2.1];exact fS.out) ((Chg.of_below (Xa _ _) (by omega)).trans hC) aA (by rw [show (tk5 s (k+1) (k+1) k k k).results.length=k from bC.out.2.2.1];exact aI)
   have e0:=hC.cell (Xc (Xa _ _) (aR.out.1)) (by show ¬bY _=_;rw [bI.out.old _ bV.out.2.1,(bV.out.1)];omega)
   have e1:=hC.cell (Xc (Xa _ _) (aR.out.2.1)) (by show ¬bY _=_;rw [bI.out.old _ (Bl cQ.out.2.1),(cP.out _ _ cE.out)];omega)
   have e2:=hC.cell (Xc (Xa _ _) (aR.out.2.2)) (by show ¬bY _=_;rw [bI.out.old _ (Bl cQ.out.2.2),(bB.out _ _ cE.out _ aO.out.2.2.1)];omega)
   have ef:v7.frozen? ⟨bo,6,none⟩=false:=hC.frozen (Nl bV.out.2.1 dA.out.size) (dA.out.frozen bV.out.2.1 (bV.out.2.2.2 6) (by show ¬bL bo=_;rw [bV.out.1];omega)) (by show ¬bY bo=_;rw [bI.out.old _ bV.out.2.1,bV.out.1];omega)
   refine ⟨.inl ⟨e0,e1,e2⟩,?_⟩
   clear e1 e2
   refine X5 (by kernel_rfl) ?_
   go_simp
   refine Xr3 ?_
   obtain ⟨W7,hS⟩:∃ u,u=v7.setCell ⟨bo,6,none⟩ (.slice (some ⟨g7,0,none⟩) (k+1) dR):=⟨_,rfl⟩
   rw [←hS] at aL aD ⊢
   have gZ:Hid (V2 W7 bM bo (tk5 s (k+1) (k+1) (k+1) k k)):=Lh (by
    have e:{ tk5 s (k+1) (k+1) k k k with results:=(tk5 s (k+1) (k+1) k k k).results++[lo_] }=tk5 s (k+1) (k+1) (k+1) k k:=by
     simp [tk5,List.take_add_one,HX.out.2.2.1]
    rw [←e];exact aL)
   have cF:Hid (Chg NZ (fun b=>if b<w.heap.size∨b=w.heap.size+1 then 14 else 0) bM W W7):=Lh (cE.out.trans aD)
   clear aL aD aI hC aA cN hS e0 ef
   have hP:=cD.out _ _ cF.out
   obtain ⟨iK,iP,jF,b0,aW,bG⟩:=gZ.out.pushB
   rw [show (tk5 s (k+1) (k+1) (k+1) k k).begins.length=k from bC.out.2.2.2.1] at b0 aW
   have fM:=Lh aW
   have eW:=Lh bG
   have bW:=Lh gZ.out.lab
   have i0:=dE.out _ _ cF.out 7 _ rfl
   clear aW bG
   have x0:=(Xbl hP aO.out.2.2.2.1 (o:=bo_+k)).trans gS.out.1
   clear hP
   have z0:=bW.out.2.1
   have z1:=Bl i0
   have z2:=Bl x0
   go_upto_region 8 with fail
   clear z0 z1 z2
   refine X6 (fun Vs=>Vs.cell? ⟨bo,7,none⟩=some (.slice iK k iP)∧Vs.cell? ⟨w.heap.size,7,none⟩=some (.slice (some ⟨bb,bo_,none⟩) s.begins.length bc)∧Vs.cell? ⟨bb,bo_+k,none⟩=some (.slice hD lb_.length hF)) [2,8,9,10,12] true 13 rfl (by kernel_rfl) (by kernel_rfl) ⟨b0,i0,x0⟩ ?_
   repeat (first|(refine' Xr4.take (Eq.refl false) _ (fun wV aK=>?_) ?_;rotate_left;(try dsimp only at aK);go_simp;(try with_reducible rfl);try simp only [Ap])|refine Xr4.skip (Eq.refl true) ?_)
   refine Xr4.stop ?_
   simp only [List.nil_append,List.cons_append]
   have cR:=Lh (And.intro b0 (And.intro i0 (x0)))
   clear b0 i0 x0
   refine X5 (by kernel_rfl) ?_
   go_simp
   refine ⟨⟨Xc (Xa _ _) cR.out.1,Xc (Xa _ _) cR.out.2.1,Xc (Xa _ _) cR.out.2.2⟩,?_⟩
   obtain ⟨q8,hq⟩:∃ u,u=(W7.alloc (.cells #[] 3)).drew:=⟨_,rfl⟩
   rw [←hq]
   obtain ⟨hC,hE,aA⟩:=Xuo (c:=bM) (tag:=12+5*k) (.inr hq)
   obtain ⟨hH,cB⟩:∃ u:Clr,u=(fun x=>if x=W7.heap.size then 12+5*k else bM x):=⟨_,rfl⟩
   rw [←cB] at hC aA
   have aB:hH W7.heap.size=12+5*k:=by rw [cB];exact if_pos rfl
   have dH:=Lh (And.intro hE aB)
   have fE:=Lh hC
   have fH:=Lh (aA bW.out.2.2.1)
   have cW:Below W7.heap.size W7 q8:=by rw [hq];exact Xsh _ _
   have cX:=(cD.out _ _ cF.out).trans (cW.mono (Nt HB.out (aQ.out _ _ _ cF.out (by first|exact Xvf|(show ¬(14:Nat)=5;decide))).size))
   have fB:=Lh (gS.out.2.ints cX)
   clear hC hE aA cB aB hq cW cX
   refine X5 (by kernel_rfl) ?_
   refine Xtj (12+5*k) (.tmp 59) (.tmp 64) rfl (c:=hH) W7.heap.size dH.out.1 rfl hD lb_.length hF lb_ B rfl fB.out (OK.out.b lb_ (Lm HX.out.2.2.2.1)) dH.out.2 (by omega) fH.out (fun eI eF u8 bZ hI hC aA=>?_)
   have fT:=Lh hI
   have cJ:Hid (Chg (fun t=>t=12+5*k) bM bZ W7 u8):=Lh ((fE.out.mono (fun t h=>h.elim) (by omega)).trans hC)
   have fQ:=Lh aA
   clear hI hC aA
   have e0:=cJ.out.cell cR.out.1 (by show ¬bM _=_;rw [(bW.out.1)];omega)
   have e1:=cJ.out.cell cR.out.2.1 (by show ¬bM _=_;rw [(cP.out _ _ cF.out)];omega)
   have e2:=cJ.out.cell cR.out.2.2 (by show ¬bM _=_;rw [(bB.out _ _ cF.out _ aO.out.2.2.2.1)];omega)
   have aS:=Lh (And.intro e0 (And.intro e1 (e2)))
   clear e0 e1 e2
   refine ⟨.inl ⟨aS.out.1,aS.out.2.1,aS.out.2.2⟩,?_⟩
   refine X5 (by kernel_rfl) ?_
   go_simp
   refine ⟨⟨Xc (Xa _ _) (aS.out.1),Xc (Xa _ _) (aS.out.2.1),Xc (Xa _ _) (aS.out.2.2)⟩,?_⟩
   have bJ:Hid (Chg (fun t=>t=12+5*k) bM bZ W7 u8):=Lh cJ.out
   have dN:Hid (∀ b,u8.heap.size≤b→bZ b=0):=Lh fQ.out
   have eO:Hid (∀ b,(u8.alloc (.cells #[.slice (some ⟨eI,0,none⟩) lb_.length eF] 22)).heap.size≤b→bZ b=0):=Lh (fun b hb=>dN.out b (by simp at hb;omega))
   have dB:Hid (Chg (fun t=>t=12+5*k) bM bZ W7 (u8.alloc (.cells #[.slice (some ⟨eI,0,none⟩) lb_.length eF] 22))):=Lh (bJ.out.trans (Chg.of_below (Xa _ _) (by omega)))
   refine X5 (by kernel_rfl) ?_
   refine Xsy (fun t=>t=8) (.tmp 58) (.tmp 66) 32 22 rfl Tryz.underlying32 Xun rfl (by decide) (by decide) (c:=bZ) (tag:=8) (v:=.slice iK k iP) (n:=k) (xs:=jF) rfl (fM.out.keep dB.out (by omega)) ⟨u8.heap.size,0,none⟩ 1 1 [.slice (some ⟨eI,0,none⟩) lb_.length eF] rfl rfl (fun j u hu=>(Xso u8 _ _ j).trans (by simpa using hu)) (by simp [Value.oneCell']) (by decide) (by have:=OK.out.rl;omega) rfl (by decide) eO.out (fun g8 dS v8 bN aI hC aA cN=>?_)
   obtain ⟨aL,aD⟩:=eW.out u8 bZ v8 bN (.slice (some ⟨eI,0,none⟩) lb_.length eF) lb_ (.slice (some ⟨g8,0,none⟩) (k+1) dS) (by rw [show (tk5 s (k+1) (k+1) (k+1) k k).begins.length=k from bC.out.2.2.2.1];exact bJ.out) dN.out (by rw [show (tk5 s (k+1) (k+1) (k+1) k k).begins.length=k from bC.out.2.2.2.1];exact fT.out) ((Chg.of_below (Xa _ _) (by omega)).trans hC) aA (by rw [show (tk5 s (k+1) (k+1) (k+1) k k).begins.length=k from bC.out.2.2.2.1];exact aI)
   have e0:=hC.cell (Xc (Xa _ _) (aS.out.1)) (by show ¬bZ _=_;rw [bJ.out.old _ bW.out.2.1,(bW.out.1)];omega)
   have e1:=hC.cell (Xc (Xa _ _) (aS.out.2.1)) (by show ¬bZ _=_;rw [bJ.out.old _ (Bl cR.out.2.1),(cP.out _ _ cF.out)];omega)
   have e2:=hC.cell (Xc (Xa _ _) (aS.out.2.2)) (by show ¬bZ _=_;rw [bJ.out.old _ (Bl cR.out.2.2),(bB.out _ _ cF.out _ aO.out.2.2.2.1)];omega)
   have ef:v8.frozen? ⟨bo,7,none⟩=false:=hC.frozen (Nl bW.out.2.1 dB.out.size) (dB.out.frozen bW.out.2.1 (bW.out.2.2.2 7) (by show ¬bM bo=_;rw [bW.out.1];omega)) (by show ¬bZ bo=_;rw [bJ.out.old _ bW.out.2.1,bW.out.1];omega)
   refine ⟨.inl ⟨e0,e1,e2⟩,?_⟩
   clear e1 e2
   refine X5 (by kernel_rfl) ?_
   go_simp
   refine Xr3 ?_
   obtain ⟨W8,hT⟩:∃ u,u=v8.setCell ⟨bo,7,none⟩ (.slice (some ⟨g8,0,none⟩) (k+1) dS):=⟨_,rfl⟩
   rw [←hT] at aL aD ⊢
   have hA:Hid (V2 W8 bN bo (tk5 s (k+1) (k+1) (k+1) (k+1) k)):=Lh (by
    have e:{ tk5 s (k+1) (k+1) (k+1) k k with begins:=(tk5 s (k+1) (k+1) (k+1) k k).begins++[lb_] }=tk5 s (k+1) (k+1) (k+1) (k+1) k:=by
     simp [tk5,List.take_add_one,HX.out.2.2.2.1]
    rw [←e];exact aL)
   have cG:Hid (Chg NZ (fun b=>if b<w.heap.size∨b=w.heap.size+1 then 14 else 0) bN W W8):=Lh (cF.out.trans aD)
   clear aL aD aI hC aA cN hT e0 ef
   have hP:=cD.out _ _ cG.out
   obtain ⟨iL,iQ,jG,b0,aW,bG⟩:=hA.out.pushE
   rw [show (tk5 s (k+1) (k+1) (k+1) (k+1) k).ends.length=k from bC.out.2.2.2.2] at b0 aW
   have fN:=Lh aW
   have eX:=Lh bG
   have bX:=Lh hA.out.lab
   have i0:=dE.out _ _ cG.out 8 _ rfl
   clear aW bG
   have x0:=(Xbl hP aO.out.2.2.2.2 (o:=eo+k)).trans gU.out.1
   clear hP
   have z0:=bX.out.2.1
   have z1:=Bl i0
   have z2:=Bl x0
   go_upto_region 9 with fail
   clear z0 z1 z2
   refine X6 (fun Vs=>Vs.cell? ⟨bo,8,none⟩=some (.slice iL k iQ)∧Vs.cell? ⟨w.heap.size,8,none⟩=some (.slice (some ⟨eb,eo,none⟩) s.ends.length ec)∧Vs.cell? ⟨eb,eo+k,none⟩=some (.slice hL le_.length hN)) [2,8,9,10,12] true 13 rfl (by kernel_rfl) (by kernel_rfl) ⟨b0,i0,x0⟩ ?_
   repeat (first|(refine' Xr4.take (Eq.refl false) _ (fun wV aK=>?_) ?_;rotate_left;(try dsimp only at aK);go_simp;(try with_reducible rfl);try simp only [Ap])|refine Xr4.skip (Eq.refl true) ?_)
   refine Xr4.stop ?_
   simp only [List.nil_append,List.cons_append]
   have cS:=Lh (And.intro b0 (And.intro i0 (x0)))
   clear b0 i0 x0
   refine X5 (by kernel_rfl) ?_
   go_simp
   refine ⟨⟨Xc (Xa _ _) cS.out.1,Xc (Xa _ _) cS.out.2.1,Xc (Xa _ _) cS.out.2.2⟩,?_⟩
   obtain ⟨q9,hq⟩:∃ u,u=(W8.alloc (.cells #[] 3)).drew:=⟨_,rfl⟩
   rw [←hq]
   obtain ⟨hC,hE,aA⟩:=Xuo (c:=bN) (tag:=13+5*k) (.inr hq)
   obtain ⟨hJ,cB⟩:∃ u:Clr,u=(fun x=>if x=W8.heap.size then 13+5*k else bN x):=⟨_,rfl⟩
   rw [←cB] at hC aA
   have aB:hJ W8.heap.size=13+5*k:=by rw [cB];exact if_pos rfl
   have dI:=Lh (And.intro hE aB)
   have fF:=Lh hC
   have fI:=Lh (aA bX.out.2.2.1)
   have cW:Below W8.heap.size W8 q9:=by rw [hq];exact Xsh _ _
   have cX:=(cD.out _ _ cG.out).trans (cW.mono (Nt HB.out (aQ.out _ _ _ cG.out (by first|exact Xvf|(show ¬(14:Nat)=5;decide))).size))
   have fC:=Lh (gU.out.2.ints cX)
   clear hC hE aA cB aB hq cW cX
   refine X5 (by kernel_rfl) ?_
   refine Xtj (13+5*k) (.tmp 71) (.tmp 76) rfl (c:=hJ) W8.heap.size dI.out.1 rfl hL le_.length hN le_ B rfl fC.out (OK.out.e le_ (Lm HX.out.2.2.2.2)) dI.out.2 (by omega) fI.out (fun eJ eG u9 cA hI hC aA=>?_)
   have fU:=Lh hI
   have cK:Hid (Chg (fun t=>t=13+5*k) bN cA W8 u9):=Lh ((fF.out.mono (fun t h=>h.elim) (by omega)).trans hC)
   have fR:=Lh aA
   clear hI hC aA
   have e0:=cK.out.cell cS.out.1 (by show ¬bN _=_;rw [(bX.out.1)];omega)
   have e1:=cK.out.cell cS.out.2.1 (by show ¬bN _=_;rw [(cP.out _ _ cG.out)];omega)
   have e2:=cK.out.cell cS.out.2.2 (by show ¬bN _=_;rw [(bB.out _ _ cG.out _ aO.out.2.2.2.2)];omega)
   have aT:=Lh (And.intro e0 (And.intro e1 (e2)))
   clear e0 e1 e2
   refine ⟨.inl ⟨aT.out.1,aT.out.2.1,aT.out.2.2⟩,?_⟩
   refine X5 (by kernel_rfl) ?_
   go_simp
   refine ⟨⟨Xc (Xa _ _) (aT.out.1),Xc (Xa _ _) (aT.out.2.1),Xc (Xa _ _) (aT.out.2.2)⟩,?_⟩
   have bK:Hid (Chg (fun t=>t=13+5*k) bN cA W8 u9):=Lh cK.out
   have dO:Hid (∀ b,u9.heap.size≤b→cA b=0):=Lh fR.out
   have eP:Hid (∀ b,(u9.alloc (.cells #[.slice (some ⟨eJ,0,none⟩) le_.length eG] 22)).heap.size≤b→cA b=0):=Lh (fun b hb=>dO.out b (by simp at hb;omega))
   have dC:Hid (Chg (fun t=>t=13+5*k) bN cA W8 (u9.alloc (.cells #[.slice (some ⟨eJ,0,none⟩) le_.length eG] 22))):=Lh (bK.out.trans (Chg.of_below (Xa _ _) (by omega)))
   refine X5 (by kernel_rfl) ?_
   refine Xsy (fun t=>t=9) (.tmp 70) (.tmp 78) 32 22 rfl Tryz.underlying32 Xun rfl (by decide) (by decide) (c:=cA) (tag:=9) (v:=.slice iL k iQ) (n:=k) (xs:=jG) rfl (fN.out.keep dC.out (by omega)) ⟨u9.heap.size,0,none⟩ 1 1 [.slice (some ⟨eJ,0,none⟩) le_.length eG] rfl rfl (fun j u hu=>(Xso u9 _ _ j).trans (by simpa using hu)) (by simp [Value.oneCell']) (by decide) (by have:=OK.out.rl;omega) rfl (by decide) eP.out (fun g9 dT v9 gA aI hC aA cN=>?_)
   obtain ⟨aL,aD⟩:=eX.out u9 cA v9 gA (.slice (some ⟨eJ,0,none⟩) le_.length eG) le_ (.slice (some ⟨g9,0,none⟩) (k+1) dT) (by rw [show (tk5 s (k+1) (k+1) (k+1) (k+1) k).ends.length=k from bC.out.2.2.2.2];exact bK.out) dO.out (by rw [show (tk5 s (k+1) (k+1) (k+1) (k+1) k).ends.length=k from bC.out.2.2.2.2];exact fU.out) ((Chg.of_below (Xa _ _) (by omega)).trans hC) aA (by rw [show (tk5 s (k+1) (k+1) (k+1) (k+1) k).ends.length=k from bC.out.2.2.2.2];exact aI)
   have e0:=hC.cell (Xc (Xa _ _) (aT.out.1)) (by show ¬cA _=_;rw [bK.out.old _ bX.out.2.1,(bX.out.1)];omega)
   have e1:=hC.cell (Xc (Xa _ _) (aT.out.2.1)) (by show ¬cA _=_;rw [bK.out.old _ (Bl cS.out.2.1),(cP.out _ _ cG.out)];omega)
   have e2:=hC.cell (Xc (Xa _ _) (aT.out.2.2)) (by show ¬cA _=_;rw [bK.out.old _ (Bl cS.out.2.2),(bB.out _ _ cG.out _ aO.out.2.2.2.2)];omega)
   have ef:v9.frozen? ⟨bo,8,none⟩=false:=hC.frozen (Nl bX.out.2.1 dC.out.size) (dC.out.frozen bX.out.2.1 (bX.out.2.2.2 8) (by show ¬bN bo=_;rw [bX.out.1];omega)) (by show ¬cA bo=_;rw [bK.out.old _ bX.out.2.1,bX.out.1];omega)
   refine ⟨.inl ⟨e0,e1,e2⟩,?_⟩
   clear e1 e2
   refine X5 (by kernel_rfl) ?_
   go_simp
   refine Xr3 ?_
   obtain ⟨W9,hU⟩:∃ u,u=v9.setCell ⟨bo,8,none⟩ (.slice (some ⟨g9,0,none⟩) (k+1) dT):=⟨_,rfl⟩
   rw [←hU] at aL aD ⊢
   have fO:Hid (V2 W9 gA bo (tk5 s (k+1) (k+1) (k+1) (k+1) (k+1))):=Lh (by
    have e:{ tk5 s (k+1) (k+1) (k+1) (k+1) k with ends:=(tk5 s (k+1) (k+1) (k+1) (k+1) k).ends++[le_] }=tk5 s (k+1) (k+1) (k+1) (k+1) (k+1):=by
     simp [tk5,List.take_add_one,HX.out.2.2.2.2]
    rw [←e];exact aL)
   have eY:Hid (Chg NZ (fun b=>if b<w.heap.size∨b=w.heap.size+1 then 14 else 0) gA W W9):=Lh (cG.out.trans aD)
   clear aL aD aI hC aA cN hU e0 ef
   have jP:=OK.out.rl
   go_wp2_with fail
   go_roundw
   case rel=>exact ⟨k+1,by omega,by go_num,Lh ⟨_,⟨fO.out,eY.out⟩⟩⟩
   case measure=>simp [intOf];omega
  ·obtain rfl:k=s.running.length:=by omega
   obtain ⟨a0,a1,a2,a3,a4,a5,a6,a7,a8,a9,d0,d1,d2,d3,d4,d5,hZ,gQ,cV⟩:=HS.out.post (w:=w) (br:=w.heap.size+1) OK.out rfl dY.out (by omega) B1.out
   obtain ⟨⟨x0,x1,x2,x3,x4,x5,x6,x7,x8,x9⟩,-,xz⟩:=ten hZ
   obtain ⟨⟨y0,y1,y2,y3,y4,y5,y6,y7,y8,y9⟩,⟨z0,z1,z2,z3,z4,z5,z6,z7,z8,z9⟩,zz⟩:=ten gQ
   have iW:=Lh cV
   have iY:=Lh gQ
   clear cV hZ gQ
   go_wp2_with fail
   exact bodyPost_ret (Xyk (p:=2) rfl (V4 iY.out _ _ _ _ _ _ _ _ _ _) _ rfl) rfl iW.out
