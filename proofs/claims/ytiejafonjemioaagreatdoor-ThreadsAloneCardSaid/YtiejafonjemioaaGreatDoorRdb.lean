import Derived.Test.YtiejafonjemioaaGreatDoorAsk
import Derived.Test.YtiejafonjemioaaGreatDoorPly
import Derived.RegionTactic
import Derived.Outline
set_option maxHeartbeats 2000000
set_option maxRecDepth 1000000
set_option linter.unusedVariables false
set_option linter.unusedSimpArgs false
namespace Go.Proofs.YtiejafonjemioaaGreatDoor
open Go.RowKit
variable {w w' W:World} {m:Mm} {gv nv v lv:Value} {c:Cod} {B A R:Nat} {b a fuel er:Int} {o:Ks} {l:List Acc} {x:Cal}
theorem Zj.rd :∀ {xs:List Nod} {cells:List Value} {F:List Nat} {i:Nat} {x:Nod},Zj w cells xs F→xs[i]?=some x→∃ lv Fl,cells[i*2]?=some (.int .i64 x.type)∧cells[i*2+1]?=some lv∧Yv w lv x.f Fl∧in64 x.type
 | [],_,_,_,_,_,hx=>by simp at hx
 | g::xs,cells,F,0,x,h,hx=>by
  obtain ⟨lv,cs,Fl,Fr,rfl,h2,h3,h4,rfl⟩:=h
  simp at hx
  subst hx
  exact ⟨lv,Fl,rfl,rfl,h2,h3⟩
 | g::xs,cells,F,i+1,x,h,hx=>by
  obtain ⟨lv,cs,Fl,Fr,rfl,h2,h3,h4,rfl⟩:=h
  obtain ⟨lv',aA,k1,k2,k3⟩:=h4.rd (by simpa using hx)
  refine ⟨lv',aA,?_,?_,k3⟩
  ·rw [show (i+1)*2=i*2+1+1 by omega];simpa using k1
  ·rw [show (i+1)*2+1=(i*2+1)+1+1 by omega];simpa using k2
theorem Qs.reads {bo:Nat} {cells:List Value} {Fg Fn:List Nat} (h:Qs w bo m gv nv cells Fg Fn) (hg:m.globals.length≤140737488355328) (hn:m.nodes.length≤140737488355328) (hf:∀ x∈m.nodes,x.f.length≤140737488355328):MmV w.heap.size w (.agg #[gv,nv]) m:=by
 refine ⟨gv,nv,rfl,h.glob.reads hg,?_⟩
 have hc:=h.nodes.len
 rcases h.row.2 with ⟨rfl,h0⟩|⟨g,cap,aC,rfl,_,hg,aA,aB,_⟩
 ·have h3:m.nodes=[]:=List.eq_nil_of_length_eq_zero h0
  rw [h3]
  exact ⟨none,0,rfl,by simp,by simp,by omega,.inl rfl⟩
 ·refine ⟨some ⟨g,0,none⟩,cap,rfl,hn,aA,by unfold maxLen at aB;omega,.inr ⟨g,0,rfl,(La hg),fun i x hx=>?_⟩⟩
  obtain ⟨lv,Fl,k1,k2,k3,k4⟩:=h.nodes.rd hx
  have hi:=(Ll hx)
  rw [Nat.zero_add]
  refine ⟨?_,⟨lv,?_,k3.reads (hf x (Lm hx))⟩,k4⟩
  ·rw [h.row.cellAt _ (by omega)];exact k1
  ·rw [h.row.cellAt _ (by omega)];exact k2
theorem Uv.lens (hs:Xv c) (h:Uv c m):m.globals.length≤8∧m.nodes.length≤4096∧∀ x∈m.nodes,x.f.length≤12:=by
 refine ⟨by have h1:=h.gl;have h2:=hs.1.2.2.2.1;omega,h.len,fun x hx=>?_⟩
 have h1:=(h.nodes x hx).2.1
 have h2:=hs.1.2.1
 rw [List.any_eq_false] at h2
 have:=h2 _ (Lm h1)
 simp at this
 omega
def Xf4 (w:World) (b o:Nat) (a:Acc):Prop:=w.cell? ⟨b,o,none⟩=some (.int .i64 a.kind)∧w.cell? ⟨b,o+1,none⟩=some (.int .i64 a.node)∧w.cell? ⟨b,o+2,none⟩=some (.int .i64 a.field)
theorem Xf4.below (hb:Below B w w') {b o:Nat} {a:Acc} (h:b<B) (hE:Xf4 w b o a):Xf4 w' b o a:=by
 unfold Xf4 at *;rw [Xbl hb h,Xbl hb h,Xbl hb h];exact hE
theorem Xf.accs (hb:Below B w w') (h:Xf B w 3 Xf4 v l):Xf B w' 3 Xf4 v l:=h.mono fun _ _ _ h=>Xf4.below hb h
theorem Xci:∀ {l:List Acc} {i:Nat} {a:Acc},l[i]?=some a→(Zf l)[i*3]?=some (.int .i64 a.kind)∧(Zf l)[i*3+1]?=some (.int .i64 a.node)∧(Zf l)[i*3+2]?=some (.int .i64 a.field)
 | [],_,_,h=>by simp at h
 | x::l,0,a,h=>by
  simp at h
  subst h
  simp [Zf]
 | x::l,i+1,a,h=>by
  obtain ⟨h1,h2,h3⟩:=Xci (l:=l) (i:=i) (a:=a) (by simpa using h)
  have e:Zf (x::l)=[.int .i64 x.kind,.int .i64 x.node,.int .i64 x.field]++Zf l:=rfl
  rw [e]
  refine ⟨?_,?_,?_⟩
  ·rw [show (i+1)*3=i*3+1+1+1 by omega];simpa using h1
  ·rw [show (i+1)*3+1=(i*3+1)+1+1+1 by omega];simpa using h2
  ·rw [show (i+1)*3+2=(i*3+2)+1+1+1 by omega];simpa using h3
theorem Vm.reads {bl:Nat} (h:Vm w bl l v) (hl:l.length≤140737488355328):Xf w.heap.size w 3 Xf4 v l:=by
 rcases h.row.2 with ⟨rfl,h0⟩|⟨g,cap,aC,rfl,_,hg,aA,aB,_⟩
 ·have h3:l=[]:=List.eq_nil_of_length_eq_zero h0
  subst h3
  exact ⟨none,0,rfl,by simp,by simp,by omega,.inl rfl⟩
 ·refine ⟨some ⟨g,0,none⟩,cap,rfl,hl,aA,by unfold maxLen at aB;omega,.inr ⟨g,0,rfl,(La hg),fun i x hx=>?_⟩⟩
  obtain ⟨k1,k2,k3⟩:=Xci hx
  have hi:=(Ll hx)
  rw [Nat.zero_add]
  refine ⟨?_,?_,?_⟩
  ·rw [h.row.cellAt _ (by omega)];exact k1
  ·rw [h.row.cellAt _ (by omega)];exact k2
  ·rw [h.row.cellAt _ (by omega)];exact k3
def Xmb (c:Cod) (m:Mm) (x:Cal) (fuel er:Int):Prop:=(¬(Xv c∧Q7 c m=true)∧er=1)∨(Xv c∧Q7 c m=true∧er=Yd c x fuel)
theorem Xmb.det (h:Xmb c m x fuel a) (k:Xmb c m x fuel b):a=b:=by
 rcases h with ⟨h1,h2⟩|⟨h1,h2,h3⟩
 ·rcases k with ⟨_,k2⟩|⟨k1,k2,_⟩
  ·rw [h2,k2]
  ·exact absurd ⟨k1,k2⟩ h1
 ·rcases k with ⟨k1,_⟩|⟨_,_,k3⟩
  ·exact absurd ⟨h1,h2⟩ k1
  ·rw [h3,k3]
def Xb4 (c:Cod) (m:Mm) (x:Cal) (fuel:Int) (w:World) (e:Ending) (w':World):Prop:=
 (¬(Xv c∧Q7 c m=true)∧e=.returned (Xjr 1)∧Below w.heap.size w w')∨(Xv c∧Q7 c m=true∧Xdz c m x fuel w e w')
def U6:Prop:=∀ (c:Cod) (m:Mm) (x:Cal) (fuel:Int) (cv mv xv:Value) (B:Nat) (w:World),Qa w→B≤w.heap.size→Yj B w cv c→MmV B w mv m→J8 B w xv x→Zb c→Calls Tryz.prog 78 #[cv,mv,xv,.int .i64 fuel] w (Xb4 c m x fuel w)
def Xbg (A:Nat) (c:Cod) (m:Mm) (x:Cal) (fuel er:Int) (o:Ks) (gv nv lv:Value) (w':World):Prop:=
 (er≠0∧o=Xc8∧gv=.slice none 0 0∧nv=.slice none 0 0∧lv=.slice none 0 0)∨
 (er=0∧Xv c∧Q7 c m=true∧∃ m1 p bo bl cells Fg Fn,Zm c (Zo c x fuel) m1∧Zx c m1 ⟨m,[],0⟩ o p∧Qs w' bo p.mem gv nv cells Fg Fn∧Vm w' bl p.log lv∧Uv c p.mem∧p.log.length≤1000000000000∧(∀ b∈bo::(Fg++(nv.ownBlock.toList++Fn)),A≤b)∧(∀ b∈bl::lv.ownBlock.toList,A≤b))
theorem Xbg.keep (h:Xbg A c m x fuel er o gv nv lv w) (hb:∀ b,A≤b→b<w.heap.size→w'.heap[b]?=w.heap[b]?):Xbg A c m x fuel er o gv nv lv w':=by
 rcases h with h|⟨h1,h2,h3,m1,p,bo,bl,cells,Fg,Fn,h4,h5,h6,h7,h8,h9,aB,aC⟩
 ·exact .inl h
 ·exact .inr ⟨h1,h2,h3,m1,p,bo,bl,cells,Fg,Fn,h4,h5,h6.keep (fun b aA=>hb b (aB b aA) (h6.lt b aA)),h7.keep (fun b aA=>hb b (aC b aA) (h7.lt b aA)),h8,h9,aB,aC⟩
theorem Xbg.keepB (h:Xbg A c m x fuel er o gv nv lv w) (hb:Below w.heap.size w w'):Xbg A c m x fuel er o gv nv lv w':=h.keep (fun b _ aA=>hb.block b aA)
theorem Xbg.low {A':Nat} (h:Xbg A c m x fuel er o gv nv lv w) (hA:A'≤A):Xbg A' c m x fuel er o gv nv lv w:=by
 rcases h with h|⟨h1,h2,h3,m1,p,bo,bl,cells,Fg,Fn,h4,h5,h6,h7,h8,h9,aA,aB⟩
 ·exact .inl h
 ·exact .inr ⟨h1,h2,h3,m1,p,bo,bl,cells,Fg,Fn,h4,h5,h6,h7,h8,h9,fun b hb=>Nt hA (aA b hb),fun b hb=>Nt hA (aB b hb)⟩
theorem Xbg.reads (h:Xbg A c m x fuel 0 o gv nv lv w):∃ m1 p,Zm c (Zo c x fuel) m1∧Zx c m1 ⟨m,[],0⟩ o p∧MmV w.heap.size w (.agg #[gv,nv]) p.mem∧Xf w.heap.size w 3 Xf4 lv p.log∧Uv c p.mem∧p.log.length≤1000000000000:=by
 rcases h with ⟨h,_⟩|⟨h1,hs,h3,m1,p,bo,bl,cells,Fg,Fn,h4,h5,h6,h7,h8,h9,aA,aB⟩
 ·exact absurd rfl h
 ·obtain ⟨k1,k2,k3⟩:=h8.lens hs
  exact ⟨m1,p,h4,h5,h6.reads (by omega) (by omega) (fun x hx=>by have:=k3 x hx;omega),h7.reads (by omega),h8,h9⟩
def Xqg (c:Cod) (m:Mm) (x:Cal) (fuel:Int) (w:World) (e:Ending) (w':World):Prop:=
 ∃ (er:Int) (o:Ks) (ga na la:Option Addr) (gn gc nn nc ln lc:Nat),e=.returned (.tuple #[Xap o,.agg #[.slice ga gn gc,.slice na nn nc],.slice la ln lc,.int .i64 er])∧Xmb c m x fuel er∧Xbg w.heap.size c m x fuel er o (.slice ga gn gc) (.slice na nn nc) (.slice la ln lc) w'∧Below w.heap.size w w'
theorem Xb4.rd {e:Ending} (h:Xb4 c m x fuel w e w'):Xqg c m x fuel w e w':=by
 rcases h with ⟨h1,rfl,hb⟩|⟨hs,hf,⟨h1,rfl,hb⟩|⟨h1,m1,o,p,gv,nv,lv,bo,bl,cells,Fg,Fn,h2,h3,rfl,h4,h5,h6,h7,h8,h9,hb⟩⟩
 ·exact ⟨1,Xc8,none,none,none,0,0,0,0,0,0,rfl,.inl ⟨h1,rfl⟩,.inl ⟨by decide,rfl,rfl,rfl,rfl⟩,hb⟩
 ·exact ⟨_,Xc8,none,none,none,0,0,0,0,0,0,rfl,.inr ⟨hs,hf,rfl⟩,.inl ⟨h1,rfl,rfl,rfl,rfl⟩,hb⟩
 ·obtain ⟨ga,gc,rfl⟩:=(Zs h4.glob.1).2.2
  obtain ⟨na,nc,rfl⟩:=(Zs h4.row).2.2
  obtain ⟨la,lc,rfl⟩:=(Zs h5.row).2.2
  exact ⟨0,o,ga,na,la,_,gc,_,nc,_,lc,rfl,.inr ⟨hs,hf,h1.symm⟩,.inr ⟨rfl,hs,hf,m1,p,bo,bl,cells,Fg,Fn,h2,h3,h4,h5,h6,h7,h8,h9⟩,hb⟩
def Xd1 (W:World) (R:Nat) (o:Ks):World:=((((W.setCell ⟨R,0,none⟩ (.int .i64 o.fault)).setCell ⟨R,1,none⟩ (.int .i64 o.value)).setCell ⟨R,2,none⟩ (.int .i64 o.compares)).setCell ⟨R,3,none⟩ (.int .i64 o.nodes)).setCell ⟨R,4,none⟩ (.int .i64 0)
def Xge (W:World) (R:Nat) (gv nv:Value):World:=(W.setCell ⟨R,0,none⟩ gv).setCell ⟨R,1,none⟩ nv
theorem Xf2 {c d:Int} (h:Y7 W R a b c d) (o:Ks):Y7 (Xd1 W R o) R o.fault o.value o.compares o.nodes∧Xp [R] [R] W (Xd1 W R o):=by
 unfold Xd1 Y7 at *
 have h0:=heap_setCell_same _ R 0 _ _ (.int .i64 o.fault) h
 have h1:=heap_setCell_same _ R 1 _ _ (.int .i64 o.value) h0
 have h2:=heap_setCell_same _ R 2 _ _ (.int .i64 o.compares) h1
 have h3:=heap_setCell_same _ R 3 _ _ (.int .i64 o.nodes) h2
 have h4:=heap_setCell_same _ R 4 _ _ (.int .i64 0) h3
 exact ⟨h4,(((Xw.trans Xw).trans Xw).trans Xw).trans Xw⟩
theorem Xfw {a b:Value} (h:W.heap[R]?=some (.cells #[a,b] 28 (0,0))) (gv nv:Value):(Xge W R gv nv).heap[R]?=some (.cells #[gv,nv] 28 (0,0))∧Xp [R] [R] W (Xge W R gv nv):=by
 unfold Xge
 have h0:=heap_setCell_same _ R 0 _ _ gv h
 have h1:=heap_setCell_same _ R 1 _ _ nv h0
 exact ⟨h1,Xw.trans Xw⟩
theorem Xhj {fn:Func} {p q u:Tmp} (hf:fn.results=#[.cell p 84,.cell q 28,.tmp u]) {R1 R2:Nat} (h1:Y7 W R1 o.fault o.value o.compares o.nodes) (h2:W.heap[R2]?=some (.cells #[gv,nv] 28 (0,0))) (tmps:Array Value) (e:Value)
  (k1:tmps.getD p undef=.pointer (some ⟨R1,0,none⟩)) (k2:tmps.getD q undef=.pointer (some ⟨R2,0,none⟩)) (k4:tmps.getD u undef=e) :
  (results fn tmps).run Tryz.prog W=.ok (.tuple #[Xap o,.agg #[gv,nv],e]) W:=by
 simp only [results,hf]
 rw [Array.getD_eq_getD_getElem?] at k1 k2 k4
 simp [k1,k2,k4,asAddr,Xhg h1,Xhz h2,Result.andThen,Sem.run_bind,Xap]
def Xol (c:Cod) (m:Mm) (x:Cal) (fuel:Int) (w:World) (e:Ending) (w':World):Prop:=
 ∃ (er:Int) (o:Ks) (ga na la:Option Addr) (gn gc nn nc ln lc:Nat),e=.returned (.tuple #[Xap o,.agg #[.slice ga gn gc,.slice na nn nc],.int .i64 er])∧Xmb c m x fuel er∧Xbg w.heap.size c m x fuel er o (.slice ga gn gc) (.slice na nn nc) (.slice la ln lc) w'∧Below w.heap.size w w'
theorem Xp9 (hp:U6) (c:Cod) (m:Mm) (x:Cal) (fuel:Int) (cv mv xv:Value) (B:Nat) (w:World) (hL:Qa w) (hB:B≤w.heap.size) (hc:Yj B w cv c) (hm:MmV B w mv m) (hx:J8 B w xv x) (hsm:Zb c) :
  Calls Tryz.prog 32 #[cv,mv,xv,.int .i64 fuel] w (Xol c m x fuel w):=by
 have HC:=Lh hc
 have HM:=Lh hm
 have HX:=Lh hx
 have HL:=Lh hL
 have HP:=Lh hp
 obtain ⟨cf,cg,rfl,bC,bD,bK⟩:=hc
 obtain ⟨fa,fc,rfl⟩:=bC.form
 obtain ⟨ga,gc,rfl⟩:=bD.form
 obtain ⟨mg,mn,rfl,bE,bF⟩:=hm
 obtain ⟨va,vc,rfl⟩:=bE.form
 obtain ⟨na,nc,rfl⟩:=bF.form
 obtain ⟨xg,rfl,bH,bL⟩:=hx
 obtain ⟨xa,xc,rfl⟩:=bH.form
 obtain ⟨aT,aK⟩:∃ n,n=c.fields.length:=⟨_,rfl⟩
 obtain ⟨aU,aL⟩:∃ n,n=c.funcs.length:=⟨_,rfl⟩
 obtain ⟨aX,aM⟩:∃ n,n=m.globals.length:=⟨_,rfl⟩
 obtain ⟨aY,aN⟩:∃ n,n=m.nodes.length:=⟨_,rfl⟩
 obtain ⟨aZ,aP⟩:∃ n,n=x.args.length:=⟨_,rfl⟩
 rw [←aK,← aL] at HC ⊢
 rw [←aM,← aN] at HM ⊢
 rw [←aP] at HX ⊢
 clear bC bD bE bF bH hL hp aK aL aM aN aP
 obtain ⟨W,hW⟩:∃ W,W=((((w.alloc (.cells #[.slice fa aT fc,.int .i64 c.globals,.slice ga aU gc] 25)).alloc (.cells #[.slice va aX vc,.slice na aY nc] 28)).alloc (.cells #[.string x.proc,.slice xa aZ xc] 80)).alloc (.cells (X8 0 0 0 0) 84)).alloc (.cells #[.slice none 0 0,.slice none 0 0] 28):=⟨_,rfl⟩
 have aH:Hid (Below w.heap.size w W):=by rw [hW];exact Lh (((((Xa _ _).then (Xa _ _)).then (Xa _ _)).then (Xa _ _)).then (Xa _ _))
 have bJ:B≤W.heap.size:=Nt hB aH.out.size
 have hO:Hid (Y7 W (w.heap.size+1+1+1) 0 0 0 0∧W.heap[w.heap.size+1+1+1+1]?=some (.cells #[.slice none 0 0,.slice none 0 0] 28 (0,0))):=Lh (by
  rw [hW]
  refine ⟨?_,?_⟩
  ·unfold Y7
   rw [Ha _ _ _ (by simp)]
   have:=Hn (((w.alloc (.cells #[.slice fa aT fc,.int .i64 c.globals,.slice ga aU gc] 25)).alloc (.cells #[.slice va aX vc,.slice na aY nc] 28)).alloc (.cells #[.string x.proc,.slice xa aZ xc] 80)) (.cells (X8 0 0 0 0) 84)
   simpa using this
  ·have:=Hn ((((w.alloc (.cells #[.slice fa aT fc,.int .i64 c.globals,.slice ga aU gc] 25)).alloc (.cells #[.slice va aX vc,.slice na aY nc] 28)).alloc (.cells #[.string x.proc,.slice xa aZ xc] 80)).alloc (.cells (X8 0 0 0 0) 84)) (.cells #[.slice none 0 0,.slice none 0 0] 28)
   simpa using this)
 have bG:Hid (W.heap.size=w.heap.size+5):=by rw [hW];exact Lh (by simp)
 unfold X8 at hW
 go_enter Tryz.func32,Tryz.ntmps32
 go_wp2_with fail
 rw [←hW]
 clear hW
 refine (HP.out c m x fuel _ _ _ B W (HL.out.below aH.out) bJ (HC.out.below (aH.out.mono hB)) (HM.out.below (aH.out.mono hB)) (HX.out.below (aH.out.mono hB)) hsm).mono ?_
 rintro e w1 bB
 obtain ⟨er,o,aB,aE,bM,aD,aC,aG,aF,bO,bN,rfl,hE,hR,aJ⟩:=bB.rd
 have HE:=Lh hE
 have HR:=Lh hR
 have bI:=Lh (aH.out.then aJ)
 have bA:Hid (Y7 w1 (w.heap.size+1+1+1) 0 0 0 0∧w1.heap[w.heap.size+1+1+1+1]?=some (.cells #[.slice none 0 0,.slice none 0 0] 28 (0,0))):=Lh ⟨Yk aJ hO.out.1,Yk aJ hO.out.2⟩
 have bW:w.heap.size+5≤w1.heap.size:=by have h1:=bG.out;have h2:=aJ.size;omega
 clear bB hE hR aJ
 unfold Xap X8
 obtain ⟨W2,aI⟩:∃ u,u=(w1.alloc (.cells #[.int .i64 o.fault,.int .i64 o.value,.int .i64 o.compares,.int .i64 o.nodes,.int .i64 0] 84)).alloc (.cells #[.slice aB aD aC,.slice aE aG aF] 28):=⟨_,rfl⟩
 have aQ:Below w1.heap.size w1 W2:=by rw [aI];exact (Xa _ _).then (Xa _ _)
 have aA:Hid (Y7 W2 (w.heap.size+1+1+1) 0 0 0 0∧W2.heap[w.heap.size+1+1+1+1]?=some (.cells #[.slice none 0 0,.slice none 0 0] 28 (0,0))):=Lh ⟨Yk aQ bA.out.1,Yk aQ bA.out.2⟩
 have k1:Hid (Xo W2 w1.heap.size [.int .i64 o.fault,.int .i64 o.value,.int .i64 o.compares,.int .i64 o.nodes,.int .i64 0]):=by rw [aI];exact Lh (Xd.alloc _)
 have k2:Hid (Xo W2 (w1.heap.size+1) [.slice aB aD aC,.slice aE aG aF]):=by
  rw [aI]
  have:=@Xd (w1.alloc (.cells #[.int .i64 o.fault,.int .i64 o.value,.int .i64 o.compares,.int .i64 o.nodes,.int .i64 0] 84)) #[.slice aB aD aC,.slice aE aG aF] 28
  exact Lh (by simpa using this)
 have aS:=Lh aQ
 clear aQ
 go_upto_region 2 with fail
 rw [←aI]
 clear aI
 have a0:=k1.out 0 _ rfl
 have a1:=k1.out 1 _ rfl
 have a2:=k1.out 2 _ rfl
 have a3:=k1.out 3 _ rfl
 have a4:=k1.out 4 _ rfl
 have b0:=k2.out 0 _ rfl
 have b1:=k2.out 1 _ rfl
 have za:=Bl a0
 have zb:=Bl b0
 have o0:=Xs aA.out.1 0 (.int .i64 0) rfl
 have bP:W2.frozen? ⟨w.heap.size+1+1+1,0,none⟩=false:=Fz aA.out.1
 have o1:=Xs aA.out.1 1 (.int .i64 0) rfl
 have bQ:W2.frozen? ⟨w.heap.size+1+1+1,1,none⟩=false:=Fz aA.out.1
 have o2:=Xs aA.out.1 2 (.int .i64 0) rfl
 have bR:W2.frozen? ⟨w.heap.size+1+1+1,2,none⟩=false:=Fz aA.out.1
 have o3:=Xs aA.out.1 3 (.int .i64 0) rfl
 have bS:W2.frozen? ⟨w.heap.size+1+1+1,3,none⟩=false:=Fz aA.out.1
 have o4:=Xs aA.out.1 4 (.int .i64 0) rfl
 have bT:W2.frozen? ⟨w.heap.size+1+1+1,4,none⟩=false:=Fz aA.out.1
 have u0:=Cw aA.out.2 0 rfl
 have bU:W2.frozen? ⟨w.heap.size+1+1+1+1,0,none⟩=false:=Fz aA.out.2
 have u1:=Cw aA.out.2 1 rfl
 have bV:W2.frozen? ⟨w.heap.size+1+1+1+1,1,none⟩=false:=Fz aA.out.2
 have zo:=Bl o0
 have zu:=Bl u0
 obtain ⟨W3,aV⟩:∃ u,u=(((((((W2.setCell ⟨w.heap.size+1+1+1,0,none⟩ (.int .i64 o.fault)).setCell ⟨w.heap.size+1+1+1,1,none⟩ (.int .i64 o.value)).setCell ⟨w.heap.size+1+1+1,2,none⟩ (.int .i64 o.compares)).setCell ⟨w.heap.size+1+1+1,3,none⟩ (.int .i64 o.nodes)).setCell ⟨w.heap.size+1+1+1,4,none⟩ (.int .i64 0)).setCell ⟨w.heap.size+1+1+1+1,0,none⟩ (.slice aB aD aC)).setCell ⟨w.heap.size+1+1+1+1,1,none⟩ (.slice aE aG aF)):=⟨_,rfl⟩
 have aR:Hid (Y7 W3 (w.heap.size+1+1+1) o.fault o.value o.compares o.nodes∧W3.heap[w.heap.size+1+1+1+1]?=some (.cells #[.slice aB aD aC,.slice aE aG aF] 28 (0,0))∧Xp [w.heap.size+1+1+1,w.heap.size+1+1+1+1] [w.heap.size+1+1+1,w.heap.size+1+1+1+1] W2 W3):=Lh (by
  have f1:=Xf2 aA.out.1 o
  have r2:(Xd1 W2 (w.heap.size+1+1+1) o).heap[w.heap.size+1+1+1+1]?=some (.cells #[.slice none 0 0,.slice none 0 0] 28 (0,0)):=by rw [f1.2.block _ zu (by simp)];exact aA.out.2
  have f2:=Xfw r2 (.slice aB aD aC) (.slice aE aG aF)
  have e3:W3=Xge (Xd1 W2 (w.heap.size+1+1+1) o) (w.heap.size+1+1+1+1) (.slice aB aD aC) (.slice aE aG aF):=aV
  rw [e3]
  refine ⟨?_,f2.1,?_⟩
  ·have h1:=f1.1
   unfold Y7 at *
   rw [f2.2.block _ (La h1) (by simp)];exact h1
  ·exact ((f1.2.wide (F:=[w.heap.size+1+1+1,w.heap.size+1+1+1+1]) (fun b hb=>by simp at hb;simp [hb]) (fun b hb=>.inr hb)).trans (f2.2.wide (F:=[w.heap.size+1+1+1,w.heap.size+1+1+1+1]) (fun b hb=>by simp at hb;simp [hb]) (fun b hb=>.inr hb))))
 go_region
 rw [←aV]
 clear aV
 go_wp2_with fail
 have aO:∀ b,W.heap.size≤b→b<w1.heap.size→W3.drew.heap[b]?=w1.heap[b]?:=fun b h1 h2=>by
  have h3:=bG.out
  have h4:b<W2.heap.size:=Nl h2 aS.out.size
  show W3.heap[b]?=w1.heap[b]?
  rw [aR.out.2.2.block b h4 (by simp;omega),aS.out.block b h2]
 have aW:Below w.heap.size w W3.drew:=by
  have h1:=bI.out.then aS.out
  exact Xh (h1.trans (aR.out.2.2.below (fun b hb=>by simp at hb;omega) h1.size)) 1
 exact bodyPost_ret (v:=.tuple #[Xap o,.agg #[.slice aB aD aC,.slice aE aG aF],.int .i64 er]) (Xhj (W:=W3.drew) (o:=o) (p:=8) (q:=9) (u:=10) rfl aR.out.1 aR.out.2.1 _ _ rfl rfl rfl) rfl ⟨er,o,aB,aE,bM,aD,aC,aG,aF,bO,bN,rfl,HE.out,(HR.out.keep aO).low aH.out.size,aW⟩
