/- What the program makes can be read; readings below a higher bound. The contracts of Run and Accesses. -/
import Derived.Test.YtbmeoklmachjpaaGreatDoorAsk
import Derived.RegionTactic
import Derived.Outline
set_option maxHeartbeats 2000000
set_option maxRecDepth 1000000
set_option linter.unusedVariables false
set_option linter.unusedSimpArgs false
namespace Go.Proofs.YtbmeoklmachjpaaGreatDoor
open Go.RowKit
theorem Xf.up {α:Type} {B B':Nat} {w:World} {sz:Nat} {E E':World→Nat→Nat→α→Prop} {v:Value} {l:List α} (h:Xf B w sz E v l) (hB:B≤B') (hE:∀ b o x,E w b o x→E' w b o x):Xf B' w sz E' v l:=by
 obtain ⟨a,cap,rfl,hl,hl2,hl3,h⟩:=h
 refine ⟨a,cap,rfl,hl,hl2,hl3,?_⟩
 rcases h with h|⟨b,o,rfl,hb,h⟩
 ·exact .inl h
 ·exact .inr ⟨b,o,rfl,by omega,fun i x hx=>hE _ _ _ (h i x hx)⟩
theorem Xf.upI {B B':Nat} {w:World} {v:Value} {l:List Int} (h:Xf B w 1 Zd v l) (hB:B≤B'):Xf B' w 1 Zd v l:=h.up hB (fun _ _ _ h=>h)
theorem Zl.up {B B':Nat} {w:World} {b o:Nat} {f:Fun} (h:Zl B w b o f) (hB:B≤B'):Zl B' w b o f:=by
 obtain ⟨h1,h2,h3,h4,⟨v,h5,h6⟩,h7⟩:=h
 exact ⟨h1,h2,h3,h4,⟨v,h5,h6.up hB (fun _ _ _ h=>h)⟩,h7⟩
theorem Qp.up {B B':Nat} {w:World} {b o:Nat} {f:Fra} (h:Qp B w b o f) (hB:B≤B'):Qp B' w b o f:=by
 obtain ⟨h1,h2,⟨v,h3,h4⟩,⟨u,h5,h6⟩,h7⟩:=h
 exact ⟨h1,h2,⟨v,h3,h4.upI hB⟩,⟨u,h5,h6.upI hB⟩,h7⟩
theorem Xbc.up {B B':Nat} {w:World} {b o:Nat} {f:Nod} (h:Xbc B w b o f) (hB:B≤B'):Xbc B' w b o f:=by
 obtain ⟨h1,⟨v,h3,h4⟩,h7⟩:=h
 exact ⟨h1,⟨v,h3,h4.upI hB⟩,h7⟩
theorem Yj.up {B B':Nat} {w:World} {v:Value} {c:Cod} (h:Yj B w v c) (hB:B≤B'):Yj B' w v c:=by
 obtain ⟨fv,gv,h1,h2,h3,h4⟩:=h
 exact ⟨fv,gv,h1,h2.upI hB,h3.up hB (fun _ _ _ h=>h.up hB),h4⟩
theorem MmV.up {B B':Nat} {w:World} {v:Value} {m:Mm} (h:MmV B w v m) (hB:B≤B'):MmV B' w v m:=by
 obtain ⟨gv,nv,h1,h2,h3⟩:=h
 exact ⟨gv,nv,h1,h2.upI hB,h3.up hB (fun _ _ _ h=>h.up hB)⟩
theorem J8.up {B B':Nat} {w:World} {v:Value} {x:Cal} (h:J8 B w v x) (hB:B≤B'):J8 B' w v x:=by
 obtain ⟨av,h1,h2,h3⟩:=h
 exact ⟨av,h1,h2.upI hB,h3⟩
theorem Yv.reads {w:World} {v:Value} {l:List Int} {F:List Nat} (h:Yv w v l F) (hl:l.length≤140737488355328):Xf w.heap.size w 1 Zd v l:=by
 by_cases h0:0<l.length
 ·obtain ⟨lb,cap,rfl,hF,h1,h2⟩:=h.form h0
  refine ⟨_,cap,rfl,hl,h1,h2,.inr ⟨lb,0,rfl,h.lt lb (by rw [hF];simp),fun i x hx=>⟨?_,h.2.2 x (List.mem_of_getElem? hx)⟩⟩⟩
  rw [Nat.zero_add,Nat.mul_one];exact h.cellAt hx
 ·have h3:l=[]:=List.eq_nil_of_length_eq_zero (by omega)
  subst h3
  rcases h.1.2 with ⟨rfl,_⟩|⟨g,cap,cur,rfl,_,hg,hc,hcm,_⟩
  ·exact ⟨none,0,rfl,by simp,by simp,by omega,.inl rfl⟩
  ·exact ⟨some ⟨g,0,none⟩,cap,rfl,by simp,by simp,by unfold maxLen at hcm;omega,.inl rfl⟩
theorem Yl.at_ {w:World}:∀ {fs:List Fra} {cells:List Value} {F:List Nat} {i:Nat} {f:Fra},Yl w cells fs F→fs[i]?=some f→
  ∃ lv sv Fl Fs,cells[i*4]?=some (.int .i64 f.fn)∧cells[i*4+1]?=some (.int .i64 f.pc)∧cells[i*4+2]?=some lv∧cells[i*4+3]?=some sv∧Yv w lv f.locals Fl∧Yv w sv f.stack Fs∧in64 f.fn∧in64 f.pc
 | [],_,_,_,_,_,hx=>by simp at hx
 | g::fs,cells,F,0,f,h,hx=>by
  obtain ⟨lv,sv,cs,Fl,Fs,Fr,rfl,h2,h3,h4,h5,h6,rfl⟩:=h
  simp at hx
  subst hx
  exact ⟨lv,sv,Fl,Fs,rfl,rfl,rfl,rfl,h2,h3,h4,h5⟩
 | g::fs,cells,F,i+1,f,h,hx=>by
  obtain ⟨lv,sv,cs,Fl,Fs,Fr,rfl,h2,h3,h4,h5,h6,rfl⟩:=h
  obtain ⟨lv',sv',Fl',Fs',k1,k2,k3,k4,k5⟩:=h6.at_ (by simpa using hx)
  refine ⟨lv',sv',Fl',Fs',?_,?_,?_,?_,k5⟩
  ·rw [show (i+1)*4=i*4+1+1+1+1 by omega];simpa using k1
  ·rw [show (i+1)*4+1=(i*4+1)+1+1+1+1 by omega];simpa using k2
  ·rw [show (i+1)*4+2=(i*4+2)+1+1+1+1 by omega];simpa using k3
  ·rw [show (i+1)*4+3=(i*4+3)+1+1+1+1 by omega];simpa using k4
theorem Z9.reads {w:World} {fv:Value} {fs:List Fra} {F:List Nat} (h:Z9 w fv fs F) (hl:fs.length≤140737488355328) (hf:∀ f∈fs,f.locals.length≤140737488355328∧f.stack.length≤140737488355328):Xf w.heap.size w 4 (Qp w.heap.size) fv fs:=by
 obtain ⟨cells,Fr,h1,h2,rfl,h4⟩:=h
 have hc:=h2.len
 rcases h1.2 with ⟨rfl,h0⟩|⟨g,cap,cur,rfl,_,hg,hc1,hcm,_⟩
 ·have h3:fs=[]:=List.eq_nil_of_length_eq_zero h0
  subst h3
  exact ⟨none,0,rfl,by simp,by simp,by omega,.inl rfl⟩
 ·refine ⟨some ⟨g,0,none⟩,cap,rfl,hl,hc1,by unfold maxLen at hcm;omega,.inr ⟨g,0,rfl,(La hg),fun i f hx=>?_⟩⟩
  obtain ⟨lv,sv,Fl,Fs,k1,k2,k3,k4,k5,k6,k7,k8⟩:=h2.at_ hx
  have hi:=(Ll hx)
  have hb:=hf f (List.mem_of_getElem? hx)
  rw [Nat.zero_add]
  refine ⟨?_,?_,⟨lv,?_,k5.reads hb.1⟩,⟨sv,?_,k6.reads hb.2⟩,k7,k8⟩
  ·rw [h1.cellAt _ (by omega)];exact k1
  ·rw [h1.cellAt _ (by omega)];exact k2
  ·rw [h1.cellAt _ (by omega)];exact k3
  ·rw [h1.cellAt _ (by omega)];exact k4
theorem Zj.rd {w:World}:∀ {xs:List Nod} {cells:List Value} {F:List Nat} {i:Nat} {x:Nod},Zj w cells xs F→xs[i]?=some x→∃ lv Fl,cells[i*2]?=some (.int .i64 x.type)∧cells[i*2+1]?=some lv∧Yv w lv x.f Fl∧in64 x.type
 | [],_,_,_,_,_,hx=>by simp at hx
 | g::xs,cells,F,0,x,h,hx=>by
  obtain ⟨lv,cs,Fl,Fr,rfl,h2,h3,h4,rfl⟩:=h
  simp at hx
  subst hx
  exact ⟨lv,Fl,rfl,rfl,h2,h3⟩
 | g::xs,cells,F,i+1,x,h,hx=>by
  obtain ⟨lv,cs,Fl,Fr,rfl,h2,h3,h4,rfl⟩:=h
  obtain ⟨lv',Fl',k1,k2,k3⟩:=h4.rd (by simpa using hx)
  refine ⟨lv',Fl',?_,?_,k3⟩
  ·rw [show (i+1)*2=i*2+1+1 by omega];simpa using k1
  ·rw [show (i+1)*2+1=(i*2+1)+1+1 by omega];simpa using k2
theorem Qs.reads {w:World} {bo:Nat} {m:Mm} {gv nv:Value} {cells:List Value} {Fg Fn:List Nat} (h:Qs w bo m gv nv cells Fg Fn) (hg:m.globals.length≤140737488355328) (hn:m.nodes.length≤140737488355328) (hf:∀ x∈m.nodes,x.f.length≤140737488355328):MmV w.heap.size w (.agg #[gv,nv]) m:=by
 refine ⟨gv,nv,rfl,h.glob.reads hg,?_⟩
 have hc:=h.nodes.len
 rcases h.row.2 with ⟨rfl,h0⟩|⟨g,cap,cur,rfl,_,hg,hc1,hcm,_⟩
 ·have h3:m.nodes=[]:=List.eq_nil_of_length_eq_zero h0
  rw [h3]
  exact ⟨none,0,rfl,by simp,by simp,by omega,.inl rfl⟩
 ·refine ⟨some ⟨g,0,none⟩,cap,rfl,hn,hc1,by unfold maxLen at hcm;omega,.inr ⟨g,0,rfl,(La hg),fun i x hx=>?_⟩⟩
  obtain ⟨lv,Fl,k1,k2,k3,k4⟩:=h.nodes.rd hx
  have hi:=(Ll hx)
  rw [Nat.zero_add]
  refine ⟨?_,⟨lv,?_,k3.reads (hf x (List.mem_of_getElem? hx))⟩,k4⟩
  ·rw [h.row.cellAt _ (by omega)];exact k1
  ·rw [h.row.cellAt _ (by omega)];exact k2
theorem Uv.lens {c:Cod} (hs:Xv c) {m:Mm} (h:Uv c m):m.globals.length≤8∧m.nodes.length≤4096∧∀ x∈m.nodes,x.f.length≤12:=by
 refine ⟨by have h1:=h.gl;have h2:=hs.1.2.2.2.1;omega,h.len,fun x hx=>?_⟩
 have h1:=(h.nodes x hx).2.1
 have h2:=hs.1.2.1
 rw [List.any_eq_false] at h2
 have:=h2 _ (List.mem_of_getElem? h1)
 simp at this
 omega
def Xf4 (w:World) (b o:Nat) (a:Acc):Prop:=w.cell? ⟨b,o,none⟩=some (.int .i64 a.kind)∧w.cell? ⟨b,o+1,none⟩=some (.int .i64 a.node)∧w.cell? ⟨b,o+2,none⟩=some (.int .i64 a.field)
theorem Xf4.below {B:Nat} {w w':World} (hb:Below B w w') {b o:Nat} {a:Acc} (h:b<B) (hE:Xf4 w b o a):Xf4 w' b o a:=by
 unfold Xf4 at *;rw [Xbl hb h,Xbl hb h,Xbl hb h];exact hE
theorem Xf.accs {B:Nat} {w w':World} (hb:Below B w w') {v:Value} {l:List Acc} (h:Xf B w 3 Xf4 v l):Xf B w' 3 Xf4 v l:=h.mono fun _ _ _ h=>Xf4.below hb h
theorem Xci:∀ {l:List Acc} {i:Nat} {a:Acc},l[i]?=some a→(Zf l)[i*3]?=some (.int .i64 a.kind)∧(Zf l)[i*3+1]?=some (.int .i64 a.node)∧(Zf l)[i*3+2]?=some (.int .i64 a.field)
 | [],_,_,h=>by simp at h
 | x::l,0,a,h=>by
  simp at h
  subst h
  simp [Zf]
 | x::l,i+1,a,h=>by
  obtain ⟨h1,h2,h3⟩:=Xci (l:=l) (i:=i) (a:=a) (by simpa using h)
  have e:Zf (x::l)=[.int .i64 x.kind,.int .i64 x.node,.int .i64 x.field]++Zf l:=rfl
  rw [e]
  refine ⟨?_,?_,?_⟩
  ·rw [show (i+1)*3=i*3+1+1+1 by omega];simpa using h1
  ·rw [show (i+1)*3+1=(i*3+1)+1+1+1 by omega];simpa using h2
  ·rw [show (i+1)*3+2=(i*3+2)+1+1+1 by omega];simpa using h3
theorem Vm.reads {w:World} {bl:Nat} {l:List Acc} {v:Value} (h:Vm w bl l v) (hl:l.length≤140737488355328):Xf w.heap.size w 3 Xf4 v l:=by
 rcases h.row.2 with ⟨rfl,h0⟩|⟨g,cap,cur,rfl,_,hg,hc1,hcm,_⟩
 ·have h3:l=[]:=List.eq_nil_of_length_eq_zero h0
  subst h3
  exact ⟨none,0,rfl,by simp,by simp,by omega,.inl rfl⟩
 ·refine ⟨some ⟨g,0,none⟩,cap,rfl,hl,hc1,by unfold maxLen at hcm;omega,.inr ⟨g,0,rfl,(La hg),fun i x hx=>?_⟩⟩
  obtain ⟨k1,k2,k3⟩:=Xci hx
  have hi:=(Ll hx)
  rw [Nat.zero_add]
  refine ⟨?_,?_,?_⟩
  ·rw [h.row.cellAt _ (by omega)];exact k1
  ·rw [h.row.cellAt _ (by omega)];exact k2
  ·rw [h.row.cellAt _ (by omega)];exact k3
/-- the error number of a run over a memory -/
def Xmb (c:Cod) (m:Mm) (x:Cal) (fuel er:Int):Prop:=(¬(Xv c∧Q7 c m=true)∧er=1)∨(Xv c∧Q7 c m=true∧er=Yd c x fuel)
theorem Xmb.det {c:Cod} {m:Mm} {x:Cal} {fuel a b:Int} (h:Xmb c m x fuel a) (k:Xmb c m x fuel b):a=b:=by
 rcases h with ⟨h1,h2⟩|⟨h1,h2,h3⟩
 ·rcases k with ⟨_,k2⟩|⟨k1,k2,_⟩
  ·rw [h2,k2]
  ·exact absurd ⟨k1,k2⟩ h1
 ·rcases k with ⟨k1,_⟩|⟨_,_,k3⟩
  ·exact absurd ⟨h1,h2⟩ k1
  ·rw [h3,k3]
/-- what play comes to -/
def Xb4 (c:Cod) (m:Mm) (x:Cal) (fuel:Int) (w:World) (e:Ending) (w':World):Prop:=
 (¬(Xv c∧Q7 c m=true)∧e=.returned (Xjr 1)∧Below w.heap.size w w')∨(Xv c∧Q7 c m=true∧Xdz c m x fuel w e w')
def U6:Prop:=∀ (c:Cod) (m:Mm) (x:Cal) (fuel:Int) (cv mv xv:Value) (B:Nat) (w:World),Qa w→B≤w.heap.size→Yj B w cv c→MmV B w mv m→J8 B w xv x→Zb c→Calls Tryz.prog 58 #[cv,mv,xv,.int .i64 fuel] w (Xb4 c m x fuel w)
/-- the memory and the log that were left, in blocks from A on -/
def Xbg (A:Nat) (c:Cod) (m:Mm) (x:Cal) (fuel er:Int) (o:Ks) (gv nv lv:Value) (w':World):Prop:=
 (er≠0∧o=Xc8∧gv=.slice none 0 0∧nv=.slice none 0 0∧lv=.slice none 0 0)∨
 (er=0∧Xv c∧Q7 c m=true∧∃ m1 p bo bl cells Fg Fn,Zm c (Zo c x fuel) m1∧Zx c m1 ⟨m,[],0⟩ o p∧Qs w' bo p.mem gv nv cells Fg Fn∧Vm w' bl p.log lv∧Uv c p.mem∧p.log.length≤1000000000000∧(∀ b∈bo::(Fg++(nv.ownBlock.toList++Fn)),A≤b)∧(∀ b∈bl::lv.ownBlock.toList,A≤b))
theorem Xbg.keep {A:Nat} {c:Cod} {m:Mm} {x:Cal} {fuel er:Int} {o:Ks} {gv nv lv:Value} {w w':World} (h:Xbg A c m x fuel er o gv nv lv w) (hb:∀ b,A≤b→b<w.heap.size→w'.heap[b]?=w.heap[b]?):Xbg A c m x fuel er o gv nv lv w':=by
 rcases h with h|⟨h1,h2,h3,m1,p,bo,bl,cells,Fg,Fn,h4,h5,h6,h7,h8,h9,h10,h11⟩
 ·exact .inl h
 ·exact .inr ⟨h1,h2,h3,m1,p,bo,bl,cells,Fg,Fn,h4,h5,h6.keep (fun b hb'=>hb b (h10 b hb') (h6.lt b hb')),h7.keep (fun b hb'=>hb b (h11 b hb') (h7.lt b hb')),h8,h9,h10,h11⟩
theorem Xbg.keepB {A:Nat} {c:Cod} {m:Mm} {x:Cal} {fuel er:Int} {o:Ks} {gv nv lv:Value} {w w':World} (h:Xbg A c m x fuel er o gv nv lv w) (hb:Below w.heap.size w w'):Xbg A c m x fuel er o gv nv lv w':=h.keep (fun b _ hlt=>hb.block b hlt)
theorem Xbg.low {A A':Nat} {c:Cod} {m:Mm} {x:Cal} {fuel er:Int} {o:Ks} {gv nv lv:Value} {w:World} (h:Xbg A c m x fuel er o gv nv lv w) (hA:A'≤A):Xbg A' c m x fuel er o gv nv lv w:=by
 rcases h with h|⟨h1,h2,h3,m1,p,bo,bl,cells,Fg,Fn,h4,h5,h6,h7,h8,h9,h10,h11⟩
 ·exact .inl h
 ·exact .inr ⟨h1,h2,h3,m1,p,bo,bl,cells,Fg,Fn,h4,h5,h6,h7,h8,h9,fun b hb=>Nat.le_trans hA (h10 b hb),fun b hb=>Nat.le_trans hA (h11 b hb)⟩
/-- what was left can be read -/
theorem Xbg.reads {A:Nat} {c:Cod} {m:Mm} {x:Cal} {fuel:Int} {o:Ks} {gv nv lv:Value} {w:World} (h:Xbg A c m x fuel 0 o gv nv lv w):∃ m1 p,Zm c (Zo c x fuel) m1∧Zx c m1 ⟨m,[],0⟩ o p∧MmV w.heap.size w (.agg #[gv,nv]) p.mem∧Xf w.heap.size w 3 Xf4 lv p.log∧Uv c p.mem∧p.log.length≤1000000000000:=by
 rcases h with ⟨h,_⟩|⟨h1,hs,h3,m1,p,bo,bl,cells,Fg,Fn,h4,h5,h6,h7,h8,h9,h10,h11⟩
 ·exact absurd rfl h
 ·obtain ⟨k1,k2,k3⟩:=h8.lens hs
  exact ⟨m1,p,h4,h5,h6.reads (by omega) (by omega) (fun x hx=>by have:=k3 x hx;omega),h7.reads (by omega),h8,h9⟩
def Xqg (c:Cod) (m:Mm) (x:Cal) (fuel:Int) (w:World) (e:Ending) (w':World):Prop:=
 ∃ (er:Int) (o:Ks) (ga na la:Option Addr) (gn gc nn nc ln lc:Nat),e=.returned (.tuple #[Xap o,.agg #[.slice ga gn gc,.slice na nn nc],.slice la ln lc,.int .i64 er])∧Xmb c m x fuel er∧Xbg w.heap.size c m x fuel er o (.slice ga gn gc) (.slice na nn nc) (.slice la ln lc) w'∧Below w.heap.size w w'
theorem Xb4.rd {c:Cod} {m:Mm} {x:Cal} {fuel:Int} {w:World} {e:Ending} {w':World} (h:Xb4 c m x fuel w e w'):Xqg c m x fuel w e w':=by
 rcases h with ⟨h1,rfl,hb⟩|⟨hs,hf,⟨h1,rfl,hb⟩|⟨h1,m1,o,p,gv,nv,lv,bo,bl,cells,Fg,Fn,h2,h3,rfl,h4,h5,h6,h7,h8,h9,hb⟩⟩
 ·exact ⟨1,Xc8,none,none,none,0,0,0,0,0,0,rfl,.inl ⟨h1,rfl⟩,.inl ⟨by decide,rfl,rfl,rfl,rfl⟩,hb⟩
 ·exact ⟨_,Xc8,none,none,none,0,0,0,0,0,0,rfl,.inr ⟨hs,hf,rfl⟩,.inl ⟨h1,rfl,rfl,rfl,rfl⟩,hb⟩
 ·obtain ⟨ga,gc,rfl⟩:=(Zs h4.glob.1).2.2
  obtain ⟨na,nc,rfl⟩:=(Zs h4.row).2.2
  obtain ⟨la,lc,rfl⟩:=(Zs h5.row).2.2
  exact ⟨0,o,ga,na,la,_,gc,_,nc,_,lc,rfl,.inr ⟨hs,hf,h1.symm⟩,.inr ⟨rfl,hs,hf,m1,p,bo,bl,cells,Fg,Fn,h2,h3,h4,h5,h6,h7,h8,h9⟩,hb⟩
def Xd1 (W:World) (R:Nat) (o:Ks):World:=((((W.setCell ⟨R,0,none⟩ (.int .i64 o.fault)).setCell ⟨R,1,none⟩ (.int .i64 o.value)).setCell ⟨R,2,none⟩ (.int .i64 o.compares)).setCell ⟨R,3,none⟩ (.int .i64 o.nodes)).setCell ⟨R,4,none⟩ (.int .i64 0)
def Xge (W:World) (R:Nat) (gv nv:Value):World:=(W.setCell ⟨R,0,none⟩ gv).setCell ⟨R,1,none⟩ nv
theorem Xf2 {W:World} {R:Nat} {a b c d:Int} (h:Y7 W R a b c d) (o:Ks):Y7 (Xd1 W R o) R o.fault o.value o.compares o.nodes∧Xp [R] [R] W (Xd1 W R o):=by
 unfold Xd1 Y7 at *
 have h0:=heap_setCell_same _ R 0 _ _ (.int .i64 o.fault) h
 have h1:=heap_setCell_same _ R 1 _ _ (.int .i64 o.value) h0
 have h2:=heap_setCell_same _ R 2 _ _ (.int .i64 o.compares) h1
 have h3:=heap_setCell_same _ R 3 _ _ (.int .i64 o.nodes) h2
 have h4:=heap_setCell_same _ R 4 _ _ (.int .i64 0) h3
 exact ⟨h4,(((Xw.trans Xw).trans Xw).trans Xw).trans Xw⟩
theorem Xfw {W:World} {R:Nat} {a b:Value} (h:W.heap[R]?=some (.cells #[a,b] 52 (0,0))) (gv nv:Value):(Xge W R gv nv).heap[R]?=some (.cells #[gv,nv] 52 (0,0))∧Xp [R] [R] W (Xge W R gv nv):=by
 unfold Xge
 have h0:=heap_setCell_same _ R 0 _ _ gv h
 have h1:=heap_setCell_same _ R 1 _ _ nv h0
 exact ⟨h1,Xw.trans Xw⟩
theorem Xhj {fn:Func} {p q u:Tmp} (hf:fn.results=#[.cell p 57,.cell q 52,.tmp u]) {W:World} {R1 R2:Nat} {o:Ks} {gv nv:Value} (h1:Y7 W R1 o.fault o.value o.compares o.nodes) (h2:W.heap[R2]?=some (.cells #[gv,nv] 52 (0,0))) (tmps:Array Value) (e:Value)
  (k1:tmps.getD p undef=.pointer (some ⟨R1,0,none⟩)) (k2:tmps.getD q undef=.pointer (some ⟨R2,0,none⟩)) (k4:tmps.getD u undef=e) :
  (results fn tmps).run Tryz.prog W=.ok (.tuple #[Xap o,.agg #[gv,nv],e]) W:=by
 simp only [results,hf]
 rw [Array.getD_eq_getD_getElem?] at k1 k2 k4
 simp [k1,k2,k4,asAddr,Xhg h1,Xhz h2,Result.andThen,Sem.run_bind,Xap]
def Xol (c:Cod) (m:Mm) (x:Cal) (fuel:Int) (w:World) (e:Ending) (w':World):Prop:=
 ∃ (er:Int) (o:Ks) (ga na la:Option Addr) (gn gc nn nc ln lc:Nat),e=.returned (.tuple #[Xap o,.agg #[.slice ga gn gc,.slice na nn nc],.int .i64 er])∧Xmb c m x fuel er∧Xbg w.heap.size c m x fuel er o (.slice ga gn gc) (.slice na nn nc) (.slice la ln lc) w'∧Below w.heap.size w w'
def Xo0 (c:Cod) (m:Mm) (x:Cal) (fuel:Int) (w:World) (e:Ending) (w':World):Prop:=
 ∃ (er:Int) (o:Ks) (ga na la:Option Addr) (gn gc nn nc ln lc:Nat),e=.returned (.tuple #[.slice la ln lc,.int .i64 er])∧Xmb c m x fuel er∧Xbg w.heap.size c m x fuel er o (.slice ga gn gc) (.slice na nn nc) (.slice la ln lc) w'∧Below w.heap.size w w'
theorem Xrt (hp:U6) (c:Cod) (m:Mm) (x:Cal) (fuel:Int) (cv mv xv:Value) (B:Nat) (w:World) (hL:Qa w) (hB:B≤w.heap.size) (hc:Yj B w cv c) (hm:MmV B w mv m) (hx:J8 B w xv x) (hsm:Zb c) :
  Calls Tryz.prog 24 #[cv,mv,xv,.int .i64 fuel] w (Xo0 c m x fuel w):=by
 have HC:=Lh hc
 have HM:=Lh hm
 have HX:=Lh hx
 have HL:=Lh hL
 have HP:=Lh hp
 obtain ⟨cf,cg,rfl,hcf,hcg,hg64⟩:=hc
 obtain ⟨fa,fc,rfl⟩:=hcf.form
 obtain ⟨ga,gc,rfl⟩:=hcg.form
 obtain ⟨mg,mn,rfl,hmg,hmn⟩:=hm
 obtain ⟨va,vc,rfl⟩:=hmg.form
 obtain ⟨na,nc,rfl⟩:=hmn.form
 obtain ⟨xg,rfl,hxg,hx47⟩:=hx
 obtain ⟨xa,xc,rfl⟩:=hxg.form
 obtain ⟨cfn,hcfn⟩:∃ n,n=c.fields.length:=⟨_,rfl⟩
 obtain ⟨cgn,hcgn⟩:∃ n,n=c.funcs.length:=⟨_,rfl⟩
 obtain ⟨mgn,hmgn⟩:∃ n,n=m.globals.length:=⟨_,rfl⟩
 obtain ⟨mnn,hmnn⟩:∃ n,n=m.nodes.length:=⟨_,rfl⟩
 obtain ⟨xan,hxan⟩:∃ n,n=x.args.length:=⟨_,rfl⟩
 rw [←hcfn,← hcgn] at HC ⊢
 rw [←hmgn,← hmnn] at HM ⊢
 rw [←hxan] at HX ⊢
 clear hcf hcg hmg hmn hxg hL hp hcfn hcgn hmgn hmnn hxan
 obtain ⟨W,hW⟩:∃ W,W=((w.alloc (.cells #[.slice fa cfn fc,.int .i64 c.globals,.slice ga cgn gc] 25)).alloc (.cells #[.slice va mgn vc,.slice na mnn nc] 52)).alloc (.cells #[.string x.proc,.slice xa xan xc] 27):=⟨_,rfl⟩
 have hWb:Hid (Below w.heap.size w W):=by rw [hW];exact Lh (((Xa _ _).then (Xa _ _)).then (Xa _ _))
 have hWB:B≤W.heap.size:=Nat.le_trans hB hWb.out.size
 go_enter Tryz.func24,Tryz.ntmps24
 go_wp2_with fail
 rw [←hW]
 clear hW
 refine (HP.out c m x fuel _ _ _ B W (HL.out.below hWb.out) hWB (HC.out.below (hWb.out.mono hB)) (HM.out.below (hWb.out.mono hB)) (HX.out.below (hWb.out.mono hB)) hsm).mono ?_
 rintro e w1 hPP
 obtain ⟨er,o,ga1,na1,la1,gn1,gc1,nn1,nc1,ln1,lc1,rfl,hE,hR,hb1⟩:=hPP.rd
 have HE:=Lh hE
 have HR:=Lh hR
 have HB1:=Lh (hWb.out.then hb1)
 clear hPP hE hR hb1
 unfold Xap X8
 go_wp2_with fail
 go_ret2
 exact ⟨er,o,ga1,na1,la1,gn1,gc1,nn1,nc1,ln1,lc1,rfl,HE.out,(HR.out.keepB ((Xa _ _).then (Xa _ _))).low hWb.out.size,(HB1.out.then (Xa _ _)).then (Xa _ _)⟩
theorem Xp9 (hp:U6) (c:Cod) (m:Mm) (x:Cal) (fuel:Int) (cv mv xv:Value) (B:Nat) (w:World) (hL:Qa w) (hB:B≤w.heap.size) (hc:Yj B w cv c) (hm:MmV B w mv m) (hx:J8 B w xv x) (hsm:Zb c) :
  Calls Tryz.prog 23 #[cv,mv,xv,.int .i64 fuel] w (Xol c m x fuel w):=by
 have HC:=Lh hc
 have HM:=Lh hm
 have HX:=Lh hx
 have HL:=Lh hL
 have HP:=Lh hp
 obtain ⟨cf,cg,rfl,hcf,hcg,hg64⟩:=hc
 obtain ⟨fa,fc,rfl⟩:=hcf.form
 obtain ⟨ga,gc,rfl⟩:=hcg.form
 obtain ⟨mg,mn,rfl,hmg,hmn⟩:=hm
 obtain ⟨va,vc,rfl⟩:=hmg.form
 obtain ⟨na,nc,rfl⟩:=hmn.form
 obtain ⟨xg,rfl,hxg,hx47⟩:=hx
 obtain ⟨xa,xc,rfl⟩:=hxg.form
 obtain ⟨cfn,hcfn⟩:∃ n,n=c.fields.length:=⟨_,rfl⟩
 obtain ⟨cgn,hcgn⟩:∃ n,n=c.funcs.length:=⟨_,rfl⟩
 obtain ⟨mgn,hmgn⟩:∃ n,n=m.globals.length:=⟨_,rfl⟩
 obtain ⟨mnn,hmnn⟩:∃ n,n=m.nodes.length:=⟨_,rfl⟩
 obtain ⟨xan,hxan⟩:∃ n,n=x.args.length:=⟨_,rfl⟩
 rw [←hcfn,← hcgn] at HC ⊢
 rw [←hmgn,← hmnn] at HM ⊢
 rw [←hxan] at HX ⊢
 clear hcf hcg hmg hmn hxg hL hp hcfn hcgn hmgn hmnn hxan
 obtain ⟨W,hW⟩:∃ W,W=((((w.alloc (.cells #[.slice fa cfn fc,.int .i64 c.globals,.slice ga cgn gc] 25)).alloc (.cells #[.slice va mgn vc,.slice na mnn nc] 52)).alloc (.cells #[.string x.proc,.slice xa xan xc] 27)).alloc (.cells (X8 0 0 0 0) 57)).alloc (.cells #[.slice none 0 0,.slice none 0 0] 52):=⟨_,rfl⟩
 have hWb:Hid (Below w.heap.size w W):=by rw [hW];exact Lh (((((Xa _ _).then (Xa _ _)).then (Xa _ _)).then (Xa _ _)).then (Xa _ _))
 have hWB:B≤W.heap.size:=Nat.le_trans hB hWb.out.size
 have hO:Hid (Y7 W (w.heap.size+1+1+1) 0 0 0 0∧W.heap[w.heap.size+1+1+1+1]?=some (.cells #[.slice none 0 0,.slice none 0 0] 52 (0,0))):=Lh (by
  rw [hW]
  refine ⟨?_,?_⟩
  ·unfold Y7
   rw [Below.heap_alloc _ _ _ (by simp)]
   have:=heap_alloc_new (((w.alloc (.cells #[.slice fa cfn fc,.int .i64 c.globals,.slice ga cgn gc] 25)).alloc (.cells #[.slice va mgn vc,.slice na mnn nc] 52)).alloc (.cells #[.string x.proc,.slice xa xan xc] 27)) (.cells (X8 0 0 0 0) 57)
   simpa using this
  ·have:=heap_alloc_new ((((w.alloc (.cells #[.slice fa cfn fc,.int .i64 c.globals,.slice ga cgn gc] 25)).alloc (.cells #[.slice va mgn vc,.slice na mnn nc] 52)).alloc (.cells #[.string x.proc,.slice xa xan xc] 27)).alloc (.cells (X8 0 0 0 0) 57)) (.cells #[.slice none 0 0,.slice none 0 0] 52)
   simpa using this)
 have hsz:Hid (W.heap.size=w.heap.size+5):=by rw [hW];exact Lh (by simp)
 unfold X8 at hW
 go_enter Tryz.func23,Tryz.ntmps23
 go_wp2_with fail
 rw [←hW]
 clear hW
 refine (HP.out c m x fuel _ _ _ B W (HL.out.below hWb.out) hWB (HC.out.below (hWb.out.mono hB)) (HM.out.below (hWb.out.mono hB)) (HX.out.below (hWb.out.mono hB)) hsm).mono ?_
 rintro e w1 hPP
 obtain ⟨er,o,ga1,na1,la1,gn1,gc1,nn1,nc1,ln1,lc1,rfl,hE,hR,hb1⟩:=hPP.rd
 have HE:=Lh hE
 have HR:=Lh hR
 have HB1:=Lh (hWb.out.then hb1)
 have hO1:Hid (Y7 w1 (w.heap.size+1+1+1) 0 0 0 0∧w1.heap[w.heap.size+1+1+1+1]?=some (.cells #[.slice none 0 0,.slice none 0 0] 52 (0,0))):=Lh ⟨Yk hb1 hO.out.1,Yk hb1 hO.out.2⟩
 have hs1:w.heap.size+5≤w1.heap.size:=by have h1:=hsz.out;have h2:=hb1.size;omega
 clear hPP hE hR hb1
 unfold Xap X8
 obtain ⟨W2,hW2⟩:∃ u,u=(w1.alloc (.cells #[.int .i64 o.fault,.int .i64 o.value,.int .i64 o.compares,.int .i64 o.nodes,.int .i64 0] 57)).alloc (.cells #[.slice ga1 gn1 gc1,.slice na1 nn1 nc1] 52):=⟨_,rfl⟩
 have hb2:Below w1.heap.size w1 W2:=by rw [hW2];exact (Xa _ _).then (Xa _ _)
 have hO2:Hid (Y7 W2 (w.heap.size+1+1+1) 0 0 0 0∧W2.heap[w.heap.size+1+1+1+1]?=some (.cells #[.slice none 0 0,.slice none 0 0] 52 (0,0))):=Lh ⟨Yk hb2 hO1.out.1,Yk hb2 hO1.out.2⟩
 have k1:Hid (Xo W2 w1.heap.size [.int .i64 o.fault,.int .i64 o.value,.int .i64 o.compares,.int .i64 o.nodes,.int .i64 0]):=by rw [hW2];exact Lh (Xd.alloc _)
 have k2:Hid (Xo W2 (w1.heap.size+1) [.slice ga1 gn1 gc1,.slice na1 nn1 nc1]):=by
  rw [hW2]
  have:=@Xd (w1.alloc (.cells #[.int .i64 o.fault,.int .i64 o.value,.int .i64 o.compares,.int .i64 o.nodes,.int .i64 0] 57)) #[.slice ga1 gn1 gc1,.slice na1 nn1 nc1] 52
  exact Lh (by simpa using this)
 have HB2:=Lh hb2
 clear hb2
 go_upto_region 2 with fail
 rw [←hW2]
 clear hW2
 have a0:=k1.out 0 _ rfl
 have a1:=k1.out 1 _ rfl
 have a2:=k1.out 2 _ rfl
 have a3:=k1.out 3 _ rfl
 have a4:=k1.out 4 _ rfl
 have b0:=k2.out 0 _ rfl
 have b1:=k2.out 1 _ rfl
 have za:=Bl a0
 have zb:=Bl b0
 have o0:=Xs hO2.out.1 0 (.int .i64 0) rfl
 have fo0:W2.frozen? ⟨w.heap.size+1+1+1,0,none⟩=false:=Fz hO2.out.1
 have o1:=Xs hO2.out.1 1 (.int .i64 0) rfl
 have fo1:W2.frozen? ⟨w.heap.size+1+1+1,1,none⟩=false:=Fz hO2.out.1
 have o2:=Xs hO2.out.1 2 (.int .i64 0) rfl
 have fo2:W2.frozen? ⟨w.heap.size+1+1+1,2,none⟩=false:=Fz hO2.out.1
 have o3:=Xs hO2.out.1 3 (.int .i64 0) rfl
 have fo3:W2.frozen? ⟨w.heap.size+1+1+1,3,none⟩=false:=Fz hO2.out.1
 have o4:=Xs hO2.out.1 4 (.int .i64 0) rfl
 have fo4:W2.frozen? ⟨w.heap.size+1+1+1,4,none⟩=false:=Fz hO2.out.1
 have u0:W2.cell? ⟨w.heap.size+1+1+1+1,0,none⟩=some (.slice none 0 0):=by rw [cell_of_row _ _ _ _ _ _ hO2.out.2];rfl
 have fu0:W2.frozen? ⟨w.heap.size+1+1+1+1,0,none⟩=false:=Fz hO2.out.2
 have u1:W2.cell? ⟨w.heap.size+1+1+1+1,1,none⟩=some (.slice none 0 0):=by rw [cell_of_row _ _ _ _ _ _ hO2.out.2];rfl
 have fu1:W2.frozen? ⟨w.heap.size+1+1+1+1,1,none⟩=false:=Fz hO2.out.2
 have zo:=Bl o0
 have zu:=Bl u0
 obtain ⟨W3,hW3⟩:∃ u,u=(((((((W2.setCell ⟨w.heap.size+1+1+1,0,none⟩ (.int .i64 o.fault)).setCell ⟨w.heap.size+1+1+1,1,none⟩ (.int .i64 o.value)).setCell ⟨w.heap.size+1+1+1,2,none⟩ (.int .i64 o.compares)).setCell ⟨w.heap.size+1+1+1,3,none⟩ (.int .i64 o.nodes)).setCell ⟨w.heap.size+1+1+1,4,none⟩ (.int .i64 0)).setCell ⟨w.heap.size+1+1+1+1,0,none⟩ (.slice ga1 gn1 gc1)).setCell ⟨w.heap.size+1+1+1+1,1,none⟩ (.slice na1 nn1 nc1)):=⟨_,rfl⟩
 have hf3:Hid (Y7 W3 (w.heap.size+1+1+1) o.fault o.value o.compares o.nodes∧W3.heap[w.heap.size+1+1+1+1]?=some (.cells #[.slice ga1 gn1 gc1,.slice na1 nn1 nc1] 52 (0,0))∧Xp [w.heap.size+1+1+1,w.heap.size+1+1+1+1] [w.heap.size+1+1+1,w.heap.size+1+1+1+1] W2 W3):=Lh (by
  have f1:=Xf2 hO2.out.1 o
  have r2:(Xd1 W2 (w.heap.size+1+1+1) o).heap[w.heap.size+1+1+1+1]?=some (.cells #[.slice none 0 0,.slice none 0 0] 52 (0,0)):=by rw [f1.2.block _ zu (by simp)];exact hO2.out.2
  have f2:=Xfw r2 (.slice ga1 gn1 gc1) (.slice na1 nn1 nc1)
  have e3:W3=Xge (Xd1 W2 (w.heap.size+1+1+1) o) (w.heap.size+1+1+1+1) (.slice ga1 gn1 gc1) (.slice na1 nn1 nc1):=hW3
  rw [e3]
  refine ⟨?_,f2.1,?_⟩
  ·have h1:=f1.1
   unfold Y7 at *
   rw [f2.2.block _ (La h1) (by simp)];exact h1
  ·exact ((f1.2.wide (F:=[w.heap.size+1+1+1,w.heap.size+1+1+1+1]) (fun b hb=>by simp at hb;simp [hb]) (fun b hb=>.inr hb)).trans (f2.2.wide (F:=[w.heap.size+1+1+1,w.heap.size+1+1+1+1]) (fun b hb=>by simp at hb;simp [hb]) (fun b hb=>.inr hb))))
 go_region
 rw [←hW3]
 clear hW3
 go_wp2_with fail
 have hsame:∀ b,W.heap.size≤b→b<w1.heap.size→W3.drew.heap[b]?=w1.heap[b]?:=fun b h1 h2=>by
  have h3:=hsz.out
  have h4:b<W2.heap.size:=Nat.lt_of_lt_of_le h2 HB2.out.size
  show W3.heap[b]?=w1.heap[b]?
  rw [hf3.out.2.2.block b h4 (by simp;omega),HB2.out.block b h2]
 have hfin:Below w.heap.size w W3.drew:=by
  have h1:=HB1.out.then HB2.out
  exact Xh (h1.trans (hf3.out.2.2.below (fun b hb=>by simp at hb;omega) h1.size)) 1
 exact bodyPost_ret (v:=.tuple #[Xap o,.agg #[.slice ga1 gn1 gc1,.slice na1 nn1 nc1],.int .i64 er]) (Xhj (W:=W3.drew) (o:=o) (p:=8) (q:=9) (u:=10) rfl hf3.out.1 hf3.out.2.1 _ _ rfl rfl rfl) rfl ⟨er,o,ga1,na1,la1,gn1,gc1,nn1,nc1,ln1,lc1,rfl,HE.out,(HR.out.keep hsame).low hWb.out.size,hfin⟩
end Go.Proofs.YtbmeoklmachjpaaGreatDoor
