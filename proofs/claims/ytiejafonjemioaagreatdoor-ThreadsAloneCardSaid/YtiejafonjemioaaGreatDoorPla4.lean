import Derived.Test.YtiejafonjemioaaGreatDoorAsk
import Derived.Test.YtiejafonjemioaaGreatDoorReg
set_option maxHeartbeats 20000000
set_option maxRecDepth 1000000
set_option linter.unusedVariables false
set_option linter.unusedSimpArgs false
namespace Go.Proofs.YtiejafonjemioaaGreatDoor
open Go.RowKit
variable {t:TypeId} {n k B b j:Nat} {cells:List Value} {w W V V':World} {g gv c0 c1 c2 m0 m1 x0 x1:Value} {c:Cod} {cs:Array Value}
theorem Xog {W7 w8:World} {T:TypeId} {sz:Nat} {na:Option Addr} {nc:Nat} {o:Obj} (h:W7.ownsRow 0 T sz (.slice na n nc) n cells) (hn:n=k) (hb:Below W7.drew.heap.size W7.drew w8):(w8.alloc o).ownsRow 0 T sz (.slice na k nc) k cells:=by
 subst hn
 refine Qi h (fun b aB=>?_)
 have aA:=Ve h b aB
 have h1:w8.heap[b]?=W7.heap[b]?:=hb.block b aA
 have h2:b<w8.heap.size:=Nl aA hb.size
 rw [Ha _ _ _ h2,h1]
theorem Xp.newer {F F' F'':List Nat} {w':World} (h:Xp F F' w w') (h2:∀ b∈F'',b∈F∨w.heap.size≤b):Xp F F'' w w':=⟨h.os,h.tape,h.output,h.size,h.block,h2⟩
theorem Yj.funs {fv:Value} (h:Yj B w (.agg #[fv,g,gv]) c):Xf B w 5 (Zl B) gv c.funcs:=by
 obtain ⟨a,b,h1,_,h2,_⟩:=h
 simp only [Value.agg.injEq,Array.mk.injEq,List.cons.injEq,and_true] at h1
 rw [h1.2.2];exact h2
theorem Yj.fieldAt {fa:Option Addr} {fc i:Nat} {k:Int} (h:Yj B w (.agg #[.slice fa c.fields.length fc,g,gv]) c) (hi:c.fields[i]?=some k):∃ fb fo,fa=some ⟨fb,fo,none⟩∧fb<B∧w.cell? ⟨fb,fo+i,none⟩=some (.int .i64 k):=by
 obtain ⟨a,b,h1,h3,h2,_⟩:=h
 simp only [Value.agg.injEq,Array.mk.injEq,List.cons.injEq,and_true] at h1
 rw [←h1.1] at h3
 obtain ⟨a0,aA,aB,_,_,_,hE⟩:=h3
 obtain ⟨rfl,rfl⟩:fa=a0∧fc=aA:=by simpa using aB
 rcases hE with h0|⟨nb,no,rfl,hb,hE⟩
 ·rw [h0] at hi;simp at hi
 ·have:=(hE i k hi).1
  rw [Nat.mul_one] at this
  exact ⟨nb,no,rfl,hb,this⟩
theorem X7 (w:World) (o:Obj):Below w.heap.size w (w.alloc o).drew:=Xh (Xa w o) 1
theorem Xjk (hk:k≤1048576):Yv (w.alloc (.cells (Xx (List.replicate k 0)) 3)) (.slice (some ⟨w.heap.size,0,none⟩) k k) (List.replicate k 0) [w.heap.size]:=by
 refine ⟨⟨by simp,.inr ⟨w.heap.size,k,_,by simp,Nat.zero_le _,Hn w _,by simp,by unfold maxLen;omega,by simp [Xx],by simp [Xx]⟩⟩,by simp [Value.ownBlock],fun n hn=>?_⟩
 rw [List.mem_replicate] at hn
 rw [hn.2];unfold in64;omega
def Xvb (W:World) (b j:Nat) (v:Value):Prop:=W.setCell ⟨b,j,none⟩ v=W∧W.cell? ⟨b,j,none⟩=some v∧W.frozen? ⟨b,j,none⟩=false
theorem Xs7 {v:Value} (h:W.heap[b]?=some (.cells cs t (0,0))) (hv:cs[j]?=some v):Xvb W b j v:=
 ⟨Xg h hv,by rw [cell_of_row _ _ _ _ _ _ h];exact hv,Fz h⟩
def PBx (c0 c1 c2 m0 m1 x0 x1:Value) (n:Nat) (V:World):Prop:=V.heap[n]?=some (.cells #[c0,c1,c2] 25 (0,0))∧V.heap[n+1]?=some (.cells #[m0,m1] 28 (0,0))∧V.heap[n+1+1]?=some (.cells #[x0,x1] 80 (0,0))∧Y7 V (n+1+1+1) 0 0 0 0∧V.heap[n+1+1+1+1]?=some (.cells #[.slice none 0 0,.slice none 0 0] 28 (0,0))∧V.heap[n+1+1+1+1+1]?=some (.cells #[.slice none 0 0] 120 (0,0))
theorem PBx.keep (h:PBx c0 c1 c2 m0 m1 x0 x1 n V) (hb:Below V.heap.size V V'):PBx c0 c1 c2 m0 m1 x0 x1 n V':=⟨Yk hb h.1,Yk hb h.2.1,Yk hb h.2.2.1,Yk hb h.2.2.2.1,Yk hb h.2.2.2.2.1,Yk hb h.2.2.2.2.2⟩
theorem cell_row (h:V.heap[b]?=some (.cells cs t (0,0))):V.cell? ⟨b,j,none⟩=cs[j]?:=cell_of_row _ _ _ _ _ _ h
theorem PBx.cel (h:PBx c0 c1 c2 m0 m1 x0 x1 n V):V.cell? ⟨n,0,none⟩=some c0∧V.cell? ⟨n,1,none⟩=some c1∧V.cell? ⟨n,2,none⟩=some c2∧V.cell? ⟨n+1,0,none⟩=some m0∧V.cell? ⟨n+1,1,none⟩=some m1∧V.cell? ⟨n+1+1,0,none⟩=some x0∧V.cell? ⟨n+1+1,1,none⟩=some x1∧n<V.heap.size∧n+1<V.heap.size∧n+1+1<V.heap.size:=
 ⟨cell_row h.1,cell_row h.1,cell_row h.1,cell_row h.2.1,cell_row h.2.1,cell_row h.2.2.1,cell_row h.2.2.1,(La h.1),(La h.2.1),(La h.2.2.1)⟩
theorem PBx.code (h:PBx c0 c1 c2 m0 m1 x0 x1 n V) (e:V'.heap[n]?=V.heap[n]?):V'.cell? ⟨n,0,none⟩=some c0∧V'.cell? ⟨n,1,none⟩=some c1∧V'.cell? ⟨n,2,none⟩=some c2∧n<V'.heap.size:=
 have h:=e.trans h.1
 ⟨cell_row h,cell_row h,cell_row h,(La h)⟩
theorem PBx.outs (h:PBx c0 c1 c2 m0 m1 x0 x1 n V) :
  Xvb V (n+1+1+1) 0 (.int .i64 0)∧Xvb V (n+1+1+1) 1 (.int .i64 0)∧Xvb V (n+1+1+1) 2 (.int .i64 0)∧Xvb V (n+1+1+1) 3 (.int .i64 0)∧Xvb V (n+1+1+1) 4 (.int .i64 0)∧Xvb V (n+1+1+1+1) 0 (.slice none 0 0)∧Xvb V (n+1+1+1+1) 1 (.slice none 0 0)∧Xvb V (n+1+1+1+1+1) 0 (.slice none 0 0)∧n+1+1+1<V.heap.size∧n+1+1+1+1<V.heap.size∧n+1+1+1+1+1<V.heap.size:=
 ⟨Xs7 h.2.2.2.1 rfl,Xs7 h.2.2.2.1 rfl,Xs7 h.2.2.2.1 rfl,Xs7 h.2.2.2.1 rfl,Xs7 h.2.2.2.1 rfl,Xs7 h.2.2.2.2.1 rfl,Xs7 h.2.2.2.2.1 rfl,Xs7 h.2.2.2.2.2 rfl,(La h.2.2.2.1),(La h.2.2.2.2.1),(La h.2.2.2.2.2)⟩
theorem six_alloc (w:World) (a b c d e f:Obj):let W:=(((((w.alloc a).alloc b).alloc c).alloc d).alloc e).alloc f
  W.heap[w.heap.size]?=some a∧W.heap[w.heap.size+1]?=some b∧W.heap[w.heap.size+1+1]?=some c∧W.heap[w.heap.size+1+1+1]?=some d∧W.heap[w.heap.size+1+1+1+1]?=some e∧W.heap[w.heap.size+1+1+1+1+1]?=some f:=by
 have n (w:World) (o:Obj):(w.alloc o).heap[w.heap.size]?=some o:=Hn w o
 have k (w:World) (o x:Obj) (i:Nat) (h:w.heap[i]?=some x):(w.alloc o).heap[i]?=some x:=by rw [Ha _ _ _ (La h)];exact h
 have z (w:World) (o:Obj):(w.alloc o).heap.size=w.heap.size+1:=by simp
 refine ⟨k _ _ _ _ (k _ _ _ _ (k _ _ _ _ (k _ _ _ _ (k _ _ _ _ (n _ _))))),?_,?_,?_,?_,?_⟩
 ·rw [←z w a];exact k _ _ _ _ (k _ _ _ _ (k _ _ _ _ (k _ _ _ _ (n _ _))))
 ·rw [←z w a,← z _ b];exact k _ _ _ _ (k _ _ _ _ (k _ _ _ _ (n _ _)))
 ·rw [←z w a,← z _ b,← z _ c];exact k _ _ _ _ (k _ _ _ _ (n _ _))
 ·rw [←z w a,← z _ b,← z _ c,← z _ d];exact k _ _ _ _ (n _ _)
 ·rw [←z w a,← z _ b,← z _ c,← z _ d,← z _ e];exact n _ _
theorem PSt.outs {A:Nat} {wr:World} {bm bo bl bc:Nat} {m:Mch} {p:Ply} {f v k:Int} {Fm Fg Fn:List Nat} {nv lv:Value} (h:PSt A W wr bm bo bl bc m p f v k Fm gv nv cells Fg Fn lv) :
  Xvb wr bc 0 (.int .i64 f)∧Xvb wr bc 1 (.int .i64 v)∧Xvb wr bc 2 (.int .i64 k)∧Xvb wr bc 3 (.int .i64 p.nodes)∧Xvb wr bc 4 (.int .i64 0)∧Xvb wr bo 0 gv∧Xvb wr bo 1 nv∧Xvb wr bl 0 lv∧bc<wr.heap.size∧bo<wr.heap.size∧bl<wr.heap.size:=
 ⟨Xs7 h.out rfl,Xs7 h.out rfl,Xs7 h.out rfl,Xs7 h.out rfl,Xs7 h.out rfl,Xs7 h.mem.box rfl,Xs7 h.mem.box rfl,Xs7 h.log.box rfl,(La h.out),(La h.mem.box),(La h.log.box)⟩
theorem Xk3 (c:Cod) (m:Mm) (x:Cal) (fuel:Int) (fa ga va na xa:Option Addr) (fc gc vc nc xc B:Nat) (w:World) (hL:Qa w) (hB:B≤w.heap.size) (hc:Yj B w (.agg #[.slice fa c.fields.length fc,.int .i64 c.globals,.slice ga c.funcs.length gc]) c) (hm:MmV B w (.agg #[.slice va m.globals.length vc,.slice na m.nodes.length nc]) m) (hx:J8 B w (.agg #[.string x.proc,.slice xa x.args.length xc]) x) (hs:Xv c) (hft:Q7 c m=true) (hsm:Zb c) (hgv:Yd c x fuel=0) :
  Calls Tryz.prog 78 #[.agg #[.slice fa c.fields.length fc,.int .i64 c.globals,.slice ga c.funcs.length gc],.agg #[.slice va m.globals.length vc,.slice na m.nodes.length nc],.agg #[.string x.proc,.slice xa x.args.length xc],.int .i64 fuel] w (Xdz c m x fuel w):=by
 have hD:=Lh hft
 have cK:=Lh hgv
 clear hft hgv
 obtain ⟨W,hW⟩:∃ W,W=(((((w.alloc (.cells #[.slice fa c.fields.length fc,.int .i64 c.globals,.slice ga c.funcs.length gc] 25)).alloc (.cells #[.slice va m.globals.length vc,.slice na m.nodes.length nc] 28)).alloc (.cells #[.string x.proc,.slice xa x.args.length xc] 80)).alloc (.cells (X8 0 0 0 0) 84)).alloc (.cells #[.slice none 0 0,.slice none 0 0] 28)).alloc (.cells #[.slice none 0 0] 120):=⟨_,rfl⟩
 have fZ:Hid (Below w.heap.size w W):=by rw [hW];exact (((((Xa _ _).then (Xa _ _)).then (Xa _ _)).then (Xa _ _)).then (Xa _ _)).then (Xa _ _)
 have jZ:Hid (W.heap.size=w.heap.size+6):=by rw [hW];exact Lh (by simp)
 have bb:Hid (PBx (.slice fa c.fields.length fc) (.int .i64 c.globals) (.slice ga c.funcs.length gc) (.slice va m.globals.length vc) (.slice na m.nodes.length nc) (.string x.proc) (.slice xa x.args.length xc) w.heap.size W):=by rw [hW];exact Lh (six_alloc w _ _ _ _ _ _)
 have HC:=Lh hc
 have HM:=Lh hm
 have HX:=Lh hx
 have HL:=Lh hL
 have jB:B≤W.heap.size:=by have:=jZ.out;omega
 clear hc hm hx hL
 obtain ⟨i0,i1,i2,m0,m1,x0,x1,z0,z1,z2⟩:=bb.out.cel
 go_enter Tryz.func78,Tryz.ntmps78
 unfold X8 at hW
 go_upto_region 1 with fail
 rw [←hW]
 have HW:=Lh hW
 clear hW
 go_wp2_with fail
 refine (Jm c _ B W (HL.out.below fZ.out) jB (HC.out.below (fZ.out.mono hB))).mono ?_
 rintro e w1 ⟨rfl,gA⟩
 rw [Zg hs]
 have eJ:=Lh (fZ.out.then gA)
 have hH:=Lh (bb.out.keep gA)
 clear gA
 clear i0 i1 i2 m0 m1 x0 x1 z0 z1 z2
 obtain ⟨i0,i1,i2,m0,m1,x0,x1,z0,z1,z2⟩:=hH.out.cel
 go_wp2_with fail
 refine (Xdi c _ m _ B w1 (Nt hB eJ.out.size) (HC.out.below (eJ.out.mono hB)) (HM.out.below (eJ.out.mono hB))).mono ?_
 rintro e w2 ⟨rfl,gB⟩
 rw [hD.out]
 have eK:=Lh (eJ.out.then gB)
 have fQ:=Lh (hH.out.keep gB)
 clear gB
 clear i0 i1 i2 m0 m1 x0 x1 z0 z1 z2
 obtain ⟨i0,i1,i2,m0,m1,x0,x1,z0,z1,z2⟩:=fQ.out.cel
 go_wp2_with fail
 refine (Xb5 c x fuel _ _ B w2 (Nt hB eK.out.size) (HC.out.below (eK.out.mono hB)) (HX.out.below (eK.out.mono hB)) hs hsm).mono ?_
 rintro e w3 hP
 rcases hP with ⟨h0,_⟩|⟨h0,mq,fv,hR,rfl,F1,eT,dZ,gC⟩
 ·exact absurd cK.out h0
 obtain ⟨hI,hJ,rfl⟩:=eT.form
 obtain ⟨hK,dC⟩:∃ n,n=mq.frames.length:=⟨_,rfl⟩
 rw [←dC] at eT ⊢
 have iO:=Lh dC
 clear dC
 have HR:=Lh hR
 have fO:=Lh eT
 have fG:Hid (∀ b∈F1,w2.heap.size≤b):=Lh dZ
 have gU:Hid (w.heap.size+6≤w2.heap.size):=Lh (by have h1:=(La fQ.out.2.2.2.2.2);omega)
 have iK:=Lh (eK.out.then gC)
 have fR:=Lh (fQ.out.keep gC)
 clear gC hR eT dZ
 obtain ⟨W4,dS⟩:∃ W,W=w3.alloc (.cells (Xb (.slice hI hK hJ) mq) 51):=⟨_,rfl⟩
 have eR:Below w3.heap.size w3 W4:=by rw [dS];exact Xa _ _
 obtain ⟨bm,eS⟩:∃ b,b=w3.heap.size:=⟨_,rfl⟩
 have cU:W4.heap[bm]?=some (.cells (Xb (.slice hI hK hJ) mq) 51 (0,0)):=by rw [dS,eS];exact Hn _ _
 have hS:Hid (X3 W4 bm mq (bm::F1)):=Lh (Xt.2 ⟨_,F1,cU,fO.out.keep (fun b hb=>eR.block b (fO.out.lt b hb)),rfl,fun e=>by have:=fO.out.lt _ e;omega⟩)
 have gE:w.heap.size+6≤bm:=by have h1:=(La fR.out.2.2.2.2.2);omega
 have eN:Hid (∀ b∈bm::F1,w.heap.size+6≤b):=Lh (fun b hb=>by
  rw [List.mem_cons] at hb
  rcases hb with rfl|hb
  ·exact gE
  ·have h1:=fG.out b hb;have h2:=gU.out;omega)
 have bA:=Lh (iK.out.then eR)
 have bG:=Lh (fR.out.keep eR)
 clear i0 i1 i2 m0 m1 x0 x1 z0 z1 z2
 obtain ⟨i0,i1,i2,m0,m1,x0,x1,z0,z1,z2⟩:=fR.out.cel
 unfold Xi
 unfold Xb at dS ⊢
 have kK:=Lh eS
 clear eR cU
 go_upto_region 6 with fail
 rw [←dS,← eS]
 clear dS eS
 clear i0 i1 i2 m0 m1 x0 x1 z0 z1 z2
 obtain ⟨i0,i1,i2,m0,m1,x0,x1,z0,z1,z2⟩:=bG.out.cel
 obtain ⟨⟨-,o0,cM⟩,⟨-,o1,bD⟩,⟨-,o2,cN⟩,⟨-,o3,cO⟩,⟨-,o4,cP⟩,⟨-,u0,cQ⟩,⟨-,u1,bQ⟩,⟨-,l0,cL⟩,z3,z4,z5⟩:=bG.out.outs
 have fK:=Lh (HM.out.below (bA.out.mono hB))
 obtain ⟨kS,lC,cS,iY,hQ⟩:=fK.out
 simp only [Value.agg.injEq,Array.mk.injEq,List.cons.injEq,and_true] at cS
 obtain ⟨rfl,rfl⟩:=cS
 have cE:=Xn1.1 hD.out
 have iC:m.globals.length≤8:=by have h1:=cE.gl;have h2:=hs.1.2.2.2.1;omega
 have iF:m.nodes.length≤4096:=cE.len
 have dO:=Lh cE
 have iR:=Lh hQ
 clear cE hQ
 go_wp2_with fail
 refine (Vc m.globals _ B W4 iY (by omega)).mono ?_
 rintro e w5 ⟨a5,c5,Fg,rfl,hT,eM,iE,gD⟩
 have hF:=Lh hT
 have fS:=Lh (bG.out.keep gD)
 clear i0 i1 i2 m0 m1 x0 x1 z0 z1 z2
 obtain ⟨i0,i1,i2,m0,m1,x0,x1,z0,z1,z2⟩:=fS.out.cel
 clear o0 o1 o2 o3 o4 u0 u1 l0 cM bD cN cO cP cQ bQ cL z3 z4 z5
 obtain ⟨⟨-,o0,cM⟩,⟨-,o1,bD⟩,⟨-,o2,cN⟩,⟨-,o3,cO⟩,⟨-,o4,cP⟩,⟨-,u0,cQ⟩,⟨-,u1,bQ⟩,⟨-,l0,cL⟩,z3,z4,z5⟩:=fS.out.outs
 obtain ⟨W6,dT⟩:∃ u,u=w5.setCell ⟨(w.heap.size+1+1+1+1),0,none⟩ (.slice a5 m.globals.length c5):=⟨_,rfl⟩
 have fX:Xp [(w.heap.size+1+1+1+1)] [(w.heap.size+1+1+1+1)] w5 W6:=by rw [dT];exact Xw
 have iW:(w.heap.size+1+1+1+1)<W4.heap.size:=(La bG.out.2.2.2.2.1)
 have eE:Hid (Qs W6 ((w.heap.size+1+1+1+1)) ⟨m.globals,[]⟩ (.slice a5 m.globals.length c5) (.slice none 0 0) [] Fg []):=Lh (by
  have h1:=heap_setCell_same _ ((w.heap.size+1+1+1+1)) 0 _ _ (.slice a5 m.globals.length c5) fS.out.2.2.2.2.1
  refine ⟨by rw [dT];simpa using h1,hF.out.keep (fun b hb=>fX.block b (hF.out.lt b hb) (fun e=>by have h2:=eM b hb;rw [List.mem_singleton] at e;omega)),World.ownsRow_nil _ _ _ _,⟨rfl,rfl⟩,?_⟩
  simp only [Value.ownBlock,Option.map_none,Option.toList_none,List.append_nil,List.nodup_cons]
  refine ⟨fun e=>by have:=eM _ e;omega,?_⟩
  match Fg,iE with
  | [],_=>simp
  | [a],_=>simp)
 have cT:Hid (Xp [(w.heap.size+1+1+1+1)] ((w.heap.size+1+1+1+1)::(Fg++((Value.slice none 0 0).ownBlock.toList++[]))) W4 W6):=Lh (((Xp.of_below (F:=[(w.heap.size+1+1+1+1)]) gD).trans fX).newer (fun b hb=>by
  simp only [Value.ownBlock,Option.map_none,Option.toList_none,List.append_nil,List.mem_cons] at hb
  rcases hb with rfl|hb
  ·left;simp
  ·right;exact eM b hb))
 go_upto_region 7 with fail
 rw [←dT]
 have kN:=Lh dT
 clear dT hT eM iE gD fX
 have iJ:W6.cell? ⟨w.heap.size+1,1,none⟩=some (.slice na m.nodes.length nc):=cT.out.cell (show W4.cell? ⟨w.heap.size+1,1,none⟩=some (.slice na m.nodes.length nc) from Cr bG.out.2.1 rfl) (by simp)
 have kG:=Bl iJ
 go_wp2_with fail
 go_loopg [49] (m.nodes.length+1) (fun gk i wr=>∃ k:Nat,k≤m.nodes.length∧i=.int .i64 k∧m.nodes.length - k<gk∧Hid (∃ nv cells Fn,Qs wr ((w.heap.size+1+1+1+1)) ⟨m.globals,m.nodes.take k⟩ (.slice a5 m.globals.length c5) nv cells Fg Fn∧Xp [(w.heap.size+1+1+1+1)] ((w.heap.size+1+1+1+1)::(Fg++(nv.ownBlock.toList++Fn))) W4 wr))
 case atStart=>exact ⟨0,Nat.zero_le _,rfl,by omega,Lh ⟨_,_,_,eE.out,cT.out⟩⟩
 case round=>
  obtain ⟨k,hk,rfl,kX,iH⟩:=hrel
  obtain ⟨nv,cells,Fn,eD,eF⟩:=iH.out
  clear iH
  have aS:=Lh eD
  have aV:=Lh eF
  clear eD eF
  by_cases jP:k<m.nodes.length
  ·obtain ⟨x1,bY⟩:∃ y,m.nodes[k]?=some y:=⟨_,Lg jP⟩
   have iT:=Lh bY
   have iX:Hid (Below B W4 wr):=Lh (aV.out.below (fun b hb=>by simp at hb;omega) (Nt hB bA.out.size))
   obtain ⟨nb,no,jS,jT,iZ⟩:∃ nb no,na=some ⟨nb,no,none⟩∧nb<B∧Xbc B wr nb (no+k*2) x1:=by
    obtain ⟨a0,fT,jC,_,_,_,hE⟩:=iR.out
    obtain ⟨rfl,rfl⟩:na=a0∧nc=fT:=by simpa using jC
    rcases hE with h0|⟨nb,no,rfl,hb,hE⟩
    ·rw [h0] at bY;simp at bY
    ·exact ⟨nb,no,rfl,hb,(hE k x1 bY).below iX.out hb⟩
   subst jS
   obtain ⟨n0,⟨lv,n1,gP⟩,gW⟩:=iZ
   obtain ⟨la,lc,rfl⟩:=gP.form
   have iQ:=Lh gP
   have zn:=Bl n0
   have iB:x1.f.length≤12:=by
    have h1:=(dO.out.nodes x1 (Lm bY)).2.1
    have h2:=hs.1.2.1
    rw [List.any_eq_false] at h2
    have:=h2 _ (Lm h1)
    simp at this
    omega
   obtain ⟨cV,cW,gR⟩:=(Zs aS.out.row).2.2
   subst gR
   have gT:(m.nodes.take k).length=k:=by rw [List.length_take];omega
   have cY:=Lh gT
   have jL:(0:Int)≤(k:Int):=In _
   have jM:(k:Int)<(m.nodes.length:Int):=by omega
   obtain ⟨W7,eQ⟩:∃ W,W=wr.alloc (.cells #[.int .i64 x1.type,.slice la x1.f.length lc] 74):=⟨_,rfl⟩
   have dH:Below wr.heap.size wr W7:=by rw [eQ];exact Xa _ _
   have hY:Hid (Xo W7 wr.heap.size [.int .i64 x1.type,.slice la x1.f.length lc]):=by rw [eQ];exact Lh Xd
   clear bY gP
   go_upto_region 10 with fail
   rw [←eQ]
   clear eQ
   obtain ⟨ib,gL⟩:∃ b,b=wr.heap.size:=⟨_,rfl⟩
   have kL:=Lh gL
   have y0:=hY.out 0 _ rfl
   have y1:=hY.out 1 _ rfl
   rw [←gL] at y0 y1 ⊢
   have zy:=Bl y0
   have hC:=Lh dH
   have eH:Hid (W7.ownsRow 0 74 2 (.slice cV (m.nodes.take k).length cW) (m.nodes.take k).length cells):=Lh (Qi aS.out.row (fun b hb=>dH.block b (Ve aS.out.row b hb)))
   have bT:W7.heap[(w.heap.size+1+1+1+1)]?=some (.cells #[.slice a5 m.globals.length c5,.slice cV (m.nodes.take k).length cW] 28 (0,0)):=Yk dH aS.out.box
   have fD:=Lh bT
   have v1:=Cw bT 1 rfl
   have zv:=Bl v1
   have kT:B≤W7.heap.size:=Nt (Nt hB bA.out.size) (Nt aV.out.size dH.size)
   have fJ:Hid (Xf B W7.drew 1 Zd (.slice la x1.f.length lc) x1.f):=Lh ((iQ.out.ints (dH.mono (Nt (Nt hB bA.out.size) aV.out.size))).ints (Xh Br 1))
   clear gL bT dH
   have dW:(Value.slice cV (m.nodes.take k).length cW).ownBlock≠some ((w.heap.size+1+1+1+1)):=fun e=>by
    have cF:=aS.out.nodup
    rw [List.nodup_cons] at cF
    exact cF.1 (by rw [e];simp)
   rw [gT] at v1
   obtain ⟨ti,gS,gX,gY,gZ⟩:=info_parts Xfb
   clear gT
   go_region_law (first
    | (refine step_append_lies _ rfl (.tmp 54) (.tmp 61) 26 rfl 0 74 ti (.agg #[.int .i64 0,.slice none 0 0]) 2 32 Tryz.underlying26 gS gX gY gZ rfl (by decide) (.slice cV k cW) k cells rfl bV.out ⟨w8.heap.size,0,none⟩ 1 1 [.int .i64 x1.type,.slice a8 x1.f.length c8] rfl rfl bI.out (by simp [Value.oneCell']) (by omega) (by unfold maxLen;omega) (by omega) (Nat.zero_le _) (w8.heap.size+1) (by simp) ?_;intro g cap w9 ho hg aY gK;have fL:=Lh ho;have fF:=Lh hg;have fI:=Lh aY;have bH:=gF.out g w9 hg;have v9:w9.cell? ⟨(w.heap.size+1+1+1+1),1,none⟩=some (.slice cV k cW):=(Cr bH rfl);have kD:w9.frozen? ⟨(w.heap.size+1+1+1+1),1,none⟩=false:=(Fz bH);have kJ:=Bl v9;clear ho hg aY bH)
    | (go_simp;go_at_call 114;refine (Vc x1.f _ B W7.drew fJ.out (by omega)).mono ?_;rintro e w8 ⟨a8,c8,F8,rfl,dR,hN,jR,cZ⟩;have y0:=Xc cZ (show W7.drew.cell? _=_ from y0);have y1:=Xc cZ (show W7.drew.cell? _=_ from y1);have v1:=Xc cZ (show W7.drew.cell? _=_ from v1);have lJ:=Bl y0;have lI:=Bl v1;have hG:=Lh dR;have iN:=Lh hN;have iL:=Lh cZ;have bV:Hid ((w8.alloc (.cells #[.int .i64 x1.type,.slice a8 x1.f.length c8] 74)).ownsRow 0 74 2 (.slice cV k cW) k cells):=Lh (Xog eH.out cY.out cZ);have bI:Hid (∀ j u,([.int .i64 x1.type,.slice a8 x1.f.length c8]:List Value)[j]?=some u→(w8.alloc (.cells #[.int .i64 x1.type,.slice a8 x1.f.length c8] 74)).cell? ((⟨w8.heap.size,0,none⟩:Addr).add j)=some u):=Lh (fun j u hu=>(by rw [Xbt,Nat.zero_add,Y5];simpa using hu));have gF:Hid (∀ (g:Nat) w9,(w8.alloc (.cells #[.int .i64 x1.type,.slice a8 x1.f.length c8] 74)).grownBy w9 (Value.slice cV k cW).ownBlock→w9.heap[(w.heap.size+1+1+1+1)]?=some (.cells #[.slice a5 m.globals.length c5,.slice cV k cW] 28 (0,0))):=Lh (fun g w9 hg=>(by have h1:w8.heap[(w.heap.size+1+1+1+1)]?=_:=Yk cZ (show W7.drew.heap[(w.heap.size+1+1+1+1)]?=_ from fD.out);rw [hg.block _ (by have h2:=(La h1);simp;omega) (by rw [←cY.out];exact dW.symm),Ha _ _ _ (La h1),h1,cY.out]));clear dR hN cZ))
   all_goals
    have bN:=Lh (aS.out.addN (w4:=w8.alloc (.cells #[.int .i64 x1.type,.slice a8 x1.f.length c8] 74)) (w5:=w9) (x:=x1) (lv:=.slice a8 x1.f.length c8) (Fl:=F8) (g:=g) (cap:=cap) (((hC.out.then (Xh Br 1)).then iL.out).then (Xa _ _)) (hG.out.keep (fun b hb=>Ha _ _ _ (hG.out.lt b hb))) (fun b hb=>by have h1:=iN.out b hb;have h2:=hC.out.size;simp at h1;omega) jR gW (by have h1:=fL.out;show w9.ownsRow 0 _ 2 (.slice (some ⟨g,0,none⟩) ((m.nodes.take k).length+1) cap) ((m.nodes.take k).length+1) _;rw [cY.out];exact h1) (by rw [cY.out];exact fF.out) (by rw [cY.out];rcases fI.out with h1|h1;exact .inl h1;exact .inr (by rw [h1];simp)))
    have aM:Hid (∃ nv cells Fn,Qs (w9.setCell ⟨(w.heap.size+1+1+1+1),1,none⟩ (.slice (some ⟨g,0,none⟩) (k+1) cap)) ((w.heap.size+1+1+1+1)) ⟨m.globals,m.nodes.take (k+1)⟩ (.slice a5 m.globals.length c5) nv cells Fg Fn∧Xp [(w.heap.size+1+1+1+1)] ((w.heap.size+1+1+1+1)::(Fg++(nv.ownBlock.toList++Fn))) W4 (w9.setCell ⟨(w.heap.size+1+1+1+1),1,none⟩ (.slice (some ⟨g,0,none⟩) (k+1) cap))):=Lh (by
     have h1:=bN.out
     have e1:m.nodes.take (k+1)=m.nodes.take k++[x1]:=by rw [List.take_add_one,iT.out];rfl
     have e2:(⟨m.globals,m.nodes.take k⟩:Mm).nodes.length=k:=cY.out
     have h2:=aV.out
     rw [e2] at h1 h2
     rw [e1]
     exact ⟨_,_,_,h1.1,h2.trans h1.2.1⟩)
    clear bN
    go_wp2_with fail
    go_roundg (gk - 1)
    case measure=>omega
    case rel=>exact ⟨k+1,by omega,by go_num,by omega,aM⟩
  ·obtain rfl:k=m.nodes.length:=by omega
   rw [List.take_length] at aS
   have kY:∀ (fn:Go.Fn) (first cap:Array Value) (w:World),(Instr.makeFunc fn first cap).run Tryz.prog w=.ok (.func fn first cap) w:=fun _ _ _ _=>rfl
   have aZ:∀ b∈Uf (w.heap.size+1+1+1+1) nv Fg Fn,b=(w.heap.size+1+1+1+1)∨W4.heap.size≤b:=fun b hb=>by
    rcases aV.out.new b hb with h1|h1
    ·left;simpa using h1
    ·right;exact h1
   have aQ:∀ b,b<W4.heap.size→b≠(w.heap.size+1+1+1+1)→wr.heap[b]?=W4.heap[b]?:=fun b hb hn=>aV.out.block b hb (by simp;exact hn)
   have jA:w.heap.size+6≤W4.heap.size:=by have h1:=(La bG.out.2.2.2.2.2);omega
   have hV:Hid (PSt (w.heap.size+3) W4 wr bm ((w.heap.size+1+1+1+1)) ((w.heap.size+1+1+1+1+1)) ((w.heap.size+1+1+1)) mq ⟨m,[],0⟩ 0 0 0 (bm::F1) (.slice a5 m.globals.length c5) nv cells Fg Fn (.slice none 0 0)):=Lh (by
    have bZ:=hS.out.lt
    have n1:∀ b∈bm::F1,b≠(w.heap.size+1+1+1+1):=fun b hb e=>by have:=eN.out b hb;omega
    refine ⟨?_,aS.out,⟨by rw [aQ _ (by omega) (by omega)];exact bG.out.2.2.2.2.2,World.ownsRow_nil _ _ _ _,by simp [Value.ownBlock]⟩,by show wr.heap[(w.heap.size+1+1+1)]?=_;rw [aQ _ (by omega) (by omega)];exact bG.out.2.2.2.1,fun b hb bS=>?_,fun b hb bS=>?_,fun b hb bS=>?_,fun b hb bS=>?_,fun b hb bS=>?_,fun b hb bS=>?_,fun b hb=>?_,fun b hb=>?_,fun b hb=>?_,by omega,by omega,aV.out.below (fun b hb=>by simp at hb;omega) (by omega)⟩
    ·obtain ⟨fv,F0,h1,h2,h3,h4⟩:=Xt.1 hS.out
     exact Xt.2 ⟨fv,F0,by rw [aQ bm (bZ bm (by simp)) (n1 bm (by simp))];exact h1,h2.keep (fun b hb=>aQ b (bZ b (by rw [h3];simp [hb])) (n1 b (by rw [h3];simp [hb]))),h3,h4⟩
    ·rcases aZ b bS with h1|h1
     ·exact n1 b hb h1
     ·have:=bZ b hb;omega
    ·have:=eN.out b hb;simp [Vh,Value.ownBlock] at bS;omega
    ·have:=eN.out b hb;simp at bS;omega
    ·simp [Vh,Value.ownBlock] at bS
     rcases aZ b hb with h1|h1<;>omega
    ·simp at bS
     rcases aZ b hb with h1|h1<;>omega
    ·simp [Vh,Value.ownBlock] at hb;simp at bS;omega
    ·have:=eN.out b hb;omega
    ·rcases aZ b hb with h1|h1<;>omega
    ·simp [Vh,Value.ownBlock] at hb;omega)
   have kW:0≤fuel∧fuel≤1048576:=by
    have h1:=cK.out
    unfold Yd at h1
    by_cases h2:fuel<0∨1048576<fuel
    ·rw [if_pos h2] at h1;omega
    ·omega
   obtain ⟨hM,jQ⟩:Us c mq∧mu mq≤300000000000:=Xch hs cK.out HR.out
   have iM:=Lh hM
   clear aZ aQ hM
   clear cL cM bD cN cO cP cQ bQ i0 i1 i2 l0 m0 m1 iJ o0 o1 o2 o3 o4 u0 u1 x0 x1 z0 z1 z2 z3 z4 z5 kG
   go_upto_region 13 with fail
   go_loopg [17] (mu mq+1) (fun gk lD wr=>Hid (∃ mc p Fm gv nv cells Fg Fn lv cmp,PSt (w.heap.size+3) W4 wr bm ((w.heap.size+1+1+1+1)) ((w.heap.size+1+1+1+1+1)) ((w.heap.size+1+1+1)) mc p 0 0 cmp Fm gv nv cells Fg Fn lv∧Kt c mc p∧mu mc<gk∧∀ o p2,Zx c mc p o p2→Zx c mq ⟨m,[],0⟩ o p2))
   case atStart=>exact Lh ⟨mq,⟨m,[],0⟩,_,_,_,_,_,_,_,_,hV.out,⟨.inl iM.out,dO.out,by simp;omega,by simp⟩,by omega,fun _ _ h=>h⟩
   case round=>
    clear hV aS aV
    obtain ⟨mc,p,Fm,gv,nv,cells,Fg,Fn,lv,cmp,hP,hU,jK,eA⟩:=hrel.out
    clear hrel
    have HP:=Lh hP
    have aC:=Lh hU
    have aO:=Lh eA
    obtain ⟨fv,F0,aR,cI,hO,jX⟩:=Xt.1 hP.mach
    have d1:=Xe aR 1 (.int .i64 mc.req.kind) rfl
    have d2:=Xe aR 2 (.int .i64 mc.req.node) rfl
    have d3:=Xe aR 3 (.int .i64 mc.req.field) rfl
    have d4:=Xe aR 4 (.int .i64 mc.req.value) rfl
    have d5:=Xe aR 5 (.int .i64 mc.req.fault) rfl
    have d6:=Xe aR 6 (.int .i64 mc.fuel) rfl
    have d7:=Xe aR 7 (.int .i64 mc.compares) rfl
    have d8:=Xe aR 8 (.int .i64 mc.idle) rfl
    have kF:=(La aR)
    have kE:=(La hP.out)
    have dV:¬bm=(w.heap.size+1+1+1):=fun e=>hP.d3 bm (by rw [hO];simp) (by simp [e])
    have c2:=Xs hP.out 2 (.int .i64 cmp) rfl
    have iU:wr.frozen? ⟨(w.heap.size+1+1+1),2,none⟩=false:=Fz hP.out
    obtain ⟨W2,eO⟩:∃ u,u=(wr.setCell ⟨(w.heap.size+1+1+1),2,none⟩ (.int .i64 mc.compares)).alloc (.cells #[.int .i64 mc.req.kind,.int .i64 mc.req.node,.int .i64 mc.req.field,.int .i64 mc.req.value,.int .i64 mc.req.fault] 49):=⟨_,rfl⟩
    have aE:Hid (PSt (w.heap.size+3) W4 W2 bm ((w.heap.size+1+1+1+1)) ((w.heap.size+1+1+1+1+1)) ((w.heap.size+1+1+1)) mc p 0 0 mc.compares Fm gv nv cells Fg Fn lv):=Lh (by rw [eO];exact (hP.outM 2 (.int .i64 mc.compares) (f':=0) (v':=0) (c':=mc.compares) rfl).keep (Xa _ _))
    have dI:Hid (Xo W2 wr.heap.size [.int .i64 mc.req.kind,.int .i64 mc.req.node,.int .i64 mc.req.field,.int .i64 mc.req.value,.int .i64 mc.req.fault]):=by
     rw [eO]
     have:=@Xd (wr.setCell ⟨(w.heap.size+1+1+1),2,none⟩ (.int .i64 mc.compares)) #[.int .i64 mc.req.kind,.int .i64 mc.req.node,.int .i64 mc.req.field,.int .i64 mc.req.value,.int .i64 mc.req.fault] 49
     exact Lh (by simpa using this)
    clear hP hU eA aR cI hO jX
    go_upto_region 15 with fail
    rw [←eO]
    clear eO
    clear d1 d2 d3 d4 d5 d6 d7 d8 c2 iU kF kE dV
    obtain ⟨rb,eG⟩:∃ b,b=wr.heap.size:=⟨_,rfl⟩
    have r0:=dI.out 0 _ rfl
    have r1:=dI.out 1 _ rfl
    have r2:=dI.out 2 _ rfl
    have r3:=dI.out 3 _ rfl
    have r4:=dI.out 4 _ rfl
    rw [←eG] at r0 r1 r2 r3 r4 ⊢
    have zr:=Bl r0
    have eL:=Lh eG
    clear eG dI
    obtain ⟨bM,bJ,jJ⟩:=(Zs aE.out.mem.glob.1).2.2
    obtain ⟨aT,aN,jW⟩:=(Zs aE.out.mem.row).2.2
    obtain ⟨bO,bP,jN⟩:=(Zs aE.out.log.row).2.2
    subst jJ jW jN
    obtain ⟨aU,cC⟩:∃ n,n=p.mem.globals.length:=⟨_,rfl⟩
    obtain ⟨aF,cG⟩:∃ n,n=p.mem.nodes.length:=⟨_,rfl⟩
    obtain ⟨bL,cD⟩:∃ n,n=p.log.length:=⟨_,rfl⟩
    rw [←cC,← cG,← cD] at aE
    rw [←cC,← cG,← cD] at HP
    have cJ:=Lh cC
    have bW:=Lh cG
    have kM:=Lh cD
    have aH:p.log.length≤1000000000000:=by have:=aC.out.len;omega
    have jO:bL≤1000000000000:=by omega
    clear cC cG cD
    by_cases dK:mc.req.kind=4
    ·rw [dK] at r0
     obtain ⟨W3,aG⟩:∃ u,u=W2.setCell ⟨(w.heap.size+1+1+1),1,none⟩ (.int .i64 mc.req.value):=⟨_,rfl⟩
     have aA:Hid (PSt (w.heap.size+3) W4 W3 bm ((w.heap.size+1+1+1+1)) ((w.heap.size+1+1+1+1+1)) ((w.heap.size+1+1+1)) mc p 0 mc.req.value mc.compares Fm (.slice bM aU bJ) (.slice aT aF aN) cells Fg Fn (.slice bO bL bP)):=Lh (by rw [aG];exact aE.out.outM 1 (.int .i64 mc.req.value) rfl)
     have o1:=Xs aE.out.out 1 (.int .i64 0) rfl
     have bD:W2.frozen? ⟨(w.heap.size+1+1+1),1,none⟩=false:=Fz aE.out.out
     have z3:=Bl o1
     have HK:=Lh dK
     clear dK
     go_upto_region 30 with fail
     rw [←aG]
     clear aG
     clear o1 bD z3
     obtain ⟨⟨eW,o0,cM⟩,⟨eX,o1,bD⟩,⟨eY,o2,cN⟩,⟨eZ,o3,cO⟩,⟨fA,o4,cP⟩,⟨fB,u0,cQ⟩,⟨fC,u1,bQ⟩,⟨eV,l0,cL⟩,z3,z4,z5⟩:=aA.out.outs
     go_region
     all_goals
      go_wp2_with fail
      refine bodyPost_ret (v:=.tuple #[Xap ⟨0,mc.req.value,mc.compares,p.nodes⟩,.agg #[.slice bM aU bJ,.slice aT aF aN],.slice bO bL bP,.int .i64 0]) (Z4 (W:=W3.drew) (o:=⟨0,mc.req.value,mc.compares,p.nodes⟩) (p:=8) (q:=9) (r:=10) (u:=11) rfl aA.out.out aA.out.mem.box aA.out.log.box _ _ rfl rfl rfl rfl) rfl ?_
      exact .inr ⟨cK.out,mq,_,p,_,_,_,_,_,_,_,_,HR.out,aO.out _ _ (.done HK.out),rfl,(aA.out.keep (Xh Br 1)).mem,(aA.out.keep (Xh Br 1)).log,aC.out.mem,aH,fun b hb=>by have:=aA.out.g2 b hb;omega,fun b hb=>by have:=aA.out.g3 b hb;omega,(bA.out.trans (aA.out.bel.mono (by omega))).trans (Xh Br 1)⟩
    by_cases dL:mc.req.kind=5
    ·rw [dL] at r0
     obtain ⟨W3,aG⟩:∃ u,u=W2.setCell ⟨(w.heap.size+1+1+1),0,none⟩ (.int .i64 mc.req.fault):=⟨_,rfl⟩
     have aA:Hid (PSt (w.heap.size+3) W4 W3 bm ((w.heap.size+1+1+1+1)) ((w.heap.size+1+1+1+1+1)) ((w.heap.size+1+1+1)) mc p mc.req.fault 0 mc.compares Fm (.slice bM aU bJ) (.slice aT aF aN) cells Fg Fn (.slice bO bL bP)):=Lh (by rw [aG];exact aE.out.outM 0 (.int .i64 mc.req.fault) rfl)
     have o1:=Xs aE.out.out 0 (.int .i64 0) rfl
     have bD:W2.frozen? ⟨(w.heap.size+1+1+1),0,none⟩=false:=Fz aE.out.out
     have z3:=Bl o1
     have HK:=Lh dL
     clear dL
     go_upto_region 33 with fail
     rw [←aG]
     clear aG
     clear o1 bD z3
     obtain ⟨⟨eW,o0,cM⟩,⟨eX,o1,bD⟩,⟨eY,o2,cN⟩,⟨eZ,o3,cO⟩,⟨fA,o4,cP⟩,⟨fB,u0,cQ⟩,⟨fC,u1,bQ⟩,⟨eV,l0,cL⟩,z3,z4,z5⟩:=aA.out.outs
     go_region
     all_goals
      go_wp2_with fail
      refine bodyPost_ret (v:=.tuple #[Xap ⟨mc.req.fault,0,mc.compares,p.nodes⟩,.agg #[.slice bM aU bJ,.slice aT aF aN],.slice bO bL bP,.int .i64 0]) (Z4 (W:=W3.drew) (o:=⟨mc.req.fault,0,mc.compares,p.nodes⟩) (p:=8) (q:=9) (r:=10) (u:=11) rfl aA.out.out aA.out.mem.box aA.out.log.box _ _ rfl rfl rfl rfl) rfl ?_
      exact .inr ⟨cK.out,mq,_,p,_,_,_,_,_,_,_,_,HR.out,aO.out _ _ (.fail HK.out),rfl,(aA.out.keep (Xh Br 1)).mem,(aA.out.keep (Xh Br 1)).log,aC.out.mem,aH,fun b hb=>by have:=aA.out.g2 b hb;omega,fun b hb=>by have:=aA.out.g3 b hb;omega,(bA.out.trans (aA.out.bel.mono (by omega))).trans (Xh Br 1)⟩
    obtain ⟨hE,kQ,fw,gV⟩:=aC.out.waits dK dL
    have cH:=gV.req hs
    have dG:=Lh gV
    have HE:=Lh hE
    have aL:=Lh cH
    have bB:=Lh dK
    have bC:=Lh dL
    obtain ⟨fi,gH⟩:∃ fi:Nat,mc.req.field=fi:=⟨mc.req.field.toNat,by have:=cH.field;omega⟩
    have eC:=cH.kind
    rw [gH] at r2
    have bF:=Lh gH
    have u0:=Cw aE.out.mem.box 0 rfl
    have u1:=Cw aE.out.mem.box 1 rfl
    have bQ:W2.frozen? ⟨(w.heap.size+1+1+1+1),1,none⟩=false:=Fz aE.out.mem.box
    have z4:=Bl u0
    have fE:Hid (Below B w W2):=Lh ((bA.out.trans (aE.out.bel.mono (by omega))).mono hB)
    clear hE gV cH dK dL gH
    by_cases bX:mc.req.kind=3
    ·rw [bX] at r0
     have fH:=Lh bX
     clear bX
     by_cases cR:aF<4096
     rotate_left
     ·have aB:Hid (J5 c p mc.req=some (p,0)):=Lh (by
       unfold J5
       rw [if_pos fH.out,if_neg (by rw [←bW.out];exact cR)])
      have dA:¬((aF:Int)<4096):=by omega
      go_upto_region 39 with fail
      obtain ⟨i0,i1,i2,zi⟩:=bG.out.code (aE.out.bel.block _ (by omega))
      go_wp2_with fail
      refine (Kb hs hsm fa ga c.fields.length fc gc c.globals 0 dG.out HE.out.1 aE.out.mach B (fun b hb=>by have:=aE.out.g1 b hb;omega) (HC.out.below ((bA.out.trans (aE.out.bel.mono (by omega))).mono hB)).funs (Ji aC.out.mem aL.out aB.out)).mono ?_
      rintro e wn ⟨rfl,m2,F2,aP,aX,aW⟩
      have aD:=aC.out.step hs bB.out bC.out aB.out aP
      have aM:Hid (∃ mc p Fm gv nv cells Fg Fn lv cmp,PSt (w.heap.size+3) W4 wn bm ((w.heap.size+1+1+1+1)) ((w.heap.size+1+1+1+1+1)) ((w.heap.size+1+1+1)) mc p 0 0 cmp Fm gv nv cells Fg Fn lv∧Kt c mc p∧mu mc<gk - 1∧∀ o p2,Zx c mc p o p2→Zx c mq ⟨m,[],0⟩ o p2):=Lh ⟨m2,_,F2,_,_,_,_,_,_,_,aE.out.machM aX aW,aD.1,by have:=aD.2;omega,fun o p2 h=>aO.out _ _ (.step bB.out bC.out aB.out aP h)⟩
      clear aP aX aW aD
      go_wp2_with fail
      go_roundg (gk - 1)
      case measure=>omega
      case rel=>exact aM
     ·obtain ⟨k0,eB,gN,gO⟩:=aL.out.alloc fH.out
      obtain ⟨kn,rfl⟩:∃ kn:Nat,k0=kn:=⟨k0.toNat,by omega⟩
      rw [bF.out,Int.toNat_natCast] at eB
      have iP:=Lh eB
      obtain ⟨fb,fo,jE,jG,dQ⟩:=(HC.out.below fE.out).fieldAt eB
      have jL:(0:Int)≤(fi:Int):=In _
      have jM:(fi:Int)<(c.fields.length:Int):=by have:=(Ll eB);omega
      have iD:kn≤12:=by omega
      have iA:fi≤12:=by have:=hs.1.1;omega
      clear eB gN gO
      subst jE
      have zf:=Bl dQ
      have hX:W2.heap[w.heap.size]?=some (.cells #[.slice (some ⟨fb,fo,none⟩) c.fields.length fc,.int .i64 c.globals,.slice ga c.funcs.length gc] 25 (0,0)):=by rw [aE.out.bel.block _ (by omega)];exact bG.out.1
      have i0:=Cw hX 0 rfl
      have zi:=Bl i0
      clear hX
      have kZ:=fun W=>K7 W kn (by omega)
      have dA:(aF:Int)<4096:=by omega
      have dR:Hid (Yv (W2.alloc (.cells (Xx (List.replicate kn 0)) 3)) (.slice (some ⟨W2.heap.size,0,none⟩) kn kn) (List.replicate kn 0) [W2.heap.size]):=Lh (Xjk (w:=W2) (by omega))
      have dU:Below W2.heap.size W2 ((W2.alloc (.cells (Xx (List.replicate kn 0)) 3)).alloc (.cells #[.int .i64 (fi:Int),.slice (some ⟨W2.heap.size,0,none⟩) kn kn] 74)).drew:=Xh ((Xa _ _).then (Xa _ _)) 1
      have dM:=Lh dU
      have bV:Hid (((W2.alloc (.cells (Xx (List.replicate kn 0)) 3)).alloc (.cells #[.int .i64 (fi:Int),.slice (some ⟨W2.heap.size,0,none⟩) kn kn] 74)).drew.ownsRow 0 74 2 (.slice aT aF aN) aF cells):=Lh (by
       have h1:=aE.out.mem.row
       rw [←bW.out] at h1
       exact Qi h1 (fun b hb=>dU.block b (Ve h1 b hb)))
      have bI:Hid (∀ j u,([.int .i64 (fi:Int),.slice (some ⟨W2.heap.size,0,none⟩) kn kn]:List Value)[j]?=some u→((W2.alloc (.cells (Xx (List.replicate kn 0)) 3)).alloc (.cells #[.int .i64 (fi:Int),.slice (some ⟨W2.heap.size,0,none⟩) kn kn] 74)).drew.cell? ((⟨W2.heap.size+1,0,none⟩:Addr).add j)=some u):=Lh (fun j u hu=>(by
       rw [Xbt,Nat.zero_add]
       have:=Y5 (W2.alloc (.cells (Xx (List.replicate kn 0)) 3)) #[.int .i64 (fi:Int),.slice (some ⟨W2.heap.size,0,none⟩) kn kn] 74 j
       rw [show (W2.alloc (.cells (Xx (List.replicate kn 0)) 3)).heap.size=W2.heap.size+1 by simp] at this
       refine Eq.trans this ?_;simpa using hu))
      have gJ:Hid (∀ w9,((W2.alloc (.cells (Xx (List.replicate kn 0)) 3)).alloc (.cells #[.int .i64 (fi:Int),.slice (some ⟨W2.heap.size,0,none⟩) kn kn] 74)).drew.grownBy w9 (Value.slice aT aF aN).ownBlock→(w9.heap[(w.heap.size+1+1+1+1)]?=some (.cells #[.slice bM aU bJ,.slice aT aF aN] 28 (0,0)))∧w9.cell? ⟨rb,2,none⟩=some (.int .i64 (fi:Int))∧w9.cell? ⟨w.heap.size,0,none⟩=some (.slice (some ⟨fb,fo,none⟩) c.fields.length fc)∧w9.cell? ⟨fb,fo+fi,none⟩=some (.int .i64 (kn:Int))):=Lh (fun w9 hg=>by
       have h1:=Yk dU aE.out.mem.box
       have cF:=aE.out.mem.nodup
       rw [List.nodup_cons] at cF
       have hA:∀ b o v,W2.cell? ⟨b,o,none⟩=some v→some b≠(Value.slice aT aF aN).ownBlock→w9.cell? ⟨b,o,none⟩=some v:=fun b o v hc jV=>by
        have h2:=Xc dU hc
        rw [World.cell?_of_block (w:=((W2.alloc (.cells (Xx (List.replicate kn 0)) 3)).alloc (.cells #[.int .i64 (fi:Int),.slice (some ⟨W2.heap.size,0,none⟩) kn kn] 74)).drew) (hg.block b (Bl h2) jV)];exact h2
       have gM:∀ b,some b=(Value.slice aT aF aN).ownBlock→b∈Uf ((w.heap.size+1+1+1+1)) (.slice aT aF aN) Fg Fn:=fun b hb=>by unfold Uf;rw [←hb];simp
       refine ⟨by rw [hg.block _ (La h1) (fun e=>cF.1 (by rw [←e];simp)),h1],hA _ _ _ r2 (fun e=>?_),hA _ _ _ i0 (fun e=>?_),hA _ _ _ dQ (fun e=>?_)⟩
       ·have h2:=HP.out.ltO rb (gM rb e);have h3:=eL.out;omega
       ·have h2:=aE.out.g2 _ (gM _ e);omega
       ·have h2:=aE.out.g2 _ (gM _ e);omega)
      clear dU
      have lE:(w.heap.size+1+1+1+1)<W2.heap.size:=(La aE.out.mem.box)
      have lF:(w.heap.size+1+1+1+1)<W2.heap.size+1:=by omega
      obtain ⟨ti,gS,gX,gY,gZ⟩:=info_parts Xfb
      go_upto_region 36 with fail
      refine X6 (fun Vs=>Vs.cell? ⟨(w.heap.size+1+1+1+1),1,none⟩=some (.slice aT aF aN)∧Vs.cell? ⟨rb,2,none⟩=some (.int .i64 (fi:Int))∧Vs.cell? ⟨w.heap.size,0,none⟩=some (.slice (some ⟨fb,fo,none⟩) c.fields.length fc)∧Vs.cell? ⟨fb,fo+fi,none⟩=some (.int .i64 (kn:Int))) [10,11,12,13,15] true 16 rfl (by kernel_rfl) (by kernel_rfl) ⟨u1,r2,i0,dQ⟩ ?_
      repeat (first|(refine' Xr4.take (Eq.refl false) _ (fun wV fY=>?_) ?_;rotate_left;(try dsimp only at fY);go_simp;(try with_reducible rfl);try simp only [Ap])|refine Xr4.skip (Eq.refl true) ?_)
      refine Xr4.stop ?_
      simp only [List.nil_append,List.cons_append]
      refine X5 (by kernel_rfl) ?_
      go_simp
      try refine ⟨⟨Xc (X7 _ _) u1,Xc (X7 _ _) r2,Xc (X7 _ _) i0,Xc (X7 _ _) dQ⟩,?_⟩
      (refine' Z6 (by kernel_rfl) _ (fun wV fY=>?_) ?_;rotate_left;(clear fY;go_simp);(try with_reducible rfl);try simp only [Ap])
      refine X5 (by kernel_rfl) ?_
      go_simp
      try refine ⟨⟨Xc dM.out u1,Xc dM.out r2,Xc dM.out i0,Xc dM.out dQ⟩,?_⟩
      refine X5 (by kernel_rfl) ?_
      refine wp_append_lies _ (.tmp 147) (.tmp 158) 26 rfl 0 74 ti (.agg #[.int .i64 0,.slice none 0 0]) 2 32 Tryz.underlying26 gS gX gY gZ rfl (by decide) (.slice aT aF aN) aF cells rfl bV.out ⟨W2.heap.size+1,0,none⟩ 1 1 [.int .i64 (fi:Int),.slice (some ⟨W2.heap.size,0,none⟩) kn kn] rfl rfl bI.out (by simp [Value.oneCell']) (by omega) (by unfold maxLen;omega) (by omega) (Nat.zero_le _) (W2.heap.size+1+1) (by simp) ?_
      intro g cap w9 ho hg aY gK
      have fL:=Lh ho
      have fF:=Lh hg
      have fI:=Lh aY
      obtain ⟨bH,kB,kA,fW⟩:=gJ.out w9 hg
      have v9:w9.cell? ⟨(w.heap.size+1+1+1+1),1,none⟩=some (.slice aT aF aN):=(Cr bH rfl)
      have kD:w9.frozen? ⟨(w.heap.size+1+1+1+1),1,none⟩=false:=(Fz bH)
      have kJ:=Bl v9
      clear ho hg aY bH
      refine ⟨.inl ⟨v9,kB,kA,fW⟩,?_⟩
      refine X5 (by kernel_rfl) ?_
      go_simp
      refine Xr3 ?_
      have bN:=Lh (aE.out.mem.addN (w4:=((W2.alloc (.cells (Xx (List.replicate kn 0)) 3)).alloc (.cells #[.int .i64 (fi:Int),.slice (some ⟨W2.heap.size,0,none⟩) kn kn] 74)).drew) (w5:=w9) (x:=⟨(fi:Int),List.replicate kn 0⟩) (lv:=.slice (some ⟨W2.heap.size,0,none⟩) kn kn) (Fl:=[W2.heap.size]) (g:=g) (cap:=cap) dM.out (dR.out.keep (fun b hb=>(X7 _ _).block b (dR.out.lt b hb))) (fun b hb=>by rw [List.mem_singleton] at hb;rw [hb];exact Nr _) (by simp) (by show in64 (fi:Int);unfold in64;omega) (by rw [←bW.out];exact fL.out) fF.out (by rcases fI.out with h1|h1;exact .inl h1;exact .inr (by rw [h1];simp)))
      have aA:Hid (PSt (w.heap.size+3) W4 (w9.setCell ⟨(w.heap.size+1+1+1+1),1,none⟩ (.slice (some ⟨g,0,none⟩) (aF+1) cap)) bm ((w.heap.size+1+1+1+1)) ((w.heap.size+1+1+1+1+1)) ((w.heap.size+1+1+1)) mc { p with mem:={ p.mem with nodes:=p.mem.nodes++[⟨(fi:Int),List.replicate kn 0⟩] } } 0 0 mc.compares Fm (.slice bM aU bJ) (.slice (some ⟨g,0,none⟩) (aF+1) cap) (cells++[.int .i64 (fi:Int),.slice (some ⟨W2.heap.size,0,none⟩) kn kn]) Fg (Fn++[W2.heap.size]) (.slice bO bL bP)):=Lh (by
       have h1:=bN.out
       rw [←bW.out] at h1
       exact aE.out.memM h1.1 h1.2.1)
      have aB:Hid (J5 c p mc.req=some (⟨{ p.mem with nodes:=p.mem.nodes++[⟨(fi:Int),List.replicate kn 0⟩] },p.log++[⟨3,(aF:Int)+1,(fi:Int)⟩],p.nodes+(if 0<(aF:Int)+1 then 1 else 0)⟩,(aF:Int)+1)):=Lh (by
       unfold J5
       rw [if_pos fH.out,if_pos (by rw [←bW.out];exact cR),bF.out,Int.toNat_natCast,List.getD_eq_getElem?_getD,iP.out,← bW.out,if_pos (show 0<(aF:Int)+1 by omega)]
       simp)
      obtain ⟨W5,eP⟩:∃ u,u=w9.setCell ⟨(w.heap.size+1+1+1+1),1,none⟩ (.slice (some ⟨g,0,none⟩) (aF+1) cap):=⟨_,rfl⟩
      rw [←eP] at aA
      have t2:W5.cell? ⟨rb,2,none⟩=some (.int .i64 (fi:Int)):=(by
       have h1:=bN.out
       rw [←bW.out,← eP] at h1
       exact h1.2.1.cell r2 (fun e=>by have h2:=HP.out.ltO rb e;have h3:=eL.out;omega))
      have lG:=Bl t2
      have kC:=Cw aA.out.mem.box 1 rfl
      have lH:=Bl kC
      clear bN
      rw [←eP]
      clear eP
      go_wp2_with fail
      refine (Vs 3 ((aF:Int)+1) (fi:Int) 0 0 mc.compares p.nodes aA.out.log aA.out.out (fun e=>aA.out.d6 _ e (by simp)) aH ⟨aC.out.nodes.1,by have:=aC.out.nodes.2;omega⟩).mono ?_
      rintro e w8 bK
      obtain ⟨rfl,eU,aJ⟩:=aA.out.noteM bK
      have aI:=Lh aJ
      clear bK aJ
      obtain ⟨i0,i1,i2,zi⟩:=bG.out.code (aI.out.bel.block _ (by omega))
      go_wp2_with fail
      refine (Kb hs hsm (some ⟨fb,fo,none⟩) ga c.fields.length fc gc c.globals ((aF:Int)+1) dG.out HE.out.1 aI.out.mach B (fun b hb=>by have:=aI.out.g1 b hb;omega) (HC.out.below ((bA.out.trans (aI.out.bel.mono (by omega))).mono hB)).funs (Ji aC.out.mem aL.out aB.out)).mono ?_
      rintro e wn ⟨rfl,m2,F2,aP,aX,aW⟩
      have aD:=aC.out.step hs bB.out bC.out aB.out aP
      have aM:Hid (∃ mc p Fm gv nv cells Fg Fn lv cmp,PSt (w.heap.size+3) W4 wn bm ((w.heap.size+1+1+1+1)) ((w.heap.size+1+1+1+1+1)) ((w.heap.size+1+1+1)) mc p 0 0 cmp Fm gv nv cells Fg Fn lv∧Kt c mc p∧mu mc<gk - 1∧∀ o p2,Zx c mc p o p2→Zx c mq ⟨m,[],0⟩ o p2):=Lh ⟨m2,_,F2,_,_,_,_,_,_,_,aI.out.machM aX aW,aD.1,by have:=aD.2;omega,fun o p2 h=>aO.out _ _ (.step bB.out bC.out aB.out aP h)⟩
      clear aP aX aW aD
      go_wp2_with fail
      go_roundg (gk - 1)
      case measure=>omega
      case rel=>exact aM
    have lA:¬mc.req.kind=4:=bB.out
    have lB:¬mc.req.kind=5:=bC.out
    obtain ⟨nd,cF⟩:∃ nd:Nat,mc.req.node=nd:=⟨mc.req.node.toNat,by have:=aL.out.node;omega⟩
    have jU:nd≤1099511627776:=by have:=aL.out.nodeV;unfold isV at this;omega
    have jI:fi≤100:=by have:=aL.out.field2;have:=bF.out;omega
    have jH:(0:Int)≤(fi:Int):=In _
    rw [cF] at r1
    have dF:=Lh cF
    have o1:=Xs aE.out.out 0 (.int .i64 0) rfl
    have bD:W2.frozen? ⟨(w.heap.size+1+1+1),0,none⟩=false:=Fz aE.out.out
    have zc:=Bl o1
    clear eC cF
    by_cases jF:aF<nd
    ·have dA:(aF:Int)<(nd:Int):=by omega
     have aB:Hid (J5 c p mc.req=none):=Lh (by
      unfold J5
      rw [if_neg bX,if_pos]
      unfold Un
      rw [if_pos (by rw [dF.out,← bW.out];exact dA)]
      exact aL.out.field)
     obtain ⟨W3,aG⟩:∃ u,u=W2.setCell ⟨(w.heap.size+1+1+1),0,none⟩ (.int .i64 11):=⟨_,rfl⟩
     have aA:Hid (PSt (w.heap.size+3) W4 W3 bm ((w.heap.size+1+1+1+1)) ((w.heap.size+1+1+1+1+1)) ((w.heap.size+1+1+1)) mc p 11 0 mc.compares Fm (.slice bM aU bJ) (.slice aT aF aN) cells Fg Fn (.slice bO bL bP)):=Lh (by rw [aG];exact aE.out.outM 0 (.int .i64 11) rfl)
     go_upto_region 23 with fail
     rw [←aG]
     clear aG
     clear o1 bD u0 u1 bQ z4
     obtain ⟨⟨eW,o0,cM⟩,⟨eX,o1,bD⟩,⟨eY,o2,cN⟩,⟨eZ,o3,cO⟩,⟨fA,o4,cP⟩,⟨fB,u0,cQ⟩,⟨fC,u1,bQ⟩,⟨eV,l0,cL⟩,z3,z4,z5⟩:=aA.out.outs
     go_region
     all_goals
      go_wp2_with fail
      refine bodyPost_ret (v:=.tuple #[Xap ⟨11,0,mc.compares,p.nodes⟩,.agg #[.slice bM aU bJ,.slice aT aF aN],.slice bO bL bP,.int .i64 0]) (Z4 (W:=W3.drew) (o:=⟨11,0,mc.compares,p.nodes⟩) (p:=8) (q:=9) (r:=10) (u:=11) rfl aA.out.out aA.out.mem.box aA.out.log.box _ _ rfl rfl rfl rfl) rfl ?_
      exact .inr ⟨cK.out,mq,_,p,_,_,_,_,_,_,_,_,HR.out,aO.out _ _ (.type bB.out bC.out aB.out),rfl,(aA.out.keep (Xh Br 1)).mem,(aA.out.keep (Xh Br 1)).log,aC.out.mem,aH,fun b hb=>by have:=aA.out.g2 b hb;omega,fun b hb=>by have:=aA.out.g3 b hb;omega,(bA.out.trans (aA.out.bel.mono (by omega))).trans (Xh Br 1)⟩
    have dX:¬(aF:Int)<(nd:Int):=by omega
    have dY:(nd:Int)≤(aF:Int):=by omega
    by_cases jY:0<nd
    ·obtain ⟨bE,rfl⟩:∃ k,nd=k+1:=⟨nd - 1,by omega⟩
     obtain ⟨x1,bY⟩:∃ y,p.mem.nodes[bE]?=some y:=⟨_,Lg (by have:=bW.out;omega)⟩
     have aK:Hid (Un p.mem mc.req=x1.f):=Lh (by
      unfold Un
      have e1:=dF.out
      have e2:=bW.out
      rw [if_neg (by omega),if_pos (by omega),show (mc.req.node - 1).toNat=bE by omega,bY]
      rfl)
     have dE:Hid (mc.req.kind=2→putM p.mem mc.req={ p.mem with nodes:=p.mem.nodes.modify bE (fun x=>Xem x fi mc.req.value) }):=Lh (fun hk=>by
      unfold putM
      have e1:=dF.out
      rw [if_neg (by simp [hk]),if_pos (by omega),show (mc.req.node - 1).toNat=bE by omega,bF.out,Int.toNat_natCast])
     obtain ⟨nb,kR,Fl,gQ,hZ,cA,eI,iI⟩:=aE.out.nodeAt bY
     subst gQ
     obtain ⟨kO,kP,jD⟩:=(Zs cA.1).2.2
     subst jD
     have zn:=Bl hZ
     have fM:=Lh cA
     have fN:Hid (∀ b∈Fl,b∈Uf ((w.heap.size+1+1+1+1)) (.slice (some ⟨nb,0,none⟩) aF aN) Fg Fn):=Lh eI
     have iS:=Lh iI
     obtain ⟨dP,dB⟩:∃ n,n=x1.f.length:=⟨_,rfl⟩
     rw [←dB] at hZ
     have dN:Hid (dP=x1.f.length):=Lh dB
     have iG:(0:Int)<(bE:Int)+1:=by omega
     have kU:(0:Int)≤(bE:Int):=In _
     have kV:(bE:Int)<(aF:Int):=by omega
     clear eI iI cA dB bY
     by_cases gI:dP≤fi
     ·have cB:(dP:Int)≤(fi:Int):=by omega
      have aB:Hid (J5 c p mc.req=none):=Lh (by
       unfold J5
       rw [if_neg bX,if_pos (by rw [aK.out,bF.out,← dN.out];exact cB)])
      obtain ⟨W3,aG⟩:∃ u,u=W2.setCell ⟨(w.heap.size+1+1+1),0,none⟩ (.int .i64 11):=⟨_,rfl⟩
      have aA:Hid (PSt (w.heap.size+3) W4 W3 bm ((w.heap.size+1+1+1+1)) ((w.heap.size+1+1+1+1+1)) ((w.heap.size+1+1+1)) mc p 11 0 mc.compares Fm (.slice bM aU bJ) (.slice (some ⟨nb,0,none⟩) aF aN) cells Fg Fn (.slice bO bL bP)):=Lh (by rw [aG];exact aE.out.outM 0 (.int .i64 11) rfl)
      go_upto_region 23 with fail
      rw [←aG]
      clear aG
      clear o1 bD u0 u1 bQ z4
      obtain ⟨⟨eW,o0,cM⟩,⟨eX,o1,bD⟩,⟨eY,o2,cN⟩,⟨eZ,o3,cO⟩,⟨fA,o4,cP⟩,⟨fB,u0,cQ⟩,⟨fC,u1,bQ⟩,⟨eV,l0,cL⟩,z3,z4,z5⟩:=aA.out.outs
      go_region
      all_goals
       go_wp2_with fail
       refine bodyPost_ret (v:=.tuple #[Xap ⟨11,0,mc.compares,p.nodes⟩,.agg #[.slice bM aU bJ,.slice (some ⟨nb,0,none⟩) aF aN],.slice bO bL bP,.int .i64 0]) (Z4 (W:=W3.drew) (o:=⟨11,0,mc.compares,p.nodes⟩) (p:=8) (q:=9) (r:=10) (u:=11) rfl aA.out.out aA.out.mem.box aA.out.log.box _ _ rfl rfl rfl rfl) rfl ?_
       exact .inr ⟨cK.out,mq,_,p,_,_,_,_,_,_,_,_,HR.out,aO.out _ _ (.type bB.out bC.out aB.out),rfl,(aA.out.keep (Xh Br 1)).mem,(aA.out.keep (Xh Br 1)).log,aC.out.mem,aH,fun b hb=>by have:=aA.out.g2 b hb;omega,fun b hb=>by have:=aA.out.g3 b hb;omega,(bA.out.trans (aA.out.bel.mono (by omega))).trans (Xh Br 1)⟩
     have cB:¬(dP:Int)≤(fi:Int):=by omega
     have gG:(fi:Int)<(dP:Int):=by omega
     obtain ⟨vv,cI⟩:∃ v,x1.f[fi]?=some v:=⟨_,Lg (by have:=dN.out;omega)⟩
     obtain ⟨lb,cap,dJ,bZ,_,_⟩:=fM.out.form (by have:=dN.out;omega)
     simp only [Value.slice.injEq,true_and] at dJ
     obtain ⟨rfl,rfl⟩:=dJ
     have cv:=fM.out.cellAt cI
     have iV:=fM.out.frozen fi
     have zv:=Bl cv
     have dD:Hid (lb∈Uf ((w.heap.size+1+1+1+1)) (.slice (some ⟨nb,0,none⟩) aF aN) Fg Fn):=Lh (fN.out lb (by rw [bZ];simp))
     have fP:=Lh cI
     clear cI bZ
     by_cases bU:mc.req.kind=2
     ·rw [bU] at r0
      have cX:=Lh bU
      have fV:in64 mc.req.value:=aL.out.value.in64
      have eG:lb<rb:=by have h1:=HP.out.ltO lb dD.out;have h2:=eL.out;omega
      obtain ⟨W3,aG⟩:∃ u,u=W2.setCell ⟨lb,fi,none⟩ (.int .i64 mc.req.value):=⟨_,rfl⟩
      have aA:Hid (PSt (w.heap.size+3) W4 W3 bm ((w.heap.size+1+1+1+1)) ((w.heap.size+1+1+1+1+1)) ((w.heap.size+1+1+1)) mc { p with mem:={ p.mem with nodes:=p.mem.nodes.modify bE (fun x=>Xem x fi mc.req.value) } } 0 0 mc.compares Fm (.slice bM aU bJ) (.slice (some ⟨nb,0,none⟩) aF aN) cells Fg Fn (.slice bO bL bP)):=Lh (by rw [aG];exact iS.out lb _ fi mc.req.value rfl fV)
      have aB:Hid (J5 c p mc.req=some (⟨{ p.mem with nodes:=p.mem.nodes.modify bE (fun x=>Xem x fi mc.req.value) },p.log++[⟨2,(bE:Int)+1,(fi:Int)⟩],p.nodes+(if 0<(bE:Int)+1 then 1 else 0)⟩,mc.req.value)):=Lh (by
       have e1:=dF.out
       unfold J5
       rw [if_neg bX,if_neg (by rw [aK.out,bF.out,← dN.out];exact cB),if_pos cX.out,dE.out cX.out,cX.out,e1,bF.out]
       simp)
      clear bU
      have s0:W3.cell? ⟨rb,0,none⟩=some (.int .i64 2):=by rw [aG];exact Xw.cell r0 (by simp;omega)
      have s1:W3.cell? ⟨rb,1,none⟩=some (.int .i64 ((bE:Int)+1)):=by rw [aG];exact Xw.cell r1 (by simp;omega)
      have s2:W3.cell? ⟨rb,2,none⟩=some (.int .i64 (fi:Int)):=by rw [aG];exact Xw.cell r2 (by simp;omega)
      have fU:W3.cell? ⟨lb,fi,none⟩=some (.int .i64 mc.req.value):=by rw [aG];exact World.cell?_setCell_same _ _ _ cv
      have kH:=Bl s0
      have kI:=Bl fU
      go_upto_region 26 with fail
      rw [←aG]
      clear aG
      go_upto_region 27 with fail
      go_wp2_with fail
      refine (Vs 2 ((bE:Int)+1) (fi:Int) 0 0 mc.compares p.nodes aA.out.log aA.out.out (fun e=>aA.out.d6 _ e (by simp)) aH ⟨aC.out.nodes.1,by have:=aC.out.nodes.2;omega⟩).mono ?_
      rintro e w8 bK
      obtain ⟨rfl,eU,aJ⟩:=aA.out.noteM bK
      have aI:=Lh aJ
      clear bK aJ
      obtain ⟨i0,i1,i2,zi⟩:=bG.out.code (aI.out.bel.block _ (by omega))
      go_wp2_with fail
      refine (Kb hs hsm fa ga c.fields.length fc gc c.globals mc.req.value dG.out HE.out.1 aI.out.mach B (fun b hb=>by have:=aI.out.g1 b hb;omega) (HC.out.below ((bA.out.trans (aI.out.bel.mono (by omega))).mono hB)).funs (Ji aC.out.mem aL.out aB.out)).mono ?_
      rintro e wn ⟨rfl,m2,F2,aP,aX,aW⟩
      have aD:=aC.out.step hs bB.out bC.out aB.out aP
      have aM:Hid (∃ mc p Fm gv nv cells Fg Fn lv cmp,PSt (w.heap.size+3) W4 wn bm ((w.heap.size+1+1+1+1)) ((w.heap.size+1+1+1+1+1)) ((w.heap.size+1+1+1)) mc p 0 0 cmp Fm gv nv cells Fg Fn lv∧Kt c mc p∧mu mc<gk - 1∧∀ o p2,Zx c mc p o p2→Zx c mq ⟨m,[],0⟩ o p2):=Lh ⟨m2,_,F2,_,_,_,_,_,_,_,aI.out.machM aX aW,aD.1,by have:=aD.2;omega,fun o p2 h=>aO.out _ _ (.step bB.out bC.out aB.out aP h)⟩
      clear aP aX aW aD
      go_wp2_with fail
      go_roundg (gk - 1)
      case measure=>omega
      case rel=>exact aM
     ·have aB:Hid (J5 c p mc.req=some (⟨p.mem,p.log++[⟨mc.req.kind,(bE:Int)+1,(fi:Int)⟩],p.nodes+(if 0<(bE:Int)+1 then 1 else 0)⟩,vv)):=Lh (by
       have e1:=dF.out
       unfold J5
       rw [if_neg bX,if_neg (by rw [aK.out,bF.out,← dN.out];exact cB),if_neg bU,aK.out,bF.out,Int.toNat_natCast,List.getD_eq_getElem?_getD,fP.out]
       unfold putM
       rw [if_pos bU,e1]
       simp)
      go_upto_region 27 with fail
      go_wp2_with fail
      refine (Vs mc.req.kind ((bE:Int)+1) (fi:Int) 0 0 mc.compares p.nodes aE.out.log aE.out.out (fun e=>aE.out.d6 _ e (by simp)) aH ⟨aC.out.nodes.1,by have:=aC.out.nodes.2;omega⟩).mono ?_
      rintro e w8 bK
      obtain ⟨rfl,eU,aJ⟩:=aE.out.noteM bK
      have aI:=Lh aJ
      clear bK aJ
      obtain ⟨i0,i1,i2,zi⟩:=bG.out.code (aI.out.bel.block _ (by omega))
      go_wp2_with fail
      refine (Kb hs hsm fa ga c.fields.length fc gc c.globals vv dG.out HE.out.1 aI.out.mach B (fun b hb=>by have:=aI.out.g1 b hb;omega) (HC.out.below ((bA.out.trans (aI.out.bel.mono (by omega))).mono hB)).funs (Ji aC.out.mem aL.out aB.out)).mono ?_
      rintro e wn ⟨rfl,m2,F2,aP,aX,aW⟩
      have aD:=aC.out.step hs bB.out bC.out aB.out aP
      have aM:Hid (∃ mc p Fm gv nv cells Fg Fn lv cmp,PSt (w.heap.size+3) W4 wn bm ((w.heap.size+1+1+1+1)) ((w.heap.size+1+1+1+1+1)) ((w.heap.size+1+1+1)) mc p 0 0 cmp Fm gv nv cells Fg Fn lv∧Kt c mc p∧mu mc<gk - 1∧∀ o p2,Zx c mc p o p2→Zx c mq ⟨m,[],0⟩ o p2):=Lh ⟨m2,_,F2,_,_,_,_,_,_,_,aI.out.machM aX aW,aD.1,by have:=aD.2;omega,fun o p2 h=>aO.out _ _ (.step bB.out bC.out aB.out aP h)⟩
      clear aP aX aW aD
      go_wp2_with fail
      go_roundg (gk - 1)
      case measure=>omega
      case rel=>exact aM
    ·obtain rfl:nd=0:=by omega
     have e0:mc.req.node=0:=dF.out
     rw [show ((0:Nat):Int)=0 from rfl] at r1 dX dY
     have bR:=Lh e0
     clear e0
     have aK:Hid (Un p.mem mc.req=p.mem.globals):=Lh (by
      unfold Un
      rw [if_neg (by rw [bR.out];omega),if_neg (by rw [bR.out];omega)])
     have dE:Hid (mc.req.kind=2→putM p.mem mc.req={ p.mem with globals:=p.mem.globals.set fi mc.req.value }):=Lh (fun hk=>by
      unfold putM
      rw [if_neg (by simp [hk]),if_neg (by rw [bR.out];omega),bF.out,Int.toNat_natCast])
     by_cases gI:aU≤fi
     ·have cB:(aU:Int)≤(fi:Int):=by omega
      have aB:Hid (J5 c p mc.req=none):=Lh (by
       unfold J5
       rw [if_neg bX,if_pos (by rw [aK.out,bF.out,← cJ.out];exact cB)])
      obtain ⟨W3,aG⟩:∃ u,u=W2.setCell ⟨(w.heap.size+1+1+1),0,none⟩ (.int .i64 11):=⟨_,rfl⟩
      have aA:Hid (PSt (w.heap.size+3) W4 W3 bm ((w.heap.size+1+1+1+1)) ((w.heap.size+1+1+1+1+1)) ((w.heap.size+1+1+1)) mc p 11 0 mc.compares Fm (.slice bM aU bJ) (.slice aT aF aN) cells Fg Fn (.slice bO bL bP)):=Lh (by rw [aG];exact aE.out.outM 0 (.int .i64 11) rfl)
      go_upto_region 23 with fail
      rw [←aG]
      clear aG
      clear o1 bD u0 u1 bQ z4
      obtain ⟨⟨eW,o0,cM⟩,⟨eX,o1,bD⟩,⟨eY,o2,cN⟩,⟨eZ,o3,cO⟩,⟨fA,o4,cP⟩,⟨fB,u0,cQ⟩,⟨fC,u1,bQ⟩,⟨eV,l0,cL⟩,z3,z4,z5⟩:=aA.out.outs
      go_region
      all_goals
       go_wp2_with fail
       refine bodyPost_ret (v:=.tuple #[Xap ⟨11,0,mc.compares,p.nodes⟩,.agg #[.slice bM aU bJ,.slice aT aF aN],.slice bO bL bP,.int .i64 0]) (Z4 (W:=W3.drew) (o:=⟨11,0,mc.compares,p.nodes⟩) (p:=8) (q:=9) (r:=10) (u:=11) rfl aA.out.out aA.out.mem.box aA.out.log.box _ _ rfl rfl rfl rfl) rfl ?_
       exact .inr ⟨cK.out,mq,_,p,_,_,_,_,_,_,_,_,HR.out,aO.out _ _ (.type bB.out bC.out aB.out),rfl,(aA.out.keep (Xh Br 1)).mem,(aA.out.keep (Xh Br 1)).log,aC.out.mem,aH,fun b hb=>by have:=aA.out.g2 b hb;omega,fun b hb=>by have:=aA.out.g3 b hb;omega,(bA.out.trans (aA.out.bel.mono (by omega))).trans (Xh Br 1)⟩
     have cB:¬(aU:Int)≤(fi:Int):=by omega
     have gG:(fi:Int)<(aU:Int):=by omega
     obtain ⟨vv,cI⟩:∃ v,p.mem.globals[fi]?=some v:=⟨_,Lg (by have:=cJ.out;omega)⟩
     have cA:=aE.out.mem.glob
     obtain ⟨lb,cap,dJ,bZ,_,_⟩:=cA.form (by have:=cJ.out;omega)
     rw [←cJ.out] at dJ
     simp only [Value.slice.injEq,true_and] at dJ
     obtain ⟨rfl,rfl⟩:=dJ
     rw [cJ.out] at cA
     have cv:=cA.cellAt cI
     have iV:=cA.frozen fi
     have zv:=Bl cv
     have dD:Hid (lb∈Uf ((w.heap.size+1+1+1+1)) (.slice aT aF aN) Fg Fn):=Lh (by unfold Uf;rw [bZ];simp)
     have fP:=Lh cI
     clear cI bZ cA
     by_cases bU:mc.req.kind=2
     ·rw [bU] at r0
      have cX:=Lh bU
      have fV:in64 mc.req.value:=aL.out.value.in64
      have eG:lb<rb:=by have h1:=HP.out.ltO lb dD.out;have h2:=eL.out;omega
      obtain ⟨W3,aG⟩:∃ u,u=W2.setCell ⟨lb,fi,none⟩ (.int .i64 mc.req.value):=⟨_,rfl⟩
      have aA:Hid (PSt (w.heap.size+3) W4 W3 bm ((w.heap.size+1+1+1+1)) ((w.heap.size+1+1+1+1+1)) ((w.heap.size+1+1+1)) mc { p with mem:={ p.mem with globals:=p.mem.globals.set fi mc.req.value } } 0 0 mc.compares Fm (.slice (some ⟨lb,0,none⟩) aU bJ) (.slice aT aF aN) cells Fg Fn (.slice bO bL bP)):=Lh (by rw [aG];exact aE.out.globSet cJ.out fi mc.req.value fV)
      have aB:Hid (J5 c p mc.req=some (⟨{ p.mem with globals:=p.mem.globals.set fi mc.req.value },p.log++[⟨2,0,(fi:Int)⟩],p.nodes+(if 0<(0:Int) then 1 else 0)⟩,mc.req.value)):=Lh (by
       have e1:=bR.out
       unfold J5
       rw [if_neg bX,if_neg (by rw [aK.out,bF.out,← cJ.out];exact cB),if_pos cX.out,dE.out cX.out,cX.out,e1,bF.out])
      clear bU
      have s0:W3.cell? ⟨rb,0,none⟩=some (.int .i64 2):=by rw [aG];exact Xw.cell r0 (by simp;omega)
      have s1:W3.cell? ⟨rb,1,none⟩=some (.int .i64 0):=by rw [aG];exact Xw.cell r1 (by simp;omega)
      have s2:W3.cell? ⟨rb,2,none⟩=some (.int .i64 (fi:Int)):=by rw [aG];exact Xw.cell r2 (by simp;omega)
      have fU:W3.cell? ⟨lb,fi,none⟩=some (.int .i64 mc.req.value):=by rw [aG];exact World.cell?_setCell_same _ _ _ cv
      have kH:=Bl s0
      have kI:=Bl fU
      go_upto_region 26 with fail
      rw [←aG]
      clear aG
      go_upto_region 27 with fail
      go_wp2_with fail
      refine (Vs 2 0 (fi:Int) 0 0 mc.compares p.nodes aA.out.log aA.out.out (fun e=>aA.out.d6 _ e (by simp)) aH ⟨aC.out.nodes.1,by have:=aC.out.nodes.2;omega⟩).mono ?_
      rintro e w8 bK
      obtain ⟨rfl,eU,aJ⟩:=aA.out.noteM bK
      have aI:=Lh aJ
      clear bK aJ
      obtain ⟨i0,i1,i2,zi⟩:=bG.out.code (aI.out.bel.block _ (by omega))
      go_wp2_with fail
      refine (Kb hs hsm fa ga c.fields.length fc gc c.globals mc.req.value dG.out HE.out.1 aI.out.mach B (fun b hb=>by have:=aI.out.g1 b hb;omega) (HC.out.below ((bA.out.trans (aI.out.bel.mono (by omega))).mono hB)).funs (Ji aC.out.mem aL.out aB.out)).mono ?_
      rintro e wn ⟨rfl,m2,F2,aP,aX,aW⟩
      have aD:=aC.out.step hs bB.out bC.out aB.out aP
      have aM:Hid (∃ mc p Fm gv nv cells Fg Fn lv cmp,PSt (w.heap.size+3) W4 wn bm ((w.heap.size+1+1+1+1)) ((w.heap.size+1+1+1+1+1)) ((w.heap.size+1+1+1)) mc p 0 0 cmp Fm gv nv cells Fg Fn lv∧Kt c mc p∧mu mc<gk - 1∧∀ o p2,Zx c mc p o p2→Zx c mq ⟨m,[],0⟩ o p2):=Lh ⟨m2,_,F2,_,_,_,_,_,_,_,aI.out.machM aX aW,aD.1,by have:=aD.2;omega,fun o p2 h=>aO.out _ _ (.step bB.out bC.out aB.out aP h)⟩
      clear aP aX aW aD
      go_wp2_with fail
      go_roundg (gk - 1)
      case measure=>omega
      case rel=>exact aM
     ·have aB:Hid (J5 c p mc.req=some (⟨p.mem,p.log++[⟨mc.req.kind,0,(fi:Int)⟩],p.nodes+(if 0<(0:Int) then 1 else 0)⟩,vv)):=Lh (by
       have e1:=bR.out
       unfold J5
       rw [if_neg bX,if_neg (by rw [aK.out,bF.out,← cJ.out];exact cB),if_neg bU,aK.out,bF.out,Int.toNat_natCast,List.getD_eq_getElem?_getD,fP.out]
       unfold putM
       rw [if_pos bU,e1]
       simp)
      go_upto_region 27 with fail
      go_wp2_with fail
      refine (Vs mc.req.kind 0 (fi:Int) 0 0 mc.compares p.nodes aE.out.log aE.out.out (fun e=>aE.out.d6 _ e (by simp)) aH ⟨aC.out.nodes.1,by have:=aC.out.nodes.2;omega⟩).mono ?_
      rintro e w8 bK
      obtain ⟨rfl,eU,aJ⟩:=aE.out.noteM bK
      have aI:=Lh aJ
      clear bK aJ
      obtain ⟨i0,i1,i2,zi⟩:=bG.out.code (aI.out.bel.block _ (by omega))
      go_wp2_with fail
      refine (Kb hs hsm fa ga c.fields.length fc gc c.globals vv dG.out HE.out.1 aI.out.mach B (fun b hb=>by have:=aI.out.g1 b hb;omega) (HC.out.below ((bA.out.trans (aI.out.bel.mono (by omega))).mono hB)).funs (Ji aC.out.mem aL.out aB.out)).mono ?_
      rintro e wn ⟨rfl,m2,F2,aP,aX,aW⟩
      have aD:=aC.out.step hs bB.out bC.out aB.out aP
      have aM:Hid (∃ mc p Fm gv nv cells Fg Fn lv cmp,PSt (w.heap.size+3) W4 wn bm ((w.heap.size+1+1+1+1)) ((w.heap.size+1+1+1+1+1)) ((w.heap.size+1+1+1)) mc p 0 0 cmp Fm gv nv cells Fg Fn lv∧Kt c mc p∧mu mc<gk - 1∧∀ o p2,Zx c mc p o p2→Zx c mq ⟨m,[],0⟩ o p2):=Lh ⟨m2,_,F2,_,_,_,_,_,_,_,aI.out.machM aX aW,aD.1,by have:=aD.2;omega,fun o p2 h=>aO.out _ _ (.step bB.out bC.out aB.out aP h)⟩
      clear aP aX aW aD
      go_wp2_with fail
      go_roundg (gk - 1)
      case measure=>omega
      case rel=>exact aM
