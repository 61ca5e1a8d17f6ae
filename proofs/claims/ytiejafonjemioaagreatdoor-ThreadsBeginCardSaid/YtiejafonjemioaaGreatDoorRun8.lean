import Derived.Test.YtiejafonjemioaaGreatDoorSga
import Derived.Test.YtiejafonjemioaaGreatDoorSgb
import Derived.Test.YtiejafonjemioaaGreatDoorSgc
import Derived.Test.YtiejafonjemioaaGreatDoorSgd
import Derived.Test.YtiejafonjemioaaGreatDoorSge
import Derived.Test.YtiejafonjemioaaGreatDoorSgf
import Derived.Test.YtiejafonjemioaaGreatDoorPst3
import Derived.Defers
import Derived.Recover
import Derived.Outline
set_option maxHeartbeats 2000000
set_option maxRecDepth 100000
set_option linter.unusedVariables false
set_option linter.unusedSimpArgs false
open Go.Value renaming slice→σ
open Go.Obj renaming cells→χ
namespace Go.Proofs.YtiejafonjemioaaGreatDoor
open Go.RowKit
variable {c:Cod} {w:World} {bm:Nat} {m:Mch} {F:List Nat} {fs:List Fra} {f:Fra}
theorem Xn2 (hs:Xv c) (hsm:Zb c) (fa ga:Option Addr) (fn fc gc:Nat) (g:Int) (hg:Ja c m fs f) (hO:X3 w bm m F)
  (B:Nat) (hB:∀ b∈F,B<=b) (hfs:Xf B w 5 (Zl B) (σ ga c.funcs.length gc) c.funcs) :
  Calls Tryz.prog 170 #[Yw (σ fa fn fc) (σ ga c.funcs.length gc) g bm] w (Km w bm F (stepP c m)):=by
 obtain ⟨fb,cap,bS,cs,lv,sv,Fi,Fl,Fs,hT,rfl⟩:=hO.top hg.fr
 have aC:c.funcs.length<=1000000:=by have:=hs.1.2.2.2.2.1;omega
 have hn:=hg.len
 have aE:=hg.nums
 by_cases bE:100000<=m.idle
 ·have e:stepP c m=.stop (X0 6) m:=by unfold stepP;rw [if_pos bE]
  rw [e]
  exact Xj6 fa ga fn fc c.funcs.length gc g hT hg.fr ⟨bE,aE.idle1⟩
 have aA:0<=m.idle/\m.idle<100000:=⟨aE.idle0,ω⟩
 obtain ⟨y,x,hb,hr,hx,hp,aZ⟩:=hg.at_ hs
 rw [hg.stepP hb.fn hx aA.2]
 have bH:=(hs.wf hb.fn).op x (Lm hx)
 have bN:=hsm y (Lm hb.fn)
 have aB:y.code.length<=1000000:=ω
 have bU:=Qu (hs.wf hb.fn) (hs.snd hb.fn) hr
 have bQ:f.stack.length<999999:=ω
 have aF:f.stack.length<1000000:=ω
 have aW:=hg.low.small hs hsm
 have aH:∀ f∈fs,f.stack.length<1000000:=fun f hf=>by have:=aW f (List.mem_reverse.2 hf);omega
 have hk:f.fn=(f.fn.toNat:Int):=(Int.toNat_of_nonneg hb.fn0).symm
 have aD:f.pc=(f.pc.toNat:Int):=(Int.toNat_of_nonneg hb.pc0).symm
 have bC:∀ n∈f.stack,in64 n:=fun n h=>(hb.sv n h).in64
 have bO:=hs.fok hb.fn
 unfold Zr at bO
 have bG:f.locals.length<=1000:=by have:=hb.loc;omega
 have hv:1<=f.stack.length->isV (f.stack.getLastD 0):=fun h1=>hb.sv _ (by rw [Y9 h1];simp)
 have hu:2<=f.stack.length->isV (f.stack.dropLast.getLastD 0):=fun h1=>hb.sv _ (by rw [Kv h1];simp)
 unfold Z0
 simp only []
 by_cases e1:x.op=1
 ·rw [if_pos e1]
  exact Kq fa ga fn fc gc g hT hn B hB c.funcs aC hfs f.fn.toNat hk y hb.fn f.pc.toNat aD x hx aB aA _ (.inl ⟨e1,aF,rfl⟩)
 rw [if_neg e1]
 by_cases e2:x.op=2
 ·rw [if_pos e2]
  have aU:=hs.lim hb.fn hx (n:=y.locals) (by rw [e2];rfl)
  have aV:=hb.loc
  have hi:f.locals[x.a.toNat]?=some (f.locals.getD x.a.toNat 0):=getD_some ω
  exact Kk fa ga fn fc gc g hT hn B hB c.funcs aC hfs f.fn.toNat hk y hb.fn f.pc.toNat aD x hx aB aA _ (.inr (.inr (.inr (.inr (.inr (.inr (.inr (⟨e2,x.a.toNat,ω,(f.locals.getD x.a.toNat 0),hi,(hb.lv _ (Lm hi)).in64,aF,bG,rfl⟩))))))))
 rw [if_neg e2]
 by_cases e3:x.op=3
 ·rw [if_pos e3]
  have hq:=Yo (c:=c) (y:=y) (x:=x) (by rw [e3];decide)
  rw [e3] at hq;rw [hq.1] at hp
  simp [Y1] at hp
  have aU:=hs.lim hb.fn hx (n:=y.locals) (by rw [e3];rfl)
  have aV:=hb.loc
  exact Xbs fa ga fn fc gc g hT hn B hB c.funcs aC hfs f.fn.toNat hk y hb.fn f.pc.toNat aD x hx aB aA _ (.inl ⟨e3,x.a.toNat,ω,ω,f.stack.dropLast,(f.stack.getLastD 0),(Y9 ω),(hv ω).in64,bG,rfl⟩)
 rw [if_neg e3]
 by_cases e4:x.op=4
 ·rw [if_pos e4]
  exact Kq fa ga fn fc gc g hT hn B hB c.funcs aC hfs f.fn.toNat hk y hb.fn f.pc.toNat aD x hx aB aA _ (.inr (.inl ⟨e4,rfl⟩))
 rw [if_neg e4]
 by_cases e5:x.op=5
 ·rw [if_pos e5]
  have hq:=Yo (c:=c) (y:=y) (x:=x) (by rw [e5];decide)
  rw [e5] at hq;rw [hq.1] at hp
  simp [Y1] at hp
  exact Kq fa ga fn fc gc g hT hn B hB c.funcs aC hfs f.fn.toNat hk y hb.fn f.pc.toNat aD x hx aB aA _ (.inr (.inr (.inr (.inr (.inl ⟨e5,f.stack.dropLast,(f.stack.getLastD 0),(Y9 ω),rfl⟩)))))
 rw [if_neg e5]
 by_cases e6:x.op=6
 ·rw [if_pos e6]
  have hq:=Yo (c:=c) (y:=y) (x:=x) (by rw [e6];decide)
  rw [e6] at hq;rw [hq.1] at hp
  simp [Y1] at hp
  split
  ·rename_i h1
   exact Xhm fa ga fn fc gc g hT hn B hB c.funcs aC hfs f.fn.toNat hk y hb.fn f.pc.toNat aD x hx aB aA _ (.inl ⟨e6,f.stack.dropLast,(f.stack.getLastD 0),(Y9 ω),h1,rfl⟩)
  ·rename_i h1
   exact Xhm fa ga fn fc gc g hT hn B hB c.funcs aC hfs f.fn.toNat hk y hb.fn f.pc.toNat aD x hx aB aA _ (.inr (⟨e6,f.stack.dropLast,(f.stack.getLastD 0),(Y9 ω),ω,rfl⟩))
 rw [if_neg e6]
 by_cases e7:x.op=7
 ·rw [if_pos e7]
  have hq:=Yo (c:=c) (y:=y) (x:=x) (by rw [e7];decide)
  rw [e7] at hq;rw [hq.1] at hp
  simp [Y1] at hp
  split
  ·rename_i h1
   exact Xia fa ga fn fc gc g hT hn B hB c.funcs aC hfs f.fn.toNat hk y hb.fn f.pc.toNat aD x hx aB aA _ (.inl ⟨e7,f.stack.dropLast.dropLast,(f.stack.dropLast.getLastD 0),(f.stack.getLastD 0),(Kv ω),h1,rfl⟩)
  ·rename_i h1
   exact Xia fa ga fn fc gc g hT hn B hB c.funcs aC hfs f.fn.toNat hk y hb.fn f.pc.toNat aD x hx aB aA _ (.inr (⟨e7,f.stack.dropLast.dropLast,(f.stack.dropLast.getLastD 0),(f.stack.getLastD 0),(Kv ω),ω,rfl⟩))
 rw [if_neg e7]
 by_cases e8:x.op=8
 ·rw [if_pos e8]
  exact Kq fa ga fn fc gc g hT hn B hB c.funcs aC hfs f.fn.toNat hk y hb.fn f.pc.toNat aD x hx aB aA _ (.inr (.inr (.inl ⟨e8,rfl⟩)))
 rw [if_neg e8]
 by_cases e9:x.op=9
 ·rw [if_pos e9]
  have aU:=hs.lim hb.fn hx (n:=c.funcs.length) (by rw [e9];rfl)
  obtain ⟨z,hz⟩:∃ z,c.funcs[x.a.toNat]?=some z:=⟨_,Lg ω⟩
  have bL:Je c x.a=some z:=hz
  have hq:Xm c y x=z.params:=by unfold Xm;rw [if_pos e9,bL]
  rw [hq] at hp
  have bR:=hs.fok hz
  unfold Zr at bR
  rw [bL]
  simp only []
  have bI:f.stack=f.stack.take (f.stack.length - z.params.toNat)++f.stack.drop (f.stack.length - z.params.toNat):=(List.take_append_drop _ _).symm
  have aG:(f.stack.drop (f.stack.length - z.params.toNat)).length=z.params.toNat:=by rw [List.length_drop];omega
  have bA:x.a=(x.a.toNat:Int):=(Int.toNat_of_nonneg aU.1).symm
  split
  ·rename_i hd
   rw [show (⟨x.a,0,f.stack.drop (f.stack.length - z.params.toNat)++List.replicate (z.locals - z.params).toNat 0,[]⟩:Fra)=⟨(x.a.toNat:Int),0,f.stack.drop (f.stack.length - z.params.toNat)++List.replicate (z.locals - z.params).toNat 0,[]⟩ from by rw [<-bA]]
   exact Kk fa ga fn fc gc g hT hn B hB c.funcs aC hfs f.fn.toNat hk y hb.fn f.pc.toNat aD x hx aB aA _ (.inr (.inr (.inr (.inl ⟨e9,x.a.toNat,bA,z,hz,_,_,bI,(by rw [aG];omega),(z.locals - z.params).toNat,(by rw [aG];omega),(by rw [aG];omega),bC,hd,rfl⟩))))
  ·rename_i hd
   exact Kk fa ga fn fc gc g hT hn B hB c.funcs aC hfs f.fn.toNat hk y hb.fn f.pc.toNat aD x hx aB aA _ (.inr (.inr (.inr (.inr (.inl ⟨e9,x.a.toNat,bA,z,hz,_,_,bI,(by rw [aG];omega),(z.locals - z.params).toNat,(by rw [aG];omega),(by rw [aG];omega),bC,hd,rfl⟩)))))
 rw [if_neg e9]
 by_cases aJ:x.op=10
 ·rw [if_pos aJ]
  have hq:Xm c y x=b2i y.result:=by unfold Xm;rw [if_neg ω,if_pos aJ]
  have aI:=aZ aJ
  rw [hq] at aI
  have aS:f.stack=if y.result then [if y.result=true then f.stack.getLastD 0 else 0] else []:=by
   cases aR:y.result with
   | true=>
    rw [aR] at aI
    simp [b2i] at aI
    have h1:=Y9 (st:=f.stack) ω
    have h2:f.stack.dropLast=[]:=List.eq_nil_of_length_eq_zero (by rw [List.length_dropLast];omega)
    rw [h2] at h1
    simpa using h1
   | false=>
    rw [aR] at aI
    simp [b2i] at aI
    simpa using aI
  have bJ:y.result=false->(if y.result=true then f.stack.getLastD 0 else 0)=0:=fun h=>by rw [h];rfl
  have bK:in64 (if y.result=true then f.stack.getLastD 0 else 0):=by
   split
   ·rename_i hr1;rw [hr1] at aI;simp [b2i] at aI;exact (hv ω).in64
   ·unfold in64;omega
  cases bD:fs.getLast? with
  | none=>
   have aX:fs=[]:=List.getLast?_eq_none_iff.1 bD
   exact Kk fa ga fn fc gc g hT hn B hB c.funcs aC hfs f.fn.toNat hk y hb.fn f.pc.toNat aD x hx aB aA _ (.inr (.inr (.inr (.inr (.inr (.inl ⟨aJ,_,aS,bJ,bK,aH,aX,rfl⟩))))))
  | some f'=>
   obtain ⟨bB,bF⟩:=List.getLast?_eq_some_iff.1 bD
   have aG:fs.dropLast=bB:=by rw [bF];simp
   simp only []
   rw [aG]
   exact Kk fa ga fn fc gc g hT hn B hB c.funcs aC hfs f.fn.toNat hk y hb.fn f.pc.toNat aD x hx aB aA _ (.inr (.inr (.inr (.inr (.inr (.inr (.inl ⟨aJ,_,aS,bJ,bK,aH,bB,f',bF,rfl⟩)))))))
 rw [if_neg aJ]
 by_cases aT:x.op=11
 ·rw [if_pos aT]
  exact Kq fa ga fn fc gc g hT hn B hB c.funcs aC hfs f.fn.toNat hk y hb.fn f.pc.toNat aD x hx aB aA _ (.inr (.inr (.inr (.inl ⟨aT,rfl⟩))))
 rw [if_neg aT]
 by_cases aK:x.op=12
 ·rw [if_pos aK]
  have hq:=Yo (c:=c) (y:=y) (x:=x) (by rw [aK];decide)
  rw [aK] at hq;rw [hq.1] at hp
  simp [Y1] at hp
  split
  ·rename_i h1
   exact Kq fa ga fn fc gc g hT hn B hB c.funcs aC hfs f.fn.toNat hk y hb.fn f.pc.toNat aD x hx aB aA _ (.inr (.inr (.inr (.inr (.inr (.inr (.inr (⟨aK,f.stack.dropLast,(by rw [<-h1];exact Y9 ω),rfl⟩))))))))
  ·rename_i h1
   exact Kq fa ga fn fc gc g hT hn B hB c.funcs aC hfs f.fn.toNat hk y hb.fn f.pc.toNat aD x hx aB aA _ (.inr (.inr (.inr (.inr (.inr (.inr (.inl ⟨aK,f.stack.dropLast,(f.stack.getLastD 0),(Y9 ω),h1,rfl⟩)))))))
 rw [if_neg aK]
 by_cases aQ:x.op=13
 ·rw [if_pos aQ]
  split
  ·rename_i h1
   exact Kk fa ga fn fc gc g hT hn B hB c.funcs aC hfs f.fn.toNat hk y hb.fn f.pc.toNat aD x hx aB aA _ (.inr (.inl ⟨aQ,h1,rfl⟩))
  ·rename_i h1
   have aY:=aE.potle
   have bM:=aE.cmp0
   have bP:=aE.idle1
   unfold pot at aY
   exact Kk fa ga fn fc gc g hT hn B hB c.funcs aC hfs f.fn.toNat hk y hb.fn f.pc.toNat aD x hx aB aA _ (.inr (.inr (.inl ⟨aQ,h1,⟨aE.fuel,ω⟩,rfl⟩)))
 rw [if_neg aQ]
 by_cases aL:x.op=14
 ·rw [if_pos aL]
  have hq:=Yo (c:=c) (y:=y) (x:=x) (by rw [aL];decide)
  rw [aL] at hq;rw [hq.1] at hp
  simp [Y1] at hp
  exact Xbs fa ga fn fc gc g hT hn B hB c.funcs aC hfs f.fn.toNat hk y hb.fn f.pc.toNat aD x hx aB aA _ (.inr (.inl ⟨aL,aF,f.stack.dropLast,(f.stack.getLastD 0),(Y9 ω),(hv ω),rfl⟩))
 rw [if_neg aL]
 by_cases aM:x.op=26
 ·rw [if_pos aM]
  have hq:=Yo (c:=c) (y:=y) (x:=x) (by rw [aM];decide)
  rw [aM] at hq;rw [hq.1] at hp
  simp [Y1] at hp
  exact Xbs fa ga fn fc gc g hT hn B hB c.funcs aC hfs f.fn.toNat hk y hb.fn f.pc.toNat aD x hx aB aA _ (.inr (.inr (.inl ⟨aM,aF,f.stack.dropLast,(f.stack.getLastD 0),(Y9 ω),rfl⟩)))
 rw [if_neg aM]
 by_cases aN:x.op=29
 ·rw [if_pos aN]
  have hq:=Yo (c:=c) (y:=y) (x:=x) (by rw [aN];decide)
  rw [aN] at hq;rw [hq.1] at hp
  simp [Y1] at hp
  exact Xbs fa ga fn fc gc g hT hn B hB c.funcs aC hfs f.fn.toNat hk y hb.fn f.pc.toNat aD x hx aB aA _ (.inr (.inr (.inr (⟨aN,aF,f.stack.dropLast,(f.stack.getLastD 0),(Y9 ω),(hv ω),rfl⟩))))
 rw [if_neg aN]
 by_cases aO:x.op=30
 ·rw [if_pos aO]
  have hq:=Yo (c:=c) (y:=y) (x:=x) (by rw [aO];decide)
  rw [aO] at hq;rw [hq.1] at hp
  simp [Y1] at hp
  exact Kq fa ga fn fc gc g hT hn B hB c.funcs aC hfs f.fn.toNat hk y hb.fn f.pc.toNat aD x hx aB aA _ (.inr (.inr (.inr (.inr (.inr (.inl ⟨aO,f.stack.dropLast,(f.stack.getLastD 0),(Y9 ω),rfl⟩))))))
 rw [if_neg aO]
 by_cases aP:x.op=31
 ·rw [if_pos aP]
  have hq:=Yo (c:=c) (y:=y) (x:=x) (by rw [aP];decide)
  rw [aP] at hq;rw [hq.1] at hp
  simp [Y1] at hp
  exact Kk fa ga fn fc gc g hT hn B hB c.funcs aC hfs f.fn.toNat hk y hb.fn f.pc.toNat aD x hx aB aA _ (.inl ⟨aP,bQ,f.stack.dropLast,(f.stack.getLastD 0),(Y9 ω),(hv ω).in64,rfl⟩)
 rw [if_neg aP]
 have h2:=Xjw bH.1 bH.2 ⟨e1,e2,e3,e4,e5,e6,e7,e8,e9,aJ,aT,aK,aQ,aL,aM,aN,aO,aP⟩
 have hq:=Xa8 (c:=c) (y:=y) h2
 rw [hq.1] at hp
 have aY:=aE.potle
 have bM:=aE.cmp0
 have bP:=aE.idle1
 have bT:=aE.fuel
 unfold pot at aY
 split
 ·rename_i hE
  exact Xgt fa ga fn fc gc g hT hn B hB c.funcs aC hfs f.fn.toNat hk y hb.fn f.pc.toNat aD x hx aB aA _ (.inl ⟨h2,aF,f.stack.dropLast.dropLast,(f.stack.dropLast.getLastD 0),(f.stack.getLastD 0),(Kv ω),(hu ω),(hv ω),⟨ω,ω⟩,hE,(Xdb h2 (hu ω) (hv ω) hE).in64,rfl⟩)
 ·rename_i hE
  exact Xgt fa ga fn fc gc g hT hn B hB c.funcs aC hfs f.fn.toNat hk y hb.fn f.pc.toNat aD x hx aB aA _ (.inr (⟨h2,aF,f.stack.dropLast.dropLast,(f.stack.dropLast.getLastD 0),(f.stack.getLastD 0),(Kv ω),(hu ω),(hv ω),⟨ω,ω⟩,hE,rfl⟩))
theorem Xif {W:World} {fv fv':Value} {m':Mch} {F0 F1:List Nat} (hm:w.heap[bm]?=some (χ (Xb fv m) 51 (0,0))) (hn:bm∉F1) (hs:∀ b∈F1,b∈F0)
  (h1:W.heap[bm]?=some (χ (Xb fv' m') 51 (0,0))) (hM:Xp [bm] [bm] w W) (hv:Z9 w fv' m'.frames F1) (o:Obj) :
  ∃ F',X3 (W.alloc o) bm m' F'/\Xp (bm::F0) F' w (W.alloc o):=by
 have aB:=(La hm)
 have aC:=hM.size
 have aA:=hv.lt
 have ha:∀ k,k<w.heap.size->(W.alloc o).heap[k]?=W.heap[k]?:=fun k hk=>Ha _ _ _ ω
 refine ⟨bm::F1,Xt.2 ⟨fv',F1,by rw [ha bm aB];exact h1,hv.keep (fun b hb=>by rw [ha b (aA b hb),hM.block b (aA b hb) (fun e=>hn (by rw [List.mem_singleton] at e;exact e▸hb))]),rfl,hn⟩,?_⟩
 have h3:=hM.trans (Xp.of_below (F:=[bm]) (Xa W o))
 exact h3.wide (fun b hb=>by simp at hb;simp [hb]) (fun b hb=>by
  rw [List.mem_cons] at hb
  rcases hb with rfl|hb
  ·left;simp
  ·right;simp [hs b hb])
theorem Xha:∀ (v:Value) (w:World),(Instr.typeAssert (.iface 199 v) 20 199 true).run Tryz.prog w=.ok (.tuple #[v,.bool true]) w:=fun v w=>by kernel_rfl
theorem Xi6 (x y:Value):(#[x]++((((Array.replicate 32 undef).setIfInBounds 3 y).setIfInBounds 0 y).setIfInBounds 4 y).setIfInBounds 5 (.bool true))=#[x,y,undef,undef,y,y,.bool true,undef,undef,undef,undef,undef,undef,undef,undef,undef,undef,undef,undef,undef,undef,undef,undef,undef,undef,undef,undef,undef,undef,undef,undef,undef,undef]:=by kernel_rfl
theorem Xlx {bp:Nat} (h:X3 w bm m F) (hbp:bp∉F) (hp:w.cell? (π bp 0)=some (.pointer (some (π bm 0)))) (r:Rq) (older:List PanicEntry) :
  CallsD Tryz.prog 169 #[.pointer (some (π bp 0))] (.panicking ({ v:=Xdd r,recovered:=false }::older)) w fun e u' w'=>
   e=.returned (.tuple #[])/\u'=.panicking ({ v:=Xdd r,recovered:=true }::older)/\∃ F',X3 w' bm (Jf r m) F'/\Xp F F' w w':=by
 obtain ⟨fv,F0,hm,hv,rfl,hn⟩:=Xt.1 h
 have aG:=(La hm)
 have cc:∀ j v,(Xb fv m)[j]?=some v->w.cell? (π bm j)=some v:=fun j v hj=>by rw [cell_of_row _ _ _ _ _ _ hm];exact hj
 have c0:=cc 0 fv rfl
 have c1:=cc 1 (ι m.req.kind) rfl
 have c2:=cc 2 (ι m.req.node) rfl
 have c3:=cc 3 (ι m.req.field) rfl
 have c4:=cc 4 (ι m.req.value) rfl
 have c5:=cc 5 (ι m.req.fault) rfl
 have f0:w.frozen? (π bm 0)=false:=Fz hm
 have f1:w.frozen? (π bm 1)=false:=Fz hm
 have f2:w.frozen? (π bm 2)=false:=Fz hm
 have f3:w.frozen? (π bm 3)=false:=Fz hm
 have f4:w.frozen? (π bm 4)=false:=Fz hm
 have f5:w.frozen? (π bm 5)=false:=Fz hm
 have aI:=Bl hp
 have aH:¬bp=bm:=fun e=>hbp (by simp [e])
 have HM:=Lh hm
 have HV:=Lh hv
 clear hm hv h cc hbp
 have aJ:=Xha
 unfold Xdd
 refine callsD_of_wpS Tryz.func169 rfl fun c₀ cs hu=>?_
 apply wpS_seq
 apply wpS_region
 simp [wpOpsS,go_sem,recoverD,hu,Tryz.ntmps169,Exit.thenS]
 apply wpS_seq
 apply wpS_region
 simp [wpOpsS,go_sem,Tryz.ntmps169,Exit.thenS]
 refine wpS_cond (t:=true) (by simp [Act.eval,Array.replicate]) ?_
 simp only [if_true]
 have HU:=Lh hu
 clear hu
 refine wpS_of_wp ?_
 obtain ⟨sV,aB⟩:∃ v:Value,v=.iface 199 (.agg #[ι r.kind,ι r.node,ι r.field,ι r.value,ι r.fault]):=⟨_,rfl⟩
 rw [<-aB]
 rw [Xi6]
 rw [aB]
 clear aB
 have hq:=Lh (Ju HM.o r)
 by_cases hk:r.kind=4\/r.kind=5
 ·have aA:Hid (Jf r m={ m with req:=r,frames:=[] }):=by refine Lh ?_;unfold Jf;rw [if_pos hk]
  have fin:Hid (∃ F',X3 (((Yq w bm r).setCell (π bm 0) ν).alloc (χ #[ι r.kind,ι r.node,ι r.field,ι r.value,ι r.fault] 199)) bm (Jf r m) F'/\Xp (bm::F0) F' w (((Yq w bm r).setCell (π bm 0) ν).alloc (χ #[ι r.kind,ι r.node,ι r.field,ι r.value,ι r.fault] 199))):=by
   rw [aA.o]
   have h0:=heap_setCell_same _ bm 0 _ _ ν hq.o.1
   rw [Qo] at h0
   exact Xif HM.o ψ (fun b hb=>by simp at hb) (m':={ m with req:=r,frames:=[] }) h0 (hq.o.2.trans Xw) (Jd w) _
  unfold Yq at fin
  rcases hk with hk|hk
  ·obtain ⟨kind,node,field,value,fault⟩:=r
   dsimp only at hk
   subst hk
   go_wp2
   refine ⟨rfl,_,rfl,_,results_none rfl _ _ _,rfl,rfl,?_⟩
   exact fin.o
  ·obtain ⟨kind,node,field,value,fault⟩:=r
   dsimp only at hk
   subst hk
   go_wp2
   refine ⟨rfl,_,rfl,_,results_none rfl _ _ _,rfl,rfl,?_⟩
   exact fin.o
 ·have aC:¬r.kind=4:=fun e=>hk (.inl e)
  have aD:¬r.kind=5:=fun e=>hk (.inr e)
  have aA:Hid (Jf r m={ m with req:=r }):=by refine Lh ?_;unfold Jf;rw [if_neg hk]
  have fin:Hid (∃ F',X3 ((Yq w bm r).alloc (χ #[ι r.kind,ι r.node,ι r.field,ι r.value,ι r.fault] 199)) bm (Jf r m) F'/\Xp (bm::F0) F' w ((Yq w bm r).alloc (χ #[ι r.kind,ι r.node,ι r.field,ι r.value,ι r.fault] 199))):=by
   rw [aA.o]
   exact Xif HM.o hn (fun _ h=>h) (m':={ m with req:=r }) hq.o.1 hq.o.2 HV.o _
  unfold Yq at fin
  clear hk aA hq
  obtain ⟨kind,node,field,value,fault⟩:=r
  dsimp only at aC aD
  have aE:(kind == 4)=false:=by simp [aC]
  have aF:(kind == 5)=false:=by simp [aD]
  go_wp2
  refine ⟨rfl,_,rfl,_,results_none rfl _ _ _,rfl,rfl,?_⟩
  exact fin.o
def Xc0 (c:Cod) (m:Mch) (bm:Nat) (F:List Nat) (w:World) (e:Ending) (w':World):Prop:=
 e=.returned (.tuple #[])/\∃ m' F',Zm c m m'/\X3 w' bm m' F'/\Xp F F' w w'
def Xml (c:Cod) (m:Mch) (bm:Nat) (F:List Nat) (W:World) (fa:Option Addr) (fn fc:Nat) (g:Int) (gv:Value) (gk:Nat) (b4:Nat) (wr:World):Prop:=
 ∃ mr fs f Fr,Ja c mr fs f/\(pot mr).toNat<gk/\(∀ m',Zm c mr m'->Zm c m m')/\X3 wr bm mr Fr/\Xp F Fr W wr/\b4∉Fr/\Xo wr b4 [σ fa fn fc,ι g,gv,.pointer (some (π bm 0))]
theorem Xc2 (hs:Xv c) (hsm:Zb c) (fa ga:Option Addr) (fn fc gc:Nat) (g:Int) (hg:Ja c m fs f) (hO:X3 w bm m F)
  (B:Nat) (hB:∀ b∈F,B<=b) (hfs:Xf B w 5 (Zl B) (σ ga c.funcs.length gc) c.funcs) :
  Calls Tryz.prog 138 #[.agg #[σ fa fn fc,ι g,σ ga c.funcs.length gc],.pointer (some (π bm 0))] w (Xc0 c m bm F w):=by
 have bQ:∀ (fn:Fn) (first cap:Array Value) (w:World),(Instr.makeFunc fn first cap).run Tryz.prog w=.ok (.func fn first cap) w:=fun _ _ _ _=>rfl
 have aL:=Lh hO.lt
 obtain ⟨W,hW⟩:∃ W,W=((w.alloc (χ #[σ fa fn fc,ι g,σ ga c.funcs.length gc] 25)).alloc (χ #[.pointer (some (π bm 0))] 159)).alloc (χ #[σ fa fn fc,ι g,σ ga c.funcs.length gc,.pointer (some (π bm 0))] 175):=⟨_,rfl⟩
 have aI:Hid (Below w.heap.size w W):=by rw [hW];exact ((Xa _ _).then (Xa _ _)).then (Xa _ _)
 have aZ:Hid (W.heap.size=w.heap.size+3):=by rw [hW];exact Lh ψ
 have bH:Hid (W.cell? (π (w.heap.size+1) 0)=some (.pointer (some (π bm 0)))):=by rw [hW];refine Lh ?_;go_simp
 have aS:Hid (Xo W (w.heap.size+1+1) [σ fa fn fc,ι g,σ ga c.funcs.length gc,.pointer (some (π bm 0))]):=by
  rw [hW]
  have:=@Xd ((w.alloc (χ #[σ fa fn fc,ι g,σ ga c.funcs.length gc] 25)).alloc (χ #[.pointer (some (π bm 0))] 159)) #[σ fa fn fc,ι g,σ ga c.funcs.length gc,.pointer (some (π bm 0))] 175
  exact Lh (by simpa using this)
 have aO:Hid (Xml c m bm F W fa fn fc g (σ ga c.funcs.length gc) ((pot m).toNat+1) (w.heap.size+1+1) W):=
  Lh ⟨m,fs,f,F,hg,ω,fun _ h=>h,hO.keep aI.o,Xp.self,fun e=>by have:=aL.o _ e;omega,aS.o⟩
 have bD:B<=w.heap.size:=by
  obtain ⟨fv,F0,hm,hv,rfl,hn⟩:=Xt.1 hO
  have h1:=hB bm ψ
  have h2:=aL.o bm ψ
  omega
 have aR:Hid (B<=W.heap.size):=Lh (by have:=aZ.o;omega)
 have bA:=Lh hfs
 have HB:=Lh hB
 clear hfs hB hg hO
 go_enter_defers Tryz.func138,Tryz.ntmps138
 go_wp2_with fail
 rw [<-hW]
 have HW:=Lh hW
 clear hW aS
 go_loopg [4] ((pot m).toNat+1) (fun gk p wr=>∃ b4:Nat,p=.pointer (some (π b4 0))/\Hid (Xml c m bm F W fa fn fc g (σ ga c.funcs.length gc) gk b4 wr))
 case atStart=>exact ⟨w.heap.size+1+1,rfl,aO⟩
 case round=>
  obtain ⟨b4,rfl,aY⟩:=hrel
  obtain ⟨mr,bO,f',Fr,hg,aW,aX,hO,hM,aE,aA⟩:=aY.o
  have k0:=aA 0 _ rfl
  have k1:=aA 1 _ rfl
  have k2:=aA 2 _ rfl
  have k3:=aA 3 _ rfl
  have bP:=Bl k0
  have HG:=Lh hg
  have bB:=Lh aW
  have aQ:=Lh aX
  have HO:=Lh hO
  have HM:=Lh hM
  have bN:=Lh aA
  have aG:=Lh aE
  have bE:Hid (∀ b∈Fr,B<=b):=Lh (hM.ge HB.o aR.o)
  have bL:Hid (Xf B wr 5 (Zl B) (σ ga c.funcs.length gc) c.funcs):=Lh (bA.o.funs ((aI.o.mono bD).trans (hM.below HB.o aR.o)))
  have aV:=K5 hs hg
  clear aY hg aW aX hO hM aA aE
  go_wp2_with fail
  refine (Xn2 hs hsm fa ga fn fc gc g HG.o HO.o B bE.o bL.o).mono ?_
  rintro e w1 hP
  cases aB:stepP c mr with
  | go m1=>
   rw [aB] at hP aV
   obtain ⟨rfl,F1,aD,aC⟩:=hP
   obtain ⟨⟨bC,f1,aH⟩,bM⟩:=aV
   have aN:0<=pot m1:=by
    have h1:=aH.nums.fuel
    have h2:=aH.nums.idle1
    unfold pot;omega
   have j0:=aC.cell k0 aG.o
   have j1:=aC.cell k1 aG.o
   have j2:=aC.cell k2 aG.o
   have j3:=aC.cell k3 aG.o
   have bI:=Bl j0
   have aP:Hid (Xml c m bm F W fa fn fc g (σ ga c.funcs.length gc) ((pot m1).toNat+1) w1.heap.size (w1.alloc (χ #[σ fa fn fc,ι g,σ ga c.funcs.length gc,.pointer (some (π bm 0))] 175))):=
    Lh ⟨m1,bC,f1,F1,aH,ω,fun m' h=>aQ.o m' (.go aB h),aD.keep (Xa _ _),(HM.o.trans aC).trans (Xp.of_below (Xa _ _)),fun e=>by have:=aD.lt _ e;omega,Xd⟩
   have aM:Hid ((pot m1).toNat+1<gk):=Lh (by have:=bB.o;omega)
   clear aD aC aH bM aN aB k0 k1 k2 k3
   go_wp2_with fail
   go_roundg ((pot m1).toNat+1)
   case measure=>exact aM.o
   case rel=>exact ⟨_,rfl,aP⟩
  | stop r m1=>
   rw [aB] at hP
   obtain ⟨rfl,F1,aD,aC⟩:=hP
   have aT:w.heap.size+1∉F:=fun e=>by have:=aL.o _ e;omega
   have aF:w.heap.size+1∉Fr:=HM.o.notin (by have:=aZ.o;omega) aT
   have aU:=HM.o.cell bH.o aT
   have aJ:w.heap.size+1∉F1:=aC.notin (Bl aU) aF
   have bJ:=aC.cell aU aF
   have bK:Hid (Xc0 c m bm F w=Xc0 c m bm F w):=Lh rfl
   refine leaves_cons (f:=169) (args:=#[.pointer (some (π (w.heap.size+1) 0))]) ψ (by simp [go_sem]) ?_
   refine (Xlx aD aJ bJ r []).mono ?_
   rintro e u' w2 ⟨rfl,rfl,F2,bG,bF⟩
   have aK:Xc0 c m bm F w (.returned (.tuple #[])) w2:=⟨rfl,_,F2,aQ.o _ (.stop aB),bG,(Xp.of_below aI.o).trans ((HM.o.trans aC).trans bF)⟩
   simp [Leaves,settle,results,Tryz.results138,go_sem]
   exact aK
