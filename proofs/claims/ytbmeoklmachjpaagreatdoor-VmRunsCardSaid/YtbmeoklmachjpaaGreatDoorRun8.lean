/- The contract of step, at any machine that runs. The contracts of run and of what it defers. The contract of run. -/
import Derived.Test.YtbmeoklmachjpaaGreatDoorSga
import Derived.Test.YtbmeoklmachjpaaGreatDoorSgb
import Derived.Test.YtbmeoklmachjpaaGreatDoorSgc
import Derived.Test.YtbmeoklmachjpaaGreatDoorSgd
import Derived.Test.YtbmeoklmachjpaaGreatDoorSge
import Derived.Test.YtbmeoklmachjpaaGreatDoorSgf
import Derived.Test.YtbmeoklmachjpaaGreatDoorPst3
import Derived.Defers
import Derived.Recover
import Derived.Outline
set_option maxHeartbeats 2000000
set_option maxRecDepth 100000
set_option linter.unusedVariables false
set_option linter.unusedSimpArgs false
namespace Go.Proofs.YtbmeoklmachjpaaGreatDoor
open Go.RowKit
theorem Xn2 {c:Cod} (hs:Xv c) (hsm:Zb c) {w:World} {bm:Nat} {m:Mch} {F:List Nat} {fs:List Fra} {f:Fra} (fa ga:Option Addr) (fn fc gc:Nat) (g:Int) (hg:Ja c m fs f) (hO:X3 w bm m F)
  (B:Nat) (hB:∀ b∈F,B≤b) (hfs:Xf B w 5 (Zl B) (.slice ga c.funcs.length gc) c.funcs) :
  Calls Tryz.prog 92 #[Yw (.slice fa fn fc) (.slice ga c.funcs.length gc) g bm] w (Km w bm F (stepP c m)):=by
 obtain ⟨fb,cap,cur,cs,lv,sv,Fi,Fl,Fs,hT,rfl⟩:=hO.top hg.fr
 have hfl:c.funcs.length≤1000000:=by have:=hs.1.2.2.2.2.1;omega
 have hn:=hg.len
 have hnum:=hg.nums
 by_cases hid:100000≤m.idle
 ·have e:stepP c m=.stop (X0 6) m:=by unfold stepP;rw [if_pos hid]
  rw [e]
  exact Xj6 fa ga fn fc c.funcs.length gc g hT hg.fr ⟨hid,hnum.idle1⟩
 have hid2:0≤m.idle∧m.idle<100000:=⟨hnum.idle0,by omega⟩
 obtain ⟨y,x,hb,hr,hx,hp,hret⟩:=hg.at_ hs
 rw [hg.stepP hb.fn hx hid2.2]
 have hop:=(hs.wf hb.fn).op x (List.mem_of_getElem? hx)
 have hcl1:=hsm y (List.mem_of_getElem? hb.fn)
 have hcl:y.code.length≤1000000:=by omega
 have hst:=Qu (hs.wf hb.fn) (hs.snd hb.fn) hr
 have hsl:f.stack.length<999999:=by omega
 have hsl2:f.stack.length<1000000:=by omega
 have hlow:=hg.low.small hs hsm
 have hlow2:∀ f∈fs,f.stack.length<1000000:=fun f hf=>by have:=hlow f (List.mem_reverse.2 hf);omega
 have hk:f.fn=(f.fn.toNat:Int):=(Int.toNat_of_nonneg hb.fn0).symm
 have hpc:f.pc=(f.pc.toNat:Int):=(Int.toNat_of_nonneg hb.pc0).symm
 have h64:∀ n∈f.stack,in64 n:=fun n h=>(hb.sv n h).in64
 have hfo:=hs.fok hb.fn
 unfold Zr at hfo
 have hll:f.locals.length≤1000:=by have:=hb.loc;omega
 have hv:1≤f.stack.length→isV (f.stack.getLastD 0):=fun h1=>hb.sv _ (by rw [Y9 h1];simp)
 have hu:2≤f.stack.length→isV (f.stack.dropLast.getLastD 0):=fun h1=>hb.sv _ (by rw [Kv h1];simp)
 unfold Z0
 simp only []
 by_cases e1:x.op=1
 ·rw [if_pos e1]
  exact Kq fa ga fn fc gc g hT hn B hB c.funcs hfl hfs f.fn.toNat hk y hb.fn f.pc.toNat hpc x hx hcl hid2 _ (.inl ⟨e1,hsl2,rfl⟩)
 rw [if_neg e1]
 by_cases e2:x.op=2
 ·rw [if_pos e2]
  have hlm:=hs.lim hb.fn hx (n:=y.locals) (by rw [e2];rfl)
  have hloc:=hb.loc
  have hi:f.locals[x.a.toNat]?=some (f.locals.getD x.a.toNat 0):=getD_some (by omega)
  exact Kk fa ga fn fc gc g hT hn B hB c.funcs hfl hfs f.fn.toNat hk y hb.fn f.pc.toNat hpc x hx hcl hid2 _ (.inr (.inr (.inr (.inr (.inr (.inr (.inr (⟨e2,x.a.toNat,(by omega),(f.locals.getD x.a.toNat 0),hi,(hb.lv _ (List.mem_of_getElem? hi)).in64,hsl2,hll,rfl⟩))))))))
 rw [if_neg e2]
 by_cases e3:x.op=3
 ·rw [if_pos e3]
  have hq:=Yo (c:=c) (y:=y) (x:=x) (by rw [e3];decide)
  rw [e3] at hq;rw [hq.1] at hp
  simp [Y1] at hp
  have hlm:=hs.lim hb.fn hx (n:=y.locals) (by rw [e3];rfl)
  have hloc:=hb.loc
  exact Xbs fa ga fn fc gc g hT hn B hB c.funcs hfl hfs f.fn.toNat hk y hb.fn f.pc.toNat hpc x hx hcl hid2 _ (.inl ⟨e3,x.a.toNat,(by omega),(by omega),f.stack.dropLast,(f.stack.getLastD 0),(Y9 (by omega)),(hv (by omega)).in64,hll,rfl⟩)
 rw [if_neg e3]
 by_cases e4:x.op=4
 ·rw [if_pos e4]
  exact Kq fa ga fn fc gc g hT hn B hB c.funcs hfl hfs f.fn.toNat hk y hb.fn f.pc.toNat hpc x hx hcl hid2 _ (.inr (.inl ⟨e4,rfl⟩))
 rw [if_neg e4]
 by_cases e5:x.op=5
 ·rw [if_pos e5]
  have hq:=Yo (c:=c) (y:=y) (x:=x) (by rw [e5];decide)
  rw [e5] at hq;rw [hq.1] at hp
  simp [Y1] at hp
  exact Kq fa ga fn fc gc g hT hn B hB c.funcs hfl hfs f.fn.toNat hk y hb.fn f.pc.toNat hpc x hx hcl hid2 _ (.inr (.inr (.inr (.inr (.inl ⟨e5,f.stack.dropLast,(f.stack.getLastD 0),(Y9 (by omega)),rfl⟩)))))
 rw [if_neg e5]
 by_cases e6:x.op=6
 ·rw [if_pos e6]
  have hq:=Yo (c:=c) (y:=y) (x:=x) (by rw [e6];decide)
  rw [e6] at hq;rw [hq.1] at hp
  simp [Y1] at hp
  split
  ·rename_i h1
   exact Xhm fa ga fn fc gc g hT hn B hB c.funcs hfl hfs f.fn.toNat hk y hb.fn f.pc.toNat hpc x hx hcl hid2 _ (.inl ⟨e6,f.stack.dropLast,(f.stack.getLastD 0),(Y9 (by omega)),h1,rfl⟩)
  ·rename_i h1
   exact Xhm fa ga fn fc gc g hT hn B hB c.funcs hfl hfs f.fn.toNat hk y hb.fn f.pc.toNat hpc x hx hcl hid2 _ (.inr (⟨e6,f.stack.dropLast,(f.stack.getLastD 0),(Y9 (by omega)),(by omega),rfl⟩))
 rw [if_neg e6]
 by_cases e7:x.op=7
 ·rw [if_pos e7]
  have hq:=Yo (c:=c) (y:=y) (x:=x) (by rw [e7];decide)
  rw [e7] at hq;rw [hq.1] at hp
  simp [Y1] at hp
  split
  ·rename_i h1
   exact Xia fa ga fn fc gc g hT hn B hB c.funcs hfl hfs f.fn.toNat hk y hb.fn f.pc.toNat hpc x hx hcl hid2 _ (.inl ⟨e7,f.stack.dropLast.dropLast,(f.stack.dropLast.getLastD 0),(f.stack.getLastD 0),(Kv (by omega)),h1,rfl⟩)
  ·rename_i h1
   exact Xia fa ga fn fc gc g hT hn B hB c.funcs hfl hfs f.fn.toNat hk y hb.fn f.pc.toNat hpc x hx hcl hid2 _ (.inr (⟨e7,f.stack.dropLast.dropLast,(f.stack.dropLast.getLastD 0),(f.stack.getLastD 0),(Kv (by omega)),(by omega),rfl⟩))
 rw [if_neg e7]
 by_cases e8:x.op=8
 ·rw [if_pos e8]
  exact Kq fa ga fn fc gc g hT hn B hB c.funcs hfl hfs f.fn.toNat hk y hb.fn f.pc.toNat hpc x hx hcl hid2 _ (.inr (.inr (.inl ⟨e8,rfl⟩)))
 rw [if_neg e8]
 by_cases e9:x.op=9
 ·rw [if_pos e9]
  have hlm:=hs.lim hb.fn hx (n:=c.funcs.length) (by rw [e9];rfl)
  obtain ⟨z,hz⟩:∃ z,c.funcs[x.a.toNat]?=some z:=⟨_,List.getElem?_eq_getElem (by omega)⟩
  have hz2:Je c x.a=some z:=hz
  have hq:Xm c y x=z.params:=by unfold Xm;rw [if_pos e9,hz2]
  rw [hq] at hp
  have hzo:=hs.fok hz
  unfold Zr at hzo
  rw [hz2]
  simp only []
  have hsp:f.stack=f.stack.take (f.stack.length - z.params.toNat)++f.stack.drop (f.stack.length - z.params.toNat):=(List.take_append_drop _ _).symm
  have hdl:(f.stack.drop (f.stack.length - z.params.toNat)).length=z.params.toNat:=by rw [List.length_drop];omega
  have hxa:x.a=(x.a.toNat:Int):=(Int.toNat_of_nonneg hlm.1).symm
  split
  ·rename_i hd
   rw [show (⟨x.a,0,f.stack.drop (f.stack.length - z.params.toNat)++List.replicate (z.locals - z.params).toNat 0,[]⟩:Fra)=⟨(x.a.toNat:Int),0,f.stack.drop (f.stack.length - z.params.toNat)++List.replicate (z.locals - z.params).toNat 0,[]⟩ from by rw [←hxa]]
   exact Kk fa ga fn fc gc g hT hn B hB c.funcs hfl hfs f.fn.toNat hk y hb.fn f.pc.toNat hpc x hx hcl hid2 _ (.inr (.inr (.inr (.inl ⟨e9,x.a.toNat,hxa,z,hz,_,_,hsp,(by rw [hdl];omega),(z.locals - z.params).toNat,(by rw [hdl];omega),(by rw [hdl];omega),h64,hd,rfl⟩))))
  ·rename_i hd
   exact Kk fa ga fn fc gc g hT hn B hB c.funcs hfl hfs f.fn.toNat hk y hb.fn f.pc.toNat hpc x hx hcl hid2 _ (.inr (.inr (.inr (.inr (.inl ⟨e9,x.a.toNat,hxa,z,hz,_,_,hsp,(by rw [hdl];omega),(z.locals - z.params).toNat,(by rw [hdl];omega),(by rw [hdl];omega),h64,hd,rfl⟩)))))
 rw [if_neg e9]
 by_cases e10:x.op=10
 ·rw [if_pos e10]
  have hq:Xm c y x=b2i y.result:=by unfold Xm;rw [if_neg (by omega),if_pos e10]
  have hn1:=hret e10
  rw [hq] at hn1
  have hstk:f.stack=if y.result then [if y.result=true then f.stack.getLastD 0 else 0] else []:=by
   cases hres:y.result with
   | true=>
    rw [hres] at hn1
    simp [b2i] at hn1
    have h1:=Y9 (st:=f.stack) (by omega)
    have h2:f.stack.dropLast=[]:=List.eq_nil_of_length_eq_zero (by rw [List.length_dropLast];omega)
    rw [h2] at h1
    simpa using h1
   | false=>
    rw [hres] at hn1
    simp [b2i] at hn1
    simpa using hn1
  have hv0:y.result=false→(if y.result=true then f.stack.getLastD 0 else 0)=0:=fun h=>by rw [h];rfl
  have hvv:in64 (if y.result=true then f.stack.getLastD 0 else 0):=by
   split
   ·rename_i hr1;rw [hr1] at hn1;simp [b2i] at hn1;exact (hv (by omega)).in64
   ·unfold in64;omega
  cases hgl:fs.getLast? with
  | none=>
   have hnil:fs=[]:=List.getLast?_eq_none_iff.1 hgl
   exact Kk fa ga fn fc gc g hT hn B hB c.funcs hfl hfs f.fn.toNat hk y hb.fn f.pc.toNat hpc x hx hcl hid2 _ (.inr (.inr (.inr (.inr (.inr (.inl ⟨e10,_,hstk,hv0,hvv,hlow2,hnil,rfl⟩))))))
  | some f'=>
   obtain ⟨fs',hla⟩:=List.getLast?_eq_some_iff.1 hgl
   have hdl:fs.dropLast=fs':=by rw [hla];simp
   simp only []
   rw [hdl]
   exact Kk fa ga fn fc gc g hT hn B hB c.funcs hfl hfs f.fn.toNat hk y hb.fn f.pc.toNat hpc x hx hcl hid2 _ (.inr (.inr (.inr (.inr (.inr (.inr (.inl ⟨e10,_,hstk,hv0,hvv,hlow2,fs',f',hla,rfl⟩)))))))
 rw [if_neg e10]
 by_cases e11:x.op=11
 ·rw [if_pos e11]
  exact Kq fa ga fn fc gc g hT hn B hB c.funcs hfl hfs f.fn.toNat hk y hb.fn f.pc.toNat hpc x hx hcl hid2 _ (.inr (.inr (.inr (.inl ⟨e11,rfl⟩))))
 rw [if_neg e11]
 by_cases e12:x.op=12
 ·rw [if_pos e12]
  have hq:=Yo (c:=c) (y:=y) (x:=x) (by rw [e12];decide)
  rw [e12] at hq;rw [hq.1] at hp
  simp [Y1] at hp
  split
  ·rename_i h1
   exact Kq fa ga fn fc gc g hT hn B hB c.funcs hfl hfs f.fn.toNat hk y hb.fn f.pc.toNat hpc x hx hcl hid2 _ (.inr (.inr (.inr (.inr (.inr (.inr (.inr (⟨e12,f.stack.dropLast,(by rw [←h1];exact Y9 (by omega)),rfl⟩))))))))
  ·rename_i h1
   exact Kq fa ga fn fc gc g hT hn B hB c.funcs hfl hfs f.fn.toNat hk y hb.fn f.pc.toNat hpc x hx hcl hid2 _ (.inr (.inr (.inr (.inr (.inr (.inr (.inl ⟨e12,f.stack.dropLast,(f.stack.getLastD 0),(Y9 (by omega)),h1,rfl⟩)))))))
 rw [if_neg e12]
 by_cases e13:x.op=13
 ·rw [if_pos e13]
  split
  ·rename_i h1
   exact Kk fa ga fn fc gc g hT hn B hB c.funcs hfl hfs f.fn.toNat hk y hb.fn f.pc.toNat hpc x hx hcl hid2 _ (.inr (.inl ⟨e13,h1,rfl⟩))
  ·rename_i h1
   have hpt:=hnum.potle
   have hc0:=hnum.cmp0
   have hi1:=hnum.idle1
   unfold pot at hpt
   exact Kk fa ga fn fc gc g hT hn B hB c.funcs hfl hfs f.fn.toNat hk y hb.fn f.pc.toNat hpc x hx hcl hid2 _ (.inr (.inr (.inl ⟨e13,h1,⟨hnum.fuel,by omega⟩,rfl⟩)))
 rw [if_neg e13]
 by_cases e14:x.op=14
 ·rw [if_pos e14]
  have hq:=Yo (c:=c) (y:=y) (x:=x) (by rw [e14];decide)
  rw [e14] at hq;rw [hq.1] at hp
  simp [Y1] at hp
  exact Xbs fa ga fn fc gc g hT hn B hB c.funcs hfl hfs f.fn.toNat hk y hb.fn f.pc.toNat hpc x hx hcl hid2 _ (.inr (.inl ⟨e14,hsl2,f.stack.dropLast,(f.stack.getLastD 0),(Y9 (by omega)),(hv (by omega)),rfl⟩))
 rw [if_neg e14]
 by_cases e26:x.op=26
 ·rw [if_pos e26]
  have hq:=Yo (c:=c) (y:=y) (x:=x) (by rw [e26];decide)
  rw [e26] at hq;rw [hq.1] at hp
  simp [Y1] at hp
  exact Xbs fa ga fn fc gc g hT hn B hB c.funcs hfl hfs f.fn.toNat hk y hb.fn f.pc.toNat hpc x hx hcl hid2 _ (.inr (.inr (.inl ⟨e26,hsl2,f.stack.dropLast,(f.stack.getLastD 0),(Y9 (by omega)),rfl⟩)))
 rw [if_neg e26]
 by_cases e29:x.op=29
 ·rw [if_pos e29]
  have hq:=Yo (c:=c) (y:=y) (x:=x) (by rw [e29];decide)
  rw [e29] at hq;rw [hq.1] at hp
  simp [Y1] at hp
  exact Xbs fa ga fn fc gc g hT hn B hB c.funcs hfl hfs f.fn.toNat hk y hb.fn f.pc.toNat hpc x hx hcl hid2 _ (.inr (.inr (.inr (⟨e29,hsl2,f.stack.dropLast,(f.stack.getLastD 0),(Y9 (by omega)),(hv (by omega)),rfl⟩))))
 rw [if_neg e29]
 by_cases e30:x.op=30
 ·rw [if_pos e30]
  have hq:=Yo (c:=c) (y:=y) (x:=x) (by rw [e30];decide)
  rw [e30] at hq;rw [hq.1] at hp
  simp [Y1] at hp
  exact Kq fa ga fn fc gc g hT hn B hB c.funcs hfl hfs f.fn.toNat hk y hb.fn f.pc.toNat hpc x hx hcl hid2 _ (.inr (.inr (.inr (.inr (.inr (.inl ⟨e30,f.stack.dropLast,(f.stack.getLastD 0),(Y9 (by omega)),rfl⟩))))))
 rw [if_neg e30]
 by_cases e31:x.op=31
 ·rw [if_pos e31]
  have hq:=Yo (c:=c) (y:=y) (x:=x) (by rw [e31];decide)
  rw [e31] at hq;rw [hq.1] at hp
  simp [Y1] at hp
  exact Kk fa ga fn fc gc g hT hn B hB c.funcs hfl hfs f.fn.toNat hk y hb.fn f.pc.toNat hpc x hx hcl hid2 _ (.inl ⟨e31,hsl,f.stack.dropLast,(f.stack.getLastD 0),(Y9 (by omega)),(hv (by omega)).in64,rfl⟩)
 rw [if_neg e31]
 have h2:=Xjw hop.1 hop.2 ⟨e1,e2,e3,e4,e5,e6,e7,e8,e9,e10,e11,e12,e13,e14,e26,e29,e30,e31⟩
 have hq:=Xa8 (c:=c) (y:=y) h2
 rw [hq.1] at hp
 have hpt:=hnum.potle
 have hc0:=hnum.cmp0
 have hi1:=hnum.idle1
 have hf0:=hnum.fuel
 unfold pot at hpt
 split
 ·rename_i hE
  exact Xgt fa ga fn fc gc g hT hn B hB c.funcs hfl hfs f.fn.toNat hk y hb.fn f.pc.toNat hpc x hx hcl hid2 _ (.inl ⟨h2,hsl2,f.stack.dropLast.dropLast,(f.stack.dropLast.getLastD 0),(f.stack.getLastD 0),(Kv (by omega)),(hu (by omega)),(hv (by omega)),⟨by omega,by omega⟩,hE,(Xdb h2 (hu (by omega)) (hv (by omega)) hE).in64,rfl⟩)
 ·rename_i hE
  exact Xgt fa ga fn fc gc g hT hn B hB c.funcs hfl hfs f.fn.toNat hk y hb.fn f.pc.toNat hpc x hx hcl hid2 _ (.inr (⟨h2,hsl2,f.stack.dropLast.dropLast,(f.stack.dropLast.getLastD 0),(f.stack.getLastD 0),(Kv (by omega)),(hu (by omega)),(hv (by omega)),⟨by omega,by omega⟩,hE,rfl⟩))
theorem Xif {w W:World} {bm:Nat} {fv fv':Value} {m m':Mch} {F0 F1:List Nat} (hm:w.heap[bm]?=some (.cells (Xb fv m) 36 (0,0))) (hn:bm∉F1) (hs:∀ b∈F1,b∈F0)
  (h1:W.heap[bm]?=some (.cells (Xb fv' m') 36 (0,0))) (hM:Xp [bm] [bm] w W) (hv:Z9 w fv' m'.frames F1) (o:Obj) :
  ∃ F',X3 (W.alloc o) bm m' F'∧Xp (bm::F0) F' w (W.alloc o):=by
 have hbl:=(La hm)
 have hsz:=hM.size
 have hlt:=hv.lt
 have ha:∀ k,k<w.heap.size→(W.alloc o).heap[k]?=W.heap[k]?:=fun k hk=>Below.heap_alloc _ _ _ (by omega)
 refine ⟨bm::F1,Xt.2 ⟨fv',F1,by rw [ha bm hbl];exact h1,hv.keep (fun b hb=>by rw [ha b (hlt b hb),hM.block b (hlt b hb) (fun e=>hn (by rw [List.mem_singleton] at e;exact e▸hb))]),rfl,hn⟩,?_⟩
 have h3:=hM.trans (Xp.of_below (F:=[bm]) (Xa W o))
 exact h3.wide (fun b hb=>by simp at hb;simp [hb]) (fun b hb=>by
  rw [List.mem_cons] at hb
  rcases hb with rfl|hb
  ·left;simp
  ·right;simp [hs b hb])
theorem Xha:∀ (v:Value) (w:World),(Instr.typeAssert (.iface 141 v) 20 141 true).run Tryz.prog w=.ok (.tuple #[v,.bool true]) w:=fun v w=>by kernel_rfl
theorem Xi6 (x y:Value):(#[x]++((((Array.replicate 32 undef).setIfInBounds 3 y).setIfInBounds 0 y).setIfInBounds 4 y).setIfInBounds 5 (.bool true))=#[x,y,undef,undef,y,y,.bool true,undef,undef,undef,undef,undef,undef,undef,undef,undef,undef,undef,undef,undef,undef,undef,undef,undef,undef,undef,undef,undef,undef,undef,undef,undef,undef]:=by kernel_rfl
theorem Xlx {w:World} {bm bp:Nat} {m:Mch} {F:List Nat} (h:X3 w bm m F) (hbp:bp∉F) (hp:w.cell? ⟨bp,0,none⟩=some (.pointer (some ⟨bm,0,none⟩))) (r:Rq) (older:List PanicEntry) :
  CallsD Tryz.prog 91 #[.pointer (some ⟨bp,0,none⟩)] (.panicking ({ v:=Xdd r,recovered:=false }::older)) w fun e u' w'=>
   e=.returned (.tuple #[])∧u'=.panicking ({ v:=Xdd r,recovered:=true }::older)∧∃ F',X3 w' bm (Jf r m) F'∧Xp F F' w w':=by
 obtain ⟨fv,F0,hm,hv,rfl,hn⟩:=Xt.1 h
 have hbl:=(La hm)
 have cc:∀ j v,(Xb fv m)[j]?=some v→w.cell? ⟨bm,j,none⟩=some v:=fun j v hj=>by rw [cell_of_row _ _ _ _ _ _ hm];exact hj
 have c0:=cc 0 fv rfl
 have c1:=cc 1 (.int .i64 m.req.kind) rfl
 have c2:=cc 2 (.int .i64 m.req.node) rfl
 have c3:=cc 3 (.int .i64 m.req.field) rfl
 have c4:=cc 4 (.int .i64 m.req.value) rfl
 have c5:=cc 5 (.int .i64 m.req.fault) rfl
 have f0:w.frozen? ⟨bm,0,none⟩=false:=Fz hm
 have f1:w.frozen? ⟨bm,1,none⟩=false:=Fz hm
 have f2:w.frozen? ⟨bm,2,none⟩=false:=Fz hm
 have f3:w.frozen? ⟨bm,3,none⟩=false:=Fz hm
 have f4:w.frozen? ⟨bm,4,none⟩=false:=Fz hm
 have f5:w.frozen? ⟨bm,5,none⟩=false:=Fz hm
 have hpl:=Bl hp
 have hne:¬bp=bm:=fun e=>hbp (by simp [e])
 have HM:=Lh hm
 have HV:=Lh hv
 clear hm hv h cc hbp
 have hta:=Xha
 unfold Xdd
 refine callsD_of_wpS Tryz.func91 rfl fun c₀ cs hu=>?_
 apply wpS_seq
 apply wpS_region
 simp [wpOpsS,go_sem,recoverD,hu,Tryz.ntmps91,Exit.thenS]
 apply wpS_seq
 apply wpS_region
 simp [wpOpsS,go_sem,Tryz.ntmps91,Exit.thenS]
 refine wpS_cond (t:=true) (by simp [Act.eval,Array.replicate]) ?_
 simp only [if_true]
 have HU:=Lh hu
 clear hu
 refine wpS_of_wp ?_
 obtain ⟨sV,hsV⟩:∃ v:Value,v=.iface 141 (.agg #[.int .i64 r.kind,.int .i64 r.node,.int .i64 r.field,.int .i64 r.value,.int .i64 r.fault]):=⟨_,rfl⟩
 rw [←hsV]
 rw [Xi6]
 rw [hsV]
 clear hsV
 have hq:=Lh (Ju HM.out r)
 by_cases hk:r.kind=4∨r.kind=5
 ·have hst:Hid (Jf r m={ m with req:=r,frames:=[] }):=by refine Lh ?_;unfold Jf;rw [if_pos hk]
  have fin:Hid (∃ F',X3 (((Yq w bm r).setCell ⟨bm,0,none⟩ (.slice none 0 0)).alloc (.cells #[.int .i64 r.kind,.int .i64 r.node,.int .i64 r.field,.int .i64 r.value,.int .i64 r.fault] 141)) bm (Jf r m) F'∧Xp (bm::F0) F' w (((Yq w bm r).setCell ⟨bm,0,none⟩ (.slice none 0 0)).alloc (.cells #[.int .i64 r.kind,.int .i64 r.node,.int .i64 r.field,.int .i64 r.value,.int .i64 r.fault] 141))):=by
   rw [hst.out]
   have h0:=heap_setCell_same _ bm 0 _ _ (.slice none 0 0) hq.out.1
   rw [Qo] at h0
   exact Xif HM.out (by simp) (fun b hb=>by simp at hb) (m':={ m with req:=r,frames:=[] }) h0 (hq.out.2.trans Xw) (Jd w) _
  unfold Yq at fin
  rcases hk with hk|hk
  ·obtain ⟨kind,node,field,value,fault⟩:=r
   dsimp only at hk
   subst hk
   go_wp2
   refine ⟨rfl,_,rfl,_,results_none rfl _ _ _,rfl,rfl,?_⟩
   exact fin.out
  ·obtain ⟨kind,node,field,value,fault⟩:=r
   dsimp only at hk
   subst hk
   go_wp2
   refine ⟨rfl,_,rfl,_,results_none rfl _ _ _,rfl,rfl,?_⟩
   exact fin.out
 ·have hk4:¬r.kind=4:=fun e=>hk (.inl e)
  have hk5:¬r.kind=5:=fun e=>hk (.inr e)
  have hst:Hid (Jf r m={ m with req:=r }):=by refine Lh ?_;unfold Jf;rw [if_neg hk]
  have fin:Hid (∃ F',X3 ((Yq w bm r).alloc (.cells #[.int .i64 r.kind,.int .i64 r.node,.int .i64 r.field,.int .i64 r.value,.int .i64 r.fault] 141)) bm (Jf r m) F'∧Xp (bm::F0) F' w ((Yq w bm r).alloc (.cells #[.int .i64 r.kind,.int .i64 r.node,.int .i64 r.field,.int .i64 r.value,.int .i64 r.fault] 141))):=by
   rw [hst.out]
   exact Xif HM.out hn (fun _ h=>h) (m':={ m with req:=r }) hq.out.1 hq.out.2 HV.out _
  unfold Yq at fin
  clear hk hst hq
  obtain ⟨kind,node,field,value,fault⟩:=r
  dsimp only at hk4 hk5
  have hb4:(kind == 4)=false:=by simp [hk4]
  have hb5:(kind == 5)=false:=by simp [hk5]
  go_wp2
  refine ⟨rfl,_,rfl,_,results_none rfl _ _ _,rfl,rfl,?_⟩
  exact fin.out
def Xc0 (c:Cod) (m:Mch) (bm:Nat) (F:List Nat) (w:World) (e:Ending) (w':World):Prop:=
 e=.returned (.tuple #[])∧∃ m' F',Zm c m m'∧X3 w' bm m' F'∧Xp F F' w w'
/-- while it runs: W the world before the loop, b4 the block of the runner -/
def Xml (c:Cod) (m:Mch) (bm:Nat) (F:List Nat) (W:World) (fa:Option Addr) (fn fc:Nat) (g:Int) (gv:Value) (gk:Nat) (b4:Nat) (wr:World):Prop:=
 ∃ mr fs f Fr,Ja c mr fs f∧(pot mr).toNat<gk∧(∀ m',Zm c mr m'→Zm c m m')∧X3 wr bm mr Fr∧Xp F Fr W wr∧b4∉Fr∧Xo wr b4 [.slice fa fn fc,.int .i64 g,gv,.pointer (some ⟨bm,0,none⟩)]
theorem Xc2 {c:Cod} (hs:Xv c) (hsm:Zb c) {w:World} {bm:Nat} {m:Mch} {F:List Nat} {fs:List Fra} {f:Fra} (fa ga:Option Addr) (fn fc gc:Nat) (g:Int) (hg:Ja c m fs f) (hO:X3 w bm m F)
  (B:Nat) (hB:∀ b∈F,B≤b) (hfs:Xf B w 5 (Zl B) (.slice ga c.funcs.length gc) c.funcs) :
  Calls Tryz.prog 66 #[.agg #[.slice fa fn fc,.int .i64 g,.slice ga c.funcs.length gc],.pointer (some ⟨bm,0,none⟩)] w (Xc0 c m bm F w):=by
 have hmf:∀ (fn:Fn) (first cap:Array Value) (w:World),(Instr.makeFunc fn first cap).run Tryz.prog w=.ok (.func fn first cap) w:=fun _ _ _ _=>rfl
 have hlt:=Lh hO.lt
 obtain ⟨W,hW⟩:∃ W,W=((w.alloc (.cells #[.slice fa fn fc,.int .i64 g,.slice ga c.funcs.length gc] 25)).alloc (.cells #[.pointer (some ⟨bm,0,none⟩)] 104)).alloc (.cells #[.slice fa fn fc,.int .i64 g,.slice ga c.funcs.length gc,.pointer (some ⟨bm,0,none⟩)] 134):=⟨_,rfl⟩
 have hWb:Hid (Below w.heap.size w W):=by rw [hW];exact ((Xa _ _).then (Xa _ _)).then (Xa _ _)
 have hsz:Hid (W.heap.size=w.heap.size+3):=by rw [hW];exact Lh (by simp)
 have hbp:Hid (W.cell? ⟨w.heap.size+1,0,none⟩=some (.pointer (some ⟨bm,0,none⟩))):=by rw [hW];refine Lh ?_;go_simp
 have hb4:Hid (Xo W (w.heap.size+1+1) [.slice fa fn fc,.int .i64 g,.slice ga c.funcs.length gc,.pointer (some ⟨bm,0,none⟩)]):=by
  rw [hW]
  have:=@Xd ((w.alloc (.cells #[.slice fa fn fc,.int .i64 g,.slice ga c.funcs.length gc] 25)).alloc (.cells #[.pointer (some ⟨bm,0,none⟩)] 104)) #[.slice fa fn fc,.int .i64 g,.slice ga c.funcs.length gc,.pointer (some ⟨bm,0,none⟩)] 134
  exact Lh (by simpa using this)
 have hst0:Hid (Xml c m bm F W fa fn fc g (.slice ga c.funcs.length gc) ((pot m).toNat+1) (w.heap.size+1+1) W):=
  Lh ⟨m,fs,f,F,hg,by omega,fun _ h=>h,hO.keep hWb.out,Xp.self,fun e=>by have:=hlt.out _ e;omega,hb4.out⟩
 have hBw:B≤w.heap.size:=by
  obtain ⟨fv,F0,hm,hv,rfl,hn⟩:=Xt.1 hO
  have h1:=hB bm (by simp)
  have h2:=hlt.out bm (by simp)
  omega
 have hBW:Hid (B≤W.heap.size):=Lh (by have:=hsz.out;omega)
 have HFS:=Lh hfs
 have HB:=Lh hB
 clear hfs hB hg hO
 go_enter_defers Tryz.func66,Tryz.ntmps66
 go_wp2_with fail
 rw [←hW]
 have HW:=Lh hW
 clear hW hb4
 go_loopg [4] ((pot m).toNat+1) (fun gk p wr=>∃ b4:Nat,p=.pointer (some ⟨b4,0,none⟩)∧Hid (Xml c m bm F W fa fn fc g (.slice ga c.funcs.length gc) gk b4 wr))
 case atStart=>exact ⟨w.heap.size+1+1,rfl,hst0⟩
 case round=>
  obtain ⟨b4,rfl,hst⟩:=hrel
  obtain ⟨mr,fs',f',Fr,hg,hpt,hrn,hO,hM,hb4n,hb4c⟩:=hst.out
  have k0:=hb4c 0 _ rfl
  have k1:=hb4c 1 _ rfl
  have k2:=hb4c 2 _ rfl
  have k3:=hb4c 3 _ rfl
  have hbs:=Bl k0
  have HG:=Lh hg
  have HPT:=Lh hpt
  have HRN:=Lh hrn
  have HO:=Lh hO
  have HM:=Lh hM
  have HBC:=Lh hb4c
  have HBN:=Lh hb4n
  have hFr:Hid (∀ b∈Fr,B≤b):=Lh (hM.ge HB.out hBW.out)
  have hfr:Hid (Xf B wr 5 (Zl B) (.slice ga c.funcs.length gc) c.funcs):=Lh (HFS.out.funs ((hWb.out.mono hBw).trans (hM.below HB.out hBW.out)))
  have hkp:=K5 hs hg
  clear hst hg hpt hrn hO hM hb4c hb4n
  go_wp2_with fail
  refine (Xn2 hs hsm fa ga fn fc gc g HG.out HO.out B hFr.out hfr.out).mono ?_
  rintro e w1 hP
  cases hstp:stepP c mr with
  | go m1=>
   rw [hstp] at hP hkp
   obtain ⟨rfl,F1,hO1,hM1⟩:=hP
   obtain ⟨⟨fs1,f1,hg1⟩,hp1⟩:=hkp
   have hpos:0≤pot m1:=by
    have h1:=hg1.nums.fuel
    have h2:=hg1.nums.idle1
    unfold pot;omega
   have j0:=hM1.cell k0 HBN.out
   have j1:=hM1.cell k1 HBN.out
   have j2:=hM1.cell k2 HBN.out
   have j3:=hM1.cell k3 HBN.out
   have hbs1:=Bl j0
   have hst1:Hid (Xml c m bm F W fa fn fc g (.slice ga c.funcs.length gc) ((pot m1).toNat+1) w1.heap.size (w1.alloc (.cells #[.slice fa fn fc,.int .i64 g,.slice ga c.funcs.length gc,.pointer (some ⟨bm,0,none⟩)] 134))):=
    Lh ⟨m1,fs1,f1,F1,hg1,by omega,fun m' h=>HRN.out m' (.go hstp h),hO1.keep (Xa _ _),(HM.out.trans hM1).trans (Xp.of_below (Xa _ _)),fun e=>by have:=hO1.lt _ e;omega,Xd⟩
   have hlt2:Hid ((pot m1).toNat+1<gk):=Lh (by have:=HPT.out;omega)
   clear hO1 hM1 hg1 hp1 hpos hstp k0 k1 k2 k3
   go_wp2_with fail
   go_roundg ((pot m1).toNat+1)
   case measure=>exact hlt2.out
   case rel=>exact ⟨_,rfl,hst1⟩
  | stop r m1=>
   rw [hstp] at hP
   obtain ⟨rfl,F1,hO1,hM1⟩:=hP
   have hbF:w.heap.size+1∉F:=fun e=>by have:=hlt.out _ e;omega
   have hbp1:w.heap.size+1∉Fr:=HM.out.notin (by have:=hsz.out;omega) hbF
   have hcr:=HM.out.cell hbp.out hbF
   have hbp2:w.heap.size+1∉F1:=hM1.notin (Bl hcr) hbp1
   have hc1:=hM1.cell hcr hbp1
   have hfin:Hid (Xc0 c m bm F w=Xc0 c m bm F w):=Lh rfl
   refine leaves_cons (f:=91) (args:=#[.pointer (some ⟨w.heap.size+1,0,none⟩)]) (by simp) (by simp [go_sem]) ?_
   refine (Xlx hO1 hbp2 hc1 r []).mono ?_
   rintro e u' w2 ⟨rfl,rfl,F2,hO2,hM2⟩
   have hend:Xc0 c m bm F w (.returned (.tuple #[])) w2:=⟨rfl,_,F2,HRN.out _ (.stop hstp),hO2,(Xp.of_below hWb.out).trans ((HM.out.trans hM1).trans hM2)⟩
   simp [Leaves,settle,results,Tryz.results66,go_sem]
   exact hend
end Go.Proofs.YtbmeoklmachjpaaGreatDoor
