/- The contract of the reference's step, at any machine that runs. -/
import Derived.Test.YtbmeoklmachjpaaGreatDoorRsa
import Derived.Test.YtbmeoklmachjpaaGreatDoorRsb
import Derived.Test.YtbmeoklmachjpaaGreatDoorRqa
import Derived.Test.YtbmeoklmachjpaaGreatDoorRqb
import Derived.Test.YtbmeoklmachjpaaGreatDoorRw
import Derived.Test.YtbmeoklmachjpaaGreatDoorRx
import Derived.Test.YtbmeoklmachjpaaGreatDoorPst3
set_option maxHeartbeats 2000000
set_option linter.unusedVariables false
set_option linter.unusedSimpArgs false
namespace Go.Proofs.YtbmeoklmachjpaaGreatDoor
open Go.RowKit
/-- the machine to which a step leads -/
def outM:Out→Mch
 | .go m=>m
 | .stop r m=>Jf r m
theorem Vo {r:Rq} {m:Mch} (h4:r.kind≠4) (h5:r.kind≠5):outM (.stop r m)={ m with req:=r }:=by
 show Jf r m=_
 unfold Jf
 rw [if_neg (by omega)]
theorem K4 {e:Int} {m:Mch}:outM (.stop (X0 e) m)={ m with req:=X0 e,frames:=[] }:=by
 show Jf _ m=_
 unfold Jf
 rw [if_pos (.inr rfl)]
theorem Xfa {v:Int} {m:Mch}:outM (.stop (Jc v) m)={ m with req:=Jc v,frames:=[] }:=by
 show Jf _ m=_
 unfold Jf
 rw [if_pos (.inl rfl)]
inductive Up (q:Rq):Out→Prop
 | go (m1:Mch):m1.req=q→Up q (.go m1)
 | stop (r:Rq) (m1:Mch):Up q (.stop r m1)
theorem Up.ite {q:Rq} {p:Prop} [Decidable p] {a b:Out} (ha:Up q a) (hb:Up q b):Up q (if p then a else b):=by split<;>assumption
theorem Xk2 (c:Cod) (m:Mch) (fs:List Fra) (f:Fra) (y:Fun) (x:Ins):Up m.req (Z0 c m fs f y x):=by
 unfold Z0
 simp only []
 repeat' apply Up.ite
 all_goals first|exact .go _ rfl|exact .stop _ _|skip
 ·cases Je c x.a with
  | none=>exact .stop _ _
  | some z=>
   simp only []
   apply Up.ite
   ·exact .go _ rfl
   ·exact .stop _ _
 ·cases fs.getLast? with
  | none=>exact .stop _ _
  | some z=>exact .go _ rfl
theorem Xn4 {op a b:Int} (h:¬Yb op a b=0):Zk op=0:=by
 unfold Zk
 rw [if_neg]
 intro h1
 refine h ?_
 unfold Yb
 rw [if_neg (by omega),if_neg (by omega),if_neg (by omega),if_neg (by omega)]
theorem Xr1 {st:List Int} (h:2≤st.length):st=st.dropLast.dropLast++[st.dropLast.getLastD 0]++[st.getLastD 0]:=Kv h
theorem Xld {c:Cod} (hs:Xv c) (hsm:Zb c) {w:World} {fv:Value} {m:Mch} {F:List Nat} {fs:List Fra} {f:Fra} {y:Fun} {x:Ins} (hg:Ja c m fs f) (hid:m.idle<100000) (hb:Xaa c f y) (hr:Reach c y f.pc.toNat f.stack.length) (hx:y.code[f.pc.toNat]?=some x) (hp:Xm c y x≤f.stack.length) (hret:x.op=10→(f.stack.length:Int)=Xm c y x)
  (fa ga:Option Addr) (fn fc gc:Nat) (g:Int) (B:Nat) (hB:B≤w.heap.size) (hfs:Xf B w 5 (Zl B) (.slice ga c.funcs.length gc) c.funcs) (hV:Z9 w fv (fs++[{ f with pc:=f.pc+1 }]) F) (hFB:∀ b∈F,B≤b) :
  Calls Tryz.prog 71 #[.agg #[.slice fa fn fc,.int .i64 g,.slice ga c.funcs.length gc],Xi fv { m with idle:=m.idle+1,frames:=fs++[{ f with pc:=f.pc+1 }] },.agg #[.int .i64 x.op,.int .i64 x.a]] w (Qh w F (outM (Z0 c m fs f y x))):=by
 have hn:=hg.len
 have hnum:=hg.nums
 have hop:=(hs.wf hb.fn).op x (List.mem_of_getElem? hx)
 have hcl1:=hsm y (List.mem_of_getElem? hb.fn)
 have hst:=Qu (hs.wf hb.fn) (hs.snd hb.fn) hr
 have hsl:f.stack.length<1000000 - 2:=by omega
 have hsl2:f.stack.length<1000000:=by omega
 have hlow:=hg.low.small hs hsm
 have hlow2:∀ f∈fs,f.stack.length<1000000:=fun f hf=>by have:=hlow f (List.mem_reverse.2 hf);omega
 have hk:f.fn=(f.fn.toNat:Int):=(Int.toNat_of_nonneg hb.fn0).symm
 have h64:∀ n∈f.stack,in64 n:=fun n h=>(hb.sv n h).in64
 have hfo:=hs.fok hb.fn
 unfold Zr at hfo
 have hv:1≤f.stack.length→isV (f.stack.getLastD 0):=fun h1=>hb.sv _ (by rw [Y9 h1];simp)
 have hu:2≤f.stack.length→isV (f.stack.dropLast.getLastD 0):=fun h1=>hb.sv _ (by rw [Kv h1];simp)
 have hlt:=hV.lt
 obtain ⟨a,cp,rfl⟩:=hV.form
 have hK:∀ W,Below w.heap.size w W→Z9 W (.slice a (fs++[{ f with pc:=f.pc+1 }]).length cp) (fs++[{ f with pc:=f.pc+1 }]) F:=fun W hW=>hV.keep (fun b hb=>hW.block b (hlt b hb))
 have hKB:∀ W,Below w.heap.size w W→B≤W.heap.size:=fun W hW=>Nat.le_trans hB hW.size
 have hKF:∀ W,Below w.heap.size w W→Xf B W 5 (Zl B) (.slice ga c.funcs.length gc) c.funcs:=fun W hW=>hfs.funs (hW.mono hB)
 have hinj:in64 x.a:=by
  obtain ⟨a0,c0,h1,-,-,-,hE⟩:=hfs
  rcases hE with h0|⟨b0,o0,rfl,-,hE⟩
  ·have:=hb.fn;rw [h0] at this;simp at this
  obtain ⟨yv,-,yc⟩:=(hE _ y hb.fn).2.2.2.2.1
  obtain ⟨a1,c1,h1,-,-,-,hE1⟩:=yc
  rcases hE1 with h0|⟨b1,o1,rfl,-,hE1⟩
  ·rw [h0] at hx;simp at hx
  exact (hE1 _ x hx).2.2.2
 have hfl:c.funcs.length≤1000000:=by have:=hs.1.2.2.2.2.1;omega
 have ask:Kx x.op=decide (4≤x.op∧x.op≤8):=rfl
 unfold Z0
 simp only []
 by_cases e1:x.op=1
 ·rw [if_pos e1,e1]
  exact Yt a fa ga _ _ fn fc _ gc g 1 x.a hlt (Lh rfl) rfl rfl (Lh (by unfold Ya;decide)) (fun W hW=>Qf (m:={ m with idle:=m.idle+1,frames:=fs++[{ f with pc:=f.pc+1 }] }) (fs:=fs) (f:={ f with pc:=f.pc+1 }) 1 x.a _ (.inl ⟨rfl,hinj,rfl⟩) (hK W hW) rfl (by omega) hsl)
 rw [if_neg e1]
 by_cases e2:x.op=2
 ·rw [if_pos e2,e2]
  have hlm:=hs.lim hb.fn hx (n:=y.locals) (by rw [e2];rfl)
  have hloc:=hb.loc
  have hi:f.locals[x.a.toNat]?=some (f.locals.getD x.a.toNat 0):=getD_some (by omega)
  have hxa:x.a=(x.a.toNat:Int):=(Int.toNat_of_nonneg hlm.1).symm
  refine Yt a fa ga _ _ fn fc _ gc g 2 x.a hlt (Lh rfl) rfl rfl (Lh (by unfold Ya;decide)) (fun W hW=>?_)
  exact Qf (m:={ m with idle:=m.idle+1,frames:=fs++[{ f with pc:=f.pc+1 }] }) (fs:=fs) (f:={ f with pc:=f.pc+1 }) 2 x.a _ (.inr (.inl ⟨rfl,x.a.toNat,hxa,(f.locals.getD x.a.toNat 0),hi,(hb.lv _ (List.mem_of_getElem? hi)).in64,rfl⟩)) (hK W hW) rfl (by omega) hsl
 rw [if_neg e2]
 by_cases e3:x.op=3
 ·rw [if_pos e3]
  have hq:=Yo (c:=c) (y:=y) (x:=x) (by rw [e3];decide)
  rw [e3] at hq;rw [hq.1] at hp
  simp [Y1] at hp
  have hlm:=hs.lim hb.fn hx (n:=y.locals) (by rw [e3];rfl)
  have hloc:=hb.loc
  have hxa:x.a=(x.a.toNat:Int):=(Int.toNat_of_nonneg hlm.1).symm
  rw [e3]
  refine Yt a fa ga _ _ fn fc _ gc g 3 x.a hlt (Lh rfl) rfl rfl (Lh (by unfold Ya;decide)) (fun W hW=>?_)
  exact U8 (m:={ m with idle:=m.idle+1,frames:=fs++[{ f with pc:=f.pc+1 }] }) (fs:=fs) (f:={ f with pc:=f.pc+1 }) 3 x.a _ (.inl ⟨rfl,x.a.toNat,hxa,(show x.a.toNat<f.locals.length by omega),f.stack.dropLast,(f.stack.getLastD 0),(Y9 (show 1≤f.stack.length by omega)),(hv (by omega)).in64,rfl⟩) (hK W hW) rfl (by omega) hsl
 rw [if_neg e3]
 by_cases e4:x.op=4
 ·rw [if_pos e4,e4,Vo (by simp) (by simp)]
  exact Ke a fa ga _ _ fn fc _ gc g 4 x.a hlt (Lh rfl) (fun W hW=>Xbk (m:={ m with idle:=m.idle+1,frames:=fs++[{ f with pc:=f.pc+1 }] }) (fs:=fs) (f:={ f with pc:=f.pc+1 }) 4 x.a _ (.inl ⟨rfl,rfl⟩) (hK W hW) rfl (by omega) hsl)
 rw [if_neg e4]
 by_cases e5:x.op=5
 ·rw [if_pos e5,Vo (by simp) (by simp)]
  have hq:=Yo (c:=c) (y:=y) (x:=x) (by rw [e5];decide)
  rw [e5] at hq;rw [hq.1] at hp
  simp [Y1] at hp
  rw [e5]
  exact Ke a fa ga _ _ fn fc _ gc g 5 x.a hlt (Lh rfl) (fun W hW=>Xbk (m:={ m with idle:=m.idle+1,frames:=fs++[{ f with pc:=f.pc+1 }] }) (fs:=fs) (f:={ f with pc:=f.pc+1 }) 5 x.a _ (.inr (.inr (.inl ⟨rfl,f.stack.dropLast,(f.stack.getLastD 0),(Y9 (show 1≤f.stack.length by omega)),rfl⟩))) (hK W hW) rfl (by omega) hsl)
 rw [if_neg e5]
 by_cases e6:x.op=6
 ·rw [if_pos e6]
  have hq:=Yo (c:=c) (y:=y) (x:=x) (by rw [e6];decide)
  rw [e6] at hq;rw [hq.1] at hp
  simp [Y1] at hp
  rw [e6]
  split
  ·rename_i h1
   rw [K4]
   exact Ke a fa ga _ _ fn fc _ gc g 6 x.a hlt (Lh rfl) (fun W hW=>Xbk (m:={ m with idle:=m.idle+1,frames:=fs++[{ f with pc:=f.pc+1 }] }) (fs:=fs) (f:={ f with pc:=f.pc+1 }) 6 x.a _ (.inr (.inr (.inr (.inr (⟨rfl,f.stack.dropLast,(f.stack.getLastD 0),(Y9 (show 1≤f.stack.length by omega)),h1,rfl⟩))))) (hK W hW) rfl (by omega) hsl)
  ·rename_i h1
   rw [Vo (by simp) (by simp)]
   exact Ke a fa ga _ _ fn fc _ gc g 6 x.a hlt (Lh rfl) (fun W hW=>Xbk (m:={ m with idle:=m.idle+1,frames:=fs++[{ f with pc:=f.pc+1 }] }) (fs:=fs) (f:={ f with pc:=f.pc+1 }) 6 x.a _ (.inr (.inr (.inr (.inl ⟨rfl,f.stack.dropLast,(f.stack.getLastD 0),(Y9 (show 1≤f.stack.length by omega)),(by omega),rfl⟩)))) (hK W hW) rfl (by omega) hsl)
 rw [if_neg e6]
 by_cases e7:x.op=7
 ·rw [if_pos e7]
  have hq:=Yo (c:=c) (y:=y) (x:=x) (by rw [e7];decide)
  rw [e7] at hq;rw [hq.1] at hp
  simp [Y1] at hp
  rw [e7]
  split
  ·rename_i h1
   rw [K4]
   exact Ke a fa ga _ _ fn fc _ gc g 7 x.a hlt (Lh rfl) (fun W hW=>Xkz (m:={ m with idle:=m.idle+1,frames:=fs++[{ f with pc:=f.pc+1 }] }) (fs:=fs) (f:={ f with pc:=f.pc+1 }) 7 x.a _ (.inr (⟨rfl,f.stack.dropLast.dropLast,(f.stack.dropLast.getLastD 0),(f.stack.getLastD 0),(Kv (show 2≤f.stack.length by omega)),h1,rfl⟩)) (hK W hW) rfl (by omega) hsl)
  ·rename_i h1
   rw [Vo (by simp) (by simp)]
   exact Ke a fa ga _ _ fn fc _ gc g 7 x.a hlt (Lh rfl) (fun W hW=>Xkz (m:={ m with idle:=m.idle+1,frames:=fs++[{ f with pc:=f.pc+1 }] }) (fs:=fs) (f:={ f with pc:=f.pc+1 }) 7 x.a _ (.inl ⟨rfl,f.stack.dropLast.dropLast,(f.stack.dropLast.getLastD 0),(f.stack.getLastD 0),(Kv (show 2≤f.stack.length by omega)),(by omega),rfl⟩) (hK W hW) rfl (by omega) hsl)
 rw [if_neg e7]
 by_cases e8:x.op=8
 ·rw [if_pos e8,e8,Vo (by simp) (by simp)]
  exact Ke a fa ga _ _ fn fc _ gc g 8 x.a hlt (Lh rfl) (fun W hW=>Xbk (m:={ m with idle:=m.idle+1,frames:=fs++[{ f with pc:=f.pc+1 }] }) (fs:=fs) (f:={ f with pc:=f.pc+1 }) 8 x.a _ (.inr (.inl ⟨rfl,rfl⟩)) (hK W hW) rfl (by omega) hsl)
 rw [if_neg e8]
 have HA:Hid (Kx x.op=false):=Lh (by unfold Kx;simp;omega)
 by_cases e9:x.op=9
 ·rw [if_pos e9]
  have hlm:=hs.lim hb.fn hx (n:=c.funcs.length) (by rw [e9];rfl)
  obtain ⟨z,hz⟩:∃ z,c.funcs[x.a.toNat]?=some z:=⟨_,List.getElem?_eq_getElem (by omega)⟩
  have hz2:Je c x.a=some z:=hz
  have hq:Xm c y x=z.params:=by unfold Xm;rw [if_pos e9,hz2]
  rw [hq] at hp
  have hzo:=hs.fok hz
  unfold Zr at hzo
  rw [hz2]
  simp only []
  have hsp:f.stack=f.stack.take (f.stack.length - z.params.toNat)++f.stack.drop (f.stack.length - z.params.toNat):=(List.take_append_drop _ _).symm
  have hdl:(f.stack.drop (f.stack.length - z.params.toNat)).length=z.params.toNat:=by rw [List.length_drop];omega
  have hxa:x.a=(x.a.toNat:Int):=(Int.toNat_of_nonneg hlm.1).symm
  refine Xi3 a fa ga _ _ fn fc _ gc g x.op x.a hlt HA (by rw [e9];rfl) (fun W hW=>?_)
  split
  ·rename_i hd
   have:=Xmx (m:={ m with idle:=m.idle+1,frames:=fs++[{ f with pc:=f.pc+1 }] }) (f:={ f with pc:=f.pc+1 }) fa ga fn fc gc g B (hKB W hW) hFB c.funcs hfl (hKF W hW) x.a.toNat z hz (f.stack.take (f.stack.length - z.params.toNat)) (f.stack.drop (f.stack.length - z.params.toNat)) hsp (by rw [hdl];omega) (z.locals - z.params).toNat (by rw [hdl];omega) (by rw [hdl];omega) h64 (hK W hW) rfl hd
   rw [←hxa] at this
   exact this
  ·rename_i hd
   rw [K4]
   exact Xjj (m:={ m with idle:=m.idle+1,frames:=fs++[{ f with pc:=f.pc+1 }] }) (fs:=fs) (f:={ f with pc:=f.pc+1 }) fa ga fn fc _ gc g x.a (hK W hW) rfl (by omega)
 rw [if_neg e9]
 have E9:(x.op == 9)=false:=by simpa using e9
 by_cases e10:x.op=10
 ·rw [if_pos e10]
  have hq:Xm c y x=b2i y.result:=by unfold Xm;rw [if_neg (by omega),if_pos e10]
  have hn1:=hret e10
  rw [hq] at hn1
  refine Xjd a fa ga _ _ fn fc _ gc g x.op x.a hlt HA E9 (by rw [e10];rfl) (fun W hW=>?_)
  cases hres:y.result with
  | true=>
   rw [hres] at hn1
   simp [b2i] at hn1
   have h1:=Y9 (st:=f.stack) (by omega)
   have h2:f.stack.dropLast=[]:=List.eq_nil_of_length_eq_zero (by rw [List.length_dropLast];omega)
   rw [h2] at h1
   have h3:f.stack=[f.stack.getLastD 0]:=by simpa using h1
   cases hgl:fs.getLast? with
   | none=>
    have hnil:fs=[]:=List.getLast?_eq_none_iff.1 hgl
    simp only [if_true]
    rw [Xfa]
    exact Xak (m:={ m with idle:=m.idle+1,frames:=fs++[{ f with pc:=f.pc+1 }] }) (f:={ f with pc:=f.pc+1 }) fa ga fn fc gc g B (hKB W hW) c.funcs (hKF W hW) f.fn.toNat hk y hb.fn (hK W hW) rfl (by omega) _ (.inl ⟨hres,(f.stack.getLastD 0),(hv (by omega)).in64,h3,hnil,rfl⟩)
   | some f'=>
    obtain ⟨fs',hla⟩:=List.getLast?_eq_some_iff.1 hgl
    have hdl:fs.dropLast=fs':=by rw [hla];simp
    simp only [if_true]
    rw [hdl]
    exact Xak (m:={ m with idle:=m.idle+1,frames:=fs++[{ f with pc:=f.pc+1 }] }) (f:={ f with pc:=f.pc+1 }) fa ga fn fc gc g B (hKB W hW) c.funcs (hKF W hW) f.fn.toNat hk y hb.fn (hK W hW) rfl (by omega) _ (.inr (.inr (.inl ⟨hres,(f.stack.getLastD 0),(hv (by omega)).in64,h3,fs',f',hla,(hlow2 f' (by rw [hla];simp)),rfl⟩)))
  | false=>
   rw [hres] at hn1
   simp [b2i] at hn1
   cases hgl:fs.getLast? with
   | none=>
    have hnil:fs=[]:=List.getLast?_eq_none_iff.1 hgl
    simp only [Bool.false_eq_true,if_false]
    rw [Xfa]
    exact Xak (m:={ m with idle:=m.idle+1,frames:=fs++[{ f with pc:=f.pc+1 }] }) (f:={ f with pc:=f.pc+1 }) fa ga fn fc gc g B (hKB W hW) c.funcs (hKF W hW) f.fn.toNat hk y hb.fn (hK W hW) rfl (by omega) _ (.inr (.inl ⟨hres,hn1,hnil,rfl⟩))
   | some f'=>
    obtain ⟨fs',hla⟩:=List.getLast?_eq_some_iff.1 hgl
    have hdl:fs.dropLast=fs':=by rw [hla];simp
    have hret:Xll f' false 0=f':=by unfold Xll;simp
    simp only [Bool.false_eq_true,if_false]
    rw [hdl,hret]
    exact Xak (m:={ m with idle:=m.idle+1,frames:=fs++[{ f with pc:=f.pc+1 }] }) (f:={ f with pc:=f.pc+1 }) fa ga fn fc gc g B (hKB W hW) c.funcs (hKF W hW) f.fn.toNat hk y hb.fn (hK W hW) rfl (by omega) _ (.inr (.inr (.inr (⟨hres,hn1,fs',f',hla,rfl⟩))))
 rw [if_neg e10]
 have E10:(x.op == 10)=false:=by simpa using e10
 by_cases e11:x.op=11
 ·rw [if_pos e11,e11]
  exact Yt a fa ga _ _ fn fc _ gc g 11 x.a hlt (Lh rfl) rfl rfl (Lh (by unfold Ya;decide)) (fun W hW=>Qf (m:={ m with idle:=m.idle+1,frames:=fs++[{ f with pc:=f.pc+1 }] }) (fs:=fs) (f:={ f with pc:=f.pc+1 }) 11 x.a _ (.inr (.inr (.inl ⟨rfl,hinj,rfl⟩))) (hK W hW) rfl (by omega) hsl)
 rw [if_neg e11]
 by_cases e12:x.op=12
 ·rw [if_pos e12]
  have hq:=Yo (c:=c) (y:=y) (x:=x) (by rw [e12];decide)
  rw [e12] at hq;rw [hq.1] at hp
  simp [Y1] at hp
  rw [e12]
  split
  ·rename_i h1
   exact Yt a fa ga _ _ fn fc _ gc g 12 x.a hlt (Lh rfl) rfl rfl (Lh (by unfold Ya;decide)) (fun W hW=>Qf (m:={ m with idle:=m.idle+1,frames:=fs++[{ f with pc:=f.pc+1 }] }) (fs:=fs) (f:={ f with pc:=f.pc+1 }) 12 x.a _ (.inr (.inr (.inr (.inl ⟨rfl,hinj,f.stack.dropLast,(f.stack.getLastD 0),(Y9 (show 1≤f.stack.length by omega)),h1,rfl⟩)))) (hK W hW) rfl (by omega) hsl)
  ·rename_i h1
   exact Yt a fa ga _ _ fn fc _ gc g 12 x.a hlt (Lh rfl) rfl rfl (Lh (by unfold Ya;decide)) (fun W hW=>Qf (m:={ m with idle:=m.idle+1,frames:=fs++[{ f with pc:=f.pc+1 }] }) (fs:=fs) (f:={ f with pc:=f.pc+1 }) 12 x.a _ (.inr (.inr (.inr (.inr (.inl ⟨rfl,f.stack.dropLast,(f.stack.getLastD 0),(Y9 (show 1≤f.stack.length by omega)),h1,rfl⟩))))) (hK W hW) rfl (by omega) hsl)
 rw [if_neg e12]
 by_cases e13:x.op=13
 ·rw [if_pos e13,e13]
  split
  ·rename_i h1
   rw [K4]
   exact Yt a fa ga _ _ fn fc _ gc g 13 x.a hlt (Lh rfl) rfl rfl (Lh (by unfold Ya;decide)) (fun W hW=>Qf (m:={ m with idle:=m.idle+1,frames:=fs++[{ f with pc:=f.pc+1 }] }) (fs:=fs) (f:={ f with pc:=f.pc+1 }) 13 x.a _ (.inr (.inr (.inr (.inr (.inr (.inl ⟨rfl,h1,rfl⟩)))))) (hK W hW) rfl (by omega) hsl)
  ·rename_i h1
   have hpt:=hnum.potle
   have hc0:=hnum.cmp0
   have hi1:=hnum.idle1
   unfold pot at hpt
   exact Yt a fa ga _ _ fn fc _ gc g 13 x.a hlt (Lh rfl) rfl rfl (Lh (by unfold Ya;decide)) (fun W hW=>Qf (m:={ m with idle:=m.idle+1,frames:=fs++[{ f with pc:=f.pc+1 }] }) (fs:=fs) (f:={ f with pc:=f.pc+1 }) 13 x.a _ (.inr (.inr (.inr (.inr (.inr (.inr (.inl ⟨rfl,h1,⟨hnum.fuel,by show m.fuel≤_;omega⟩,rfl⟩))))))) (hK W hW) rfl (by omega) hsl)
 rw [if_neg e13]
 by_cases e14:x.op=14
 ·rw [if_pos e14]
  have hq:=Yo (c:=c) (y:=y) (x:=x) (by rw [e14];decide)
  rw [e14] at hq;rw [hq.1] at hp
  simp [Y1] at hp
  rw [e14]
  exact Yt a fa ga _ _ fn fc _ gc g 14 x.a hlt (Lh rfl) rfl rfl (Lh (by unfold Ya;decide)) (fun W hW=>U8 (m:={ m with idle:=m.idle+1,frames:=fs++[{ f with pc:=f.pc+1 }] }) (fs:=fs) (f:={ f with pc:=f.pc+1 }) 14 x.a _ (.inr (.inl ⟨rfl,f.stack.dropLast,(f.stack.getLastD 0),(Y9 (show 1≤f.stack.length by omega)),(hv (by omega)),rfl⟩)) (hK W hW) rfl (by omega) hsl)
 rw [if_neg e14]
 by_cases e26:x.op=26
 ·rw [if_pos e26]
  have hq:=Yo (c:=c) (y:=y) (x:=x) (by rw [e26];decide)
  rw [e26] at hq;rw [hq.1] at hp
  simp [Y1] at hp
  rw [e26]
  exact Yt a fa ga _ _ fn fc _ gc g 26 x.a hlt (Lh rfl) rfl rfl (Lh (by unfold Ya;decide)) (fun W hW=>U8 (m:={ m with idle:=m.idle+1,frames:=fs++[{ f with pc:=f.pc+1 }] }) (fs:=fs) (f:={ f with pc:=f.pc+1 }) 26 x.a _ (.inr (.inr (.inl ⟨rfl,f.stack.dropLast,(f.stack.getLastD 0),(Y9 (show 1≤f.stack.length by omega)),(hv (by omega)),rfl⟩))) (hK W hW) rfl (by omega) hsl)
 rw [if_neg e26]
 by_cases e29:x.op=29
 ·rw [if_pos e29]
  have hq:=Yo (c:=c) (y:=y) (x:=x) (by rw [e29];decide)
  rw [e29] at hq;rw [hq.1] at hp
  simp [Y1] at hp
  rw [e29]
  exact Yt a fa ga _ _ fn fc _ gc g 29 x.a hlt (Lh rfl) rfl rfl (Lh (by unfold Ya;decide)) (fun W hW=>U8 (m:={ m with idle:=m.idle+1,frames:=fs++[{ f with pc:=f.pc+1 }] }) (fs:=fs) (f:={ f with pc:=f.pc+1 }) 29 x.a _ (.inr (.inr (.inr (⟨rfl,f.stack.dropLast,(f.stack.getLastD 0),(Y9 (show 1≤f.stack.length by omega)),(hv (by omega)),rfl⟩)))) (hK W hW) rfl (by omega) hsl)
 rw [if_neg e29]
 by_cases e30:x.op=30
 ·rw [if_pos e30]
  have hq:=Yo (c:=c) (y:=y) (x:=x) (by rw [e30];decide)
  rw [e30] at hq;rw [hq.1] at hp
  simp [Y1] at hp
  rw [e30]
  exact Yt a fa ga _ _ fn fc _ gc g 30 x.a hlt (Lh rfl) rfl rfl (Lh (by unfold Ya;decide)) (fun W hW=>Qf (m:={ m with idle:=m.idle+1,frames:=fs++[{ f with pc:=f.pc+1 }] }) (fs:=fs) (f:={ f with pc:=f.pc+1 }) 30 x.a _ (.inr (.inr (.inr (.inr (.inr (.inr (.inr (.inl ⟨rfl,f.stack.dropLast,(f.stack.getLastD 0),(Y9 (show 1≤f.stack.length by omega)),rfl⟩)))))))) (hK W hW) rfl (by omega) hsl)
 rw [if_neg e30]
 by_cases e31:x.op=31
 ·rw [if_pos e31]
  have hq:=Yo (c:=c) (y:=y) (x:=x) (by rw [e31];decide)
  rw [e31] at hq;rw [hq.1] at hp
  simp [Y1] at hp
  rw [e31]
  exact Yt a fa ga _ _ fn fc _ gc g 31 x.a hlt (Lh rfl) rfl rfl (Lh (by unfold Ya;decide)) (fun W hW=>Qf (m:={ m with idle:=m.idle+1,frames:=fs++[{ f with pc:=f.pc+1 }] }) (fs:=fs) (f:={ f with pc:=f.pc+1 }) 31 x.a _ (.inr (.inr (.inr (.inr (.inr (.inr (.inr (.inr (⟨rfl,f.stack.dropLast,(f.stack.getLastD 0),(Y9 (show 1≤f.stack.length by omega)),(hv (by omega)).in64,rfl⟩))))))))) (hK W hW) rfl (by omega) hsl)
 rw [if_neg e31]
 have h2:=Xjw hop.1 hop.2 ⟨e1,e2,e3,e4,e5,e6,e7,e8,e9,e10,e11,e12,e13,e14,e26,e29,e30,e31⟩
 have hq:=Xa8 (c:=c) (y:=y) h2
 rw [hq.1] at hp
 have hpt:=hnum.potle
 have hc0:=hnum.cmp0
 have hi1:=hnum.idle1
 have hf0:=hnum.fuel
 unfold pot at hpt
 split
 ·rename_i hE
  exact Xln (m:={ m with idle:=m.idle+1,frames:=fs++[{ f with pc:=f.pc+1 }] }) (fs:=fs) (f:={ f with pc:=f.pc+1 }) fa ga fn fc _ gc g x.op x.a h2 f.stack.dropLast.dropLast (f.stack.dropLast.getLastD 0) (f.stack.getLastD 0) (Kv (show 2≤f.stack.length by omega)) (hu (by omega)) (hv (by omega)) hE ⟨by show -1≤m.compares;omega,by show m.compares≤_;omega⟩ (hK w (Below.refl _ _)) rfl (by omega) hsl2
 ·rename_i hE
  rw [K4,Xn4 hE]
  have:=Xgb (m:={ m with idle:=m.idle+1,frames:=fs++[{ f with pc:=f.pc+1 }] }) (f:={ f with pc:=f.pc+1 }) fa ga fn fc c.funcs.length gc g x.op x.a h2 f.stack.dropLast.dropLast (f.stack.dropLast.getLastD 0) (f.stack.getLastD 0) (Kv (show 2≤f.stack.length by omega)) (hu (by omega)) (hv (by omega)) hE (hK w (Below.refl _ _)) rfl (by omega) hsl2
  simpa using this
end Go.Proofs.YtbmeoklmachjpaaGreatDoor
