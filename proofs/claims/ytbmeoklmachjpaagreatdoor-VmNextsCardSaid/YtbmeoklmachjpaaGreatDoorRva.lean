/- Contracts of the reference's fault, last, Answer. The contract of the reference's fits: a frame is right. The contract of the reference's Valid. -/
import Derived.Test.YtbmeoklmachjpaaGreatDoorVld2
import Derived.Test.YtbmeoklmachjpaaGreatDoorRa
import Derived.Test.YtbmeoklmachjpaaGreatDoorPst3
import Derived.Test.YtbmeoklmachjpaaGreatDoorVld3
import Derived.Test.YtbmeoklmachjpaaGreatDoorRg
import Derived.Test.YtbmeoklmachjpaaGreatDoorRe
import Derived.BigQuiet
import Derived.Deep.QuietTactic
import Derived.Test.YtbmeoklmachjpaaGreatDoorNxt2
import Derived.Test.YtbmeoklmachjpaaGreatDoorSam
import Derived.Deep.RegionHeld3
set_option maxHeartbeats 4000000
set_option maxRecDepth 100000
set_option linter.unusedVariables false
set_option linter.unusedSimpArgs false
namespace Go.Proofs.YtbmeoklmachjpaaGreatDoor
open Go.RowKit
theorem Xi9 (n:Int) (w:World):Calls Tryz.prog 43 #[.int .i64 n] w fun e w'=>e=.returned (.bool (Ud n))∧w=w':=by
 go_enter Tryz.func43,Tryz.ntmps43
 go_wp2
 all_goals (go_ret;exact ⟨Za (by rw [Bool.eq_iff_iff];unfold Ud;simp;try omega),rfl⟩)
theorem Xcp (r:Rq) (n:Int) (w:World) :
  Calls Tryz.prog 20 #[rqV r,.int .i64 n] w fun e w'=>e=.returned (.bool (Yr r n))∧Below w.heap.size w w':=by
 obtain ⟨kind,node,field,value,fault⟩:=r
 unfold rqV
 by_cases h1:kind=1
 ·subst h1
  have hf:Hid (Yr ⟨1,node,field,value,fault⟩ n=X1 n):=Lh (by unfold Yr;rw [if_pos rfl])
  go_enter Tryz.func20,Tryz.ntmps20
  go_wp2_with (go_at_call 42;refine (Ys n _).mono ?_;rintro e w' ⟨rfl,rfl⟩)
  go_ret
  exact ⟨by rw [hf.out];rfl,Xa _ _⟩
 by_cases h3:kind=3
 ·subst h3
  have hf:Hid (Yr ⟨3,node,field,value,fault⟩ n=decide (0≤n∧n≤1099511627776)):=Lh (by unfold Yr;rw [if_neg (by simp),if_pos rfl])
  by_cases hn:0≤n
  ·have hn2:decide (0≤n)=true:=by simp [hn]
   go_enter Tryz.func20,Tryz.ntmps20
   go_wp2_with fail
   all_goals (go_ret;exact ⟨by rw [hf.out];exact Za (by simp [*]),Xa _ _⟩)
  ·have hn2:decide (0≤n)=false:=by simp;omega
   go_enter Tryz.func20,Tryz.ntmps20
   go_wp2_with fail
   all_goals (go_ret;exact ⟨by rw [hf.out];exact Za (by simp;try omega),Xa _ _⟩)
 ·have hf:Hid (Yr ⟨kind,node,field,value,fault⟩ n=true):=Lh (by unfold Yr;rw [if_neg h1,if_neg h3])
  have hb1:(kind == 1)=false:=by simp [h1]
  have hb3:(kind == 3)=false:=by simp [h3]
  have hb4:(kind != 3)=true:=by simp [h3]
  have hb5:(kind != 1)=true:=by simp [h1]
  go_enter Tryz.func20,Tryz.ntmps20
  go_wp2_with fail
  all_goals (go_ret;exact ⟨by rw [hf.out];rfl,Xa _ _⟩)
/-- what the tests of last come to -/
theorem Xhy {op a:Int} {r:Rq} (h:4≤op∧op≤8):Xr ⟨op,a⟩ r=(((r.fault == 0) && (r.field == a)) && (X4 op r.node && ((r.kind == Xy op) && (if op=5∨op=7 then X1 r.value else r.value == 0)))):=by
 have hk:(Xy op == 0)=false:=by
  unfold Xy
  rcases (show op=4∨op=5∨op=6∨op=7∨op=8 by omega) with rfl|rfl|rfl|rfl|rfl<;>rfl
 have h2:(Xy op == 2)=decide (op=5∨op=7):=by
  unfold Xy
  rcases (show op=4∨op=5∨op=6∨op=7∨op=8 by omega) with rfl|rfl|rfl|rfl|rfl<;>rfl
 have h3:(r.value == 0 || (Xy op == 2 && X1 r.value))=(if op=5∨op=7 then X1 r.value else r.value == 0):=by
  rw [h2]
  split
  ·rename_i h5
   rw [decide_eq_true h5,Bool.true_and]
   by_cases hv:r.value=0
   ·rw [hv];rfl
   ·have:(r.value == 0)=false:=by simpa using hv
    rw [this,Bool.false_or]
  ·rename_i h5
   rw [decide_eq_false h5,Bool.false_and,Bool.or_false]
 unfold Xr
 rw [hk,h3]
 cases (r.kind == Xy op)<;>cases (X4 op r.node)<;>cases (r.field == a)<;>cases (r.fault == 0)<;>simp
theorem Xli (op a kind node field value fault:Int) (h:4≤op∧op≤8) (w:World) :
  Calls Tryz.prog 75 #[.agg #[.int .i64 op,.int .i64 a],.agg #[.int .i64 kind,.int .i64 node,.int .i64 field,.int .i64 value,.int .i64 fault]] w fun e w'=>e=.returned (.bool (Xr ⟨op,a⟩ ⟨kind,node,field,value,fault⟩))∧Below w.heap.size w w':=by
 obtain ⟨R,hR⟩:∃ R,R=Xr ⟨op,a⟩ ⟨kind,node,field,value,fault⟩:=⟨_,rfl⟩
 rw [←hR]
 rw [Xhy h] at hR
 have HR:=Lh hR
 clear hR
 by_cases hf:fault=0
 rotate_left
 ·have e1:(fault != 0)=true:=by simpa using hf
  have e2:(fault == 0)=false:=by simpa using hf
  have HR2:Hid (R=false):=Lh (by rw [HR.out];simp only [e2,Bool.false_and])
  clear hf
  go_enter Tryz.func75,Tryz.ntmps75
  go_wp2_with fail
  all_goals (go_ret;exact ⟨by rw [HR2.out];rfl,(Xa _ _).then (Xa _ _)⟩)
 by_cases ha:field=a
 rotate_left
 ·have e1:(fault != 0)=false:=by simp [hf]
  have e2:(field != a)=true:=by simpa using ha
  have e3:(field == a)=false:=by simpa using ha
  have HR2:Hid (R=false):=Lh (by rw [HR.out];simp only [e3,Bool.and_false,Bool.false_and])
  clear hf ha
  go_enter Tryz.func75,Tryz.ntmps75
  go_wp2_with fail
  all_goals (go_ret;exact ⟨by rw [HR2.out];rfl,(Xa _ _).then (Xa _ _)⟩)
 subst hf ha
 have HR2:Hid (R=(X4 op node && ((kind == Xy op) && (if op=5∨op=7 then X1 value else value == 0)))):=Lh (by rw [HR.out];simp)
 clear HR
 rcases (show op=4∨op=5∨op=6∨op=7∨op=8 by omega) with rfl|rfl|rfl|rfl|rfl
 all_goals
  clear h
  go_enter Tryz.func75,Tryz.ntmps75
  go_wp2_with (go_at_call 42;refine (Ys value _).mono ?_;rintro e w' ⟨rfl,rfl⟩)
  all_goals (go_ret;exact ⟨by rw [HR2.out];exact Za (by rw [Bool.eq_iff_iff];simp [X4,Xy];try (first|omega|exact ⟨fun h=>⟨by omega,by omega,h⟩,fun h=>h.2.2⟩)),(Xa _ _).then (Xa _ _)⟩)
/-- a frame is right; nx is the function of the next frame, or -1 for the last one -/
def Q6 (c:Cod) (f:Fra) (r:Rq) (nx:Int):Prop:=Jb c f (fun x=>if nx<0 then Xr x r=true else x.op=9∧x.a=nx)
theorem Xoc {c:Cod} {f:Fra} {r:Rq} {nx:Int} (h:Q6 c f r nx):0≤f.fn∧f.fn<c.funcs.length:=by
 obtain ⟨y,x,hh,hb,_⟩:=h
 have:=(Ll hb.fn)
 have:=hb.fn0
 omega
theorem Xdh {c:Cod} {f:Fra} {r:Rq} {nx:Int} {y:Fun} (hy:c.funcs[f.fn.toNat]?=some y) (h:Q6 c f r nx):1≤f.pc∧f.pc≤y.code.length∧(f.locals.length:Int)=y.locals∧(∀ n∈f.locals,isV n)∧∀ n∈f.stack,isV n:=by
 obtain ⟨y',x,hh,hb,h1,hx,_⟩:=h
 obtain rfl:y=y':=by have:=hb.fn;rw [hy] at this;cases this;rfl
 have:=(Ll hx)
 exact ⟨h1,by omega,hb.loc,hb.lv,hb.sv⟩
theorem Vf {l:List Int}:(!(l.any fun n=>!X1 n))=true↔∀ n∈l,isV n:=by
 rw [Bool.not_eq_true',List.any_eq_false]
 constructor
 ·intro h n hn
  have:=h n hn
  simp at this
  exact Ye.1 this
 ·intro h n hn
  simp [Ye.2 (h n hn)]
/-- what is left of the tests behind the heights -/
theorem Xpl {c:Cod} (hs:Xv c) {f:Fra} {r:Rq} {nx:Int} {y:Fun} {x:Ins} {v:Int} (hb:Xaa c f y) (h1:1≤f.pc) (hx:y.code[(f.pc - 1).toNat]?=some x) (hv:(v = -1∧∀ n,¬Reach c y (f.pc - 1).toNat n)∨(0≤v∧Reach c y (f.pc - 1).toNat v)) :
  Q6 c f r nx↔¬v<0∧(f.stack.length:Int)=v - Xm c y x∧(if nx<0 then Xr x r=true else x.op=9∧x.a=nx):=by
 constructor
 ·rintro ⟨y',x',hh,hb',h1',hx',hP,hr,hl⟩
  obtain rfl:y'=y:=by have:=hb'.fn;rw [hb.fn] at this;cases this;rfl
  obtain rfl:x'=x:=by rw [hx] at hx';cases hx';rfl
  rcases hv with ⟨_,hn⟩|⟨h0,hr2⟩
  ·exact absurd hr (hn _)
  ·have:=(hs.snd hb.fn).2 _ _ _ hr hr2
   subst this
   exact ⟨by omega,hl,hP⟩
 ·rintro ⟨h2,hl,hP⟩
  rcases hv with ⟨h0,_⟩|⟨_,hr⟩
  ·omega
  ·exact ⟨y,x,v,hb,h1,hx,hP,hr,hl⟩
def Xn9 (c:Cod) (f:Fra) (r:Rq) (nx:Int) (w:World) (e:Ending) (w':World):Prop:=e=.returned (.bool (pB (Q6 c f r nx)))∧Below w.heap.size w w'
theorem Qz {c:Cod} {f:Fra} {r:Rq} {nx:Int} {w w':World} (h:¬Q6 c f r nx) (hb:Below w.heap.size w w'):Xn9 c f r nx w (.returned (.bool false)) w':=⟨by rw [K8 h],hb⟩
theorem Xhf {c:Cod} {f:Fra} {r:Rq} {nx:Int} {w w':World} {b:Bool} (h:Q6 c f r nx↔b=true) (hb:Below w.heap.size w w'):Xn9 c f r nx w (.returned (.bool b)) w':=by
 cases b with
 | true=>exact ⟨by rw [Kh (h.2 rfl)],hb⟩
 | false=>exact ⟨by rw [K8 (fun hp=>by have:=h.1 hp;cases this)],hb⟩
theorem Xp3 {x:Ins} {r:Rq} (h:Xr x r=true):4≤x.op∧x.op≤8:=by have:=Xa9 h;omega
theorem Xaj {c:Cod} (hs:Xv c) (hsm:Zb c) (f:Fra) (nx kind node field value fault:Int) (la sa:Option Addr) (lc sc:Nat) (fa ga:Option Addr) (fc gc:Nat) (B:Nat) (w:World) (hB:B≤w.heap.size) (hc:Yj B w (.agg #[.slice fa c.fields.length fc,.int .i64 c.globals,.slice ga c.funcs.length gc]) c)
  (hl:Xf B w 1 Zd (.slice la f.locals.length lc) f.locals) (hst:Xf B w 1 Zd (.slice sa f.stack.length sc) f.stack) (h64:in64 f.pc) :
  Calls Tryz.prog 44 #[.agg #[.slice fa c.fields.length fc,.int .i64 c.globals,.slice ga c.funcs.length gc],.agg #[.int .i64 f.fn,.int .i64 f.pc,.slice la f.locals.length lc,.slice sa f.stack.length sc],.agg #[.int .i64 kind,.int .i64 node,.int .i64 field,.int .i64 value,.int .i64 fault],.int .i64 nx] w (Xn9 c f ⟨kind,node,field,value,fault⟩ nx w):=by
 obtain ⟨W,hW⟩:∃ W,W=((w.alloc (.cells #[.slice fa c.fields.length fc,.int .i64 c.globals,.slice ga c.funcs.length gc] 25)).alloc (.cells #[.int .i64 f.fn,.int .i64 f.pc,.slice la f.locals.length lc,.slice sa f.stack.length sc] 83)).alloc (.cells #[.int .i64 kind,.int .i64 node,.int .i64 field,.int .i64 value,.int .i64 fault] 34):=⟨_,rfl⟩
 have hWb:Hid (Below w.heap.size w W):=by rw [hW];exact Lh (((Xa _ _).then (Xa _ _)).then (Xa _ _))
 have b0:Hid (Xo W w.heap.size [.slice fa c.fields.length fc,.int .i64 c.globals,.slice ga c.funcs.length gc]):=by rw [hW];exact Lh ((Xd.alloc _).alloc _)
 have b1:Hid (Xo W (w.heap.size+1) [.int .i64 f.fn,.int .i64 f.pc,.slice la f.locals.length lc,.slice sa f.stack.length sc]):=by
  rw [hW]
  have:=(@Xd (w.alloc (.cells #[.slice fa c.fields.length fc,.int .i64 c.globals,.slice ga c.funcs.length gc] 25)) #[.int .i64 f.fn,.int .i64 f.pc,.slice la f.locals.length lc,.slice sa f.stack.length sc] 83).alloc (.cells #[.int .i64 kind,.int .i64 node,.int .i64 field,.int .i64 value,.int .i64 fault] 34)
  exact Lh (by simpa using this)
 have b2:Hid (Xo W (w.heap.size+1+1) [.int .i64 kind,.int .i64 node,.int .i64 field,.int .i64 value,.int .i64 fault]):=by
  rw [hW]
  have:=@Xd ((w.alloc (.cells #[.slice fa c.fields.length fc,.int .i64 c.globals,.slice ga c.funcs.length gc] 25)).alloc (.cells #[.int .i64 f.fn,.int .i64 f.pc,.slice la f.locals.length lc,.slice sa f.stack.length sc] 83)) #[.int .i64 kind,.int .i64 node,.int .i64 field,.int .i64 value,.int .i64 fault] 34
  exact Lh (by simpa using this)
 have HC:=Lh (hc.below (hWb.out.mono hB))
 have HLV:=Lh (hl.ints (hWb.out.mono hB))
 have HSV:=Lh (hst.ints (hWb.out.mono hB))
 have hWB:B≤W.heap.size:=Nat.le_trans hB hWb.out.size
 have hg:Xf B W 5 (Zl B) (.slice ga c.funcs.length gc) c.funcs:=by
  obtain ⟨fv0,gv0,heq,_,h2,_⟩:=HC.out
  simp only [Value.agg.injEq,Array.mk.injEq,List.cons.injEq,and_true] at heq
  obtain ⟨_,_,rfl⟩:=heq
  exact h2
 have i0:=b0.out 0 _ rfl
 have i2:=b0.out 2 _ rfl
 have f0:=b1.out 0 _ rfl
 have zi:=Bl i0
 have zf:=Bl f0
 clear hc hl hst
 by_cases h0:f.fn<0
 ·have HNO:Hid (¬Q6 c f ⟨kind,node,field,value,fault⟩ nx):=Lh (fun h=>by have:=Xoc h;omega)
  have d0:decide (f.fn<0)=true:=by simpa using h0
  clear h0
  go_enter Tryz.func44,Tryz.ntmps44
  go_upto_region 1 with fail
  rw [←hW]
  clear hW
  go_wp2_with fail
  go_ret
  exact Qz HNO.out hWb.out
 have d0:decide (f.fn<0)=false:=by simp;omega
 by_cases h1:(c.funcs.length:Int)≤f.fn
 ·have HNO:Hid (¬Q6 c f ⟨kind,node,field,value,fault⟩ nx):=Lh (fun h=>by have:=Xoc h;omega)
  have d1:decide ((c.funcs.length:Int)≤f.fn)=true:=by simpa using h1
  clear h0 h1
  go_enter Tryz.func44,Tryz.ntmps44
  go_upto_region 1 with fail
  rw [←hW]
  clear hW
  go_wp2_with fail
  go_ret
  exact Qz HNO.out hWb.out
 have d1:decide ((c.funcs.length:Int)≤f.fn)=false:=by simp;omega
 obtain ⟨k,hk⟩:∃ k:Nat,f.fn=k:=⟨f.fn.toNat,by omega⟩
 obtain ⟨y,hy⟩:∃ y,c.funcs[k]?=some y:=⟨_,List.getElem?_eq_getElem (by omega)⟩
 have hyf:c.funcs[f.fn.toNat]?=some y:=by rw [hk,Int.toNat_natCast];exact hy
 have hk1:(k:Int)<(c.funcs.length:Int):=by omega
 obtain ⟨a0,cap0,he0,hgl1,hgl2,hgl3,hE⟩:=hg
 obtain ⟨rfl,rfl⟩:ga=a0∧gc=cap0:=by simpa using he0
 rcases hE with h2|⟨yb,yo,rfl,hybB,hE⟩
 ·rw [h2] at hy;simp at hy
 have hEk:=hE k y hy
 obtain ⟨e0,e1,e2,e3,⟨yv,e4,hyc⟩,e5,e6,e7⟩:=id hEk
 obtain ⟨ya,ycap,rfl,hyl1,hyl2,hyl3,hEc⟩:=id hyc
 rcases hEc with h2|⟨ib,io,rfl,hibB,hEc⟩
 ·have:=(hs.wf hyf).one
  rw [h2] at this;simp at this
 have HYC:=Lh hyc
 have HE:=Lh hEk
 have zy:=Bl e1
 have hk0:(0:Int)≤(k:Int):=Int.natCast_nonneg _
 have HYF:=Lh hyf
 have HY:=Lh hy
 have HK:=Lh hk
 have HX64:=Lh h64
 rw [hk] at f0 d0 d1
 have f1:=b1.out 1 _ rfl
 have f2:=b1.out 2 _ rfl
 have f3:=b1.out 3 _ rfl
 clear he0 hE hy hyf hk h0 h1 hEc hyc hEk h64
 go_enter Tryz.func44,Tryz.ntmps44
 go_upto_region 1 with fail
 rw [←hW]
 have HW:=Lh hW
 clear hW
 go_upto_region 4 with fail
 obtain ⟨W3,hW3⟩:∃ V,V=W.alloc (.cells #[.string y.name,.int .i64 y.params,.int .i64 y.locals,.bool y.result,.slice (some ⟨ib,io,none⟩) y.code.length ycap] 75):=⟨_,rfl⟩
 have hb3:Below W.heap.size W W3:=by rw [hW3];exact Xa _ _
 have G3:Hid (Xo W3 W.heap.size [.string y.name,.int .i64 y.params,.int .i64 y.locals,.bool y.result,.slice (some ⟨ib,io,none⟩) y.code.length ycap]):=by rw [hW3];exact Lh Xd
 obtain ⟨gb,hgb⟩:∃ q,q=W.heap.size:=⟨_,rfl⟩
 rw [←hW3,← hgb]
 rw [←hgb] at G3
 have HGB:=Lh hgb
 have HW3:=Lh hW3
 have C3:=Lh (b0.out.keep hb3)
 have F3:=Lh (b1.out.keep hb3)
 have R3:=Lh (b2.out.keep hb3)
 have HB3:=Lh (hWb.out.then hb3)
 have hB3:B≤W3.heap.size:=Nat.le_trans hB HB3.out.size
 have HLV3:=Lh (HLV.out.ints (hb3.mono hWB))
 have HSV3:=Lh (HSV.out.ints (hb3.mono hWB))
 have HC3:=Lh (HC.out.below (hb3.mono hWB))
 have HYC3:=Lh (HYC.out.inss (hb3.mono hWB))
 clear hW3 hgb hb3 i0 i2 f0 f1 f2 f3 zi zf zy e0 e1 e2 e3 e4 d0 d1
 have i0:=C3.out 0 _ rfl
 have i1:=C3.out 1 _ rfl
 have i2:=C3.out 2 _ rfl
 have f0:=F3.out 0 _ rfl
 have f1:=F3.out 1 _ rfl
 have f2:=F3.out 2 _ rfl
 have f3:=F3.out 3 _ rfl
 have g0:=G3.out 0 _ rfl
 have g1:=G3.out 1 _ rfl
 have g2:=G3.out 2 _ rfl
 have g3:=G3.out 3 _ rfl
 have g4:=G3.out 4 _ rfl
 have r0:=R3.out 0 _ rfl
 have r1:=R3.out 1 _ rfl
 have r2:=R3.out 2 _ rfl
 have r3:=R3.out 3 _ rfl
 have r4:=R3.out 4 _ rfl
 have zi:=Bl i0
 have zf:=Bl f0
 have zg:=Bl g0
 have zr:=Bl r0
 by_cases p1:f.pc<1
 ·have HNO:Hid (¬Q6 c f ⟨kind,node,field,value,fault⟩ nx):=Lh (fun h=>by have:=Xdh HYF.out h;omega)
  have d:decide (f.pc<1)=true:=by simpa using p1
  clear p1
  go_wp2_with fail
  go_ret
  exact Qz HNO.out HB3.out
 have q1:decide (f.pc<1)=false:=by simp;omega
 by_cases p2:(y.code.length:Int)<f.pc
 ·have HNO:Hid (¬Q6 c f ⟨kind,node,field,value,fault⟩ nx):=Lh (fun h=>by have:=Xdh HYF.out h;omega)
  have d:decide ((y.code.length:Int)<f.pc)=true:=by simpa using p2
  clear p2 p1
  go_wp2_with fail
  go_ret
  exact Qz HNO.out HB3.out
 have q2:decide ((y.code.length:Int)<f.pc)=false:=by simp;omega
 by_cases p3:(f.locals.length:Int)=y.locals
 rotate_left
 ·have HNO:Hid (¬Q6 c f ⟨kind,node,field,value,fault⟩ nx):=Lh (fun h=>p3 (Xdh HYF.out h).2.2.1)
  have d:((f.locals.length:Int) != y.locals)=true:=by simpa using p3
  clear p3 p2 p1
  go_wp2_with fail
  go_ret
  exact Qz HNO.out HB3.out
 have HP3:=Lh p3
 have q3:((f.locals.length:Int) != y.locals)=false:=by simp [p3]
 obtain ⟨p,hp⟩:∃ p:Nat,f.pc=(p:Int)+1:=⟨(f.pc - 1).toNat,by omega⟩
 have HPP:=Lh hp
 have hpl:p<y.code.length:=by omega
 clear p3 p2 p1
 go_wp2_with fail
 refine (Uk f.locals _ B _ HLV3.out).mono ?_
 rintro e w' ⟨rfl,rfl⟩
 cases hv1:Jg f.locals with
 | false=>
  have HNO:Hid (¬Q6 c f ⟨kind,node,field,value,fault⟩ nx):=Lh (fun h=>by
   have h2:=Vf.2 (Xdh HYF.out h).2.2.2.1
   unfold Jg at hv1
   rw [h2] at hv1;cases hv1)
  clear hv1 hp
  go_wp2_with fail
  go_ret
  exact Qz HNO.out HB3.out
 | true=>
 have HV1:Hid (∀ n∈f.locals,isV n):=Lh (Vf.1 hv1)
 clear hv1
 go_wp2_with fail
 refine (Uk f.stack _ B _ HSV3.out).mono ?_
 rintro e w' ⟨rfl,rfl⟩
 cases hv2:Jg f.stack with
 | false=>
  have HNO:Hid (¬Q6 c f ⟨kind,node,field,value,fault⟩ nx):=Lh (fun h=>by
   have h2:=Vf.2 (Xdh HYF.out h).2.2.2.2
   unfold Jg at hv2
   rw [h2] at hv2;cases hv2)
  clear hv2 hp
  go_wp2_with fail
  go_ret
  exact Qz HNO.out HB3.out
 | true=>
 have HV2:Hid (∀ n∈f.stack,isV n):=Lh (Vf.1 hv2)
 clear hv2
 have hfn0:Hid (0≤f.fn):=Lh (by have:=HK.out;omega)
 have hbase:Hid (Xaa c f y):=Lh ⟨hfn0.out,HYF.out,by omega,HP3.out,HV1.out,HV2.out⟩
 have hwf:=Lh (hs.wf HYF.out)
 obtain ⟨x,hx⟩:∃ x,y.code[p]?=some x:=⟨_,List.getElem?_eq_getElem hpl⟩
 have HX:=Lh hx
 have hFV:∀ V,Below B W3 V→J4 B V (.agg #[.string y.name,.int .i64 y.params,.int .i64 y.locals,.bool y.result,.slice (some ⟨ib,io,none⟩) y.code.length ycap]) y:=fun V hV=>⟨_,rfl,HYC3.out.inss hV,e5,e6,e7⟩
 have HFV:=Lh hFV
 clear hFV hx
 go_wp2_with fail
 refine (Xba c _ y _ B W3 hB3 HC3.out (HFV.out W3 (Below.refl _ _)) hwf.out).mono ?_
 rintro e w4 (⟨at_,er,rfl,hne,hns,-⟩|⟨hg,hcap,hts,rfl,hgl,hc1,hc2,hsf,hH,hrow,hb4⟩)
 ·exact absurd (hs.snd HYF.out) hns
 have hhl:hts.length=y.code.length:=hH.1
 obtain ⟨v,hv⟩:∃ v,hts[p]?=some v:=⟨_,List.getElem?_eq_getElem (by omega)⟩
 obtain ⟨hcur,hcur1,hcur2⟩:=hrow
 have hvc:w4.cell? ⟨hg,p,none⟩=some (.int .i64 v):=by rw [cell_of_row _ _ _ _ _ _ hcur1];exact Xiw hcur2 (by simp [hv])
 have hv3:=hH.2 p v hv
 have HV3:=Lh hv3
 have HB4:=Lh (HB3.out.then hb4)
 have hB4:B≤w4.heap.size:=Nat.le_trans hB3 hb4.size
 have HC4:=Lh (HC3.out.below (hb4.mono hB3))
 have HFV4:=Lh (HFV.out w4 (hb4.mono hB3))
 obtain ⟨htn,hhtn⟩:∃ q,q=hts.length:=⟨_,rfl⟩
 rw [←hhtn] at hc1 hhl ⊢
 have hpt:p<htn:=by omega
 have C4:=Lh (C3.out.keep hb4)
 have F4:=Lh (F3.out.keep hb4)
 have R4:=Lh (R3.out.keep hb4)
 have G4:=Lh (G3.out.keep hb4)
 have HYC4:=Lh (HYC3.out.inss (hb4.mono hB3))
 clear hv hv3 hcur1 hcur2 hH hsf hhtn hb4 i0 i1 i2 f0 f1 f2 f3 g0 g1 g2 g3 g4 r0 r1 r2 r3 r4 zi zf zg zr q1 q2 q3
 have f1:=F4.out 1 _ rfl
 rw [hp] at f1
 have g4:=G4.out 4 _ rfl
 have hxe:y.code[p]?=some x:=HX.out
 obtain ⟨ya2,ycap2,hye,-,-,-,hEc⟩:=HYC4.out
 obtain ⟨rfl,rfl⟩:some ⟨ib,io,none⟩=ya2∧ycap=ycap2:=by simpa using hye
 rcases hEc with h2|⟨ib2,io2,hie,hibB2,hEc⟩
 ·rw [h2] at hxe;simp at hxe
 obtain ⟨rfl,rfl⟩:ib=ib2∧io=io2:=by simpa using hie
 obtain ⟨x0,x1,hx64,hx64a⟩:=hEc p x hxe
 have zx:=Bl x0
 have zg:=Bl g4
 have zf:=Bl f1
 have hpn0:(0:Int)≤(p:Int):=Int.natCast_nonneg _
 have hpn1:(p:Int)<(y.code.length:Int):=by omega
 have hp100:(p:Int)≤100000:=by have:=hsm y (List.mem_of_getElem? HYF.out);omega
 clear hye hie hEc hxe hp
 go_upto_region 8 with fail
 obtain ⟨W5,hW5⟩:∃ V,V=w4.alloc (.cells #[.int .i64 x.op,.int .i64 x.a] 100):=⟨_,rfl⟩
 have hb5:Below w4.heap.size w4 W5:=by rw [hW5];exact Xa _ _
 have X5:Hid (Xo W5 w4.heap.size [.int .i64 x.op,.int .i64 x.a]):=by rw [hW5];exact Lh (@Xd w4 #[.int .i64 x.op,.int .i64 x.a] 100)
 obtain ⟨xb,hxb⟩:∃ q,q=w4.heap.size:=⟨_,rfl⟩
 rw [←hW5,← hxb]
 rw [←hxb] at X5
 have HXB:=Lh hxb
 have HW5:=Lh hW5
 have C5:=Lh (C4.out.keep hb5)
 have F5:=Lh (F4.out.keep hb5)
 have R5:=Lh (R4.out.keep hb5)
 have G5:=Lh (G4.out.keep hb5)
 have HB5:=Lh (HB4.out.then hb5)
 have hB5:B≤W5.heap.size:=Nat.le_trans hB4 hb5.size
 have HC5:=Lh (HC4.out.below (hb5.mono hB4))
 have hvc:=Xc hb5 hvc
 have HFV5:Hid (J4 B W5 (.agg #[.string y.name,.int .i64 y.params,.int .i64 y.locals,.bool y.result,.slice (some ⟨ib,io,none⟩) y.code.length ycap]) y):=Lh ⟨_,rfl,HYC4.out.inss (hb5.mono hB4),e5,e6,e7⟩
 have HXM:Hid (x∈y.code):=Lh (List.mem_of_getElem? HX.out)
 clear hW5 hxb hb5 f1 g4 x0 x1 zx zg zf
 have i0:=C5.out 0 _ rfl
 have i1:=C5.out 1 _ rfl
 have i2:=C5.out 2 _ rfl
 have g0:=G5.out 0 _ rfl
 have g1:=G5.out 1 _ rfl
 have g2:=G5.out 2 _ rfl
 have g3:=G5.out 3 _ rfl
 have g4:=G5.out 4 _ rfl
 have x0:=X5.out 0 _ rfl
 have x1:=X5.out 1 _ rfl
 go_wp2_with fail
 refine (Xdl c _ y _ x _ B W5 hB5 HC5.out HFV5.out ⟨rfl,hx64,hx64a⟩ hwf.out HXM.out).mono ?_
 rintro e w6 ⟨rfl,hb6⟩
 have HB6:=Lh (HB5.out.then hb6)
 have F6:=Lh (F5.out.keep hb6)
 have R6:=Lh (R5.out.keep hb6)
 have X6:=Lh (X5.out.keep hb6)
 have hvc:=Xc hb6 hvc
 clear hb6 i0 i1 i2 g0 g1 g2 g3 g4 x0 x1
 have hpops:=(hwf.out.pops x HXM.out)
 have hsl:(f.stack.length:Int)≤140737488355328:=by
  obtain ⟨_,_,he,hl,_⟩:=HSV.out
  omega
 have hvb:-1≤v∧v≤100000:=by
  rcases HV3.out with ⟨h,_⟩|⟨h,hr⟩
  ·omega
  ·have h3:=Qu hwf.out (hs.snd HYF.out) hr
   have h4:=hsm y (List.mem_of_getElem? HYF.out)
   omega
 have hiff:Hid (Q6 c f ⟨kind,node,field,value,fault⟩ nx↔¬v<0∧(f.stack.length:Int)=v - Xm c y x∧(if nx<0 then Xr x ⟨kind,node,field,value,fault⟩=true else x.op=9∧x.a=nx)):=Lh (Xpl hs hbase.out (by have:=HPP.out;omega) (by rw [show (f.pc - 1).toNat=p by have:=HPP.out;omega];exact HX.out) (by rw [show (f.pc - 1).toNat=p by have:=HPP.out;omega];exact HV3.out))
 obtain ⟨po,hpo⟩:∃ q,q=Xm c y x:=⟨_,rfl⟩
 rw [←hpo] at hpops hiff ⊢
 have HPO:=Lh hpo
 clear hpo
 have f1:=F6.out 1 _ rfl
 rw [HPP.out] at f1
 have f3:=F6.out 3 _ rfl
 have zf:=Bl f1
 have zh:=Bl hvc
 have hph:(p:Int)<(htn:Int):=by omega
 have hw1:IntKind.i64.wrap ((p:Int)+1 - 1)=(p:Int):=by rw [IntKind.wrap_i64];omega
 by_cases hv0:v<0
 ·have d:decide (v<0)=true:=by simpa using hv0
  have HNO:Hid (¬Q6 c f ⟨kind,node,field,value,fault⟩ nx):=Lh (fun h=>(hiff.out.1 h).1 hv0)
  clear hv0
  go_wp2_with fail
  go_quiet (fail)
  have HB6q:=Lh (Xh HB6.out nq)
  go_wp2_with fail
  go_ret
  exact Qz HNO.out HB6q.out
 have d:decide (v<0)=false:=by simp;omega
 have hw2:IntKind.i64.wrap (v - po)=v - po:=by rw [IntKind.wrap_i64];omega
 by_cases hst:(f.stack.length:Int)=v - po
 rotate_left
 ·have d2:((f.stack.length:Int) != v - po)=true:=by simpa using hst
  have HNO:Hid (¬Q6 c f ⟨kind,node,field,value,fault⟩ nx):=Lh (fun h=>hst (hiff.out.1 h).2.1)
  clear hst hv0
  go_wp2_with fail
  go_quiet (fail)
  have HB6q:=Lh (Xh HB6.out nq)
  go_wp2_with fail
  go_ret
  exact Qz HNO.out HB6q.out
 have d2:((f.stack.length:Int) != v - po)=false:=by simp [hst]
 have HST:=Lh hst
 have hiff2:Hid (Q6 c f ⟨kind,node,field,value,fault⟩ nx↔(if nx<0 then Xr x ⟨kind,node,field,value,fault⟩=true else x.op=9∧x.a=nx)):=Lh (by
  constructor
  ·intro h;exact (hiff.out.1 h).2.2
  ·intro h;exact hiff.out.2 ⟨hv0,HST.out,h⟩)
 clear hst hv0 hiff
 go_wp2_with fail
 go_quiet (fail)
 obtain ⟨V,hV⟩:∃ u,u=w6.drewN nq:=⟨_,rfl⟩
 have hbV:Below w6.heap.size w6 V:=by rw [hV];exact Xh (Below.refl _ _) nq
 rw [←hV]
 have HV:=Lh hV
 have HBV:=Lh (HB6.out.then hbV)
 have RV:=Lh (R6.out.keep hbV)
 have XV:=Lh (X6.out.keep hbV)
 clear hV hbV f1 f3 zf zh hvc hw1 hw2 d d2
 have x0:=XV.out 0 _ rfl
 have x1:=XV.out 1 _ rfl
 have zx:=Bl x0
 by_cases hnx:nx<0
 ·have dn:decide (nx<0)=true:=by simpa using hnx
  have hi3:Hid (Q6 c f ⟨kind,node,field,value,fault⟩ nx↔Xr x ⟨kind,node,field,value,fault⟩=true):=Lh (by have:=hiff2.out;rwa [if_pos hnx] at this)
  clear hnx
  go_wp2_with fail
  refine (J7 x.op _).mono ?_
  rintro e w' ⟨rfl,rfl⟩
  cases ha:Kx x.op with
  | false=>
   have HNO:Hid (¬Q6 c f ⟨kind,node,field,value,fault⟩ nx):=Lh (fun h=>by
    have h2:=Xp3 (hi3.out.1 h)
    unfold Kx at ha
    simp at ha;omega)
   clear ha
   go_wp2_with fail
   go_ret
   exact Qz HNO.out HBV.out
  | true=>
   have hr48:4≤x.op∧x.op≤8:=by unfold Kx at ha;simpa using ha
   have HR48:=Lh hr48
   clear ha hr48
   have r0:=RV.out 0 _ rfl
   have r1:=RV.out 1 _ rfl
   have r2:=RV.out 2 _ rfl
   have r3:=RV.out 3 _ rfl
   have r4:=RV.out 4 _ rfl
   have zr:=Bl r0
   go_wp2_with fail
   refine (Xli x.op x.a kind node field value fault HR48.out _).mono ?_
   rintro e w7 ⟨rfl,hb7⟩
   have HB7:=Lh (HBV.out.then hb7)
   clear hb7
   go_wp2_with fail
   go_ret
   exact Xhf hi3.out HB7.out
 ·have dn:decide (nx<0)=false:=by simp;omega
  have hi3:Hid (Q6 c f ⟨kind,node,field,value,fault⟩ nx↔(x.op=9∧x.a=nx)):=Lh (by have:=hiff2.out;rwa [if_neg hnx] at this)
  clear hnx
  by_cases h9:x.op=9
  ·have d9:(x.op == 9)=true:=by simpa using h9
   have hi4:Hid (Q6 c f ⟨kind,node,field,value,fault⟩ nx↔(x.a == nx)=true):=Lh (by rw [hi3.out];simp [h9])
   clear h9
   go_wp2_with fail
   go_ret
   exact Xhf hi4.out HBV.out
  ·have d9:(x.op == 9)=false:=by simpa using h9
   have HNO:Hid (¬Q6 c f ⟨kind,node,field,value,fault⟩ nx):=Lh (fun h=>h9 (hi3.out.1 h).1)
   clear h9
   go_wp2_with fail
   go_ret
   exact Qz HNO.out HBV.out
theorem Xgu {c:Cod} {fr:List Fra} {r:Rq} {k:Nat} {f:Fra} (hk:k+1=fr.length):Yx c fr r k f↔Q6 c f r (-1):=by
 unfold Yx Q6
 rw [show (fun x:Ins=>if k+1=fr.length then Xr x r=true else x.op=9∧∃ g,fr[k+1]?=some g∧x.a=g.fn)=(fun x:Ins=>if (-1:Int)<0 then Xr x r=true else x.op=9∧x.a = -1) from funext fun x=>by rw [if_pos hk,if_pos (by omega)]]
theorem Xj8 {c:Cod} {fr:List Fra} {r:Rq} {k:Nat} {f g:Fra} (hg:fr[k+1]?=some g) (h0:0≤g.fn):Yx c fr r k f↔Q6 c f r g.fn:=by
 have hk:=(Ll hg)
 unfold Yx Q6
 rw [show (fun x:Ins=>if k+1=fr.length then Xr x r=true else x.op=9∧∃ g',fr[k+1]?=some g'∧x.a=g'.fn)=(fun x:Ins=>if g.fn<0 then Xr x r=true else x.op=9∧x.a=g.fn) from funext fun x=>by rw [if_neg (by omega),if_neg (by omega),hg];simp]
theorem Xjf {c:Cod} (hs:Xv c) {fr:List Fra} {r:Rq} {k:Nat} {f g:Fra} (hg:fr[k+1]?=some g) (h0:g.fn<0):¬Yx c fr r k f:=by
 rintro ⟨y,x,hh,hb,h1,hx,hP,hr,hl⟩
 have hk:=(Ll hg)
 rw [if_neg (by omega)] at hP
 obtain ⟨h9,g',hg',ha⟩:=hP
 rw [hg] at hg'
 cases hg'
 have:=hs.lim hb.fn hx (n:=c.funcs.length) (by rw [h9];rfl)
 omega
def Xob (c:Cod) (m:Mch) (w:World) (e:Ending) (w':World):Prop:=e=.returned (.bool (pB (Yf c m)))∧Below w.heap.size w w'
theorem Zz {c:Cod} {m:Mch} {w w':World} (h:¬Yf c m) (hb:Below w.heap.size w w'):Xob c m w (.returned (.bool false)) w':=⟨by rw [K8 h],hb⟩
theorem V6 {c:Cod} {m:Mch} {w w':World} {b:Bool} (h:Yf c m↔b=true) (hb:Below w.heap.size w w'):Xob c m w (.returned (.bool b)) w':=by
 cases b with
 | true=>exact ⟨by rw [Kh (h.2 rfl)],hb⟩
 | false=>exact ⟨by rw [K8 (fun hp=>by have:=h.1 hp;cases this)],hb⟩
theorem Kg {c:Cod} {m:Mch} (h:Yf c m):0≤m.fuel∧m.fuel≤1048576∧0≤m.compares∧m.compares≤1099511627776∧0≤m.idle∧m.idle≤100000:=⟨h.fuel.1,h.fuel.2,h.cmp.1,h.cmp.2,h.idle.1,h.idle.2⟩
/-- a machine that has ended -/
theorem Xk7 {c:Cod} (hs:Xv c) {m:Mch} (hn:0≤m.fuel∧m.fuel≤1048576∧0≤m.compares∧m.compares≤1099511627776∧0≤m.idle∧m.idle≤100000) (hk:m.req.kind=4∨m.req.kind=5):Yf c m↔m.frames=[]∧Qx m.req=true:=by
 constructor
 ·intro h
  rcases h.body with h|⟨hne,hall⟩
  ·exact h
  ·obtain ⟨fs,f,hf⟩:∃ fs f,m.frames=fs++[f]:=by
    rcases List.eq_nil_or_concat m.frames with e|⟨l,a,e⟩
    ·exact absurd e hne
    ·exact ⟨l,a,by rw [e];simp⟩
   have h1:=hall fs.length f (by rw [hf];simp)
   obtain ⟨y,x,hh,hb,h1,hx,hP,hr,hl⟩:=h1
   rw [if_pos (by rw [hf];simp)] at hP
   have h2:=Xa9 hP
   unfold Xr Xy at hP
   exfalso
   rcases h2 with h2|h2|h2|h2|h2<;>rw [h2] at hP<;>simp at hP<;>omega
 ·rintro ⟨h1,h2⟩
  exact ⟨hs,⟨hn.1,hn.2.1⟩,⟨hn.2.2.1,hn.2.2.2.1⟩,⟨hn.2.2.2.2.1,hn.2.2.2.2.2⟩,by rw [h1];simp,.inl ⟨h1,h2⟩⟩
/-- a machine that has not ended -/
theorem Xlo {c:Cod} (hs:Xv c) {m:Mch} (hn:0≤m.fuel∧m.fuel≤1048576∧0≤m.compares∧m.compares≤1099511627776∧0≤m.idle∧m.idle≤100000) (hk:¬m.req.kind=4) (hk5:¬m.req.kind=5):Yf c m↔(1≤m.frames.length∧m.frames.length≤200)∧∀ k f,m.frames[k]?=some f→Yx c m.frames m.req k f:=by
 constructor
 ·intro h
  rcases h.body with ⟨_,h⟩|⟨hne,hall⟩
  ·unfold Qx at h
   rw [if_neg hk,if_neg hk5] at h;cases h
  ·have:=List.length_pos_iff.2 hne
   exact ⟨⟨by omega,h.len⟩,hall⟩
 ·rintro ⟨h1,h2⟩
  exact ⟨hs,⟨hn.1,hn.2.1⟩,⟨hn.2.2.1,hn.2.2.2.1⟩,⟨hn.2.2.2.2.1,hn.2.2.2.2.2⟩,h1.2,.inr ⟨fun e=>by rw [e] at h1;simp at h1,h2⟩⟩
theorem Xjl {c:Cod} (hs:Xv c) (hsm:Zb c) (cv:Value) (m:Mch) (fv:Value) (B:Nat) (w:World) (hB:B≤w.heap.size) (hc:Yj B w cv c) (hm:Xf B w 4 (Qp B) fv m.frames) :
  Calls Tryz.prog 16 #[cv,Xi fv m] w (Xob c m w):=by
 obtain ⟨cf,cg,rfl,hcf,hcg,hg64⟩:=id hc
 obtain ⟨fa,fc,rfl⟩:=hcf.form
 obtain ⟨ga,gc,rfl⟩:=hcg.form
 obtain ⟨ma,mc,rfl,hm47⟩:=hm.frm
 obtain ⟨fs,⟨kind,node,field,value,fault⟩,fuel,compares,idle⟩:=m
 dsimp only at hm hm47 ⊢
 obtain ⟨n,hn⟩:∃ q,q=fs.length:=⟨_,rfl⟩
 rw [←hn] at hm47 ⊢
 have HN:=Lh hn
 have HM:=Lh hm
 obtain ⟨W,hW⟩:∃ W,W=(w.alloc (.cells #[.slice fa c.fields.length fc,.int .i64 c.globals,.slice ga c.funcs.length gc] 25)).alloc (.cells #[.slice ma n mc,.int .i64 kind,.int .i64 node,.int .i64 field,.int .i64 value,.int .i64 fault,.int .i64 fuel,.int .i64 compares,.int .i64 idle] 36):=⟨_,rfl⟩
 have hWb:Hid (Below w.heap.size w W):=by rw [hW];exact Lh ((Xa _ _).then (Xa _ _))
 have b0:Hid (Xo W w.heap.size [.slice fa c.fields.length fc,.int .i64 c.globals,.slice ga c.funcs.length gc]):=by rw [hW];exact Lh (Xd.alloc _)
 have b1:Hid (Xo W (w.heap.size+1) [.slice ma n mc,.int .i64 kind,.int .i64 node,.int .i64 field,.int .i64 value,.int .i64 fault,.int .i64 fuel,.int .i64 compares,.int .i64 idle]):=by
  rw [hW]
  have:=@Xd (w.alloc (.cells #[.slice fa c.fields.length fc,.int .i64 c.globals,.slice ga c.funcs.length gc] 25)) #[.slice ma n mc,.int .i64 kind,.int .i64 node,.int .i64 field,.int .i64 value,.int .i64 fault,.int .i64 fuel,.int .i64 compares,.int .i64 idle] 36
  exact Lh (by simpa using this)
 have HC:=Lh (hc.below (hWb.out.mono hB))
 have k0:=b1.out 0 _ rfl
 have k1:=b1.out 1 _ rfl
 have k2:=b1.out 2 _ rfl
 have k3:=b1.out 3 _ rfl
 have k4:=b1.out 4 _ rfl
 have k5:=b1.out 5 _ rfl
 have k6:=b1.out 6 _ rfl
 have k7:=b1.out 7 _ rfl
 have k8:=b1.out 8 _ rfl
 have zk:=Bl k0
 have hWB:B≤W.heap.size:=Nat.le_trans hB hWb.out.size
 obtain ⟨M,hMM⟩:∃ q:Mch,q=⟨fs,⟨kind,node,field,value,fault⟩,fuel,compares,idle⟩:=⟨_,rfl⟩
 unfold Xi Xb
 try dsimp only
 rw [←hMM]
 have HMM:=Lh hMM
 clear hc hm hn hcf hcg hMM
 go_enter Tryz.func16,Tryz.ntmps16
 go_upto_region 1 with fail
 rw [←hW]
 have HW:=Lh hW
 clear hW
 by_cases t0:fuel<0
 ·have d:decide (fuel<0)=true:=by simpa using t0
  have HNO:Hid (¬Yf c M):=Lh (fun h=>by have:=Kg h;rw [HMM.out] at this;(try dsimp only at this);omega)
  clear t0
  go_wp2_with fail
  go_ret
  exact Zz HNO.out hWb.out
 by_cases t1:1048576<fuel
 ·have d:decide (1048576<fuel)=true:=by simpa using t1
  have HNO:Hid (¬Yf c M):=Lh (fun h=>by have:=Kg h;rw [HMM.out] at this;(try dsimp only at this);omega)
  have d0:decide (fuel<0)=false:=by simp;omega
  clear t0 t1
  go_wp2_with fail
  go_ret
  exact Zz HNO.out hWb.out
 have d0:decide (fuel<0)=false:=by simp;omega
 have d1:decide (1048576<fuel)=false:=by simp;omega
 by_cases t2:compares<0
 ·have d:decide (compares<0)=true:=by simpa using t2
  have HNO:Hid (¬Yf c M):=Lh (fun h=>by have:=Kg h;rw [HMM.out] at this;(try dsimp only at this);omega)
  clear t0 t1 t2
  go_wp2_with fail
  go_ret
  exact Zz HNO.out hWb.out
 by_cases t3:1099511627776<compares
 ·have d:decide (1099511627776<compares)=true:=by simpa using t3
  have HNO:Hid (¬Yf c M):=Lh (fun h=>by have:=Kg h;rw [HMM.out] at this;(try dsimp only at this);omega)
  have d2:decide (compares<0)=false:=by simp;omega
  clear t0 t1 t2 t3
  go_wp2_with fail
  go_ret
  exact Zz HNO.out hWb.out
 have d2:decide (compares<0)=false:=by simp;omega
 have d3:decide (1099511627776<compares)=false:=by simp;omega
 by_cases t4:idle<0
 ·have d:decide (idle<0)=true:=by simpa using t4
  have HNO:Hid (¬Yf c M):=Lh (fun h=>by have:=Kg h;rw [HMM.out] at this;(try dsimp only at this);omega)
  clear t0 t1 t2 t3 t4
  go_wp2_with fail
  go_ret
  exact Zz HNO.out hWb.out
 by_cases t5:100000<idle
 ·have d:decide (100000<idle)=true:=by simpa using t5
  have HNO:Hid (¬Yf c M):=Lh (fun h=>by have:=Kg h;rw [HMM.out] at this;(try dsimp only at this);omega)
  have d4:decide (idle<0)=false:=by simp;omega
  clear t0 t1 t2 t3 t4 t5
  go_wp2_with fail
  go_ret
  exact Zz HNO.out hWb.out
 have d4:decide (idle<0)=false:=by simp;omega
 have d5:decide (100000<idle)=false:=by simp;omega
 have HNUM:Hid (0≤M.fuel∧M.fuel≤1048576∧0≤M.compares∧M.compares≤1099511627776∧0≤M.idle∧M.idle≤100000):=Lh (by rw [HMM.out];dsimp only;omega)
 clear t0 t1 t2 t3 t4 t5
 go_upto_region 4 with fail
 obtain ⟨W3,hW3⟩:∃ V,V=W.alloc (.cells #[.int .i64 kind,.int .i64 node,.int .i64 field,.int .i64 value,.int .i64 fault] 34):=⟨_,rfl⟩
 have hb3:Below W.heap.size W W3:=by rw [hW3];exact Xa _ _
 have R3:Hid (Xo W3 W.heap.size [.int .i64 kind,.int .i64 node,.int .i64 field,.int .i64 value,.int .i64 fault]):=by rw [hW3];exact Lh Xd
 obtain ⟨rb,hrb⟩:∃ q,q=W.heap.size:=⟨_,rfl⟩
 rw [←hW3,← hrb]
 rw [←hrb] at R3
 have HRB:=Lh hrb
 have HW3:=Lh hW3
 have HB3:=Lh (hWb.out.then hb3)
 have C3:=Lh (b0.out.keep hb3)
 have M3:=Lh (b1.out.keep hb3)
 have HC3:=Lh (HC.out.below (hb3.mono hWB))
 have hB3:B≤W3.heap.size:=Nat.le_trans hB HB3.out.size
 clear hW3 hrb hb3 k0 k1 k2 k3 k4 k5 k6 k7 k8 zk d0 d1 d2 d3 d4 d5
 have r0:=R3.out 0 _ rfl
 have r1:=R3.out 1 _ rfl
 have r2:=R3.out 2 _ rfl
 have r3:=R3.out 3 _ rfl
 have r4:=R3.out 4 _ rfl
 have zr:=Bl r0
 have m0:=M3.out 0 _ rfl
 have zm:=Bl m0
 by_cases hk:kind=4∨kind=5
 ·have hend:Hid (Yf c M↔fs=[]∧Qx ⟨kind,node,field,value,fault⟩=true):=Lh (by have:=Xk7 (c:=c) (m:=M) hs HNUM.out (by rw [HMM.out];exact hk);rw [this,HMM.out])
  have hendf:∀ x:Bool,(fs=[]∧Qx ⟨kind,node,field,value,fault⟩=true↔x=true)→(Yf c M↔x=true):=fun x h=>hend.out.trans h
  have HENDF:=Lh hendf
  clear hendf
  have e45:(kind == 4)=true∨((kind == 4)=false∧(kind == 5)=true):=by
   rcases hk with rfl|rfl
   ·exact .inl rfl
   ·exact .inr ⟨rfl,rfl⟩
  by_cases hn0:n=0
  rotate_left
  ·have HNO:Hid (¬Yf c M):=Lh (fun h=>hn0 (by rw [HN.out,(hend.out.1 h).1];rfl))
   have d:((n:Int) != 0)=true:=by simp;omega
   clear hn0
   rcases hk with rfl|rfl
   all_goals
    clear e45
    go_wp2_with fail
    go_ret
    exact Zz HNO.out HB3.out
  by_cases hno:node=0
  rotate_left
  ·have HNO:Hid (¬Yf c M):=Lh (fun h=>by
    have h2:=(hend.out.1 h).2
    unfold Qx at h2
    dsimp only at h2
    rcases hk with rfl|rfl<;>simp at h2<;>omega)
   have d:((n:Int) != 0)=false:=by simp;omega
   have d2:(node != 0)=true:=by simpa using hno
   clear hn0 hno
   rcases hk with rfl|rfl
   all_goals
    clear e45
    go_wp2_with fail
    go_ret
    exact Zz HNO.out HB3.out
  by_cases hfi:field=0
  rotate_left
  ·have HNO:Hid (¬Yf c M):=Lh (fun h=>by
    have h2:=(hend.out.1 h).2
    unfold Qx at h2
    dsimp only at h2
    rcases hk with rfl|rfl<;>simp at h2<;>omega)
   have d:((n:Int) != 0)=false:=by simp;omega
   have d2:(node != 0)=false:=by simp [hno]
   have d3:(field != 0)=true:=by simpa using hfi
   clear hn0 hno hfi
   rcases hk with rfl|rfl
   all_goals
    clear e45
    go_wp2_with fail
    go_ret
    exact Zz HNO.out HB3.out
  have d:((n:Int) != 0)=false:=by simp;omega
  have d2:(node != 0)=false:=by simp [hno]
  have d3:(field != 0)=false:=by simp [hfi]
  have hfs:fs=[]:=List.eq_nil_of_length_eq_zero (by rw [←HN.out];exact hn0)
  rcases hk with rfl|rfl
  ·have HQ:Hid (∀ x:Bool,(X1 value && (fault == 0))=x→(Yf c M↔x=true)):=Lh (fun x hx=>HENDF.out x (by
    unfold Qx
    dsimp only
    rw [if_pos rfl,hno,hfi,← hx]
    simp [hfs]))
   clear e45 hn0 hno hfi hfs
   go_wp2_with fail
   refine (Ys value _).mono ?_
   rintro e w' ⟨rfl,rfl⟩
   cases hv:X1 value with
   | false=>
    have HQ2:=Lh (HQ.out false (by rw [hv];rfl))
    clear hv
    go_wp2_with fail
    go_ret
    exact V6 HQ2.out HB3.out
   | true=>
    have HQ2:=Lh (HQ.out (fault == 0) (by rw [hv];rfl))
    clear hv
    go_wp2_with fail
    go_ret
    exact V6 HQ2.out HB3.out
  ·have HQ:Hid (∀ x:Bool,((value == 0) && Ud fault)=x→(Yf c M↔x=true)):=Lh (fun x hx=>HENDF.out x (by
    unfold Qx
    dsimp only
    rw [if_neg (by omega),if_pos rfl,hno,hfi,← hx]
    simp [hfs,and_comm]))
   clear e45 hn0 hno hfi hfs
   by_cases hv:value=0
   ·have HQ2:=Lh (HQ.out (Ud fault) (by rw [hv];rfl))
    have d4:(value == 0)=true:=by simpa using hv
    clear hv
    go_wp2_with fail
    refine (Xi9 fault _).mono ?_
    rintro e w' ⟨rfl,rfl⟩
    go_wp2_with fail
    go_ret
    exact V6 HQ2.out HB3.out
   ·have d4:(value == 0)=false:=by simpa using hv
    have HQ2:=Lh (HQ.out false (by rw [d4];rfl))
    clear hv
    go_wp2_with fail
    go_ret
    exact V6 HQ2.out HB3.out
 ·have hk4:¬kind=4:=fun e=>hk (.inl e)
  have hk5:¬kind=5:=fun e=>hk (.inr e)
  have e4:(kind == 4)=false:=by simpa using hk4
  have e5:(kind == 5)=false:=by simpa using hk5
  have hrun:Hid (Yf c M↔(1≤fs.length∧fs.length≤200)∧∀ k f,fs[k]?=some f→Yx c fs ⟨kind,node,field,value,fault⟩ k f):=Lh (by have:=Xlo (c:=c) (m:=M) hs HNUM.out (by rw [HMM.out];exact hk4) (by rw [HMM.out];exact hk5);rw [this,HMM.out])
  clear hk hk4 hk5
  by_cases hn1:n<1
  ·have HNO:Hid (¬Yf c M):=Lh (fun h=>by have:=(hrun.out.1 h).1;have:=HN.out;omega)
   have d:decide ((n:Int)<1)=true:=by simp;omega
   clear hn1
   go_wp2_with fail
   go_ret
   exact Zz HNO.out HB3.out
  by_cases hn2:200<n
  ·have HNO:Hid (¬Yf c M):=Lh (fun h=>by have:=(hrun.out.1 h).1;have:=HN.out;omega)
   have d:decide ((n:Int)<1)=false:=by simp;omega
   have d2:decide (200<(n:Int))=true:=by simp;omega
   clear hn1 hn2
   go_wp2_with fail
   go_ret
   exact Zz HNO.out HB3.out
  have d:decide ((n:Int)<1)=false:=by simp;omega
  have d2:decide (200<(n:Int))=false:=by simp;omega
  go_wp2_with fail
  clear d d2 r0 r1 r2 r3 r4 m0 zr zm e4 e5
  go_loopw [7] (fun i wr=>∃ k:Nat,k≤n∧i=.int .i64 k∧Hid ((∀ j,j<k→∀ f,fs[j]?=some f→Yx c fs ⟨kind,node,field,value,fault⟩ j f)∧Below W3.heap.size W3 wr)) (fun i _=>n - (intOf i).toNat)
  case atStart=>exact ⟨0,Nat.zero_le _,rfl,Lh ⟨fun j hj=>by omega,Below.refl _ _⟩⟩
  case round=>
   obtain ⟨k,hk,rfl,hst⟩:=hrel
   have HALL:=Lh hst.out.1
   have HBR:=Lh hst.out.2
   clear hst
   by_cases hkn:k<n
   rotate_left
   ·obtain rfl:k=n:=by omega
    have hyes:Hid (Yf c M):=Lh (hrun.out.2 ⟨by have:=HN.out;omega,fun j f hj=>HALL.out j (by have:=(Ll hj);have:=HN.out;omega) f hj⟩)
    have HB9:=Lh (HB3.out.then HBR.out)
    go_wp2_with fail
    go_ret
    exact V6 (b:=true) ⟨fun _=>rfl,fun _=>hyes.out⟩ HB9.out
   obtain ⟨f,hf⟩:∃ f,fs[k]?=some f:=⟨_,List.getElem?_eq_getElem (by have:=HN.out;omega)⟩
   have HFK:=Lh hf
   have hBw:Below B w wr:=(HB3.out.then HBR.out).mono hB
   have hBwr:B≤wr.drew.heap.size:=Nat.le_trans hB hBw.size
   obtain ⟨sb,so,rfl,hsb,e1,e2,⟨lv,e3,hlv⟩,⟨sv,e4,hsv⟩,h64⟩:=(HM.out.fras hBw).elem hf
   obtain ⟨la,lc,rfl,-⟩:=hlv.frm
   obtain ⟨sa,sc,rfl,-⟩:=hsv.frm
   have HLd:Hid (Xf B wr.drew 1 Zd (.slice la f.locals.length lc) f.locals):=Lh (hlv.ints (Xh (Below.refl _ _) 1))
   have HSd:Hid (Xf B wr.drew 1 Zd (.slice sa f.stack.length sc) f.stack):=Lh (hsv.ints (Xh (Below.refl _ _) 1))
   have HCd:Hid (Yj B wr.drew (.agg #[.slice fa c.fields.length fc,.int .i64 c.globals,.slice ga c.funcs.length gc]) c):=Lh (HC3.out.below ((HBR.out.mono hB3).trans (Xh (Below.refl _ _) 1)))
   have zs:=Bl e1
   have c0:=C3.out.keep HBR.out 0 _ rfl
   have c1:=C3.out.keep HBR.out 1 _ rfl
   have c2:=C3.out.keep HBR.out 2 _ rfl
   have m0:=M3.out.keep HBR.out 0 _ rfl
   have r0:=R3.out.keep HBR.out 0 _ rfl
   have r1:=R3.out.keep HBR.out 1 _ rfl
   have r2:=R3.out.keep HBR.out 2 _ rfl
   have r3:=R3.out.keep HBR.out 3 _ rfl
   have r4:=R3.out.keep HBR.out 4 _ rfl
   have zc:=Bl c0
   have zm:=Bl m0
   have zr:=Bl r0
   have hk0:(0:Int)≤(k:Int):=Int.natCast_nonneg _
   have hk1:(k:Int)<(n:Int):=by omega
   by_cases hkl:k+1<n
   ·obtain ⟨g,hg⟩:∃ g,fs[k+1]?=some g:=⟨_,List.getElem?_eq_getElem (by have:=HN.out;omega)⟩
    obtain ⟨sb2,so2,hse,-,u1,-⟩:=(HM.out.fras hBw).elem hg
    obtain ⟨rfl,rfl⟩:sb=sb2∧so=so2:=by simpa using hse
    have dk:decide ((k:Int)<(n:Int) - 1)=true:=by simp;omega
    have hk2:(k:Int)+1<(n:Int):=by omega
    have HG:=Lh hg
    clear hf hg hlv hsv hse
    by_cases hg0:g.fn<0
    ·have HNO:Hid (¬Yf c M):=Lh (fun h=>Xjf hs HG.out hg0 ((hrun.out.1 h).2 k f HFK.out))
     have dg:decide (g.fn<0)=true:=by simpa using hg0
     have HB9:=Lh (HB3.out.then HBR.out)
     clear hg0
     go_wp2_with fail
     go_ret
     exact Zz HNO.out HB9.out
    have dg:decide (g.fn<0)=false:=by simp;omega
    have HEQ:Hid (Yx c fs ⟨kind,node,field,value,fault⟩ k f↔Q6 c f ⟨kind,node,field,value,fault⟩ g.fn):=Lh (Xj8 HG.out (by omega))
    clear hg0
    by_cases hF:Q6 c f ⟨kind,node,field,value,fault⟩ (g.fn)
    ·have hF2:pB (Q6 c f ⟨kind,node,field,value,fault⟩ (g.fn))=true:=Kh hF
     have HFV:Hid (Yx c fs ⟨kind,node,field,value,fault⟩ k f):=Lh (HEQ.out.2 hF)
     clear hF
     go_upto_region 21 with fail
     go_region_held3 (fun V=>V.cell? ⟨w.heap.size,0,none⟩=some (.slice fa c.fields.length fc)∧V.cell? ⟨w.heap.size,1,none⟩=some (.int .i64 c.globals)∧V.cell? ⟨w.heap.size,2,none⟩=some (.slice ga c.funcs.length gc)∧V.cell? ⟨w.heap.size+1,0,none⟩=some (.slice (some ⟨sb,so,none⟩) n mc)∧V.cell? ⟨sb,so+k*4,none⟩=some (.int .i64 f.fn)∧V.cell? ⟨sb,so+k*4+1,none⟩=some (.int .i64 f.pc)∧V.cell? ⟨sb,so+k*4+2,none⟩=some (.slice la f.locals.length lc)∧V.cell? ⟨sb,so+k*4+3,none⟩=some (.slice sa f.stack.length sc)∧V.cell? ⟨rb,0,none⟩=some (.int .i64 kind)∧V.cell? ⟨rb,1,none⟩=some (.int .i64 node)∧V.cell? ⟨rb,2,none⟩=some (.int .i64 field)∧V.cell? ⟨rb,3,none⟩=some (.int .i64 value)∧V.cell? ⟨rb,4,none⟩=some (.int .i64 fault))
      (first|with_reducible exact ⟨yc0,yc1,yc2,ym0,ye1,ye2,ye3,ye4,yr0,yr1,yr2,yr3,yr4⟩|exact ⟨c0,c1,c2,m0,e1,e2,e3,e4,r0,r1,r2,r3,r4⟩)
      (first|(go_at_call 44;refine (Xaj hs hsm f (g.fn) kind node field value fault la sa lc sc fa ga fc gc B wr.drew hBwr HCd.out HLd.out HSd.out h64.2).mono ?_;rintro e w5 ⟨rfl,hb5⟩;rw [hF2];have yc0:=Xc hb5 (show wr.drew.cell? _=_ from c0);have yc1:=Xc hb5 (show wr.drew.cell? _=_ from c1);have yc2:=Xc hb5 (show wr.drew.cell? _=_ from c2);have ym0:=Xc hb5 (show wr.drew.cell? _=_ from m0);have ye1:=Xc hb5 (show wr.drew.cell? _=_ from e1);have ye2:=Xc hb5 (show wr.drew.cell? _=_ from e2);have ye3:=Xc hb5 (show wr.drew.cell? _=_ from e3);have ye4:=Xc hb5 (show wr.drew.cell? _=_ from e4);have yr0:=Xc hb5 (show wr.drew.cell? _=_ from r0);have yr1:=Xc hb5 (show wr.drew.cell? _=_ from r1);have yr2:=Xc hb5 (show wr.drew.cell? _=_ from r2);have yr3:=Xc hb5 (show wr.drew.cell? _=_ from r3);have yr4:=Xc hb5 (show wr.drew.cell? _=_ from r4);have HB5:=Lh (HBR.out.then ((show Below wr.heap.size wr wr.drew from Xh (Below.refl _ _) 1).then hb5));clear hb5))
     have hrel':Hid ((∀ j,j<k+1→∀ f,fs[j]?=some f→Yx c fs ⟨kind,node,field,value,fault⟩ j f)∧Below W3.heap.size W3 w5):=Lh ⟨fun j hj g' hg'=>by
      by_cases hjk:j<k
      ·exact HALL.out j hjk g' hg'
      ·obtain rfl:j=k:=by omega
       have:=HFK.out
       rw [hg'] at this
       cases this
       exact HFV.out,HB5.out⟩
     clear c0 c1 c2 m0 e1 e2 e3 e4 r0 r1 r2 r3 r4 yc0 yc1 yc2 ym0 ye1 ye2 ye3 ye4 yr0 yr1 yr2 yr3 yr4
     go_wp2_with fail
     go_roundw
     case rel=>exact ⟨k+1,by omega,by go_num,hrel'⟩
     case measure=>simp [intOf];omega
    ·have hF2:pB (Q6 c f ⟨kind,node,field,value,fault⟩ (g.fn))=false:=K8 hF
     have HNO:Hid (¬Yf c M):=Lh (fun h=>hF (HEQ.out.1 ((hrun.out.1 h).2 k f HFK.out)))
     clear hF
     go_upto_region 21 with fail
     go_region_held3 (fun V=>V.cell? ⟨w.heap.size,0,none⟩=some (.slice fa c.fields.length fc)∧V.cell? ⟨w.heap.size,1,none⟩=some (.int .i64 c.globals)∧V.cell? ⟨w.heap.size,2,none⟩=some (.slice ga c.funcs.length gc)∧V.cell? ⟨w.heap.size+1,0,none⟩=some (.slice (some ⟨sb,so,none⟩) n mc)∧V.cell? ⟨sb,so+k*4,none⟩=some (.int .i64 f.fn)∧V.cell? ⟨sb,so+k*4+1,none⟩=some (.int .i64 f.pc)∧V.cell? ⟨sb,so+k*4+2,none⟩=some (.slice la f.locals.length lc)∧V.cell? ⟨sb,so+k*4+3,none⟩=some (.slice sa f.stack.length sc)∧V.cell? ⟨rb,0,none⟩=some (.int .i64 kind)∧V.cell? ⟨rb,1,none⟩=some (.int .i64 node)∧V.cell? ⟨rb,2,none⟩=some (.int .i64 field)∧V.cell? ⟨rb,3,none⟩=some (.int .i64 value)∧V.cell? ⟨rb,4,none⟩=some (.int .i64 fault))
      (first|with_reducible exact ⟨yc0,yc1,yc2,ym0,ye1,ye2,ye3,ye4,yr0,yr1,yr2,yr3,yr4⟩|exact ⟨c0,c1,c2,m0,e1,e2,e3,e4,r0,r1,r2,r3,r4⟩)
      (first|(go_at_call 44;refine (Xaj hs hsm f (g.fn) kind node field value fault la sa lc sc fa ga fc gc B wr.drew hBwr HCd.out HLd.out HSd.out h64.2).mono ?_;rintro e w5 ⟨rfl,hb5⟩;rw [hF2];have yc0:=Xc hb5 (show wr.drew.cell? _=_ from c0);have yc1:=Xc hb5 (show wr.drew.cell? _=_ from c1);have yc2:=Xc hb5 (show wr.drew.cell? _=_ from c2);have ym0:=Xc hb5 (show wr.drew.cell? _=_ from m0);have ye1:=Xc hb5 (show wr.drew.cell? _=_ from e1);have ye2:=Xc hb5 (show wr.drew.cell? _=_ from e2);have ye3:=Xc hb5 (show wr.drew.cell? _=_ from e3);have ye4:=Xc hb5 (show wr.drew.cell? _=_ from e4);have yr0:=Xc hb5 (show wr.drew.cell? _=_ from r0);have yr1:=Xc hb5 (show wr.drew.cell? _=_ from r1);have yr2:=Xc hb5 (show wr.drew.cell? _=_ from r2);have yr3:=Xc hb5 (show wr.drew.cell? _=_ from r3);have yr4:=Xc hb5 (show wr.drew.cell? _=_ from r4);have HB5:=Lh (HBR.out.then ((show Below wr.heap.size wr wr.drew from Xh (Below.refl _ _) 1).then hb5));clear hb5))
     clear c0 c1 c2 m0 e1 e2 e3 e4 r0 r1 r2 r3 r4 yc0 yc1 yc2 ym0 ye1 ye2 ye3 ye4 yr0 yr1 yr2 yr3 yr4
     have HB9:=Lh (HB3.out.then HB5.out)
     go_wp2_with fail
     go_ret
     exact Zz HNO.out HB9.out
   ·have dk:decide ((k:Int)<(n:Int) - 1)=false:=by simp;omega
    have dg:decide ((-1:Int)<0)=true:=by decide
    have HEQ:Hid (Yx c fs ⟨kind,node,field,value,fault⟩ k f↔Q6 c f ⟨kind,node,field,value,fault⟩ (-1)):=Lh (Xgu (by have:=HN.out;omega))
    clear hf hlv hsv
    by_cases hF:Q6 c f ⟨kind,node,field,value,fault⟩ (-1)
    ·have hF2:pB (Q6 c f ⟨kind,node,field,value,fault⟩ (-1))=true:=Kh hF
     have HFV:Hid (Yx c fs ⟨kind,node,field,value,fault⟩ k f):=Lh (HEQ.out.2 hF)
     clear hF
     go_upto_region 21 with fail
     go_region_held3 (fun V=>V.cell? ⟨w.heap.size,0,none⟩=some (.slice fa c.fields.length fc)∧V.cell? ⟨w.heap.size,1,none⟩=some (.int .i64 c.globals)∧V.cell? ⟨w.heap.size,2,none⟩=some (.slice ga c.funcs.length gc)∧V.cell? ⟨w.heap.size+1,0,none⟩=some (.slice (some ⟨sb,so,none⟩) n mc)∧V.cell? ⟨sb,so+k*4,none⟩=some (.int .i64 f.fn)∧V.cell? ⟨sb,so+k*4+1,none⟩=some (.int .i64 f.pc)∧V.cell? ⟨sb,so+k*4+2,none⟩=some (.slice la f.locals.length lc)∧V.cell? ⟨sb,so+k*4+3,none⟩=some (.slice sa f.stack.length sc)∧V.cell? ⟨rb,0,none⟩=some (.int .i64 kind)∧V.cell? ⟨rb,1,none⟩=some (.int .i64 node)∧V.cell? ⟨rb,2,none⟩=some (.int .i64 field)∧V.cell? ⟨rb,3,none⟩=some (.int .i64 value)∧V.cell? ⟨rb,4,none⟩=some (.int .i64 fault))
      (first|with_reducible exact ⟨yc0,yc1,yc2,ym0,ye1,ye2,ye3,ye4,yr0,yr1,yr2,yr3,yr4⟩|exact ⟨c0,c1,c2,m0,e1,e2,e3,e4,r0,r1,r2,r3,r4⟩)
      (first|(go_at_call 44;refine (Xaj hs hsm f (-1) kind node field value fault la sa lc sc fa ga fc gc B wr.drew hBwr HCd.out HLd.out HSd.out h64.2).mono ?_;rintro e w5 ⟨rfl,hb5⟩;rw [hF2];have yc0:=Xc hb5 (show wr.drew.cell? _=_ from c0);have yc1:=Xc hb5 (show wr.drew.cell? _=_ from c1);have yc2:=Xc hb5 (show wr.drew.cell? _=_ from c2);have ym0:=Xc hb5 (show wr.drew.cell? _=_ from m0);have ye1:=Xc hb5 (show wr.drew.cell? _=_ from e1);have ye2:=Xc hb5 (show wr.drew.cell? _=_ from e2);have ye3:=Xc hb5 (show wr.drew.cell? _=_ from e3);have ye4:=Xc hb5 (show wr.drew.cell? _=_ from e4);have yr0:=Xc hb5 (show wr.drew.cell? _=_ from r0);have yr1:=Xc hb5 (show wr.drew.cell? _=_ from r1);have yr2:=Xc hb5 (show wr.drew.cell? _=_ from r2);have yr3:=Xc hb5 (show wr.drew.cell? _=_ from r3);have yr4:=Xc hb5 (show wr.drew.cell? _=_ from r4);have HB5:=Lh (HBR.out.then ((show Below wr.heap.size wr wr.drew from Xh (Below.refl _ _) 1).then hb5));clear hb5))
     have hrel':Hid ((∀ j,j<k+1→∀ f,fs[j]?=some f→Yx c fs ⟨kind,node,field,value,fault⟩ j f)∧Below W3.heap.size W3 w5):=Lh ⟨fun j hj g' hg'=>by
      by_cases hjk:j<k
      ·exact HALL.out j hjk g' hg'
      ·obtain rfl:j=k:=by omega
       have:=HFK.out
       rw [hg'] at this
       cases this
       exact HFV.out,HB5.out⟩
     clear c0 c1 c2 m0 e1 e2 e3 e4 r0 r1 r2 r3 r4 yc0 yc1 yc2 ym0 ye1 ye2 ye3 ye4 yr0 yr1 yr2 yr3 yr4
     go_wp2_with fail
     go_roundw
     case rel=>exact ⟨k+1,by omega,by go_num,hrel'⟩
     case measure=>simp [intOf];omega
    ·have hF2:pB (Q6 c f ⟨kind,node,field,value,fault⟩ (-1))=false:=K8 hF
     have HNO:Hid (¬Yf c M):=Lh (fun h=>hF (HEQ.out.1 ((hrun.out.1 h).2 k f HFK.out)))
     clear hF
     go_upto_region 21 with fail
     go_region_held3 (fun V=>V.cell? ⟨w.heap.size,0,none⟩=some (.slice fa c.fields.length fc)∧V.cell? ⟨w.heap.size,1,none⟩=some (.int .i64 c.globals)∧V.cell? ⟨w.heap.size,2,none⟩=some (.slice ga c.funcs.length gc)∧V.cell? ⟨w.heap.size+1,0,none⟩=some (.slice (some ⟨sb,so,none⟩) n mc)∧V.cell? ⟨sb,so+k*4,none⟩=some (.int .i64 f.fn)∧V.cell? ⟨sb,so+k*4+1,none⟩=some (.int .i64 f.pc)∧V.cell? ⟨sb,so+k*4+2,none⟩=some (.slice la f.locals.length lc)∧V.cell? ⟨sb,so+k*4+3,none⟩=some (.slice sa f.stack.length sc)∧V.cell? ⟨rb,0,none⟩=some (.int .i64 kind)∧V.cell? ⟨rb,1,none⟩=some (.int .i64 node)∧V.cell? ⟨rb,2,none⟩=some (.int .i64 field)∧V.cell? ⟨rb,3,none⟩=some (.int .i64 value)∧V.cell? ⟨rb,4,none⟩=some (.int .i64 fault))
      (first|with_reducible exact ⟨yc0,yc1,yc2,ym0,ye1,ye2,ye3,ye4,yr0,yr1,yr2,yr3,yr4⟩|exact ⟨c0,c1,c2,m0,e1,e2,e3,e4,r0,r1,r2,r3,r4⟩)
      (first|(go_at_call 44;refine (Xaj hs hsm f (-1) kind node field value fault la sa lc sc fa ga fc gc B wr.drew hBwr HCd.out HLd.out HSd.out h64.2).mono ?_;rintro e w5 ⟨rfl,hb5⟩;rw [hF2];have yc0:=Xc hb5 (show wr.drew.cell? _=_ from c0);have yc1:=Xc hb5 (show wr.drew.cell? _=_ from c1);have yc2:=Xc hb5 (show wr.drew.cell? _=_ from c2);have ym0:=Xc hb5 (show wr.drew.cell? _=_ from m0);have ye1:=Xc hb5 (show wr.drew.cell? _=_ from e1);have ye2:=Xc hb5 (show wr.drew.cell? _=_ from e2);have ye3:=Xc hb5 (show wr.drew.cell? _=_ from e3);have ye4:=Xc hb5 (show wr.drew.cell? _=_ from e4);have yr0:=Xc hb5 (show wr.drew.cell? _=_ from r0);have yr1:=Xc hb5 (show wr.drew.cell? _=_ from r1);have yr2:=Xc hb5 (show wr.drew.cell? _=_ from r2);have yr3:=Xc hb5 (show wr.drew.cell? _=_ from r3);have yr4:=Xc hb5 (show wr.drew.cell? _=_ from r4);have HB5:=Lh (HBR.out.then ((show Below wr.heap.size wr wr.drew from Xh (Below.refl _ _) 1).then hb5));clear hb5))
     clear c0 c1 c2 m0 e1 e2 e3 e4 r0 r1 r2 r3 r4 yc0 yc1 yc2 ym0 ye1 ye2 ye3 ye4 yr0 yr1 yr2 yr3 yr4
     have HB9:=Lh (HB3.out.then HB5.out)
     go_wp2_with fail
     go_ret
     exact Zz HNO.out HB9.out
end Go.Proofs.YtbmeoklmachjpaaGreatDoor
