import Derived.Test.YtiejafonjemioaaGreatDoorRe
import Derived.Test.YtiejafonjemioaaGreatDoorRg
import Derived.Test.YtiejafonjemioaaGreatDoorDoe
import Derived.Test.YtiejafonjemioaaGreatDoorNxt2
import Derived.Deep.RegionHeld3
set_option maxHeartbeats 4000000
set_option maxRecDepth 100000
set_option linter.unusedVariables false
set_option linter.unusedSimpArgs false
open Go.Value renaming slice→σ
open Go.Obj renaming cells→χ
namespace Go.Proofs.YtiejafonjemioaaGreatDoor
open Go.RowKit
variable {r:Rq} {c:Cod} {f g:Fra} {nx:Int} {y:Fun} {x:Ins} {w w':World} {b:Bool} {fr:List Fra} {k:Nat} {m:Mch}
theorem Xi9 (n:Int) (w:World):Calls Tryz.prog 131 #[ι n] w fun e w'=>e=.returned (.bool (Ud n))/\w=w':=by
 go_enter Tryz.func131,Tryz.ntmps131
 go_wp2
 all_goals (go_ret;exact ⟨Za (by rw [Bool.eq_iff_iff];unfold Ud;simp;try omega),rfl⟩)
theorem Xhy {op a:Int} (h:4<=op/\op<=8):Xr ⟨op,a⟩ r=(((r.fault == 0) && (r.field == a)) && (X4 op r.node && ((r.kind == Xy op) && (if op=5\/op=7 then X1 r.value else r.value == 0)))):=by
 have hk:(Xy op == 0)=false:=by
  unfold Xy
  rcases (show op=4\/op=5\/op=6\/op=7\/op=8 by omega) with rfl|rfl|rfl|rfl|rfl<;>rfl
 have h2:(Xy op == 2)=decide (op=5\/op=7):=by
  unfold Xy
  rcases (show op=4\/op=5\/op=6\/op=7\/op=8 by omega) with rfl|rfl|rfl|rfl|rfl<;>rfl
 have h3:(r.value == 0 || (Xy op == 2 && X1 r.value))=(if op=5\/op=7 then X1 r.value else r.value == 0):=by
  rw [h2]
  split
  ·rename_i h5
   rw [decide_eq_true h5,Bool.true_and]
   by_cases hv:r.value=0
   ·rw [hv];rfl
   ·have:(r.value == 0)=false:=by simpa using hv
    rw [this,Bool.false_or]
  ·rename_i h5
   rw [decide_eq_false h5,Bool.false_and,Bool.or_false]
 unfold Xr
 rw [hk,h3]
 cases (r.kind == Xy op)<;>cases (X4 op r.node)<;>cases (r.field == a)<;>cases (r.fault == 0)<;>simp
theorem Xli (op a kind node field value fault:Int) (h:4<=op/\op<=8) (w:World) :
  Calls Tryz.prog 166 #[.agg #[ι op,ι a],.agg #[ι kind,ι node,ι field,ι value,ι fault]] w fun e w'=>e=.returned (.bool (Xr ⟨op,a⟩ ⟨kind,node,field,value,fault⟩))/\Below w.heap.size w w':=by
 obtain ⟨R,hR⟩:∃ R,R=Xr ⟨op,a⟩ ⟨kind,node,field,value,fault⟩:=⟨_,rfl⟩
 rw [<-hR]
 rw [Xhy h] at hR
 have HR:=Lh hR
 clear hR
 by_cases hf:fault=0
 rotate_left
 ·have e1:(fault != 0)=true:=by simpa using hf
  have e2:(fault == 0)=false:=by simpa using hf
  have aA:Hid (R=false):=Lh (by rw [HR.o];simp only [e2,Bool.false_and])
  clear hf
  go_enter Tryz.func166,Tryz.ntmps166
  go_wp2_with fail
  all_goals (go_ret;exact ⟨by rw [aA.o];rfl,(Xa _ _).then (Xa _ _)⟩)
 by_cases ha:field=a
 rotate_left
 ·have e1:(fault != 0)=false:=by simp [hf]
  have e2:(field != a)=true:=by simpa using ha
  have e3:(field == a)=false:=by simpa using ha
  have aA:Hid (R=false):=Lh (by rw [HR.o];simp only [e3,Bool.and_false,Bool.false_and])
  clear hf ha
  go_enter Tryz.func166,Tryz.ntmps166
  go_wp2_with fail
  all_goals (go_ret;exact ⟨by rw [aA.o];rfl,(Xa _ _).then (Xa _ _)⟩)
 subst hf ha
 have aA:Hid (R=(X4 op node && ((kind == Xy op) && (if op=5\/op=7 then X1 value else value == 0)))):=Lh (by rw [HR.o];simp)
 clear HR
 rcases (show op=4\/op=5\/op=6\/op=7\/op=8 by omega) with rfl|rfl|rfl|rfl|rfl
 all_goals
  clear h
  go_enter Tryz.func166,Tryz.ntmps166
  go_wp2_with (go_at_call 125;refine (Ys value _).mono ?_;rintro e w' ⟨rfl,rfl⟩)
  all_goals (go_ret;exact ⟨by rw [aA.o];exact Za (by rw [Bool.eq_iff_iff];simp [X4,Xy];try (first|omega|exact ⟨fun h=>⟨ω,ω,h⟩,fun h=>h.2.2⟩)),(Xa _ _).then (Xa _ _)⟩)
def Q6 (c:Cod) (f:Fra) (r:Rq) (nx:Int):Prop:=Jb c f (fun x=>if nx<0 then Xr x r=true else x.op=9/\x.a=nx)
theorem Xoc (h:Q6 c f r nx):0<=f.fn/\f.fn<c.funcs.length:=by
 obtain ⟨y,x,hh,hb,_⟩:=h
 have:=(Ll hb.fn)
 have:=hb.fn0
 omega
theorem Xdh (hy:c.funcs[f.fn.toNat]?=some y) (h:Q6 c f r nx):1<=f.pc/\f.pc<=y.code.length/\(f.locals.length:Int)=y.locals/\(∀ n∈f.locals,isV n)/\∀ n∈f.stack,isV n:=by
 obtain ⟨y',x,hh,hb,h1,hx,_⟩:=h
 obtain rfl:y=y':=by have:=hb.fn;rw [hy] at this;cases this;rfl
 have:=(Ll hx)
 exact ⟨h1,ω,hb.loc,hb.lv,hb.sv⟩
theorem Vf {l:List Int}:(!(l.any fun n=>!X1 n))=true↔∀ n∈l,isV n:=by
 rw [Bool.not_eq_true',List.any_eq_false]
 constructor
 ·intro h n hn
  have:=h n hn
  simp at this
  exact Ye.1 this
 ·intro h n hn
  simp [Ye.2 (h n hn)]
theorem Xpl (hs:Xv c) {v:Int} (hb:Xaa c f y) (h1:1<=f.pc) (hx:y.code[(f.pc - 1).toNat]?=some x) (hv:(v = -1/\∀ n,¬Reach c y (f.pc - 1).toNat n)\/(0<=v/\Reach c y (f.pc - 1).toNat v)) :
  Q6 c f r nx↔¬v<0/\(f.stack.length:Int)=v - Xm c y x/\(if nx<0 then Xr x r=true else x.op=9/\x.a=nx):=by
 constructor
 ·rintro ⟨y',x',hh,aB,aD,aA,hP,hr,hl⟩
  obtain rfl:y'=y:=by have:=aB.fn;rw [hb.fn] at this;cases this;rfl
  obtain rfl:x'=x:=by rw [hx] at aA;cases aA;rfl
  rcases hv with ⟨_,hn⟩|⟨h0,aC⟩
  ·exact absurd hr (hn _)
  ·have:=(hs.snd hb.fn).2 _ _ _ hr aC
   subst this
   exact ⟨ω,hl,hP⟩
 ·rintro ⟨h2,hl,hP⟩
  rcases hv with ⟨h0,_⟩|⟨_,hr⟩
  ·omega
  ·exact ⟨y,x,v,hb,h1,hx,hP,hr,hl⟩
def Xn9 (c:Cod) (f:Fra) (r:Rq) (nx:Int) (w:World) (e:Ending) (w':World):Prop:=e=.returned (.bool (pB (Q6 c f r nx)))/\Below w.heap.size w w'
theorem Qz (h:¬Q6 c f r nx) (hb:Below w.heap.size w w'):Xn9 c f r nx w (.returned (.bool false)) w':=⟨by rw [K8 h],hb⟩
theorem Xhf (h:Q6 c f r nx↔b=true) (hb:Below w.heap.size w w'):Xn9 c f r nx w (.returned (.bool b)) w':=by
 cases b with
 | true=>exact ⟨by rw [Kh (h.2 rfl)],hb⟩
 | false=>exact ⟨by rw [K8 (fun hp=>by have:=h.1 hp;cases this)],hb⟩
theorem Xp3 (h:Xr x r=true):4<=x.op/\x.op<=8:=by have:=Xa9 h;omega
theorem Xaj (hs:Xv c) (hsm:Zb c) (f:Fra) (nx kind node field value fault:Int) (la sa:Option Addr) (lc sc:Nat) (fa ga:Option Addr) (fc gc:Nat) (B:Nat) (w:World) (hB:B<=w.heap.size) (hc:Yj B w (.agg (Bc fa fc ga gc c)) c)
  (hl:Xf B w 1 Zd (σ la f.locals.length lc) f.locals) (aH:Xf B w 1 Zd (σ sa f.stack.length sc) f.stack) (h64:in64 f.pc) :
  Calls Tryz.prog 132 #[.agg (Bc fa fc ga gc c),.agg #[ι f.fn,ι f.pc,σ la f.locals.length lc,σ sa f.stack.length sc],.agg #[ι kind,ι node,ι field,ι value,ι fault],ι nx] w (Xn9 c f ⟨kind,node,field,value,fault⟩ nx w):=by
 obtain ⟨W,hW⟩:∃ W,W=((w.alloc (χ (Bc fa fc ga gc c) 25)).alloc (χ #[ι f.fn,ι f.pc,σ la f.locals.length lc,σ sa f.stack.length sc] 129)).alloc (χ #[ι kind,ι node,ι field,ι value,ι fault] 49):=⟨_,rfl⟩
 have aO:Hid (Below w.heap.size w W):=by rw [hW];exact Lh (((Xa _ _).then (Xa _ _)).then (Xa _ _))
 have b0:Hid (Xo W w.heap.size [σ fa c.fields.length fc,ι c.globals,σ ga c.funcs.length gc]):=by rw [hW];exact Lh ((Xd.alloc _).alloc _)
 have b1:Hid (Xo W (w.heap.size+1) [ι f.fn,ι f.pc,σ la f.locals.length lc,σ sa f.stack.length sc]):=by
  rw [hW]
  have:=(@Xd (w.alloc (χ (Bc fa fc ga gc c) 25)) #[ι f.fn,ι f.pc,σ la f.locals.length lc,σ sa f.stack.length sc] 129).alloc (χ #[ι kind,ι node,ι field,ι value,ι fault] 49)
  exact Lh (by simpa using this)
 have b2:Hid (Xo W (w.heap.size+1+1) [ι kind,ι node,ι field,ι value,ι fault]):=by
  rw [hW]
  have:=@Xd ((w.alloc (χ (Bc fa fc ga gc c) 25)).alloc (χ #[ι f.fn,ι f.pc,σ la f.locals.length lc,σ sa f.stack.length sc] 129)) #[ι kind,ι node,ι field,ι value,ι fault] 49
  exact Lh (by simpa using this)
 have HC:=Lh (hc.below (aO.o.mono hB))
 have cZ:=Lh (hl.ints (aO.o.mono hB))
 have cG:=Lh (aH.ints (aO.o.mono hB))
 have bJ:B<=W.heap.size:=Nt hB aO.o.size
 have hg:Xf B W 5 (Zl B) (σ ga c.funcs.length gc) c.funcs:=by
  obtain ⟨fv0,eJ,cM,_,h2,_⟩:=HC.o
  simp only [Value.agg.injEq,Array.mk.injEq,List.cons.injEq,and_true] at cM
  obtain ⟨_,_,rfl⟩:=cM
  exact h2
 have i0:=b0.o 0 _ rfl
 have i2:=b0.o 2 _ rfl
 have f0:=b1.o 0 _ rfl
 have zi:=Bl i0
 have zf:=Bl f0
 clear hc hl aH
 by_cases h0:f.fn<0
 ·have aA:Hid (¬Q6 c f ⟨kind,node,field,value,fault⟩ nx):=Lh (fun h=>by have:=Xoc h;omega)
  have d0:decide (f.fn<0)=true:=by simpa using h0
  clear h0
  go_enter Tryz.func132,Tryz.ntmps132
  go_upto_region 1 with fail
  rw [<-hW]
  clear hW
  go_wp2
  go_ret
  exact Qz aA.o aO.o
 have d0:decide (f.fn<0)=false:=by simp;omega
 by_cases h1:(c.funcs.length:Int)<=f.fn
 ·have aA:Hid (¬Q6 c f ⟨kind,node,field,value,fault⟩ nx):=Lh (fun h=>by have:=Xoc h;omega)
  have d1:decide ((c.funcs.length:Int)<=f.fn)=true:=by simpa using h1
  clear h0 h1
  go_enter Tryz.func132,Tryz.ntmps132
  go_upto_region 1 with fail
  rw [<-hW]
  clear hW
  go_wp2
  go_ret
  exact Qz aA.o aO.o
 have d1:decide ((c.funcs.length:Int)<=f.fn)=false:=by simp;omega
 obtain ⟨k,hk⟩:∃ k:Nat,f.fn=k:=⟨f.fn.toNat,ω⟩
 obtain ⟨y,hy⟩:∃ y,c.funcs[k]?=some y:=⟨_,Lg ω⟩
 have cD:c.funcs[f.fn.toNat]?=some y:=by rw [hk,Int.toNat_natCast];exact hy
 have eN:(k:Int)<(c.funcs.length:Int):=ω
 obtain ⟨a0,bU,cL,dK,dL,dM,hE⟩:=hg
 obtain ⟨rfl,rfl⟩:ga=a0/\gc=bU:=by simpa using cL
 rcases hE with h2|⟨yb,yo,rfl,dX,hE⟩
 ·rw [h2] at hy;simp at hy
 have bW:=hE k y hy
 obtain ⟨e0,e1,e2,e3,⟨yv,e4,cC⟩,e5,e6,e7⟩:=id bW
 obtain ⟨ya,aD,rfl,dY,dZ,eA,aI⟩:=id cC
 rcases aI with h2|⟨ib,io,rfl,dP,aI⟩
 ·have:=(hs.wf cD).one
  rw [h2] at this;simp at this
 have dF:=Lh cC
 have HE:=Lh bW
 have zy:=Bl e1
 have eM:(0:Int)<=(k:Int):=In _
 have aC:=Lh cD
 have HY:=Lh hy
 have HK:=Lh hk
 have dE:=Lh h64
 rw [hk] at f0 d0 d1
 have f1:=b1.o 1 _ rfl
 have f2:=b1.o 2 _ rfl
 have f3:=b1.o 3 _ rfl
 clear cL hE hy cD hk h0 h1 aI cC bW h64
 go_enter Tryz.func132,Tryz.ntmps132
 go_upto_region 1 with fail
 rw [<-hW]
 have HW:=Lh hW
 clear hW
 go_upto_region 4 with fail
 obtain ⟨W3,aX⟩:∃ V,V=W.alloc (χ #[.string y.name,ι y.params,ι y.locals,.bool y.result,σ (some (π ib io)) y.code.length aD] 93):=⟨_,rfl⟩
 have aG:Below W.heap.size W W3:=by rw [aX];exact Xa _ _
 have G3:Hid (Xo W3 W.heap.size [.string y.name,ι y.params,ι y.locals,.bool y.result,σ (some (π ib io)) y.code.length aD]):=by rw [aX];exact Lh Xd
 obtain ⟨gb,bL⟩:∃ q,q=W.heap.size:=⟨_,rfl⟩
 rw [<-aX,<- bL]
 rw [<-bL] at G3
 have eE:=Lh bL
 have eG:=Lh aX
 have C3:=Lh (b0.o.keep aG)
 have F3:=Lh (b1.o.keep aG)
 have R3:=Lh (b2.o.keep aG)
 have aM:=Lh (aO.o.then aG)
 have aW:B<=W3.heap.size:=Nt hB aM.o.size
 have bR:=Lh (cZ.o.ints (aG.mono bJ))
 have bT:=Lh (cG.o.ints (aG.mono bJ))
 have cE:=Lh (HC.o.below (aG.mono bJ))
 have aU:=Lh (dF.o.inss (aG.mono bJ))
 clear aX bL aG i0 i2 f0 f1 f2 f3 zi zf zy e0 e1 e2 e3 e4 d0 d1
 have i0:=C3.o 0 _ rfl
 have i1:=C3.o 1 _ rfl
 have i2:=C3.o 2 _ rfl
 have f0:=F3.o 0 _ rfl
 have f1:=F3.o 1 _ rfl
 have f2:=F3.o 2 _ rfl
 have f3:=F3.o 3 _ rfl
 have g0:=G3.o 0 _ rfl
 have g1:=G3.o 1 _ rfl
 have g2:=G3.o 2 _ rfl
 have g3:=G3.o 3 _ rfl
 have g4:=G3.o 4 _ rfl
 have r0:=R3.o 0 _ rfl
 have r1:=R3.o 1 _ rfl
 have r2:=R3.o 2 _ rfl
 have r3:=R3.o 3 _ rfl
 have r4:=R3.o 4 _ rfl
 have zi:=Bl i0
 have zf:=Bl f0
 have zg:=Bl g0
 have zr:=Bl r0
 by_cases p1:f.pc<1
 ·have aA:Hid (¬Q6 c f ⟨kind,node,field,value,fault⟩ nx):=Lh (fun h=>by have:=Xdh aC.o h;omega)
  have d:decide (f.pc<1)=true:=by simpa using p1
  clear p1
  go_wp2
  go_ret
  exact Qz aA.o aM.o
 have q1:decide (f.pc<1)=false:=by simp;omega
 by_cases p2:(y.code.length:Int)<f.pc
 ·have aA:Hid (¬Q6 c f ⟨kind,node,field,value,fault⟩ nx):=Lh (fun h=>by have:=Xdh aC.o h;omega)
  have d:decide ((y.code.length:Int)<f.pc)=true:=by simpa using p2
  clear p2 p1
  go_wp2
  go_ret
  exact Qz aA.o aM.o
 have q2:decide ((y.code.length:Int)<f.pc)=false:=by simp;omega
 by_cases p3:(f.locals.length:Int)=y.locals
 rotate_left
 ·have aA:Hid (¬Q6 c f ⟨kind,node,field,value,fault⟩ nx):=Lh (fun h=>p3 (Xdh aC.o h).2.2.1)
  have d:((f.locals.length:Int) != y.locals)=true:=by simpa using p3
  clear p3 p2 p1
  go_wp2
  go_ret
  exact Qz aA.o aM.o
 have dA:=Lh p3
 have q3:((f.locals.length:Int) != y.locals)=false:=by simp [p3]
 obtain ⟨p,hp⟩:∃ p:Nat,f.pc=(p:Int)+1:=⟨(f.pc - 1).toNat,ω⟩
 have bI:=Lh hp
 have dR:p<y.code.length:=ω
 clear p3 p2 p1
 go_wp2_with fail
 refine (Uk f.locals _ B _ bR.o).mono ?_
 rintro e w' ⟨rfl,rfl⟩
 cases aR:Jg f.locals with
 | false=>
  have aA:Hid (¬Q6 c f ⟨kind,node,field,value,fault⟩ nx):=Lh (fun h=>by
   have h2:=Vf.2 (Xdh aC.o h).2.2.2.1
   unfold Jg at aR
   rw [h2] at aR;cases aR)
  clear aR hp
  go_wp2
  go_ret
  exact Qz aA.o aM.o
 | true=>
 have dC:Hid (∀ n∈f.locals,isV n):=Lh (Vf.1 aR)
 clear aR
 go_wp2_with fail
 refine (Uk f.stack _ B _ bT.o).mono ?_
 rintro e w' ⟨rfl,rfl⟩
 cases aS:Jg f.stack with
 | false=>
  have aA:Hid (¬Q6 c f ⟨kind,node,field,value,fault⟩ nx):=Lh (fun h=>by
   have h2:=Vf.2 (Xdh aC.o h).2.2.2.2
   unfold Jg at aS
   rw [h2] at aS;cases aS)
  clear aS hp
  go_wp2
  go_ret
  exact Qz aA.o aM.o
 | true=>
 have dD:Hid (∀ n∈f.stack,isV n):=Lh (Vf.1 aS)
 clear aS
 have bX:Hid (0<=f.fn):=Lh (by have:=HK.o;omega)
 have aZ:Hid (Xaa c f y):=Lh ⟨bX.o,aC.o,ω,dA.o,dC.o,dD.o⟩
 have bM:=Lh (hs.wf aC.o)
 obtain ⟨x,hx⟩:∃ x,y.code[p]?=some x:=⟨_,Lg dR⟩
 have HX:=Lh hx
 have cJ:∀ V,Below B W3 V->J4 B V (.agg #[.string y.name,ι y.params,ι y.locals,.bool y.result,σ (some (π ib io)) y.code.length aD]) y:=fun V hV=>⟨_,rfl,aU.o.inss hV,e5,e6,e7⟩
 have cF:=Lh cJ
 clear cJ hx
 go_wp2_with fail
 refine (Xba c _ y _ B W3 aW cE.o (cF.o W3 Br) bM.o).mono ?_
 rintro e w4 (⟨at_,er,rfl,eO,dQ,-⟩|⟨hg,dI,cA,rfl,eL,dH,eK,dU,hH,bZ,aE⟩)
 ·exact absurd (hs.snd aC.o) dQ
 have dN:cA.length=y.code.length:=hH.1
 obtain ⟨v,hv⟩:∃ v,cA[p]?=some v:=⟨_,Lg ω⟩
 obtain ⟨dJ,aJ,aK⟩:=bZ
 have aT:w4.cell? (π hg p)=some (ι v):=by rw [cell_of_row _ _ _ _ _ _ aJ];exact Xiw aK (by simp [hv])
 have cR:=hH.2 p v hv
 have cH:=Lh cR
 have cT:=Lh (aM.o.then aE)
 have bV:B<=w4.heap.size:=Nt aW aE.size
 have cW:=Lh (cE.o.below (aE.mono aW))
 have cY:=Lh (cF.o w4 (aE.mono aW))
 obtain ⟨cQ,bA⟩:∃ q,q=cA.length:=⟨_,rfl⟩
 rw [<-bA] at dH dN ⊢
 have eQ:p<cQ:=ω
 have C4:=Lh (C3.o.keep aE)
 have F4:=Lh (F3.o.keep aE)
 have R4:=Lh (R3.o.keep aE)
 have G4:=Lh (G3.o.keep aE)
 have aV:=Lh (aU.o.inss (aE.mono aW))
 clear hv cR aJ aK hH dU bA aE i0 i1 i2 f0 f1 f2 f3 g0 g1 g2 g3 g4 r0 r1 r2 r3 r4 zi zf zg zr q1 q2 q3
 have f1:=F4.o 1 _ rfl
 rw [hp] at f1
 have g4:=G4.o 4 _ rfl
 have bO:y.code[p]?=some x:=HX.o
 obtain ⟨eD,bG,cS,-,-,-,aI⟩:=aV.o
 obtain ⟨rfl,rfl⟩:some (π ib io)=eD/\aD=bG:=by simpa using cS
 rcases aI with h2|⟨eB,eC,cO,cN,aI⟩
 ·rw [h2] at bO;simp at bO
 obtain ⟨rfl,rfl⟩:ib=eB/\io=eC:=by simpa using cO
 obtain ⟨x0,x1,cB,bF⟩:=aI p x bO
 have zx:=Bl x0
 have zg:=Bl g4
 have zf:=Bl f1
 have dS:(0:Int)<=(p:Int):=In _
 have dT:(p:Int)<(y.code.length:Int):=ω
 have cP:(p:Int)<=100000:=by have:=hsm y (Lm aC.o);omega
 clear cS cO aI bO hp
 go_upto_region 8 with fail
 obtain ⟨W5,aY⟩:∃ V,V=w4.alloc (χ #[ι x.op,ι x.a] 124):=⟨_,rfl⟩
 have aF:Below w4.heap.size w4 W5:=by rw [aY];exact Xa _ _
 have X5:Hid (Xo W5 w4.heap.size [ι x.op,ι x.a]):=by rw [aY];exact Lh (@Xd w4 #[ι x.op,ι x.a] 124)
 obtain ⟨xb,bN⟩:∃ q,q=w4.heap.size:=⟨_,rfl⟩
 rw [<-aY,<- bN]
 rw [<-bN] at X5
 have eI:=Lh bN
 have eH:=Lh aY
 have C5:=Lh (C4.o.keep aF)
 have F5:=Lh (F4.o.keep aF)
 have R5:=Lh (R4.o.keep aF)
 have G5:=Lh (G4.o.keep aF)
 have cU:=Lh (cT.o.then aF)
 have dG:B<=W5.heap.size:=Nt bV aF.size
 have cX:=Lh (cW.o.below (aF.mono bV))
 have aT:=Xc aF aT
 have bQ:Hid (J4 B W5 (.agg #[.string y.name,ι y.params,ι y.locals,.bool y.result,σ (some (π ib io)) y.code.length aD]) y):=Lh ⟨_,rfl,aV.o.inss (aF.mono bV),e5,e6,e7⟩
 have cI:Hid (x∈y.code):=Lh (Lm HX.o)
 clear aY bN aF f1 g4 x0 x1 zx zg zf
 have i0:=C5.o 0 _ rfl
 have i1:=C5.o 1 _ rfl
 have i2:=C5.o 2 _ rfl
 have g0:=G5.o 0 _ rfl
 have g1:=G5.o 1 _ rfl
 have g2:=G5.o 2 _ rfl
 have g3:=G5.o 3 _ rfl
 have g4:=G5.o 4 _ rfl
 have x0:=X5.o 0 _ rfl
 have x1:=X5.o 1 _ rfl
 go_wp2_with fail
 refine (Xdl c _ y _ x _ B W5 dG cX.o bQ.o ⟨rfl,cB,bF⟩ bM.o cI.o).mono ?_
 rintro e w6 ⟨rfl,aP⟩
 have bP:=Lh (cU.o.then aP)
 have F6:=Lh (F5.o.keep aP)
 have R6:=Lh (R5.o.keep aP)
 have X6:=Lh (X5.o.keep aP)
 have aT:=Xc aP aT
 clear aP i0 i1 i2 g0 g1 g2 g3 g4 x0 x1
 have bD:=(bM.o.pops x cI.o)
 have eR:(f.stack.length:Int)<=140737488355328:=by
  obtain ⟨_,_,he,hl,_⟩:=cG.o
  omega
 have eS:-1<=v/\v<=100000:=by
  rcases cH.o with ⟨h,_⟩|⟨h,hr⟩
  ·omega
  ·have h3:=Qu bM.o (hs.snd aC.o) hr
   have h4:=hsm y (Lm aC.o)
   omega
 have aB:Hid (Q6 c f ⟨kind,node,field,value,fault⟩ nx↔¬v<0/\(f.stack.length:Int)=v - Xm c y x/\(if nx<0 then Xr x ⟨kind,node,field,value,fault⟩=true else x.op=9/\x.a=nx)):=Lh (Xpl hs aZ.o (by have:=bI.o;omega) (by rw [show (f.pc - 1).toNat=p by have:=bI.o;omega];exact HX.o) (by rw [show (f.pc - 1).toNat=p by have:=bI.o;omega];exact cH.o))
 obtain ⟨po,bY⟩:∃ q,q=Xm c y x:=⟨_,rfl⟩
 rw [<-bY] at bD aB ⊢
 have eF:=Lh bY
 clear bY
 have f1:=F6.o 1 _ rfl
 rw [bI.o] at f1
 have f3:=F6.o 3 _ rfl
 have zf:=Bl f1
 have zh:=Bl aT
 have eP:(p:Int)<(cQ:Int):=ω
 have dV:IntKind.i64.wrap ((p:Int)+1 - 1)=(p:Int):=by rw [IntKind.wrap_i64];omega
 by_cases aQ:v<0
 ·have d:decide (v<0)=true:=by simpa using aQ
  have aA:Hid (¬Q6 c f ⟨kind,node,field,value,fault⟩ nx):=Lh (fun h=>(aB.o.1 h).1 aQ)
  clear aQ
  go_wp2_with fail
  go_quiet (fail)
  have aN:=Lh (Xh bP.o nq)
  go_wp2
  go_ret
  exact Qz aA.o aN.o
 have d:decide (v<0)=false:=by simp;omega
 have dW:IntKind.i64.wrap (v - po)=v - po:=by rw [IntKind.wrap_i64];omega
 by_cases aH:(f.stack.length:Int)=v - po
 rotate_left
 ·have d2:((f.stack.length:Int) != v - po)=true:=by simpa using aH
  have aA:Hid (¬Q6 c f ⟨kind,node,field,value,fault⟩ nx):=Lh (fun h=>aH (aB.o.1 h).2.1)
  clear aH aQ
  go_wp2_with fail
  go_quiet (fail)
  have aN:=Lh (Xh bP.o nq)
  go_wp2
  go_ret
  exact Qz aA.o aN.o
 have d2:((f.stack.length:Int) != v - po)=false:=by simp [aH]
 have dB:=Lh aH
 have aL:Hid (Q6 c f ⟨kind,node,field,value,fault⟩ nx↔(if nx<0 then Xr x ⟨kind,node,field,value,fault⟩=true else x.op=9/\x.a=nx)):=Lh (by
  constructor
  ·intro h;exact (aB.o.1 h).2.2
  ·intro h;exact aB.o.2 ⟨aQ,dB.o,h⟩)
 clear aH aQ aB
 go_wp2_with fail
 go_quiet (fail)
 obtain ⟨V,hV⟩:∃ u,u=w6.drewN nq:=⟨_,rfl⟩
 have bK:Below w6.heap.size w6 V:=by rw [hV];exact Xh Br nq
 rw [<-hV]
 have HV:=Lh hV
 have bH:=Lh (bP.o.then bK)
 have RV:=Lh (R6.o.keep bK)
 have XV:=Lh (X6.o.keep bK)
 clear hV bK f1 f3 zf zh aT dV dW d d2
 have x0:=XV.o 0 _ rfl
 have x1:=XV.o 1 _ rfl
 have zx:=Bl x0
 by_cases bC:nx<0
 ·have dn:decide (nx<0)=true:=by simpa using bC
  have bB:Hid (Q6 c f ⟨kind,node,field,value,fault⟩ nx↔Xr x ⟨kind,node,field,value,fault⟩=true):=Lh (by have:=aL.o;rwa [if_pos bC] at this)
  clear bC
  go_wp2_with fail
  refine (J7 x.op _).mono ?_
  rintro e w' ⟨rfl,rfl⟩
  cases ha:Kx x.op with
  | false=>
   have aA:Hid (¬Q6 c f ⟨kind,node,field,value,fault⟩ nx):=Lh (fun h=>by
    have h2:=Xp3 (bB.o.1 h)
    unfold Kx at ha
    simp at ha;omega)
   clear ha
   go_wp2
   go_ret
   exact Qz aA.o bH.o
  | true=>
   have bE:4<=x.op/\x.op<=8:=by unfold Kx at ha;simpa using ha
   have bS:=Lh bE
   clear ha bE
   have r0:=RV.o 0 _ rfl
   have r1:=RV.o 1 _ rfl
   have r2:=RV.o 2 _ rfl
   have r3:=RV.o 3 _ rfl
   have r4:=RV.o 4 _ rfl
   have zr:=Bl r0
   go_wp2_with fail
   refine (Xli x.op x.a kind node field value fault bS.o _).mono ?_
   rintro e w7 ⟨rfl,cK⟩
   have cV:=Lh (bH.o.then cK)
   clear cK
   go_wp2
   go_ret
   exact Xhf bB.o cV.o
 ·have dn:decide (nx<0)=false:=by simp;omega
  have bB:Hid (Q6 c f ⟨kind,node,field,value,fault⟩ nx↔(x.op=9/\x.a=nx)):=Lh (by have:=aL.o;rwa [if_neg bC] at this)
  clear bC
  by_cases h9:x.op=9
  ·have d9:(x.op == 9)=true:=by simpa using h9
   have dO:Hid (Q6 c f ⟨kind,node,field,value,fault⟩ nx↔(x.a == nx)=true):=Lh (by rw [bB.o];simp [h9])
   clear h9
   go_wp2
   go_ret
   exact Xhf dO.o bH.o
  ·have d9:(x.op == 9)=false:=by simpa using h9
   have aA:Hid (¬Q6 c f ⟨kind,node,field,value,fault⟩ nx):=Lh (fun h=>h9 (bB.o.1 h).1)
   clear h9
   go_wp2
   go_ret
   exact Qz aA.o bH.o
theorem Xgu (hk:k+1=fr.length):Yx c fr r k f↔Q6 c f r (-1):=by
 unfold Yx Q6
 rw [show (fun x:Ins=>if k+1=fr.length then Xr x r=true else x.op=9/\∃ g,fr[k+1]?=some g/\x.a=g.fn)=(fun x:Ins=>if (-1:Int)<0 then Xr x r=true else x.op=9/\x.a = -1) from funext fun x=>by rw [if_pos hk,if_pos ω]]
theorem Xj8 (hg:fr[k+1]?=some g) (h0:0<=g.fn):Yx c fr r k f↔Q6 c f r g.fn:=by
 have hk:=(Ll hg)
 unfold Yx Q6
 rw [show (fun x:Ins=>if k+1=fr.length then Xr x r=true else x.op=9/\∃ g',fr[k+1]?=some g'/\x.a=g'.fn)=(fun x:Ins=>if g.fn<0 then Xr x r=true else x.op=9/\x.a=g.fn) from funext fun x=>by rw [if_neg ω,if_neg ω,hg];simp]
theorem Xjf (hs:Xv c) (hg:fr[k+1]?=some g) (h0:g.fn<0):¬Yx c fr r k f:=by
 rintro ⟨y,x,hh,hb,h1,hx,hP,hr,hl⟩
 have hk:=(Ll hg)
 rw [if_neg ω] at hP
 obtain ⟨h9,g',aA,ha⟩:=hP
 rw [hg] at aA
 cases aA
 have:=hs.lim hb.fn hx (n:=c.funcs.length) (by rw [h9];rfl)
 omega
def Xob (c:Cod) (m:Mch) (w:World) (e:Ending) (w':World):Prop:=e=.returned (.bool (pB (Yf c m)))/\Below w.heap.size w w'
theorem Zz (h:¬Yf c m) (hb:Below w.heap.size w w'):Xob c m w (.returned (.bool false)) w':=⟨by rw [K8 h],hb⟩
theorem V6 (h:Yf c m↔b=true) (hb:Below w.heap.size w w'):Xob c m w (.returned (.bool b)) w':=by
 cases b with
 | true=>exact ⟨by rw [Kh (h.2 rfl)],hb⟩
 | false=>exact ⟨by rw [K8 (fun hp=>by have:=h.1 hp;cases this)],hb⟩
theorem Kg (h:Yf c m):0<=m.fuel/\m.fuel<=1048576/\0<=m.compares/\m.compares<=1099511627776/\0<=m.idle/\m.idle<=100000:=⟨h.fuel.1,h.fuel.2,h.cmp.1,h.cmp.2,h.idle.1,h.idle.2⟩
theorem Xk7 (hs:Xv c) (hn:0<=m.fuel/\m.fuel<=1048576/\0<=m.compares/\m.compares<=1099511627776/\0<=m.idle/\m.idle<=100000) (hk:m.req.kind=4\/m.req.kind=5):Yf c m↔m.frames=[]/\Qx m.req=true:=by
 constructor
 ·intro h
  rcases h.body with h|⟨aB,aA⟩
  ·exact h
  ·obtain ⟨fs,f,hf⟩:∃ fs f,m.frames=fs++[f]:=by
    rcases List.eq_nil_or_concat m.frames with e|⟨l,a,e⟩
    ·exact absurd e aB
    ·exact ⟨l,a,by rw [e];simp⟩
   have h1:=aA fs.length f (by rw [hf];simp)
   obtain ⟨y,x,hh,hb,h1,hx,hP,hr,hl⟩:=h1
   rw [if_pos (by rw [hf];simp)] at hP
   have h2:=Xa9 hP
   unfold Xr Xy at hP
   exfalso
   rcases h2 with h2|h2|h2|h2|h2<;>rw [h2] at hP<;>simp at hP<;>omega
 ·rintro ⟨h1,h2⟩
  exact ⟨hs,⟨hn.1,hn.2.1⟩,⟨hn.2.2.1,hn.2.2.2.1⟩,⟨hn.2.2.2.2.1,hn.2.2.2.2.2⟩,by rw [h1];simp,.inl ⟨h1,h2⟩⟩
theorem Xlo (hs:Xv c) (hn:0<=m.fuel/\m.fuel<=1048576/\0<=m.compares/\m.compares<=1099511627776/\0<=m.idle/\m.idle<=100000) (hk:¬m.req.kind=4) (hk5:¬m.req.kind=5):Yf c m↔(1<=m.frames.length/\m.frames.length<=200)/\∀ k f,m.frames[k]?=some f->Yx c m.frames m.req k f:=by
 constructor
 ·intro h
  rcases h.body with ⟨_,h⟩|⟨aB,aA⟩
  ·unfold Qx at h
   rw [if_neg hk,if_neg hk5] at h;cases h
  ·have:=List.length_pos_iff.2 aB
   exact ⟨⟨ω,h.len⟩,aA⟩
 ·rintro ⟨h1,h2⟩
  exact ⟨hs,⟨hn.1,hn.2.1⟩,⟨hn.2.2.1,hn.2.2.2.1⟩,⟨hn.2.2.2.2.1,hn.2.2.2.2.2⟩,h1.2,.inr ⟨fun e=>by rw [e] at h1;simp at h1,h2⟩⟩
theorem Xjl (hs:Xv c) (hsm:Zb c) (cv:Value) (m:Mch) (fv:Value) (B:Nat) (w:World) (hB:B<=w.heap.size) (hc:Yj B w cv c) (hm:Xf B w 4 (Qp B) fv m.frames) :
  Calls Tryz.prog 99 #[cv,Xi fv m] w (Xob c m w):=by
 obtain ⟨cf,cg,rfl,cG,cH,cN⟩:=id hc
 obtain ⟨fa,fc,rfl⟩:=cG.form
 obtain ⟨ga,gc,rfl⟩:=cH.form
 obtain ⟨ma,mc,rfl,bO⟩:=hm.frm
 obtain ⟨fs,⟨kind,node,field,value,fault⟩,fuel,compares,idle⟩:=m
 dsimp only at hm bO ⊢
 obtain ⟨n,hn⟩:∃ q,q=fs.length:=⟨_,rfl⟩
 rw [<-hn] at bO ⊢
 have HN:=Lh hn
 have HM:=Lh hm
 obtain ⟨W,hW⟩:∃ W,W=(w.alloc (χ (Bc fa fc ga gc c) 25)).alloc (χ #[σ ma n mc,ι kind,ι node,ι field,ι value,ι fault,ι fuel,ι compares,ι idle] 51):=⟨_,rfl⟩
 have aV:Hid (Below w.heap.size w W):=by rw [hW];exact Lh ((Xa _ _).then (Xa _ _))
 have b0:Hid (Xo W w.heap.size [σ fa c.fields.length fc,ι c.globals,σ ga c.funcs.length gc]):=by rw [hW];exact Lh (Xd.alloc _)
 have b1:Hid (Xo W (w.heap.size+1) [σ ma n mc,ι kind,ι node,ι field,ι value,ι fault,ι fuel,ι compares,ι idle]):=by
  rw [hW]
  have:=@Xd (w.alloc (χ (Bc fa fc ga gc c) 25)) #[σ ma n mc,ι kind,ι node,ι field,ι value,ι fault,ι fuel,ι compares,ι idle] 51
  exact Lh (by simpa using this)
 have HC:=Lh (hc.below (aV.o.mono hB))
 have k0:=b1.o 0 _ rfl
 have k1:=b1.o 1 _ rfl
 have k2:=b1.o 2 _ rfl
 have k3:=b1.o 3 _ rfl
 have k4:=b1.o 4 _ rfl
 have k5:=b1.o 5 _ rfl
 have k6:=b1.o 6 _ rfl
 have k7:=b1.o 7 _ rfl
 have k8:=b1.o 8 _ rfl
 have zk:=Bl k0
 have cM:B<=W.heap.size:=Nt hB aV.o.size
 obtain ⟨M,cA⟩:∃ q:Mch,q=⟨fs,⟨kind,node,field,value,fault⟩,fuel,compares,idle⟩:=⟨_,rfl⟩
 unfold Xi Xb
 try dsimp only
 rw [<-cA]
 have aF:=Lh cA
 clear hc hm hn cG cH cA
 go_enter Tryz.func99,Tryz.ntmps99
 go_upto_region 1 with fail
 rw [<-hW]
 have HW:=Lh hW
 clear hW
 by_cases t0:fuel<0
 ·have d:decide (fuel<0)=true:=by simpa using t0
  have aB:Hid (¬Yf c M):=Lh (fun h=>by have:=Kg h;rw [aF.o] at this;(try dsimp only at this);omega)
  clear t0
  go_wp2
  go_ret
  exact Zz aB.o aV.o
 by_cases t1:1048576<fuel
 ·have d:decide (1048576<fuel)=true:=by simpa using t1
  have aB:Hid (¬Yf c M):=Lh (fun h=>by have:=Kg h;rw [aF.o] at this;(try dsimp only at this);omega)
  have d0:decide (fuel<0)=false:=by simp;omega
  clear t0 t1
  go_wp2
  go_ret
  exact Zz aB.o aV.o
 have d0:decide (fuel<0)=false:=by simp;omega
 have d1:decide (1048576<fuel)=false:=by simp;omega
 by_cases t2:compares<0
 ·have d:decide (compares<0)=true:=by simpa using t2
  have aB:Hid (¬Yf c M):=Lh (fun h=>by have:=Kg h;rw [aF.o] at this;(try dsimp only at this);omega)
  clear t0 t1 t2
  go_wp2
  go_ret
  exact Zz aB.o aV.o
 by_cases t3:1099511627776<compares
 ·have d:decide (1099511627776<compares)=true:=by simpa using t3
  have aB:Hid (¬Yf c M):=Lh (fun h=>by have:=Kg h;rw [aF.o] at this;(try dsimp only at this);omega)
  have d2:decide (compares<0)=false:=by simp;omega
  clear t0 t1 t2 t3
  go_wp2
  go_ret
  exact Zz aB.o aV.o
 have d2:decide (compares<0)=false:=by simp;omega
 have d3:decide (1099511627776<compares)=false:=by simp;omega
 by_cases t4:idle<0
 ·have d:decide (idle<0)=true:=by simpa using t4
  have aB:Hid (¬Yf c M):=Lh (fun h=>by have:=Kg h;rw [aF.o] at this;(try dsimp only at this);omega)
  clear t0 t1 t2 t3 t4
  go_wp2
  go_ret
  exact Zz aB.o aV.o
 by_cases t5:100000<idle
 ·have d:decide (100000<idle)=true:=by simpa using t5
  have aB:Hid (¬Yf c M):=Lh (fun h=>by have:=Kg h;rw [aF.o] at this;(try dsimp only at this);omega)
  have d4:decide (idle<0)=false:=by simp;omega
  clear t0 t1 t2 t3 t4 t5
  go_wp2
  go_ret
  exact Zz aB.o aV.o
 have d4:decide (idle<0)=false:=by simp;omega
 have d5:decide (100000<idle)=false:=by simp;omega
 have bJ:Hid (0<=M.fuel/\M.fuel<=1048576/\0<=M.compares/\M.compares<=1099511627776/\0<=M.idle/\M.idle<=100000):=Lh (by rw [aF.o];dsimp only;omega)
 clear t0 t1 t2 t3 t4 t5
 go_upto_region 4 with fail
 obtain ⟨W3,bL⟩:∃ V,V=W.alloc (χ #[ι kind,ι node,ι field,ι value,ι fault] 49):=⟨_,rfl⟩
 have bM:Below W.heap.size W W3:=by rw [bL];exact Xa _ _
 have R3:Hid (Xo W3 W.heap.size [ι kind,ι node,ι field,ι value,ι fault]):=by rw [bL];exact Lh Xd
 obtain ⟨rb,bW⟩:∃ q,q=W.heap.size:=⟨_,rfl⟩
 rw [<-bL,<- bW]
 rw [<-bW] at R3
 have cR:=Lh bW
 have cS:=Lh bL
 have aD:=Lh (aV.o.then bM)
 have C3:=Lh (b0.o.keep bM)
 have M3:=Lh (b1.o.keep bM)
 have cK:=Lh (HC.o.below (bM.mono cM))
 have cL:B<=W3.heap.size:=Nt hB aD.o.size
 clear bL bW bM k0 k1 k2 k3 k4 k5 k6 k7 k8 zk d0 d1 d2 d3 d4 d5
 have r0:=R3.o 0 _ rfl
 have r1:=R3.o 1 _ rfl
 have r2:=R3.o 2 _ rfl
 have r3:=R3.o 3 _ rfl
 have r4:=R3.o 4 _ rfl
 have zr:=Bl r0
 have m0:=M3.o 0 _ rfl
 have zm:=Bl m0
 by_cases hk:kind=4\/kind=5
 ·have aW:Hid (Yf c M↔fs=[]/\Qx ⟨kind,node,field,value,fault⟩=true):=Lh (by have:=Xk7 (c:=c) (m:=M) hs bJ.o (by rw [aF.o];exact hk);rw [this,aF.o])
  have aZ:∀ x:Bool,(fs=[]/\Qx ⟨kind,node,field,value,fault⟩=true↔x=true)->(Yf c M↔x=true):=fun x h=>aW.o.trans h
  have aY:=Lh aZ
  clear aZ
  have bK:(kind == 4)=true\/((kind == 4)=false/\(kind == 5)=true):=by
   rcases hk with rfl|rfl
   ·exact .inl rfl
   ·exact .inr ⟨rfl,rfl⟩
  by_cases bG:n=0
  rotate_left
  ·have aB:Hid (¬Yf c M):=Lh (fun h=>bG (by rw [HN.o,(aW.o.1 h).1];rfl))
   have d:((n:Int) != 0)=true:=by simp;omega
   clear bG
   rcases hk with rfl|rfl
   all_goals
    clear bK
    go_wp2
    go_ret
    exact Zz aB.o aD.o
  by_cases aX:node=0
  rotate_left
  ·have aB:Hid (¬Yf c M):=Lh (fun h=>by
    have h2:=(aW.o.1 h).2
    unfold Qx at h2
    dsimp only at h2
    rcases hk with rfl|rfl<;>simp at h2<;>omega)
   have d:((n:Int) != 0)=false:=by simp;omega
   have d2:(node != 0)=true:=by simpa using aX
   clear bG aX
   rcases hk with rfl|rfl
   all_goals
    clear bK
    go_wp2
    go_ret
    exact Zz aB.o aD.o
  by_cases bF:field=0
  rotate_left
  ·have aB:Hid (¬Yf c M):=Lh (fun h=>by
    have h2:=(aW.o.1 h).2
    unfold Qx at h2
    dsimp only at h2
    rcases hk with rfl|rfl<;>simp at h2<;>omega)
   have d:((n:Int) != 0)=false:=by simp;omega
   have d2:(node != 0)=false:=by simp [aX]
   have d3:(field != 0)=true:=by simpa using bF
   clear bG aX bF
   rcases hk with rfl|rfl
   all_goals
    clear bK
    go_wp2
    go_ret
    exact Zz aB.o aD.o
  have d:((n:Int) != 0)=false:=by simp;omega
  have d2:(node != 0)=false:=by simp [aX]
  have d3:(field != 0)=false:=by simp [bF]
  have bT:fs=[]:=List.eq_nil_of_length_eq_zero (by rw [<-HN.o];exact bG)
  rcases hk with rfl|rfl
  ·have HQ:Hid (∀ x:Bool,(X1 value && (fault == 0))=x->(Yf c M↔x=true)):=Lh (fun x hx=>aY.o x (by
    unfold Qx
    dsimp only
    rw [if_pos rfl,aX,bF,<- hx]
    simp [bT]))
   clear bK bG aX bF bT
   go_wp2_with fail
   refine (Ys value _).mono ?_
   rintro e w' ⟨rfl,rfl⟩
   cases hv:X1 value with
   | false=>
    have bD:=Lh (HQ.o false (by rw [hv];rfl))
    clear hv
    go_wp2
    go_ret
    exact V6 bD.o aD.o
   | true=>
    have bD:=Lh (HQ.o (fault == 0) (by rw [hv];rfl))
    clear hv
    go_wp2
    go_ret
    exact V6 bD.o aD.o
  ·have HQ:Hid (∀ x:Bool,((value == 0) && Ud fault)=x->(Yf c M↔x=true)):=Lh (fun x hx=>aY.o x (by
    unfold Qx
    dsimp only
    rw [if_neg ω,if_pos rfl,aX,bF,<- hx]
    simp [bT,and_comm]))
   clear bK bG aX bF bT
   by_cases hv:value=0
   ·have bD:=Lh (HQ.o (Ud fault) (by rw [hv];rfl))
    have d4:(value == 0)=true:=by simpa using hv
    clear hv
    go_wp2_with fail
    refine (Xi9 fault _).mono ?_
    rintro e w' ⟨rfl,rfl⟩
    go_wp2
    go_ret
    exact V6 bD.o aD.o
   ·have d4:(value == 0)=false:=by simpa using hv
    have bD:=Lh (HQ.o false (by rw [d4];rfl))
    clear hv
    go_wp2
    go_ret
    exact V6 bD.o aD.o
 ·have cC:¬kind=4:=fun e=>hk (.inl e)
  have cD:¬kind=5:=fun e=>hk (.inr e)
  have e4:(kind == 4)=false:=by simpa using cC
  have e5:(kind == 5)=false:=by simpa using cD
  have aE:Hid (Yf c M↔(1<=fs.length/\fs.length<=200)/\∀ k f,fs[k]?=some f->Yx c fs ⟨kind,node,field,value,fault⟩ k f):=Lh (by have:=Xlo (c:=c) (m:=M) hs bJ.o (by rw [aF.o];exact cC) (by rw [aF.o];exact cD);rw [this,aF.o])
  clear hk cC cD
  by_cases cI:n<1
  ·have aB:Hid (¬Yf c M):=Lh (fun h=>by have:=(aE.o.1 h).1;have:=HN.o;omega)
   have d:decide ((n:Int)<1)=true:=by simp;omega
   clear cI
   go_wp2
   go_ret
   exact Zz aB.o aD.o
  by_cases cO:200<n
  ·have aB:Hid (¬Yf c M):=Lh (fun h=>by have:=(aE.o.1 h).1;have:=HN.o;omega)
   have d:decide ((n:Int)<1)=false:=by simp;omega
   have d2:decide (200<(n:Int))=true:=by simp;omega
   clear cI cO
   go_wp2
   go_ret
   exact Zz aB.o aD.o
  have d:decide ((n:Int)<1)=false:=by simp;omega
  have d2:decide (200<(n:Int))=false:=by simp;omega
  go_wp2_with fail
  clear d d2 r0 r1 r2 r3 r4 m0 zr zm e4 e5
  go_loopw [7] (fun i wr=>∃ k:Nat,k<=n/\i=ι k/\Hid ((∀ j,j<k->∀ f,fs[j]?=some f->Yx c fs ⟨kind,node,field,value,fault⟩ j f)/\Below W3.heap.size W3 wr)) (fun i _=>n - (intOf i).toNat)
  case atStart=>exact ⟨0,Nat.zero_le _,rfl,Lh ⟨fun j hj=>by omega,Below.refl _ _⟩⟩
  case round=>
   obtain ⟨k,hk,rfl,cE⟩:=hrel
   have bA:=Lh cE.o.1
   have aC:=Lh cE.o.2
   clear cE
   by_cases cX:k<n
   rotate_left
   ·obtain rfl:k=n:=ω
    have cF:Hid (Yf c M):=Lh (aE.o.2 ⟨by have:=HN.o;omega,fun j f hj=>bA.o j (by have:=(Ll hj);have:=HN.o;omega) f hj⟩)
    have bC:=Lh (aD.o.then aC.o)
    go_wp2
    go_ret
    exact V6 (b:=true) ⟨fun _=>rfl,fun _=>cF.o⟩ bC.o
   obtain ⟨f,hf⟩:∃ f,fs[k]?=some f:=⟨_,Lg (by have:=HN.o;omega)⟩
   have bI:=Lh hf
   have bZ:Below B w wr:=(aD.o.then aC.o).mono hB
   have aU:B<=wr.drew.heap.size:=Nt hB bZ.size
   obtain ⟨sb,so,rfl,cY,e1,e2,⟨lv,e3,bV⟩,⟨sv,e4,bX⟩,bS⟩:=(HM.o.fras bZ).elem hf
   obtain ⟨la,lc,rfl,-⟩:=bV.frm
   obtain ⟨sa,sc,rfl,-⟩:=bX.frm
   have bQ:Hid (Xf B wr.drew 1 Zd (σ la f.locals.length lc) f.locals):=Lh (bV.ints (Xh Br 1))
   have bR:Hid (Xf B wr.drew 1 Zd (σ sa f.stack.length sc) f.stack):=Lh (bX.ints (Xh Br 1))
   have bP:Hid (Yj B wr.drew (.agg (Bc fa fc ga gc c)) c):=Lh (cK.o.below ((aC.o.mono cL).trans (Xh Br 1)))
   have zs:=Bl e1
   have c0:=C3.o.keep aC.o 0 _ rfl
   have c1:=C3.o.keep aC.o 1 _ rfl
   have c2:=C3.o.keep aC.o 2 _ rfl
   have m0:=M3.o.keep aC.o 0 _ rfl
   have r0:=R3.o.keep aC.o 0 _ rfl
   have r1:=R3.o.keep aC.o 1 _ rfl
   have r2:=R3.o.keep aC.o 2 _ rfl
   have r3:=R3.o.keep aC.o 3 _ rfl
   have r4:=R3.o.keep aC.o 4 _ rfl
   have zc:=Bl c0
   have zm:=Bl m0
   have zr:=Bl r0
   have cT:(0:Int)<=(k:Int):=In _
   have cU:(k:Int)<(n:Int):=ω
   by_cases cW:k+1<n
   ·obtain ⟨g,hg⟩:∃ g,fs[k+1]?=some g:=⟨_,Lg (by have:=HN.o;omega)⟩
    obtain ⟨cP,cQ,cJ,-,u1,-⟩:=(HM.o.fras bZ).elem hg
    obtain ⟨rfl,rfl⟩:sb=cP/\so=cQ:=by simpa using cJ
    have dk:decide ((k:Int)<(n:Int) - 1)=true:=by simp;omega
    have cV:(k:Int)+1<(n:Int):=ω
    have HG:=Lh hg
    clear hf hg bV bX cJ
    by_cases bU:g.fn<0
    ·have aB:Hid (¬Yf c M):=Lh (fun h=>Xjf hs HG.o bU ((aE.o.1 h).2 k f bI.o))
     have dg:decide (g.fn<0)=true:=by simpa using bU
     have bC:=Lh (aD.o.then aC.o)
     clear bU
     go_wp2
     go_ret
     exact Zz aB.o bC.o
    have dg:decide (g.fn<0)=false:=by simp;omega
    have bH:Hid (Yx c fs ⟨kind,node,field,value,fault⟩ k f↔Q6 c f ⟨kind,node,field,value,fault⟩ g.fn):=Lh (Xj8 HG.o ω)
    clear bU
    by_cases hF:Q6 c f ⟨kind,node,field,value,fault⟩ (g.fn)
    ·have bE:pB (Q6 c f ⟨kind,node,field,value,fault⟩ (g.fn))=true:=Kh hF
     have bY:Hid (Yx c fs ⟨kind,node,field,value,fault⟩ k f):=Lh (bH.o.2 hF)
     clear hF
     go_upto_region 21 with fail
     go_region_held3 (fun V=>V.cell? (π w.heap.size 0)=some (σ fa c.fields.length fc)/\V.cell? (π w.heap.size 1)=some (ι c.globals)/\V.cell? (π w.heap.size 2)=some (σ ga c.funcs.length gc)/\V.cell? (π (w.heap.size+1) 0)=some (σ (some (π sb so)) n mc)/\V.cell? (π sb (so+k*4))=some (ι f.fn)/\V.cell? (π sb (so+k*4+1))=some (ι f.pc)/\V.cell? (π sb (so+k*4+2))=some (σ la f.locals.length lc)/\V.cell? (π sb (so+k*4+3))=some (σ sa f.stack.length sc)/\V.cell? (π rb 0)=some (ι kind)/\V.cell? (π rb 1)=some (ι node)/\V.cell? (π rb 2)=some (ι field)/\V.cell? (π rb 3)=some (ι value)/\V.cell? (π rb 4)=some (ι fault))
      (first|with_reducible exact ⟨aH,aI,aJ,aO,aK,aL,aM,aN,aP,aQ,aR,aS,aT⟩|exact ⟨c0,c1,c2,m0,e1,e2,e3,e4,r0,r1,r2,r3,r4⟩)
      (first|(go_at_call 132;refine (Xaj hs hsm f (g.fn) kind node field value fault la sa lc sc fa ga fc gc B wr.drew aU bP.o bQ.o bR.o bS.2).mono ?_;rintro e w5 ⟨rfl,aA⟩;rw [bE];have aH:=Xc aA (show wr.drew.cell? _=_ from c0);have aI:=Xc aA (show wr.drew.cell? _=_ from c1);have aJ:=Xc aA (show wr.drew.cell? _=_ from c2);have aO:=Xc aA (show wr.drew.cell? _=_ from m0);have aK:=Xc aA (show wr.drew.cell? _=_ from e1);have aL:=Xc aA (show wr.drew.cell? _=_ from e2);have aM:=Xc aA (show wr.drew.cell? _=_ from e3);have aN:=Xc aA (show wr.drew.cell? _=_ from e4);have aP:=Xc aA (show wr.drew.cell? _=_ from r0);have aQ:=Xc aA (show wr.drew.cell? _=_ from r1);have aR:=Xc aA (show wr.drew.cell? _=_ from r2);have aS:=Xc aA (show wr.drew.cell? _=_ from r3);have aT:=Xc aA (show wr.drew.cell? _=_ from r4);have bB:=Lh (aC.o.then ((show Below wr.heap.size wr wr.drew from Xh Br 1).then aA));clear aA))
     have aG:Hid ((∀ j,j<k+1->∀ f,fs[j]?=some f->Yx c fs ⟨kind,node,field,value,fault⟩ j f)/\Below W3.heap.size W3 w5):=Lh ⟨fun j hj g' bN=>by
      by_cases cB:j<k
      ·exact bA.o j cB g' bN
      ·obtain rfl:j=k:=ω
       have:=bI.o
       rw [bN] at this
       cases this
       exact bY.o,bB.o⟩
     clear c0 c1 c2 m0 e1 e2 e3 e4 r0 r1 r2 r3 r4 aH aI aJ aO aK aL aM aN aP aQ aR aS aT
     go_wp2
     go_roundw
     case rel=>exact ⟨k+1,ω,by go_num,aG⟩
     case measure=>simp [intOf];omega
    ·have bE:pB (Q6 c f ⟨kind,node,field,value,fault⟩ (g.fn))=false:=K8 hF
     have aB:Hid (¬Yf c M):=Lh (fun h=>hF (bH.o.1 ((aE.o.1 h).2 k f bI.o)))
     clear hF
     go_upto_region 21 with fail
     go_region_held3 (fun V=>V.cell? (π w.heap.size 0)=some (σ fa c.fields.length fc)/\V.cell? (π w.heap.size 1)=some (ι c.globals)/\V.cell? (π w.heap.size 2)=some (σ ga c.funcs.length gc)/\V.cell? (π (w.heap.size+1) 0)=some (σ (some (π sb so)) n mc)/\V.cell? (π sb (so+k*4))=some (ι f.fn)/\V.cell? (π sb (so+k*4+1))=some (ι f.pc)/\V.cell? (π sb (so+k*4+2))=some (σ la f.locals.length lc)/\V.cell? (π sb (so+k*4+3))=some (σ sa f.stack.length sc)/\V.cell? (π rb 0)=some (ι kind)/\V.cell? (π rb 1)=some (ι node)/\V.cell? (π rb 2)=some (ι field)/\V.cell? (π rb 3)=some (ι value)/\V.cell? (π rb 4)=some (ι fault))
      (first|with_reducible exact ⟨aH,aI,aJ,aO,aK,aL,aM,aN,aP,aQ,aR,aS,aT⟩|exact ⟨c0,c1,c2,m0,e1,e2,e3,e4,r0,r1,r2,r3,r4⟩)
      (first|(go_at_call 132;refine (Xaj hs hsm f (g.fn) kind node field value fault la sa lc sc fa ga fc gc B wr.drew aU bP.o bQ.o bR.o bS.2).mono ?_;rintro e w5 ⟨rfl,aA⟩;rw [bE];have aH:=Xc aA (show wr.drew.cell? _=_ from c0);have aI:=Xc aA (show wr.drew.cell? _=_ from c1);have aJ:=Xc aA (show wr.drew.cell? _=_ from c2);have aO:=Xc aA (show wr.drew.cell? _=_ from m0);have aK:=Xc aA (show wr.drew.cell? _=_ from e1);have aL:=Xc aA (show wr.drew.cell? _=_ from e2);have aM:=Xc aA (show wr.drew.cell? _=_ from e3);have aN:=Xc aA (show wr.drew.cell? _=_ from e4);have aP:=Xc aA (show wr.drew.cell? _=_ from r0);have aQ:=Xc aA (show wr.drew.cell? _=_ from r1);have aR:=Xc aA (show wr.drew.cell? _=_ from r2);have aS:=Xc aA (show wr.drew.cell? _=_ from r3);have aT:=Xc aA (show wr.drew.cell? _=_ from r4);have bB:=Lh (aC.o.then ((show Below wr.heap.size wr wr.drew from Xh Br 1).then aA));clear aA))
     clear c0 c1 c2 m0 e1 e2 e3 e4 r0 r1 r2 r3 r4 aH aI aJ aO aK aL aM aN aP aQ aR aS aT
     have bC:=Lh (aD.o.then bB.o)
     go_wp2
     go_ret
     exact Zz aB.o bC.o
   ·have dk:decide ((k:Int)<(n:Int) - 1)=false:=by simp;omega
    have dg:decide ((-1:Int)<0)=true:=δ
    have bH:Hid (Yx c fs ⟨kind,node,field,value,fault⟩ k f↔Q6 c f ⟨kind,node,field,value,fault⟩ (-1)):=Lh (Xgu (by have:=HN.o;omega))
    clear hf bV bX
    by_cases hF:Q6 c f ⟨kind,node,field,value,fault⟩ (-1)
    ·have bE:pB (Q6 c f ⟨kind,node,field,value,fault⟩ (-1))=true:=Kh hF
     have bY:Hid (Yx c fs ⟨kind,node,field,value,fault⟩ k f):=Lh (bH.o.2 hF)
     clear hF
     go_upto_region 21 with fail
     go_region_held3 (fun V=>V.cell? (π w.heap.size 0)=some (σ fa c.fields.length fc)/\V.cell? (π w.heap.size 1)=some (ι c.globals)/\V.cell? (π w.heap.size 2)=some (σ ga c.funcs.length gc)/\V.cell? (π (w.heap.size+1) 0)=some (σ (some (π sb so)) n mc)/\V.cell? (π sb (so+k*4))=some (ι f.fn)/\V.cell? (π sb (so+k*4+1))=some (ι f.pc)/\V.cell? (π sb (so+k*4+2))=some (σ la f.locals.length lc)/\V.cell? (π sb (so+k*4+3))=some (σ sa f.stack.length sc)/\V.cell? (π rb 0)=some (ι kind)/\V.cell? (π rb 1)=some (ι node)/\V.cell? (π rb 2)=some (ι field)/\V.cell? (π rb 3)=some (ι value)/\V.cell? (π rb 4)=some (ι fault))
      (first|with_reducible exact ⟨aH,aI,aJ,aO,aK,aL,aM,aN,aP,aQ,aR,aS,aT⟩|exact ⟨c0,c1,c2,m0,e1,e2,e3,e4,r0,r1,r2,r3,r4⟩)
      (first|(go_at_call 132;refine (Xaj hs hsm f (-1) kind node field value fault la sa lc sc fa ga fc gc B wr.drew aU bP.o bQ.o bR.o bS.2).mono ?_;rintro e w5 ⟨rfl,aA⟩;rw [bE];have aH:=Xc aA (show wr.drew.cell? _=_ from c0);have aI:=Xc aA (show wr.drew.cell? _=_ from c1);have aJ:=Xc aA (show wr.drew.cell? _=_ from c2);have aO:=Xc aA (show wr.drew.cell? _=_ from m0);have aK:=Xc aA (show wr.drew.cell? _=_ from e1);have aL:=Xc aA (show wr.drew.cell? _=_ from e2);have aM:=Xc aA (show wr.drew.cell? _=_ from e3);have aN:=Xc aA (show wr.drew.cell? _=_ from e4);have aP:=Xc aA (show wr.drew.cell? _=_ from r0);have aQ:=Xc aA (show wr.drew.cell? _=_ from r1);have aR:=Xc aA (show wr.drew.cell? _=_ from r2);have aS:=Xc aA (show wr.drew.cell? _=_ from r3);have aT:=Xc aA (show wr.drew.cell? _=_ from r4);have bB:=Lh (aC.o.then ((show Below wr.heap.size wr wr.drew from Xh Br 1).then aA));clear aA))
     have aG:Hid ((∀ j,j<k+1->∀ f,fs[j]?=some f->Yx c fs ⟨kind,node,field,value,fault⟩ j f)/\Below W3.heap.size W3 w5):=Lh ⟨fun j hj g' bN=>by
      by_cases cB:j<k
      ·exact bA.o j cB g' bN
      ·obtain rfl:j=k:=ω
       have:=bI.o
       rw [bN] at this
       cases this
       exact bY.o,bB.o⟩
     clear c0 c1 c2 m0 e1 e2 e3 e4 r0 r1 r2 r3 r4 aH aI aJ aO aK aL aM aN aP aQ aR aS aT
     go_wp2
     go_roundw
     case rel=>exact ⟨k+1,ω,by go_num,aG⟩
     case measure=>simp [intOf];omega
    ·have bE:pB (Q6 c f ⟨kind,node,field,value,fault⟩ (-1))=false:=K8 hF
     have aB:Hid (¬Yf c M):=Lh (fun h=>hF (bH.o.1 ((aE.o.1 h).2 k f bI.o)))
     clear hF
     go_upto_region 21 with fail
     go_region_held3 (fun V=>V.cell? (π w.heap.size 0)=some (σ fa c.fields.length fc)/\V.cell? (π w.heap.size 1)=some (ι c.globals)/\V.cell? (π w.heap.size 2)=some (σ ga c.funcs.length gc)/\V.cell? (π (w.heap.size+1) 0)=some (σ (some (π sb so)) n mc)/\V.cell? (π sb (so+k*4))=some (ι f.fn)/\V.cell? (π sb (so+k*4+1))=some (ι f.pc)/\V.cell? (π sb (so+k*4+2))=some (σ la f.locals.length lc)/\V.cell? (π sb (so+k*4+3))=some (σ sa f.stack.length sc)/\V.cell? (π rb 0)=some (ι kind)/\V.cell? (π rb 1)=some (ι node)/\V.cell? (π rb 2)=some (ι field)/\V.cell? (π rb 3)=some (ι value)/\V.cell? (π rb 4)=some (ι fault))
      (first|with_reducible exact ⟨aH,aI,aJ,aO,aK,aL,aM,aN,aP,aQ,aR,aS,aT⟩|exact ⟨c0,c1,c2,m0,e1,e2,e3,e4,r0,r1,r2,r3,r4⟩)
      (first|(go_at_call 132;refine (Xaj hs hsm f (-1) kind node field value fault la sa lc sc fa ga fc gc B wr.drew aU bP.o bQ.o bR.o bS.2).mono ?_;rintro e w5 ⟨rfl,aA⟩;rw [bE];have aH:=Xc aA (show wr.drew.cell? _=_ from c0);have aI:=Xc aA (show wr.drew.cell? _=_ from c1);have aJ:=Xc aA (show wr.drew.cell? _=_ from c2);have aO:=Xc aA (show wr.drew.cell? _=_ from m0);have aK:=Xc aA (show wr.drew.cell? _=_ from e1);have aL:=Xc aA (show wr.drew.cell? _=_ from e2);have aM:=Xc aA (show wr.drew.cell? _=_ from e3);have aN:=Xc aA (show wr.drew.cell? _=_ from e4);have aP:=Xc aA (show wr.drew.cell? _=_ from r0);have aQ:=Xc aA (show wr.drew.cell? _=_ from r1);have aR:=Xc aA (show wr.drew.cell? _=_ from r2);have aS:=Xc aA (show wr.drew.cell? _=_ from r3);have aT:=Xc aA (show wr.drew.cell? _=_ from r4);have bB:=Lh (aC.o.then ((show Below wr.heap.size wr wr.drew from Xh Br 1).then aA));clear aA))
     clear c0 c1 c2 m0 e1 e2 e3 e4 r0 r1 r2 r3 r4 aH aI aJ aO aK aL aM aN aP aQ aR aS aT
     have bC:=Lh (aD.o.then bB.o)
     go_wp2
     go_ret
     exact Zz aB.o bC.o
