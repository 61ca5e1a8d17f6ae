import Derived.Test.YtiejafonjemioaaGreatDoorVld3
import Derived.Test.YtiejafonjemioaaGreatDoorCpy3
set_option maxHeartbeats 4000000
set_option maxRecDepth 1000000
set_option linter.unusedVariables false
set_option linter.unusedSimpArgs false
open Go.Value renaming slice→σ
open Go.Obj renaming cells→χ
namespace Go.Proofs.YtiejafonjemioaaGreatDoor
open Go.RowKit
variable {r:Rq} {c:Cod} {f:Fra} {m:Mch} {fs:List Fra}
structure Yf (c:Cod) (m:Mch):Prop where
 sound:Xv c
 fuel:0<=m.fuel/\m.fuel<=1048576
 cmp:0<=m.compares/\m.compares<=1099511627776
 idle:0<=m.idle/\m.idle<=100000
 len:m.frames.length<=200
 body:(m.frames=[]/\Qx m.req=true)\/(m.frames≠[]/\∀ k f,m.frames[k]?=some f->Yx c m.frames m.req k f)
theorem Xer (c:Cod) (cv:Value) (m:Mch) (fv:Value) (B:Nat) (w:World) (hL:Qa w) (hB:B<=w.heap.size) (hc:Yj B w cv c) (hm:Xf B w 4 (Qp B) fv m.frames) (hsm:Zb c) :
  Calls Tryz.prog 128 #[cv,Xi fv m] w fun e w'=>e=.returned (.bool (pB (Yf c m)))/\Below w.heap.size w w':=by
 obtain ⟨cf,cg,rfl,aD,aE,aF⟩:=id hc
 obtain ⟨fa,fc,rfl⟩:=aD.form
 obtain ⟨ga,gc,rfl⟩:=aE.form
 obtain ⟨ma,mc,rfl⟩:=hm.form
 obtain ⟨fs,⟨kind,node,field,value,fault⟩,fuel,compares,idle⟩:=m
 unfold Xi Xb
 dsimp only at *
 by_cases hn:Xv c/\¬fuel<0/\¬1048576<fuel/\¬compares<0/\¬1099511627776<compares/\¬idle<0/\¬100000<idle/\¬200<(fs.length:Int)
 rotate_left
 ·rw [K8 (fun h=>hn ⟨h.sound,by have:=h.fuel.1;simp at this;omega,by have:=h.fuel.2;simp at this;omega,by have:=h.cmp.1;simp at this;omega,by have:=h.cmp.2;simp at this;omega,by have:=h.idle.1;simp at this;omega,by have:=h.idle.2;simp at this;omega,by have:=h.len;simp at this;omega⟩)]
  exact Xly c fs kind node field value fault fuel compares idle fa ga ma fc gc mc B w hL hB hc hn
 obtain ⟨hs,h0,h1,h2,h3,h4,h5,h6⟩:=hn
 by_cases aC:fs=[]
 ·subst aC
  have aA:pB (Yf c ⟨[],⟨kind,node,field,value,fault⟩,fuel,compares,idle⟩)=Qx ⟨kind,node,field,value,fault⟩:=by
   cases he:Qx ⟨kind,node,field,value,fault⟩ with
   | true=>exact Kh ⟨hs,⟨by show 0<=fuel;omega,by show fuel<=_;omega⟩,⟨by show 0<=compares;omega,by show compares<=_;omega⟩,⟨by show 0<=idle;omega,by show idle<=_;omega⟩,ψ,.inl ⟨rfl,he⟩⟩
   | false=>exact K8 (fun h=>by
     rcases h.body with ⟨_,h⟩|⟨h,_⟩
     ·rw [he] at h;cases h
     ·exact h rfl)
  rw [aA]
  exact Xjs c kind node field value fault fuel compares idle fa ga ma fc gc mc B w hL hB hc hs h0 h1 h2 h3 h4 h5
 ·have aA:pB (Yf c ⟨fs,⟨kind,node,field,value,fault⟩,fuel,compares,idle⟩)=pB (∀ k f,fs[k]?=some f->Yx c fs ⟨kind,node,field,value,fault⟩ k f):=by
   by_cases aB:∀ k f,fs[k]?=some f->Yx c fs ⟨kind,node,field,value,fault⟩ k f
   ·rw [Kh aB]
    exact Kh ⟨hs,⟨by show 0<=fuel;omega,by show fuel<=_;omega⟩,⟨by show 0<=compares;omega,by show compares<=_;omega⟩,⟨by show 0<=idle;omega,by show idle<=_;omega⟩,by show fs.length<=200;omega,.inr ⟨aC,aB⟩⟩
   ·rw [K8 aB]
    exact K8 (fun h=>by
     rcases h.body with ⟨h,_⟩|⟨_,h⟩
     ·exact aC h
     ·exact aB h)
  rw [aA]
  exact Xjn c fs kind node field value fault fuel compares idle fa ga ma fc gc mc B w hL hB hc hm hs hsm h0 h1 h2 h3 h4 h5 h6 (by cases fs with|nil=>exact absurd rfl aC|cons _ _=>simp)
theorem Xpe {x:Ins} (h:Xr x r=true):Xf1 x r:=by
 have aF:=Xa9 h
 obtain ⟨kind,node,field,value,fault⟩:=r
 unfold Xr at h
 simp only [Bool.and_eq_true,beq_iff_eq,Bool.not_eq_true',beq_eq_false_iff_ne,ne_eq,Bool.or_eq_true] at h
 obtain ⟨⟨⟨⟨⟨aG,hk⟩,hn⟩,hf⟩,aE⟩,hv⟩:=h
 subst hf aE
 have aD:Xy x.op=2->isV value:=fun e=>by
  rcases hv with hv|⟨_,hv⟩
  ·rw [hv];unfold isV;omega
  ·exact Ye.1 hv
 have aC:Xy x.op≠2->value=0:=fun e=>by
  rcases hv with hv|⟨h2,_⟩
  ·exact hv
  ·exact absurd h2 e
 rcases aF with e|e|e|e|e
 ·have aA:Xy x.op=1:=by rw [e];rfl
  have aB:node=0:=by rw [e] at hn;simpa [X4] using hn
  rw [aA] at hk
  have:=aC (by rw [aA];decide)
  subst hk aB this
  exact .inl ⟨e,rfl⟩
 ·have aA:Xy x.op=2:=by rw [e];rfl
  have aB:node=0:=by rw [e] at hn;simpa [X4] using hn
  rw [aA] at hk
  have:=aD aA
  subst hk aB
  exact .inr (.inl ⟨value,e,this,rfl⟩)
 ·have aA:Xy x.op=1:=by rw [e];rfl
  have aB:1<=node/\node<=1099511627776:=by rw [e] at hn;simpa [X4] using hn
  rw [aA] at hk
  have:=aC (by rw [aA];decide)
  subst hk this
  exact .inr (.inr (.inl ⟨node,e,aB.1,⟨ω,aB.2⟩,rfl⟩))
 ·have aA:Xy x.op=2:=by rw [e];rfl
  have aB:1<=node/\node<=1099511627776:=by rw [e] at hn;simpa [X4] using hn
  rw [aA] at hk
  have:=aD aA
  subst hk
  exact .inr (.inr (.inr (.inl ⟨node,value,e,aB.1,⟨ω,aB.2⟩,this,rfl⟩)))
 ·have aA:Xy x.op=3:=by rw [e];rfl
  have aB:node=0:=by rw [e] at hn;simpa [X4] using hn
  rw [aA] at hk
  have:=aC (by rw [aA];decide)
  subst hk aB this
  exact .inr (.inr (.inr (.inr ⟨e,rfl⟩)))
theorem Jb.imp {P Q:Ins->Prop} (h:Jb c f P) (hpq:∀ x,P x->Q x):Jb c f Q:=by
 obtain ⟨y,x,hh,h1,h2,h3,h4,h5⟩:=h
 exact ⟨y,x,hh,h1,h2,h3,hpq x h4,h5⟩
theorem Xho :∀ (n:Nat) (fs:List Fra) (g:Fra),fs.length=n->(∀ k f,fs[k]?=some f->Jb c f (fun x=>x.op=9/\∃ g',(fs++[g])[k+1]?=some g'/\x.a=g'.fn))->Vr c fs.reverse g.fn
 | 0,fs,g,hn,_=>by
  rw [List.eq_nil_of_length_eq_zero hn];trivial
 | n+1,fs,g,hn,h=>by
  rcases List.eq_nil_or_concat fs with h0|⟨aB,f',rfl⟩
  ·rw [h0] at hn;simp at hn
  ·simp only [List.concat_eq_append] at *
   rw [List.reverse_append]
   simp at hn
   refine ⟨?_,Xho n aB f' hn (fun k f hf=>?_)⟩
   ·refine (h aB.length f' ψ).imp (fun x hx=>⟨hx.1,?_⟩)
    obtain ⟨_,g',aA,ha⟩:=hx
    rw [Ar ψ] at aA
    simp at aA
    subst aA
    exact ha
   ·have hk:k<aB.length:=(Ll hf)
    refine (h k f (by rw [Al hk];exact hf)).imp (fun x hx=>⟨hx.1,?_⟩)
    obtain ⟨_,g',aA,ha⟩:=hx
    refine ⟨g',?_,ha⟩
    rw [Al φ] at aA
    exact aA
theorem Yf.waits (h:Yf c m) (h4:m.req.kind≠4) (h5:m.req.kind≠5):∃ fs f,Qr c m m.req fs f:=by
 rcases h.body with ⟨_,he⟩|⟨aD,aA⟩
 ·unfold Qx at he
  rw [if_neg h4,if_neg h5] at he
  cases he
 ·rcases List.eq_nil_or_concat m.frames with h0|⟨fs,f,hf⟩
  ·exact absurd h0 aD
  ·simp only [List.concat_eq_append] at hf
   have aB:m.frames.length=fs.length+1:=by rw [hf];simp
   have hl:=h.len
   refine ⟨fs,f,hf,?_,?_,ω⟩
   ·have:=aA fs.length f (by rw [hf];simp)
    unfold Yx at this
    simp only [aB] at this
    exact this.imp (fun x hx=>Xpe (by simpa using hx))
   ·refine Xho fs.length fs f rfl (fun k f' hk=>?_)
    have aC:k<fs.length:=(Ll hk)
    have:=aA k f' (by rw [hf,Al aC];exact hk)
    unfold Yx at this
    refine this.imp (fun x hx=>?_)
    rw [if_neg ω,hf] at hx
    exact hx
theorem Yf.nums (h:Yf c m):Ug m:=by
 have h1:=h.fuel
 have h2:=h.cmp
 have h3:=h.idle
 exact ⟨h1.1,h3.1,h3.2,h2.1,by unfold pot;omega⟩
theorem Yf.kind (h:Yf c m):m.req.kind=1\/m.req.kind=2\/m.req.kind=3\/m.req.kind=4\/m.req.kind=5:=by
 by_cases h4:m.req.kind=4
 ·omega
 by_cases h5:m.req.kind=5
 ·omega
 obtain ⟨fs,f,hw⟩:=h.waits h4 h5
 obtain ⟨_,x,_,_,_,_,ha,_⟩:=hw.top
 have:=Ua ha
 omega
theorem Qr.small (hs:Xv c) (hsm:Zb c) (h:Qr c m r fs f):∀ g∈m.frames,g.locals.length<=100/\g.stack.length<=100000:=by
 have aA:∀ g P,Jb c g P->g.locals.length<=100/\g.stack.length<=100000:=fun g P ⟨y,x,hh,hb,h1,hx,_,hr,hl⟩=>by
  have h2:=Qu (hs.wf hb.fn) (hs.snd hb.fn) hr
  have h3:=hsm y (Lm hb.fn)
  have h4:=((hs.wf hb.fn).pops x (Lm hx)).1
  have h5:=hs.fok hb.fn
  have h6:=hb.loc
  unfold Zr at h5
  omega
 have low:∀ (l:List Fra) (k:Int),Vr c l k->∀ g∈l,g.locals.length<=100/\g.stack.length<=100000:=by
  intro l
  induction l with
  | nil=>intro _ _ g hg;simp at hg
  | cons a l ih=>
   intro k hl g hg
   rw [List.mem_cons] at hg
   rcases hg with rfl|hg
   ·exact aA _ _ hl.1
   ·exact ih _ hl.2 g hg
 intro g hg
 rw [h.fr,List.mem_append,List.mem_singleton] at hg
 rcases hg with hg|rfl
 ·exact low _ _ h.low g (List.mem_reverse.2 hg)
 ·exact aA _ _ h.top
def Xe8 (c:Cod) (m:Mch) (n:Int) (w:World) (e:Ending) (w':World):Prop:=
 (¬Yf c m/\e=.returned (.tuple #[Xi ν Xl,ι 1])/\Below w.heap.size w w')\/
 (Yf c m/\(m.req.kind=4\/m.req.kind=5)/\e=.returned (.tuple #[Xi ν Xl,ι 13])/\Below w.heap.size w w')\/
 (Yf c m/\¬(m.req.kind=4\/m.req.kind=5)/\Yr m.req n=false/\e=.returned (.tuple #[Xi ν Xl,ι 2])/\Below w.heap.size w w')\/
 (Yf c m/\¬(m.req.kind=4\/m.req.kind=5)/\Yr m.req n=true/\∃ m' fv,Jv c m n m'/\e=.returned (.tuple #[Xi fv m',ι 0])/\Qq w fv m' w')
theorem Kb (hs:Xv c) (hsm:Zb c) {w:World} {bm:Nat} {F:List Nat} (fa ga:Option Addr) (fn fc gc:Nat) (g n:Int) (hwt:Qr c m m.req fs f) (hnum:Ug m) (hO:X3 w bm m F)
  (B:Nat) (hB:∀ b∈F,B<=b) (hfs:Xf B w 5 (Zl B) (σ ga c.funcs.length gc) c.funcs) (ha:Yr m.req n=true) :
  Calls Tryz.prog 116 #[.agg #[σ fa fn fc,ι g,σ ga c.funcs.length gc],.pointer (some (π bm 0)),ι n] w (Jz c m n bm F w):=by
 obtain ⟨_,x,_,_,_,_,aA,_⟩:=hwt.top
 unfold Yr at ha
 rcases Ua aA with hk|hk|hk
 ·rw [if_pos hk] at ha
  exact Xiv hs hsm fa ga fn fc gc g n hwt hnum hO B hB hfs hk (Ye.1 ha)
 ·exact Xpd hs hsm fa ga fn fc gc g n hwt hnum hO B hB hfs hk
 ·rw [if_neg ω,if_pos hk] at ha
  have hv:isV n:=by simp at ha;unfold isV;omega
  by_cases hn:n=0
  ·exact Xmu hs hsm fa ga fn fc gc g n hwt hnum hO B hB hfs hk hn
  ·exact Xju hs hsm fa ga fn fc gc g n hwt hnum hO B hB hfs hk hv hn
theorem Xhv (c:Cod) (cv:Value) (m:Mch) (fv:Value) (n:Int) (B:Nat) (w:World) (hL:Qa w) (hB:B<=w.heap.size) (hc:Yj B w cv c) (hm:Xf B w 4 (Qp B) fv m.frames) (hsm:Zb c) :
  Calls Tryz.prog 104 #[cv,Xi fv m,ι n] w (Xe8 c m n w):=by
 have HC:=Lh hc
 have HM:=Lh hm
 have HL:=Lh hL
 obtain ⟨cf,cg,rfl,cI,bV,bX⟩:=hc
 obtain ⟨fa,fc,rfl⟩:=cI.form
 have HG:=Lh bV
 obtain ⟨ga,gc,rfl⟩:=bV.form
 obtain ⟨ma,mc,rfl⟩:=hm.form
 obtain ⟨fs,⟨kind,node,field,value,fault⟩,fuel,compares,idle⟩:=m
 dsimp only at HM
 unfold Xi Xb
 dsimp only
 obtain ⟨W,hW⟩:∃ W,W=((w.alloc (χ (Bc fa fc ga gc c) 25)).alloc (χ #[σ ma fs.length mc,ι kind,ι node,ι field,ι value,ι fault,ι fuel,ι compares,ι idle] 51)).alloc (χ #[ν,ι 0,ι 0,ι 0,ι 0,ι 0,ι 0,ι 0,ι 0] 51):=⟨_,rfl⟩
 have aX:Hid (Below w.heap.size w W):=by rw [hW];exact ((Xa _ _).then (Xa _ _)).then (Xa _ _)
 have aY:Hid (W.heap.size=w.heap.size+3):=by rw [hW];exact Lh ψ
 have b0:Hid (Xo W w.heap.size [σ fa c.fields.length fc,ι c.globals,σ ga c.funcs.length gc]):=by rw [hW];exact Lh (Xd.alloc _ |>.alloc _)
 have b1:Hid (W.heap[w.heap.size+1]?=some (χ (Xb (σ ma fs.length mc) ⟨fs,⟨kind,node,field,value,fault⟩,fuel,compares,idle⟩) 51 (0,0))):=by
  rw [hW,Ha _ _ _ ψ]
  have:=Hn (w.alloc (χ (Bc fa fc ga gc c) 25)) (χ #[σ ma fs.length mc,ι kind,ι node,ι field,ι value,ι fault,ι fuel,ι compares,ι idle] 51)
  exact Lh (by simpa [Xb] using this)
 have b2:Hid (W.heap[w.heap.size+1+1]?=some (χ #[ν,ι 0,ι 0,ι 0,ι 0,ι 0,ι 0,ι 0,ι 0] 51 (0,0))):=by
  rw [hW]
  have:=Hn ((w.alloc (χ (Bc fa fc ga gc c) 25)).alloc (χ #[σ ma fs.length mc,ι kind,ι node,ι field,ι value,ι fault,ι fuel,ι compares,ι idle] 51)) (χ #[ν,ι 0,ι 0,ι 0,ι 0,ι 0,ι 0,ι 0,ι 0] 51)
  exact Lh (by simpa using this)
 have i0:=b0.o 0 _ rfl
 have i1:=b0.o 1 _ rfl
 have i2:=b0.o 2 _ rfl
 have m0:=Xe b1.o 0 (σ ma fs.length mc) rfl
 have m1:=Xe b1.o 1 (ι kind) rfl
 have m2:=Xe b1.o 2 (ι node) rfl
 have m3:=Xe b1.o 3 (ι field) rfl
 have m4:=Xe b1.o 4 (ι value) rfl
 have m5:=Xe b1.o 5 (ι fault) rfl
 have m6:=Xe b1.o 6 (ι fuel) rfl
 have m7:=Xe b1.o 7 (ι compares) rfl
 have m8:=Xe b1.o 8 (ι idle) rfl
 have z0:w.heap.size<W.heap.size:=by have:=aY.o;omega
 have z1:w.heap.size+1<W.heap.size:=by have:=aY.o;omega
 have cS:B<=W.heap.size:=ω
 have cK:=Lh (HC.o.below (aX.o.mono hB))
 have cN:=Lh (HM.o.fras (aX.o.mono hB))
 clear cI bV hm hL bX
 go_enter Tryz.func104,Tryz.ntmps104
 go_upto_region 1 with fail
 rw [<-hW]
 have HW:=Lh hW
 clear hW
 go_wp2_with fail
 refine (Xer c _ ⟨fs,⟨kind,node,field,value,fault⟩,fuel,compares,idle⟩ _ B W (HL.o.below aX.o) cS cK.o cN.o hsm).mono ?_
 rintro e w1 ⟨rfl,aC⟩
 have i0:=Xc aC i0
 have i1:=Xc aC i1
 have i2:=Xc aC i2
 have m0:=Xc aC m0
 have m1:=Xc aC m1
 have m2:=Xc aC m2
 have m3:=Xc aC m3
 have m4:=Xc aC m4
 have m5:=Xc aC m5
 have m6:=Xc aC m6
 have m7:=Xc aC m7
 have m8:=Xc aC m8
 have z0:=Bl i0
 have z1:=Bl m0
 have aF:=Lh (aX.o.then aC)
 have r1:Hid (w1.heap[w.heap.size+1+1]?=some (χ #[ν,ι 0,ι 0,ι 0,ι 0,ι 0,ι 0,ι 0,ι 0] 51 (0,0))):=Lh (by rw [aC.block _ (by have:=aY.o;omega)];exact b2.o)
 have e1:Hid (w1.heap[w.heap.size+1]?=some (χ (Xb (σ ma fs.length mc) ⟨fs,⟨kind,node,field,value,fault⟩,fuel,compares,idle⟩) 51 (0,0))):=Lh (by rw [aC.block _ (by have:=aY.o;omega)];exact b1.o)
 clear aC
 by_cases hv:Yf c ⟨fs,⟨kind,node,field,value,fault⟩,fuel,compares,idle⟩
 rotate_left
 ·rw [K8 hv]
  have rc:∀ (j:Nat) (v:Value),(#[ν,ι 0,ι 0,ι 0,ι 0,ι 0,ι 0,ι 0,ι 0]:Array Value)[j]?=some v->w1.cell? (π (w.heap.size+1+1) j)=some v:=fun j v hv=>by rw [cell_of_row _ _ _ _ _ _ r1.o];exact hv
  have bA:=rc 0 ν rfl
  have bJ:w1.frozen? (π (w.heap.size+1+1) 0)=false:=Fz r1.o
  have bB:=rc 1 (ι 0) rfl
  have bK:w1.frozen? (π (w.heap.size+1+1) 1)=false:=Fz r1.o
  have bC:=rc 2 (ι 0) rfl
  have bL:w1.frozen? (π (w.heap.size+1+1) 2)=false:=Fz r1.o
  have bD:=rc 3 (ι 0) rfl
  have bM:w1.frozen? (π (w.heap.size+1+1) 3)=false:=Fz r1.o
  have bE:=rc 4 (ι 0) rfl
  have bN:w1.frozen? (π (w.heap.size+1+1) 4)=false:=Fz r1.o
  have bF:=rc 5 (ι 0) rfl
  have bO:w1.frozen? (π (w.heap.size+1+1) 5)=false:=Fz r1.o
  have bG:=rc 6 (ι 0) rfl
  have bP:w1.frozen? (π (w.heap.size+1+1) 6)=false:=Fz r1.o
  have bH:=rc 7 (ι 0) rfl
  have bQ:w1.frozen? (π (w.heap.size+1+1) 7)=false:=Fz r1.o
  have bI:=rc 8 (ι 0) rfl
  have bR:w1.frozen? (π (w.heap.size+1+1) 8)=false:=Fz r1.o
  have rz:=(La r1.o)
  clear rc
  have aA:=Lh (Xz (R:=w.heap.size+1+1) (fv0:=ν) (m0:=Xl) r1.o ν Xl)
  have aG:Hid (Below w.heap.size w (Yp w1 (w.heap.size+1+1) ν Xl)):=Lh (aF.o.trans (aA.o.2.below (fun b hb=>by simp at hb;omega) aF.o.size))
  go_wp2
  exact bodyPost_ret (Y6 rfl aA.o.1 _ _ rfl rfl) rfl (.inl ⟨hv,rfl,aG.o⟩)
 rw [Kh hv]
 have HV:=Lh hv
 clear hv
 by_cases hk:kind=4\/kind=5
 ·have HK:=Lh hk
  rcases hk with hk|hk
  ·subst hk
   have rc:∀ (j:Nat) (v:Value),(#[ν,ι 0,ι 0,ι 0,ι 0,ι 0,ι 0,ι 0,ι 0]:Array Value)[j]?=some v->w1.cell? (π (w.heap.size+1+1) j)=some v:=fun j v hv=>by rw [cell_of_row _ _ _ _ _ _ r1.o];exact hv
   have bA:=rc 0 ν rfl
   have bJ:w1.frozen? (π (w.heap.size+1+1) 0)=false:=Fz r1.o
   have bB:=rc 1 (ι 0) rfl
   have bK:w1.frozen? (π (w.heap.size+1+1) 1)=false:=Fz r1.o
   have bC:=rc 2 (ι 0) rfl
   have bL:w1.frozen? (π (w.heap.size+1+1) 2)=false:=Fz r1.o
   have bD:=rc 3 (ι 0) rfl
   have bM:w1.frozen? (π (w.heap.size+1+1) 3)=false:=Fz r1.o
   have bE:=rc 4 (ι 0) rfl
   have bN:w1.frozen? (π (w.heap.size+1+1) 4)=false:=Fz r1.o
   have bF:=rc 5 (ι 0) rfl
   have bO:w1.frozen? (π (w.heap.size+1+1) 5)=false:=Fz r1.o
   have bG:=rc 6 (ι 0) rfl
   have bP:w1.frozen? (π (w.heap.size+1+1) 6)=false:=Fz r1.o
   have bH:=rc 7 (ι 0) rfl
   have bQ:w1.frozen? (π (w.heap.size+1+1) 7)=false:=Fz r1.o
   have bI:=rc 8 (ι 0) rfl
   have bR:w1.frozen? (π (w.heap.size+1+1) 8)=false:=Fz r1.o
   have rz:=(La r1.o)
   clear rc
   have aA:=Lh (Xz (R:=w.heap.size+1+1) (fv0:=ν) (m0:=Xl) r1.o ν Xl)
   have aG:Hid (Below w.heap.size w (Yp w1 (w.heap.size+1+1) ν Xl)):=Lh (aF.o.trans (aA.o.2.below (fun b hb=>by simp at hb;omega) aF.o.size))
   go_wp2
   exact bodyPost_ret (Y6 rfl aA.o.1 _ _ rfl rfl) rfl (.inr (.inl ⟨HV.o,.inl rfl,rfl,aG.o⟩))
  ·subst hk
   have rc:∀ (j:Nat) (v:Value),(#[ν,ι 0,ι 0,ι 0,ι 0,ι 0,ι 0,ι 0,ι 0]:Array Value)[j]?=some v->w1.cell? (π (w.heap.size+1+1) j)=some v:=fun j v hv=>by rw [cell_of_row _ _ _ _ _ _ r1.o];exact hv
   have bA:=rc 0 ν rfl
   have bJ:w1.frozen? (π (w.heap.size+1+1) 0)=false:=Fz r1.o
   have bB:=rc 1 (ι 0) rfl
   have bK:w1.frozen? (π (w.heap.size+1+1) 1)=false:=Fz r1.o
   have bC:=rc 2 (ι 0) rfl
   have bL:w1.frozen? (π (w.heap.size+1+1) 2)=false:=Fz r1.o
   have bD:=rc 3 (ι 0) rfl
   have bM:w1.frozen? (π (w.heap.size+1+1) 3)=false:=Fz r1.o
   have bE:=rc 4 (ι 0) rfl
   have bN:w1.frozen? (π (w.heap.size+1+1) 4)=false:=Fz r1.o
   have bF:=rc 5 (ι 0) rfl
   have bO:w1.frozen? (π (w.heap.size+1+1) 5)=false:=Fz r1.o
   have bG:=rc 6 (ι 0) rfl
   have bP:w1.frozen? (π (w.heap.size+1+1) 6)=false:=Fz r1.o
   have bH:=rc 7 (ι 0) rfl
   have bQ:w1.frozen? (π (w.heap.size+1+1) 7)=false:=Fz r1.o
   have bI:=rc 8 (ι 0) rfl
   have bR:w1.frozen? (π (w.heap.size+1+1) 8)=false:=Fz r1.o
   have rz:=(La r1.o)
   clear rc
   have aA:=Lh (Xz (R:=w.heap.size+1+1) (fv0:=ν) (m0:=Xl) r1.o ν Xl)
   have aG:Hid (Below w.heap.size w (Yp w1 (w.heap.size+1+1) ν Xl)):=Lh (aF.o.trans (aA.o.2.below (fun b hb=>by simp at hb;omega) aF.o.size))
   go_wp2
   exact bodyPost_ret (Y6 rfl aA.o.1 _ _ rfl rfl) rfl (.inr (.inl ⟨HV.o,.inr rfl,rfl,aG.o⟩))
 have HK:=Lh hk
 have dI:(kind == 4)=false:=by simp;omega
 have dJ:(kind == 5)=false:=by simp;omega
 clear hk
 go_wp2_with fail
 refine (Xjt ⟨kind,node,field,value,fault⟩ n w1).mono ?_
 rintro e w2 ⟨rfl,aD⟩
 have i0:=Xc aD i0
 have i1:=Xc aD i1
 have i2:=Xc aD i2
 have m0:=Xc aD m0
 have m1:=Xc aD m1
 have m2:=Xc aD m2
 have m3:=Xc aD m3
 have m4:=Xc aD m4
 have m5:=Xc aD m5
 have m6:=Xc aD m6
 have m7:=Xc aD m7
 have m8:=Xc aD m8
 have z0:=Bl i0
 have z1:=Bl m0
 have aP:=Lh (aF.o.then aD)
 have r2:Hid (w2.heap[w.heap.size+1+1]?=some (χ #[ν,ι 0,ι 0,ι 0,ι 0,ι 0,ι 0,ι 0,ι 0] 51 (0,0))):=Lh (by rw [aD.block _ (La r1.o)];exact r1.o)
 have e2:Hid (w2.heap[w.heap.size+1]?=some (χ (Xb (σ ma fs.length mc) ⟨fs,⟨kind,node,field,value,fault⟩,fuel,compares,idle⟩) 51 (0,0))):=Lh (by rw [aD.block _ (La e1.o)];exact e1.o)
 clear aD
 cases ha:Yr ⟨kind,node,field,value,fault⟩ n with
 | false=>
  have HA:=Lh ha
  clear ha
  have rc:∀ (j:Nat) (v:Value),(#[ν,ι 0,ι 0,ι 0,ι 0,ι 0,ι 0,ι 0,ι 0]:Array Value)[j]?=some v->w2.cell? (π (w.heap.size+1+1) j)=some v:=fun j v hv=>by rw [cell_of_row _ _ _ _ _ _ r2.o];exact hv
  have bA:=rc 0 ν rfl
  have bJ:w2.frozen? (π (w.heap.size+1+1) 0)=false:=Fz r2.o
  have bB:=rc 1 (ι 0) rfl
  have bK:w2.frozen? (π (w.heap.size+1+1) 1)=false:=Fz r2.o
  have bC:=rc 2 (ι 0) rfl
  have bL:w2.frozen? (π (w.heap.size+1+1) 2)=false:=Fz r2.o
  have bD:=rc 3 (ι 0) rfl
  have bM:w2.frozen? (π (w.heap.size+1+1) 3)=false:=Fz r2.o
  have bE:=rc 4 (ι 0) rfl
  have bN:w2.frozen? (π (w.heap.size+1+1) 4)=false:=Fz r2.o
  have bF:=rc 5 (ι 0) rfl
  have bO:w2.frozen? (π (w.heap.size+1+1) 5)=false:=Fz r2.o
  have bG:=rc 6 (ι 0) rfl
  have bP:w2.frozen? (π (w.heap.size+1+1) 6)=false:=Fz r2.o
  have bH:=rc 7 (ι 0) rfl
  have bQ:w2.frozen? (π (w.heap.size+1+1) 7)=false:=Fz r2.o
  have bI:=rc 8 (ι 0) rfl
  have bR:w2.frozen? (π (w.heap.size+1+1) 8)=false:=Fz r2.o
  have rz:=(La r2.o)
  clear rc
  have aA:=Lh (Xz (R:=w.heap.size+1+1) (fv0:=ν) (m0:=Xl) r2.o ν Xl)
  have aG:Hid (Below w.heap.size w (Yp w2 (w.heap.size+1+1) ν Xl)):=Lh (aP.o.trans (aA.o.2.below (fun b hb=>by simp at hb;omega) aP.o.size))
  go_wp2
  exact bodyPost_ret (Y6 rfl aA.o.1 _ _ rfl rfl) rfl (.inr (.inr (.inl ⟨HV.o,HK.o,HA.o,rfl,aG.o⟩)))
 | true=>
 have HA:=Lh ha
 clear ha
 have hs:=HV.o.sound
 obtain ⟨dG,f0,aZ⟩:=HV.o.waits (fun e=>HK.o (.inl e)) (fun e=>HK.o (.inr e))
 have cP:=Lh aZ
 have cA:=Lh (aZ.small hs hsm)
 have bZ:fs.length<=200:=HV.o.len
 have cV:0<fs.length:=by have:=congrArg List.length aZ.fr;simp at this;omega
 have cM:=Lh (HM.o.fras (aP.o.mono hB))
 have cQ:B<=w2.heap.size:=Nt hB aP.o.size
 clear aZ
 go_wp2_with fail
 refine (Xh9 ⟨fs,⟨kind,node,field,value,fault⟩,fuel,compares,idle⟩ ma mc B w2 cQ cM.o (by show fs.length<=1000;omega) (fun f hf=>by have:=cA.o f hf;omega) cV).mono ?_
 rintro e w3 ⟨ca,cc,rfl,F3,cB,aN,aL⟩
 dsimp only at cB
 have cE:=Lh cB
 have aQ:=Lh aN
 have cC:=Lh (aP.o.then aL)
 have i0:=Xc aL i0
 have i1:=Xc aL i1
 have i2:=Xc aL i2
 have r3:Hid (w3.heap[w.heap.size+1+1]?=some (χ #[ν,ι 0,ι 0,ι 0,ι 0,ι 0,ι 0,ι 0,ι 0] 51 (0,0))):=Lh (by rw [aL.block _ (La r2.o)];exact r2.o)
 have e3:Hid (w3.heap[w.heap.size+1]?=some (χ (Xb (σ ma fs.length mc) ⟨fs,⟨kind,node,field,value,fault⟩,fuel,compares,idle⟩) 51 (0,0))):=Lh (by rw [aL.block _ (La e2.o)];exact e2.o)
 have dL:=(La r2.o)
 have m0:=Xe e3.o 0 (σ ma fs.length mc) rfl
 have m1:=Xe e3.o 1 (ι kind) rfl
 have m2:=Xe e3.o 2 (ι node) rfl
 have m3:=Xe e3.o 3 (ι field) rfl
 have m4:=Xe e3.o 4 (ι value) rfl
 have m5:=Xe e3.o 5 (ι fault) rfl
 have m6:=Xe e3.o 6 (ι fuel) rfl
 have m7:=Xe e3.o 7 (ι compares) rfl
 have m8:=Xe e3.o 8 (ι idle) rfl
 have cX:w3.frozen? (π (w.heap.size+1) 0)=false:=Fz e3.o
 have cY:w3.frozen? (π (w.heap.size+1) 1)=false:=Fz e3.o
 have cZ:w3.frozen? (π (w.heap.size+1) 2)=false:=Fz e3.o
 have dA:w3.frozen? (π (w.heap.size+1) 3)=false:=Fz e3.o
 have dB:w3.frozen? (π (w.heap.size+1) 4)=false:=Fz e3.o
 have dC:w3.frozen? (π (w.heap.size+1) 5)=false:=Fz e3.o
 have dD:w3.frozen? (π (w.heap.size+1) 6)=false:=Fz e3.o
 have dE:w3.frozen? (π (w.heap.size+1) 7)=false:=Fz e3.o
 have dF:w3.frozen? (π (w.heap.size+1) 8)=false:=Fz e3.o
 have z0:=Bl i0
 have z1:=Bl m0
 have aB:=Lh (Xz e3.o (σ ca fs.length cc) ⟨fs,⟨kind,node,field,value,fault⟩,fuel,compares,idle⟩)
 obtain ⟨W4,aO⟩:∃ u,u=Yp w3 (w.heap.size+1) (σ ca fs.length cc) ⟨fs,⟨kind,node,field,value,fault⟩,fuel,compares,idle⟩:=⟨_,rfl⟩
 rw [<-aO] at aB
 have aK:w.heap.size+1∉F3:=fun e=>by have:=aN _ e;omega
 have cR:Hid (X3 W4 (w.heap.size+1) ⟨fs,⟨kind,node,field,value,fault⟩,fuel,compares,idle⟩ ((w.heap.size+1)::F3)):=Lh (Xt.2 ⟨_,F3,aB.o.1,cE.o.keep (fun b hb=>aB.o.2.block b (cE.o.lt b hb) (fun e=>aK (by rw [List.mem_singleton] at e;exact e▸hb))),rfl,aK⟩)
 have aW:Hid (Below w.heap.size w W4):=Lh (cC.o.trans (aB.o.2.below (fun b hb=>by simp at hb;omega) cC.o.size))
 have r4:Hid (W4.heap[w.heap.size+1+1]?=some (χ #[ν,ι 0,ι 0,ι 0,ι 0,ι 0,ι 0,ι 0,ι 0] 51 (0,0))):=Lh (by rw [aB.o.2.block _ (La r3.o) ψ];exact r3.o)
 have j0:=aB.o.2.cell i0 ψ
 have j1:=aB.o.2.cell i1 ψ
 have j2:=aB.o.2.cell i2 ψ
 have jz:=Bl j0
 have bW:=Lh (HG.o.funs (aW.o.mono hB))
 have bY:Hid (∀ b∈(w.heap.size+1)::F3,w.heap.size<=b):=Lh (fun b hb=>by
  rw [List.mem_cons] at hb
  rcases hb with rfl|hb
  ·omega
  ·have:=aQ.o b hb;omega)
 have cT:Hid (∀ b∈(w.heap.size+1)::F3,B<=b):=Lh (fun b hb=>Nt hB (bY.o b hb))
 have cH:w.heap.size+1+1∉(w.heap.size+1)::F3:=fun e=>by
  rw [List.mem_cons] at e
  rcases e with e|e
  ·omega
  ·have:=aQ.o _ e;omega
 have cD:=Lh cH
 unfold Yp at aO
 dsimp only at aO
 unfold Xi Xb
 dsimp only
 clear cB aN aL aK cH bZ
 go_upto_region 8 with fail
 rw [<-aO]
 have cW:=Lh aO
 clear aO
 go_wp2_with fail
 refine (Kb hs hsm fa ga c.fields.length fc gc c.globals n cP.o HV.o.nums cR.o B cT.o bW.o HA.o).mono ?_
 rintro e w5 ⟨rfl,m5,F5,cF,cG,aR⟩
 obtain ⟨dH,cJ,aE,aV,bU,cU⟩:=Xt.1 cG
 obtain ⟨aH,aI,rfl⟩:=aV.form
 obtain ⟨aJ,aM⟩:∃ n,n=m5.frames.length:=⟨_,rfl⟩
 rw [<-aM] at aE aV
 have cL:=Lh aM
 clear aM
 have r5:Hid (w5.heap[w.heap.size+1+1]?=some (χ #[ν,ι 0,ι 0,ι 0,ι 0,ι 0,ι 0,ι 0,ι 0] 51 (0,0))):=Lh (by rw [aR.block _ (La r4.o) cD.o];exact r4.o)
 have rc:∀ (j:Nat) (v:Value),(#[ν,ι 0,ι 0,ι 0,ι 0,ι 0,ι 0,ι 0,ι 0]:Array Value)[j]?=some v->w5.cell? (π (w.heap.size+1+1) j)=some v:=fun j v hv=>by rw [cell_of_row _ _ _ _ _ _ r5.o];exact hv
 have bA:=rc 0 ν rfl
 have bJ:w5.frozen? (π (w.heap.size+1+1) 0)=false:=Fz r5.o
 have bB:=rc 1 (ι 0) rfl
 have bK:w5.frozen? (π (w.heap.size+1+1) 1)=false:=Fz r5.o
 have bC:=rc 2 (ι 0) rfl
 have bL:w5.frozen? (π (w.heap.size+1+1) 2)=false:=Fz r5.o
 have bD:=rc 3 (ι 0) rfl
 have bM:w5.frozen? (π (w.heap.size+1+1) 3)=false:=Fz r5.o
 have bE:=rc 4 (ι 0) rfl
 have bN:w5.frozen? (π (w.heap.size+1+1) 4)=false:=Fz r5.o
 have bF:=rc 5 (ι 0) rfl
 have bO:w5.frozen? (π (w.heap.size+1+1) 5)=false:=Fz r5.o
 have bG:=rc 6 (ι 0) rfl
 have bP:w5.frozen? (π (w.heap.size+1+1) 6)=false:=Fz r5.o
 have bH:=rc 7 (ι 0) rfl
 have bQ:w5.frozen? (π (w.heap.size+1+1) 7)=false:=Fz r5.o
 have bI:=rc 8 (ι 0) rfl
 have bR:w5.frozen? (π (w.heap.size+1+1) 8)=false:=Fz r5.o
 have rz:=(La r5.o)
 clear rc
 have dM:=Xe aE 0 (σ aH aJ aI) rfl
 have dN:=Xe aE 1 (ι m5.req.kind) rfl
 have dO:=Xe aE 2 (ι m5.req.node) rfl
 have dP:=Xe aE 3 (ι m5.req.field) rfl
 have dQ:=Xe aE 4 (ι m5.req.value) rfl
 have dR:=Xe aE 5 (ι m5.req.fault) rfl
 have dS:=Xe aE 6 (ι m5.fuel) rfl
 have dT:=Xe aE 7 (ι m5.compares) rfl
 have dU:=Xe aE 8 (ι m5.idle) rfl
 have dK:=(La aE)
 have aA:=Lh (Xz (R:=w.heap.size+1+1) (fv0:=ν) (m0:=Xl) r5.o (σ aH aJ aI) m5)
 have aS:w.heap.size+1+1∉F5:=aR.notin (La r4.o) cD.o
 have aT:∀ b∈F5,w.heap.size<=b:=aR.ge bY.o aW.o.size
 have bT:=aW.o.trans (aR.below bY.o aW.o.size)
 have bS:Hid (Qq w (σ aH aJ aI) m5 (Yp w5 (w.heap.size+1+1) (σ aH aJ aI) m5)):=Lh ⟨cJ,aV.keep (fun b hb=>aA.o.2.block b (aV.lt b hb) (fun e=>aS (by rw [List.mem_singleton] at e;rw [bU];exact List.mem_cons_of_mem _ (e▸hb)))),fun b hb=>aT b (by rw [bU];exact List.mem_cons_of_mem _ hb),bT.trans (aA.o.2.below (fun b hb=>by simp at hb;omega) bT.size)⟩
 have cO:=Lh cF
 clear aE aV cG aR cF aT bT aS bU cU
 go_wp2_with fail
 have aU:Xe8 c ⟨fs,⟨kind,node,field,value,fault⟩,fuel,compares,idle⟩ n w (.returned (.tuple #[Xi (σ aH aJ aI) m5,ι 0])) (Yp w5 (w.heap.size+1+1) (σ aH aJ aI) m5):=.inr (.inr (.inr ⟨HV.o,HK.o,HA.o,m5,_,cO.o,rfl,bS.o⟩))
 exact bodyPost_ret (v:=.tuple #[Xi (σ aH aJ aI) m5,ι 0]) (Y6 (p:=6) (u:=7) rfl aA.o.1 _ _ rfl rfl) rfl aU
