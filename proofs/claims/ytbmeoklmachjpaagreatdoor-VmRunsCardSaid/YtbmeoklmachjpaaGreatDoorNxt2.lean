/- The contract of Valid; what a valid machine is. The contract of Next. MADE BY wip/gen_nx2.py -/
import Derived.Test.YtbmeoklmachjpaaGreatDoorVld2
import Derived.Test.YtbmeoklmachjpaaGreatDoorVld3
import Derived.Outline
set_option maxHeartbeats 4000000
set_option maxRecDepth 1000000
set_option linter.unusedVariables false
set_option linter.unusedSimpArgs false
namespace Go.Proofs.YtbmeoklmachjpaaGreatDoor
open Go.RowKit
structure Yf (c:Cod) (m:Mch):Prop where
 sound:Xv c
 fuel:0≤m.fuel∧m.fuel≤1048576
 cmp:0≤m.compares∧m.compares≤1099511627776
 idle:0≤m.idle∧m.idle≤100000
 len:m.frames.length≤200
 body:(m.frames=[]∧Qx m.req=true)∨(m.frames≠[]∧∀ k f,m.frames[k]?=some f→Yx c m.frames m.req k f)
theorem Xer (c:Cod) (cv:Value) (m:Mch) (fv:Value) (B:Nat) (w:World) (hL:Qa w) (hB:B≤w.heap.size) (hc:Yj B w cv c) (hm:Xf B w 4 (Qp B) fv m.frames) (hsm:Zb c) :
  Calls Tryz.prog 17 #[cv,Xi fv m] w fun e w'=>e=.returned (.bool (pB (Yf c m)))∧Below w.heap.size w w':=by
 obtain ⟨cf,cg,rfl,hcf,hcg,hg64⟩:=id hc
 obtain ⟨fa,fc,rfl⟩:=hcf.form
 obtain ⟨ga,gc,rfl⟩:=hcg.form
 obtain ⟨ma,mc,rfl⟩:=hm.form
 obtain ⟨fs,⟨kind,node,field,value,fault⟩,fuel,compares,idle⟩:=m
 unfold Xi Xb
 dsimp only at *
 by_cases hn:Xv c∧¬fuel<0∧¬1048576<fuel∧¬compares<0∧¬1099511627776<compares∧¬idle<0∧¬100000<idle∧¬200<(fs.length:Int)
 rotate_left
 ·rw [K8 (fun h=>hn ⟨h.sound,by have:=h.fuel.1;simp at this;omega,by have:=h.fuel.2;simp at this;omega,by have:=h.cmp.1;simp at this;omega,by have:=h.cmp.2;simp at this;omega,by have:=h.idle.1;simp at this;omega,by have:=h.idle.2;simp at this;omega,by have:=h.len;simp at this;omega⟩)]
  exact Xly c fs kind node field value fault fuel compares idle fa ga ma fc gc mc B w hL hB hc hn
 obtain ⟨hs,h0,h1,h2,h3,h4,h5,h6⟩:=hn
 by_cases hne:fs=[]
 ·subst hne
  have hbody:pB (Yf c ⟨[],⟨kind,node,field,value,fault⟩,fuel,compares,idle⟩)=Qx ⟨kind,node,field,value,fault⟩:=by
   cases he:Qx ⟨kind,node,field,value,fault⟩ with
   | true=>exact Kh ⟨hs,⟨by show 0≤fuel;omega,by show fuel≤_;omega⟩,⟨by show 0≤compares;omega,by show compares≤_;omega⟩,⟨by show 0≤idle;omega,by show idle≤_;omega⟩,by simp,.inl ⟨rfl,he⟩⟩
   | false=>exact K8 (fun h=>by
     rcases h.body with ⟨_,h⟩|⟨h,_⟩
     ·rw [he] at h;cases h
     ·exact h rfl)
  rw [hbody]
  exact Xjs c kind node field value fault fuel compares idle fa ga ma fc gc mc B w hL hB hc hs h0 h1 h2 h3 h4 h5
 ·have hbody:pB (Yf c ⟨fs,⟨kind,node,field,value,fault⟩,fuel,compares,idle⟩)=pB (∀ k f,fs[k]?=some f→Yx c fs ⟨kind,node,field,value,fault⟩ k f):=by
   by_cases hall:∀ k f,fs[k]?=some f→Yx c fs ⟨kind,node,field,value,fault⟩ k f
   ·rw [Kh hall]
    exact Kh ⟨hs,⟨by show 0≤fuel;omega,by show fuel≤_;omega⟩,⟨by show 0≤compares;omega,by show compares≤_;omega⟩,⟨by show 0≤idle;omega,by show idle≤_;omega⟩,by show fs.length≤200;omega,.inr ⟨hne,hall⟩⟩
   ·rw [K8 hall]
    exact K8 (fun h=>by
     rcases h.body with ⟨h,_⟩|⟨_,h⟩
     ·exact hne h
     ·exact hall h)
  rw [hbody]
  exact Xjn c fs kind node field value fault fuel compares idle fa ga ma fc gc mc B w hL hB hc hm hs hsm h0 h1 h2 h3 h4 h5 h6 (by cases fs with|nil=>exact absurd rfl hne|cons _ _=>simp)
theorem Xpe {x:Ins} {r:Rq} (h:Xr x r=true):Xf1 x r:=by
 have hop:=Xa9 h
 obtain ⟨kind,node,field,value,fault⟩:=r
 unfold Xr at h
 simp only [Bool.and_eq_true,beq_iff_eq,Bool.not_eq_true',beq_eq_false_iff_ne,ne_eq,Bool.or_eq_true] at h
 obtain ⟨⟨⟨⟨⟨hk0,hk⟩,hn⟩,hf⟩,hft⟩,hv⟩:=h
 subst hf hft
 have hval:Xy x.op=2→isV value:=fun e=>by
  rcases hv with hv|⟨_,hv⟩
  ·rw [hv];unfold isV;omega
  ·exact Ye.1 hv
 have hval0:Xy x.op≠2→value=0:=fun e=>by
  rcases hv with hv|⟨h2,_⟩
  ·exact hv
  ·exact absurd h2 e
 rcases hop with e|e|e|e|e
 ·have hkk:Xy x.op=1:=by rw [e];rfl
  have hnn:node=0:=by rw [e] at hn;simpa [X4] using hn
  rw [hkk] at hk
  have:=hval0 (by rw [hkk];decide)
  subst hk hnn this
  exact .inl ⟨e,rfl⟩
 ·have hkk:Xy x.op=2:=by rw [e];rfl
  have hnn:node=0:=by rw [e] at hn;simpa [X4] using hn
  rw [hkk] at hk
  have:=hval hkk
  subst hk hnn
  exact .inr (.inl ⟨value,e,this,rfl⟩)
 ·have hkk:Xy x.op=1:=by rw [e];rfl
  have hnn:1≤node∧node≤1099511627776:=by rw [e] at hn;simpa [X4] using hn
  rw [hkk] at hk
  have:=hval0 (by rw [hkk];decide)
  subst hk this
  exact .inr (.inr (.inl ⟨node,e,hnn.1,⟨by omega,hnn.2⟩,rfl⟩))
 ·have hkk:Xy x.op=2:=by rw [e];rfl
  have hnn:1≤node∧node≤1099511627776:=by rw [e] at hn;simpa [X4] using hn
  rw [hkk] at hk
  have:=hval hkk
  subst hk
  exact .inr (.inr (.inr (.inl ⟨node,value,e,hnn.1,⟨by omega,hnn.2⟩,this,rfl⟩)))
 ·have hkk:Xy x.op=3:=by rw [e];rfl
  have hnn:node=0:=by rw [e] at hn;simpa [X4] using hn
  rw [hkk] at hk
  have:=hval0 (by rw [hkk];decide)
  subst hk hnn this
  exact .inr (.inr (.inr (.inr ⟨e,rfl⟩)))
theorem Jb.imp {c:Cod} {f:Fra} {P Q:Ins→Prop} (h:Jb c f P) (hpq:∀ x,P x→Q x):Jb c f Q:=by
 obtain ⟨y,x,hh,h1,h2,h3,h4,h5⟩:=h
 exact ⟨y,x,hh,h1,h2,h3,hpq x h4,h5⟩
theorem Xho {c:Cod}:∀ (n:Nat) (fs:List Fra) (g:Fra),fs.length=n→(∀ k f,fs[k]?=some f→Jb c f (fun x=>x.op=9∧∃ g',(fs++[g])[k+1]?=some g'∧x.a=g'.fn))→Vr c fs.reverse g.fn
 | 0,fs,g,hn,_=>by
  rw [List.eq_nil_of_length_eq_zero hn];trivial
 | n+1,fs,g,hn,h=>by
  rcases List.eq_nil_or_concat fs with h0|⟨fs',f',rfl⟩
  ·rw [h0] at hn;simp at hn
  ·simp only [List.concat_eq_append] at *
   rw [List.reverse_append]
   simp at hn
   refine ⟨?_,Xho n fs' f' hn (fun k f hf=>?_)⟩
   ·refine (h fs'.length f' (by simp)).imp (fun x hx=>⟨hx.1,?_⟩)
    obtain ⟨_,g',hg',ha⟩:=hx
    rw [List.getElem?_append_right (by simp)] at hg'
    simp at hg'
    subst hg'
    exact ha
   ·have hk:k<fs'.length:=(Ll hf)
    refine (h k f (by rw [List.getElem?_append_left hk];exact hf)).imp (fun x hx=>⟨hx.1,?_⟩)
    obtain ⟨_,g',hg',ha⟩:=hx
    refine ⟨g',?_,ha⟩
    rw [List.getElem?_append_left (by simp;omega)] at hg'
    exact hg'
theorem Yf.waits {c:Cod} {m:Mch} (h:Yf c m) (h4:m.req.kind≠4) (h5:m.req.kind≠5):∃ fs f,Qr c m m.req fs f:=by
 rcases h.body with ⟨_,he⟩|⟨hne,hall⟩
 ·unfold Qx at he
  rw [if_neg h4,if_neg h5] at he
  cases he
 ·rcases List.eq_nil_or_concat m.frames with h0|⟨fs,f,hf⟩
  ·exact absurd h0 hne
  ·simp only [List.concat_eq_append] at hf
   have hlen:m.frames.length=fs.length+1:=by rw [hf];simp
   have hl:=h.len
   refine ⟨fs,f,hf,?_,?_,by omega⟩
   ·have:=hall fs.length f (by rw [hf];simp)
    unfold Yx at this
    simp only [hlen] at this
    exact this.imp (fun x hx=>Xpe (by simpa using hx))
   ·refine Xho fs.length fs f rfl (fun k f' hk=>?_)
    have hkl:k<fs.length:=(Ll hk)
    have:=hall k f' (by rw [hf,List.getElem?_append_left hkl];exact hk)
    unfold Yx at this
    refine this.imp (fun x hx=>?_)
    rw [if_neg (by omega),hf] at hx
    exact hx
theorem Yf.nums {c:Cod} {m:Mch} (h:Yf c m):Ug m:=by
 have h1:=h.fuel
 have h2:=h.cmp
 have h3:=h.idle
 exact ⟨h1.1,h3.1,h3.2,h2.1,by unfold pot;omega⟩
theorem Yf.kind {c:Cod} {m:Mch} (h:Yf c m):m.req.kind=1∨m.req.kind=2∨m.req.kind=3∨m.req.kind=4∨m.req.kind=5:=by
 by_cases h4:m.req.kind=4
 ·omega
 by_cases h5:m.req.kind=5
 ·omega
 obtain ⟨fs,f,hw⟩:=h.waits h4 h5
 obtain ⟨_,x,_,_,_,_,ha,_⟩:=hw.top
 have:=Ua ha
 omega
theorem Qr.small {c:Cod} (hs:Xv c) (hsm:Zb c) {m:Mch} {r:Rq} {fs:List Fra} {f:Fra} (h:Qr c m r fs f):∀ g∈m.frames,g.locals.length≤100∧g.stack.length≤100000:=by
 have key:∀ g P,Jb c g P→g.locals.length≤100∧g.stack.length≤100000:=fun g P ⟨y,x,hh,hb,h1,hx,_,hr,hl⟩=>by
  have h2:=Qu (hs.wf hb.fn) (hs.snd hb.fn) hr
  have h3:=hsm y (List.mem_of_getElem? hb.fn)
  have h4:=((hs.wf hb.fn).pops x (List.mem_of_getElem? hx)).1
  have h5:=hs.fok hb.fn
  have h6:=hb.loc
  unfold Zr at h5
  omega
 have low:∀ (l:List Fra) (k:Int),Vr c l k→∀ g∈l,g.locals.length≤100∧g.stack.length≤100000:=by
  intro l
  induction l with
  | nil=>intro _ _ g hg;simp at hg
  | cons a l ih=>
   intro k hl g hg
   rw [List.mem_cons] at hg
   rcases hg with rfl|hg
   ·exact key _ _ hl.1
   ·exact ih _ hl.2 g hg
 intro g hg
 rw [h.fr,List.mem_append,List.mem_singleton] at hg
 rcases hg with hg|rfl
 ·exact low _ _ h.low g (List.mem_reverse.2 hg)
 ·exact key _ _ h.top
/-- what Next comes to -/
def Xe8 (c:Cod) (m:Mch) (n:Int) (w:World) (e:Ending) (w':World):Prop:=
 (¬Yf c m∧e=.returned (.tuple #[Xi (.slice none 0 0) Xl,.int .i64 1])∧Below w.heap.size w w')∨
 (Yf c m∧(m.req.kind=4∨m.req.kind=5)∧e=.returned (.tuple #[Xi (.slice none 0 0) Xl,.int .i64 13])∧Below w.heap.size w w')∨
 (Yf c m∧¬(m.req.kind=4∨m.req.kind=5)∧Yr m.req n=false∧e=.returned (.tuple #[Xi (.slice none 0 0) Xl,.int .i64 2])∧Below w.heap.size w w')∨
 (Yf c m∧¬(m.req.kind=4∨m.req.kind=5)∧Yr m.req n=true∧∃ m' fv,Jv c m n m'∧e=.returned (.tuple #[Xi fv m',.int .i64 0])∧Qq w fv m' w')
theorem Kb {c:Cod} (hs:Xv c) (hsm:Zb c) {w:World} {bm:Nat} {m:Mch} {F:List Nat} {fs:List Fra} {f:Fra} (fa ga:Option Addr) (fn fc gc:Nat) (g n:Int) (hwt:Qr c m m.req fs f) (hnum:Ug m) (hO:X3 w bm m F)
  (B:Nat) (hB:∀ b∈F,B≤b) (hfs:Xf B w 5 (Zl B) (.slice ga c.funcs.length gc) c.funcs) (ha:Yr m.req n=true) :
  Calls Tryz.prog 54 #[.agg #[.slice fa fn fc,.int .i64 g,.slice ga c.funcs.length gc],.pointer (some ⟨bm,0,none⟩),.int .i64 n] w (Jz c m n bm F w):=by
 obtain ⟨_,x,_,_,_,_,hax,_⟩:=hwt.top
 unfold Yr at ha
 rcases Ua hax with hk|hk|hk
 ·rw [if_pos hk] at ha
  exact Xiv hs hsm fa ga fn fc gc g n hwt hnum hO B hB hfs hk (Ye.1 ha)
 ·exact Xpd hs hsm fa ga fn fc gc g n hwt hnum hO B hB hfs hk
 ·rw [if_neg (by omega),if_pos hk] at ha
  have hv:isV n:=by simp at ha;unfold isV;omega
  by_cases hn:n=0
  ·exact Xmu hs hsm fa ga fn fc gc g n hwt hnum hO B hB hfs hk hn
  ·exact Xju hs hsm fa ga fn fc gc g n hwt hnum hO B hB hfs hk hv hn
theorem Xhv (c:Cod) (cv:Value) (m:Mch) (fv:Value) (n:Int) (B:Nat) (w:World) (hL:Qa w) (hB:B≤w.heap.size) (hc:Yj B w cv c) (hm:Xf B w 4 (Qp B) fv m.frames) (hsm:Zb c) :
  Calls Tryz.prog 19 #[cv,Xi fv m,.int .i64 n] w (Xe8 c m n w):=by
 have HC:=Lh hc
 have HM:=Lh hm
 have HL:=Lh hL
 obtain ⟨cf,cg,rfl,hcf,hcg,hg64⟩:=hc
 obtain ⟨fa,fc,rfl⟩:=hcf.form
 have HG:=Lh hcg
 obtain ⟨ga,gc,rfl⟩:=hcg.form
 obtain ⟨ma,mc,rfl⟩:=hm.form
 obtain ⟨fs,⟨kind,node,field,value,fault⟩,fuel,compares,idle⟩:=m
 dsimp only at HM
 unfold Xi Xb
 dsimp only
 obtain ⟨W,hW⟩:∃ W,W=((w.alloc (.cells #[.slice fa c.fields.length fc,.int .i64 c.globals,.slice ga c.funcs.length gc] 25)).alloc (.cells #[.slice ma fs.length mc,.int .i64 kind,.int .i64 node,.int .i64 field,.int .i64 value,.int .i64 fault,.int .i64 fuel,.int .i64 compares,.int .i64 idle] 36)).alloc (.cells #[.slice none 0 0,.int .i64 0,.int .i64 0,.int .i64 0,.int .i64 0,.int .i64 0,.int .i64 0,.int .i64 0,.int .i64 0] 36):=⟨_,rfl⟩
 have hWb:Hid (Below w.heap.size w W):=by rw [hW];exact ((Xa _ _).then (Xa _ _)).then (Xa _ _)
 have hsz:Hid (W.heap.size=w.heap.size+3):=by rw [hW];exact Lh (by simp)
 have b0:Hid (Xo W w.heap.size [.slice fa c.fields.length fc,.int .i64 c.globals,.slice ga c.funcs.length gc]):=by rw [hW];exact Lh (Xd.alloc _ |>.alloc _)
 have b1:Hid (W.heap[w.heap.size+1]?=some (.cells (Xb (.slice ma fs.length mc) ⟨fs,⟨kind,node,field,value,fault⟩,fuel,compares,idle⟩) 36 (0,0))):=by
  rw [hW,Below.heap_alloc _ _ _ (by simp)]
  have:=heap_alloc_new (w.alloc (.cells #[.slice fa c.fields.length fc,.int .i64 c.globals,.slice ga c.funcs.length gc] 25)) (.cells #[.slice ma fs.length mc,.int .i64 kind,.int .i64 node,.int .i64 field,.int .i64 value,.int .i64 fault,.int .i64 fuel,.int .i64 compares,.int .i64 idle] 36)
  exact Lh (by simpa [Xb] using this)
 have b2:Hid (W.heap[w.heap.size+1+1]?=some (.cells #[.slice none 0 0,.int .i64 0,.int .i64 0,.int .i64 0,.int .i64 0,.int .i64 0,.int .i64 0,.int .i64 0,.int .i64 0] 36 (0,0))):=by
  rw [hW]
  have:=heap_alloc_new ((w.alloc (.cells #[.slice fa c.fields.length fc,.int .i64 c.globals,.slice ga c.funcs.length gc] 25)).alloc (.cells #[.slice ma fs.length mc,.int .i64 kind,.int .i64 node,.int .i64 field,.int .i64 value,.int .i64 fault,.int .i64 fuel,.int .i64 compares,.int .i64 idle] 36)) (.cells #[.slice none 0 0,.int .i64 0,.int .i64 0,.int .i64 0,.int .i64 0,.int .i64 0,.int .i64 0,.int .i64 0,.int .i64 0] 36)
  exact Lh (by simpa using this)
 have i0:=b0.out 0 _ rfl
 have i1:=b0.out 1 _ rfl
 have i2:=b0.out 2 _ rfl
 have m0:=Xe b1.out 0 (.slice ma fs.length mc) rfl
 have m1:=Xe b1.out 1 (.int .i64 kind) rfl
 have m2:=Xe b1.out 2 (.int .i64 node) rfl
 have m3:=Xe b1.out 3 (.int .i64 field) rfl
 have m4:=Xe b1.out 4 (.int .i64 value) rfl
 have m5:=Xe b1.out 5 (.int .i64 fault) rfl
 have m6:=Xe b1.out 6 (.int .i64 fuel) rfl
 have m7:=Xe b1.out 7 (.int .i64 compares) rfl
 have m8:=Xe b1.out 8 (.int .i64 idle) rfl
 have z0:w.heap.size<W.heap.size:=by have:=hsz.out;omega
 have z1:w.heap.size+1<W.heap.size:=by have:=hsz.out;omega
 have hWB:B≤W.heap.size:=by omega
 have HCW:=Lh (HC.out.below (hWb.out.mono hB))
 have HMW:=Lh (HM.out.fras (hWb.out.mono hB))
 clear hcf hcg hm hL hg64
 go_enter Tryz.func19,Tryz.ntmps19
 go_upto_region 1 with fail
 rw [←hW]
 have HW:=Lh hW
 clear hW
 go_wp2_with fail
 refine (Xer c _ ⟨fs,⟨kind,node,field,value,fault⟩,fuel,compares,idle⟩ _ B W (HL.out.below hWb.out) hWB HCW.out HMW.out hsm).mono ?_
 rintro e w1 ⟨rfl,hb1⟩
 have i0:=Xc hb1 i0
 have i1:=Xc hb1 i1
 have i2:=Xc hb1 i2
 have m0:=Xc hb1 m0
 have m1:=Xc hb1 m1
 have m2:=Xc hb1 m2
 have m3:=Xc hb1 m3
 have m4:=Xc hb1 m4
 have m5:=Xc hb1 m5
 have m6:=Xc hb1 m6
 have m7:=Xc hb1 m7
 have m8:=Xc hb1 m8
 have z0:=Bl i0
 have z1:=Bl m0
 have HB1:=Lh (hWb.out.then hb1)
 have r1:Hid (w1.heap[w.heap.size+1+1]?=some (.cells #[.slice none 0 0,.int .i64 0,.int .i64 0,.int .i64 0,.int .i64 0,.int .i64 0,.int .i64 0,.int .i64 0,.int .i64 0] 36 (0,0))):=Lh (by rw [hb1.block _ (by have:=hsz.out;omega)];exact b2.out)
 have e1:Hid (w1.heap[w.heap.size+1]?=some (.cells (Xb (.slice ma fs.length mc) ⟨fs,⟨kind,node,field,value,fault⟩,fuel,compares,idle⟩) 36 (0,0))):=Lh (by rw [hb1.block _ (by have:=hsz.out;omega)];exact b1.out)
 clear hb1
 by_cases hv:Yf c ⟨fs,⟨kind,node,field,value,fault⟩,fuel,compares,idle⟩
 rotate_left
 ·rw [K8 hv]
  have rc:∀ (j:Nat) (v:Value),(#[.slice none 0 0,.int .i64 0,.int .i64 0,.int .i64 0,.int .i64 0,.int .i64 0,.int .i64 0,.int .i64 0,.int .i64 0]:Array Value)[j]?=some v→w1.cell? ⟨w.heap.size+1+1,j,none⟩=some v:=fun j v hv=>by rw [cell_of_row _ _ _ _ _ _ r1.out];exact hv
  have rc0:=rc 0 (.slice none 0 0) rfl
  have rf0:w1.frozen? ⟨w.heap.size+1+1,0,none⟩=false:=Fz r1.out
  have rc1:=rc 1 (.int .i64 0) rfl
  have rf1:w1.frozen? ⟨w.heap.size+1+1,1,none⟩=false:=Fz r1.out
  have rc2:=rc 2 (.int .i64 0) rfl
  have rf2:w1.frozen? ⟨w.heap.size+1+1,2,none⟩=false:=Fz r1.out
  have rc3:=rc 3 (.int .i64 0) rfl
  have rf3:w1.frozen? ⟨w.heap.size+1+1,3,none⟩=false:=Fz r1.out
  have rc4:=rc 4 (.int .i64 0) rfl
  have rf4:w1.frozen? ⟨w.heap.size+1+1,4,none⟩=false:=Fz r1.out
  have rc5:=rc 5 (.int .i64 0) rfl
  have rf5:w1.frozen? ⟨w.heap.size+1+1,5,none⟩=false:=Fz r1.out
  have rc6:=rc 6 (.int .i64 0) rfl
  have rf6:w1.frozen? ⟨w.heap.size+1+1,6,none⟩=false:=Fz r1.out
  have rc7:=rc 7 (.int .i64 0) rfl
  have rf7:w1.frozen? ⟨w.heap.size+1+1,7,none⟩=false:=Fz r1.out
  have rc8:=rc 8 (.int .i64 0) rfl
  have rf8:w1.frozen? ⟨w.heap.size+1+1,8,none⟩=false:=Fz r1.out
  have rz:=(La r1.out)
  clear rc
  have hfin:=Lh (Xz (R:=w.heap.size+1+1) (fv0:=.slice none 0 0) (m0:=Xl) r1.out (.slice none 0 0) Xl)
  have HFB:Hid (Below w.heap.size w (Yp w1 (w.heap.size+1+1) (.slice none 0 0) Xl)):=Lh (HB1.out.trans (hfin.out.2.below (fun b hb=>by simp at hb;omega) HB1.out.size))
  go_wp2_with fail
  exact bodyPost_ret (Y6 rfl hfin.out.1 _ _ rfl rfl) rfl (.inl ⟨hv,rfl,HFB.out⟩)
 rw [Kh hv]
 have HV:=Lh hv
 clear hv
 by_cases hk:kind=4∨kind=5
 ·have HK:=Lh hk
  rcases hk with hk|hk
  ·subst hk
   have rc:∀ (j:Nat) (v:Value),(#[.slice none 0 0,.int .i64 0,.int .i64 0,.int .i64 0,.int .i64 0,.int .i64 0,.int .i64 0,.int .i64 0,.int .i64 0]:Array Value)[j]?=some v→w1.cell? ⟨w.heap.size+1+1,j,none⟩=some v:=fun j v hv=>by rw [cell_of_row _ _ _ _ _ _ r1.out];exact hv
   have rc0:=rc 0 (.slice none 0 0) rfl
   have rf0:w1.frozen? ⟨w.heap.size+1+1,0,none⟩=false:=Fz r1.out
   have rc1:=rc 1 (.int .i64 0) rfl
   have rf1:w1.frozen? ⟨w.heap.size+1+1,1,none⟩=false:=Fz r1.out
   have rc2:=rc 2 (.int .i64 0) rfl
   have rf2:w1.frozen? ⟨w.heap.size+1+1,2,none⟩=false:=Fz r1.out
   have rc3:=rc 3 (.int .i64 0) rfl
   have rf3:w1.frozen? ⟨w.heap.size+1+1,3,none⟩=false:=Fz r1.out
   have rc4:=rc 4 (.int .i64 0) rfl
   have rf4:w1.frozen? ⟨w.heap.size+1+1,4,none⟩=false:=Fz r1.out
   have rc5:=rc 5 (.int .i64 0) rfl
   have rf5:w1.frozen? ⟨w.heap.size+1+1,5,none⟩=false:=Fz r1.out
   have rc6:=rc 6 (.int .i64 0) rfl
   have rf6:w1.frozen? ⟨w.heap.size+1+1,6,none⟩=false:=Fz r1.out
   have rc7:=rc 7 (.int .i64 0) rfl
   have rf7:w1.frozen? ⟨w.heap.size+1+1,7,none⟩=false:=Fz r1.out
   have rc8:=rc 8 (.int .i64 0) rfl
   have rf8:w1.frozen? ⟨w.heap.size+1+1,8,none⟩=false:=Fz r1.out
   have rz:=(La r1.out)
   clear rc
   have hfin:=Lh (Xz (R:=w.heap.size+1+1) (fv0:=.slice none 0 0) (m0:=Xl) r1.out (.slice none 0 0) Xl)
   have HFB:Hid (Below w.heap.size w (Yp w1 (w.heap.size+1+1) (.slice none 0 0) Xl)):=Lh (HB1.out.trans (hfin.out.2.below (fun b hb=>by simp at hb;omega) HB1.out.size))
   go_wp2_with fail
   exact bodyPost_ret (Y6 rfl hfin.out.1 _ _ rfl rfl) rfl (.inr (.inl ⟨HV.out,.inl rfl,rfl,HFB.out⟩))
  ·subst hk
   have rc:∀ (j:Nat) (v:Value),(#[.slice none 0 0,.int .i64 0,.int .i64 0,.int .i64 0,.int .i64 0,.int .i64 0,.int .i64 0,.int .i64 0,.int .i64 0]:Array Value)[j]?=some v→w1.cell? ⟨w.heap.size+1+1,j,none⟩=some v:=fun j v hv=>by rw [cell_of_row _ _ _ _ _ _ r1.out];exact hv
   have rc0:=rc 0 (.slice none 0 0) rfl
   have rf0:w1.frozen? ⟨w.heap.size+1+1,0,none⟩=false:=Fz r1.out
   have rc1:=rc 1 (.int .i64 0) rfl
   have rf1:w1.frozen? ⟨w.heap.size+1+1,1,none⟩=false:=Fz r1.out
   have rc2:=rc 2 (.int .i64 0) rfl
   have rf2:w1.frozen? ⟨w.heap.size+1+1,2,none⟩=false:=Fz r1.out
   have rc3:=rc 3 (.int .i64 0) rfl
   have rf3:w1.frozen? ⟨w.heap.size+1+1,3,none⟩=false:=Fz r1.out
   have rc4:=rc 4 (.int .i64 0) rfl
   have rf4:w1.frozen? ⟨w.heap.size+1+1,4,none⟩=false:=Fz r1.out
   have rc5:=rc 5 (.int .i64 0) rfl
   have rf5:w1.frozen? ⟨w.heap.size+1+1,5,none⟩=false:=Fz r1.out
   have rc6:=rc 6 (.int .i64 0) rfl
   have rf6:w1.frozen? ⟨w.heap.size+1+1,6,none⟩=false:=Fz r1.out
   have rc7:=rc 7 (.int .i64 0) rfl
   have rf7:w1.frozen? ⟨w.heap.size+1+1,7,none⟩=false:=Fz r1.out
   have rc8:=rc 8 (.int .i64 0) rfl
   have rf8:w1.frozen? ⟨w.heap.size+1+1,8,none⟩=false:=Fz r1.out
   have rz:=(La r1.out)
   clear rc
   have hfin:=Lh (Xz (R:=w.heap.size+1+1) (fv0:=.slice none 0 0) (m0:=Xl) r1.out (.slice none 0 0) Xl)
   have HFB:Hid (Below w.heap.size w (Yp w1 (w.heap.size+1+1) (.slice none 0 0) Xl)):=Lh (HB1.out.trans (hfin.out.2.below (fun b hb=>by simp at hb;omega) HB1.out.size))
   go_wp2_with fail
   exact bodyPost_ret (Y6 rfl hfin.out.1 _ _ rfl rfl) rfl (.inr (.inl ⟨HV.out,.inr rfl,rfl,HFB.out⟩))
 have HK:=Lh hk
 have hk4:(kind == 4)=false:=by simp;omega
 have hk5:(kind == 5)=false:=by simp;omega
 clear hk
 go_wp2_with fail
 refine (Xjt ⟨kind,node,field,value,fault⟩ n w1).mono ?_
 rintro e w2 ⟨rfl,hb2⟩
 have i0:=Xc hb2 i0
 have i1:=Xc hb2 i1
 have i2:=Xc hb2 i2
 have m0:=Xc hb2 m0
 have m1:=Xc hb2 m1
 have m2:=Xc hb2 m2
 have m3:=Xc hb2 m3
 have m4:=Xc hb2 m4
 have m5:=Xc hb2 m5
 have m6:=Xc hb2 m6
 have m7:=Xc hb2 m7
 have m8:=Xc hb2 m8
 have z0:=Bl i0
 have z1:=Bl m0
 have HB2:=Lh (HB1.out.then hb2)
 have r2:Hid (w2.heap[w.heap.size+1+1]?=some (.cells #[.slice none 0 0,.int .i64 0,.int .i64 0,.int .i64 0,.int .i64 0,.int .i64 0,.int .i64 0,.int .i64 0,.int .i64 0] 36 (0,0))):=Lh (by rw [hb2.block _ (La r1.out)];exact r1.out)
 have e2:Hid (w2.heap[w.heap.size+1]?=some (.cells (Xb (.slice ma fs.length mc) ⟨fs,⟨kind,node,field,value,fault⟩,fuel,compares,idle⟩) 36 (0,0))):=Lh (by rw [hb2.block _ (La e1.out)];exact e1.out)
 clear hb2
 cases ha:Yr ⟨kind,node,field,value,fault⟩ n with
 | false=>
  have HA:=Lh ha
  clear ha
  have rc:∀ (j:Nat) (v:Value),(#[.slice none 0 0,.int .i64 0,.int .i64 0,.int .i64 0,.int .i64 0,.int .i64 0,.int .i64 0,.int .i64 0,.int .i64 0]:Array Value)[j]?=some v→w2.cell? ⟨w.heap.size+1+1,j,none⟩=some v:=fun j v hv=>by rw [cell_of_row _ _ _ _ _ _ r2.out];exact hv
  have rc0:=rc 0 (.slice none 0 0) rfl
  have rf0:w2.frozen? ⟨w.heap.size+1+1,0,none⟩=false:=Fz r2.out
  have rc1:=rc 1 (.int .i64 0) rfl
  have rf1:w2.frozen? ⟨w.heap.size+1+1,1,none⟩=false:=Fz r2.out
  have rc2:=rc 2 (.int .i64 0) rfl
  have rf2:w2.frozen? ⟨w.heap.size+1+1,2,none⟩=false:=Fz r2.out
  have rc3:=rc 3 (.int .i64 0) rfl
  have rf3:w2.frozen? ⟨w.heap.size+1+1,3,none⟩=false:=Fz r2.out
  have rc4:=rc 4 (.int .i64 0) rfl
  have rf4:w2.frozen? ⟨w.heap.size+1+1,4,none⟩=false:=Fz r2.out
  have rc5:=rc 5 (.int .i64 0) rfl
  have rf5:w2.frozen? ⟨w.heap.size+1+1,5,none⟩=false:=Fz r2.out
  have rc6:=rc 6 (.int .i64 0) rfl
  have rf6:w2.frozen? ⟨w.heap.size+1+1,6,none⟩=false:=Fz r2.out
  have rc7:=rc 7 (.int .i64 0) rfl
  have rf7:w2.frozen? ⟨w.heap.size+1+1,7,none⟩=false:=Fz r2.out
  have rc8:=rc 8 (.int .i64 0) rfl
  have rf8:w2.frozen? ⟨w.heap.size+1+1,8,none⟩=false:=Fz r2.out
  have rz:=(La r2.out)
  clear rc
  have hfin:=Lh (Xz (R:=w.heap.size+1+1) (fv0:=.slice none 0 0) (m0:=Xl) r2.out (.slice none 0 0) Xl)
  have HFB:Hid (Below w.heap.size w (Yp w2 (w.heap.size+1+1) (.slice none 0 0) Xl)):=Lh (HB2.out.trans (hfin.out.2.below (fun b hb=>by simp at hb;omega) HB2.out.size))
  go_wp2_with fail
  exact bodyPost_ret (Y6 rfl hfin.out.1 _ _ rfl rfl) rfl (.inr (.inr (.inl ⟨HV.out,HK.out,HA.out,rfl,HFB.out⟩)))
 | true=>
 have HA:=Lh ha
 clear ha
 have hs:=HV.out.sound
 obtain ⟨fs0,f0,hwt⟩:=HV.out.waits (fun e=>HK.out (.inl e)) (fun e=>HK.out (.inr e))
 have HWT:=Lh hwt
 have hsml:=Lh (hwt.small hs hsm)
 have hlen:fs.length≤200:=HV.out.len
 have hne:0<fs.length:=by have:=congrArg List.length hwt.fr;simp at this;omega
 have HM2:=Lh (HM.out.fras (HB2.out.mono hB))
 have hB2:B≤w2.heap.size:=Nat.le_trans hB HB2.out.size
 clear hwt
 go_wp2_with fail
 refine (Xh9 ⟨fs,⟨kind,node,field,value,fault⟩,fuel,compares,idle⟩ ma mc B w2 hB2 HM2.out (by show fs.length≤1000;omega) (fun f hf=>by have:=hsml.out f hf;omega) hne).mono ?_
 rintro e w3 ⟨ca,cc,rfl,F3,hv3,hge3,hb3⟩
 dsimp only at hv3
 have HV3:=Lh hv3
 have HGE3:=Lh hge3
 have HB3:=Lh (HB2.out.then hb3)
 have i0:=Xc hb3 i0
 have i1:=Xc hb3 i1
 have i2:=Xc hb3 i2
 have r3:Hid (w3.heap[w.heap.size+1+1]?=some (.cells #[.slice none 0 0,.int .i64 0,.int .i64 0,.int .i64 0,.int .i64 0,.int .i64 0,.int .i64 0,.int .i64 0,.int .i64 0] 36 (0,0))):=Lh (by rw [hb3.block _ (La r2.out)];exact r2.out)
 have e3:Hid (w3.heap[w.heap.size+1]?=some (.cells (Xb (.slice ma fs.length mc) ⟨fs,⟨kind,node,field,value,fault⟩,fuel,compares,idle⟩) 36 (0,0))):=Lh (by rw [hb3.block _ (La e2.out)];exact e2.out)
 have hw2:=(La r2.out)
 have m0:=Xe e3.out 0 (.slice ma fs.length mc) rfl
 have m1:=Xe e3.out 1 (.int .i64 kind) rfl
 have m2:=Xe e3.out 2 (.int .i64 node) rfl
 have m3:=Xe e3.out 3 (.int .i64 field) rfl
 have m4:=Xe e3.out 4 (.int .i64 value) rfl
 have m5:=Xe e3.out 5 (.int .i64 fault) rfl
 have m6:=Xe e3.out 6 (.int .i64 fuel) rfl
 have m7:=Xe e3.out 7 (.int .i64 compares) rfl
 have m8:=Xe e3.out 8 (.int .i64 idle) rfl
 have ef0:w3.frozen? ⟨w.heap.size+1,0,none⟩=false:=Fz e3.out
 have ef1:w3.frozen? ⟨w.heap.size+1,1,none⟩=false:=Fz e3.out
 have ef2:w3.frozen? ⟨w.heap.size+1,2,none⟩=false:=Fz e3.out
 have ef3:w3.frozen? ⟨w.heap.size+1,3,none⟩=false:=Fz e3.out
 have ef4:w3.frozen? ⟨w.heap.size+1,4,none⟩=false:=Fz e3.out
 have ef5:w3.frozen? ⟨w.heap.size+1,5,none⟩=false:=Fz e3.out
 have ef6:w3.frozen? ⟨w.heap.size+1,6,none⟩=false:=Fz e3.out
 have ef7:w3.frozen? ⟨w.heap.size+1,7,none⟩=false:=Fz e3.out
 have ef8:w3.frozen? ⟨w.heap.size+1,8,none⟩=false:=Fz e3.out
 have z0:=Bl i0
 have z1:=Bl m0
 have hput:=Lh (Xz e3.out (.slice ca fs.length cc) ⟨fs,⟨kind,node,field,value,fault⟩,fuel,compares,idle⟩)
 obtain ⟨W4,hW4⟩:∃ u,u=Yp w3 (w.heap.size+1) (.slice ca fs.length cc) ⟨fs,⟨kind,node,field,value,fault⟩,fuel,compares,idle⟩:=⟨_,rfl⟩
 rw [←hW4] at hput
 have hF3n:w.heap.size+1∉F3:=fun e=>by have:=hge3 _ e;omega
 have hO4:Hid (X3 W4 (w.heap.size+1) ⟨fs,⟨kind,node,field,value,fault⟩,fuel,compares,idle⟩ ((w.heap.size+1)::F3)):=Lh (Xt.2 ⟨_,F3,hput.out.1,HV3.out.keep (fun b hb=>hput.out.2.block b (HV3.out.lt b hb) (fun e=>hF3n (by rw [List.mem_singleton] at e;exact e▸hb))),rfl,hF3n⟩)
 have HB4:Hid (Below w.heap.size w W4):=Lh (HB3.out.trans (hput.out.2.below (fun b hb=>by simp at hb;omega) HB3.out.size))
 have r4:Hid (W4.heap[w.heap.size+1+1]?=some (.cells #[.slice none 0 0,.int .i64 0,.int .i64 0,.int .i64 0,.int .i64 0,.int .i64 0,.int .i64 0,.int .i64 0,.int .i64 0] 36 (0,0))):=Lh (by rw [hput.out.2.block _ (La r3.out) (by simp)];exact r3.out)
 have j0:=hput.out.2.cell i0 (by simp)
 have j1:=hput.out.2.cell i1 (by simp)
 have j2:=hput.out.2.cell i2 (by simp)
 have jz:=Bl j0
 have hfs4:=Lh (HG.out.funs (HB4.out.mono hB))
 have hgF:Hid (∀ b∈(w.heap.size+1)::F3,w.heap.size≤b):=Lh (fun b hb=>by
  rw [List.mem_cons] at hb
  rcases hb with rfl|hb
  ·omega
  ·have:=HGE3.out b hb;omega)
 have hgB:Hid (∀ b∈(w.heap.size+1)::F3,B≤b):=Lh (fun b hb=>Nat.le_trans hB (hgF.out b hb))
 have hRF:w.heap.size+1+1∉(w.heap.size+1)::F3:=fun e=>by
  rw [List.mem_cons] at e
  rcases e with e|e
  ·omega
  ·have:=HGE3.out _ e;omega
 have HRF:=Lh hRF
 unfold Yp at hW4
 dsimp only at hW4
 unfold Xi Xb
 dsimp only
 clear hv3 hge3 hb3 hF3n hRF hlen
 go_upto_region 8 with fail
 rw [←hW4]
 have HW4:=Lh hW4
 clear hW4
 go_wp2_with fail
 refine (Kb hs hsm fa ga c.fields.length fc gc c.globals n HWT.out HV.out.nums hO4.out B hgB.out hfs4.out HA.out).mono ?_
 rintro e w5 ⟨rfl,m5,F5,hN5,hO5,hM5⟩
 obtain ⟨fv5,F05,hm5,hv5,hF5,hn5⟩:=Xt.1 hO5
 obtain ⟨fva,fvc,rfl⟩:=hv5.form
 obtain ⟨fvn,hfvn⟩:∃ n,n=m5.frames.length:=⟨_,rfl⟩
 rw [←hfvn] at hm5 hv5
 have HFVN:=Lh hfvn
 clear hfvn
 have r5:Hid (w5.heap[w.heap.size+1+1]?=some (.cells #[.slice none 0 0,.int .i64 0,.int .i64 0,.int .i64 0,.int .i64 0,.int .i64 0,.int .i64 0,.int .i64 0,.int .i64 0] 36 (0,0))):=Lh (by rw [hM5.block _ (La r4.out) HRF.out];exact r4.out)
 have rc:∀ (j:Nat) (v:Value),(#[.slice none 0 0,.int .i64 0,.int .i64 0,.int .i64 0,.int .i64 0,.int .i64 0,.int .i64 0,.int .i64 0,.int .i64 0]:Array Value)[j]?=some v→w5.cell? ⟨w.heap.size+1+1,j,none⟩=some v:=fun j v hv=>by rw [cell_of_row _ _ _ _ _ _ r5.out];exact hv
 have rc0:=rc 0 (.slice none 0 0) rfl
 have rf0:w5.frozen? ⟨w.heap.size+1+1,0,none⟩=false:=Fz r5.out
 have rc1:=rc 1 (.int .i64 0) rfl
 have rf1:w5.frozen? ⟨w.heap.size+1+1,1,none⟩=false:=Fz r5.out
 have rc2:=rc 2 (.int .i64 0) rfl
 have rf2:w5.frozen? ⟨w.heap.size+1+1,2,none⟩=false:=Fz r5.out
 have rc3:=rc 3 (.int .i64 0) rfl
 have rf3:w5.frozen? ⟨w.heap.size+1+1,3,none⟩=false:=Fz r5.out
 have rc4:=rc 4 (.int .i64 0) rfl
 have rf4:w5.frozen? ⟨w.heap.size+1+1,4,none⟩=false:=Fz r5.out
 have rc5:=rc 5 (.int .i64 0) rfl
 have rf5:w5.frozen? ⟨w.heap.size+1+1,5,none⟩=false:=Fz r5.out
 have rc6:=rc 6 (.int .i64 0) rfl
 have rf6:w5.frozen? ⟨w.heap.size+1+1,6,none⟩=false:=Fz r5.out
 have rc7:=rc 7 (.int .i64 0) rfl
 have rf7:w5.frozen? ⟨w.heap.size+1+1,7,none⟩=false:=Fz r5.out
 have rc8:=rc 8 (.int .i64 0) rfl
 have rf8:w5.frozen? ⟨w.heap.size+1+1,8,none⟩=false:=Fz r5.out
 have rz:=(La r5.out)
 clear rc
 have mc0:=Xe hm5 0 (.slice fva fvn fvc) rfl
 have mc1:=Xe hm5 1 (.int .i64 m5.req.kind) rfl
 have mc2:=Xe hm5 2 (.int .i64 m5.req.node) rfl
 have mc3:=Xe hm5 3 (.int .i64 m5.req.field) rfl
 have mc4:=Xe hm5 4 (.int .i64 m5.req.value) rfl
 have mc5:=Xe hm5 5 (.int .i64 m5.req.fault) rfl
 have mc6:=Xe hm5 6 (.int .i64 m5.fuel) rfl
 have mc7:=Xe hm5 7 (.int .i64 m5.compares) rfl
 have mc8:=Xe hm5 8 (.int .i64 m5.idle) rfl
 have hmz:=(La hm5)
 have hfin:=Lh (Xz (R:=w.heap.size+1+1) (fv0:=.slice none 0 0) (m0:=Xl) r5.out (.slice fva fvn fvc) m5)
 have hRF5:w.heap.size+1+1∉F5:=hM5.notin (La r4.out) HRF.out
 have hge5:∀ b∈F5,w.heap.size≤b:=hM5.ge hgF.out HB4.out.size
 have hB5:=HB4.out.trans (hM5.below hgF.out HB4.out.size)
 have HNEW:Hid (Qq w (.slice fva fvn fvc) m5 (Yp w5 (w.heap.size+1+1) (.slice fva fvn fvc) m5)):=Lh ⟨F05,hv5.keep (fun b hb=>hfin.out.2.block b (hv5.lt b hb) (fun e=>hRF5 (by rw [List.mem_singleton] at e;rw [hF5];exact List.mem_cons_of_mem _ (e▸hb)))),fun b hb=>hge5 b (by rw [hF5];exact List.mem_cons_of_mem _ hb),hB5.trans (hfin.out.2.below (fun b hb=>by simp at hb;omega) hB5.size)⟩
 have HN5:=Lh hN5
 clear hm5 hv5 hO5 hM5 hN5 hge5 hB5 hRF5 hF5 hn5
 go_wp2_with fail
 have hpost:Xe8 c ⟨fs,⟨kind,node,field,value,fault⟩,fuel,compares,idle⟩ n w (.returned (.tuple #[Xi (.slice fva fvn fvc) m5,.int .i64 0])) (Yp w5 (w.heap.size+1+1) (.slice fva fvn fvc) m5):=.inr (.inr (.inr ⟨HV.out,HK.out,HA.out,m5,_,HN5.out,rfl,HNEW.out⟩))
 exact bodyPost_ret (v:=.tuple #[Xi (.slice fva fvn fvc) m5,.int .i64 0]) (Y6 (p:=6) (u:=7) rfl hfin.out.1 _ _ rfl rfl) rfl hpost
end Go.Proofs.YtbmeoklmachjpaaGreatDoor
