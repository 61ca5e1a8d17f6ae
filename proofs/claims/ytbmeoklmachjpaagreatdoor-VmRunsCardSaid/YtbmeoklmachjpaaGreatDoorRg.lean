/- Contracts of the reference's verifier: ref14.one, Moves, Next, Heights, Check, Sound. The heights as the reference reckons them, in plain words; two rows of the call's own. The contract of the reference's Heights. Contracts of the reference's Check and Sound. -/
import Derived.Test.YtbmeoklmachjpaaGreatDoorRn
import Derived.Test.YtbmeoklmachjpaaGreatDoorOwn
import Derived.Test.YtbmeoklmachjpaaGreatDoorRun3
import Derived.Deep.RegionHeld3
import Derived.Deep.QuietTactic
import Derived.BigQuiet
set_option maxHeartbeats 4000000
set_option maxRecDepth 100000
set_option linter.unusedVariables false
set_option linter.unusedSimpArgs false
namespace Go.Proofs.YtbmeoklmachjpaaGreatDoor
open Go.RowKit
theorem Xco (b:Bool) (w:World):Calls Tryz.prog 106 #[.bool b] w fun e w'=>e=.returned (.int .i64 (b2i b))∧w'=w:=by
 cases b
 all_goals
  go_enter Tryz.func106,Tryz.ntmps106
  go_wp2
  go_ret
  exact ⟨rfl,rfl⟩
def Xqj (op:Int):Int:=if Ya op then 2 else Y1 op
def Xnk (op:Int):Int:=if Ya op then 1 else Z7 op
theorem Qy {c:Cod} {f:Fun} {x:Ins} (k:Int) (hk:x.op=k) (h9:k≠9) (h10:k≠10):Xm c f x=Xqj k∧Xj c f x=Xnk k:=by
 have a9:¬x.op=9:=by omega
 have a10:¬x.op=10:=by omega
 unfold Xm Xj Xqj Xnk
 rw [if_neg a9,if_neg a10,if_neg a9,if_neg a10,hk]
 exact ⟨rfl,rfl⟩
theorem Xpy {c:Cod} {f:Fun} {x:Ins} (h:Ya x.op):Xm c f x=2∧Xj c f x=1:=by
 obtain ⟨a,b⟩:=Qy (c:=c) (f:=f) (x:=x) x.op rfl (by unfold Ya at h;omega) (by unfold Ya at h;omega)
 unfold Xqj at a;unfold Xnk at b
 rw [if_pos h] at a b
 exact ⟨a,b⟩
theorem Xka (c:Cod) (cv:Value) (f:Fun) (fv:Value) (x:Ins) (xv:Value) (B:Nat) (w:World) (hc:Yj B w cv c) (hf:J4 B w fv f) (hx:Xa3 B w xv x) (hr:x.op=10) :
  Calls Tryz.prog 73 #[cv,fv,xv] w fun e w'=>e=.returned (.tuple #[.int .i64 (Xm c f x),.int .i64 (Xj c f x)])∧Below w.heap.size w w':=by
 obtain ⟨fv,gv,rfl,hcf,hcg,hgl⟩:=hc
 obtain ⟨kv,rfl,hk,hn,hp,hlo⟩:=hf
 obtain ⟨rfl,hop,ha⟩:=hx
 obtain ⟨fa,fcap,rfl,-⟩:=hcf
 obtain ⟨ga,gcap,rfl,-⟩:=hcg
 obtain ⟨ka,kcap,rfl,-⟩:=hk
 have hfin:Hid (Xm c f x=b2i f.result∧Xj c f x=0):=Lh (by
  constructor
  ·unfold Xm;rw [if_neg (by omega),if_pos hr]
  ·unfold Xj;rw [if_neg (by omega),if_pos hr])
 obtain ⟨xop,xa⟩:=x
 dsimp only at hr hop ha
 subst hr
 go_enter Tryz.func73,Tryz.ntmps73
 go_wp2_with fail
 refine (Xco _ _).mono ?_
 rintro e w' ⟨rfl,rfl⟩
 go_wp2_with fail
 go_ret2
 exact ⟨by rw [hfin.out.1,hfin.out.2];rfl,((Xa _ _).then (Xa _ _)).then (Xa _ _)⟩
theorem Xim (c:Cod) (cv:Value) (f:Fun) (fv:Value) (x:Ins) (xv:Value) (B:Nat) (w:World) (hc:Yj B w cv c) (hf:J4 B w fv f) (hx:Xa3 B w xv x) (h1:1≤x.op) (h2:x.op≤31) (hr:x.op≠9) (hr2:x.op≠10) :
  Calls Tryz.prog 73 #[cv,fv,xv] w fun e w'=>e=.returned (.tuple #[.int .i64 (Xm c f x),.int .i64 (Xj c f x)])∧Below w.heap.size w w':=by
 obtain ⟨fv,gv,rfl,hcf,hcg,hgl⟩:=hc
 obtain ⟨kv,rfl,hk,hn,hp,hlo⟩:=hf
 obtain ⟨rfl,hop,ha⟩:=hx
 obtain ⟨fa,fcap,rfl,-⟩:=hcf
 obtain ⟨ga,gcap,rfl,-⟩:=hcg
 obtain ⟨ka,kcap,rfl,-⟩:=hk
 have e9:(x.op == 9)=false:=by simpa using hr
 have e10:(x.op == 10)=false:=by simpa using hr2
 unfold in64 at *
 have fin:∀ p q:Int,Xm c f x=p∧Xj c f x=q→Ending.returned (Value.tuple #[.int .i64 p,.int .i64 q])=.returned (.tuple #[.int .i64 (Xm c f x),.int .i64 (Xj c f x)]):=fun p q ⟨a,b⟩=>by rw [a,b]
 have HF:=Lh fin
 clear fin
 go_enter Tryz.func73,Tryz.ntmps73
 go_wp2_with fail
 all_goals
  go_ret2
  refine ⟨HF.out _ _ ?_,((Xa _ _).then (Xa _ _)).then (Xa _ _)⟩
  simp only [beq_iff_eq,beq_eq_false_iff_ne,ne_eq] at *
  first
   | exact Qy 1 (by assumption) (by omega) (by omega)
   | exact Qy 2 (by assumption) (by omega) (by omega)
   | exact Qy 4 (by assumption) (by omega) (by omega)
   | exact Qy 8 (by assumption) (by omega) (by omega)
   | exact Qy 3 (by assumption) (by omega) (by omega)
   | exact Qy 5 (by assumption) (by omega) (by omega)
   | exact Qy 12 (by assumption) (by omega) (by omega)
   | exact Qy 30 (by assumption) (by omega) (by omega)
   | exact Qy 6 (by assumption) (by omega) (by omega)
   | exact Qy 14 (by assumption) (by omega) (by omega)
   | exact Qy 26 (by assumption) (by omega) (by omega)
   | exact Qy 29 (by assumption) (by omega) (by omega)
   | exact Qy 7 (by assumption) (by omega) (by omega)
   | exact Qy 11 (by assumption) (by omega) (by omega)
   | exact Qy 13 (by assumption) (by omega) (by omega)
   | exact Qy 31 (by assumption) (by omega) (by omega)
   | exact Xpy (by unfold Ya;omega)
theorem Xhp (c:Cod) (cv:Value) (f:Fun) (fv:Value) (x:Ins) (xv:Value) (B:Nat) (w:World) (hB:B≤w.heap.size) (hc:Yj B w cv c) (hf:J4 B w fv f) (hx:Xa3 B w xv x) (hr:x.op=9) (hr2:0≤x.a) (hr3:x.a<c.funcs.length) :
  Calls Tryz.prog 73 #[cv,fv,xv] w fun e w'=>e=.returned (.tuple #[.int .i64 (Xm c f x),.int .i64 (Xj c f x)])∧Below w.heap.size w w':=by
 obtain ⟨fv,gv,rfl,hcf,hcg,hgl⟩:=hc
 obtain ⟨kv,rfl,hk,hn,hp,hlo⟩:=hf
 obtain ⟨rfl,hop,ha⟩:=hx
 obtain ⟨fa,fcap,rfl,-⟩:=hcf
 obtain ⟨ga,gcap,rfl,hgl2,-,-,hgE⟩:=hcg
 obtain ⟨ka,kcap,rfl,-⟩:=hk
 obtain ⟨n,hn9⟩:=Int.eq_ofNat_of_zero_le hr2
 have hnl:n<c.funcs.length:=by omega
 obtain ⟨g,hg⟩:∃ g,c.funcs[n]?=some g:=⟨_,List.getElem?_eq_getElem hnl⟩
 have hfin:Hid (Xm c f x=g.params∧Xj c f x=b2i g.result):=Lh (by
  have:Je c x.a=some g:=by unfold Je;rw [hn9];exact hg
  constructor
  ·unfold Xm;rw [if_pos hr,this]
  ·unfold Xj;rw [if_pos hr,this])
 rcases hgE with h|⟨b,o,rfl,hbB,hE⟩
 ·rw [h] at hg;simp at hg
 obtain ⟨W,hW⟩:∃ W,W=(((w.alloc (.cells #[.slice fa c.fields.length fcap,.int .i64 c.globals,.slice (some ⟨b,o,none⟩) c.funcs.length gcap] 25)).alloc (.cells #[.string f.name,.int .i64 f.params,.int .i64 f.locals,.bool f.result,.slice ka f.code.length kcap] 75)).alloc (.cells #[.int .i64 x.op,.int .i64 x.a] 100)):=⟨_,rfl⟩
 have HW:Hid (Below w.heap.size w W):=by rw [hW];exact Lh (((Xa _ _).then (Xa _ _)).then (Xa _ _))
 have k1:Xo W w.heap.size [.slice fa c.fields.length fcap,.int .i64 c.globals,.slice (some ⟨b,o,none⟩) c.funcs.length gcap]:=by rw [hW];exact (Xd.alloc _).alloc _
 have k3:Xo W (w.heap.size+1+1) [.int .i64 x.op,.int .i64 x.a]:=by rw [hW];exact Xce
 obtain ⟨xop,xa⟩:=x
 dsimp only at hr hop ha hr2 hr3 hn9 k3 hW ⊢
 subst hr hn9
 have c2:=k1 2 _ rfl
 have x1:=k3 1 _ rfl
 obtain ⟨_,g1,_,g3,_⟩:=(hE n g hg).below (HW.out.mono hB) hbB
 have HWE:=Lh hW
 have hn0:(0:Int)≤(n:Int):=Int.natCast_nonneg _
 have hn1:(n:Int)<(c.funcs.length:Int):=by omega
 clear hW k1 k3 hE hg ha hop hr2 hr3
 go_enter Tryz.func73,Tryz.ntmps73
 go_wp2_with fail
 rw [←HWE.out]
 go_quiet ((go_at_call 106;exact Calls.quiet_of_same (Xco _ _)))
 go_wp2_with fail
 go_ret2
 exact ⟨by rw [hfin.out.1,hfin.out.2];rfl,Xh HW.out _⟩
theorem Xdl (c:Cod) (cv:Value) (f:Fun) (fv:Value) (x:Ins) (xv:Value) (B:Nat) (w:World) (hB:B≤w.heap.size) (hc:Yj B w cv c) (hf:J4 B w fv f) (hx:Xa3 B w xv x) (wf:WfF c f) (hm:x∈f.code) :
  Calls Tryz.prog 73 #[cv,fv,xv] w fun e w'=>e=.returned (.tuple #[.int .i64 (Xm c f x),.int .i64 (Xj c f x)])∧Below w.heap.size w w':=by
 by_cases h9:x.op=9
 ·have:=wf.call x hm h9
  exact Xhp c cv f fv x xv B w hB hc hf hx h9 this.1 this.2
 by_cases h10:x.op=10
 ·exact Xka c cv f fv x xv B w hc hf hx h10
 ·have:=wf.op x hm
  exact Xim c cv f fv x xv B w hc hf hx this.1 this.2 h9 h10
/-- the successors of an instruction, as a slice in new memory -/
def Xrm (x:Ins) (i:Nat) (w:World) (e:Ending) (w':World):Prop:=
 ∃ (a:Option Addr) (l:List Nat) (cap:Nat),e=.returned (.slice a l.length cap)∧l.length≤cap∧cap≤2∧(l=[]∨∃ g,a=some ⟨g,0,none⟩∧w.heap.size≤g∧g<w'.heap.size∧∀ (j:Nat) y,l[j]?=some y→w'.cell? ⟨g,j,none⟩=some (.int .i64 (y:Int)))∧l=X2 x i∧Below w.heap.size w w'
theorem Xlb (x:Ins) (i:Nat) (w:World) (hi:i≤1048576) (ha:x.op=11∨x.op=12→0≤x.a) :
  Calls Tryz.prog 95 #[.agg #[.int .i64 x.op,.int .i64 x.a],.int .i64 (i:Int)] w (Xrm x i w):=by
 obtain ⟨W,hW⟩:∃ W,W=w.alloc (.cells #[.int .i64 x.op,.int .i64 x.a] 100):=⟨_,rfl⟩
 have HW:Hid (Below w.heap.size w W):=by rw [hW];exact Lh (Xa _ _)
 have HWs:Hid (W.heap.size=w.heap.size+1):=by rw [hW];exact Lh (by simp)
 have k1:Xo W w.heap.size [.int .i64 x.op,.int .i64 x.a]:=by rw [hW];exact Xd
 have x0:=k1 0 _ rfl
 have x1:=k1 1 _ rfl
 have zx:=Bl x0
 have HWE:=Lh hW
 obtain ⟨xop,xa⟩:=x
 dsimp only at x0 x1 ha HWE ⊢
 clear k1 hW
 by_cases h10:xop=10
 ·subst h10
  go_enter Tryz.func95,Tryz.ntmps95
  go_wp2_with fail
  go_ret
  rw [←HWE.out]
  exact ⟨none,[],0,rfl,by simp,by omega,.inl rfl,rfl,HW.out⟩
 have e10:(xop == 10)=false:=by simpa using h10
 by_cases h11:xop=11
 ·subst h11
  obtain ⟨n,rfl⟩:=Int.eq_ofNat_of_zero_le (ha (.inl rfl))
  go_enter Tryz.func95,Tryz.ntmps95
  go_wp2_with fail
  go_ret
  refine ⟨_,[n],1,rfl,by simp,by omega,.inr ⟨w.heap.size+1,rfl,by omega,by simp,fun j y hy=>?_⟩,by simp [X2],(Xa _ _).then (Xa _ _)⟩
  exact Uu j _ (by
   have:([.int .i64 (n:Int)]:List Value)[j]?=some (.int .i64 (y:Int)):=by
    have h2:(([n]:List Nat).map (fun (k:Nat)=>Value.int .i64 (k:Int)))[j]?=some (.int .i64 (y:Int)):=by rw [List.getElem?_map,hy];rfl
    exact h2
   exact this)
 have e11:(xop == 11)=false:=by simpa using h11
 by_cases h12:xop=12
 ·subst h12
  obtain ⟨n,rfl⟩:=Int.eq_ofNat_of_zero_le (ha (.inr rfl))
  go_enter Tryz.func95,Tryz.ntmps95
  go_wp2_with fail
  go_ret
  refine ⟨_,[i+1,n],2,rfl,by simp,by omega,.inr ⟨w.heap.size+1,rfl,by omega,by simp,fun j y hy=>?_⟩,by simp [X2],(Xa _ _).then (Xa _ _)⟩
  exact Uu j _ (by
   have:([.int .i64 ((i:Int)+1),.int .i64 (n:Int)]:List Value)[j]?=some (.int .i64 (y:Int)):=by
    have h2:(([i+1,n]:List Nat).map (fun (k:Nat)=>Value.int .i64 (k:Int)))[j]?=some (.int .i64 (y:Int)):=by rw [List.getElem?_map,hy];rfl
    exact h2
   exact this)
 have e12:(xop == 12)=false:=by simpa using h12
 go_enter Tryz.func95,Tryz.ntmps95
 go_wp2_with fail
 go_ret
 refine ⟨_,[i+1],1,rfl,by simp,by omega,.inr ⟨w.heap.size+1,rfl,by omega,by simp,fun j y hy=>?_⟩,by simp [X2,h10,h11,h12],(Xa _ _).then (Xa _ _)⟩
 exact Uu j _ (by
  have:([.int .i64 ((i:Int)+1)]:List Value)[j]?=some (.int .i64 (y:Int)):=by
   have h2:(([i+1]:List Nat).map (fun (k:Nat)=>Value.int .i64 (k:Int)))[j]?=some (.int .i64 (y:Int)):=by rw [List.getElem?_map,hy];rfl
   exact h2
  exact this)
/-- labelled and not done -/
def Tb (hs:List Int) (ds:List Bool) (q:Nat):Bool:=decide (0≤hs.getD q (-1)) && !(ds.getD q true)
theorem Xg2 {hs:List Int} {ds:List Bool} {q:Nat} {v:Int} {b:Bool} (h:hs[q]?=some v) (d:ds[q]?=some b):Tb hs ds q=(decide (0≤v) && !b):=by
 unfold Tb;rw [List.getD_eq_getElem?_getD,List.getD_eq_getElem?_getD,h,d];rfl
theorem Xnl {hs:List Int} {ds:List Bool} {q:Nat} (h:ds.length≤q):Tb hs ds q=false:=by
 unfold Tb;rw [List.getD_eq_getElem?_getD (l:=ds),List.getElem?_eq_none h];simp
structure Xbj (c:Cod) (f:Fun) (hs:List Int) (ds:List Bool) (skip:Nat→Prop):Prop where
 lab:Lab c f hs (Tb hs ds) skip
 len:ds.length=f.code.length
 dn:∀ (q:Nat),ds[q]?=some true→∃ v,hs[q]?=some v∧0≤v
def Xi1 (ds:List Bool):Nat:=ds.countP (fun b=>!b)
theorem Xno {ds:List Bool} {k:Nat} (hk:ds[k]?=some false):Xi1 (ds.set k true)+1=Xi1 ds:=by
 unfold Xi1
 induction ds generalizing k with
 | nil=>simp at hk
 | cons a l ih=>
  cases k with
  | zero=>simp at hk;subst hk;simp
  | succ k=>
   simp at hk
   rw [List.set_cons_succ,List.countP_cons,List.countP_cons]
   have:=ih hk
   omega
theorem Xbj.start {c:Cod} {f:Fun} (wf:WfF c f):Xbj c f ((List.replicate f.code.length (-1:Int)).set 0 0) (List.replicate f.code.length false) (fun _=>False) where
 lab:=Lab.start wf _ (fun i=>by
  have h1:=wf.one
  by_cases hi:i<f.code.length
  ·have hd:(List.replicate f.code.length false)[i]?=some false:=by simp [hi]
   by_cases h0:i=0
   ·subst h0
    have h0v:((List.replicate f.code.length (-1:Int)).set 0 0)[0]?=some 0:=List.getElem?_set_self (by rw [List.length_replicate];omega)
    rw [Xg2 h0v hd];rfl
   ·have:((List.replicate f.code.length (-1:Int)).set 0 0)[i]?=some (-1):=by rw [List.getElem?_set_ne (by omega)];simp [hi]
    rw [Xg2 this hd]
    have:decide (i=0)=false:=by simpa using h0
    rw [this];rfl
  ·rw [Xnl (by simp;omega)]
   have:decide (i=0)=false:=by simp;omega
   rw [this])
 len:=by simp
 dn:=fun q h=>by
  rw [List.getElem?_replicate] at h
  split at h<;>simp at h
/-- instruction i is taken -/
theorem Xbj.take {c:Cod} {f:Fun} {hs:List Int} {ds:List Bool} {i:Nat} {v:Int} (h:Xbj c f hs ds (fun _=>False)) (hv:hs[i]?=some v) (h0:0≤v) (hd:ds[i]?=some false):Xbj c f hs (ds.set i true) (fun j=>j=i) where
 lab:=h.lab.take (fun j=>by
  by_cases e:j=i
  ·subst e
   have hl:=(Ll hd)
   rw [Xg2 hv (List.getElem?_set_self hl)];simp
  ·have h1:(ds.set i true).getD j true=ds.getD j true:=by rw [List.getD_eq_getElem?_getD,List.getD_eq_getElem?_getD,List.getElem?_set_ne (fun q=>e q.symm)]
   have h2:decide (j=i)=false:=by simpa using e
   unfold Tb
   rw [h1,h2];simp)
 len:=by rw [List.length_set];exact h.len
 dn:=fun q hq=>by
  by_cases e:q=i
  ·subst e;exact ⟨v,hv,h0⟩
  ·rw [List.getElem?_set_ne (fun z=>e z.symm)] at hq;exact h.dn q hq
/-- on the way through the successors of instruction i -/
structure RIn (c:Cod) (f:Fun) (hs:List Int) (ds:List Bool) (i:Nat) (v n:Int) (l:List Nat) (j:Nat):Prop where
 rl:Xbj c f hs ds (fun q=>q=i)
 at_:hs[i]?=some v
 so:∀ (t k:Nat),t<j→l[t]?=some k→hs[k]?=some n
theorem RIn.same {c:Cod} {f:Fun} {hs:List Int} {ds:List Bool} {i:Nat} {v n:Int} {l:List Nat} {j k:Nat} (h:RIn c f hs ds i v n l j) (hk:l[j]?=some k) (hkv:hs[k]?=some n):RIn c f (hs.set k n) ds i v n l (j+1):=by
 have e:hs.set k n=hs:=List.ext_getElem? (fun q=>by
  by_cases e:k=q
  ·subst e;rw [List.getElem?_set_self (Ll hkv),hkv]
  ·rw [List.getElem?_set_ne e])
 rw [e]
 refine ⟨h.rl,h.at_,fun t q ht hq=>?_⟩
 by_cases e:t=j
 ·subst e;rw [hk] at hq;cases hq;exact hkv
 ·exact h.so t q (by omega) hq
theorem RIn.label {c:Cod} {f:Fun} {hs:List Int} {ds:List Bool} {i:Nat} {v:Int} {x:Ins} {j k:Nat} (wf:WfF c f) (hx:f.code[i]?=some x) (hv0:0≤v) (hp:Xm c f x≤v)
  (h:RIn c f hs ds i v (v - Xm c f x+Xj c f x) (X2 x i) j) (hk:(X2 x i)[j]?=some k) (hkv:hs[k]?=some (-1)) :
  RIn c f (hs.set k (v - Xm c f x+Xj c f x)) ds i v (v - Xm c f x+Xj c f x) (X2 x i) (j+1):=by
 have hps:=wf.pushes x (List.mem_of_getElem? hx)
 have hkl:=(Ll hkv)
 have hne:∀ (q:Nat) u,hs[q]?=some u→0≤u→k≠q:=fun q u hj hu e=>by subst e;rw [hkv] at hj;cases hj;omega
 have hset:∀ (q:Nat) u,hs[q]?=some u→0≤u→(hs.set k (v - Xm c f x+Xj c f x))[q]?=some u:=fun q u hj hu=>by
  rw [List.getElem?_set,if_neg (hne q u hj hu)];exact hj
 have hdk:ds[k]?=some false:=by
  have hl:k<ds.length:=by rw [h.rl.len,← h.rl.lab.len];exact hkl
  cases hb:ds[k] with
  | false=>rw [List.getElem?_eq_getElem hl,hb]
  | true=>
   obtain ⟨u,hu,hu0⟩:=h.rl.dn k (by rw [List.getElem?_eq_getElem hl,hb])
   rw [hkv] at hu;cases hu;omega
 have hT:∀ q,Tb (hs.set k (v - Xm c f x+Xj c f x)) ds q=(Tb hs ds q || decide (q=k)):=fun q=>by
  by_cases e:q=k
  ·subst e
   rw [Xg2 (List.getElem?_set_self hkl) hdk]
   have:decide (0≤v - Xm c f x+Xj c f x)=true:=by simp;omega
   rw [this];simp
  ·have h1:(hs.set k (v - Xm c f x+Xj c f x)).getD q (-1)=hs.getD q (-1):=by rw [List.getD_eq_getElem?_getD,List.getD_eq_getElem?_getD,List.getElem?_set_ne (fun z=>e z.symm)]
   have h2:decide (q=k)=false:=by simpa using e
   unfold Tb
   rw [h1,h2];simp
 refine ⟨⟨h.rl.lab.label wf h.at_ hv0 hx hp (List.mem_of_getElem? hk) hkv hT,h.rl.len,fun q hq=>?_⟩,hset _ _ h.at_ hv0,fun t q ht hq=>?_⟩
 ·obtain ⟨u,hu,hu0⟩:=h.rl.dn q hq
  exact ⟨u,hset q u hu hu0,hu0⟩
 ·by_cases e:t=j
  ·subst e;rw [hk] at hq;cases hq
   exact List.getElem?_set_self hkl
  ·exact hset _ _ (h.so t q (by omega) hq) (by omega)
theorem RIn.done {c:Cod} {f:Fun} {hs:List Int} {ds:List Bool} {i:Nat} {v:Int} {x:Ins} {j:Nat} (hx:f.code[i]?=some x) (hp:Xm c f x≤v) (hr:x.op=10→v≤Xm c f x)
  (h:RIn c f hs ds i v (v - Xm c f x+Xj c f x) (X2 x i) j) (hj:(X2 x i).length≤j):Xbj c f hs ds (fun _=>False):=
 ⟨h.rl.lab.put h.at_ ⟨x,hx,hp,hr,fun k hk=>by
  obtain ⟨t,ht,rfl⟩:=List.getElem_of_mem hk
  exact h.so t _ (by omega) (List.getElem?_eq_getElem ht)⟩,h.rl.len,h.rl.dn⟩
theorem RIn.clash {c:Cod} {f:Fun} {hs:List Int} {ds:List Bool} {i:Nat} {v u:Int} {x:Ins} {j k:Nat} (hx:f.code[i]?=some x) (hv0:0≤v)
  (h:RIn c f hs ds i v (v - Xm c f x+Xj c f x) (X2 x i) j) (hk:(X2 x i)[j]?=some k) (hkv:hs[k]?=some u) (hu:0≤u) (hne:u≠v - Xm c f x+Xj c f x):¬Zh c f:=
 fun hs=>hne (hs.2 k _ _ (h.rl.lab.reach k u hkv hu) ((h.rl.lab.reach i v h.at_ hv0).next hx (List.mem_of_getElem? hk)))
theorem Xbj.fin {c:Cod} {f:Fun} {hs:List Int} {ds:List Bool} (wf:WfF c f) (h:Xbj c f hs ds (fun _=>False)) (hT:∀ j,j<f.code.length→Tb hs ds j=false):Zh c f∧Zp c f hs:=
 h.lab.fin wf (fun i=>by
  by_cases hi:i<f.code.length
  ·exact hT i hi
  ·exact Xnl (by rw [h.len];omega))
/-- a row of integers of the call's own, in block g -/
def Vq (V:World) (g:Nat) (hs:List Int):Prop:=∃ cur,V.heap[g]?=some (.cells cur 3 (0,0))∧cur.toList.take hs.length=hs.map (Value.int .i64)
def Xbm (V:World) (g:Nat) (ds:List Bool):Prop:=∃ cur,V.heap[g]?=some (.cells cur 4 (0,0))∧cur.toList.take ds.length=ds.map Value.bool
theorem Xiw {cur:Array Value} {l:List Value} {n k:Nat} {u:Value} (h:cur.toList.take n=l) (hk:l[k]?=some u):cur[k]?=some u:=by
 have hl:=(Ll hk)
 have hn:k<n:=by
  rw [←h,List.length_take] at hl;omega
 rw [←h,List.getElem?_take] at hk
 rw [if_pos hn] at hk
 simpa using hk
theorem Vq.cell {V:World} {g:Nat} {hs:List Int} (h:Vq V g hs) {k:Nat} {v:Int} (hk:hs[k]?=some v):V.cell? ⟨g,k,none⟩=some (.int .i64 v):=by
 obtain ⟨cur,h1,h2⟩:=h
 rw [cell_of_row _ _ _ _ _ _ h1]
 exact Xiw h2 (by rw [List.getElem?_map,hk];rfl)
theorem Xbm.cell {V:World} {g:Nat} {ds:List Bool} (h:Xbm V g ds) {k:Nat} {b:Bool} (hk:ds[k]?=some b):V.cell? ⟨g,k,none⟩=some (.bool b):=by
 obtain ⟨cur,h1,h2⟩:=h
 rw [cell_of_row _ _ _ _ _ _ h1]
 exact Xiw h2 (by rw [List.getElem?_map,hk];rfl)
theorem Vq.keep {V V':World} {g:Nat} {hs:List Int} (h:Vq V g hs) (hb:V'.heap[g]?=V.heap[g]?):Vq V' g hs:=by
 obtain ⟨cur,h1,h2⟩:=h
 exact ⟨cur,by rw [hb];exact h1,h2⟩
theorem Xbm.keep {V V':World} {g:Nat} {ds:List Bool} (h:Xbm V g ds) (hb:V'.heap[g]?=V.heap[g]?):Xbm V' g ds:=by
 obtain ⟨cur,h1,h2⟩:=h
 exact ⟨cur,by rw [hb];exact h1,h2⟩
theorem Vq.lt {V:World} {g:Nat} {hs:List Int} (h:Vq V g hs):g<V.heap.size:=by obtain ⟨cur,h1,_⟩:=h;exact (La h1)
theorem Xbm.lt {V:World} {g:Nat} {ds:List Bool} (h:Xbm V g ds):g<V.heap.size:=by obtain ⟨cur,h1,_⟩:=h;exact (La h1)
theorem Vq.frozen {V:World} {g:Nat} {hs:List Int} (h:Vq V g hs) (k:Nat):V.frozen? ⟨g,k,none⟩=false:=by obtain ⟨cur,h1,_⟩:=h;exact Fz h1
theorem Xbm.frozen {V:World} {g:Nat} {ds:List Bool} (h:Xbm V g ds) (k:Nat):V.frozen? ⟨g,k,none⟩=false:=by obtain ⟨cur,h1,_⟩:=h;exact Fz h1
theorem Vq.put {V:World} {g:Nat} {hs:List Int} (h:Vq V g hs) (k:Nat) (v:Int):Vq (V.setCell ⟨g,k,none⟩ (.int .i64 v)) g (hs.set k v):=by
 obtain ⟨cur,h1,h2⟩:=h
 refine ⟨_,heap_setCell_same _ _ _ _ _ _ h1,?_⟩
 rw [List.length_set,Array.toList_setIfInBounds,List.take_set,h2,List.map_set]
theorem Xbm.put {V:World} {g:Nat} {ds:List Bool} (h:Xbm V g ds) (k:Nat) (b:Bool):Xbm (V.setCell ⟨g,k,none⟩ (.bool b)) g (ds.set k b):=by
 obtain ⟨cur,h1,h2⟩:=h
 refine ⟨_,heap_setCell_same _ _ _ _ _ _ h1,?_⟩
 rw [List.length_set,Array.toList_setIfInBounds,List.take_set,h2,List.map_set]
theorem Xpu {w:World} {base:Nat} {v:Value} {hs:List Int} {n:Nat} (h:w.ownsRow base 3 1 v n (hs.map (Value.int .i64))) (hn:hs.length=n) (h1:1≤n):∃ g cap,v=.slice (some ⟨g,0,none⟩) n cap∧base≤g∧n≤cap∧cap≤9223372036854775807∧Vq w g hs:=by
 rcases h.2 with ⟨_,h0⟩|⟨g,cap,cur,rfl,hb,hg,hc,hcm,hs',ht⟩
 ·omega
 ·rw [Nat.mul_one] at ht
  exact ⟨g,cap,rfl,hb,hc,by unfold maxLen at hcm;omega,cur,hg,by rw [hn];exact ht⟩
theorem Xpi {w:World} {base:Nat} {v:Value} {ds:List Bool} {n:Nat} (h:w.ownsRow base 4 1 v n (ds.map Value.bool)) (hn:ds.length=n) (h1:1≤n):∃ g cap,v=.slice (some ⟨g,0,none⟩) n cap∧base≤g∧n≤cap∧cap≤9223372036854775807∧Xbm w g ds:=by
 rcases h.2 with ⟨_,h0⟩|⟨g,cap,cur,rfl,hb,hg,hc,hcm,hs',ht⟩
 ·omega
 ·rw [Nat.mul_one] at ht
  exact ⟨g,cap,rfl,hb,hc,by unfold maxLen at hcm;omega,cur,hg,by rw [hn];exact ht⟩
theorem Vq.reads {V:World} {g cap B:Nat} {hs:List Int} (h:Vq V g hs) (hl:hs.length≤140737488355328) (hc:hs.length≤cap) (hc2:cap≤9223372036854775807) (hB:g<B) (h64:∀ v∈hs,in64 v):Xf B V 1 Zd (.slice (some ⟨g,0,none⟩) hs.length cap) hs:=
 ⟨_,_,rfl,hl,hc,hc2,.inr ⟨g,0,rfl,hB,fun i x hx=>⟨by rw [Nat.mul_one,Nat.zero_add];exact h.cell hx,h64 x (List.mem_of_getElem? hx)⟩⟩⟩
theorem Xmf:(Tryz.prog.info? 4).map (fun i=>(i.zero,i.size,i.bytes))=some (some (.bool false),1,1):=by kernel_rfl
/-- a slice of bools in a block of its own -/
def Xda (w:World) (v:Value) (l:List Bool) (F:List Nat):Prop:=w.ownsRow 0 4 1 v l.length (l.map Value.bool)∧F=v.ownBlock.toList
theorem Xda.keep {w w':World} {v:Value} {l:List Bool} {F:List Nat} (h:Xda w v l F) (hk:∀ b∈F,w'.heap[b]?=w.heap[b]?):Xda w' v l F:=by
 obtain ⟨h1,h2⟩:=h
 subst h2
 refine ⟨⟨h1.1,?_⟩,rfl⟩
 rcases h1.2 with h3|⟨g,cap,cur,rfl,hb,hg,r⟩
 ·exact .inl h3
 ·exact .inr ⟨g,cap,cur,rfl,hb,by rw [hk g (by simp [Value.ownBlock])];exact hg,r⟩
theorem Xda.lt {w:World} {v:Value} {l:List Bool} {F:List Nat} (h:Xda w v l F):∀ b∈F,b<w.heap.size:=fun b hb=>by
 obtain ⟨h1,h2⟩:=h
 subst h2
 simp at hb
 exact (h1.lt b hb).2
theorem Xk0 (w:World) (v:Value) (l:List Bool) (F:List Nat) (hO:Xda w v l F) (ad:Addr) (n:Bool) (hc:w.cell? ad=some (.bool n)) (hl:l.length<2000000) (ty:TypeId) :
  ∃ v' w' F',(Builtin.append_ #[145,145] ty #[v,.slice (some ad) 1 1]).run Tryz.prog w=.ok v' w'∧Xda w' v' (l++[n]) F'∧Xp F F' w w'∧(∃ g,F'=[g]∧(F=[g]∨w.heap.size≤g))∧(∃ a' c',v'=.slice a' (l.length+1) c'):=by
 obtain ⟨i,hi,hz0,hz1,hz2⟩:=info_parts Xmf
 obtain ⟨v',w',g,hr,h2,h3,h4,h5⟩:=Va (P:=Tryz.prog) w 145 ty 4 i (.bool false) 1 1 Tryz.underlying145 hi hz0 hz1 hz2 rfl (by decide) v l.length (l.map Value.bool) hO.1 ad 1 1 [.bool n] rfl
  (fun j u hu=>by
   cases j with
   | zero=>simp at hu;subst hu;exact hc
   | succ j=>simp at hu) (by simp [Value.oneCell']) (by unfold maxLen;omega) (by omega) (by omega)
 have hF:=hO.2
 refine ⟨v',w',v'.ownBlock.toList,hr,⟨by simpa using h2,rfl⟩,by rw [hF];exact U3 h3 h4 h5,⟨g,by rw [h4];rfl,?_⟩,?_⟩
 ·rcases h5 with h5|h5
  ·left;rw [hF,h5];rfl
  ·right;exact h5
 ·rcases h2.2 with ⟨rfl,hn0⟩|⟨g',cap,cur,rfl,_⟩
  ·omega
  ·exact ⟨_,_,rfl⟩
theorem Xfq {ops:Array Oper} {rest:List Oper} {o:Oper} {a:Act} {Q:Exit→Act→World→Prop} {w:World} (hgd:o.guard=none) (s x:Operand) (ho:o.op=.call { callee:=.builtin .append,args:=#[s,x],argTypes:=#[145,145] })
  (v:Value) (l:List Bool) (F:List Nat) (hs:a.eval s=v) (hO:Xda w v l F) (ad:Addr) (n:Bool) (hx:a.eval x=.slice (some ad) 1 1) (hc:w.cell? ad=some (.bool n)) (hl:l.length<2000000)
  (h:∀ a' c' w' F',Xda w' (.slice a' (l.length+1) c') (l++[n]) F'→Xp F F' w w'→(∃ g,F'=[g]∧(F=[g]∨w.heap.size≤g))→wpList Tryz.prog ops Q rest (a.put o.dst (.slice a' (l.length+1) c')) w'):wpList Tryz.prog ops Q (o::rest) a w:=by
 refine wpList_plain hgd fun K hK=>?_
 obtain ⟨v',w',F',hr,h2,h3,h4,⟨a',c',rfl⟩⟩:=Xk0 w v l F hO ad n hc hl o.type
 unfold Oper.wp execOp
 simp only [ho,resolve,invoke,builtin,Sem.run_bind,Sem.run_pure,Result.andThen_ok,List.map_toArray,List.map_cons,List.map_nil,hs,hx,hr]
 exact hK _ _ (h a' c' w' F' h2 h3 h4)
/-- append(v, n) for integers, at any length that occurs here -/
theorem Xmk (w:World) (v:Value) (l:List Int) (F:List Nat) (hO:Yv w v l F) (ad:Addr) (n:Int) (hn:in64 n) (hc:w.cell? ad=some (.int .i64 n)) (hl:l.length<2000000) (ty:TypeId) :
  ∃ v' w' F',(Builtin.append_ #[22,22] ty #[v,.slice (some ad) 1 1]).run Tryz.prog w=.ok v' w'∧Yv w' v' (l++[n]) F'∧Xp F F' w w'∧(∃ g,F'=[g]∧(F=[g]∨w.heap.size≤g))∧(∃ a' c',v'=.slice a' (l.length+1) c'):=by
 obtain ⟨i,hi,hz0,hz1,hz2⟩:=info_parts Uc
 obtain ⟨v',w',g,hr,h2,h3,h4,h5⟩:=Va (P:=Tryz.prog) w 22 ty 3 i (.int .i64 0) 1 8 Tryz.underlying22 hi hz0 hz1 hz2 rfl (by decide) v l.length (l.map (Value.int .i64)) hO.1 ad 1 1 [.int .i64 n] rfl
  (fun j u hu=>by
   cases j with
   | zero=>simp at hu;subst hu;exact hc
   | succ j=>simp at hu) (by simp [Value.oneCell']) (by unfold maxLen;omega) (by omega) (by omega)
 have hF:=hO.2.1
 refine ⟨v',w',v'.ownBlock.toList,hr,⟨by simpa using h2,rfl,fun x hx=>by simp at hx;rcases hx with hx|rfl;exact hO.2.2 x hx;exact hn⟩,by rw [hF];exact U3 h3 h4 h5,⟨g,by rw [h4];rfl,?_⟩,?_⟩
 ·rcases h5 with h5|h5
  ·left;rw [hF,h5];rfl
  ·right;exact h5
 ·rcases h2.2 with ⟨rfl,hn0⟩|⟨g',cap,cur,rfl,_⟩
  ·omega
  ·exact ⟨_,_,rfl⟩
theorem Xf3 {ops:Array Oper} {rest:List Oper} {o:Oper} {a:Act} {Q:Exit→Act→World→Prop} {w:World} (hgd:o.guard=none) (s x:Operand) (ho:o.op=.call { callee:=.builtin .append,args:=#[s,x],argTypes:=#[22,22] })
  (v:Value) (l:List Int) (F:List Nat) (hs:a.eval s=v) (hO:Yv w v l F) (ad:Addr) (n:Int) (hn:in64 n) (hx:a.eval x=.slice (some ad) 1 1) (hc:w.cell? ad=some (.int .i64 n)) (hl:l.length<2000000)
  (h:∀ a' c' w' F',Yv w' (.slice a' (l.length+1) c') (l++[n]) F'→Xp F F' w w'→(∃ g,F'=[g]∧(F=[g]∨w.heap.size≤g))→wpList Tryz.prog ops Q rest (a.put o.dst (.slice a' (l.length+1) c')) w'):wpList Tryz.prog ops Q (o::rest) a w:=by
 refine wpList_plain hgd fun K hK=>?_
 obtain ⟨v',w',F',hr,h2,h3,h4,⟨a',c',rfl⟩⟩:=Xmk w v l F hO ad n hn hc hl o.type
 unfold Oper.wp execOp
 simp only [ho,resolve,invoke,builtin,Sem.run_bind,Sem.run_pure,Result.andThen_ok,List.map_toArray,List.map_cons,List.map_nil,hs,hx,hr]
 exact hK _ _ (h a' c' w' F' h2 h3 h4)
/-- the two rows as they are filled -/
structure Xb3 (W V:World) (hl:List Int) (dl:List Bool) (hv dv:Value) (Fh Fd:List Nat):Prop where
 h:Yv V hv hl Fh
 d:Xda V dv dl Fd
 dis:∀ b∈Fh,b∉Fd
 geh:∀ b∈Fh,W.heap.size≤b
 ged:∀ b∈Fd,W.heap.size≤b
 below:Below W.heap.size W V
theorem Xb3.start (W:World):Xb3 W W [] [] (.slice none 0 0) (.slice none 0 0) [] []:=
 ⟨⟨World.ownsRow_nil _ _ _ _,rfl,by simp⟩,⟨World.ownsRow_nil _ _ _ _,rfl⟩,by simp,by simp,by simp,Below.refl _ _⟩
theorem Xb3.alloc {W V:World} {hl:List Int} {dl:List Bool} {hv dv:Value} {Fh Fd:List Nat} (h:Xb3 W V hl dl hv dv Fh Fd) (o:Obj):Xb3 W (V.alloc o) hl dl hv dv Fh Fd:=
 ⟨h.h.keep (fun b hb=>Below.heap_alloc _ _ _ (h.h.lt b hb)),h.d.keep (fun b hb=>Below.heap_alloc _ _ _ (h.d.lt b hb)),h.dis,h.geh,h.ged,h.below.then (Xa _ _)⟩
theorem Xb3.pushI {W V V2:World} {hl hl':List Int} {dl:List Bool} {hv hv' dv:Value} {Fh Fd F':List Nat} (h:Xb3 W V hl dl hv dv Fh Fd) (hO:Yv V2 hv' hl' F') (hM:Xp Fh F' V V2) (hF:∃ g,F'=[g]∧(Fh=[g]∨V.heap.size≤g)):Xb3 W V2 hl' dl hv' dv F' Fd:=by
 have hge:=hM.ge h.geh h.below.size
 refine ⟨hO,h.d.keep (fun b hb=>hM.block b (h.d.lt b hb) (fun e=>h.dis b e hb)),?_,hge,h.ged,h.below.trans (hM.below h.geh h.below.size)⟩
 intro b hb hd
 obtain ⟨g,rfl,hg⟩:=hF
 obtain rfl:b=g:=by simpa using hb
 rcases hg with rfl|hg
 ·exact h.dis b (by simp) hd
 ·have:=h.d.lt b hd;omega
theorem Xb3.pushB {W V V2:World} {hl:List Int} {dl dl':List Bool} {hv dv dv':Value} {Fh Fd F':List Nat} (h:Xb3 W V hl dl hv dv Fh Fd) (hO:Xda V2 dv' dl' F') (hM:Xp Fd F' V V2) (hF:∃ g,F'=[g]∧(Fd=[g]∨V.heap.size≤g)):Xb3 W V2 hl dl' hv dv' Fh F':=by
 have hge:=hM.ge h.ged h.below.size
 refine ⟨h.h.keep (fun b hb=>hM.block b (h.h.lt b hb) (fun e=>h.dis b hb e)),hO,?_,h.geh,hge,h.below.trans (hM.below h.ged h.below.size)⟩
 intro b hb hd
 obtain ⟨g,rfl,hg⟩:=hF
 obtain rfl:b=g:=by simpa using hd
 rcases hg with rfl|hg
 ·exact h.dis b hb (by simp)
 ·have:=h.h.lt b hb;omega
theorem Xnw (k:Nat):Xi1 (List.replicate k false)≤k:=by
 have:=List.countP_le_length (p:=fun b:Bool=>!b) (l:=List.replicate k false)
 rw [List.length_replicate] at this
 exact this
theorem Xhc {α:Type} (k:Nat) (a:α):List.replicate k a++[a]=List.replicate (k+1) a:=List.replicate_succ'.symm
/-- the state of the labelling: the two rows in memory -/
structure Xa4 (c:Cod) (f:Fun) (W V:World) (g gd:Nat) (hs:List Int) (ds:List Bool):Prop where
 ri:Vq V g hs
 rb:Xbm V gd ds
 ne:g≠gd
 geh:W.heap.size≤g
 ged:W.heap.size≤gd
 below:Below W.heap.size W V
theorem Xa4.later {c:Cod} {f:Fun} {W V V':World} {g gd:Nat} {hs:List Int} {ds:List Bool} (h:Xa4 c f W V g gd hs ds) (hb:Below V.heap.size V V'):Xa4 c f W V' g gd hs ds:=
 ⟨h.ri.keep (hb.block g h.ri.lt),h.rb.keep (hb.block gd h.rb.lt),h.ne,h.geh,h.ged,h.below.then hb⟩
theorem Xa4.putH {c:Cod} {f:Fun} {W V:World} {g gd:Nat} {hs:List Int} {ds:List Bool} (h:Xa4 c f W V g gd hs ds) (k:Nat) (v:Int):Xa4 c f W (V.setCell ⟨g,k,none⟩ (.int .i64 v)) g gd (hs.set k v) ds:=
 ⟨h.ri.put k v,h.rb.keep (heap_setCell_other _ _ _ _ (fun e=>h.ne e.symm)),h.ne,h.geh,h.ged,h.below.setCell h.geh _⟩
theorem Xa4.putD {c:Cod} {f:Fun} {W V:World} {g gd:Nat} {hs:List Int} {ds:List Bool} (h:Xa4 c f W V g gd hs ds) (k:Nat) (b:Bool):Xa4 c f W (V.setCell ⟨gd,k,none⟩ (.bool b)) g gd hs (ds.set k b):=
 ⟨h.ri.keep (heap_setCell_other _ _ _ _ h.ne),h.rb.put k b,h.ne,h.geh,h.ged,h.below.setCell h.ged _⟩
/-- what Heights comes to -/
def Xrw (c:Cod) (f:Fun) (w:World) (e:Ending) (w':World):Prop:=
 (∃ (at_ er:Int),e=.returned (.tuple #[.slice none 0 0,.int .i64 at_,.int .i64 er])∧er≠0∧¬Zh c f∧Below w.heap.size w w')∨
 (∃ (g cap:Nat) (hs:List Int),e=.returned (.tuple #[.slice (some ⟨g,0,none⟩) hs.length cap,.int .i64 0,.int .i64 0])∧w.heap.size≤g∧hs.length≤cap∧cap≤9223372036854775807∧Zh c f∧Zp c f hs∧Vq w' g hs∧Below w.heap.size w w')
theorem Xba (c:Cod) (cv:Value) (f:Fun) (fv:Value) (B:Nat) (w:World) (hB:B≤w.heap.size) (hc:Yj B w cv c) (hf:J4 B w fv f) (wf:WfF c f) :
  Calls Tryz.prog 69 #[cv,fv] w (Xrw c f w):=by
 have HC:=Lh hc
 have HFV:=Lh hf
 obtain ⟨cfv,cgv,rfl,hcf,hcg,hg64⟩:=hc
 obtain ⟨fa,fc,rfl,-⟩:=hcf
 obtain ⟨ga,gc,rfl,-⟩:=hcg
 obtain ⟨kv,rfl,hk,-⟩:=hf
 obtain ⟨ka,kc,rfl,hk1,hk2,hk3,hkE⟩:=hk
 have HKE:=Lh hkE
 have HWF:=Lh wf
 have hn1:=wf.one
 have hn2:=wf.most
 obtain ⟨n,hn⟩:∃ n,n=f.code.length:=⟨_,rfl⟩
 rw [←hn] at hn1 hn2 hk2 HFV ⊢
 have HN:=Lh hn
 clear hkE wf hn hg64 hk1
 obtain ⟨W,hW⟩:∃ W,W=(w.alloc (.cells #[.slice fa c.fields.length fc,.int .i64 c.globals,.slice ga c.funcs.length gc] 25)).alloc (.cells #[.string f.name,.int .i64 f.params,.int .i64 f.locals,.bool f.result,.slice ka n kc] 75):=⟨_,rfl⟩
 have HW:Hid (Below w.heap.size w W):=by rw [hW];exact Lh ((Xa _ _).then (Xa _ _))
 have HK1:Hid (Xo W w.heap.size [.slice fa c.fields.length fc,.int .i64 c.globals,.slice ga c.funcs.length gc]):=by rw [hW];exact Lh (Xd.alloc _)
 have HK2:Hid (Xo W (w.heap.size+1) [.string f.name,.int .i64 f.params,.int .i64 f.locals,.bool f.result,.slice ka n kc]):=by rw [hW];exact Lh Uu
 have HWE:=Lh hW
 clear hW
 go_enter Tryz.func69,Tryz.ntmps69
 go_wp2_with fail
 rw [←HWE.out]
 go_loopw [7,8,9] (fun hv dv i wr=>∃ k:Nat,k≤n∧i=.int .i64 k∧Hid (∃ Fh Fd,Xb3 W wr (List.replicate k (-1)) (List.replicate k false) hv dv Fh Fd)) (fun _ _ i _=>n - (intOf i).toNat)
 case atStart=>exact ⟨0,Nat.zero_le _,rfl,Lh ⟨[],[],Xb3.start W⟩⟩
 case round=>
  obtain ⟨k,hk,rfl,hs⟩:=hrel
  obtain ⟨Fh,Fd,hF⟩:=hs.out
  have HF:=Lh hF
  have b1:=(HK2.out.keep hF.below) 4 _ rfl
  clear hF hs
  by_cases hlt:k<n
  ·have HA1:=Lh (HF.out.alloc (.cells #[.int .i64 (-1)] 3))
   have HC1:Hid ((wr.alloc (.cells #[.int .i64 (-1)] 3)).cell? ⟨wr.heap.size,0,none⟩=some (.int .i64 (-1))):=Lh (Y5 _ _ _ 0)
   have hlen:(List.replicate k (-1:Int)).length<2000000:=by simp;omega
   have hlen2:(List.replicate k false).length<2000000:=by simp;omega
   have h641:in64 (-1):=by unfold in64;omega
   go_wp2_with (first
    | (at_builtin;refine Xf3 rfl (.tmp 24) (.tmp 25) rfl _ (List.replicate k (-1)) Fh rfl HA1.out.h ⟨wr.heap.size,0,none⟩ (-1) h641 rfl HC1.out hlen ?_;intro a1 c1 w2 F1 hO1 hM1 hF1;have HP1:=Lh (HA1.out.pushI hO1 hM1 hF1);have HA2:=Lh (HP1.out.alloc (.cells #[.bool false] 4));have HC2:Hid ((w2.alloc (.cells #[.bool false] 4)).cell? ⟨w2.heap.size,0,none⟩=some (.bool false)):=Lh (Y5 _ _ _ 0);clear hO1 hM1 hF1)
    | (at_builtin;refine Xfq rfl (.tmp 27) (.tmp 28) rfl _ (List.replicate k false) Fd rfl HA2.out.d ⟨w2.heap.size,0,none⟩ false rfl HC2.out hlen2 ?_;intro a2 c2 w3 F2 hO2 hM2 hF2;have HP2:=Lh (HA2.out.pushB hO2 hM2 hF2);clear hO2 hM2 hF2))
   go_roundw
   case rel=>exact ⟨k+1,by omega,by go_num,Lh ⟨F1,F2,by have:=HP2.out;rw [Xhc,Xhc,List.length_replicate,List.length_replicate] at this;exact this⟩⟩
   case measure=>simp [intOf];omega
  ·obtain rfl:k=n:=by omega
   obtain ⟨g,cap,e1,hg1,hg2,hg3,hRI⟩:=Xpu (n:=k) (by have:=HF.out.h.1;rw [List.length_replicate] at this;exact this) (List.length_replicate ..) hn1
   obtain ⟨gd,capd,e2,hd1,hd2,hd3,hRB⟩:=Xpi (n:=k) (by have:=HF.out.d.1;rw [List.length_replicate] at this;exact this) (List.length_replicate ..) hn1
   have hne:g≠gd:=fun e=>HF.out.dis g (by rw [HF.out.h.2.1,e1];simp [Value.ownBlock]) (by rw [HF.out.d.2,e2,e];simp [Value.ownBlock])
   have HR:Hid (Xa4 c f W wr g gd (List.replicate k (-1)) (List.replicate k false)):=Lh ⟨hRI,hRB,hne,HF.out.geh g (by rw [HF.out.h.2.1,e1];simp [Value.ownBlock]),HF.out.ged gd (by rw [HF.out.d.2,e2];simp [Value.ownBlock]),HF.out.below⟩
   subst e1 e2
   have q0:=hRI.cell (k:=0) (v:=-1) (by rw [List.getElem?_replicate,if_pos (by omega)])
   have qf:=hRI.frozen 0
   clear hRI hRB hne HF hg1 hd1
   go_wp2_with fail
   obtain ⟨V0,hV0⟩:∃ V,V=wr.setCell ⟨g,0,none⟩ (.int .i64 0):=⟨_,rfl⟩
   have HR0:Hid (Xa4 c f W V0 g gd ((List.replicate k (-1)).set 0 0) (List.replicate k false)∧Xbj c f ((List.replicate k (-1)).set 0 0) (List.replicate k false) (fun _=>False)):=by
    rw [hV0]
    have:=Xbj.start HWF.out
    rw [←HN.out] at this
    exact Lh ⟨HR.out.putH 0 0,this⟩
   rw [←hV0]
   clear hV0 HR q0 qf b1
   go_loopg [10] (k+1) (fun gk _ wr=>Hid (∃ hs ds,Xa4 c f W wr g gd hs ds∧Xbj c f hs ds (fun _=>False)∧Xi1 ds+1≤gk))
   case atStart=>exact Lh ⟨_,_,HR0.out.1,HR0.out.2,Nat.succ_le_succ (Xnw k)⟩
   case round=>
    obtain ⟨hs,ds,hR,hL,hgk⟩:=hrel.out
    obtain ⟨wo,rfl⟩:∃ wo:World,wo=wr:=⟨_,rfl⟩
    have hsl:hs.length=k:=by rw [hL.lab.len,HN.out]
    have dsl:ds.length=k:=by rw [hL.len,HN.out]
    have HRo:=Lh hR
    have HLo:=Lh hL
    clear hrel hR hL
    go_wp2_with fail
    go_loop [10] (fun a=>∃ p:Nat,p≤k∧a=.int .i64 p∧Hid (∀ j,j<p→Tb hs ds j=false)) (fun a=>k - (intOf a).toNat)
    case atStart=>exact ⟨0,Nat.zero_le _,rfl,Lh (fun j hj=>by omega)⟩
    case round=>
     obtain ⟨p,hp,rfl,hno⟩:=hrel
     by_cases hpk:p<k
     rotate_left
     ·obtain rfl:p=k:=by omega
      have hfin:=Lh (HLo.out.fin HWF.out (fun j hj=>hno.out j (by rw [HN.out];exact hj)))
      have e0:((p:Int) == (p:Int))=true:=by simp
      go_wp2_with fail
      go_ret3
      have hb:=HW.out.then HRo.out.below
      refine .inr ⟨g,cap,hs,by rw [hsl];rfl,Nat.le_trans HW.out.size HRo.out.geh,by rw [hsl];exact hg2,hg3,hfin.out.1,hfin.out.2,HRo.out.ri,hb⟩
     obtain ⟨v,hv⟩:∃ v,hs[p]?=some v:=⟨_,List.getElem?_eq_getElem (by omega)⟩
     obtain ⟨b,hb⟩:∃ b,ds[p]?=some b:=⟨_,List.getElem?_eq_getElem (by omega)⟩
     have q1:=HRo.out.ri.cell hv
     have q2:=HRo.out.rb.cell hb
     have HV:=Lh hv
     have HBB:=Lh hb
     have hT:=Xg2 hv hb
     clear hv hb
     by_cases hv0:v<0
     ·have hnew:Hid (∀ j,j<p+1→Tb hs ds j=false):=Lh (fun j hj=>by
       by_cases e:j=p
       ·subst e;rw [hT];have:decide (0≤v)=false:=by simp;omega
        rw [this];rfl
       ·exact hno.out j (by omega))
      have e1:decide (v<0)=true:=by simp;omega
      clear hT
      go_wp2_with fail
      go_round
      case rel=>exact ⟨p+1,by omega,by go_num,hnew⟩
      case measure=>simp [intOf];omega
     have e1:decide (v<0)=false:=by simp;omega
     have e4:decide (0≤v)=true:=by simp;omega
     cases b with
     | true=>
      have hnew:Hid (∀ j,j<p+1→Tb hs ds j=false):=Lh (fun j hj=>by
       by_cases e:j=p
       ·subst e;rw [hT];simp
       ·exact hno.out j (by omega))
      clear hT
      go_wp2_with fail
      go_round
      case rel=>exact ⟨p+1,by omega,by go_num,hnew⟩
      case measure=>simp [intOf];omega
     | false=>
     have hbd:=HLo.out.lab.bound p v HV.out
     have hlt0:=HLo.out.lab.len
     have e5:((p:Int) == (k:Int))=false:=beq_eq_false_iff_ne.2 (by omega)
     have qf:=HRo.out.rb.frozen p
     obtain ⟨x,hx⟩:∃ x,f.code[p]?=some x:=⟨_,List.getElem?_eq_getElem (by rw [←HN.out];exact hpk)⟩
     have HX:=Lh hx
     have hBW:=HW.out.then HRo.out.below
     have HI:Hid (Xa3 B wo (.agg #[.int .i64 x.op,.int .i64 x.a]) x∧∃ yb yo,ka=some ⟨yb,yo,none⟩∧wo.cell? ⟨yb,yo+p*2,none⟩=some (.int .i64 x.op)∧wo.cell? ⟨yb,yo+p*2+1,none⟩=some (.int .i64 x.a)∧yb<w.heap.size):=by
      rcases HKE.out with h|⟨yb,yo,rfl,hyB,hyE⟩
      ·rw [h] at hx;simp at hx
      ·obtain ⟨y1,y2,y3,y4⟩:=(hyE p x hx).below (hBW.mono hB) hyB
       exact Lh ⟨⟨rfl,y3,y4⟩,yb,yo,rfl,y1,y2,by omega⟩
     obtain ⟨yb,yo,rfl,y1,y2,hyw⟩:=HI.out.2
     have hx64:in64 x.op∧in64 x.a:=HI.out.1.2
     have HX64:=Lh hx64
     clear hx64
     have hyg:¬yb=gd:=by have:=HRo.out.ged;have:=HW.out.size;omega
     have s4:=(HK2.out.keep HRo.out.below) 4 _ rfl
     have hsg:¬w.heap.size+1=gd:=by
      have h1:=HRo.out.ged
      have h2:W.heap.size=w.heap.size+1+1:=by rw [HWE.out];simp
      omega
     clear hx HI hT hno hBW
     obtain ⟨V2,hV2⟩:∃ V,V=(wo.setCell ⟨gd,p,none⟩ (.bool true)).alloc (.cells #[.int .i64 x.op,.int .i64 x.a] 100):=⟨_,rfl⟩
     have HR2:Hid (Xa4 c f W V2 g gd hs (ds.set p true)):=by rw [hV2];exact Lh ((HRo.out.putD p true).later (Xa _ _))
     obtain ⟨bx,hbx⟩:∃ n,n=wo.heap.size:=⟨_,rfl⟩
     have HXC:Hid (Xo V2 bx [.int .i64 x.op,.int .i64 x.a]):=by
      rw [hV2,hbx]
      have:=@Xd (wo.setCell ⟨gd,p,none⟩ (.bool true)) #[.int .i64 x.op,.int .i64 x.a] 100
      exact Lh (by simpa using this)
     have HV2:=Lh hV2
     have HBX:=Lh hbx
     clear hV2 hbx
     go_upto_region 16 with fail
     rw [←HV2.out,← HBX.out]
     have hBW2:=HW.out.then HR2.out.below
     have HCV2:Hid (Yj B V2 (.agg #[.slice fa c.fields.length fc,.int .i64 c.globals,.slice ga c.funcs.length gc]) c):=Lh (HC.out.below (hBW2.mono hB))
     have HFV2:Hid (J4 B V2 (.agg #[.string f.name,.int .i64 f.params,.int .i64 f.locals,.bool f.result,.slice (some ⟨yb,yo,none⟩) k kc]) f):=Lh (HFV.out.below (hBW2.mono hB))
     have hB2:B≤V2.heap.size:=Nat.le_trans hB hBW2.size
     have r0:=(HK1.out.keep HR2.out.below) 0 _ rfl
     have r1:=(HK1.out.keep HR2.out.below) 1 _ rfl
     have r2:=(HK1.out.keep HR2.out.below) 2 _ rfl
     have s0:=(HK2.out.keep HR2.out.below) 0 _ rfl
     have s1:=(HK2.out.keep HR2.out.below) 1 _ rfl
     have s2:=(HK2.out.keep HR2.out.below) 2 _ rfl
     have s3:=(HK2.out.keep HR2.out.below) 3 _ rfl
     have s4:=(HK2.out.keep HR2.out.below) 4 _ rfl
     have t0:=HXC.out 0 _ rfl
     have t1:=HXC.out 1 _ rfl
     clear q1 q2 qf y1 y2 hyg hsg hyw hBW2 e5
     go_wp2_with fail
     clear r0 r1 r2 s0 s1 s2 s3 s4
     refine (Xdl c _ f _ x (.agg #[.int .i64 x.op,.int .i64 x.a]) B V2 hB2 HCV2.out HFV2.out ⟨rfl,HX64.out⟩ HWF.out (List.mem_of_getElem? HX.out)).mono ?_
     rintro e w3 ⟨rfl,hb3⟩
     have hpo:=HWF.out.pops x (List.mem_of_getElem? HX.out)
     have hpu:=HWF.out.pushes x (List.mem_of_getElem? HX.out)
     obtain ⟨po,hpo0⟩:∃ n,n=Xm c f x:=⟨_,rfl⟩
     obtain ⟨pu,hpu0⟩:∃ n,n=Xj c f x:=⟨_,rfl⟩
     rw [←hpo0] at hpo ⊢
     rw [←hpu0] at hpu ⊢
     have HPO:=Lh hpo0
     have HPU:=Lh hpu0
     have HR3:=Lh (HR2.out.later hb3)
     have HXC3:=Lh (HXC.out.keep hb3)
     have HL2:Hid (Xbj c f hs (ds.set p true) (fun j=>j=p)):=Lh (HLo.out.take HV.out (by omega) HBB.out)
     have u1:=HR3.out.ri.cell HV.out
     have u2:=HXC3.out 0 _ rfl
     have u3:=HXC3.out 1 _ rfl
     have zx:=Bl u2
     clear hpo0 hpu0 hb3 t0 t1
     by_cases hlow:v<po
     ·have hf:Hid (¬Zh c f):=Lh (J9 HL2.out.lab HV.out (by omega) HX.out (fun h=>by have:=h.1;rw [←HPO.out] at this;omega))
      have e6:decide (v<po)=true:=by simp;omega
      go_wp2_with fail
      go_ret3
      exact .inl ⟨_,14,rfl,by decide,hf.out,HW.out.then HR3.out.below⟩
     have e6:decide (v<po)=false:=by simp;omega
     by_cases hret:x.op=10∧po<v
     ·have hf:Hid (¬Zh c f):=Lh (J9 HL2.out.lab HV.out (by omega) HX.out (fun h=>by have:=h.2.1 hret.1;rw [←HPO.out] at this;omega))
      have e7:(x.op == 10)=true:=by simpa using hret.1
      have e8:decide (po<v)=true:=by simp;omega
      go_wp2_with fail
      go_ret3
      exact .inl ⟨_,3,rfl,by decide,hf.out,HW.out.then HR3.out.below⟩
     have hret':x.op=10→v≤po:=fun e=>by
      by_cases h:po<v
      ·exact absurd ⟨e,h⟩ hret
      ·omega
     have HRET:=Lh hret'
     have hjmp:Hid (x.op=11∨x.op=12→0≤x.a):=Lh (fun h=>(HWF.out.jump x (List.mem_of_getElem? HX.out) h).1)
     have hp20:p≤1048576:=by omega
     clear hret hret'
     by_cases h10:x.op=10
     all_goals
      first
      | have e7:(x.op == 10)=true:=by simpa using h10
      | have e7:(x.op == 10)=false:=by simpa using h10
      have e8:x.op=10→decide (po<v)=false:=fun e=>by have:=HRET.out e;simp;omega
      first
      | have e9:=e8 h10
      | have e9:True:=trivial
      clear e8 h10
      go_wp2_with fail
      refine (Xlb x p w3 hp20 hjmp.out).mono ?_
      rintro e w4 ⟨na,l,ncap,rfl,hl1,hl2,hlE,rfl,hb4⟩
      obtain ⟨ln,hln⟩:∃ n,n=(X2 x p).length:=⟨_,rfl⟩
      rw [←hln] at hl1 ⊢
      have HLN:=Lh hln
      have HR4:=Lh (HR3.out.later hb4)
      have hv2:v≤2097152:=by omega
      have HS0:Hid (∃ hs',RIn c f hs' (ds.set p true) p v (v - po+pu) (X2 x p) 0∧Xa4 c f W w4 g gd hs' (ds.set p true)∧((X2 x p)=[]∨∃ gn,na=some ⟨gn,0,none⟩∧gn≠g∧∀ (j:Nat) y,(X2 x p)[j]?=some y→w4.cell? ⟨gn,j,none⟩=some (.int .i64 (y:Int)))):=by
       refine Lh ⟨hs,⟨HL2.out,HV.out,fun t k ht=>by omega⟩,HR4.out,?_⟩
       rcases hlE with h|⟨gn,h1,h2,h3,h4⟩
       ·exact .inl h
       ·exact .inr ⟨gn,h1,fun e=>by have:=HR3.out.ri.lt;omega,h4⟩
      have hdl:Hid (Xi1 (ds.set p true)+1=Xi1 ds):=Lh (Xno HBB.out)
      clear u1 u2 u3 zx hb4 hlE hln hbd hlt0
      go_wp2_with fail
      go_loopw [15] (fun i wr=>∃ j:Nat,j≤ln∧i=.int .i64 j∧Hid (∃ hs',RIn c f hs' (ds.set p true) p v (v - po+pu) (X2 x p) j∧Xa4 c f W wr g gd hs' (ds.set p true)∧((X2 x p)=[]∨∃ gn,na=some ⟨gn,0,none⟩∧gn≠g∧∀ (j:Nat) y,(X2 x p)[j]?=some y→wr.cell? ⟨gn,j,none⟩=some (.int .i64 (y:Int))))) (fun i _=>ln - (intOf i).toNat)
      case atStart=>exact ⟨0,Nat.zero_le _,rfl,HS0⟩
      case round=>
       obtain ⟨j,hj,rfl,hst⟩:=hrel
       obtain ⟨hs',hI,hRw,hNx⟩:=hst.out
       have HI:=Lh hI
       have HRw:=Lh hRw
       have hsl':hs'.length=k:=by rw [hI.rl.lab.len,HN.out]
       by_cases hjl:j<ln
       ·obtain ⟨kk,hkk⟩:∃ kk,(X2 x p)[j]?=some kk:=⟨_,List.getElem?_eq_getElem (by rw [←HLN.out];exact hjl)⟩
        rcases hNx with h|⟨gn,rfl,hgn,hcn⟩
        ·rw [h] at hkk;simp at hkk
        have v1:=hcn j kk hkk
        have HCN:=Lh hcn
        have HKK:=Lh hkk
        clear hI hRw hcn hkk hst
        by_cases hout:k≤kk
        ·have hf:Hid (¬Zh c f):=Lh (J9 HL2.out.lab HV.out (by omega) HX.out (fun h=>by have:=h.2.2 kk (List.mem_of_getElem? HKK.out);rw [←HN.out] at this;omega))
         go_wp2_with fail
         go_ret3
         exact .inl ⟨_,8,rfl,by decide,hf.out,HW.out.then HRw.out.below⟩
        obtain ⟨u,hu⟩:∃ u,hs'[kk]?=some u:=⟨_,List.getElem?_eq_getElem (by omega)⟩
        have v2:=HRw.out.ri.cell HI.out.at_
        have v3:=HRw.out.ri.cell hu
        have v4:=HRw.out.ri.frozen kk
        have HU:=Lh hu
        have hub:=HI.out.rl.lab.bound kk u hu
        have hu2:u≤2097152:=by omega
        have hun:=HI.out.rl.lab.neg kk u hu
        have HUN:=Lh hun
        clear hu hub hun
        have hcell:∀ (z:Value) (t:Nat) (y:Nat),(X2 x p)[t]?=some y→(wr.setCell ⟨g,kk,none⟩ z).cell? ⟨gn,t,none⟩=some (.int .i64 (y:Int)):=fun z t y hy=>by
         rw [World.cell?_of_block (w:=wr) (heap_setCell_other _ _ _ _ hgn)];exact HCN.out t y hy
        have HCL:=Lh hcell
        clear hcell
        by_cases hu0:u<0
        ·have hnew:Hid (RIn c f (hs'.set kk (v - po+pu)) (ds.set p true) p v (v - po+pu) (X2 x p) (j+1)):=by
          have hi:=HI.out
          have hpo2:=HPO.out
          have hpu2:=HPU.out
          rw [hpo2,hpu2] at hi ⊢
          exact Lh (hi.label HWF.out HX.out (by omega) (by omega) HKK.out (by rw [←HUN.out hu0];exact HU.out))
         have e11:decide (0≤u)=false:=by simp;omega
         go_wp2_with fail
         go_roundw
         case rel=>exact ⟨j+1,by omega,by go_num,Lh ⟨_,hnew.out,HRw.out.putH kk _,.inr ⟨gn,rfl,hgn,HCL.out _⟩⟩⟩
         case measure=>simp [intOf];omega
        have e11:decide (0≤u)=true:=by simp;omega
        by_cases hun:u=v - po+pu
        ·have hnew:Hid (RIn c f (hs'.set kk (v - po+pu)) (ds.set p true) p v (v - po+pu) (X2 x p) (j+1)):=Lh (HI.out.same HKK.out (by rw [←hun];exact HU.out))
         have e12:(u != v - po+pu)=false:=by simp [hun]
         clear hun
         go_wp2_with fail
         go_roundw
         case rel=>exact ⟨j+1,by omega,by go_num,Lh ⟨_,hnew.out,HRw.out.putH kk _,.inr ⟨gn,rfl,hgn,HCL.out _⟩⟩⟩
         case measure=>simp [intOf];omega
        ·have hf:Hid (¬Zh c f):=by
          have hi:=HI.out
          have hpo2:=HPO.out
          have hpu2:=HPU.out
          rw [hpo2,hpu2] at hi hun
          exact Lh (hi.clash HX.out (by omega) HKK.out HU.out (by omega) hun)
         have e12:(u != v - po+pu)=true:=by simpa using hun
         clear hun
         go_wp2_with fail
         go_ret3
         exact .inl ⟨_,13,rfl,by decide,hf.out,HW.out.then HRw.out.below⟩
       ·have hdone:Hid (Xbj c f hs' (ds.set p true) (fun _=>False)):=by
         have hi:=HI.out
         have hpo2:=HPO.out
         have hpu2:=HPU.out
         have hrr:=HRET.out
         rw [hpo2] at hrr
         rw [hpo2,hpu2] at hi
         exact Lh (hi.done HX.out (by omega) hrr (by rw [←HLN.out];omega))
        clear hI hRw hNx hst
        go_wp2_with fail
        go_roundg (gk - 1)
        case measure=>omega
        case rel=>exact Lh ⟨hs',ds.set p true,HRw.out,hdone.out,by have:=hdl.out;omega⟩
theorem Xkb (c:Cod) (cv:Value) (B:Nat) (w:World) (hB:B≤w.heap.size) (hc:Yj B w cv c) :
  Calls Tryz.prog 34 #[cv] w (Xkl c w):=by
 have HC:=Lh hc
 obtain ⟨cfv,cgv,rfl,hcf,hcg,-⟩:=hc
 obtain ⟨fa,fc,rfl,-⟩:=hcf
 obtain ⟨ga,gc,rfl,hl1,hl2,hl3,hgE⟩:=hcg
 have HGE:=Lh hgE
 obtain ⟨W,hW⟩:∃ W,W=w.alloc (.cells #[.slice fa c.fields.length fc,.int .i64 c.globals,.slice ga c.funcs.length gc] 25):=⟨_,rfl⟩
 have HW:Hid (Below w.heap.size w W):=by rw [hW];exact Lh (Xa _ _)
 have HK:Hid (Xo W w.heap.size [.slice fa c.fields.length fc,.int .i64 c.globals,.slice ga c.funcs.length gc]):=by rw [hW];exact Lh Xd
 have HWE:=Lh hW
 clear hW hgE
 go_enter Tryz.func34,Tryz.ntmps34
 go_wp2_with fail
 rw [←HWE.out]
 refine (Xl3 c _ B W (Nat.le_trans hB HW.out.size) (HC.out.below (HW.out.mono hB))).mono ?_
 rintro e w1 ⟨rfl,hb1⟩
 have HB1:=Lh (HW.out.then hb1)
 have HK1:=Lh (HK.out.keep hb1)
 clear hb1
 by_cases hh:Xcs c
 rotate_left
 ·rw [Zc hh]
  have hno:Hid (¬Xv c):=Lh (fun h=>hh h.1)
  clear hh
  go_wp2_with fail
  go_ret3
  exact ⟨_,_,_,rfl,⟨(fun h=>by cases h),fun h=>absurd h hno.out⟩,HB1.out⟩
 rw [K6 hh]
 have HH:=Lh hh
 clear hh
 have q0:=HK1.out 0 _ rfl
 have q1:=HK1.out 1 _ rfl
 have q2:=HK1.out 2 _ rfl
 have zq:=Bl q0
 go_wp2_with fail
 clear q0 q1 q2 zq
 refine (Xiu c _ B w1 (Nat.le_trans hB HB1.out.size) (HC.out.below (HB1.out.mono hB))).mono ?_
 rintro e w2 ⟨i,k,rfl,hb2⟩
 have HB2:=Lh (HB1.out.then hb2)
 have HK2:=Lh (HK1.out.keep hb2)
 clear hb2
 cases hwr:Q4 c with
 | true=>
  have hno:Hid (¬Xv c):=Lh (fun h=>by rw [h.2.1] at hwr;cases hwr)
  clear hwr
  go_wp2_with fail
  go_ret3
  exact ⟨_,_,_,rfl,⟨(fun h=>by cases h),fun h=>absurd h hno.out⟩,HB2.out⟩
 | false=>
  have HWR:=Lh hwr
  clear hwr
  go_wp2_with fail
  go_loopw [8] (fun i wr=>∃ k:Nat,k≤c.funcs.length∧i=.int .i64 k∧Hid (Below w2.heap.size w2 wr∧∀ (j:Nat) f,j<k→c.funcs[j]?=some f→Zh c f)) (fun i _=>c.funcs.length - (intOf i).toNat)
  case atStart=>exact ⟨0,Nat.zero_le _,rfl,Lh ⟨Below.refl _ _,fun j f hj=>by omega⟩⟩
  case round=>
   obtain ⟨k,hk,rfl,hs⟩:=hrel
   have HBw:=Lh (HB2.out.then hs.out.1)
   have HK3:=Lh (HK2.out.keep hs.out.1)
   have q0:=HK3.out 0 _ rfl
   have q1:=HK3.out 1 _ rfl
   have q2:=HK3.out 2 _ rfl
   have zq:=Bl q0
   by_cases hlt:k<c.funcs.length
   ·obtain ⟨x,hx⟩:∃ x,c.funcs[k]?=some x:=⟨_,List.getElem?_eq_getElem hlt⟩
    rcases HGE.out with h|⟨b,o,rfl,hbB,hE⟩
    ·rw [h] at hx;simp at hx
    obtain ⟨g1,g2,g3,g4,⟨xv,g5,g6⟩,g7,g8,g9⟩:=(hE k x hx).below (HBw.out.mono hB) hbB
    have HFV:Hid (∀ V,Below wr.heap.size wr V→J4 B V (.agg #[.string x.name,.int .i64 x.params,.int .i64 x.locals,.bool x.result,xv]) x):=Lh (fun V hV=>⟨_,rfl,g6.inss (hV.mono (Nat.le_trans hB HBw.out.size)),g7,g8,g9⟩)
    obtain ⟨xa,xcap,rfl,-⟩:=g6
    have HX:=Lh hx
    have hwf:=Lh (Xjy HH.out HWR.out (List.mem_of_getElem? hx))
    have hk0:(0:Int)≤(k:Int):=Int.natCast_nonneg _
    have hk1:(k:Int)<(c.funcs.length:Int):=by omega
    have zg:=Bl g1
    have HCV:Hid (Yj B wr.drew (.agg #[.slice fa c.fields.length fc,.int .i64 c.globals,.slice (some ⟨b,o,none⟩) c.funcs.length gc]) c):=Lh (HC.out.below ((Xh HBw.out 1).mono hB))
    have hB2:B≤wr.drew.heap.size:=Nat.le_trans hB HBw.out.size
    have hbd:Hid (Below wr.heap.size wr wr.drew):=Lh (Xh (Below.refl _ _) 1)
    clear hE hx g7 g8 g9
    go_wp2_with fail
    go_upto_region 9 with fail
    go_region_held3 (fun V=>V.cell? ⟨w.heap.size,0,none⟩=some (.slice fa c.fields.length fc)∧V.cell? ⟨w.heap.size,1,none⟩=some (.int .i64 c.globals)∧V.cell? ⟨w.heap.size,2,none⟩=some (.slice (some ⟨b,o,none⟩) c.funcs.length gc)∧V.cell? ⟨b,o+k*5,none⟩=some (.string x.name)∧V.cell? ⟨b,o+k*5+1,none⟩=some (.int .i64 x.params)∧V.cell? ⟨b,o+k*5+2,none⟩=some (.int .i64 x.locals)∧V.cell? ⟨b,o+k*5+3,none⟩=some (.bool x.result)∧V.cell? ⟨b,o+k*5+4,none⟩=some (.slice xa x.code.length xcap))
     (first|exact ⟨q0,q1,q2,g1,g2,g3,g4,g5⟩|exact ⟨Xc hb3 q0,Xc hb3 q1,Xc hb3 q2,Xc hb3 g1,Xc hb3 g2,Xc hb3 g3,Xc hb3 g4,Xc hb3 g5⟩)
     (first|(go_at_call 69;refine (Xba c _ x _ B _ hB2 HCV.out (HFV.out _ hbd.out) hwf.out).mono ?_;rintro e w3 hP;obtain ⟨ha3,hn3,hc3,at3,er3,rfl,hiff,hb3⟩:∃ (ha3:Option Addr) (hn3 hc3:Nat) (at3 er3:Int),e=.returned (.tuple #[.slice ha3 hn3 hc3,.int .i64 at3,.int .i64 er3])∧Hid (er3=0↔Zh c x)∧Below wr.drew.heap.size wr.drew w3:=(by rcases hP with ⟨a,b,h1,h2,h3,h4⟩|⟨g,cp,hs,h1,_,_,_,h2,_,_,h4⟩;exact ⟨none,0,0,a,b,h1,Lh ⟨fun h=>absurd h h2,fun h=>absurd h h3⟩,h4⟩;exact ⟨_,_,_,0,0,h1,Lh ⟨fun _=>h2,fun _=>rfl⟩,h4⟩);clear hP))
    have HB4:=Lh ((Xh HBw.out 1).then hb3)
    have HB4o:=Lh ((Xh hs.out.1 1).then hb3)
    clear hb3
    by_cases he:er3=0
    ·subst he
     have hnew:Hid (∀ (j:Nat) f,j<k+1→c.funcs[j]?=some f→Zh c f):=Lh (fun j f hj hf=>by
      by_cases e:j=k
      ·subst e;rw [HX.out] at hf;cases hf;exact hiff.out.1 rfl
      ·exact hs.out.2 j f (by omega) hf)
     clear hiff
     go_wp2_with fail
     go_roundw
     case rel=>exact ⟨k+1,by omega,by go_num,Lh ⟨HB4o.out,hnew.out⟩⟩
     case measure=>simp [intOf];omega
    ·have hno:Hid (¬Xv c):=Lh (fun h=>he (hiff.out.2 (h.2.2 x (List.mem_of_getElem? HX.out))))
     have e1:(er3 != 0)=true:=by simpa using he
     have HE:=Lh he
     clear he hiff
     go_wp2_with fail
     go_ret3
     exact ⟨_,_,er3,rfl,⟨fun h=>absurd h HE.out,fun h=>absurd h hno.out⟩,HB4.out⟩
   ·have hyes:Hid (Xv c):=Lh ⟨HH.out,HWR.out,fun f hf=>by
     obtain ⟨j,hj,rfl⟩:=List.getElem_of_mem hf
     exact hs.out.2 j _ (by omega) (List.getElem?_eq_getElem hj)⟩
    go_wp2_with fail
    go_ret3
    exact ⟨_,_,_,rfl,⟨fun _=>hyes.out,fun _=>rfl⟩,HBw.out⟩
theorem U0 (c:Cod) (cv:Value) (B:Nat) (w:World) (hB:B≤w.heap.size) (hc:Yj B w cv c) :
  Calls Tryz.prog 10 #[cv] w fun e w'=>e=.returned (.bool (Xa2 c))∧Below w.heap.size w w':=by
 have HC:=Lh hc
 obtain ⟨cfv,cgv,rfl,hcf,hcg,-⟩:=hc
 obtain ⟨ca,ccap,rfl,-⟩:=hcf
 obtain ⟨cb,cbcap,rfl,-⟩:=hcg
 go_enter Tryz.func10,Tryz.ntmps10
 go_wp2_with fail
 refine (Xkb c _ B _ (by simp;omega) (HC.out.below ((Xa _ _).mono hB))).mono ?_
 rintro e w1 ⟨i,k,err,rfl,hiff,hb⟩
 have hbw:=Yi hb
 by_cases he:err=0
 ·have hfin:=Lh (Zg (hiff.1 he))
  subst he
  clear hiff
  go_wp2_with fail
  go_ret
  exact ⟨by rw [hfin.out];rfl,hbw⟩
 ·have hfin:=Lh (Jp (fun h=>he (hiff.2 h)))
  have e1:(err == 0)=false:=beq_eq_false_iff_ne.2 he
  clear hiff
  go_wp2_with fail
  go_ret
  exact ⟨by rw [hfin.out];exact congrArg (fun b=>Ending.returned (.bool b)) (by first|exact e1|rfl),hbw⟩
end Go.Proofs.YtbmeoklmachjpaaGreatDoor
