import Derived.Test.YtiejafonjemioaaGreatDoorRn
import Derived.Test.YtiejafonjemioaaGreatDoorStep0
set_option maxHeartbeats 4000000
set_option maxRecDepth 100000
set_option linter.unusedVariables false
set_option linter.unusedSimpArgs false
open Go.Value renaming slice→σ
open Go.Obj renaming cells→χ
namespace Go.Proofs.YtiejafonjemioaaGreatDoor
open Go.RowKit
variable {c:Cod} {f:Fun} {x:Ins} {hs hl:List Int} {ds l dl:List Bool} {q k i n j g base gd:Nat} {v:Int} {b:Bool} {V V' w W V2:World} {F Fh Fd F':List Nat} {ops:Array Oper} {rest:List Oper} {o:Oper} {a:Act} {Q:Exit->Act->World->Prop} {hv dv:Value}
theorem Xco (b:Bool) (w:World):Calls Tryz.prog 184 #[.bool b] w fun e w'=>e=.returned (ι (b2i b))/\w'=w:=by
 cases b
 all_goals
  go_enter Tryz.func184,Tryz.ntmps184
  go_wp2
  go_ret
  exact ⟨rfl,rfl⟩
def Xqj (op:Int):Int:=if Ya op then 2 else Y1 op
def Xnk (op:Int):Int:=if Ya op then 1 else Z7 op
theorem Qy (k:Int) (hk:x.op=k) (h9:k≠9) (h10:k≠10):Xm c f x=Xqj k/\Xj c f x=Xnk k:=by
 have a9:¬x.op=9:=ω
 have aA:¬x.op=10:=ω
 unfold Xm Xj Xqj Xnk
 rw [if_neg a9,if_neg aA,if_neg a9,if_neg aA,hk]
 exact ⟨rfl,rfl⟩
theorem Xpy (h:Ya x.op):Xm c f x=2/\Xj c f x=1:=by
 obtain ⟨a,b⟩:=Qy (c:=c) (f:=f) (x:=x) x.op rfl (by unfold Ya at h;omega) (by unfold Ya at h;omega)
 unfold Xqj at a;unfold Xnk at b
 rw [if_pos h] at a b
 exact ⟨a,b⟩
theorem Xka (c:Cod) (cv:Value) (f:Fun) (fv:Value) (x:Ins) (xv:Value) (B:Nat) (w:World) (hc:Yj B w cv c) (hf:J4 B w fv f) (hx:Xa3 B w xv x) (hr:x.op=10) :
  Calls Tryz.prog 158 #[cv,fv,xv] w fun e w'=>e=.returned (.tuple #[ι (Xm c f x),ι (Xj c f x)])/\Below w.heap.size w w':=by
 obtain ⟨fv,gv,rfl,aD,aE,aH⟩:=hc
 obtain ⟨kv,rfl,hk,hn,hp,aI⟩:=hf
 obtain ⟨rfl,aF,ha⟩:=hx
 obtain ⟨fa,aB,rfl,-⟩:=aD
 obtain ⟨ga,aC,rfl,-⟩:=aE
 obtain ⟨ka,aG,rfl,-⟩:=hk
 have aA:Hid (Xm c f x=b2i f.result/\Xj c f x=0):=Lh (by
  constructor
  ·unfold Xm;rw [if_neg ω,if_pos hr]
  ·unfold Xj;rw [if_neg ω,if_pos hr])
 obtain ⟨aJ,xa⟩:=x
 dsimp only at hr aF ha
 subst hr
 go_enter Tryz.func158,Tryz.ntmps158
 go_wp2_with fail
 refine (Xco _ _).mono ?_
 rintro e w' ⟨rfl,rfl⟩
 go_wp2_with fail
 go_ret2
 exact ⟨by rw [aA.o.1,aA.o.2];rfl,((Xa _ _).then (Xa _ _)).then (Xa _ _)⟩
theorem Xim (c:Cod) (cv:Value) (f:Fun) (fv:Value) (x:Ins) (xv:Value) (B:Nat) (w:World) (hc:Yj B w cv c) (hf:J4 B w fv f) (hx:Xa3 B w xv x) (h1:1<=x.op) (h2:x.op<=31) (hr:x.op≠9) (hr2:x.op≠10) :
  Calls Tryz.prog 158 #[cv,fv,xv] w fun e w'=>e=.returned (.tuple #[ι (Xm c f x),ι (Xj c f x)])/\Below w.heap.size w w':=by
 obtain ⟨fv,gv,rfl,aC,aD,aG⟩:=hc
 obtain ⟨kv,rfl,hk,hn,hp,aH⟩:=hf
 obtain ⟨rfl,aI,ha⟩:=hx
 obtain ⟨fa,aA,rfl,-⟩:=aC
 obtain ⟨ga,aB,rfl,-⟩:=aD
 obtain ⟨ka,aE,rfl,-⟩:=hk
 have e9:(x.op == 9)=false:=by simpa using hr
 have aF:(x.op == 10)=false:=by simpa using hr2
 unfold in64 at *
 have fin:∀ p q:Int,Xm c f x=p/\Xj c f x=q->Ending.returned (Value.tuple #[ι p,ι q])=.returned (.tuple #[ι (Xm c f x),ι (Xj c f x)]):=fun p q ⟨a,b⟩=>by rw [a,b]
 have HF:=Lh fin
 clear fin
 go_enter Tryz.func158,Tryz.ntmps158
 go_wp2_with fail
 all_goals
  go_ret2
  refine ⟨HF.o _ _ ?_,((Xa _ _).then (Xa _ _)).then (Xa _ _)⟩
  simp only [beq_iff_eq,beq_eq_false_iff_ne,ne_eq] at *
  first
   | exact Qy 1 (by assumption) ω ω
   | exact Qy 2 (by assumption) ω ω
   | exact Qy 4 (by assumption) ω ω
   | exact Qy 8 (by assumption) ω ω
   | exact Qy 3 (by assumption) ω ω
   | exact Qy 5 (by assumption) ω ω
   | exact Qy 12 (by assumption) ω ω
   | exact Qy 30 (by assumption) ω ω
   | exact Qy 6 (by assumption) ω ω
   | exact Qy 14 (by assumption) ω ω
   | exact Qy 26 (by assumption) ω ω
   | exact Qy 29 (by assumption) ω ω
   | exact Qy 7 (by assumption) ω ω
   | exact Qy 11 (by assumption) ω ω
   | exact Qy 13 (by assumption) ω ω
   | exact Qy 31 (by assumption) ω ω
   | exact Xpy (by unfold Ya;omega)
theorem Xhp (c:Cod) (cv:Value) (f:Fun) (fv:Value) (x:Ins) (xv:Value) (B:Nat) (w:World) (hB:B<=w.heap.size) (hc:Yj B w cv c) (hf:J4 B w fv f) (hx:Xa3 B w xv x) (hr:x.op=9) (hr2:0<=x.a) (hr3:x.a<c.funcs.length) :
  Calls Tryz.prog 158 #[cv,fv,xv] w fun e w'=>e=.returned (.tuple #[ι (Xm c f x),ι (Xj c f x)])/\Below w.heap.size w w':=by
 obtain ⟨fv,gv,rfl,aI,aJ,aN⟩:=hc
 obtain ⟨kv,rfl,hk,hn,hp,aO⟩:=hf
 obtain ⟨rfl,aF,ha⟩:=hx
 obtain ⟨fa,aA,rfl,-⟩:=aI
 obtain ⟨ga,aB,rfl,aL,-,-,aK⟩:=aJ
 obtain ⟨ka,aE,rfl,-⟩:=hk
 obtain ⟨n,aD⟩:=Int.eq_ofNat_of_zero_le hr2
 have aM:n<c.funcs.length:=ω
 obtain ⟨g,hg⟩:∃ g,c.funcs[n]?=some g:=⟨_,Lg aM⟩
 have aC:Hid (Xm c f x=g.params/\Xj c f x=b2i g.result):=Lh (by
  have:Je c x.a=some g:=by unfold Je;rw [aD];exact hg
  constructor
  ·unfold Xm;rw [if_pos hr,this]
  ·unfold Xj;rw [if_pos hr,this])
 rcases aK with h|⟨b,o,rfl,aH,hE⟩
 ·rw [h] at hg;simp at hg
 obtain ⟨W,hW⟩:∃ W,W=(((w.alloc (χ #[σ fa c.fields.length aA,ι c.globals,σ (some (π b o)) c.funcs.length aB] 25)).alloc (χ #[.string f.name,ι f.params,ι f.locals,.bool f.result,σ ka f.code.length aE] 93)).alloc (χ #[ι x.op,ι x.a] 124)):=⟨_,rfl⟩
 have HW:Hid (Below w.heap.size w W):=by rw [hW];exact Lh (((Xa _ _).then (Xa _ _)).then (Xa _ _))
 have k1:Xo W w.heap.size [σ fa c.fields.length aA,ι c.globals,σ (some (π b o)) c.funcs.length aB]:=by rw [hW];exact (Xd.alloc _).alloc _
 have k3:Xo W (w.heap.size+1+1) [ι x.op,ι x.a]:=by rw [hW];exact Xce
 obtain ⟨aR,xa⟩:=x
 dsimp only at hr aF ha hr2 hr3 aD k3 hW ⊢
 subst hr aD
 have c2:=k1 2 _ rfl
 have x1:=k3 1 _ rfl
 obtain ⟨_,g1,_,g3,_⟩:=(hE n g hg).below (HW.o.mono hB) aH
 have aG:=Lh hW
 have aP:(0:Int)<=(n:Int):=In _
 have aQ:(n:Int)<(c.funcs.length:Int):=ω
 clear hW k1 k3 hE hg ha aF hr2 hr3
 go_enter Tryz.func158,Tryz.ntmps158
 go_wp2_with fail
 rw [<-aG.o]
 go_quiet ((go_at_call 184;exact Calls.quiet_of_same (Xco _ _)))
 go_wp2_with fail
 go_ret2
 exact ⟨by rw [aC.o.1,aC.o.2];rfl,Xh HW.o _⟩
theorem Xdl (c:Cod) (cv:Value) (f:Fun) (fv:Value) (x:Ins) (xv:Value) (B:Nat) (w:World) (hB:B<=w.heap.size) (hc:Yj B w cv c) (hf:J4 B w fv f) (hx:Xa3 B w xv x) (wf:WfF c f) (hm:x∈f.code) :
  Calls Tryz.prog 158 #[cv,fv,xv] w fun e w'=>e=.returned (.tuple #[ι (Xm c f x),ι (Xj c f x)])/\Below w.heap.size w w':=by
 by_cases h9:x.op=9
 ·have:=wf.call x hm h9
  exact Xhp c cv f fv x xv B w hB hc hf hx h9 this.1 this.2
 by_cases aA:x.op=10
 ·exact Xka c cv f fv x xv B w hc hf hx aA
 ·have:=wf.op x hm
  exact Xim c cv f fv x xv B w hc hf hx this.1 this.2 h9 aA
def Xrm (x:Ins) (i:Nat) (w:World) (e:Ending) (w':World):Prop:=
 ∃ (a:Option Addr) (l:List Nat) (cap:Nat),e=.returned (σ a l.length cap)/\l.length<=cap/\cap<=2/\(l=[]\/∃ g,a=some (π g 0)/\w.heap.size<=g/\g<w'.heap.size/\∀ (j:Nat) y,l[j]?=some y->w'.cell? (π g j)=some (ι (y:Int)))/\l=X2 x i/\Below w.heap.size w w'
theorem Xlb (x:Ins) (i:Nat) (w:World) (hi:i<=1048576) (ha:x.op=11\/x.op=12->0<=x.a) :
  Calls Tryz.prog 159 #[.agg #[ι x.op,ι x.a],ι (i:Int)] w (Xrm x i w):=by
 obtain ⟨W,hW⟩:∃ W,W=w.alloc (χ #[ι x.op,ι x.a] 124):=⟨_,rfl⟩
 have HW:Hid (Below w.heap.size w W):=by rw [hW];exact Lh (Xa _ _)
 have aF:Hid (W.heap.size=w.heap.size+1):=by rw [hW];exact Lh ψ
 have k1:Xo W w.heap.size [ι x.op,ι x.a]:=by rw [hW];exact Xd
 have x0:=k1 0 _ rfl
 have x1:=k1 1 _ rfl
 have zx:=Bl x0
 have aE:=Lh hW
 obtain ⟨aA,xa⟩:=x
 dsimp only at x0 x1 ha aE ⊢
 clear k1 hW
 by_cases aB:aA=10
 ·subst aB
  go_enter Tryz.func159,Tryz.ntmps159
  go_wp2
  go_ret
  rw [<-aE.o]
  exact ⟨none,[],0,rfl,ψ,ω,.inl rfl,rfl,HW.o⟩
 have aG:(aA == 10)=false:=by simpa using aB
 by_cases aC:aA=11
 ·subst aC
  obtain ⟨n,rfl⟩:=Int.eq_ofNat_of_zero_le (ha (.inl rfl))
  go_enter Tryz.func159,Tryz.ntmps159
  go_wp2
  go_ret
  refine ⟨_,[n],1,rfl,ψ,ω,.inr ⟨w.heap.size+1,rfl,ω,ψ,fun j y hy=>?_⟩,by simp [X2],(Xa _ _).then (Xa _ _)⟩
  exact Uu j _ (by
   have:([ι (n:Int)]:List Value)[j]?=some (ι (y:Int)):=by
    have h2:(([n]:List Nat).map (fun (k:Nat)=>Value.int .i64 (k:Int)))[j]?=some (ι (y:Int)):=by rw [List.getElem?_map,hy];rfl
    exact h2
   exact this)
 have aH:(aA == 11)=false:=by simpa using aC
 by_cases aD:aA=12
 ·subst aD
  obtain ⟨n,rfl⟩:=Int.eq_ofNat_of_zero_le (ha (.inr rfl))
  go_enter Tryz.func159,Tryz.ntmps159
  go_wp2
  go_ret
  refine ⟨_,[i+1,n],2,rfl,ψ,ω,.inr ⟨w.heap.size+1,rfl,ω,ψ,fun j y hy=>?_⟩,by simp [X2],(Xa _ _).then (Xa _ _)⟩
  exact Uu j _ (by
   have:([ι ((i:Int)+1),ι (n:Int)]:List Value)[j]?=some (ι (y:Int)):=by
    have h2:(([i+1,n]:List Nat).map (fun (k:Nat)=>Value.int .i64 (k:Int)))[j]?=some (ι (y:Int)):=by rw [List.getElem?_map,hy];rfl
    exact h2
   exact this)
 have aI:(aA == 12)=false:=by simpa using aD
 go_enter Tryz.func159,Tryz.ntmps159
 go_wp2
 go_ret
 refine ⟨_,[i+1],1,rfl,ψ,ω,.inr ⟨w.heap.size+1,rfl,ω,ψ,fun j y hy=>?_⟩,by simp [X2,aB,aC,aD],(Xa _ _).then (Xa _ _)⟩
 exact Uu j _ (by
  have:([ι ((i:Int)+1)]:List Value)[j]?=some (ι (y:Int)):=by
   have h2:(([i+1]:List Nat).map (fun (k:Nat)=>Value.int .i64 (k:Int)))[j]?=some (ι (y:Int)):=by rw [List.getElem?_map,hy];rfl
   exact h2
  exact this)
def Tb (hs:List Int) (ds:List Bool) (q:Nat):Bool:=decide (0<=hs.getD q (-1)) && !(ds.getD q true)
theorem Xg2 (h:hs[q]?=some v) (d:ds[q]?=some b):Tb hs ds q=(decide (0<=v) && !b):=by
 unfold Tb;rw [List.getD_eq_getElem?_getD,List.getD_eq_getElem?_getD,h,d];rfl
theorem Xnl (h:ds.length<=q):Tb hs ds q=false:=by
 unfold Tb;rw [List.getD_eq_getElem?_getD (l:=ds),List.getElem?_eq_none h];simp
structure Xbj (c:Cod) (f:Fun) (hs:List Int) (ds:List Bool) (skip:Nat->Prop):Prop where
 lab:Lab c f hs (Tb hs ds) skip
 len:ds.length=f.code.length
 dn:∀ (q:Nat),ds[q]?=some true->∃ v,hs[q]?=some v/\0<=v
def Xi1 (ds:List Bool):Nat:=ds.countP (fun b=>!b)
theorem Xno (hk:ds[k]?=some false):Xi1 (ds.set k true)+1=Xi1 ds:=by
 unfold Xi1
 induction ds generalizing k with
 | nil=>simp at hk
 | cons a l ih=>
  cases k with
  | zero=>simp at hk;subst hk;simp
  | succ k=>
   simp at hk
   rw [List.set_cons_succ,List.countP_cons,List.countP_cons]
   have:=ih hk
   omega
theorem Xbj.start (wf:WfF c f):Xbj c f ((List.replicate f.code.length (-1:Int)).set 0 0) (List.replicate f.code.length false) (fun _=>False) where
 lab:=Lab.start wf _ (fun i=>by
  have h1:=wf.one
  by_cases hi:i<f.code.length
  ·have hd:(List.replicate f.code.length false)[i]?=some false:=by simp [hi]
   by_cases h0:i=0
   ·subst h0
    have aA:((List.replicate f.code.length (-1:Int)).set 0 0)[0]?=some 0:=List.getElem?_set_self (by rw [List.length_replicate];omega)
    rw [Xg2 aA hd];rfl
   ·have:((List.replicate f.code.length (-1:Int)).set 0 0)[i]?=some (-1):=by rw [List.getElem?_set_ne ω];simp [hi]
    rw [Xg2 this hd]
    have:decide (i=0)=false:=by simpa using h0
    rw [this];rfl
  ·rw [Xnl φ]
   have:decide (i=0)=false:=by simp;omega
   rw [this])
 len:=by simp
 dn:=fun q h=>by
  rw [List.getElem?_replicate] at h
  split at h<;>simp at h
theorem Xbj.take (h:Xbj c f hs ds (fun _=>False)) (hv:hs[i]?=some v) (h0:0<=v) (hd:ds[i]?=some false):Xbj c f hs (ds.set i true) (fun j=>j=i) where
 lab:=h.lab.take (fun j=>by
  by_cases e:j=i
  ·subst e
   have hl:=(Ll hd)
   rw [Xg2 hv (List.getElem?_set_self hl)];simp
  ·have h1:(ds.set i true).getD j true=ds.getD j true:=by rw [List.getD_eq_getElem?_getD,List.getD_eq_getElem?_getD,List.getElem?_set_ne (fun q=>e q.symm)]
   have h2:decide (j=i)=false:=by simpa using e
   unfold Tb
   rw [h1,h2];simp)
 len:=by rw [List.length_set];exact h.len
 dn:=fun q hq=>by
  by_cases e:q=i
  ·subst e;exact ⟨v,hv,h0⟩
  ·rw [List.getElem?_set_ne (fun z=>e z.symm)] at hq;exact h.dn q hq
structure RIn (c:Cod) (f:Fun) (hs:List Int) (ds:List Bool) (i:Nat) (v n:Int) (l:List Nat) (j:Nat):Prop where
 rl:Xbj c f hs ds (fun q=>q=i)
 at_:hs[i]?=some v
 so:∀ (t k:Nat),t<j->l[t]?=some k->hs[k]?=some n
theorem RIn.same {n:Int} {l:List Nat} (h:RIn c f hs ds i v n l j) (hk:l[j]?=some k) (hkv:hs[k]?=some n):RIn c f (hs.set k n) ds i v n l (j+1):=by
 have e:hs.set k n=hs:=List.ext_getElem? (fun q=>by
  by_cases e:k=q
  ·subst e;rw [List.getElem?_set_self (Ll hkv),hkv]
  ·rw [List.getElem?_set_ne e])
 rw [e]
 refine ⟨h.rl,h.at_,fun t q ht hq=>?_⟩
 by_cases e:t=j
 ·subst e;rw [hk] at hq;cases hq;exact hkv
 ·exact h.so t q ω hq
theorem RIn.label (wf:WfF c f) (hx:f.code[i]?=some x) (hv0:0<=v) (hp:Xm c f x<=v)
  (h:RIn c f hs ds i v (v - Xm c f x+Xj c f x) (X2 x i) j) (hk:(X2 x i)[j]?=some k) (hkv:hs[k]?=some (-1)) :
  RIn c f (hs.set k (v - Xm c f x+Xj c f x)) ds i v (v - Xm c f x+Xj c f x) (X2 x i) (j+1):=by
 have aF:=wf.pushes x (Lm hx)
 have aB:=(Ll hkv)
 have aE:∀ (q:Nat) u,hs[q]?=some u->0<=u->k≠q:=fun q u hj hu e=>by subst e;rw [hkv] at hj;cases hj;omega
 have aA:∀ (q:Nat) u,hs[q]?=some u->0<=u->(hs.set k (v - Xm c f x+Xj c f x))[q]?=some u:=fun q u hj hu=>by
  rw [List.getElem?_set,if_neg (aE q u hj hu)];exact hj
 have aD:ds[k]?=some false:=by
  have hl:k<ds.length:=by rw [h.rl.len,<- h.rl.lab.len];exact aB
  cases hb:ds[k] with
  | false=>rw [Lg hl,hb]
  | true=>
   obtain ⟨u,hu,aC⟩:=h.rl.dn k (by rw [Lg hl,hb])
   rw [hkv] at hu;cases hu;omega
 have hT:∀ q,Tb (hs.set k (v - Xm c f x+Xj c f x)) ds q=(Tb hs ds q || decide (q=k)):=fun q=>by
  by_cases e:q=k
  ·subst e
   rw [Xg2 (List.getElem?_set_self aB) aD]
   have:decide (0<=v - Xm c f x+Xj c f x)=true:=by simp;omega
   rw [this];simp
  ·have h1:(hs.set k (v - Xm c f x+Xj c f x)).getD q (-1)=hs.getD q (-1):=by rw [List.getD_eq_getElem?_getD,List.getD_eq_getElem?_getD,List.getElem?_set_ne (fun z=>e z.symm)]
   have h2:decide (q=k)=false:=by simpa using e
   unfold Tb
   rw [h1,h2];simp
 refine ⟨⟨h.rl.lab.label wf h.at_ hv0 hx hp (Lm hk) hkv hT,h.rl.len,fun q hq=>?_⟩,aA _ _ h.at_ hv0,fun t q ht hq=>?_⟩
 ·obtain ⟨u,hu,aC⟩:=h.rl.dn q hq
  exact ⟨u,aA q u hu aC,aC⟩
 ·by_cases e:t=j
  ·subst e;rw [hk] at hq;cases hq
   exact List.getElem?_set_self aB
  ·exact aA _ _ (h.so t q ω hq) ω
theorem RIn.done (hx:f.code[i]?=some x) (hp:Xm c f x<=v) (hr:x.op=10->v<=Xm c f x)
  (h:RIn c f hs ds i v (v - Xm c f x+Xj c f x) (X2 x i) j) (hj:(X2 x i).length<=j):Xbj c f hs ds (fun _=>False):=
 ⟨h.rl.lab.put h.at_ ⟨x,hx,hp,hr,fun k hk=>by
  obtain ⟨t,ht,rfl⟩:=List.getElem_of_mem hk
  exact h.so t _ ω (Lg ht)⟩,h.rl.len,h.rl.dn⟩
theorem RIn.clash {u:Int} (hx:f.code[i]?=some x) (hv0:0<=v)
  (h:RIn c f hs ds i v (v - Xm c f x+Xj c f x) (X2 x i) j) (hk:(X2 x i)[j]?=some k) (hkv:hs[k]?=some u) (hu:0<=u) (hne:u≠v - Xm c f x+Xj c f x):¬Zh c f:=
 fun hs=>hne (hs.2 k _ _ (h.rl.lab.reach k u hkv hu) ((h.rl.lab.reach i v h.at_ hv0).next hx (Lm hk)))
theorem Xbj.fin (wf:WfF c f) (h:Xbj c f hs ds (fun _=>False)) (hT:∀ j,j<f.code.length->Tb hs ds j=false):Zh c f/\Zp c f hs:=
 h.lab.fin wf (fun i=>by
  by_cases hi:i<f.code.length
  ·exact hT i hi
  ·exact Xnl (by rw [h.len];omega))
def Vq (V:World) (g:Nat) (hs:List Int):Prop:=∃ cur,V.heap[g]?=some (χ cur 3 (0,0))/\cur.toList.take hs.length=hs.map (Value.int .i64)
def Xbm (V:World) (g:Nat) (ds:List Bool):Prop:=∃ cur,V.heap[g]?=some (χ cur 4 (0,0))/\cur.toList.take ds.length=ds.map Value.bool
theorem Xiw {cur:Array Value} {l:List Value} {u:Value} (h:cur.toList.take n=l) (hk:l[k]?=some u):cur[k]?=some u:=by
 have hl:=(Ll hk)
 have hn:k<n:=by
  rw [<-h,List.length_take] at hl;omega
 rw [<-h,List.getElem?_take] at hk
 rw [if_pos hn] at hk
 simpa using hk
theorem Vq.cell (h:Vq V g hs) (hk:hs[k]?=some v):V.cell? (π g k)=some (ι v):=by
 obtain ⟨aA,h1,h2⟩:=h
 rw [cell_of_row _ _ _ _ _ _ h1]
 exact Xiw h2 (by rw [List.getElem?_map,hk];rfl)
theorem Xbm.cell (h:Xbm V g ds) (hk:ds[k]?=some b):V.cell? (π g k)=some (.bool b):=by
 obtain ⟨aA,h1,h2⟩:=h
 rw [cell_of_row _ _ _ _ _ _ h1]
 exact Xiw h2 (by rw [List.getElem?_map,hk];rfl)
theorem Vq.keep (h:Vq V g hs) (hb:V'.heap[g]?=V.heap[g]?):Vq V' g hs:=by
 obtain ⟨aA,h1,h2⟩:=h
 exact ⟨aA,by rw [hb];exact h1,h2⟩
theorem Xbm.keep (h:Xbm V g ds) (hb:V'.heap[g]?=V.heap[g]?):Xbm V' g ds:=by
 obtain ⟨aA,h1,h2⟩:=h
 exact ⟨aA,by rw [hb];exact h1,h2⟩
theorem Vq.lt (h:Vq V g hs):g<V.heap.size:=by obtain ⟨aA,h1,_⟩:=h;exact (La h1)
theorem Xbm.lt (h:Xbm V g ds):g<V.heap.size:=by obtain ⟨aA,h1,_⟩:=h;exact (La h1)
theorem Vq.frozen (h:Vq V g hs) (k:Nat):V.frozen? (π g k)=false:=by obtain ⟨aA,h1,_⟩:=h;exact Fz h1
theorem Xbm.frozen (h:Xbm V g ds) (k:Nat):V.frozen? (π g k)=false:=by obtain ⟨aA,h1,_⟩:=h;exact Fz h1
theorem Vq.put (h:Vq V g hs) (k:Nat) (v:Int):Vq (V.setCell (π g k) (ι v)) g (hs.set k v):=by
 obtain ⟨aA,h1,h2⟩:=h
 refine ⟨_,heap_setCell_same _ _ _ _ _ _ h1,?_⟩
 rw [List.length_set,Array.toList_setIfInBounds,List.take_set,h2,List.map_set]
theorem Xbm.put (h:Xbm V g ds) (k:Nat) (b:Bool):Xbm (V.setCell (π g k) (.bool b)) g (ds.set k b):=by
 obtain ⟨aA,h1,h2⟩:=h
 refine ⟨_,heap_setCell_same _ _ _ _ _ _ h1,?_⟩
 rw [List.length_set,Array.toList_setIfInBounds,List.take_set,h2,List.map_set]
theorem Xpu {v:Value} (h:w.ownsRow base 3 1 v n (hs.map (Value.int .i64))) (hn:hs.length=n) (h1:1<=n):∃ g cap,v=σ (some (π g 0)) n cap/\base<=g/\n<=cap/\cap<=9223372036854775807/\Vq w g hs:=by
 rcases h.2 with ⟨_,h0⟩|⟨g,cap,aA,rfl,hb,hg,hc,aB,aC,ht⟩
 ·omega
 ·rw [Nat.mul_one] at ht
  exact ⟨g,cap,rfl,hb,hc,by unfold maxLen at aB;omega,aA,hg,by rw [hn];exact ht⟩
theorem Xpi {v:Value} (h:w.ownsRow base 4 1 v n (ds.map Value.bool)) (hn:ds.length=n) (h1:1<=n):∃ g cap,v=σ (some (π g 0)) n cap/\base<=g/\n<=cap/\cap<=9223372036854775807/\Xbm w g ds:=by
 rcases h.2 with ⟨_,h0⟩|⟨g,cap,aA,rfl,hb,hg,hc,aB,aC,ht⟩
 ·omega
 ·rw [Nat.mul_one] at ht
  exact ⟨g,cap,rfl,hb,hc,by unfold maxLen at aB;omega,aA,hg,by rw [hn];exact ht⟩
theorem Vq.reads {cap B:Nat} (h:Vq V g hs) (hl:hs.length<=140737488355328) (hc:hs.length<=cap) (hc2:cap<=9223372036854775807) (hB:g<B) (h64:∀ v∈hs,in64 v):Xf B V 1 Zd (σ (some (π g 0)) hs.length cap) hs:=
 ⟨_,_,rfl,hl,hc,hc2,.inr ⟨g,0,rfl,hB,fun i x hx=>⟨by rw [Nat.mul_one,Nat.zero_add];exact h.cell hx,h64 x (Lm hx)⟩⟩⟩
theorem Xmf:(Tryz.prog.info? 4).map (fun i=>(i.zero,i.size,i.bytes))=some (some (.bool false),1,1):=by kernel_rfl
def Xda (w:World) (v:Value) (l:List Bool) (F:List Nat):Prop:=w.ownsRow 0 4 1 v l.length (l.map Value.bool)/\F=v.ownBlock.toList
theorem Xda.keep {w':World} {v:Value} (h:Xda w v l F) (hk:∀ b∈F,w'.heap[b]?=w.heap[b]?):Xda w' v l F:=by
 obtain ⟨h1,h2⟩:=h
 subst h2
 refine ⟨⟨h1.1,?_⟩,rfl⟩
 rcases h1.2 with h3|⟨g,cap,aA,rfl,hb,hg,r⟩
 ·exact .inl h3
 ·exact .inr ⟨g,cap,aA,rfl,hb,by rw [hk g (by simp [Value.ownBlock])];exact hg,r⟩
theorem Xda.lt {v:Value} (h:Xda w v l F):∀ b∈F,b<w.heap.size:=fun b hb=>by
 obtain ⟨h1,h2⟩:=h
 subst h2
 simp at hb
 exact (h1.lt b hb).2
theorem Xk0 (w:World) (v:Value) (l:List Bool) (F:List Nat) (hO:Xda w v l F) (ad:Addr) (n:Bool) (hc:w.cell? ad=some (.bool n)) (hl:l.length<2000000) (ty:TypeId) :
  ∃ v' w' F',(Builtin.append_ #[188,188] ty #[v,σ (some ad) 1 1]).run Tryz.prog w=.ok v' w'/\Xda w' v' (l++[n]) F'/\Xp F F' w w'/\(∃ g,F'=[g]/\(F=[g]\/w.heap.size<=g))/\(∃ a' c',v'=σ a' (l.length+1) c'):=by
 obtain ⟨i,hi,aA,aB,aC⟩:=info_parts Xmf
 obtain ⟨v',w',g,hr,h2,h3,h4,h5⟩:=Va (P:=Tryz.prog) w 188 ty 4 i (.bool false) 1 1 Tryz.underlying188 hi aA aB aC rfl δ v l.length (l.map Value.bool) hO.1 ad 1 1 [.bool n] rfl
  (fun j u hu=>by
   cases j with
   | zero=>simp at hu;subst hu;exact hc
   | succ j=>simp at hu) (by simp [Value.oneCell']) (by unfold maxLen;omega) ω ω
 have hF:=hO.2
 refine ⟨v',w',v'.ownBlock.toList,hr,⟨by simpa using h2,rfl⟩,by rw [hF];exact U3 h3 h4 h5,⟨g,by rw [h4];rfl,?_⟩,?_⟩
 ·rcases h5 with h5|h5
  ·left;rw [hF,h5];rfl
  ·right;exact h5
 ·rcases h2.2 with ⟨rfl,aE⟩|⟨g',cap,aD,rfl,_⟩
  ·omega
  ·exact ⟨_,_,rfl⟩
theorem Xfq (hgd:o.guard=none) (s x:Operand) (ho:o.op=.call { callee:=.builtin .append,args:=#[s,x],argTypes:=#[188,188] })
  (v:Value) (l:List Bool) (F:List Nat) (hs:a.eval s=v) (hO:Xda w v l F) (ad:Addr) (n:Bool) (hx:a.eval x=σ (some ad) 1 1) (hc:w.cell? ad=some (.bool n)) (hl:l.length<2000000)
  (h:∀ a' c' w' F',Xda w' (σ a' (l.length+1) c') (l++[n]) F'->Xp F F' w w'->(∃ g,F'=[g]/\(F=[g]\/w.heap.size<=g))->wpList Tryz.prog ops Q rest (a.put o.dst (σ a' (l.length+1) c')) w'):wpList Tryz.prog ops Q (o::rest) a w:=by
 refine wpList_plain hgd fun K hK=>?_
 obtain ⟨v',w',F',hr,h2,h3,h4,⟨a',c',rfl⟩⟩:=Xk0 w v l F hO ad n hc hl o.type
 unfold Oper.wp execOp
 simp only [ho,resolve,invoke,builtin,Sem.run_bind,Sem.run_pure,Result.andThen_ok,List.map_toArray,List.map_cons,List.map_nil,hs,hx,hr]
 exact hK _ _ (h a' c' w' F' h2 h3 h4)
theorem Xmk (w:World) (v:Value) (l:List Int) (F:List Nat) (hO:Yv w v l F) (ad:Addr) (n:Int) (hn:in64 n) (hc:w.cell? ad=some (ι n)) (hl:l.length<2000000) (ty:TypeId) :
  ∃ v' w' F',(Builtin.append_ #[22,22] ty #[v,σ (some ad) 1 1]).run Tryz.prog w=.ok v' w'/\Yv w' v' (l++[n]) F'/\Xp F F' w w'/\(∃ g,F'=[g]/\(F=[g]\/w.heap.size<=g))/\(∃ a' c',v'=σ a' (l.length+1) c'):=by
 obtain ⟨i,hi,aA,aB,aC⟩:=info_parts Uc
 obtain ⟨v',w',g,hr,h2,h3,h4,h5⟩:=Va (P:=Tryz.prog) w 22 ty 3 i (ι 0) 1 8 Tryz.underlying22 hi aA aB aC rfl δ v l.length (l.map (Value.int .i64)) hO.1 ad 1 1 [ι n] rfl
  (fun j u hu=>by
   cases j with
   | zero=>simp at hu;subst hu;exact hc
   | succ j=>simp at hu) (by simp [Value.oneCell']) (by unfold maxLen;omega) ω ω
 have hF:=hO.2.1
 refine ⟨v',w',v'.ownBlock.toList,hr,⟨by simpa using h2,rfl,fun x hx=>by simp at hx;rcases hx with hx|rfl;exact hO.2.2 x hx;exact hn⟩,by rw [hF];exact U3 h3 h4 h5,⟨g,by rw [h4];rfl,?_⟩,?_⟩
 ·rcases h5 with h5|h5
  ·left;rw [hF,h5];rfl
  ·right;exact h5
 ·rcases h2.2 with ⟨rfl,aE⟩|⟨g',cap,aD,rfl,_⟩
  ·omega
  ·exact ⟨_,_,rfl⟩
theorem Xf3 (hgd:o.guard=none) (s x:Operand) (ho:o.op=.call { callee:=.builtin .append,args:=#[s,x],argTypes:=#[22,22] })
  (v:Value) (l:List Int) (F:List Nat) (hs:a.eval s=v) (hO:Yv w v l F) (ad:Addr) (n:Int) (hn:in64 n) (hx:a.eval x=σ (some ad) 1 1) (hc:w.cell? ad=some (ι n)) (hl:l.length<2000000)
  (h:∀ a' c' w' F',Yv w' (σ a' (l.length+1) c') (l++[n]) F'->Xp F F' w w'->(∃ g,F'=[g]/\(F=[g]\/w.heap.size<=g))->wpList Tryz.prog ops Q rest (a.put o.dst (σ a' (l.length+1) c')) w'):wpList Tryz.prog ops Q (o::rest) a w:=by
 refine wpList_plain hgd fun K hK=>?_
 obtain ⟨v',w',F',hr,h2,h3,h4,⟨a',c',rfl⟩⟩:=Xmk w v l F hO ad n hn hc hl o.type
 unfold Oper.wp execOp
 simp only [ho,resolve,invoke,builtin,Sem.run_bind,Sem.run_pure,Result.andThen_ok,List.map_toArray,List.map_cons,List.map_nil,hs,hx,hr]
 exact hK _ _ (h a' c' w' F' h2 h3 h4)
structure Xb3 (W V:World) (hl:List Int) (dl:List Bool) (hv dv:Value) (Fh Fd:List Nat):Prop where
 h:Yv V hv hl Fh
 d:Xda V dv dl Fd
 dis:∀ b∈Fh,b∉Fd
 geh:∀ b∈Fh,W.heap.size<=b
 ged:∀ b∈Fd,W.heap.size<=b
 below:Below W.heap.size W V
theorem Xb3.start (W:World):Xb3 W W [] [] ν ν [] []:=
 ⟨⟨World.ownsRow_nil _ _ _ _,rfl,ψ⟩,⟨World.ownsRow_nil _ _ _ _,rfl⟩,ψ,ψ,ψ,Below.refl _ _⟩
theorem Xb3.alloc (h:Xb3 W V hl dl hv dv Fh Fd) (o:Obj):Xb3 W (V.alloc o) hl dl hv dv Fh Fd:=
 ⟨h.h.keep (fun b hb=>Ha _ _ _ (h.h.lt b hb)),h.d.keep (fun b hb=>Ha _ _ _ (h.d.lt b hb)),h.dis,h.geh,h.ged,h.below.then (Xa _ _)⟩
theorem Xb3.pushI {hl':List Int} {hv':Value} (h:Xb3 W V hl dl hv dv Fh Fd) (hO:Yv V2 hv' hl' F') (hM:Xp Fh F' V V2) (hF:∃ g,F'=[g]/\(Fh=[g]\/V.heap.size<=g)):Xb3 W V2 hl' dl hv' dv F' Fd:=by
 have aA:=hM.ge h.geh h.below.size
 refine ⟨hO,h.d.keep (fun b hb=>hM.block b (h.d.lt b hb) (fun e=>h.dis b e hb)),?_,aA,h.ged,h.below.trans (hM.below h.geh h.below.size)⟩
 intro b hb hd
 obtain ⟨g,rfl,hg⟩:=hF
 obtain rfl:b=g:=by simpa using hb
 rcases hg with rfl|hg
 ·exact h.dis b ψ hd
 ·have:=h.d.lt b hd;omega
theorem Xb3.pushB {dl':List Bool} {dv':Value} (h:Xb3 W V hl dl hv dv Fh Fd) (hO:Xda V2 dv' dl' F') (hM:Xp Fd F' V V2) (hF:∃ g,F'=[g]/\(Fd=[g]\/V.heap.size<=g)):Xb3 W V2 hl dl' hv dv' Fh F':=by
 have aA:=hM.ge h.ged h.below.size
 refine ⟨h.h.keep (fun b hb=>hM.block b (h.h.lt b hb) (fun e=>h.dis b hb e)),hO,?_,h.geh,aA,h.below.trans (hM.below h.ged h.below.size)⟩
 intro b hb hd
 obtain ⟨g,rfl,hg⟩:=hF
 obtain rfl:b=g:=by simpa using hd
 rcases hg with rfl|hg
 ·exact h.dis b hb ψ
 ·have:=h.h.lt b hb;omega
theorem Xnw (k:Nat):Xi1 (List.replicate k false)<=k:=by
 have:=List.countP_le_length (p:=fun b:Bool=>!b) (l:=List.replicate k false)
 rw [List.length_replicate] at this
 exact this
theorem Xhc {α:Type} (k:Nat) (a:α):List.replicate k a++[a]=List.replicate (k+1) a:=List.replicate_succ'.symm
structure Xa4 (c:Cod) (f:Fun) (W V:World) (g gd:Nat) (hs:List Int) (ds:List Bool):Prop where
 ri:Vq V g hs
 rb:Xbm V gd ds
 ne:g≠gd
 geh:W.heap.size<=g
 ged:W.heap.size<=gd
 below:Below W.heap.size W V
theorem Xa4.later (h:Xa4 c f W V g gd hs ds) (hb:Below V.heap.size V V'):Xa4 c f W V' g gd hs ds:=
 ⟨h.ri.keep (hb.block g h.ri.lt),h.rb.keep (hb.block gd h.rb.lt),h.ne,h.geh,h.ged,h.below.then hb⟩
theorem Xa4.putH (h:Xa4 c f W V g gd hs ds) (k:Nat) (v:Int):Xa4 c f W (V.setCell (π g k) (ι v)) g gd (hs.set k v) ds:=
 ⟨h.ri.put k v,h.rb.keep (heap_setCell_other _ _ _ _ (fun e=>h.ne e.symm)),h.ne,h.geh,h.ged,h.below.setCell h.geh _⟩
theorem Xa4.putD (h:Xa4 c f W V g gd hs ds) (k:Nat) (b:Bool):Xa4 c f W (V.setCell (π gd k) (.bool b)) g gd hs (ds.set k b):=
 ⟨h.ri.keep (heap_setCell_other _ _ _ _ h.ne),h.rb.put k b,h.ne,h.geh,h.ged,h.below.setCell h.ged _⟩
def Xrw (c:Cod) (f:Fun) (w:World) (e:Ending) (w':World):Prop:=
 (∃ (at_ er:Int),e=.returned (.tuple #[ν,ι at_,ι er])/\er≠0/\¬Zh c f/\Below w.heap.size w w')\/
 (∃ (g cap:Nat) (hs:List Int),e=.returned (.tuple #[σ (some (π g 0)) hs.length cap,ι 0,ι 0])/\w.heap.size<=g/\hs.length<=cap/\cap<=9223372036854775807/\Zh c f/\Zp c f hs/\Vq w' g hs/\Below w.heap.size w w')
theorem Xba (c:Cod) (cv:Value) (f:Fun) (fv:Value) (B:Nat) (w:World) (hB:B<=w.heap.size) (hc:Yj B w cv c) (hf:J4 B w fv f) (wf:WfF c f) :
  Calls Tryz.prog 124 #[cv,fv] w (Xrw c f w):=by
 have HC:=Lh hc
 have cF:=Lh hf
 obtain ⟨eO,eP,rfl,dO,dP,bS⟩:=hc
 obtain ⟨fa,fc,rfl,-⟩:=dO
 obtain ⟨ga,gc,rfl,-⟩:=dP
 obtain ⟨kv,rfl,hk,-⟩:=hf
 obtain ⟨ka,kc,rfl,dW,dX,eU,cT⟩:=hk
 have dC:=Lh cT
 have aN:=Lh wf
 have bY:=wf.one
 have eA:=wf.most
 obtain ⟨n,hn⟩:∃ n,n=f.code.length:=⟨_,rfl⟩
 rw [<-hn] at bY eA dX cF ⊢
 have HN:=Lh hn
 clear cT wf hn bS dW
 obtain ⟨W,hW⟩:∃ W,W=(w.alloc (χ (Bc fa fc ga gc c) 25)).alloc (χ #[.string f.name,ι f.params,ι f.locals,.bool f.result,σ ka n kc] 93):=⟨_,rfl⟩
 have HW:Hid (Below w.heap.size w W):=by rw [hW];exact Lh ((Xa _ _).then (Xa _ _))
 have bI:Hid (Xo W w.heap.size [σ fa c.fields.length fc,ι c.globals,σ ga c.funcs.length gc]):=by rw [hW];exact Lh (Xd.alloc _)
 have aM:Hid (Xo W (w.heap.size+1) [.string f.name,ι f.params,ι f.locals,.bool f.result,σ ka n kc]):=by rw [hW];exact Lh Uu
 have cI:=Lh hW
 clear hW
 go_enter Tryz.func124,Tryz.ntmps124
 go_wp2_with fail
 rw [<-cI.o]
 go_loopw [7,8,9] (fun hv dv i wr=>∃ k:Nat,k<=n/\i=ι k/\Hid (∃ Fh Fd,Xb3 W wr (List.replicate k (-1)) (List.replicate k false) hv dv Fh Fd)) (fun _ _ i _=>n - (intOf i).toNat)
 case atStart=>exact ⟨0,Nat.zero_le _,rfl,Lh ⟨[],[],Xb3.start W⟩⟩
 case round=>
  obtain ⟨k,hk,rfl,hs⟩:=hrel
  obtain ⟨Fh,Fd,hF⟩:=hs.o
  have HF:=Lh hF
  have b1:=(aM.o.keep hF.below) 4 _ rfl
  clear hF hs
  by_cases eW:k<n
  ·have cB:=Lh (HF.o.alloc (χ #[ι (-1)] 3))
   have cZ:Hid ((wr.alloc (χ #[ι (-1)] 3)).cell? (π wr.heap.size 0)=some (ι (-1))):=Lh (Y5 _ _ _ 0)
   have bV:(List.replicate k (-1:Int)).length<2000000:=by simp;omega
   have aX:(List.replicate k false).length<2000000:=by simp;omega
   have bM:in64 (-1):=by unfold in64;omega
   go_wp2_with (first
    | (at_builtin;refine Xf3 rfl (.tmp 24) (.tmp 25) rfl _ (List.replicate k (-1)) Fh rfl cB.o.h (π wr.heap.size 0) (-1) bM rfl cZ.o bV ?_;intro a1 c1 w2 F1 cP cM cK;have dD:=Lh (cB.o.pushI cP cM cK);have cC:=Lh (dD.o.alloc (χ #[.bool false] 4));have dA:Hid ((w2.alloc (χ #[.bool false] 4)).cell? (π w2.heap.size 0)=some (.bool false)):=Lh (Y5 _ _ _ 0);clear cP cM cK)
    | (at_builtin;refine Xfq rfl (.tmp 27) (.tmp 28) rfl _ (List.replicate k false) Fd rfl cC.o.d (π w2.heap.size 0) false rfl dA.o aX ?_;intro a2 c2 w3 F2 cQ cN cL;have dE:=Lh (cC.o.pushB cQ cN cL);clear cQ cN cL))
   go_roundw
   case rel=>exact ⟨k+1,ω,by go_num,Lh ⟨F1,F2,by have:=dE.o;rw [Xhc,Xhc,List.length_replicate,List.length_replicate] at this;exact this⟩⟩
   case measure=>simp [intOf];omega
  ·obtain rfl:k=n:=ω
   obtain ⟨g,cap,e1,dS,dT,dU,bD⟩:=Xpu (n:=k) (by have:=HF.o.h.1;rw [List.length_replicate] at this;exact this) (List.length_replicate ..) bY
   obtain ⟨gd,dJ,e2,dQ,eR,eS,cR⟩:=Xpi (n:=k) (by have:=HF.o.d.1;rw [List.length_replicate] at this;exact this) (List.length_replicate ..) bY
   have cV:g≠gd:=fun e=>HF.o.dis g (by rw [HF.o.h.2.1,e1];simp [Value.ownBlock]) (by rw [HF.o.d.2,e2,e];simp [Value.ownBlock])
   have HR:Hid (Xa4 c f W wr g gd (List.replicate k (-1)) (List.replicate k false)):=Lh ⟨bD,cR,cV,HF.o.geh g (by rw [HF.o.h.2.1,e1];simp [Value.ownBlock]),HF.o.ged gd (by rw [HF.o.d.2,e2];simp [Value.ownBlock]),HF.o.below⟩
   subst e1 e2
   have q0:=bD.cell (k:=0) (v:=-1) (by rw [List.getElem?_replicate,if_pos ω])
   have qf:=bD.frozen 0
   clear bD cR cV HF dS dQ
   go_wp2_with fail
   obtain ⟨V0,bO⟩:∃ V,V=wr.setCell (π g 0) (ι 0):=⟨_,rfl⟩
   have cH:Hid (Xa4 c f W V0 g gd ((List.replicate k (-1)).set 0 0) (List.replicate k false)/\Xbj c f ((List.replicate k (-1)).set 0 0) (List.replicate k false) (fun _=>False)):=by
    rw [bO]
    have:=Xbj.start aN.o
    rw [<-HN.o] at this
    exact Lh ⟨HR.o.putH 0 0,this⟩
   rw [<-bO]
   clear bO HR q0 qf b1
   go_loopg [10] (k+1) (fun gk _ wr=>Hid (∃ hs ds,Xa4 c f W wr g gd hs ds/\Xbj c f hs ds (fun _=>False)/\Xi1 ds+1<=gk))
   case atStart=>exact Lh ⟨_,_,cH.o.1,cH.o.2,Nat.succ_le_succ (Xnw k)⟩
   case round=>
    obtain ⟨hs,ds,hR,hL,eT⟩:=hrel.o
    obtain ⟨wo,rfl⟩:∃ wo:World,wo=wr:=⟨_,rfl⟩
    have cX:hs.length=k:=by rw [hL.lab.len,HN.o]
    have eQ:ds.length=k:=by rw [hL.len,HN.o]
    have aD:=Lh hR
    have bB:=Lh hL
    clear hrel hR hL
    go_wp2_with fail
    go_loop [10] (fun a=>∃ p:Nat,p<=k/\a=ι p/\Hid (∀ j,j<p->Tb hs ds j=false)) (fun a=>k - (intOf a).toNat)
    case atStart=>exact ⟨0,Nat.zero_le _,rfl,Lh (fun j hj=>by omega)⟩
    case round=>
     obtain ⟨p,hp,rfl,bF⟩:=hrel
     by_cases eC:p<k
     rotate_left
     ·obtain rfl:p=k:=ω
      have aV:=Lh (bB.o.fin aN.o (fun j hj=>bF.o j (by rw [HN.o];exact hj)))
      have e0:((p:Int) == (p:Int))=true:=by simp
      go_wp2_with fail
      go_ret3
      have hb:=HW.o.then aD.o.below
      refine .inr ⟨g,cap,hs,by rw [cX];rfl,Nt HW.o.size aD.o.geh,by rw [cX];exact dT,dU,aV.o.1,aV.o.2,aD.o.ri,hb⟩
     obtain ⟨v,hv⟩:∃ v,hs[p]?=some v:=⟨_,Lg ω⟩
     obtain ⟨b,hb⟩:∃ b,ds[p]?=some b:=⟨_,Lg ω⟩
     have q1:=aD.o.ri.cell hv
     have q2:=aD.o.rb.cell hb
     have HV:=Lh hv
     have cD:=Lh hb
     have hT:=Xg2 hv hb
     clear hv hb
     by_cases eY:v<0
     ·have aA:Hid (∀ j,j<p+1->Tb hs ds j=false):=Lh (fun j hj=>by
       by_cases e:j=p
       ·subst e;rw [hT];have:decide (0<=v)=false:=by simp;omega
        rw [this];rfl
       ·exact bF.o j ω)
      have e1:decide (v<0)=true:=by simp;omega
      clear hT
      go_wp2
      go_round
      case rel=>exact ⟨p+1,ω,by go_num,aA⟩
      case measure=>simp [intOf];omega
     have e1:decide (v<0)=false:=by simp;omega
     have e4:decide (0<=v)=true:=by simp;omega
     cases b with
     | true=>
      have aA:Hid (∀ j,j<p+1->Tb hs ds j=false):=Lh (fun j hj=>by
       by_cases e:j=p
       ·subst e;rw [hT];simp
       ·exact bF.o j ω)
      clear hT
      go_wp2
      go_round
      case rel=>exact ⟨p+1,ω,by go_num,aA⟩
      case measure=>simp [intOf];omega
     | false=>
     have dN:=bB.o.lab.bound p v HV.o
     have bX:=bB.o.lab.len
     have e5:((p:Int) == (k:Int))=false:=beq_eq_false_iff_ne.2 ω
     have qf:=aD.o.rb.frozen p
     obtain ⟨x,hx⟩:∃ x,f.code[p]?=some x:=⟨_,Lg (by rw [<-HN.o];exact eC)⟩
     have HX:=Lh hx
     have cJ:=HW.o.then aD.o.below
     have HI:Hid (Xa3 B wo (.agg #[ι x.op,ι x.a]) x/\∃ yb yo,ka=some (π yb yo)/\wo.cell? (π yb (yo+p*2))=some (ι x.op)/\wo.cell? (π yb (yo+p*2+1))=some (ι x.a)/\yb<w.heap.size):=by
      rcases dC.o with h|⟨yb,yo,rfl,eJ,eK⟩
      ·rw [h] at hx;simp at hx
      ·obtain ⟨y1,y2,y3,y4⟩:=(eK p x hx).below (cJ.mono hB) eJ
       exact Lh ⟨⟨rfl,y3,y4⟩,yb,yo,rfl,y1,y2,ω⟩
     obtain ⟨yb,yo,rfl,y1,y2,eM⟩:=HI.o.2
     have aY:in64 x.op/\in64 x.a:=HI.o.1.2
     have bK:=Lh aY
     clear aY
     have eL:¬yb=gd:=by have:=aD.o.ged;have:=HW.o.size;omega
     have s4:=(aM.o.keep aD.o.below) 4 _ rfl
     have eF:¬w.heap.size+1=gd:=by
      have h1:=aD.o.ged
      have h2:W.heap.size=w.heap.size+1+1:=by rw [cI.o];simp
      omega
     clear hx HI hT bF cJ
     obtain ⟨V2,bE⟩:∃ V,V=(wo.setCell (π gd p) (.bool true)).alloc (χ #[ι x.op,ι x.a] 124):=⟨_,rfl⟩
     have aF:Hid (Xa4 c f W V2 g gd hs (ds.set p true)):=by rw [bE];exact Lh ((aD.o.putD p true).later (Xa _ _))
     obtain ⟨bx,bQ⟩:∃ n,n=wo.heap.size:=⟨_,rfl⟩
     have bL:Hid (Xo V2 bx [ι x.op,ι x.a]):=by
      rw [bE,bQ]
      have:=@Xd (wo.setCell (π gd p) (.bool true)) #[ι x.op,ι x.a] 124
      exact Lh (by simpa using this)
     have dI:=Lh bE
     have cY:=Lh bQ
     clear bE bQ
     go_upto_region 16 with fail
     rw [<-dI.o,<- cY.o]
     have aH:=HW.o.then aF.o.below
     have bG:Hid (Yj B V2 (.agg (Bc fa fc ga gc c)) c):=Lh (HC.o.below (aH.mono hB))
     have bH:Hid (J4 B V2 (.agg #[.string f.name,ι f.params,ι f.locals,.bool f.result,σ (some (π yb yo)) k kc]) f):=Lh (cF.o.below (aH.mono hB))
     have dM:B<=V2.heap.size:=Nt hB aH.size
     have r0:=(bI.o.keep aF.o.below) 0 _ rfl
     have r1:=(bI.o.keep aF.o.below) 1 _ rfl
     have r2:=(bI.o.keep aF.o.below) 2 _ rfl
     have s0:=(aM.o.keep aF.o.below) 0 _ rfl
     have s1:=(aM.o.keep aF.o.below) 1 _ rfl
     have s2:=(aM.o.keep aF.o.below) 2 _ rfl
     have s3:=(aM.o.keep aF.o.below) 3 _ rfl
     have s4:=(aM.o.keep aF.o.below) 4 _ rfl
     have t0:=bL.o 0 _ rfl
     have t1:=bL.o 1 _ rfl
     clear q1 q2 qf y1 y2 eL eF eM aH e5
     go_wp2_with fail
     clear r0 r1 r2 s0 s1 s2 s3 s4
     refine (Xdl c _ f _ x (.agg #[ι x.op,ι x.a]) B V2 dM bG.o bH.o ⟨rfl,bK.o⟩ aN.o (Lm HX.o)).mono ?_
     rintro e w3 ⟨rfl,bP⟩
     have eD:=aN.o.pops x (Lm HX.o)
     have eE:=aN.o.pushes x (Lm HX.o)
     obtain ⟨po,aO⟩:∃ n,n=Xm c f x:=⟨_,rfl⟩
     obtain ⟨pu,aP⟩:∃ n,n=Xj c f x:=⟨_,rfl⟩
     rw [<-aO] at eD ⊢
     rw [<-aP] at eE ⊢
     have aQ:=Lh aO
     have bJ:=Lh aP
     have aR:=Lh (aF.o.later bP)
     have aT:=Lh (bL.o.keep bP)
     have bA:Hid (Xbj c f hs (ds.set p true) (fun j=>j=p)):=Lh (bB.o.take HV.o ω cD.o)
     have u1:=aR.o.ri.cell HV.o
     have u2:=aT.o 0 _ rfl
     have u3:=aT.o 1 _ rfl
     have zx:=Bl u2
     clear aO aP bP t0 t1
     by_cases dZ:v<po
     ·have hf:Hid (¬Zh c f):=Lh (J9 bA.o.lab HV.o ω HX.o (fun h=>by have:=h.1;rw [<-aQ.o] at this;omega))
      have e6:decide (v<po)=true:=by simp;omega
      go_wp2_with fail
      go_ret3
      exact .inl ⟨_,14,rfl,δ,hf.o,HW.o.then aR.o.below⟩
     have e6:decide (v<po)=false:=by simp;omega
     by_cases aI:x.op=10/\po<v
     ·have hf:Hid (¬Zh c f):=Lh (J9 bA.o.lab HV.o ω HX.o (fun h=>by have:=h.2.1 aI.1;rw [<-aQ.o] at this;omega))
      have e7:(x.op == 10)=true:=by simpa using aI.1
      have e8:decide (po<v)=true:=by simp;omega
      go_wp2_with fail
      go_ret3
      exact .inl ⟨_,3,rfl,δ,hf.o,HW.o.then aR.o.below⟩
     have aL:x.op=10->v<=po:=fun e=>by
      by_cases h:po<v
      ·exact absurd ⟨e,h⟩ aI
      ·omega
     have aS:=Lh aL
     have bU:Hid (x.op=11\/x.op=12->0<=x.a):=Lh (fun h=>(aN.o.jump x (Lm HX.o) h).1)
     have bZ:p<=1048576:=ω
     clear aI aL
     by_cases bC:x.op=10
     all_goals
      first
      | have e7:(x.op == 10)=true:=by simpa using bC
      | have e7:(x.op == 10)=false:=by simpa using bC
      have e8:x.op=10->decide (po<v)=false:=fun e=>by have:=aS.o e;simp;omega
      first
      | have e9:=e8 bC
      | have e9:True:=trivial
      clear e8 bC
      go_wp2_with fail
      refine (Xlb x p w3 bZ bU.o).mono ?_
      rintro e w4 ⟨na,l,eN,rfl,dY,eV,cU,rfl,cS⟩
      obtain ⟨ln,bW⟩:∃ n,n=(X2 x p).length:=⟨_,rfl⟩
      rw [<-bW] at dY ⊢
      have cG:=Lh bW
      have dF:=Lh (aR.o.later cS)
      have eZ:v<=2097152:=ω
      have dG:Hid (∃ aC,RIn c f aC (ds.set p true) p v (v - po+pu) (X2 x p) 0/\Xa4 c f W w4 g gd aC (ds.set p true)/\((X2 x p)=[]\/∃ gn,na=some (π gn 0)/\gn≠g/\∀ (j:Nat) y,(X2 x p)[j]?=some y->w4.cell? (π gn j)=some (ι (y:Int)))):=by
       refine Lh ⟨hs,⟨bA.o,HV.o,fun t k ht=>by omega⟩,dF.o,?_⟩
       rcases cU with h|⟨gn,h1,h2,h3,h4⟩
       ·exact .inl h
       ·exact .inr ⟨gn,h1,fun e=>by have:=aR.o.ri.lt;omega,h4⟩
      have dR:Hid (Xi1 (ds.set p true)+1=Xi1 ds):=Lh (Xno cD.o)
      clear u1 u2 u3 zx cS cU bW dN bX
      go_wp2_with fail
      go_loopw [15] (fun i wr=>∃ j:Nat,j<=ln/\i=ι j/\Hid (∃ aC,RIn c f aC (ds.set p true) p v (v - po+pu) (X2 x p) j/\Xa4 c f W wr g gd aC (ds.set p true)/\((X2 x p)=[]\/∃ gn,na=some (π gn 0)/\gn≠g/\∀ (j:Nat) y,(X2 x p)[j]?=some y->wr.cell? (π gn j)=some (ι (y:Int))))) (fun i _=>ln - (intOf i).toNat)
      case atStart=>exact ⟨0,Nat.zero_le _,rfl,dG⟩
      case round=>
       obtain ⟨j,hj,rfl,cA⟩:=hrel
       obtain ⟨aC,hI,bN,cO⟩:=cA.o
       have HI:=Lh hI
       have aJ:=Lh bN
       have eG:aC.length=k:=by rw [hI.rl.lab.len,HN.o]
       by_cases dV:j<ln
       ·obtain ⟨kk,aW⟩:∃ kk,(X2 x p)[j]?=some kk:=⟨_,Lg (by rw [<-cG.o];exact dV)⟩
        rcases cO with h|⟨gn,rfl,bT,bR⟩
        ·rw [h] at aW;simp at aW
        have v1:=bR j kk aW
        have dB:=Lh bR
        have aZ:=Lh aW
        clear hI bN bR aW cA
        by_cases eB:k<=kk
        ·have hf:Hid (¬Zh c f):=Lh (J9 bA.o.lab HV.o ω HX.o (fun h=>by have:=h.2.2 kk (Lm aZ.o);rw [<-HN.o] at this;omega))
         go_wp2_with fail
         go_ret3
         exact .inl ⟨_,8,rfl,δ,hf.o,HW.o.then aJ.o.below⟩
        obtain ⟨u,hu⟩:∃ u,aC[kk]?=some u:=⟨_,Lg ω⟩
        have v2:=aJ.o.ri.cell HI.o.at_
        have v3:=aJ.o.ri.cell hu
        have v4:=aJ.o.ri.frozen kk
        have HU:=Lh hu
        have eI:=HI.o.rl.lab.bound kk u hu
        have eX:u<=2097152:=ω
        have aG:=HI.o.rl.lab.neg kk u hu
        have dH:=Lh aG
        clear hu eI aG
        have aK:∀ (z:Value) (t:Nat) (y:Nat),(X2 x p)[t]?=some y->(wr.setCell (π g kk) z).cell? (π gn t)=some (ι (y:Int)):=fun z t y hy=>by
         rw [World.cell?_of_block (w:=wr) (heap_setCell_other _ _ _ _ bT)];exact dB.o t y hy
        have cE:=Lh aK
        clear aK
        by_cases eH:u<0
        ·have aA:Hid (RIn c f (aC.set kk (v - po+pu)) (ds.set p true) p v (v - po+pu) (X2 x p) (j+1)):=by
          have hi:=HI.o
          have aB:=aQ.o
          have aE:=bJ.o
          rw [aB,aE] at hi ⊢
          exact Lh (hi.label aN.o HX.o ω ω aZ.o (by rw [<-dH.o eH];exact HU.o))
         have dK:decide (0<=u)=false:=by simp;omega
         go_wp2
         go_roundw
         case rel=>exact ⟨j+1,ω,by go_num,Lh ⟨_,aA.o,aJ.o.putH kk _,.inr ⟨gn,rfl,bT,cE.o _⟩⟩⟩
         case measure=>simp [intOf];omega
        have dK:decide (0<=u)=true:=by simp;omega
        by_cases aG:u=v - po+pu
        ·have aA:Hid (RIn c f (aC.set kk (v - po+pu)) (ds.set p true) p v (v - po+pu) (X2 x p) (j+1)):=Lh (HI.o.same aZ.o (by rw [<-aG];exact HU.o))
         have dL:(u != v - po+pu)=false:=by simp [aG]
         clear aG
         go_wp2
         go_roundw
         case rel=>exact ⟨j+1,ω,by go_num,Lh ⟨_,aA.o,aJ.o.putH kk _,.inr ⟨gn,rfl,bT,cE.o _⟩⟩⟩
         case measure=>simp [intOf];omega
        ·have hf:Hid (¬Zh c f):=by
          have hi:=HI.o
          have aB:=aQ.o
          have aE:=bJ.o
          rw [aB,aE] at hi aG
          exact Lh (hi.clash HX.o ω aZ.o HU.o ω aG)
         have dL:(u != v - po+pu)=true:=by simpa using aG
         clear aG
         go_wp2_with fail
         go_ret3
         exact .inl ⟨_,13,rfl,δ,hf.o,HW.o.then aJ.o.below⟩
       ·have aU:Hid (Xbj c f aC (ds.set p true) (fun _=>False)):=by
         have hi:=HI.o
         have aB:=aQ.o
         have aE:=bJ.o
         have cW:=aS.o
         rw [aB] at cW
         rw [aB,aE] at hi
         exact Lh (hi.done HX.o ω cW (by rw [<-cG.o];omega))
        clear hI bN cO cA
        go_wp2_with fail
        go_roundg (gk - 1)
        case measure=>omega
        case rel=>exact Lh ⟨aC,ds.set p true,aJ.o,aU.o,by have:=dR.o;omega⟩
theorem Xkb (c:Cod) (cv:Value) (B:Nat) (w:World) (hB:B<=w.heap.size) (hc:Yj B w cv c) :
  Calls Tryz.prog 93 #[cv] w (Xkl c w):=by
 have HC:=Lh hc
 obtain ⟨bC,bD,rfl,aY,aZ,-⟩:=hc
 obtain ⟨fa,fc,rfl,-⟩:=aY
 obtain ⟨ga,gc,rfl,bG,bH,bI,aO⟩:=aZ
 have aS:=Lh aO
 obtain ⟨W,hW⟩:∃ W,W=w.alloc (χ (Bc fa fc ga gc c) 25):=⟨_,rfl⟩
 have HW:Hid (Below w.heap.size w W):=by rw [hW];exact Lh (Xa _ _)
 have HK:Hid (Xo W w.heap.size [σ fa c.fields.length fc,ι c.globals,σ ga c.funcs.length gc]):=by rw [hW];exact Lh Xd
 have aU:=Lh hW
 clear hW aO
 go_enter Tryz.func93,Tryz.ntmps93
 go_wp2_with fail
 rw [<-aU.o]
 refine (Xl3 c _ B W (Nt hB HW.o.size) (HC.o.below (HW.o.mono hB))).mono ?_
 rintro e w1 ⟨rfl,aH⟩
 have aD:=Lh (HW.o.then aH)
 have aE:=Lh (HK.o.keep aH)
 clear aH
 by_cases hh:Xcs c
 rotate_left
 ·rw [Zc hh]
  have aB:Hid (¬Xv c):=Lh (fun h=>hh h.1)
  clear hh
  go_wp2_with fail
  go_ret3
  exact ⟨_,_,_,rfl,⟨(fun h=>by cases h),fun h=>absurd h aB.o⟩,aD.o⟩
 rw [K6 hh]
 have HH:=Lh hh
 clear hh
 have q0:=aE.o 0 _ rfl
 have q1:=aE.o 1 _ rfl
 have q2:=aE.o 2 _ rfl
 have zq:=Bl q0
 go_wp2_with fail
 clear q0 q1 q2 zq
 refine (Xiu c _ B w1 (Nt hB aD.o.size) (HC.o.below (aD.o.mono hB))).mono ?_
 rintro e w2 ⟨i,k,rfl,aI⟩
 have aM:=Lh (aD.o.then aI)
 have aT:=Lh (aE.o.keep aI)
 clear aI
 cases aC:Q4 c with
 | true=>
  have aB:Hid (¬Xv c):=Lh (fun h=>by rw [h.2.1] at aC;cases aC)
  clear aC
  go_wp2_with fail
  go_ret3
  exact ⟨_,_,_,rfl,⟨(fun h=>by cases h),fun h=>absurd h aB.o⟩,aM.o⟩
 | false=>
  have aN:=Lh aC
  clear aC
  go_wp2_with fail
  go_loopw [8] (fun i wr=>∃ k:Nat,k<=c.funcs.length/\i=ι k/\Hid (Below w2.heap.size w2 wr/\∀ (j:Nat) f,j<k->c.funcs[j]?=some f->Zh c f)) (fun i _=>c.funcs.length - (intOf i).toNat)
  case atStart=>exact ⟨0,Nat.zero_le _,rfl,Lh ⟨Below.refl _ _,fun j f hj=>by omega⟩⟩
  case round=>
   obtain ⟨k,hk,rfl,hs⟩:=hrel
   have aA:=Lh (aM.o.then hs.o.1)
   have aG:=Lh (aT.o.keep hs.o.1)
   have q0:=aG.o 0 _ rfl
   have q1:=aG.o 1 _ rfl
   have q2:=aG.o 2 _ rfl
   have zq:=Bl q0
   by_cases bA:k<c.funcs.length
   ·obtain ⟨x,hx⟩:∃ x,c.funcs[k]?=some x:=⟨_,Lg bA⟩
    rcases aS.o with h|⟨b,o,rfl,aW,hE⟩
    ·rw [h] at hx;simp at hx
    obtain ⟨g1,g2,g3,g4,⟨xv,g5,g6⟩,g7,g8,g9⟩:=(hE k x hx).below (aA.o.mono hB) aW
    have aR:Hid (∀ V,Below wr.heap.size wr V->J4 B V (.agg #[.string x.name,ι x.params,ι x.locals,.bool x.result,xv]) x):=Lh (fun V hV=>⟨_,rfl,g6.inss (hV.mono (Nt hB aA.o.size)),g7,g8,g9⟩)
    obtain ⟨xa,aL,rfl,-⟩:=g6
    have HX:=Lh hx
    have bB:=Lh (Xjy HH.o aN.o (Lm hx))
    have bE:(0:Int)<=(k:Int):=In _
    have bF:(k:Int)<(c.funcs.length:Int):=ω
    have zg:=Bl g1
    have aQ:Hid (Yj B wr.drew (.agg #[σ fa c.fields.length fc,ι c.globals,σ (some (π b o)) c.funcs.length gc]) c):=Lh (HC.o.below ((Xh aA.o 1).mono hB))
    have aV:B<=wr.drew.heap.size:=Nt hB aA.o.size
    have aX:Hid (Below wr.heap.size wr wr.drew):=Lh (Xh Br 1)
    clear hE hx g7 g8 g9
    go_wp2_with fail
    go_upto_region 9 with fail
    go_region_held3 (fun V=>V.cell? (π w.heap.size 0)=some (σ fa c.fields.length fc)/\V.cell? (π w.heap.size 1)=some (ι c.globals)/\V.cell? (π w.heap.size 2)=some (σ (some (π b o)) c.funcs.length gc)/\V.cell? (π b (o+k*5))=some (.string x.name)/\V.cell? (π b (o+k*5+1))=some (ι x.params)/\V.cell? (π b (o+k*5+2))=some (ι x.locals)/\V.cell? (π b (o+k*5+3))=some (.bool x.result)/\V.cell? (π b (o+k*5+4))=some (σ xa x.code.length aL))
     (first|exact ⟨q0,q1,q2,g1,g2,g3,g4,g5⟩|exact ⟨Xc hb3 q0,Xc hb3 q1,Xc hb3 q2,Xc hb3 g1,Xc hb3 g2,Xc hb3 g3,Xc hb3 g4,Xc hb3 g5⟩)
     (first|(go_at_call 124;refine (Xba c _ x _ B _ aV aQ.o (aR.o _ aX.o) bB.o).mono ?_;rintro e w3 hP;obtain ⟨ha3,hn3,hc3,at3,er3,rfl,hiff,hb3⟩:∃ (ha3:Option Addr) (hn3 hc3:Nat) (at3 er3:Int),e=.returned (.tuple #[σ ha3 hn3 hc3,ι at3,ι er3])/\Hid (er3=0↔Zh c x)/\Below wr.drew.heap.size wr.drew w3:=(by rcases hP with ⟨a,b,h1,h2,h3,h4⟩|⟨g,cp,hs,h1,_,_,_,h2,_,_,h4⟩;exact ⟨none,0,0,a,b,h1,Lh ⟨fun h=>absurd h h2,fun h=>absurd h h3⟩,h4⟩;exact ⟨_,_,_,0,0,h1,Lh ⟨fun _=>h2,fun _=>rfl⟩,h4⟩);clear hP))
    have aP:=Lh ((Xh aA.o 1).then hb3)
    have aF:=Lh ((Xh hs.o.1 1).then hb3)
    clear hb3
    by_cases he:er3=0
    ·subst he
     have aJ:Hid (∀ (j:Nat) f,j<k+1->c.funcs[j]?=some f->Zh c f):=Lh (fun j f hj hf=>by
      by_cases e:j=k
      ·subst e;rw [HX.o] at hf;cases hf;exact hiff.o.1 rfl
      ·exact hs.o.2 j f ω hf)
     clear hiff
     go_wp2
     go_roundw
     case rel=>exact ⟨k+1,ω,by go_num,Lh ⟨aF.o,aJ.o⟩⟩
     case measure=>simp [intOf];omega
    ·have aB:Hid (¬Xv c):=Lh (fun h=>he (hiff.o.2 (h.2.2 x (Lm HX.o))))
     have e1:(er3 != 0)=true:=by simpa using he
     have HE:=Lh he
     clear he hiff
     go_wp2_with fail
     go_ret3
     exact ⟨_,_,er3,rfl,⟨fun h=>absurd h HE.o,fun h=>absurd h aB.o⟩,aP.o⟩
   ·have aK:Hid (Xv c):=Lh ⟨HH.o,aN.o,fun f hf=>by
     obtain ⟨j,hj,rfl⟩:=List.getElem_of_mem hf
     exact hs.o.2 j _ ω (Lg hj)⟩
    go_wp2_with fail
    go_ret3
    exact ⟨_,_,_,rfl,⟨fun _=>aK.o,fun _=>rfl⟩,aA.o⟩
theorem U0 (c:Cod) (cv:Value) (B:Nat) (w:World) (hB:B<=w.heap.size) (hc:Yj B w cv c) :
  Calls Tryz.prog 52 #[cv] w fun e w'=>e=.returned (.bool (Xa2 c))/\Below w.heap.size w w':=by
 have HC:=Lh hc
 obtain ⟨aI,aJ,rfl,aG,aH,-⟩:=hc
 obtain ⟨ca,aF,rfl,-⟩:=aG
 obtain ⟨cb,aC,rfl,-⟩:=aH
 go_enter Tryz.func52,Tryz.ntmps52
 go_wp2_with fail
 refine (Xkb c _ B _ φ (HC.o.below ((Xa _ _).mono hB))).mono ?_
 rintro e w1 ⟨i,k,aD,rfl,aA,hb⟩
 have aE:=Yi hb
 by_cases he:aD=0
 ·have aB:=Lh (Zg (aA.1 he))
  subst he
  clear aA
  go_wp2
  go_ret
  exact ⟨by rw [aB.o];rfl,aE⟩
 ·have aB:=Lh (Jp (fun h=>he (aA.2 h)))
  have e1:(aD == 0)=false:=beq_eq_false_iff_ne.2 he
  clear aA
  go_wp2
  go_ret
  exact ⟨by rw [aB.o];exact congrArg (fun b=>Ending.returned (.bool b)) (by first|exact e1|rfl),aE⟩
