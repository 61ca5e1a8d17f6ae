import Derived.Test.YtiejafonjemioaaGreatDoorInv
set_option maxHeartbeats 8000000
set_option maxRecDepth 100000
set_option linter.unusedVariables false
set_option linter.unusedSimpArgs false
open Go.Value renaming slice→σ
open Go.Obj renaming cells→χ
namespace Go.Proofs.YtiejafonjemioaaGreatDoor
open Go.RowKit
variable {a a0:Act} {sl:Nat->Nat} {f:Nat->Value} {d i j sz bytes fn n q x t bo:Nat} {l done:List Nat} {o:Oper} {K:Act->World->Prop} {Q:Exit->Act->World->Prop} {w w' W:World} {z v c0 c1 c2 g0 g1 lv:Value} {m:Mm} {c cd:Cod} {C0:Clr} {S:World->Prop} {fuel:Int} {cs:List (List Cal)}
def Xt7 (a:Act) (sl:Nat->Nat) (f:Nat->Value):List Nat->Act
 | []=>a
 | i::l=>(Xt7 a sl f l).put (some (sl i)) (f i)
theorem X0r (a:Act) (sl:Nat->Nat) (f:Nat->Value):∀ l,(Xt7 a sl f l).tmps.size=a.tmps.size
 | []=>rfl
 | _::l=>(Xr5 _ _ _).trans (X0r a sl f l)
theorem Xw3 (a:Act) (sl:Nat->Nat) (f:Nat->Value) (d:Nat):∀ l:List Nat,(∀ i∈l,sl i≠d)->(Xt7 a sl f l).tmps[d]?=a.tmps[d]?
 | [],_=>rfl
 | i::l,h=>by
  show ((Xt7 a sl f l).put (some (sl i)) (f i)).tmps[d]?=_
  rw [V8 _ _ _ _ (fun e=>h i ψ (by simpa using e))]
  exact Xw3 a sl f d l (fun j hj=>h j (by simp [hj]))
theorem X0l (h:∀ i∈l,sl i≠d):(Xt7 a sl f l).eval (.tmp d)=a.eval (.tmp d):=by
 show (Xt7 a sl f l).tmps.getD d undef=a.tmps.getD d undef
 rw [Array.getD_eq_getD_getElem?,Array.getD_eq_getD_getElem?,Xw3 a sl f d l h]
theorem Xwb {g:Nat->Value}:∀ {l:List Nat},(∀ i∈l,f i=g i)->Xt7 a sl f l=Xt7 a sl g l
 | [],_=>rfl
 | i::l,h=>by
  show (Xt7 a sl f l).put _ _=(Xt7 a sl g l).put _ _
  rw [Xwb (l:=l) (fun j hj=>h j (by simp [hj])),h i ψ]
theorem X1p (a:Act) (u v:Value) (h:i≠j):(a.put (some i) u).put (some j) v=(a.put (some j) v).put (some i) u:=by
 refine Xx0 rfl (fun d=>?_)
 by_cases h1:d=j
 ·subst h1
  rw [V8 (a.put (some d) v) _ _ _ (fun e=>h (by simpa using e))]
  by_cases hd:d<a.tmps.size
  ·rw [Xsf _ _ _ (by rw [Xr5];exact hd),Xsf _ _ _ hd]
  ·rw [Array.getElem?_eq_none (by rw [Xr5,Xr5];omega),Array.getElem?_eq_none (by rw [Xr5];omega)]
 ·rw [V8 _ _ _ _ (fun e=>h1 (by simpa using e.symm))]
  by_cases h2:d=i
  ·subst h2
   by_cases hd:d<a.tmps.size
   ·rw [Xsf _ _ _ hd,Xsf _ _ _ (by rw [Xr5];exact hd)]
   ·rw [Array.getElem?_eq_none (by rw [Xr5];omega),Array.getElem?_eq_none (by rw [Xr5,Xr5];omega)]
  ·rw [V8 _ _ _ _ (fun e=>h2 (by simpa using e.symm)),V8 _ _ _ _ (fun e=>h2 (by simpa using e.symm)),V8 _ _ _ _ (fun e=>h1 (by simpa using e.symm))]
theorem X0t {l':List Nat} (hp:l.Perm l'):(∀ i∈l,∀ j∈l,sl i=sl j->i=j)->Xt7 a sl f l=Xt7 a sl f l':=by
 induction hp with
 | nil=>intro _;rfl
 | cons x _ ih=>intro h;exact congrArg (fun q:Act=>q.put (some (sl x)) (f x)) (ih (fun i hi j hj=>h i (by simp [hi]) j (by simp [hj])))
 | swap x y l=>
  intro h
  show ((Xt7 a sl f l).put (some (sl x)) (f x)).put (some (sl y)) (f y)=((Xt7 a sl f l).put (some (sl y)) (f y)).put (some (sl x)) (f x)
  by_cases e:x=y
  ·subst e;rfl
  ·exact X1p _ _ _ (fun he=>e (h x ψ y ψ he))
 | trans h1 _ ih1 ih2=>intro h;exact (ih1 h).trans (ih2 (fun i hi j hj=>h i (h1.mem_iff.2 hi) j (h1.mem_iff.2 hj)))
theorem Xyv (x:Nat) (t e:TypeId) (ho:o.op=.makeSlice t (.tmp x) (.tmp x)) (hu:Tryz.prog.underlying t=some (.slice e)) (hi:(Tryz.prog.info? e).map (fun i=>(i.zero,i.size,i.bytes))=some (some z,sz,bytes)) (hb:bytes<=128) (n:Nat) (hx:a.eval (.tmp x)=ι (n:Int)) (hn:n<=1000)
  (h:∀ w',w'.heap[w.heap.size]?=some (χ (madeCells z.cells (n*sz)) e (0,0))->(∀ (c:Clr) tag,(∀ b,w.heap.size<=b->c b=0)->∃ c',Chg NO c c' w w'/\(∀ b,w'.heap.size<=b->c' b=0)/\V3 w' c' tag e sz (σ (some (π w.heap.size 0)) n n) n (madeCells z.cells (n*sz)).toList)->K (a.put o.dst (σ (some (π w.heap.size 0)) n n)) w'):o.wp Tryz.prog a w K Q:=by
 obtain ⟨ti,aA,aB,aC,aD⟩:=info_parts hi
 have aE:ti.bytes*n<=128*1000:=Nat.mul_le_mul (by rw [aD];exact hb) hn
 have hr:=run_make w t e ti z hu aA aB .i64 .i64 (n:Int) (n:Int) ω ω (by rw [<-Int.natCast_mul];omega) ω
 simp only [Int.toNat_natCast,aC] at hr
 have hz:(World.alloc w (χ (madeCells z.cells (n*sz)) e)).heap.size=w.heap.size+1:=by simp
 unfold Oper.wp
 simp [execOp,ho,hx,hr]
 refine h _ (Hn _ _) (fun c tag hc=>⟨fun x=>if x=w.heap.size then tag else c x,Chg.paint _ _ (Xa _ _) (Nr _),fun b hb=>?_,⟨World.ownsRow_lit w _ n (Nat.zero_le _) (by unfold maxLen;omega) (size_madeCells _ _),fun b hb=>?_,ω⟩⟩)
 ·show (if _ then _ else _)=_
  rw [if_neg ω];exact hc b ω
 ·simp [Value.ownBlock] at hb
  exact if_pos hb
theorem X33 (x:Nat) (t:TypeId) (hfn:Zn fn) (ho:o.op=.call { callee:=.value (.func fn),args:=#[.tmp x],argTypes:=#[t] }) (v:Value) (hx:a.eval (.tmp x)=v) (h:Calls Tryz.prog fn #[v] w (fun e w'=>∃ r,e=.returned r/\K (a.put o.dst r) w')):o.wp Tryz.prog a w K Q:=by
 have aA:a.tmps[x]?.getD undef=v:=by rw [<-Array.getD_eq_getD_getElem?];exact hx
 have hr:(execOp a.eval o).run Tryz.prog w=.ok (.enter fn #[v]) w:=by
  simpa [go_sem,execOp,ho,aA] using hfn #[v] w
 unfold Oper.wp
 rw [hr,Oper.upon_enter]
 refine h.mono ?_
 rintro e w' ⟨r,rfl,hk⟩
 exact hk
def Xza (q x i:Nat):Nat:=if i=14 then x else q+(i - 1)
def X1w:Array Value:=#[ν,ι 0,ι 0,ι 0,ι 0,ι 0,ι 0,ι 0,ι 0]
def NwF (m:Mm) (n i:Nat) (v:Value) (w:World) (c:Clr):Prop:=
 match i with
 | 1=>∃ ga gc na nc nx,v=.agg (Bm ga gc na nc m)/\Xxp w c m (σ ga m.globals.length gc) (σ na m.nodes.length nc) nx
 | 4=>V3 w c 4 51 9 v n (madeCells X1w (n*9)).toList
 | 6=>V3 w c 5 3 1 v n (madeCells #[ι 0] (n*1)).toList
 | 8=>V3 w c 7 78 1 v n (madeCells #[ν] (n*1)).toList
 | 10=>V3 w c 8 22 1 v n (madeCells #[ν] (n*1)).toList
 | 12=>V3 w c 9 22 1 v n (madeCells #[ν] (n*1)).toList
 | _=>∃ bo,v=.pointer (some (π bo 0))/\w.heap[bo]?=some (χ Bz 34 (0,0))/\c bo=1
theorem NwF.keep {c c':Clr} (hi:i∈[1,4,6,8,10,12,14]) (h:NwF m n i v w c) (hC:Chg NO c c' w w') (hhi:∀ b,w'.heap.size<=b->c' b=0):NwF m n i v w' c':=by
 simp only [List.mem_cons,List.mem_nil_iff,or_false] at hi
 rcases hi with rfl|rfl|rfl|rfl|rfl|rfl|rfl
 ·obtain ⟨ga,gc,na,nc,nx,h1,h2⟩:=h
  exact ⟨ga,gc,na,nc,nx,h1,h2.keep hC hhi (fun t ht=>ht.elim)⟩
 ·exact (show V3 _ _ _ _ _ _ _ _ from h).keep hC (no _)
 ·exact (show V3 _ _ _ _ _ _ _ _ from h).keep hC (no _)
 ·exact (show V3 _ _ _ _ _ _ _ _ from h).keep hC (no _)
 ·exact (show V3 _ _ _ _ _ _ _ _ from h).keep hC (no _)
 ·exact (show V3 _ _ _ _ _ _ _ _ from h).keep hC (no _)
 ·obtain ⟨bo,h1,h2,h3⟩:=h
  have hl:=(La h2)
  exact ⟨bo,h1,(hC.keep bo hl (no _)).trans h2,(hC.old bo hl).trans h3⟩
structure NwI (q x:Nat) (m:Mm) (n:Nat) (W:World) (C0:Clr) (a0:Act) (done:List Nat) (a:Act) (w:World) (f:Nat->Value) (c:Clr):Prop where
 act:a=Xt7 a0 (Xza q x) f done
 nd:done.Nodup
 sub:∀ i∈done,i∈[1,4,6,8,10,12,14]
 chg:Chg NO C0 c W w
 hi:∀ b,w.heap.size<=b->c b=0
 fact:∀ i∈done,NwF m n i (f i) w c
def Xtr (q x:Nat) (m:Mm) (n:Nat) (W:World) (C0:Clr) (a0:Act) (done:List Nat) (a:Act) (w:World):Prop:=∃ f c,NwI q x m n W C0 a0 done a w f c
theorem Xtr.put (h:Xtr q x m n W C0 a0 done a w) (hi:i∉done) (hm:i∈[1,4,6,8,10,12,14]) (hst:∀ c:Clr,(∀ b,w.heap.size<=b->c b=0)->∃ c',Chg NO c c' w w'/\(∀ b,w'.heap.size<=b->c' b=0)/\NwF m n i v w' c'):Xtr q x m n W C0 a0 (i::done) (a.put (some (Xza q x i)) v) w':=by
 obtain ⟨f,c,hI⟩:=h
 obtain ⟨c',h1,h2,h3⟩:=hst c hI.hi
 have hf:∀ j∈done,(if j=i then v else f j)=f j:=fun j hj=>if_neg (fun e=>hi (by rw [<-e];exact hj))
 refine ⟨fun j=>if j=i then v else f j,c',?_,List.nodup_cons.2 ⟨hi,hI.nd⟩,fun j hj=>?_,hI.chg.trans h1,h2,fun j hj=>?_⟩
 ·show _=(Xt7 a0 (Xza q x) (fun j=>if j=i then v else f j) done).put (some (Xza q x i)) (if i=i then v else f i)
  rw [if_pos rfl,Xwb (l:=done) (g:=f) hf,hI.act]
 ·rcases List.mem_cons.1 hj with rfl|hj
  ·exact hm
  ·exact hI.sub j hj
 ·rcases List.mem_cons.1 hj with rfl|hj
  ·show NwF m n j (if j=j then v else f j) w' c'
   rw [if_pos rfl];exact h3
  ·show NwF m n j (if j=i then v else f j) w' c'
   rw [hf j hj];exact (hI.fact j hj).keep (hI.sub j hj) h1 h2
theorem Xtr.chg (h:Xtr q x m n W C0 a0 done a w):∃ c,Chg NO C0 c W w:=by
 obtain ⟨f,c,hI⟩:=h
 exact ⟨c,hI.chg⟩
theorem Xtr.eval (h:Xtr q x m n W C0 a0 done a w) (hd:∀ i∈[1,4,6,8,10,12,14],Xza q x i≠d):a.eval (.tmp d)=a0.eval (.tmp d):=by
 obtain ⟨f,c,hI⟩:=h
 rw [hI.act]
 exact X0l (fun i hi=>hd i (hI.sub i hi))
theorem X1e (hq:x+1<q):∀ i∈[1,4,6,8,10,12,14],∀ j∈[1,4,6,8,10,12,14],Xza q x i=Xza q x j->i=j:=fun i hi j hj h=>by
 simp only [List.mem_cons,List.mem_nil_iff,or_false] at hi hj
 unfold Xza at h
 split at h<;>split at h<;>omega
theorem Xtr.ends (hq:x+1<q) (h:Xtr q x m n W C0 a0 done a w) (hc:∀ i∈[1,4,6,8,10,12],i∈done):∃ l,(l=[14,12,10,8,6,4,1]\/l=[12,10,8,6,4,1])/\(∀ i,done.contains i=l.contains i)/\∃ f c,NwI q x m n W C0 a0 l a w f c:=by
 obtain ⟨f,c,hI⟩:=h
 have aB:∀ l:List Nat,l.Nodup->(∀ i,i∈done↔i∈l)->(∀ i,done.contains i=l.contains i)/\∃ f c,NwI q x m n W C0 a0 l a w f c:=fun l hl hm=>by
  have hp:done.Perm l:=(List.perm_ext_iff_of_nodup hI.nd hl).2 hm
  refine ⟨fun i=>?_,f,c,?_,hl,fun i hi=>hI.sub i ((hm i).2 hi),hI.chg,hI.hi,fun i hi=>hI.fact i ((hm i).2 hi)⟩
  ·rw [Bool.eq_iff_iff]
   simp only [List.contains_iff_mem]
   exact hm i
  ·rw [hI.act]
   exact X0t hp (fun i hi j hj=>X1e hq i (hI.sub i hi) j (hI.sub j hj))
 by_cases aA:14∈done
 ·refine ⟨_,.inl rfl,aB _ δ (fun i=>⟨fun hi=>?_,fun hi=>?_⟩)⟩
  ·have:=hI.sub i hi
   simp only [List.mem_cons,List.mem_nil_iff,or_false] at this ⊢
   omega
  ·simp only [List.mem_cons,List.mem_nil_iff,or_false] at hi
   rcases hi with rfl|rfl|rfl|rfl|rfl|rfl|rfl
   ·exact aA
   all_goals exact hc _ δ
 ·refine ⟨_,.inr rfl,aB _ δ (fun i=>⟨fun hi=>?_,fun hi=>?_⟩)⟩
  ·have:=hI.sub i hi
   have aC:i≠14:=fun e=>aA (by rw [<-e];exact hi)
   simp only [List.mem_cons,List.mem_nil_iff,or_false] at this ⊢
   omega
  ·simp only [List.mem_cons,List.mem_nil_iff,or_false] at hi
   rcases hi with rfl|rfl|rfl|rfl|rfl|rfl
   all_goals exact hc _ δ
theorem nw_mk {bb:Bool} (hq:x+1<q) (hI:Xtr q x m n W C0 a0 done a w) (hd:i∉done) (hm:i∈[4,6,8,10,12]) (tag:Nat) {t e:TypeId} (ho:o.op=.makeSlice t (.tmp (q+(i - 2))) (.tmp (q+(i - 2)))) (hdst:o.dst=some (q+(i - 1))) (hu:Tryz.prog.underlying t=some (.slice e)) (hi:(Tryz.prog.info? e).map (fun i=>(i.zero,i.size,i.bytes))=some (some z,sz,bytes)) (hb:bytes<=128) (hx:∀ j∈[4,6,8,10,12],a0.eval (.tmp (q+(j - 2)))=ι (n:Int)) (hn:n<=1000)
  (hF:∀ w' c' v,V3 w' c' tag e sz v n (madeCells z.cells (n*sz)).toList->NwF m n i v w' c') (hS:∀ V c',Chg NO C0 c' W V->S V):o.wp Tryz.prog a w (fun a' w'=>(S w'\/bb=true)/\Xtr q x m n W C0 a0 (i::done) a' w') Q:=by
 have aD:=hm
 simp only [List.mem_cons,List.mem_nil_iff,or_false] at aD
 refine Xyv (q+(i - 2)) t e ho hu hi hb n ((hI.eval (fun j hj=>?_)).trans (hx i hm)) hn (fun w' aE aB=>?_)
 ·simp only [List.mem_cons,List.mem_nil_iff,or_false] at hj
  unfold Xza
  split<;>omega
 ·obtain ⟨cq,aC⟩:=hI.chg
  obtain ⟨cr,aA,aF,-⟩:=aB (fun _=>0) 0 (fun b hb=>rfl)
  have hq:Below w.heap.size w w':=⟨aA.os,aA.tape,aA.output,aA.size,fun b hb=>aA.keep b hb (no _)⟩
  have es:Xza q x i=q+(i - 1):=if_neg ω
  rw [hdst,<- es]
  refine ⟨.inl (hS w' cq (aC.trans (Chg.of_below hq (no 0)))),hI.put hd φ (fun c hc=>?_)⟩
  obtain ⟨c',hC,hh,hr⟩:=aB c tag hc
  exact ⟨c',hC,hh,hF _ _ _ hr⟩
def Xsu (c:Cod):List Cal->Int
 | []=>0
 | x::l=>if Yd c x 0=0 then Xsu c l else Yd c x 0
def Xsx (c:Cod):List (List Cal)->Int
 | []=>0
 | l::r=>if Xsu c l=0 then Xsx c r else Xsu c l
theorem Xt6 :∀ {l:List Cal},(∀ y∈l,Yd c y 0=0)->Xsu c l=0
 | [],_=>rfl
 | x::l,h=>by
  unfold Xsu
  rw [if_pos (h x ψ)]
  exact Xt6 (fun y hy=>h y (by simp [hy]))
theorem Xv6 :∀ {l:List Cal} {p:Nat} {x:Cal},l[p]?=some x->(∀ y∈l.take p,Yd c y 0=0)->Yd c x 0≠0->Xsu c l=Yd c x 0
 | [],_,_,h,_,_=>by simp at h
 | z::l,0,x,h,_,hx=>by
  simp at h
  subst h
  unfold Xsu
  rw [if_neg hx]
 | z::l,p+1,x,h,hall,hx=>by
  unfold Xsu
  rw [if_pos (hall z ψ)]
  exact Xv6 (by simpa using h) (fun y hy=>hall y (by simp [hy])) hx
theorem Xua :∀ {cs:List (List Cal)},(∀ l∈cs,∀ y∈l,Yd c y 0=0)->Xsx c cs=0
 | [],_=>rfl
 | l::r,h=>by
  unfold Xsx
  rw [if_pos (Xt6 (h l ψ))]
  exact Xua (fun l' hl=>h l' (by simp [hl]))
theorem Xw0 :∀ {cs:List (List Cal)} {k:Nat} {l:List Cal} {p:Nat} {x:Cal},cs[k]?=some l->(∀ z∈cs.take k,∀ y∈z,Yd c y 0=0)->l[p]?=some x->(∀ y∈l.take p,Yd c y 0=0)->Yd c x 0≠0->Xsx c cs=Yd c x 0
 | [],_,_,_,_,h,_,_,_,_=>by simp at h
 | z::r,0,l,p,x,h,_,hp,hl,hx=>by
  simp at h
  subst h
  have e:=Xv6 hp hl hx
  unfold Xsx
  rw [if_neg (by rw [e];exact hx),e]
 | z::r,k+1,l,p,x,h,hall,hp,hl,hx=>by
  unfold Xsx
  rw [if_pos (Xt6 (hall z ψ))]
  exact Xw0 (by simpa using h) (fun y hy=>hall y (by simp [hy])) hp hl hx
noncomputable def Xs9 (c:Cod) (m:Mm) (cs:List (List Cal)) (fuel:Int):Int:=
 if ¬(Xa2 c=true/\Q7 c m=true) then 1 else if fuel<0\/1048576<fuel then 2 else if cs.length=0 then 3 else if 8<cs.length\/cs.any (fun l=>decide (2000<(l.length:Int)))=true then 4 else Xsx c cs
def Xut (c:Cod) (m:Mm) (cs:List (List Cal)) (fuel:Int) (w:World) (e:Ending) (w':World):Prop:=Below w.heap.size w w'/\
 ((Xs9 c m cs fuel≠0/\e=.returned (.tuple #[.agg Bz,ι (Xs9 c m cs fuel)]))\/
 (Xs9 c m cs fuel=0/\∃ v,e=.returned (.tuple #[v,ι 0])/\Xsd w'.heap.size w' v (Xtb m fuel cs)))
theorem X2w (ht:t<n) (hv:(Xtv ν Xl)[j]?=some v):(madeCells X1w (n*9)).toList[t*9+j]?=some v:=by
 have hj:j<9:=(Ll hv)
 have aA:t*9+j<n*9:=by
  have:(t+1)*9<=n*9:=Nat.mul_le_mul_right 9 ht
  omega
 have hm:(t*9+j) % 9=j:=ω
 rw [Array.getElem?_toList]
 unfold madeCells
 rw [Array.getElem?_map,Array.getElem?_range,if_pos aA]
 show some (X1w[(t*9+j) % 9]!)=some v
 rw [hm]
 rw [<-hv]
 match j,hj with
 | 0,_=>rfl
 | 1,_=>rfl
 | 2,_=>rfl
 | 3,_=>rfl
 | 4,_=>rfl
 | 5,_=>rfl
 | 6,_=>rfl
 | 7,_=>rfl
 | 8,_=>rfl
theorem X2k:Xt0 Xl:=by
 unfold Xt0 Rq.wf Xl in64
 simp
theorem Xy8 (ht:t<n):(madeCells #[Value.slice none 0 0] (n*1)).toList[t]?=some ν:=by
 rw [Nat.mul_one,toList_madeCells_one,List.getElem?_replicate,if_pos ht]
def Xy9 (m:Mm) (n:Nat) (fuel:Int):Thr:=⟨m,fuel,List.replicate n Xl,List.replicate n 0,[],List.replicate n [],List.replicate n [],List.replicate n [],0⟩
theorem Xxv {α:Type} {x y:α} (h:(List.replicate n x)[t]?=some y):t<n/\y=x:=⟨by simpa using (Ll h),Xvn h⟩
theorem X3a {c:Clr} {gv nv rv kv ov bv ev:Value} {nx:List Value} (hM:Xxp w c m gv nv nx) (hr:V3 w c 4 51 9 rv n (madeCells X1w (n*9)).toList) (hk:V3 w c 5 3 1 kv n (madeCells #[ι 0] (n*1)).toList) (ho:V3 w c 7 78 1 ov n (madeCells #[ν] (n*1)).toList)
  (hb:V3 w c 8 22 1 bv n (madeCells #[ν] (n*1)).toList) (he:V3 w c 9 22 1 ev n (madeCells #[ν] (n*1)).toList) (hbox:w.heap[bo]?=some (χ #[gv,nv,ι fuel,rv,kv,ν,ov,bv,ev,ι 0] 34 (0,0))) (hbc:c bo=1) (f64:in64 fuel):V2 w c bo (Xy9 m n fuel):=by
 refine ⟨⟨gv,nv,rv,kv,ν,ov,bv,ev,nx,(madeCells X1w (n*9)).toList,[],(madeCells #[ν] (n*1)).toList,(madeCells #[ν] (n*1)).toList,(madeCells #[ν] (n*1)).toList⟩,⟨hM.hi,fun _=>hM.g,fun _=>hM.n,fun i x hx=>?_,fun _=>?_,fun t m' hm=>?_,fun _=>?_,fun _=>V3.nil _ _ _ _ _,fun t l hl=>?_,fun _=>?_,fun t l hl=>?_,fun _=>?_,fun t l hl=>?_,fun _=>?_,fun t l hl=>?_,f64,by show in64 0;unfold in64;omega⟩,⟨hbox,hbc⟩⟩
 ·obtain ⟨lv,h1,h2,h3,h4⟩:=hM.nn i x hx
  exact ⟨lv,h1,h2,h3,fun _=>h4⟩
 ·show V3 w c 4 51 9 rv (List.replicate n Xl).length _
  rw [List.length_replicate];exact hr
 ·obtain ⟨ht,rfl⟩:=Xxv hm
  exact ⟨ν,fun j v hv=>X2w ht hv,⟨none,0,rfl,by simp [Xl],by simp [Xl],ω,.inl rfl⟩,X2k⟩
 ·refine ⟨?_,fun y hy=>?_⟩
  ·show V3 w c 5 3 1 kv (List.replicate n (0:Int)).length ((List.replicate n (0:Int)).map (Value.int .i64))
   rw [List.length_replicate,List.map_replicate]
   rw [Nat.mul_one,toList_madeCells_one] at hk
   exact hk
  ·have:y=0:=(List.mem_replicate.1 hy).2
   subst this;unfold in64;omega
 ·cases hl
 ·show V3 w c 7 78 1 ov (List.replicate n ([]:List Xr7)).length _
  rw [List.length_replicate];exact ho
 ·obtain ⟨ht,rfl⟩:=Xxv hl
  exact ⟨ν,Xy8 ht,fun _=>⟨V3.nil _ _ _ _ _,ψ⟩⟩
 ·show V3 w c 8 22 1 bv (List.replicate n ([]:List Int)).length _
  rw [List.length_replicate];exact hb
 ·obtain ⟨ht,rfl⟩:=Xxv hl
  exact ⟨ν,Xy8 ht,fun _=>⟨V3.nil _ _ _ _ _,ψ⟩⟩
 ·show V3 w c 9 22 1 ev (List.replicate n ([]:List Int)).length _
  rw [List.length_replicate];exact he
 ·obtain ⟨ht,rfl⟩:=Xxv hl
  exact ⟨ν,Xy8 ht,fun _=>⟨V3.nil _ _ _ _ _,ψ⟩⟩
structure X19 (m:Mm) (cs:List (List Cal)) (fuel:Int) (W:World) (C0:Clr) (bo k:Nat) (wr:World) (c:Clr):Prop where
 st:V2 wr c bo { Xy9 m cs.length fuel with calls:=cs.take k }
 chg:Chg NZ C0 c W wr
theorem NwI.built {c:Clr} (h:NwI q x m n W C0 a0 l a w f c) (h1:1∈l) (h4:4∈l) (h6:6∈l) (h8:8∈l) (h10:10∈l) (h12:12∈l):∃ ga gc ma mc ra rc ka kc oa oc ba bc ea ec,f 1=.agg (Bm ga gc ma mc m)/\f 4=σ ra n rc/\f 6=σ ka n kc/\f 8=σ oa n oc/\f 10=σ ba n bc/\f 12=σ ea n ec/\
  ∀ (w1:World) (c1:Clr) bo fuel,Chg NO c c1 w w1->(∀ b,w1.heap.size<=b->c1 b=0)->w1.heap[bo]?=some (χ Bz 34 (0,0))->c1 bo=1->in64 fuel->
   V2 (Xr6 w1 bo (σ ga m.globals.length gc) (σ ma m.nodes.length mc) (ι fuel) (σ ra n rc) (σ ka n kc) ν (σ oa n oc) (σ ba n bc) (σ ea n ec) (ι 0)) c1 bo (Xy9 m n fuel)/\Chg NZ C0 c1 W (Xr6 w1 bo (σ ga m.globals.length gc) (σ ma m.nodes.length mc) (ι fuel) (σ ra n rc) (σ ka n kc) ν (σ oa n oc) (σ ba n bc) (σ ea n ec) (ι 0)):=by
 obtain ⟨ga,gc,ma,mc,nx,e1,hM⟩:=h.fact 1 h1
 have r4:V3 w c 4 51 9 (f 4) n (madeCells X1w (n*9)).toList:=h.fact 4 h4
 have r6:V3 w c 5 3 1 (f 6) n (madeCells #[ι 0] (n*1)).toList:=h.fact 6 h6
 have r8:V3 w c 7 78 1 (f 8) n (madeCells #[ν] (n*1)).toList:=h.fact 8 h8
 have aE:V3 w c 8 22 1 (f 10) n (madeCells #[ν] (n*1)).toList:=h.fact 10 h10
 have aF:V3 w c 9 22 1 (f 12) n (madeCells #[ν] (n*1)).toList:=h.fact 12 h12
 obtain ⟨ra,rc,e4,-⟩:=r4.form
 obtain ⟨ka,kc,e6,-⟩:=r6.form
 obtain ⟨oa,oc,e8,-⟩:=r8.form
 obtain ⟨ba,bc,aG,-⟩:=aE.form
 obtain ⟨ea,ec,aH,-⟩:=aF.form
 rw [e4] at r4
 rw [e6] at r6
 rw [e8] at r8
 rw [aG] at aE
 rw [aH] at aF
 refine ⟨ga,gc,ma,mc,ra,rc,ka,kc,oa,oc,ba,bc,ea,ec,e1,e4,e6,e8,aG,aH,fun w1 c1 bo fuel hC aJ aC aI hf=>?_⟩
 obtain ⟨V,hV⟩:∃ V,V=Xr6 w1 bo (σ ga m.globals.length gc) (σ ma m.nodes.length mc) (ι fuel) (σ ra n rc) (σ ka n kc) ν (σ oa n oc) (σ ba n bc) (σ ea n ec) (ι 0):=⟨_,rfl⟩
 have hP:Chg (fun t=>t=1) c1 c1 w1 V:=by rw [hV];exact Xs2 aI ω
 have hz:V.heap.size=w1.heap.size:=by rw [hV,Xtg]
 have aD:∀ b,V.heap.size<=b->c1 b=0:=fun b hb=>aJ b (by rw [<-hz];exact hb)
 have aB:=hM.keep hC aJ (fun t ht=>ht.elim)
 have aK:Xxp V c1 m (σ ga m.globals.length gc) (σ ma m.nodes.length mc) nx:=⟨aD,aB.g.keep hP δ,aB.n.keep hP δ,fun i x hx=>by
  obtain ⟨lv,k1,k2,k3,k4⟩:=aB.nn i x hx
  exact ⟨lv,k1,k2,k3,k4.keep hP ω⟩⟩
 have aA:=V4 aC (σ ga m.globals.length gc) (σ ma m.nodes.length mc) (ι fuel) (σ ra n rc) (σ ka n kc) ν (σ oa n oc) (σ ba n bc) (σ ea n ec) (ι 0)
 rw [<-hV] at aA ⊢
 exact ⟨X3a aK ((r4.keep hC (no _)).keep hP δ) ((r6.keep hC (no _)).keep hP δ) ((r8.keep hC (no _)).keep hP δ) ((aE.keep hC (no _)).keep hP δ) ((aF.keep hC (no _)).keep hP δ) aA aI hf,(h.chg.nz.trans hC.nz).trans (hP.nz δ)⟩
theorem acts_at :∀ {l:List Nat},(∀ j∈l,sl j=sl i->j=i)->i∈l->sl i<a.tmps.size->(Xt7 a sl f l).tmps[sl i]?=some (f i)
 | j::l,h,hi,hs=>by
  by_cases e:j=i
  ·subst e
   exact Xsf _ _ _ (by rw [X0r];exact hs)
  ·show ((Xt7 a sl f l).put (some (sl j)) (f j)).tmps[sl i]?=_
   rw [V8 _ _ _ _ (fun k=>e (h j ψ (by simpa using k)))]
   exact acts_at (fun k hk=>h k (by simp [hk])) (by rcases List.mem_cons.1 hi with k|k;exact absurd k.symm e;exact k) hs
theorem nw_region {o1 o4 o6 o8 o10 o12 o13 o14 o15:Oper} (fuel:Int) (mv:Value) (hq:x+1<q) (hfn:Zn fn)
  (he:[(o1.op,o1.dst),(o4.op,o4.dst),(o6.op,o6.dst),(o8.op,o8.dst),(o10.op,o10.dst),(o12.op,o12.dst),(o13.op,o13.dst),(o14.op,o14.dst),(o15.op,o15.dst)]=[(.call { callee:=.value (.func fn),args:=#[.tmp (q - 1)],argTypes:=#[28] },some q),(.makeSlice 30 (.tmp (q+2)) (.tmp (q+2)),some (q+3)),(.makeSlice 22 (.tmp (q+4)) (.tmp (q+4)),some (q+5)),(.makeSlice 31 (.tmp (q+6)) (.tmp (q+6)),some (q+7)),(.makeSlice 32 (.tmp (q+8)) (.tmp (q+8)),some (q+9)),(.makeSlice 32 (.tmp (q+10)) (.tmp (q+10)),some (q+11)),(.build 34 #[(0,.tmp q),(1,.tmp (q+1)),(2,.tmp (q+3)),(3,.tmp (q+5)),(5,.tmp (q+7)),(6,.tmp (q+9)),(7,.tmp (q+11))],some (q+12)),(.alloc 34,some x),(.store 34 (.tmp x) (.tmp (q+12)),none)])
  (h13:Xsk o13=[1,2,4,6,8,10,12]) (h15:∀ i∈[14,13,1,4,6,8,10,12],(Xsk o15).contains i=true) (hn:n<=1000) (f64:in64 fuel) (hsz:q+12<a0.tmps.size)
  (hx:a0.eval (.tmp (q+2))=ι (n:Int)/\a0.eval (.tmp (q+4))=ι (n:Int)/\a0.eval (.tmp (q+6))=ι (n:Int)/\a0.eval (.tmp (q+8))=ι (n:Int)/\a0.eval (.tmp (q+10))=ι (n:Int)) (hxm:a0.eval (.tmp (q - 1))=mv) (hxf:a0.eval (.tmp (q+1))=ι fuel) (hS:∀ V c',Chg NO C0 c' W V->S V) (hhi:∀ b,W.heap.size<=b->C0 b=0) (hcm:∀ V c',Chg NO C0 c' W V->Calls Tryz.prog fn #[mv] V (Xwp m V))
  (hend:∀ u1 u4 u6 u8 u10 u12 u13 bo c Wf,V2 Wf c bo (Xy9 m n fuel)->Chg NZ C0 c W Wf->Q .normal ((((((((a0.put (some q) u1).put (some (q+3)) u4).put (some (q+5)) u6).put (some (q+7)) u8).put (some (q+9)) u10).put (some (q+11)) u12).put (some x) (.pointer (some (π bo 0)))).put (some (q+12)) u13) Wf) :
  Xsz Tryz.prog 16 Q S true [(1,o1),(4,o4),(6,o6),(8,o8),(10,o10),(12,o12),(13,o13),(14,o14),(15,o15)] a0 W:=by
 simp only [List.cons.injEq,Prod.mk.injEq,and_true] at he
 obtain ⟨⟨e1,d1⟩,⟨e4,d4⟩,⟨e6,d6⟩,⟨e8,d8⟩,⟨aZ,aX⟩,⟨bA,aY⟩,⟨bB,aR⟩,⟨bN,bL⟩,bO,bM⟩:=he
 have hx:∀ j∈[4,6,8,10,12],a0.eval (.tmp (q+(j - 2)))=ι (n:Int):=fun j hj=>by
  simp only [List.mem_cons,List.mem_nil_iff,or_false] at hj
  rcases hj with rfl|rfl|rfl|rfl|rfl
  ·exact hx.1
  ·exact hx.2.1
  ·exact hx.2.2.1
  ·exact hx.2.2.2.1
  ·exact hx.2.2.2.2
 refine Xvy ((((((((List.Perm.swap _ _ _).cons _).cons _).cons _).cons _).cons _).cons _)) ?_
 refine X0e [_,_,_,_,_,_,_] [_,_] [1,4,6,8,10,12] (Xtr q x m n W C0 a0) ⟨fun _=>undef,C0,rfl,List.nodup_nil,ψ,Chg.of_below Br (no 0),hhi,ψ⟩ ?_ ?_ ?_ ?_ ?_
 ·show List.Nodup [1,4,6,8,10,12,14,13,15]
  decide
 ·intro r hr i hi o' _
  simp only [List.mem_cons,List.mem_nil_iff,or_false] at hr
  rcases hr with rfl|rfl
  ·unfold waits
   rw [h13]
   simp only [List.mem_cons,List.mem_nil_iff,or_false] at hi
   rcases hi with rfl|rfl|rfl|rfl|rfl|rfl<;>rfl
  ·unfold waits
   rw [h15 i (by simp at hi ⊢;omega)]
   simp only [List.mem_cons,List.mem_nil_iff,or_false] at hi
   rcases hi with rfl|rfl|rfl|rfl|rfl|rfl<;>rfl
 ·intro i hi
  simp only [List.mem_cons,List.mem_nil_iff,or_false] at hi
  rcases hi with rfl|rfl|rfl|rfl|rfl|rfl
  ·exact ⟨_,.head _⟩
  ·exact ⟨_,.tail _ (.head _)⟩
  ·exact ⟨_,.tail _ (.tail _ (.head _))⟩
  ·exact ⟨_,.tail _ (.tail _ (.tail _ (.head _)))⟩
  ·exact ⟨_,.tail _ (.tail _ (.tail _ (.tail _ (.head _))))⟩
  ·exact ⟨_,.tail _ (.tail _ (.tail _ (.tail _ (.tail _ (.head _)))))⟩
 ·intro p hp done a w hd hI
  obtain ⟨cq,aK⟩:=hI.chg
  simp only [List.mem_cons,List.mem_nil_iff,or_false] at hp
  rcases hp with rfl|rfl|rfl|rfl|rfl|rfl|rfl
  ·refine X33 (q - 1) 28 hfn e1 mv ((hI.eval (fun j hj=>?_)).trans hxm) ?_
   ·simp only [List.mem_cons,List.mem_nil_iff,or_false] at hj
    unfold Xza
    split<;>omega
   refine (hcm w cq aK).mono ?_
   rintro e w' ⟨aL,aE,aQ,aI,rfl,hb,bE⟩
   rw [d1]
   refine ⟨_,rfl,.inl (hS w' cq (aK.trans (Chg.of_below hb (no 0)))),hI.put (i:=1) hd δ (fun c hc=>?_)⟩
   obtain ⟨c',nx,hC,hM⟩:=bE c hc
   exact ⟨c',hC,hM.hi,aL,aE,aQ,aI,nx,rfl,hM⟩
  ·exact nw_mk (i:=4) hq hI hd δ 4 e4 d4 Tryz.underlying30 Xu9 δ hx hn (fun _ _ _ h=>h) hS
  ·exact nw_mk (i:=6) hq hI hd δ 5 e6 d6 Tryz.underlying22 Uc δ hx hn (fun _ _ _ h=>h) hS
  ·exact nw_mk (i:=8) hq hI hd δ 7 e8 d8 Tryz.underlying31 Xxj δ hx hn (fun _ _ _ h=>h) hS
  ·exact nw_mk (i:=10) hq hI hd δ 8 aZ aX Tryz.underlying32 Xun δ hx hn (fun _ _ _ h=>h) hS
  ·exact nw_mk (i:=12) hq hI hd δ 9 bA aY Tryz.underlying32 Xun δ hx hn (fun _ _ _ h=>h) hS
  ·have aJ:∀ w',w'=w.alloc (χ Bz 34)->S w'/\Xtr q x m n W C0 a0 (14::done) (a.put (some x) (.pointer (some (π w.heap.size 0)))) w':=fun w' hw=>⟨hS w' cq (aK.trans (by rw [hw];exact Chg.of_below (Xa _ _) (no 0))),hI.put (i:=14) hd δ (fun c hc=>by
    obtain ⟨hC,hE,hh⟩:=Xuo (c:=c) (tag:=1) (.inl hw)
    exact ⟨_,hC,hh hc,_,rfl,hE,if_pos rfl⟩)⟩
   have aW:=Lh aJ
   clear aJ hI hd aK hx hS hcm hend hhi
   go_simp
   exact aW.o _ rfl
 ·intro done a w aB hI
  obtain ⟨l0,aV,aF,f,c,hN⟩:=hI.ends hq aB
  rw [List.filter_congr (fun (p:Nat×Oper) _=>by rw [aF]:∀ p∈_,(!done.contains p.1)=!l0.contains p.1)]
  have aC:∀ i∈[1,4,6,8,10,12],i∈l0:=fun i hi=>by rcases aV with rfl|rfl<;>(simp at hi ⊢;omega)
  obtain ⟨aL,aE,aQ,aI,ra,rc,ka,kc,oa,oc,ba,bc,ea,ec,g1,g4,g6,g8,bC,bD,aH⟩:=hN.built (aC 1 δ) (aC 4 δ) (aC 6 δ) (aC 8 δ) (aC 10 δ) (aC 12 δ)
  have aD:∀ i∈[1,4,6,8,10,12],a.tmps[Xza q x i]?.getD undef=f i:=fun i hi=>by
   rw [hN.act,acts_at (fun j hj e=>X1e hq j (hN.sub j hj) i (hN.sub i (aC i hi)) e) (aC i hi) (by
    simp only [List.mem_cons,List.mem_nil_iff,or_false] at hi
    unfold Xza
    split<;>omega)]
   rfl
  have v1:a.tmps[q]?.getD undef=_:=(aD 1 δ).trans g1
  have v2:a.tmps[q+1]?.getD undef=ι fuel:=by
   rw [<-Array.getD_eq_getD_getElem?]
   exact (Xtr.eval ⟨f,c,hN⟩ (fun j hj=>by
    simp only [List.mem_cons,List.mem_nil_iff,or_false] at hj
    unfold Xza
    split<;>omega)).trans hxf
  have v4:a.tmps[q+3]?.getD undef=_:=(aD 4 δ).trans g4
  have v6:a.tmps[q+5]?.getD undef=_:=(aD 6 δ).trans g6
  have v8:a.tmps[q+7]?.getD undef=_:=(aD 8 δ).trans g8
  have bJ:a.tmps[q+9]?.getD undef=_:=(aD 10 δ).trans bC
  have bK:a.tmps[q+11]?.getD undef=_:=(aD 12 δ).trans bD
  obtain ⟨vb,aO⟩:∃ v:Value,v=.agg #[σ aL m.globals.length aE,σ aQ m.nodes.length aI,ι fuel,σ ra n rc,σ ka n kc,ν,σ oa n oc,σ ba n bc,σ ea n ec,ι 0]:=⟨_,rfl⟩
  have aA:∀ V,(execOp a.eval o13).run Tryz.prog V=.ok (.value vb) V:=fun V=>by
   rw [aO]
   simp [go_sem,execOp,bB,v1,v2,v4,v6,v8,bJ,bK]
  have bP:a.tmps.size=a0.tmps.size:=by rw [hN.act];exact X0r _ _ _ _
  have aG:∀ (b:Act) (V:World) (c1:Clr) (bo:Nat),b.tmps[x]?.getD undef=.pointer (some (π bo 0))->b.tmps[q+12]?.getD undef=vb->Chg NO c c1 w V->(∀ b,V.heap.size<=b->c1 b=0)->V.heap[bo]?=some (χ Bz 34 (0,0))->c1 bo=1->(∀ u1 u4 u6 u8 u10 u12 u13,u1=f 1->u4=f 4->u6=f 6->u8=f 8->u10=f 10->u12=f 12->u13=vb->b=((((((((a0.put (some q) u1).put (some (q+3)) u4).put (some (q+5)) u6).put (some (q+7)) u8).put (some (q+9)) u10).put (some (q+11)) u12).put (some x) (.pointer (some (π bo 0)))).put (some (q+12)) u13))->Xsz Tryz.prog 16 Q S true [(15,o15)] b V:=fun b V c1 bo bQ bF hC hh hE bH aT=>by
   obtain ⟨aJ,aU⟩:=aH V c1 bo fuel hC hh hE bH f64
   have HQ:=Lh (hend (f 1) (f 4) (f 6) (f 8) (f 10) (f 12) vb bo c1 _ aJ aU)
   rw [<-aT _ _ _ _ _ _ _ rfl rfl rfl rfl rfl rfl rfl] at HQ
   obtain ⟨⟨y0,y1,y2,y3,y4,y5,y6,y7,y8,y9⟩,⟨z0,z1,z2,z3,z4,z5,z6,z7,z8,z9⟩,zz⟩:=ten hE
   rw [aO] at bF
   refine X5 rfl ?_
   clear aJ aU hend hS hcm hI hN aH aD aT hx hhi aF aB aC hE hC hh
   unfold Xr6 at HQ
   go_simp
   exact Xr3 HQ.o
  clear aF aB
  have aP:(([(15,o15)]:List (Nat×Oper)).all fun r=>r.1 != 13 && !waits (13,o13) r)=true:=by simp [waits,h13]
  rcases aV with rfl|rfl
  ·obtain ⟨bo,aS,aN,bG⟩:=hN.fact 14 δ
   refine (show Xsz _ _ _ _ _ [_,_] _ _ from ?_)
   refine Z6 (by rw [aP];rfl) vb (fun V _=>aA V) ?_
   rw [aR]
   refine aG _ w c bo ?_ ?_ (Chg.of_below Br (no 0)) hN.hi aN bG ?_
   ·rw [V8 _ _ _ _ φ,hN.act,show (Xt7 a0 (Xza q x) f [14,12,10,8,6,4,1]).tmps[x]?=some (f 14) from acts_at (i:=14) (fun j hj e=>X1e hq j (hN.sub j hj) 14 δ e) δ (show x<_ by omega),aS]
    rfl
   ·rw [Xsf _ _ _ ω]
    rfl
   ·rintro _ _ _ _ _ _ _ rfl rfl rfl rfl rfl rfl rfl
    rw [hN.act,<- aS]
    rfl
  ·refine (show Xsz _ _ _ _ _ [_,_,_] _ _ from ?_)
   refine Xte ?_
   refine Z6 (by simp [waits,h13]) vb (fun V _=>aA V) ?_
   rw [aR]
   have aM:([(15,o15)].all fun r=>r.1 != 14 && [(14,o14),(15,o15)].any (waits r))=true:=by
    have:=h15 14 δ
    simp only [List.contains_iff_mem] at this
    simp [waits,this]
   refine X5 aM ?_
   obtain ⟨V,hV⟩:∃ u,u=w.alloc (χ Bz 34):=⟨_,rfl⟩
   obtain ⟨hC,hE,hh⟩:=Xuo (c:=c) (tag:=1) (.inl hV)
   have bI:(some x:Option Nat)≠some (q+12):=by simp;omega
   have HF:=Lh (And.intro (hS V _ (hN.chg.trans hC)) (aG ((a.put (some (q+12)) vb).put (some x) (.pointer (some (π w.heap.size 0)))) V _ w.heap.size (by rw [Xsf _ _ _ (by rw [Xr5];omega)];rfl) (by rw [V8 _ _ _ _ bI,Xsf _ _ _ ω];rfl) hC (hh hN.hi) hE (if_pos rfl) (by
    rintro _ _ _ _ _ _ _ rfl rfl rfl rfl rfl rfl rfl
    rw [X1p _ _ _ ω,hN.act]
    rfl)))
   clear hC hE hh aG hend hS hcm hI hN aH aD hx hhi aC aA aO
   rw [hV] at HF
   go_simp
   exact HF.o
theorem Xyu:Zn 48:=fun _ _=>by kernel_rfl
theorem X2m (B:Nat) (w:World):∀ (x:List Cal) (w1:World) (av:Value),Below w.heap.size w w1->Xxk B w1 av x->Calls Tryz.prog 48 (#[av]++#[]) w1 (fun e w2=>e=.returned (.bool (decide (2000<(x.length:Int))))/\Below w1.heap.size w1 w2):=by
 rintro x w1 av _ hx
 have hl:x.length<=140737488355328:=by
  obtain ⟨_,_,_,h,_⟩:=hx
  exact h
 obtain ⟨a,cap,rfl⟩:=Xf.form hx
 clear hx
 show Calls Tryz.prog 48 #[σ a x.length cap] w1 _
 go_enter Tryz.func48,Tryz.ntmps48
 go_wp2
 go_ret
 exact ⟨rfl,Below.refl _ _⟩
theorem X1x (h:Xa2 c=false\/Q7 c m=false):Xs9 c m cs fuel=1:=by
 unfold Xs9
 rw [if_pos (fun k=>by rcases h with h|h;rw [h] at k;cases k.1;rw [h] at k;cases k.2)]
theorem X1t (h:Xa2 c=true/\Q7 c m=true) (hf:fuel<0\/1048576<fuel):Xs9 c m cs fuel=2:=by
 unfold Xs9
 rw [if_neg (fun k=>k h),if_pos hf]
theorem X29 (h:Xa2 c=true/\Q7 c m=true) (hf:0<=fuel/\fuel<=1048576) (h0:cs.length=0):Xs9 c m cs fuel=3:=by
 unfold Xs9
 rw [if_neg (fun k=>k h),if_neg ω,if_pos h0]
theorem X08 (h:Xa2 c=true/\Q7 c m=true) (hf:0<=fuel/\fuel<=1048576) (h0:cs.length≠0) (h8:8<cs.length\/cs.any (fun l=>decide (2000<(l.length:Int)))=true):Xs9 c m cs fuel=4:=by
 unfold Xs9
 rw [if_neg (fun k=>k h),if_neg ω,if_neg h0,if_pos h8]
theorem X3h (h:Xa2 c=true/\Q7 c m=true) (hf:0<=fuel/\fuel<=1048576) (h0:cs.length≠0) (h8:cs.length<=8) (ha:cs.any (fun l=>decide (2000<(l.length:Int)))=false):Xs9 c m cs fuel=Xsx c cs:=by
 unfold Xs9
 rw [if_neg (fun k=>k h),if_neg ω,if_neg h0,if_neg (fun k=>by rcases k with k|k;omega;rw [ha] at k;cases k)]
structure X38 (m:Mm) (cs:List (List Cal)):Prop where
 g:m.globals.length<=1000000
 n:m.nodes.length<=4096
 f:∀ x∈m.nodes,x.f.length<=1000000
 a:∀ l∈cs,∀ x∈l,x.args.length<=1000000
structure NwB (cd:Cod) (m:Mm) (cs:List (List Cal)) (c0 c1 c2 g0 g1 lv:Value) (zz:Array Value) (w V:World):Prop where
 c:V.cell? (π w.heap.size 0)=some c0/\V.cell? (π w.heap.size 1)=some c1/\V.cell? (π w.heap.size 2)=some c2/\w.heap.size<V.heap.size
 g:V.cell? (π (w.heap.size+1) 0)=some g0/\V.cell? (π (w.heap.size+1) 1)=some g1/\w.heap.size+1<V.heap.size
 t:V.heap[w.heap.size+1+1]?=some (χ zz 34 (0,0))
 L:Qa V
 cod:Yj w.heap.size V (.agg #[c0,c1,c2]) cd
 mm:MmV w.heap.size V (.agg #[g0,g1]) m
 cs:Xf w.heap.size V 1 (Xsa 2 (Xsr w.heap.size) w.heap.size) lv cs
 b:Below w.heap.size w V
 s:w.heap.size+3<=V.heap.size
theorem nw_open {zz:Array Value} (hW:W=((w.alloc (χ #[c0,c1,c2] 25)).alloc (χ #[g0,g1] 28)).alloc (χ zz 34)) (hL:Qa w) (hc:Yj w.heap.size w (.agg #[c0,c1,c2]) cd) (hm:MmV w.heap.size w (.agg #[g0,g1]) m) (hl:Xf w.heap.size w 1 (Xsa 2 (Xsr w.heap.size) w.heap.size) lv cs):∀ V,Below W.heap.size W V->NwB cd m cs c0 c1 c2 g0 g1 lv zz w V:=fun V hV=>by
 have aA:Below w.heap.size w W:=by rw [hW];exact ((Xa _ _).then (Xa _ _)).then (Xa _ _)
 have aB:W.heap.size=w.heap.size+3:=by rw [hW];simp
 have h0:V.heap[w.heap.size]?=some (χ #[c0,c1,c2] 25 (0,0)):=(hV.block _ ω).trans (by
  rw [hW,Ha _ _ _ φ,Ha _ _ _ ψ]
  exact Hn _ _)
 have h1:V.heap[w.heap.size+1]?=some (χ #[g0,g1] 28 (0,0)):=(hV.block _ ω).trans (by
  rw [hW,Ha _ _ _ ψ]
  have:=Hn (w.alloc (χ #[c0,c1,c2] 25)) (χ #[g0,g1] 28)
  rwa [show (w.alloc (χ #[c0,c1,c2] 25)).heap.size=w.heap.size+1 by simp] at this)
 have h2:V.heap[w.heap.size+1+1]?=some (χ zz 34 (0,0)):=(hV.block _ ω).trans (by
  rw [hW]
  have:=Hn ((w.alloc (χ #[c0,c1,c2] 25)).alloc (χ #[g0,g1] 28)) (χ zz 34)
  rwa [show ((w.alloc (χ #[c0,c1,c2] 25)).alloc (χ #[g0,g1] 28)).heap.size=w.heap.size+1+1 by simp] at this)
 have hb:=aA.then hV
 exact ⟨⟨Cr h0 rfl,Cr h0 rfl,Cr h0 rfl,(La h0)⟩,⟨Cr h1 rfl,Cr h1 rfl,(La h1)⟩,h2,hL.below hb,hc.below hb,hm.below hb,hl.calss hb,hb,by have:=hV.size;omega⟩
theorem nw_err {fn:Func} (hf:fn.results=#[.cell 8 34,.tmp 9]) {V:World} (h:NwB cd m cs c0 c1 c2 g0 g1 lv Bz w V) {e:Int} (he:Xs9 cd m cs fuel=e) (h0:e≠0) (h1:a.tmps.getD 8 undef=.pointer (some (π (w.heap.size+1+1) 0))) (h2:a.tmps.getD 9 undef=ι e) (hd:a.defers=[]):bodyPost Tryz.prog fn (Xut cd m cs fuel w) .ret a (Xr6 V (w.heap.size+1+1) ν ν (ι 0) ν ν ν ν ν ν (ι 0)):=
 bodyPost_ret (V9 (p:=8) (u:=9) hf (V4 h.t ν ν (ι 0) ν ν ν ν ν ν (ι 0)) _ h1 h2) hd ⟨V0 h.b ω h.b.size ν ν (ι 0) ν ν ν ν ν ν (ι 0),.inl (by rw [he];exact ⟨h0,rfl⟩)⟩
theorem nw_ok {wr:World} {c:Clr} (hst:V2 wr c bo (Xtb m fuel cs)) (hcr:c (w.heap.size+1+1)=14) (hres:wr.heap[w.heap.size+1+1]?=some (χ Bz 34 (0,0))) (hbw:Below w.heap.size w wr) (he:Xs9 cd m cs fuel=0):∃ aG aH aI aJ aO aP aK aL aC aD aM aN aA aB aE aF nr nk no nb ne,wr.heap[bo]?=some (χ #[σ aG m.globals.length aH,σ aI m.nodes.length aJ,ι fuel,σ aO nr aP,σ aK nk aL,σ aC cs.length aD,σ aM no aN,σ aA nb aB,σ aE ne aF,ι 0] 34 (0,0))/\
  ∀ (fn:Func) (_:fn.results=#[.cell 8 34,.tmp 9]) (a:Act) (_:a.tmps.getD 8 undef=.pointer (some (π (w.heap.size+1+1) 0))) (_:a.tmps.getD 9 undef=ι 0) (_:a.defers=[]),bodyPost Tryz.prog fn (Xut cd m cs fuel w) .ret a (Xr6 wr (w.heap.size+1+1) (σ aG m.globals.length aH) (σ aI m.nodes.length aJ) (ι fuel) (σ aO nr aP) (σ aK nk aL) (σ aC cs.length aD) (σ aM no aN) (σ aA nb aB) (σ aE ne aF) (ι 0)):=by
 obtain ⟨aG,aH,aI,aJ,aO,aP,aK,aL,aC,aD,aM,aN,aA,aB,aE,aF,aQ,aR⟩:=hst.o (n:=0) (fun b hb=>by omega) hcr
 exact ⟨aG,aH,aI,aJ,aO,aP,aK,aL,aC,aD,aM,aN,aA,aB,aE,aF,_,_,_,_,_,aQ,fun _ hf _ h1 h2 hd=>bodyPost_ret (V9 (p:=8) (u:=9) hf (V4 hres _ _ _ _ _ _ _ _ _ _) _ h1 h2) hd ⟨V0 hbw ω hbw.size _ _ _ _ _ _ _ _ _ _,.inr ⟨he,_,rfl,aR.self⟩⟩⟩
theorem enters_cpm:Zn 50:=fun _ _=>by kernel_rfl
theorem X1o (cd:Cod) (m:Mm) (cs:List (List Cal)) (fuel:Int) (cv mv lv:Value) (w:World) (hL:Qa w) (hc:Yj w.heap.size w cv cd) (hm:MmV w.heap.size w mv m) (hl:Xf w.heap.size w 1 (Xsa 2 (Xsr w.heap.size) w.heap.size) lv cs) (f64:in64 fuel) (ok:X38 m cs) :
  Calls Tryz.prog 12 #[cv,mv,lv,ι fuel] w (Xut cd m cs fuel w):=by
 obtain ⟨fv,gv,rfl,hf,hg,bJ⟩:=id hc
 obtain ⟨fa,fc,rfl⟩:=hf.form
 obtain ⟨qa,qc,rfl⟩:=hg.form
 obtain ⟨dX,eE,rfl,cJ,cL⟩:=id hm
 obtain ⟨ga,gc,rfl⟩:=cJ.form
 obtain ⟨ma,mc,rfl⟩:=cL.form
 have dI:cs.length<=140737488355328:=by
  obtain ⟨_,_,_,h,_⟩:=hl
  exact h
 obtain ⟨la,lc,rfl⟩:=hl.form
 have OK:=Lh ok
 have cT:=Lh hl
 have cM:=Lh f64
 obtain ⟨W,hW⟩:∃ W,W=((w.alloc (χ (Bc fa fc qa qc cd) 25)).alloc (χ (Bm ga gc ma mc m) 28)).alloc (χ Bz 34):=⟨_,rfl⟩
 have HB:=Lh (nw_open hW hL hc hm hl)
 clear hf hg bJ hL hc hm hl cJ cL ok f64
 obtain ⟨⟨c0,c1,c2,zc⟩,⟨g0,g1,zg⟩,-⟩:=HB.o W Br
 go_enter Tryz.func12,Tryz.ntmps12
 go_upto_region 1 with fail
 rw [<-hW]
 have HW:=Lh hW
 clear hW
 go_wp2_with fail
 refine (Xw2 cd _ w.heap.size W (HB.o W Br).L (HB.o W Br).b.size (HB.o W Br).cod).mono ?_
 rintro e w1 ⟨rfl,cE⟩
 have aE:=Lh cE
 clear c0 c1 c2 zc g0 g1 zg cE
 cases aW:Xa2 cd with
 | false=>
  have bF:=Lh aW
  clear aW
  obtain ⟨⟨y0,y1,y2,y3,y4,y5,y6,y7,y8,y9⟩,⟨z0,z1,z2,z3,z4,z5,z6,z7,z8,z9⟩,zR⟩:=ten (HB.o w1 aE.o).t
  go_wp2
  exact nw_err rfl (HB.o w1 aE.o) (X1x (.inl bF.o)) ω rfl rfl rfl
 | true=>
 have bF:=Lh aW
 clear aW
 obtain ⟨⟨c0,c1,c2,zc⟩,⟨g0,g1,zg⟩,-⟩:=HB.o w1 aE.o
 go_wp2_with fail
 refine (Xxh cd _ m _ w.heap.size w1 (HB.o w1 aE.o).b.size (HB.o w1 aE.o).cod (HB.o w1 aE.o).mm).mono ?_
 rintro e w2 ⟨rfl,aN⟩
 have aB:=Lh (aE.o.then aN)
 clear c0 c1 c2 zc g0 g1 zg aN
 cases aV:Q7 cd m with
 | false=>
  have cR:=Lh aV
  clear aV
  obtain ⟨⟨y0,y1,y2,y3,y4,y5,y6,y7,y8,y9⟩,⟨z0,z1,z2,z3,z4,z5,z6,z7,z8,z9⟩,zR⟩:=ten (HB.o w2 aB.o).t
  go_wp2
  exact nw_err rfl (HB.o w2 aB.o) (X1x (.inr cR.o)) ω rfl rfl rfl
 | true=>
 have aI:=Lh (And.intro bF.o aV)
 clear aV
 by_cases dE:fuel<0
 ·have bC:=Lh dE
  obtain ⟨⟨y0,y1,y2,y3,y4,y5,y6,y7,y8,y9⟩,⟨z0,z1,z2,z3,z4,z5,z6,z7,z8,z9⟩,zR⟩:=ten (HB.o w2 aB.o).t
  go_wp2
  exact nw_err rfl (HB.o w2 aB.o) (X1t aI.o (.inl bC.o)) ω rfl rfl rfl
 by_cases dF:1048576<fuel
 ·have bC:=Lh dF
  obtain ⟨⟨y0,y1,y2,y3,y4,y5,y6,y7,y8,y9⟩,⟨z0,z1,z2,z3,z4,z5,z6,z7,z8,z9⟩,zR⟩:=ten (HB.o w2 aB.o).t
  go_wp2
  exact nw_err rfl (HB.o w2 aB.o) (X1t aI.o (.inr bC.o)) ω rfl rfl rfl
 have aU:Hid (0<=fuel/\fuel<=1048576):=Lh ω
 by_cases hz:cs.length=0
 ·have aL:=Lh hz
  have dL:((cs.length:Int) == 0)=true:=by simp [hz]
  clear hz
  obtain ⟨⟨y0,y1,y2,y3,y4,y5,y6,y7,y8,y9⟩,⟨z0,z1,z2,z3,z4,z5,z6,z7,z8,z9⟩,zR⟩:=ten (HB.o w2 aB.o).t
  go_wp2
  exact nw_err rfl (HB.o w2 aB.o) (X29 aI.o aU.o aL.o) ω rfl rfl rfl
 have aL:=Lh hz
 have dL:((cs.length:Int) == 0)=false:=by simp [hz]
 clear hz
 by_cases h8:8<(cs.length:Int)
 ·have H8:=Lh h8
  obtain ⟨⟨y0,y1,y2,y3,y4,y5,y6,y7,y8,y9⟩,⟨z0,z1,z2,z3,z4,z5,z6,z7,z8,z9⟩,zR⟩:=ten (HB.o w2 aB.o).t
  go_wp2
  exact nw_err rfl (HB.o w2 aB.o) (X08 aI.o aU.o aL.o (.inl (by have:=H8.o;omega))) ω rfl rfl rfl
 have H8:Hid (cs.length<=8):=Lh ω
 go_wp2_with fail
 refine (Xs0 48 #[] (fun l=>decide (2000<(l.length:Int))) cs _ w.heap.size w2 Xyu (HB.o w2 aB.o).b.size (HB.o w2 aB.o).cs (X2m w.heap.size w2)).mono ?_
 rintro e w3 ⟨rfl,cF⟩
 have aS:=Lh (aB.o.then cF)
 clear cF
 cases ha:cs.any fun l=>decide (2000<(l.length:Int)) with
 | true=>
  have HA:=Lh ha
  clear ha
  obtain ⟨⟨y0,y1,y2,y3,y4,y5,y6,y7,y8,y9⟩,⟨z0,z1,z2,z3,z4,z5,z6,z7,z8,z9⟩,zR⟩:=ten (HB.o w3 aS.o).t
  go_wp2
  exact nw_err rfl (HB.o w3 aS.o) (X08 aI.o aU.o aL.o (.inr HA.o)) ω rfl rfl rfl
 | false=>
 have HA:=Lh ha
 have bX:Hid (Xs9 cd m cs fuel=Xsx cd cs):=Lh (X3h aI.o aU.o aL.o H8.o ha)
 clear ha
 go_wp2_with fail
 go_loopw [54] (fun i wr=>∃ k:Nat,k<=cs.length/\i=ι k/\Hid (Below W.heap.size W wr/\∀ l∈cs.take k,∀ y∈l,Yd cd y 0=0)) (fun i _=>cs.length - (intOf i).toNat)
 case atStart=>exact ⟨0,Nat.zero_le _,rfl,Lh ⟨aS.o,ψ⟩⟩
 case round=>
  obtain ⟨k,hk,rfl,hs⟩:=hrel
  obtain ⟨wo,rfl⟩:∃ wo:World,wo=wr:=⟨_,rfl⟩
  by_cases bL:k<cs.length
  ·obtain ⟨l,hl⟩:∃ y,cs[k]?=some y:=⟨_,Lg bL⟩
   obtain ⟨b0,o0,rfl,bT,dM,aR,aF⟩:=(HB.o wo hs.o.1).cs.nth hl
   have eB:l.length<=140737488355328:=by
    obtain ⟨_,_,_,h,_⟩:=aF
    exact h
   obtain ⟨xa,xc,rfl⟩:=aF.form
   rw [Nat.mul_one] at aR
   have HX:=Lh hl
   have bE:=Lh aF
   have dG:(0:Int)<=(k:Int):=In _
   have dH:(k:Int)<(cs.length:Int):=ω
   clear hl aF bT
   go_wp2_with fail
   clear aR
   go_loopw [60] (fun i wr=>∃ p:Nat,p<=l.length/\i=ι p/\Hid (Below wo.heap.size wo wr/\∀ y∈l.take p,Yd cd y 0=0)) (fun i _=>l.length - (intOf i).toNat)
   case atStart=>exact ⟨0,Nat.zero_le _,rfl,Lh ⟨Below.refl _ _,ψ⟩⟩
   case round=>
    obtain ⟨p,hp,rfl,aJ⟩:=hrel
    have aZ:=Lh (hs.o.1.then aJ.o.1)
    by_cases dJ:p<l.length
    ·obtain ⟨x,hx⟩:∃ y,l[p]?=some y:=⟨_,Lg dJ⟩
     obtain ⟨b1,o1,rfl,dO,x0,⟨av,x1,bO⟩,dK⟩:=(bE.o.cals (aJ.o.1.mono (HB.o wo hs.o.1).b.size)).nth hx
     obtain ⟨bR,bS,rfl⟩:=bO.form
     have cA:=Lh hx
     have cD:∀ V,Below wr.heap.size wr V->J8 w.heap.size V (.agg #[.string x.proc,σ bR x.args.length bS]) x:=fun V hV=>⟨_,rfl,bO.ints (hV.mono (HB.o wr aZ.o).b.size),dK⟩
     have dB:=Lh cD
     have dZ:(0:Int)<=(p:Int):=In _
     have eA:(p:Int)<(l.length:Int):=ω
     have zx:=Bl x0
     clear hx bO cD dO
     go_upto_region 15 with fail
     obtain ⟨V,hV⟩:∃ V,V=wr.alloc (χ #[.string x.proc,σ bR x.args.length bS] 80):=⟨_,rfl⟩
     have bG:Hid (Below wr.heap.size wr V):=by rw [hV];exact Lh (Xa _ _)
     have bM:V.heap[wr.heap.size]?=some (χ #[.string x.proc,σ bR x.args.length bS] 80 (0,0)):=by rw [hV];exact Hn _ _
     have v0:=Cw bM 0 rfl
     have v1:=Cw bM 1 rfl
     have zv:=Bl v0
     have aD:=Lh (aZ.o.then bG.o)
     rw [<-hV]
     clear hV bM x0 x1 zx
     obtain ⟨⟨c0,c1,c2,zc⟩,-⟩:=HB.o V aD.o
     go_wp2_with fail
     refine (Xw5 cd _ x _ w.heap.size V (HB.o V aD.o).b.size (HB.o V aD.o).cod (dB.o V bG.o)).mono ?_
     rintro e w6 ⟨rfl,bI⟩
     have bU:=Lh (aD.o.then bI)
     have cO:=Lh ((aJ.o.1.then bG.o).then bI)
     clear c0 c1 c2 zc v0 v1 zv bI
     obtain ⟨ge,bK⟩:∃ q,q=Yd cd x 0:=⟨_,rfl⟩
     rw [<-bK]
     have bV:=Lh bK
     clear bK
     by_cases aQ:ge=0
     ·subst aQ
      have hn:Hid (∀ y∈l.take (p+1),Yd cd y 0=0):=Lh (fun y hy=>by
       rw [List.take_add_one,cA.o] at hy
       rcases List.mem_append.1 hy with hy|hy
       ·exact aJ.o.2 y hy
       ·simp at hy;subst hy;exact bV.o.symm)
      go_wp2
      go_roundw
      case rel=>exact ⟨p+1,ω,by go_num,Lh ⟨cO.o,hn.o⟩⟩
      case measure=>simp [intOf];omega
     ·have cV:=Lh aQ
      have dY:(ge != 0)=true:=by simpa using aQ
      have cW:Hid (Xsx cd cs=ge):=Lh (by
       have h:=bV.o
       rw [h]
       exact Xw0 HX.o hs.o.2 cA.o aJ.o.2 (by rw [<-h];exact aQ))
      clear aQ
      obtain ⟨⟨y0,y1,y2,y3,y4,y5,y6,y7,y8,y9⟩,⟨z0,z1,z2,z3,z4,z5,z6,z7,z8,z9⟩,zR⟩:=ten (HB.o w6 bU.o).t
      go_wp2
      exact nw_err rfl (HB.o w6 bU.o) (bX.o.trans cW.o) cV.o rfl rfl rfl
    ·obtain rfl:p=l.length:=ω
     have hn:Hid (∀ z∈cs.take (k+1),∀ y∈z,Yd cd y 0=0):=Lh (fun z hz y hy=>by
      rw [List.take_add_one,HX.o] at hz
      rcases List.mem_append.1 hz with hz|hz
      ·exact hs.o.2 z hz y hy
      ·simp at hz;subst hz;exact aJ.o.2 y (by rw [List.take_length];exact hy))
     go_wp2
     go_roundw
     case rel=>exact ⟨k+1,ω,by go_num,Lh ⟨aZ.o,hn.o⟩⟩
     case measure=>simp [intOf];omega
  obtain rfl:k=cs.length:=ω
  have cX:Hid (∀ l∈cs,∀ y∈l,Yd cd y 0=0):=Lh (by
   have h:=hs.o.2
   rw [List.take_length] at h
   exact h)
  have cQ:Hid (Xs9 cd m cs fuel=0):=Lh (by rw [bX.o];exact Xua cX.o)
  have aK:=Lh hs.o.1
  clear hs aS aB aE
  obtain ⟨-,⟨g0,g1,zg⟩,-⟩:=HB.o wo aK.o
  go_upto_region 21 with fail
  have hD:=HB.o wo.drew (Xh aK.o 1)
  refine X6 (fun Vs=>Vs.cell? (π (w.heap.size+1) 0)=some (σ ga m.globals.length gc)/\Vs.cell? (π (w.heap.size+1) 1)=some (σ ma m.nodes.length mc)) [1,4,6,8,10,12,13,14,15] true 16 rfl κ κ ⟨g0,g1⟩ ?_
  repeat (first|(refine' Xr4.take (Eq.refl false) _ (fun wV bH=>?_) ?_;rotate_left;(try dsimp only at bH);go_simp;(try with_reducible rfl);try simp only [Ap])|refine Xr4.skip (Eq.refl true) ?_)
  refine Xr4.stop ?_
  simp only [List.nil_append,List.cons_append]
  clear g0 g1 zg
  refine nw_region (q:=76) (x:=16) (C0:=(fun b=>if b=w.heap.size+1+1 then 14 else 0)) fuel (.agg (Bm ga gc ma mc m)) δ enters_cpm rfl κ δ (n:=cs.length) (m:=m) (by have:=H8.o;omega) cM.o ψ ⟨rfl,rfl,rfl,rfl,rfl⟩ rfl rfl (fun V c' h=>⟨h.cell hD.g.1 (no _),h.cell hD.g.2.1 (no _)⟩) (fun b hb=>if_neg (by have:=hD.s;omega)) (fun V c' h=>?_) (fun u1 u4 u6 u8 eJ eK eL bo c Wf aA cG=>?_)
  ·have aN:Below w.heap.size wo.drew V:=(⟨h.os,h.tape,h.output,h.size,fun b hb=>h.keep b hb (no _)⟩:Below wo.drew.heap.size wo.drew V).mono hD.b.size
   exact Xyr m _ w.heap.size V (Nt hD.b.size aN.size) (hD.mm.below aN) OK.o.g OK.o.n OK.o.f
  simp only [Ap]
  have bY:Hid (X19 m cs fuel wo.drew (fun b=>if b=w.heap.size+1+1 then 14 else 0) bo 0 Wf c):=Lh ⟨aA,cG⟩
  clear aA cG hD
  have bA:Hid (∀ (V:World) (c':Clr),Chg NZ (fun b=>if b=w.heap.size+1+1 then 14 else 0) c' wo.drew V->Below w.heap.size w V):=Lh (fun V c' h=>(HB.o wo.drew (Xh aK.o 1)).b.trans (h.below (B:=w.heap.size) (fun b hb=>if_neg ω) (HB.o wo.drew (Xh aK.o 1)).b.size))
  have cY:Hid (∀ (V:World) (c':Clr),Chg NZ (fun b=>if b=w.heap.size+1+1 then 14 else 0) c' wo.drew V->V.heap[w.heap.size+1+1]?=some (χ Bz 34 (0,0))/\c' (w.heap.size+1+1)=14):=Lh (fun V c' h=>by
   have hk:=HB.o wo.drew (Xh aK.o 1)
   have hl:w.heap.size+1+1<wo.drew.heap.size:=by have:=hk.s;omega
   exact ⟨(h.keep _ hl (by show ¬NZ (if _ then _ else _);rw [if_pos rfl];exact Xvf)).trans hk.t,(h.old _ hl).trans (if_pos rfl)⟩)
  go_wp2_with fail
  go_loopw [91] (fun i wr=>∃ k:Nat,k<=cs.length/\i=ι k/\Hid (∃ c,X19 m cs fuel wo.drew (fun b=>if b=w.heap.size+1+1 then 14 else 0) bo k wr c)) (fun i _=>cs.length - (intOf i).toNat)
  case atStart=>exact ⟨0,Nat.zero_le _,rfl,Lh ⟨_,bY.o⟩⟩
  case round=>
   obtain ⟨k,hk,rfl,aA⟩:=hrel
   obtain ⟨c,aA⟩:=aA.o
   have HS:=Lh aA
   clear aA bY
   by_cases bL:k<cs.length
   ·obtain ⟨l,hl⟩:∃ y,cs[k]?=some y:=⟨_,Lg bL⟩
    have aO:=bA.o wr c HS.o.chg
    obtain ⟨b0,o0,rfl,bT,dM,aR,aF⟩:=(cT.o.calss aO).nth hl
    obtain ⟨xa,xc,rfl⟩:=aF.form
    rw [Nat.mul_one] at aR
    have HX:=Lh hl
    have bE:=Lh aF
    have cU:Hid (l.length<=2000):=Lh (by
     have h:=HA.o
     rw [List.any_eq_false] at h
     have:=h l (Lm hl)
     simp at this
     omega)
    have bW:Hid ((cs.take k).length=k):=Lh (by rw [List.length_take];omega)
    have dG:(0:Int)<=(k:Int):=In _
    have dH:(k:Int)<(cs.length:Int):=ω
    obtain ⟨bP,bQ,dN,p5,bN,cI⟩:=HS.o.st.pushC
    rw [show ({ Xy9 m cs.length fuel with calls:=cs.take k }:Thr).calls.length=k from bW.o] at p5 bN
    have cZ:=Lh bN
    have cS:=Lh cI
    have LB:=Lh HS.o.st.lab
    have zb:=LB.o.2.1
    clear hl aF bT aO bN cI
    go_upto_region 25 with fail
    clear aR zb
    refine X6 (fun Vs=>Vs.cell? (π bo 5)=some (σ bP k bQ)) [3,4,5,7] true 8 rfl κ κ p5 ?_
    repeat (first|(refine' Xr4.take (Eq.refl false) _ (fun wV bH=>?_) ?_;rotate_left;(try dsimp only at bH);go_simp;(try with_reducible rfl);try simp only [Ap])|refine Xr4.skip (Eq.refl true) ?_)
    refine Xr4.stop ?_
    simp only [List.nil_append,List.cons_append]
    have HF:=Lh p5
    clear p5
    have cP:Hid (∀ V,Below wr.heap.size wr V->Calls Tryz.prog 51 #[σ xa l.length xc] V (Xwd l V)):=Lh (fun V hV=>by
     have aO:=bA.o wr c HS.o.chg
     exact Xwm l (σ xa l.length xc) w.heap.size V (Nt aO.size hV.size) (bE.o.cals (hV.mono aO.size)) (by have:=cU.o;omega) (OK.o.a l (Lm HX.o)))
    refine X5 κ ?_
    go_simp
    refine (cP.o _ (Xh Br 1)).mono ?_
    rintro e u6 ⟨aX,aY,rfl,hb,hx⟩
    have aD:Hid (Below wr.heap.size wr u6):=Lh ((Xh Br 1).then hb)
    have dC:=Lh hx
    clear hb hx
    refine ⟨Xc aD.o HF.o,?_⟩
    refine X5 κ ?_
    go_simp
    refine ⟨Xc (Xa _ _) (Xc aD.o HF.o),?_⟩
    have aT:Hid (Chg (fun t=>t=19) c c wr u6):=Lh (Chg.of_below aD.o ω)
    have bZ:Hid (∀ b,u6.heap.size<=b->c b=0):=Lh (fun b hb=>LB.o.2.2.1 b (Nt aD.o.size hb))
    have cN:Hid (∀ b,(u6.alloc (χ #[σ aX l.length aY] 54)).heap.size<=b->c b=0):=Lh (fun b hb=>bZ.o b (by simp at hb;omega))
    have bB:Hid (Chg (fun t=>t=19) c c wr (u6.alloc (χ #[σ aX l.length aY] 54))):=Lh (aT.o.trans (Chg.of_below (Xa _ _) ω))
    refine X5 κ ?_
    refine Xsy (fun t=>t=6) (.tmp 96) (.tmp 99) 29 54 rfl Tryz.underlying29 Xw9 rfl δ δ (c:=c) (tag:=6) (v:=σ bP k bQ) (n:=k) (xs:=dN) rfl (cZ.o.keep bB.o ω) (π u6.heap.size 0) 1 1 [σ aX l.length aY] rfl rfl (fun j u hu=>(Xso u6 _ _ j).trans (by simpa using hu)) (by simp [Value.oneCell']) δ (by have:=H8.o;omega) rfl δ cN.o (fun g6 aM v6 cB aC hC cK dD=>?_)
    obtain ⟨aA,aG⟩:=cS.o u6 c v6 cB (σ aX l.length aY) l (σ (some (π g6 0)) (k+1) aM) aT.o bZ.o (dC.o c (fun b hb=>LB.o.2.2.1 b hb)) ((Chg.of_below (Xa _ _) ω).trans hC) cK (by rw [show ({ Xy9 m cs.length fuel with calls:=cs.take k }:Thr).calls.length=k from bW.o];exact aC)
    have e0:=hC.cell (Xc (Xa _ _) (Xc aD.o HF.o)) (by show ¬c _=_;rw [aT.o.old _ LB.o.2.1,(LB.o.1)];omega)
    have ef:v6.frozen? (π bo 5)=false:=hC.frozen (Nl LB.o.2.1 bB.o.size) (bB.o.frozen LB.o.2.1 (LB.o.2.2.2 5) (by show ¬c bo=_;rw [LB.o.1];omega)) (by show ¬c bo=_;rw [aT.o.old _ LB.o.2.1,LB.o.1];omega)
    refine ⟨.inl e0,?_⟩
    refine X5 κ ?_
    go_simp
    refine Xr3 ?_
    obtain ⟨W6,cC⟩:∃ u,u=v6.setCell (π bo 5) (σ (some (π g6 0)) (k+1) aM):=⟨_,rfl⟩
    rw [<-cC] at aA aG ⊢
    have dA:Hid (X19 m cs fuel wo.drew (fun b=>if b=w.heap.size+1+1 then 14 else 0) bo (k+1) W6 cB):=Lh ⟨(by
     have e:({ Xy9 m cs.length fuel with calls:=cs.take k++[l] }:Thr)={ Xy9 m cs.length fuel with calls:=cs.take (k+1) }:=by
      rw [List.take_add_one,HX.o];rfl
     rw [<-e];exact aA),HS.o.chg.trans aG⟩
    clear aA aG aC hC cK dD cC e0 ef
    go_wp2
    go_roundw
    case rel=>exact ⟨k+1,ω,by go_num,Lh ⟨_,dA.o⟩⟩
    case measure=>simp [intOf];omega
   ·obtain rfl:k=cs.length:=ω
    have aA:=HS.o.st
    rw [List.take_length] at aA
    obtain ⟨aH,cH⟩:=cY.o wr c HS.o.chg
    obtain ⟨dV,dW,eC,eD,eH,eI,bP,bQ,dR,dS,eF,eG,dP,dQ,dT,dU,nr,nk,no,nb,ne,aC,aP⟩:=nw_ok (cd:=cd) (show V2 wr c bo (Xtb m fuel cs) from aA) cH aH (bA.o wr c HS.o.chg) cQ.o
    have bD:=Lh aP
    obtain ⟨⟨x0,x1,x2,x3,x4,x5,x6,x7,x8,x9⟩,-,xz⟩:=ten aC
    obtain ⟨⟨y0,y1,y2,y3,y4,y5,y6,y7,y8,y9⟩,⟨z0,z1,z2,z3,z4,z5,z6,z7,z8,z9⟩,zz⟩:=ten aH
    clear aH aC cH aA aP
    go_wp2_with fail
    exact bD.o _ rfl _ rfl rfl rfl
