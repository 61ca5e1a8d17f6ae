import Derived.Test.YtiejafonjemioaaGreatDoorInv
set_option maxHeartbeats 8000000
set_option maxRecDepth 100000
set_option linter.unusedVariables false
set_option linter.unusedSimpArgs false
open Go.Value renaming slice→σ
open Go.Obj renaming cells→χ
namespace Go.Proofs.YtiejafonjemioaaGreatDoor
open Go.RowKit
variable {a a0:Act} {sl:Nat->Nat} {f:Nat->Value} {d i j n t:Nat} {l done:List Nat} {o:Oper} {K:Act->World->Prop} {Q:Exit->Act->World->Prop} {w w' W:World} {m:Mm} {v:Value} {c:Cod} {C0:Clr} {fuel:Int} {cs:List (List Cal)}
def Xt7 (a:Act) (sl:Nat->Nat) (f:Nat->Value):List Nat->Act
 | []=>a
 | i::l=>(Xt7 a sl f l).put (some (sl i)) (f i)
theorem Xw3 (a:Act) (sl:Nat->Nat) (f:Nat->Value) (d:Nat):∀ l:List Nat,(∀ i∈l,sl i≠d)->(Xt7 a sl f l).tmps[d]?=a.tmps[d]?
 | [],_=>rfl
 | i::l,h=>by
  show ((Xt7 a sl f l).put (some (sl i)) (f i)).tmps[d]?=_
  rw [V8 _ _ _ _ (fun e=>h i ψ (by simpa using e))]
  exact Xw3 a sl f d l (fun j hj=>h j (by simp [hj]))
theorem X0l (h:∀ i∈l,sl i≠d):(Xt7 a sl f l).eval (.tmp d)=a.eval (.tmp d):=by
 show (Xt7 a sl f l).tmps.getD d undef=a.tmps.getD d undef
 rw [Array.getD_eq_getD_getElem?,Array.getD_eq_getD_getElem?,Xw3 a sl f d l h]
theorem Xwb {g:Nat->Value}:∀ {l:List Nat},(∀ i∈l,f i=g i)->Xt7 a sl f l=Xt7 a sl g l
 | [],_=>rfl
 | i::l,h=>by
  show (Xt7 a sl f l).put _ _=(Xt7 a sl g l).put _ _
  rw [Xwb (l:=l) (fun j hj=>h j (by simp [hj])),h i ψ]
theorem X1p (a:Act) (u v:Value) (h:i≠j):(a.put (some i) u).put (some j) v=(a.put (some j) v).put (some i) u:=by
 refine Xx0 rfl (fun d=>?_)
 by_cases h1:d=j
 ·subst h1
  rw [V8 (a.put (some d) v) _ _ _ (fun e=>h (by simpa using e))]
  by_cases hd:d<a.tmps.size
  ·rw [Xsf _ _ _ (by rw [Xr5];exact hd),Xsf _ _ _ hd]
  ·rw [Array.getElem?_eq_none (by rw [Xr5,Xr5];omega),Array.getElem?_eq_none (by rw [Xr5];omega)]
 ·rw [V8 _ _ _ _ (fun e=>h1 (by simpa using e.symm))]
  by_cases h2:d=i
  ·subst h2
   by_cases hd:d<a.tmps.size
   ·rw [Xsf _ _ _ hd,Xsf _ _ _ (by rw [Xr5];exact hd)]
   ·rw [Array.getElem?_eq_none (by rw [Xr5];omega),Array.getElem?_eq_none (by rw [Xr5,Xr5];omega)]
  ·rw [V8 _ _ _ _ (fun e=>h2 (by simpa using e.symm)),V8 _ _ _ _ (fun e=>h2 (by simpa using e.symm)),V8 _ _ _ _ (fun e=>h1 (by simpa using e.symm))]
theorem X0t {l':List Nat} (hp:l.Perm l'):(∀ i∈l,∀ j∈l,sl i=sl j->i=j)->Xt7 a sl f l=Xt7 a sl f l':=by
 induction hp with
 | nil=>intro _;rfl
 | cons x _ ih=>intro h;exact congrArg (fun q:Act=>q.put (some (sl x)) (f x)) (ih (fun i hi j hj=>h i (by simp [hi]) j (by simp [hj])))
 | swap x y l=>
  intro h
  show ((Xt7 a sl f l).put (some (sl x)) (f x)).put (some (sl y)) (f y)=((Xt7 a sl f l).put (some (sl y)) (f y)).put (some (sl x)) (f x)
  by_cases e:x=y
  ·subst e;rfl
  ·exact X1p _ _ _ (fun he=>e (h x ψ y ψ he))
 | trans h1 _ ih1 ih2=>intro h;exact (ih1 h).trans (ih2 (fun i hi j hj=>h i (h1.mem_iff.2 hi) j (h1.mem_iff.2 hj)))
theorem Xyv (x:Nat) (t e:TypeId) (ho:o.op=.makeSlice t (.tmp x) (.tmp x)) (hu:Tryz.prog.underlying t=some (.slice e)) {z:Value} {sz bytes:Nat} (hi:(Tryz.prog.info? e).map (fun i=>(i.zero,i.size,i.bytes))=some (some z,sz,bytes)) (hb:bytes<=128) (n:Nat) (hx:a.eval (.tmp x)=ι (n:Int)) (hn:n<=1000)
  (h:∀ w',w'.heap[w.heap.size]?=some (χ (madeCells z.cells (n*sz)) e (0,0))->(∀ (c:Clr) tag,(∀ b,w.heap.size<=b->c b=0)->∃ c',Chg NO c c' w w'/\(∀ b,w'.heap.size<=b->c' b=0)/\V3 w' c' tag e sz (σ (some (π w.heap.size 0)) n n) n (madeCells z.cells (n*sz)).toList)->K (a.put o.dst (σ (some (π w.heap.size 0)) n n)) w'):o.wp Tryz.prog a w K Q:=by
 obtain ⟨ti,aA,aB,aC,aD⟩:=info_parts hi
 have aE:ti.bytes*n<=128*1000:=Nat.mul_le_mul (by rw [aD];exact hb) hn
 have hr:=run_make w t e ti z hu aA aB .i64 .i64 (n:Int) (n:Int) ω ω (by rw [<-Int.natCast_mul];omega) ω
 simp only [Int.toNat_natCast,aC] at hr
 have hz:(World.alloc w (χ (madeCells z.cells (n*sz)) e)).heap.size=w.heap.size+1:=by simp
 unfold Oper.wp
 simp [execOp,ho,hx,hr]
 refine h _ (Hn _ _) (fun c tag hc=>⟨fun x=>if x=w.heap.size then tag else c x,Chg.paint _ _ (Xa _ _) (Nr _),fun b hb=>?_,⟨World.ownsRow_lit w _ n (Nat.zero_le _) (by unfold maxLen;omega) (size_madeCells _ _),fun b hb=>?_,ω⟩⟩)
 ·show (if _ then _ else _)=_
  rw [if_neg ω];exact hc b ω
 ·simp [Value.ownBlock] at hb
  exact if_pos hb
theorem X33 (x:Nat) (t:TypeId) (ho:o.op=.call { callee:=.value (.func 50),args:=#[.tmp x],argTypes:=#[t] }) (v:Value) (hx:a.eval (.tmp x)=v) (h:Calls Tryz.prog 50 #[v] w (fun e w'=>∃ r,e=.returned r/\K (a.put o.dst r) w')):o.wp Tryz.prog a w K Q:=by
 have aA:a.tmps[x]?.getD undef=v:=by rw [<-Array.getD_eq_getD_getElem?];exact hx
 have hr:(execOp a.eval o).run Tryz.prog w=.ok (.enter 50 #[v]) w:=by
  simp [go_sem,execOp,ho,aA]
 unfold Oper.wp
 rw [hr,Oper.upon_enter]
 refine h.mono ?_
 rintro e w' ⟨r,rfl,hk⟩
 exact hk
def Xza (i:Nat):Nat:=if i=1 then 76 else if i=4 then 79 else if i=6 then 81 else if i=8 then 83 else if i=10 then 85 else if i=12 then 87 else 16
def X1w:Array Value:=#[ν,ι 0,ι 0,ι 0,ι 0,ι 0,ι 0,ι 0,ι 0]
structure NwF (m:Mm) (n i:Nat) (v:Value) (w:World) (c:Clr):Prop where
 m:i=1->∃ ga gc na nc nx,v=.agg (Bm ga gc na nc m)/\Xxp w c m (σ ga m.globals.length gc) (σ na m.nodes.length nc) nx
 r:i=4->V3 w c 4 51 9 v n (madeCells X1w (n*9)).toList
 k:i=6->V3 w c 5 3 1 v n (madeCells #[ι 0] (n*1)).toList
 o:i=8->V3 w c 7 78 1 v n (madeCells #[ν] (n*1)).toList
 b:i=10->V3 w c 8 22 1 v n (madeCells #[ν] (n*1)).toList
 e:i=12->V3 w c 9 22 1 v n (madeCells #[ν] (n*1)).toList
 x:i=14->∃ bo,v=.pointer (some (π bo 0))/\w.heap[bo]?=some (χ Bz 34 (0,0))/\c bo=1
theorem NwF.keep {c c':Clr} (h:NwF m n i v w c) (hC:Chg NO c c' w w') (hhi:∀ b,w'.heap.size<=b->c' b=0):NwF m n i v w' c':=
 ⟨fun e=>by
  obtain ⟨ga,gc,na,nc,nx,h1,h2⟩:=h.m e
  exact ⟨ga,gc,na,nc,nx,h1,h2.keep hC hhi (fun t ht=>ht.elim)⟩,
  fun e=>(h.r e).keep hC (no _),fun e=>(h.k e).keep hC (no _),fun e=>(h.o e).keep hC (no _),fun e=>(h.b e).keep hC (no _),fun e=>(h.e e).keep hC (no _),fun e=>by
  obtain ⟨bo,h1,h2,h3⟩:=h.x e
  have hl:=(La h2)
  exact ⟨bo,h1,(hC.keep bo hl (no _)).trans h2,(hC.old bo hl).trans h3⟩⟩
structure NwI (m:Mm) (n:Nat) (W:World) (C0:Clr) (a0:Act) (done:List Nat) (a:Act) (w:World) (f:Nat->Value) (c:Clr):Prop where
 act:a=Xt7 a0 Xza f done
 nd:done.Nodup
 sub:∀ i∈done,i∈[1,4,6,8,10,12,14]
 chg:Chg NO C0 c W w
 hi:∀ b,w.heap.size<=b->c b=0
 fact:∀ i∈done,NwF m n i (f i) w c
def Xtr (m:Mm) (n:Nat) (W:World) (C0:Clr) (a0:Act) (done:List Nat) (a:Act) (w:World):Prop:=∃ f c,NwI m n W C0 a0 done a w f c
theorem Xtr.start (m:Mm) (n:Nat) (W:World) (C0:Clr) (a0:Act) (hhi:∀ b,W.heap.size<=b->C0 b=0):Xtr m n W C0 a0 [] a0 W:=
 ⟨fun _=>undef,C0,rfl,List.nodup_nil,ψ,Chg.of_below Br (no 0),hhi,ψ⟩
theorem Xtr.put (h:Xtr m n W C0 a0 done a w) (hi:i∉done) (hm:i∈[1,4,6,8,10,12,14]) (hst:∀ c:Clr,(∀ b,w.heap.size<=b->c b=0)->∃ c',Chg NO c c' w w'/\(∀ b,w'.heap.size<=b->c' b=0)/\NwF m n i v w' c'):Xtr m n W C0 a0 (i::done) (a.put (some (Xza i)) v) w':=by
 obtain ⟨f,c,hI⟩:=h
 obtain ⟨c',h1,h2,h3⟩:=hst c hI.hi
 have hf:∀ j∈done,(if j=i then v else f j)=f j:=fun j hj=>if_neg (fun e=>hi (by rw [<-e];exact hj))
 refine ⟨fun j=>if j=i then v else f j,c',?_,List.nodup_cons.2 ⟨hi,hI.nd⟩,fun j hj=>?_,hI.chg.trans h1,h2,fun j hj=>?_⟩
 ·show _=(Xt7 a0 Xza (fun j=>if j=i then v else f j) done).put (some (Xza i)) (if i=i then v else f i)
  rw [if_pos rfl,Xwb (l:=done) (g:=f) hf,hI.act]
 ·rcases List.mem_cons.1 hj with rfl|hj
  ·exact hm
  ·exact hI.sub j hj
 ·rcases List.mem_cons.1 hj with rfl|hj
  ·show NwF m n j (if j=j then v else f j) w' c'
   rw [if_pos rfl];exact h3
  ·show NwF m n j (if j=i then v else f j) w' c'
   rw [hf j hj];exact (hI.fact j hj).keep h1 h2
theorem Xtr.chg (h:Xtr m n W C0 a0 done a w):∃ c,Chg NO C0 c W w:=by
 obtain ⟨f,c,hI⟩:=h
 exact ⟨c,hI.chg⟩
theorem Xtr.eval (h:Xtr m n W C0 a0 done a w) (hd:d≠16/\d≠76/\d≠79/\d≠81/\d≠83/\d≠85/\d≠87):a.eval (.tmp d)=a0.eval (.tmp d):=by
 obtain ⟨f,c,hI⟩:=h
 rw [hI.act]
 refine X0l (fun i hi=>?_)
 have:=hI.sub i hi
 simp only [List.mem_cons,List.mem_nil_iff,or_false] at this
 rcases this with rfl|rfl|rfl|rfl|rfl|rfl|rfl<;>(simp [Xza];omega)
theorem X1e:∀ i∈[1,4,6,8,10,12,14],∀ j∈[1,4,6,8,10,12,14],Xza i=Xza j->i=j:=δ
theorem Xtr.ends (h:Xtr m n W C0 a0 done a w) (hc:∀ i∈[1,4,6,8,10,12],i∈done):∃ l,(l=[14,12,10,8,6,4,1]\/l=[12,10,8,6,4,1])/\(∀ i,done.contains i=l.contains i)/\∃ f c,NwI m n W C0 a0 l a w f c:=by
 obtain ⟨f,c,hI⟩:=h
 have aB:∀ l:List Nat,l.Nodup->(∀ i,i∈done↔i∈l)->(∀ i,done.contains i=l.contains i)/\∃ f c,NwI m n W C0 a0 l a w f c:=fun l hl hm=>by
  have hp:done.Perm l:=(List.perm_ext_iff_of_nodup hI.nd hl).2 hm
  refine ⟨fun i=>?_,f,c,?_,hl,fun i hi=>hI.sub i ((hm i).2 hi),hI.chg,hI.hi,fun i hi=>hI.fact i ((hm i).2 hi)⟩
  ·rw [Bool.eq_iff_iff]
   simp only [List.contains_iff_mem]
   exact hm i
  ·rw [hI.act]
   exact X0t hp (fun i hi j hj=>X1e i (hI.sub i hi) j (hI.sub j hj))
 by_cases aA:14∈done
 ·refine ⟨_,.inl rfl,aB _ δ (fun i=>⟨fun hi=>?_,fun hi=>?_⟩)⟩
  ·have:=hI.sub i hi
   simp only [List.mem_cons,List.mem_nil_iff,or_false] at this ⊢
   omega
  ·simp only [List.mem_cons,List.mem_nil_iff,or_false] at hi
   rcases hi with rfl|rfl|rfl|rfl|rfl|rfl|rfl
   ·exact aA
   all_goals exact hc _ δ
 ·refine ⟨_,.inr rfl,aB _ δ (fun i=>⟨fun hi=>?_,fun hi=>?_⟩)⟩
  ·have:=hI.sub i hi
   have aC:i≠14:=fun e=>aA (by rw [<-e];exact hi)
   simp only [List.mem_cons,List.mem_nil_iff,or_false] at this ⊢
   omega
  ·simp only [List.mem_cons,List.mem_nil_iff,or_false] at hi
   rcases hi with rfl|rfl|rfl|rfl|rfl|rfl
   all_goals exact hc _ δ
def Xsu (c:Cod):List Cal->Int
 | []=>0
 | x::l=>if Yd c x 0=0 then Xsu c l else Yd c x 0
def Xsx (c:Cod):List (List Cal)->Int
 | []=>0
 | l::r=>if Xsu c l=0 then Xsx c r else Xsu c l
theorem Xt6 :∀ {l:List Cal},(∀ y∈l,Yd c y 0=0)->Xsu c l=0
 | [],_=>rfl
 | x::l,h=>by
  unfold Xsu
  rw [if_pos (h x ψ)]
  exact Xt6 (fun y hy=>h y (by simp [hy]))
theorem Xv6 :∀ {l:List Cal} {p:Nat} {x:Cal},l[p]?=some x->(∀ y∈l.take p,Yd c y 0=0)->Yd c x 0≠0->Xsu c l=Yd c x 0
 | [],_,_,h,_,_=>by simp at h
 | z::l,0,x,h,_,hx=>by
  simp at h
  subst h
  unfold Xsu
  rw [if_neg hx]
 | z::l,p+1,x,h,hall,hx=>by
  unfold Xsu
  rw [if_pos (hall z ψ)]
  exact Xv6 (by simpa using h) (fun y hy=>hall y (by simp [hy])) hx
theorem Xua :∀ {cs:List (List Cal)},(∀ l∈cs,∀ y∈l,Yd c y 0=0)->Xsx c cs=0
 | [],_=>rfl
 | l::r,h=>by
  unfold Xsx
  rw [if_pos (Xt6 (h l ψ))]
  exact Xua (fun l' hl=>h l' (by simp [hl]))
theorem Xw0 :∀ {cs:List (List Cal)} {k:Nat} {l:List Cal} {p:Nat} {x:Cal},cs[k]?=some l->(∀ z∈cs.take k,∀ y∈z,Yd c y 0=0)->l[p]?=some x->(∀ y∈l.take p,Yd c y 0=0)->Yd c x 0≠0->Xsx c cs=Yd c x 0
 | [],_,_,_,_,h,_,_,_,_=>by simp at h
 | z::r,0,l,p,x,h,_,hp,hl,hx=>by
  simp at h
  subst h
  have e:=Xv6 hp hl hx
  unfold Xsx
  rw [if_neg (by rw [e];exact hx),e]
 | z::r,k+1,l,p,x,h,hall,hp,hl,hx=>by
  unfold Xsx
  rw [if_pos (Xt6 (hall z ψ))]
  exact Xw0 (by simpa using h) (fun y hy=>hall y (by simp [hy])) hp hl hx
theorem Xur :∀ {l:List Cal},Xsu c l=0->∀ y∈l,Yd c y 0=0
 | [],_,_,hy=>by cases hy
 | x::l,h,y,hy=>by
  unfold Xsu at h
  split at h
  ·rename_i h0
   rcases List.mem_cons.1 hy with rfl|hy
   ·exact h0
   ·exact Xur h y hy
  ·rename_i h0
   exact absurd h h0
theorem Xx2 :∀ {cs:List (List Cal)},Xsx c cs=0->∀ l∈cs,∀ y∈l,Yd c y 0=0
 | [],_,_,hl=>by cases hl
 | x::r,h,l,hl=>by
  unfold Xsx at h
  split at h
  ·rename_i h0
   rcases List.mem_cons.1 hl with rfl|hl
   ·exact Xur h0
   ·exact Xx2 h l hl
  ·rename_i h0
   exact absurd h h0
noncomputable def Xs9 (c:Cod) (m:Mm) (cs:List (List Cal)) (fuel:Int):Int:=
 if ¬(Xa2 c=true/\Q7 c m=true) then 1 else if fuel<0\/1048576<fuel then 2 else if cs.length=0 then 3 else if 8<cs.length\/cs.any (fun l=>decide (2000<(l.length:Int)))=true then 4 else Xsx c cs
def Xut (c:Cod) (m:Mm) (cs:List (List Cal)) (fuel:Int) (w:World) (e:Ending) (w':World):Prop:=Below w.heap.size w w'/\
 ((Xs9 c m cs fuel≠0/\e=.returned (.tuple #[.agg Bz,ι (Xs9 c m cs fuel)]))\/
 (Xs9 c m cs fuel=0/\∃ v,e=.returned (.tuple #[v,ι 0])/\Xsd w'.heap.size w' v (Xtb m fuel cs)))
theorem X2w (ht:t<n) (hv:(Xtv ν Xl)[j]?=some v):(madeCells X1w (n*9)).toList[t*9+j]?=some v:=by
 have hj:j<9:=(Ll hv)
 have aA:t*9+j<n*9:=by
  have:(t+1)*9<=n*9:=Nat.mul_le_mul_right 9 ht
  omega
 have hm:(t*9+j) % 9=j:=ω
 rw [Array.getElem?_toList]
 unfold madeCells
 rw [Array.getElem?_map,Array.getElem?_range,if_pos aA]
 show some (X1w[(t*9+j) % 9]!)=some v
 rw [hm]
 rw [<-hv]
 match j,hj with
 | 0,_=>rfl
 | 1,_=>rfl
 | 2,_=>rfl
 | 3,_=>rfl
 | 4,_=>rfl
 | 5,_=>rfl
 | 6,_=>rfl
 | 7,_=>rfl
 | 8,_=>rfl
theorem X2k:Xt0 Xl:=by
 unfold Xt0 Rq.wf Xl in64
 simp
theorem Xy8 (ht:t<n):(madeCells #[Value.slice none 0 0] (n*1)).toList[t]?=some ν:=by
 rw [Nat.mul_one,toList_madeCells_one,List.getElem?_replicate,if_pos ht]
def Xy9 (m:Mm) (n:Nat) (fuel:Int):Thr:=⟨m,fuel,List.replicate n Xl,List.replicate n 0,[],List.replicate n [],List.replicate n [],List.replicate n [],0⟩
theorem Xxv {α:Type} {x y:α} (h:(List.replicate n x)[t]?=some y):t<n/\y=x:=⟨by simpa using (Ll h),Xvn h⟩
theorem X3a {c:Clr} {bo:Nat} {gv nv rv kv ov bv ev:Value} {nx:List Value} (hM:Xxp w c m gv nv nx) (hr:V3 w c 4 51 9 rv n (madeCells X1w (n*9)).toList) (hk:V3 w c 5 3 1 kv n (madeCells #[ι 0] (n*1)).toList) (ho:V3 w c 7 78 1 ov n (madeCells #[ν] (n*1)).toList)
  (hb:V3 w c 8 22 1 bv n (madeCells #[ν] (n*1)).toList) (he:V3 w c 9 22 1 ev n (madeCells #[ν] (n*1)).toList) (hbox:w.heap[bo]?=some (χ #[gv,nv,ι fuel,rv,kv,ν,ov,bv,ev,ι 0] 34 (0,0))) (hbc:c bo=1) (f64:in64 fuel):V2 w c bo (Xy9 m n fuel):=by
 refine ⟨⟨gv,nv,rv,kv,ν,ov,bv,ev,nx,(madeCells X1w (n*9)).toList,[],(madeCells #[ν] (n*1)).toList,(madeCells #[ν] (n*1)).toList,(madeCells #[ν] (n*1)).toList⟩,⟨hM.hi,fun _=>hM.g,fun _=>hM.n,fun i x hx=>?_,fun _=>?_,fun t m' hm=>?_,fun _=>?_,fun _=>V3.nil _ _ _ _ _,fun t l hl=>?_,fun _=>?_,fun t l hl=>?_,fun _=>?_,fun t l hl=>?_,fun _=>?_,fun t l hl=>?_,f64,by show in64 0;unfold in64;omega⟩,⟨hbox,hbc⟩⟩
 ·obtain ⟨lv,h1,h2,h3,h4⟩:=hM.nn i x hx
  exact ⟨lv,h1,h2,h3,fun _=>h4⟩
 ·show V3 w c 4 51 9 rv (List.replicate n Xl).length _
  rw [List.length_replicate];exact hr
 ·obtain ⟨ht,rfl⟩:=Xxv hm
  exact ⟨ν,fun j v hv=>X2w ht hv,⟨none,0,rfl,by simp [Xl],by simp [Xl],ω,.inl rfl⟩,X2k⟩
 ·refine ⟨?_,fun y hy=>?_⟩
  ·show V3 w c 5 3 1 kv (List.replicate n (0:Int)).length ((List.replicate n (0:Int)).map (Value.int .i64))
   rw [List.length_replicate,List.map_replicate]
   rw [Nat.mul_one,toList_madeCells_one] at hk
   exact hk
  ·have:y=0:=(List.mem_replicate.1 hy).2
   subst this;unfold in64;omega
 ·cases hl
 ·show V3 w c 7 78 1 ov (List.replicate n ([]:List Xr7)).length _
  rw [List.length_replicate];exact ho
 ·obtain ⟨ht,rfl⟩:=Xxv hl
  exact ⟨ν,Xy8 ht,fun _=>⟨V3.nil _ _ _ _ _,ψ⟩⟩
 ·show V3 w c 8 22 1 bv (List.replicate n ([]:List Int)).length _
  rw [List.length_replicate];exact hb
 ·obtain ⟨ht,rfl⟩:=Xxv hl
  exact ⟨ν,Xy8 ht,fun _=>⟨V3.nil _ _ _ _ _,ψ⟩⟩
 ·show V3 w c 9 22 1 ev (List.replicate n ([]:List Int)).length _
  rw [List.length_replicate];exact he
 ·obtain ⟨ht,rfl⟩:=Xxv hl
  exact ⟨ν,Xy8 ht,fun _=>⟨V3.nil _ _ _ _ _,ψ⟩⟩
structure X19 (m:Mm) (cs:List (List Cal)) (fuel:Int) (W:World) (C0:Clr) (bo k:Nat) (wr:World) (c:Clr):Prop where
 st:V2 wr c bo { Xy9 m cs.length fuel with calls:=cs.take k }
 chg:Chg NZ C0 c W wr
theorem NwI.built {c:Clr} (h:NwI m n W C0 a0 l a w f c) (h1:1∈l) (h4:4∈l) (h6:6∈l) (h8:8∈l) (h10:10∈l) (h12:12∈l):∃ ga gc ma mc ra rc ka kc oa oc ba bc ea ec,f 1=.agg (Bm ga gc ma mc m)/\f 4=σ ra n rc/\f 6=σ ka n kc/\f 8=σ oa n oc/\f 10=σ ba n bc/\f 12=σ ea n ec/\
  ∀ (w1:World) (c1:Clr) bo fuel,Chg NO c c1 w w1->(∀ b,w1.heap.size<=b->c1 b=0)->w1.heap[bo]?=some (χ Bz 34 (0,0))->c1 bo=1->in64 fuel->
   V2 (Xr6 w1 bo (σ ga m.globals.length gc) (σ ma m.nodes.length mc) (ι fuel) (σ ra n rc) (σ ka n kc) ν (σ oa n oc) (σ ba n bc) (σ ea n ec) (ι 0)) c1 bo (Xy9 m n fuel)/\Chg NZ C0 c1 W (Xr6 w1 bo (σ ga m.globals.length gc) (σ ma m.nodes.length mc) (ι fuel) (σ ra n rc) (σ ka n kc) ν (σ oa n oc) (σ ba n bc) (σ ea n ec) (ι 0)):=by
 obtain ⟨ga,gc,ma,mc,nx,e1,hM⟩:=(h.fact 1 h1).m rfl
 have r4:=(h.fact 4 h4).r rfl
 have r6:=(h.fact 6 h6).k rfl
 have r8:=(h.fact 8 h8).o rfl
 have aE:=(h.fact 10 h10).b rfl
 have aF:=(h.fact 12 h12).e rfl
 obtain ⟨ra,rc,e4,-⟩:=r4.form
 obtain ⟨ka,kc,e6,-⟩:=r6.form
 obtain ⟨oa,oc,e8,-⟩:=r8.form
 obtain ⟨ba,bc,aG,-⟩:=aE.form
 obtain ⟨ea,ec,aH,-⟩:=aF.form
 rw [e4] at r4
 rw [e6] at r6
 rw [e8] at r8
 rw [aG] at aE
 rw [aH] at aF
 refine ⟨ga,gc,ma,mc,ra,rc,ka,kc,oa,oc,ba,bc,ea,ec,e1,e4,e6,e8,aG,aH,fun w1 c1 bo fuel hC aJ aC aI hf=>?_⟩
 obtain ⟨V,hV⟩:∃ V,V=Xr6 w1 bo (σ ga m.globals.length gc) (σ ma m.nodes.length mc) (ι fuel) (σ ra n rc) (σ ka n kc) ν (σ oa n oc) (σ ba n bc) (σ ea n ec) (ι 0):=⟨_,rfl⟩
 have hP:Chg (fun t=>t=1) c1 c1 w1 V:=by rw [hV];exact Xs2 aI ω
 have hz:V.heap.size=w1.heap.size:=by rw [hV,Xtg]
 have aD:∀ b,V.heap.size<=b->c1 b=0:=fun b hb=>aJ b (by rw [<-hz];exact hb)
 have aB:=hM.keep hC aJ (fun t ht=>ht.elim)
 have aK:Xxp V c1 m (σ ga m.globals.length gc) (σ ma m.nodes.length mc) nx:=⟨aD,aB.g.keep hP δ,aB.n.keep hP δ,fun i x hx=>by
  obtain ⟨lv,k1,k2,k3,k4⟩:=aB.nn i x hx
  exact ⟨lv,k1,k2,k3,k4.keep hP ω⟩⟩
 have aA:=V4 aC (σ ga m.globals.length gc) (σ ma m.nodes.length mc) (ι fuel) (σ ra n rc) (σ ka n kc) ν (σ oa n oc) (σ ba n bc) (σ ea n ec) (ι 0)
 rw [<-hV] at aA ⊢
 exact ⟨X3a aK ((r4.keep hC (no _)).keep hP δ) ((r6.keep hC (no _)).keep hP δ) ((r8.keep hC (no _)).keep hP δ) ((aE.keep hC (no _)).keep hP δ) ((aF.keep hC (no _)).keep hP δ) aA aI hf,(h.chg.nz.trans hC.nz).trans (hP.nz δ)⟩
theorem Xyu:Zn 48:=fun _ _=>by kernel_rfl
theorem X2m (B:Nat) (w:World):∀ (x:List Cal) (w1:World) (av:Value),Below w.heap.size w w1->Xxk B w1 av x->Calls Tryz.prog 48 (#[av]++#[]) w1 (fun e w2=>e=.returned (.bool (decide (2000<(x.length:Int))))/\Below w1.heap.size w1 w2):=by
 rintro x w1 av _ hx
 have hl:x.length<=140737488355328:=by
  obtain ⟨_,_,_,h,_⟩:=hx
  exact h
 obtain ⟨a,cap,rfl⟩:=Xf.form hx
 clear hx
 show Calls Tryz.prog 48 #[σ a x.length cap] w1 _
 go_enter Tryz.func48,Tryz.ntmps48
 go_wp2_with fail
 go_ret
 exact ⟨rfl,Below.refl _ _⟩
theorem X1x (h:Xa2 c=false\/Q7 c m=false):Xs9 c m cs fuel=1:=by
 unfold Xs9
 rw [if_pos (fun k=>by rcases h with h|h;rw [h] at k;cases k.1;rw [h] at k;cases k.2)]
theorem X1t (h:Xa2 c=true/\Q7 c m=true) (hf:fuel<0\/1048576<fuel):Xs9 c m cs fuel=2:=by
 unfold Xs9
 rw [if_neg (fun k=>k h),if_pos hf]
theorem X29 (h:Xa2 c=true/\Q7 c m=true) (hf:0<=fuel/\fuel<=1048576) (h0:cs.length=0):Xs9 c m cs fuel=3:=by
 unfold Xs9
 rw [if_neg (fun k=>k h),if_neg ω,if_pos h0]
theorem X08 (h:Xa2 c=true/\Q7 c m=true) (hf:0<=fuel/\fuel<=1048576) (h0:cs.length≠0) (h8:8<cs.length\/cs.any (fun l=>decide (2000<(l.length:Int)))=true):Xs9 c m cs fuel=4:=by
 unfold Xs9
 rw [if_neg (fun k=>k h),if_neg ω,if_neg h0,if_pos h8]
theorem X3h (h:Xa2 c=true/\Q7 c m=true) (hf:0<=fuel/\fuel<=1048576) (h0:cs.length≠0) (h8:cs.length<=8) (ha:cs.any (fun l=>decide (2000<(l.length:Int)))=false):Xs9 c m cs fuel=Xsx c cs:=by
 unfold Xs9
 rw [if_neg (fun k=>k h),if_neg ω,if_neg h0,if_neg (fun k=>by rcases k with k|k;omega;rw [ha] at k;cases k)]
structure X38 (m:Mm) (cs:List (List Cal)):Prop where
 g:m.globals.length<=1000000
 n:m.nodes.length<=4096
 f:∀ x∈m.nodes,x.f.length<=1000000
 a:∀ l∈cs,∀ x∈l,x.args.length<=1000000
theorem X1o (cd:Cod) (m:Mm) (cs:List (List Cal)) (fuel:Int) (cv mv lv:Value) (w:World) (hL:Qa w) (hc:Yj w.heap.size w cv cd) (hm:MmV w.heap.size w mv m) (hl:Xf w.heap.size w 1 (Xsa 2 (Xsr w.heap.size) w.heap.size) lv cs) (f64:in64 fuel) (ok:X38 m cs) :
  Calls Tryz.prog 12 #[cv,mv,lv,ι fuel] w (Xut cd m cs fuel w):=by
 obtain ⟨fv,gv,rfl,hf,hg,dI⟩:=id hc
 obtain ⟨fa,fc,rfl⟩:=hf.form
 obtain ⟨qa,qc,rfl⟩:=hg.form
 obtain ⟨fW,gB,rfl,eQ,eR⟩:=id hm
 obtain ⟨ga,gc,rfl⟩:=eQ.form
 obtain ⟨ma,mc,rfl⟩:=eR.form
 have fP:cs.length<=140737488355328:=by
  obtain ⟨_,_,_,h,_⟩:=hl
  exact h
 obtain ⟨la,lc,rfl⟩:=hl.form
 have HC:=Lh hc
 have HM:=Lh hm
 have HL:=Lh hL
 have dZ:=Lh hl
 have OK:=Lh ok
 have dT:=Lh f64
 obtain ⟨W,hW⟩:∃ W,W=((w.alloc (χ (Bc fa fc qa qc cd) 25)).alloc (χ (Bm ga gc ma mc m) 28)).alloc (χ Bz 34):=⟨_,rfl⟩
 have eI:Hid (Below w.heap.size w W):=by rw [hW];exact Lh (((Xa _ _).then (Xa _ _)).then (Xa _ _))
 have eS:Hid (W.heap.size=w.heap.size+3):=by rw [hW];exact Lh ψ
 have R0:Hid (W.heap[w.heap.size]?=some (χ (Bc fa fc qa qc cd) 25 (0,0))):=Lh (by
  rw [hW,Ha _ _ _ φ,Ha _ _ _ ψ]
  exact Hn _ _)
 have R1:Hid (W.heap[w.heap.size+1]?=some (χ (Bm ga gc ma mc m) 28 (0,0))):=Lh (by
  rw [hW,Ha _ _ _ ψ]
  have:=Hn (w.alloc (χ (Bc fa fc qa qc cd) 25)) (χ (Bm ga gc ma mc m) 28)
  rw [show (w.alloc (χ (Bc fa fc qa qc cd) 25)).heap.size=w.heap.size+1 by simp] at this
  exact this)
 have R2:Hid (W.heap[w.heap.size+1+1]?=some (χ Bz 34 (0,0))):=Lh (by
  rw [hW]
  have:=Hn ((w.alloc (χ (Bc fa fc qa qc cd) 25)).alloc (χ (Bm ga gc ma mc m) 28)) (χ Bz 34)
  rw [show ((w.alloc (χ (Bc fa fc qa qc cd) 25)).alloc (χ (Bm ga gc ma mc m) 28)).heap.size=w.heap.size+1+1 by simp] at this
  exact this)
 have HK:Hid (∀ V,Below W.heap.size W V->(V.cell? (π w.heap.size 0)=some (σ fa cd.fields.length fc)/\V.cell? (π w.heap.size 1)=some (ι cd.globals)/\V.cell? (π w.heap.size 2)=some (σ qa cd.funcs.length qc)/\w.heap.size<V.heap.size)/\(V.cell? (π (w.heap.size+1) 0)=some (σ ga m.globals.length gc)/\V.cell? (π (w.heap.size+1) 1)=some (σ ma m.nodes.length mc)/\w.heap.size+1<V.heap.size)/\V.heap[w.heap.size+1+1]?=some (χ Bz 34 (0,0))/\w.heap.size+1+1<V.heap.size):=Lh (fun V hV=>by
  have h:=eS.o
  have h0:=(hV.block w.heap.size ω).trans R0.o
  have h1:=(hV.block (w.heap.size+1) ω).trans R1.o
  have h2:=(hV.block (w.heap.size+1+1) ω).trans R2.o
  exact ⟨⟨Cr h0 rfl,Cr h0 rfl,Cr h0 rfl,(La h0)⟩,⟨Cr h1 rfl,Cr h1 rfl,(La h1)⟩,h2,(La h2)⟩)
 have HT:Hid (∀ V,Below W.heap.size W V->Qa V/\Yj w.heap.size V (.agg (Bc fa fc qa qc cd)) cd/\MmV w.heap.size V (.agg (Bm ga gc ma mc m)) m/\Xf w.heap.size V 1 (Xsa 2 (Xsr w.heap.size) w.heap.size) (σ la cs.length lc) cs/\Below w.heap.size w V):=Lh (fun V hV=>by
  have hb:=eI.o.then hV
  exact ⟨HL.o.below hb,HC.o.below hb,HM.o.below hb,dZ.o.calss hb,hb⟩)
 have HZ:Hid (∀ V,Below W.heap.size W V->w.heap.size<=V.heap.size):=Lh (fun V hV=>(eI.o.then hV).size)
 clear hf hg dI hL hc hm hl eQ eR ok f64
 obtain ⟨⟨c0,c1,c2,zc⟩,⟨g0,g1,zg⟩,-,-⟩:=HK.o W Br
 go_enter Tryz.func12,Tryz.ntmps12
 go_upto_region 1 with fail
 rw [<-hW]
 have HW:=Lh hW
 clear hW
 go_wp2_with fail
 refine (Xw2 cd _ w.heap.size W (HT.o W Br).1 (HZ.o W Br) (HT.o W Br).2.1).mono ?_
 rintro e w1 ⟨rfl,eK⟩
 have aQ:=Lh eK
 clear c0 c1 c2 zc g0 g1 zg eK
 cases cP:Xa2 cd with
 | false=>
  have dD:=Lh cP
  clear cP
  obtain ⟨-,-,-,zR⟩:=HK.o w1 aQ.o
  have aA:Hid (Xut cd m cs fuel w (.returned (.tuple #[.agg Bz,ι 1])) (Xr6 w1 (w.heap.size+1+1) ν ν (ι 0) ν ν ν ν ν ν (ι 0))):=Lh ⟨V0 (HT.o w1 aQ.o).2.2.2.2 ω (HT.o w1 aQ.o).2.2.2.2.size ν ν (ι 0) ν ν ν ν ν ν (ι 0),.inl (by
   have he:Xs9 cd m cs fuel=1:=X1x (.inl dD.o)
   rw [he]
   exact ⟨ω,rfl⟩)⟩
  have aB:=(HK.o w1 aQ.o).2.2.1
  have aG:=Lh aB
  obtain ⟨⟨y0,y1,y2,y3,y4,y5,y6,y7,y8,y9⟩,⟨z0,z1,z2,z3,z4,z5,z6,z7,z8,z9⟩,zz⟩:=ten aB
  clear aB
  go_wp2_with fail
  exact bodyPost_ret (V9 (p:=8) (u:=9) rfl (V4 aG.o ν ν (ι 0) ν ν ν ν ν ν (ι 0)) _ rfl rfl) rfl aA.o
 | true=>
 have dD:=Lh cP
 clear cP
 obtain ⟨⟨c0,c1,c2,zc⟩,⟨g0,g1,zg⟩,-,-⟩:=HK.o w1 aQ.o
 go_wp2_with fail
 refine (Xxh cd _ m _ w.heap.size w1 (HZ.o w1 aQ.o) (HT.o w1 aQ.o).2.1 (HT.o w1 aQ.o).2.2.1).mono ?_
 rintro e w2 ⟨rfl,bW⟩
 have aF:=Lh (aQ.o.then bW)
 clear c0 c1 c2 zc g0 g1 zg bW
 cases cN:Q7 cd m with
 | false=>
  have eX:=Lh cN
  clear cN
  obtain ⟨-,-,-,zR⟩:=HK.o w2 aF.o
  have aA:Hid (Xut cd m cs fuel w (.returned (.tuple #[.agg Bz,ι 1])) (Xr6 w2 (w.heap.size+1+1) ν ν (ι 0) ν ν ν ν ν ν (ι 0))):=Lh ⟨V0 (HT.o w2 aF.o).2.2.2.2 ω (HT.o w2 aF.o).2.2.2.2.size ν ν (ι 0) ν ν ν ν ν ν (ι 0),.inl (by
   have he:Xs9 cd m cs fuel=1:=X1x (.inr eX.o)
   rw [he]
   exact ⟨ω,rfl⟩)⟩
  have aB:=(HK.o w2 aF.o).2.2.1
  have aG:=Lh aB
  obtain ⟨⟨y0,y1,y2,y3,y4,y5,y6,y7,y8,y9⟩,⟨z0,z1,z2,z3,z4,z5,z6,z7,z8,z9⟩,zz⟩:=ten aB
  clear aB
  go_wp2_with fail
  exact bodyPost_ret (V9 (p:=8) (u:=9) rfl (V4 aG.o ν ν (ι 0) ν ν ν ν ν ν (ι 0)) _ rfl rfl) rfl aA.o
 | true=>
 have bL:=Lh (And.intro dD.o cN)
 clear cN
 by_cases fK:fuel<0
 ·have dB:=Lh fK
  obtain ⟨-,-,-,zR⟩:=HK.o w2 aF.o
  have aA:Hid (Xut cd m cs fuel w (.returned (.tuple #[.agg Bz,ι 2])) (Xr6 w2 (w.heap.size+1+1) ν ν (ι 0) ν ν ν ν ν ν (ι 0))):=Lh ⟨V0 (HT.o w2 aF.o).2.2.2.2 ω (HT.o w2 aF.o).2.2.2.2.size ν ν (ι 0) ν ν ν ν ν ν (ι 0),.inl (by
   have he:Xs9 cd m cs fuel=2:=X1t bL.o (.inl dB.o)
   rw [he]
   exact ⟨ω,rfl⟩)⟩
  have aB:=(HK.o w2 aF.o).2.2.1
  have aG:=Lh aB
  obtain ⟨⟨y0,y1,y2,y3,y4,y5,y6,y7,y8,y9⟩,⟨z0,z1,z2,z3,z4,z5,z6,z7,z8,z9⟩,zz⟩:=ten aB
  clear aB
  go_wp2_with fail
  exact bodyPost_ret (V9 (p:=8) (u:=9) rfl (V4 aG.o ν ν (ι 0) ν ν ν ν ν ν (ι 0)) _ rfl rfl) rfl aA.o
 by_cases fL:1048576<fuel
 ·have dB:=Lh fL
  obtain ⟨-,-,-,zR⟩:=HK.o w2 aF.o
  have aA:Hid (Xut cd m cs fuel w (.returned (.tuple #[.agg Bz,ι 2])) (Xr6 w2 (w.heap.size+1+1) ν ν (ι 0) ν ν ν ν ν ν (ι 0))):=Lh ⟨V0 (HT.o w2 aF.o).2.2.2.2 ω (HT.o w2 aF.o).2.2.2.2.size ν ν (ι 0) ν ν ν ν ν ν (ι 0),.inl (by
   have he:Xs9 cd m cs fuel=2:=X1t bL.o (.inr dB.o)
   rw [he]
   exact ⟨ω,rfl⟩)⟩
  have aB:=(HK.o w2 aF.o).2.2.1
  have aG:=Lh aB
  obtain ⟨⟨y0,y1,y2,y3,y4,y5,y6,y7,y8,y9⟩,⟨z0,z1,z2,z3,z4,z5,z6,z7,z8,z9⟩,zz⟩:=ten aB
  clear aB
  go_wp2_with fail
  exact bodyPost_ret (V9 (p:=8) (u:=9) rfl (V4 aG.o ν ν (ι 0) ν ν ν ν ν ν (ι 0)) _ rfl rfl) rfl aA.o
 have cD:Hid (0<=fuel/\fuel<=1048576):=Lh ω
 by_cases hz:cs.length=0
 ·have bR:=Lh hz
  have fS:((cs.length:Int) == 0)=true:=by simp [hz]
  clear hz
  obtain ⟨-,-,-,zR⟩:=HK.o w2 aF.o
  have aA:Hid (Xut cd m cs fuel w (.returned (.tuple #[.agg Bz,ι 3])) (Xr6 w2 (w.heap.size+1+1) ν ν (ι 0) ν ν ν ν ν ν (ι 0))):=Lh ⟨V0 (HT.o w2 aF.o).2.2.2.2 ω (HT.o w2 aF.o).2.2.2.2.size ν ν (ι 0) ν ν ν ν ν ν (ι 0),.inl (by
   have he:Xs9 cd m cs fuel=3:=X29 bL.o cD.o bR.o
   rw [he]
   exact ⟨ω,rfl⟩)⟩
  have aB:=(HK.o w2 aF.o).2.2.1
  have aG:=Lh aB
  obtain ⟨⟨y0,y1,y2,y3,y4,y5,y6,y7,y8,y9⟩,⟨z0,z1,z2,z3,z4,z5,z6,z7,z8,z9⟩,zz⟩:=ten aB
  clear aB
  go_wp2_with fail
  exact bodyPost_ret (V9 (p:=8) (u:=9) rfl (V4 aG.o ν ν (ι 0) ν ν ν ν ν ν (ι 0)) _ rfl rfl) rfl aA.o
 have bR:=Lh hz
 have fS:((cs.length:Int) == 0)=false:=by simp [hz]
 clear hz
 by_cases h8:8<(cs.length:Int)
 ·have H8:=Lh h8
  obtain ⟨-,-,-,zR⟩:=HK.o w2 aF.o
  have aA:Hid (Xut cd m cs fuel w (.returned (.tuple #[.agg Bz,ι 4])) (Xr6 w2 (w.heap.size+1+1) ν ν (ι 0) ν ν ν ν ν ν (ι 0))):=Lh ⟨V0 (HT.o w2 aF.o).2.2.2.2 ω (HT.o w2 aF.o).2.2.2.2.size ν ν (ι 0) ν ν ν ν ν ν (ι 0),.inl (by
   have he:Xs9 cd m cs fuel=4:=X08 bL.o cD.o bR.o (.inl (by have:=H8.o;omega))
   rw [he]
   exact ⟨ω,rfl⟩)⟩
  have aB:=(HK.o w2 aF.o).2.2.1
  have aG:=Lh aB
  obtain ⟨⟨y0,y1,y2,y3,y4,y5,y6,y7,y8,y9⟩,⟨z0,z1,z2,z3,z4,z5,z6,z7,z8,z9⟩,zz⟩:=ten aB
  clear aB
  go_wp2_with fail
  exact bodyPost_ret (V9 (p:=8) (u:=9) rfl (V4 aG.o ν ν (ι 0) ν ν ν ν ν ν (ι 0)) _ rfl rfl) rfl aA.o
 have H8:Hid (cs.length<=8):=Lh ω
 go_wp2_with fail
 refine (Xs0 48 #[] (fun l=>decide (2000<(l.length:Int))) cs _ w.heap.size w2 Xyu (HZ.o w2 aF.o) (HT.o w2 aF.o).2.2.2.1 (X2m w.heap.size w2)).mono ?_
 rintro e w3 ⟨rfl,eL⟩
 have bJ:=Lh (aF.o.then eL)
 clear eL
 cases ha:cs.any fun l=>decide (2000<(l.length:Int)) with
 | true=>
  have HA:=Lh ha
  clear ha
  obtain ⟨-,-,-,zR⟩:=HK.o w3 bJ.o
  have aA:Hid (Xut cd m cs fuel w (.returned (.tuple #[.agg Bz,ι 4])) (Xr6 w3 (w.heap.size+1+1) ν ν (ι 0) ν ν ν ν ν ν (ι 0))):=Lh ⟨V0 (HT.o w3 bJ.o).2.2.2.2 ω (HT.o w3 bJ.o).2.2.2.2.size ν ν (ι 0) ν ν ν ν ν ν (ι 0),.inl (by
   have he:Xs9 cd m cs fuel=4:=X08 bL.o cD.o bR.o (.inr HA.o)
   rw [he]
   exact ⟨ω,rfl⟩)⟩
  have aB:=(HK.o w3 bJ.o).2.2.1
  have aG:=Lh aB
  obtain ⟨⟨y0,y1,y2,y3,y4,y5,y6,y7,y8,y9⟩,⟨z0,z1,z2,z3,z4,z5,z6,z7,z8,z9⟩,zz⟩:=ten aB
  clear aB
  go_wp2_with fail
  exact bodyPost_ret (V9 (p:=8) (u:=9) rfl (V4 aG.o ν ν (ι 0) ν ν ν ν ν ν (ι 0)) _ rfl rfl) rfl aA.o
 | false=>
 have HA:=Lh ha
 have eB:Hid (Xs9 cd m cs fuel=Xsx cd cs):=Lh (X3h bL.o cD.o bR.o H8.o ha)
 clear ha
 go_wp2_with fail
 go_loopw [54] (fun i wr=>∃ k:Nat,k<=cs.length/\i=ι k/\Hid (Below W.heap.size W wr/\∀ l∈cs.take k,∀ y∈l,Yd cd y 0=0)) (fun i _=>cs.length - (intOf i).toNat)
 case atStart=>exact ⟨0,Nat.zero_le _,rfl,Lh ⟨bJ.o,ψ⟩⟩
 case round=>
  obtain ⟨k,hk,rfl,hs⟩:=hrel
  obtain ⟨wo,rfl⟩:∃ wo:World,wo=wr:=⟨_,rfl⟩
  by_cases dK:k<cs.length
  ·obtain ⟨l,hl⟩:∃ y,cs[k]?=some y:=⟨_,Lg dK⟩
   obtain ⟨b0,o0,rfl,dS,fT,cA,bA⟩:=(HT.o wo hs.o.1).2.2.2.1.nth hl
   have gA:l.length<=140737488355328:=by
    obtain ⟨_,_,_,h,_⟩:=bA
    exact h
   obtain ⟨xa,xc,rfl⟩:=bA.form
   rw [Nat.mul_one] at cA
   have HX:=Lh hl
   have dC:=Lh bA
   have fM:(0:Int)<=(k:Int):=In _
   have fN:(k:Int)<(cs.length:Int):=ω
   clear hl bA dS
   go_wp2_with fail
   clear cA
   go_loopw [60] (fun i wr=>∃ p:Nat,p<=l.length/\i=ι p/\Hid (Below wo.heap.size wo wr/\∀ y∈l.take p,Yd cd y 0=0)) (fun i _=>l.length - (intOf i).toNat)
   case atStart=>exact ⟨0,Nat.zero_le _,rfl,Lh ⟨Below.refl _ _,ψ⟩⟩
   case round=>
    obtain ⟨p,hp,rfl,bN⟩:=hrel
    have cY:=Lh (hs.o.1.then bN.o.1)
    by_cases fQ:p<l.length
    ·obtain ⟨x,hx⟩:∃ y,l[p]?=some y:=⟨_,Lg fQ⟩
     obtain ⟨b1,o1,rfl,fV,x0,⟨av,x1,dP⟩,fR⟩:=(dC.o.cals (bN.o.1.mono (HZ.o wo hs.o.1))).nth hx
     obtain ⟨dQ,dR,rfl⟩:=dP.form
     have eE:=Lh hx
     have eJ:∀ V,Below wr.heap.size wr V->J8 w.heap.size V (.agg #[.string x.proc,σ dQ x.args.length dR]) x:=fun V hV=>⟨_,rfl,dP.ints (hV.mono (HZ.o wr cY.o)),fR⟩
     have fG:=Lh eJ
     have fY:(0:Int)<=(p:Int):=In _
     have fZ:(p:Int)<(l.length:Int):=ω
     have zx:=Bl x0
     clear hx dP eJ fV
     go_upto_region 15 with fail
     obtain ⟨V,hV⟩:∃ V,V=wr.alloc (χ #[.string x.proc,σ dQ x.args.length dR] 80):=⟨_,rfl⟩
     have dE:Hid (Below wr.heap.size wr V):=by rw [hV];exact Lh (Xa _ _)
     have dM:V.heap[wr.heap.size]?=some (χ #[.string x.proc,σ dQ x.args.length dR] 80 (0,0)):=by rw [hV];exact Hn _ _
     have v0:=Cw dM 0 rfl
     have v1:=Cw dM 1 rfl
     have zv:=Bl v0
     have aR:=Lh (cY.o.then dE.o)
     rw [<-hV]
     clear hV dM x0 x1 zx
     obtain ⟨⟨c0,c1,c2,zc⟩,-,-,-⟩:=HK.o V aR.o
     go_wp2_with fail
     refine (Xw5 cd _ x _ w.heap.size V (HZ.o V aR.o) (HT.o V aR.o).2.1 (fG.o V dE.o)).mono ?_
     rintro e w6 ⟨rfl,dF⟩
     have cB:=Lh (aR.o.then dF)
     have eU:=Lh ((bN.o.1.then dE.o).then dF)
     clear c0 c1 c2 zc v0 v1 zv dF
     obtain ⟨ge,dJ⟩:∃ q,q=Yd cd x 0:=⟨_,rfl⟩
     rw [<-dJ]
     have dW:=Lh dJ
     clear dJ
     by_cases bZ:ge=0
     ·subst bZ
      have hn:Hid (∀ y∈l.take (p+1),Yd cd y 0=0):=Lh (fun y hy=>by
       rw [List.take_add_one,eE.o] at hy
       rcases List.mem_append.1 hy with hy|hy
       ·exact bN.o.2 y hy
       ·simp at hy;subst hy;exact dW.o.symm)
      go_wp2_with fail
      go_roundw
      case rel=>exact ⟨p+1,ω,by go_num,Lh ⟨eU.o,hn.o⟩⟩
      case measure=>simp [intOf];omega
     ·have fA:=Lh bZ
      have fX:(ge != 0)=true:=by simpa using bZ
      have fB:Hid (Xsx cd cs=ge):=Lh (by
       have h:=dW.o
       rw [h]
       exact Xw0 HX.o hs.o.2 eE.o bN.o.2 (by rw [<-h];exact bZ))
      clear bZ
      obtain ⟨-,-,-,zR⟩:=HK.o w6 cB.o
      have aA:Hid (Xut cd m cs fuel w (.returned (.tuple #[.agg Bz,ι ge])) (Xr6 w6 (w.heap.size+1+1) ν ν (ι 0) ν ν ν ν ν ν (ι 0))):=Lh ⟨V0 (HT.o w6 cB.o).2.2.2.2 ω (HT.o w6 cB.o).2.2.2.2.size ν ν (ι 0) ν ν ν ν ν ν (ι 0),.inl (by
       have he:Xs9 cd m cs fuel=ge:=by rw [eB.o];exact fB.o
       rw [he]
       exact ⟨fA.o,rfl⟩)⟩
      have aB:=(HK.o w6 cB.o).2.2.1
      have aG:=Lh aB
      obtain ⟨⟨y0,y1,y2,y3,y4,y5,y6,y7,y8,y9⟩,⟨z0,z1,z2,z3,z4,z5,z6,z7,z8,z9⟩,zz⟩:=ten aB
      clear aB
      go_wp2_with fail
      exact bodyPost_ret (V9 (p:=8) (u:=9) rfl (V4 aG.o ν ν (ι 0) ν ν ν ν ν ν (ι 0)) _ rfl rfl) rfl aA.o
    ·obtain rfl:p=l.length:=ω
     have hn:Hid (∀ z∈cs.take (k+1),∀ y∈z,Yd cd y 0=0):=Lh (fun z hz y hy=>by
      rw [List.take_add_one,HX.o] at hz
      rcases List.mem_append.1 hz with hz|hz
      ·exact hs.o.2 z hz y hy
      ·simp at hz;subst hz;exact bN.o.2 y (by rw [List.take_length];exact hy))
     go_wp2_with fail
     go_roundw
     case rel=>exact ⟨k+1,ω,by go_num,Lh ⟨cY.o,hn.o⟩⟩
     case measure=>simp [intOf];omega
  obtain rfl:k=cs.length:=ω
  have fC:Hid (∀ l∈cs,∀ y∈l,Yd cd y 0=0):=Lh (by
   have h:=hs.o.2
   rw [List.take_length] at h
   exact h)
  have eW:Hid (Xs9 cd m cs fuel=0):=Lh (by rw [eB.o];exact Xua fC.o)
  have bK:=Lh hs.o.1
  clear hs bJ aF aQ
  obtain ⟨-,⟨g0,g1,zg⟩,-,-⟩:=HK.o wo bK.o
  go_upto_region 21 with fail
  have aT:Hid (∀ (V:World) (c':Clr),Chg NO (fun b=>if b=w.heap.size+1+1 then 14 else 0) c' wo.drew V->V.cell? (π (w.heap.size+1) 0)=some (σ ga m.globals.length gc)/\V.cell? (π (w.heap.size+1) 1)=some (σ ma m.nodes.length mc)):=Lh (fun V c' h=>by
   have k0:=(HK.o wo bK.o).2.1
   exact ⟨h.cell (show wo.drew.cell? _=_ from k0.1) (no _),h.cell (show wo.drew.cell? _=_ from k0.2.1) (no _)⟩)
  have dY:Hid (∀ b,wo.drew.heap.size<=b->(fun b=>if b=w.heap.size+1+1 then 14 else 0) b=0):=Lh (fun b hb=>if_neg (by
   have h1:=bK.o.size
   have h2:=eS.o
   have h3:wo.heap.size<=b:=hb
   omega))
  have dV:Hid (∀ (V:World) (c':Clr),Chg NO (fun b=>if b=w.heap.size+1+1 then 14 else 0) c' wo.drew V->Calls Tryz.prog 50 #[.agg (Bm ga gc ma mc m)] V (Xwp m V)):=Lh (fun V c' h=>by
   have hb:Below wo.drew.heap.size wo.drew V:=⟨h.os,h.tape,h.output,h.size,fun b hb=>h.keep b hb (no _)⟩
   have bW:Below w.heap.size w V:=(HT.o wo.drew (Xh bK.o 1)).2.2.2.2.then hb
   exact Xyr m _ w.heap.size V bW.size (HM.o.below bW) OK.o.g OK.o.n OK.o.f)
  refine X6 (fun Vs=>Vs.cell? (π (w.heap.size+1) 0)=some (σ ga m.globals.length gc)/\Vs.cell? (π (w.heap.size+1) 1)=some (σ ma m.nodes.length mc)) [1,4,6,8,10,12,13,14,15] true 16 rfl κ κ ⟨g0,g1⟩ ?_
  repeat (first|(refine' Xr4.take (Eq.refl false) _ (fun wV bD=>?_) ?_;rotate_left;(try dsimp only at bD);go_simp;(try with_reducible rfl);try simp only [Ap])|refine Xr4.skip (Eq.refl true) ?_)
  refine Xr4.stop ?_
  simp only [List.nil_append,List.cons_append]
  clear g0 g1 zg
  have bP:Hid (cs.length<=1000):=Lh (by have:=H8.o;omega)
  refine' X21 (fun bS=>?_) ?_
  rotate_left
  refine Xvy ((((((((List.Perm.swap _ _ _).cons _).cons _).cons _).cons _).cons _).cons _)) ?_
  refine X0e [_,_,_,_,_,_,_] [_,_] [1,4,6,8,10,12] (Xtr m cs.length wo.drew (fun b=>if b=w.heap.size+1+1 then 14 else 0) _) (Xtr.start m cs.length wo.drew (fun b=>if b=w.heap.size+1+1 then 14 else 0) _ dY.o) ?_ ?_ ?_ ?_ ?_
  ·show List.Nodup [1,4,6,8,10,12,14,13,15]
   decide
  ·intro r hr i hi o' _
   simp only [List.mem_cons,List.mem_nil_iff,or_false] at hr hi
   rcases hr with rfl|rfl
   all_goals
    rcases hi with rfl|rfl|rfl|rfl|rfl|rfl
    all_goals kernel_rfl
  ·intro i hi
   simp only [List.mem_cons,List.mem_nil_iff,or_false] at hi
   rcases hi with rfl|rfl|rfl|rfl|rfl|rfl
   ·exact ⟨_,.head _⟩
   ·exact ⟨_,.tail _ (.head _)⟩
   ·exact ⟨_,.tail _ (.tail _ (.head _))⟩
   ·exact ⟨_,.tail _ (.tail _ (.tail _ (.head _)))⟩
   ·exact ⟨_,.tail _ (.tail _ (.tail _ (.tail _ (.head _))))⟩
   ·exact ⟨_,.tail _ (.tail _ (.tail _ (.tail _ (.tail _ (.head _)))))⟩
  ·intro p hp done a q hd hI
   rcases List.mem_cons.1 hp with rfl|hp
   ·refine X33 75 28 rfl (.agg (Bm ga gc ma mc m)) ((hI.eval δ).trans rfl) ?_
    obtain ⟨cq,aJ⟩:=hI.chg
    refine (dV.o q cq aJ).mono ?_
    rintro e w' ⟨aY,aH,bB,aI,rfl,hb,fI⟩
    refine ⟨_,rfl,.inl (aT.o w' cq (aJ.trans (Chg.of_below hb (no 0)))),hI.put hd δ (fun c hc=>?_)⟩
    obtain ⟨c',nx,hC,hM⟩:=fI c hc
    exact ⟨c',hC,hM.hi,⟨fun _=>⟨aY,aH,bB,aI,nx,rfl,hM⟩,fun e=>(by cases e),fun e=>(by cases e),fun e=>(by cases e),fun e=>(by cases e),fun e=>(by cases e),fun e=>(by cases e)⟩⟩
   rcases List.mem_cons.1 hp with rfl|hp
   ·refine Xyv 78 30 51 rfl Tryz.underlying30 Xu9 δ cs.length ((hI.eval δ).trans rfl) bP.o (fun w' aW aD=>?_)
    obtain ⟨cq,aJ⟩:=hI.chg
    obtain ⟨cr,aC,cO,-⟩:=aD (fun _=>0) 0 (fun b hb=>rfl)
    have hq:Below q.heap.size q w':=⟨aC.os,aC.tape,aC.output,aC.size,fun b hb=>aC.keep b hb (no _)⟩
    refine ⟨.inl (aT.o w' cq (aJ.trans (Chg.of_below hq (no 0)))),hI.put hd δ (fun c hc=>?_)⟩
    obtain ⟨c',hC,hh,hr⟩:=aD c 4 hc
    exact ⟨c',hC,hh,⟨fun e=>(by cases e),fun _=>hr,fun e=>(by cases e),fun e=>(by cases e),fun e=>(by cases e),fun e=>(by cases e),fun e=>(by cases e)⟩⟩
   rcases List.mem_cons.1 hp with rfl|hp
   ·refine Xyv 80 22 3 rfl Tryz.underlying22 Uc δ cs.length ((hI.eval δ).trans rfl) bP.o (fun w' aW aD=>?_)
    obtain ⟨cq,aJ⟩:=hI.chg
    obtain ⟨cr,aC,cO,-⟩:=aD (fun _=>0) 0 (fun b hb=>rfl)
    have hq:Below q.heap.size q w':=⟨aC.os,aC.tape,aC.output,aC.size,fun b hb=>aC.keep b hb (no _)⟩
    refine ⟨.inl (aT.o w' cq (aJ.trans (Chg.of_below hq (no 0)))),hI.put hd δ (fun c hc=>?_)⟩
    obtain ⟨c',hC,hh,hr⟩:=aD c 5 hc
    exact ⟨c',hC,hh,⟨fun e=>(by cases e),fun e=>(by cases e),fun _=>hr,fun e=>(by cases e),fun e=>(by cases e),fun e=>(by cases e),fun e=>(by cases e)⟩⟩
   rcases List.mem_cons.1 hp with rfl|hp
   ·refine Xyv 82 31 78 rfl Tryz.underlying31 Xxj δ cs.length ((hI.eval δ).trans rfl) bP.o (fun w' aW aD=>?_)
    obtain ⟨cq,aJ⟩:=hI.chg
    obtain ⟨cr,aC,cO,-⟩:=aD (fun _=>0) 0 (fun b hb=>rfl)
    have hq:Below q.heap.size q w':=⟨aC.os,aC.tape,aC.output,aC.size,fun b hb=>aC.keep b hb (no _)⟩
    refine ⟨.inl (aT.o w' cq (aJ.trans (Chg.of_below hq (no 0)))),hI.put hd δ (fun c hc=>?_)⟩
    obtain ⟨c',hC,hh,hr⟩:=aD c 7 hc
    exact ⟨c',hC,hh,⟨fun e=>(by cases e),fun e=>(by cases e),fun e=>(by cases e),fun _=>hr,fun e=>(by cases e),fun e=>(by cases e),fun e=>(by cases e)⟩⟩
   rcases List.mem_cons.1 hp with rfl|hp
   ·refine Xyv 84 32 22 rfl Tryz.underlying32 Xun δ cs.length ((hI.eval δ).trans rfl) bP.o (fun w' aW aD=>?_)
    obtain ⟨cq,aJ⟩:=hI.chg
    obtain ⟨cr,aC,cO,-⟩:=aD (fun _=>0) 0 (fun b hb=>rfl)
    have hq:Below q.heap.size q w':=⟨aC.os,aC.tape,aC.output,aC.size,fun b hb=>aC.keep b hb (no _)⟩
    refine ⟨.inl (aT.o w' cq (aJ.trans (Chg.of_below hq (no 0)))),hI.put hd δ (fun c hc=>?_)⟩
    obtain ⟨c',hC,hh,hr⟩:=aD c 8 hc
    exact ⟨c',hC,hh,⟨fun e=>(by cases e),fun e=>(by cases e),fun e=>(by cases e),fun e=>(by cases e),fun _=>hr,fun e=>(by cases e),fun e=>(by cases e)⟩⟩
   rcases List.mem_cons.1 hp with rfl|hp
   ·refine Xyv 86 32 22 rfl Tryz.underlying32 Xun δ cs.length ((hI.eval δ).trans rfl) bP.o (fun w' aW aD=>?_)
    obtain ⟨cq,aJ⟩:=hI.chg
    obtain ⟨cr,aC,cO,-⟩:=aD (fun _=>0) 0 (fun b hb=>rfl)
    have hq:Below q.heap.size q w':=⟨aC.os,aC.tape,aC.output,aC.size,fun b hb=>aC.keep b hb (no _)⟩
    refine ⟨.inl (aT.o w' cq (aJ.trans (Chg.of_below hq (no 0)))),hI.put hd δ (fun c hc=>?_)⟩
    obtain ⟨c',hC,hh,hr⟩:=aD c 9 hc
    exact ⟨c',hC,hh,⟨fun e=>(by cases e),fun e=>(by cases e),fun e=>(by cases e),fun e=>(by cases e),fun e=>(by cases e),fun _=>hr,fun e=>(by cases e)⟩⟩
   rcases List.mem_cons.1 hp with rfl|hp
   ·obtain ⟨cq,aJ⟩:=hI.chg
    have aE:∀ w',w'=q.alloc (χ Bz 34)->(w'.cell? (π (w.heap.size+1) 0)=some (σ ga m.globals.length gc)/\w'.cell? (π (w.heap.size+1) 1)=some (σ ma m.nodes.length mc))/\Xtr m cs.length wo.drew (fun b=>if b=w.heap.size+1+1 then 14 else 0) _ (14::done) (a.put (some 16) (.pointer (some (π q.heap.size 0)))) w':=fun w' hw=>⟨aT.o w' cq (aJ.trans (by rw [hw];exact Chg.of_below (Xa _ _) (no 0))),hI.put (i:=14) hd δ (fun c hc=>by
     obtain ⟨hC,hE,hh⟩:=Xuo (c:=c) (tag:=1) (.inl hw)
     exact ⟨_,hC,hh hc,⟨fun e=>(by cases e),fun e=>(by cases e),fun e=>(by cases e),fun e=>(by cases e),fun e=>(by cases e),fun e=>(by cases e),fun _=>⟨_,rfl,hE,if_pos rfl⟩⟩⟩)⟩
    have aS:=Lh aE
    clear aE hI hd aJ
    go_simp
    exact ⟨(aS.o _ rfl).1,(aS.o _ rfl).2⟩
   cases hp
  ·intro done a q aZ hI
   obtain ⟨l0,fO,bY,f,c,hN⟩:=hI.ends aZ
   rw [List.filter_congr (fun (p:Nat×Oper) _=>by rw [bY]:∀ p∈_,(!done.contains p.1)=!l0.contains p.1)]
   clear bY hI aZ
   rcases fO with rfl|rfl
   ·obtain ⟨aY,aH,bB,aI,ra,rc,ka,kc,oa,oc,ba,bc,ea,ec,e1,e4,e6,e8,bU,bV,aN⟩:=hN.built δ δ δ δ δ δ
    have aK:=Lh aN
    have bQ:=Lh hN.hi
    have cE:=Lh hN.chg
    clear aN
    obtain ⟨bo,eG,bX,eM⟩:=(hN.fact 14 δ).x rfl
    have bC:=Lh bX
    have bO:=Lh eM
    have aM:a=((((((((_:Act).put (some 76) (f 1)).put (some 79) (f 4)).put (some 81) (f 6)).put (some 83) (f 8)).put (some 85) (f 10)).put (some 87) (f 12)).put (some 16) (f 14)):=hN.act
    rw [e1,e4,e6,e8,bU,bV,eG] at aM
    clear bX eM e1 e4 e6 e8 bU bV eG hN
    subst aM
    refine (show Xsz _ _ _ _ _ [_,_] _ _ from ?_)
    simp only [Xt7,Act.put,List.setIfInBounds_toArray,List.set_cons_zero,List.set_cons_succ]
    (refine' Z6 κ _ (fun wV bD=>?_) ?_;rotate_left;(clear bD;go_simp);(try with_reducible rfl);try simp only [Ap])
    have aP:=aK.o q c bo fuel (Chg.of_below Br (no 0)) bQ.o bC.o bO.o dT.o
    obtain ⟨⟨y0,y1,y2,y3,y4,y5,y6,y7,y8,y9⟩,⟨z0,z1,z2,z3,z4,z5,z6,z7,z8,z9⟩,zz⟩:=ten bC.o
    have aL:=Lh aP
    clear aP
    refine X5 κ ?_
    go_simp
    refine Xr3 ?_
    clear y0 y1 y2 y3 y4 y5 y6 y7 y8 y9 z0 z1 z2 z3 z4 z5 z6 z7 z8 z9 zz
    obtain ⟨aE,bF⟩:=aL.o
    obtain ⟨Wf,aU⟩:∃ u,u=Xr6 q bo (σ aY m.globals.length aH) (σ bB m.nodes.length aI) (ι fuel) (σ ra cs.length rc) (σ ka cs.length kc) ν (σ oa cs.length oc) (σ ba cs.length bc) (σ ea cs.length ec) (ι 0):=⟨_,rfl⟩
    rw [<-aU] at aE bF
    have aS:Hid (X19 m cs fuel wo.drew (fun b=>if b=w.heap.size+1+1 then 14 else 0) bo 0 Wf c):=Lh ⟨aE,bF⟩
    unfold Xr6 at aU
    rw [<-aU]
    clear aE bF aU aL aK bC bO
    clear bQ cE
    revert aS
    revert c
    revert Wf
    revert bo
    revert ec
    revert ea
    revert bc
    revert ba
    revert oc
    revert oa
    revert kc
    revert ka
    revert rc
    revert ra
    revert aI
    revert bB
    revert aH
    revert aY
    exact bS
   ·obtain ⟨aY,aH,bB,aI,ra,rc,ka,kc,oa,oc,ba,bc,ea,ec,e1,e4,e6,e8,bU,bV,aN⟩:=hN.built δ δ δ δ δ δ
    have aK:=Lh aN
    have bQ:=Lh hN.hi
    have cE:=Lh hN.chg
    clear aN
    have aM:a=(((((((_:Act).put (some 76) (f 1)).put (some 79) (f 4)).put (some 81) (f 6)).put (some 83) (f 8)).put (some 85) (f 10)).put (some 87) (f 12)):=hN.act
    rw [e1,e4,e6,e8,bU,bV] at aM
    clear e1 e4 e6 e8 bU bV hN
    subst aM
    refine (show Xsz _ _ _ _ _ [_,_,_] _ _ from ?_)
    simp only [Xt7,Act.put,List.setIfInBounds_toArray,List.set_cons_zero,List.set_cons_succ]
    refine Xte ?_
    (refine' Z6 κ _ (fun wV bD=>?_) ?_;rotate_left;(clear bD;go_simp);(try with_reducible rfl);try simp only [Ap])
    refine X5 κ ?_
    go_simp
    obtain ⟨q2,dL⟩:∃ u,u=q.alloc (χ Bz 34):=⟨_,rfl⟩
    rw [<-dL]
    obtain ⟨bo,dG⟩:∃ b,b=q.heap.size:=⟨_,rfl⟩
    obtain ⟨hC,hE,bM⟩:=Xuo (c:=c) (tag:=1) (.inl dL)
    obtain ⟨c2,dH⟩:∃ u:Clr,u=(fun x=>if x=q.heap.size then 1 else c x):=⟨_,rfl⟩
    rw [<-dH] at hC bM
    have eN:c2 bo=1:=by rw [dH];exact if_pos dG
    rw [<-dG] at hE ⊢
    have dU:=Lh hC
    have dX:=Lh (bM bQ.o)
    have bC:=Lh hE
    have bO:=Lh eN
    have eC:=Lh (aT.o q2 c2 (cE.o.trans hC))
    clear hC hE bM eN dH dL dG
    refine ⟨eC.o,?_⟩
    have aP:=aK.o q2 c2 bo fuel dU.o dX.o bC.o bO.o dT.o
    obtain ⟨⟨y0,y1,y2,y3,y4,y5,y6,y7,y8,y9⟩,⟨z0,z1,z2,z3,z4,z5,z6,z7,z8,z9⟩,zz⟩:=ten bC.o
    have aL:=Lh aP
    clear aP
    refine X5 κ ?_
    go_simp
    refine Xr3 ?_
    clear y0 y1 y2 y3 y4 y5 y6 y7 y8 y9 z0 z1 z2 z3 z4 z5 z6 z7 z8 z9 zz
    obtain ⟨aE,bF⟩:=aL.o
    obtain ⟨Wf,aU⟩:∃ u,u=Xr6 q2 bo (σ aY m.globals.length aH) (σ bB m.nodes.length aI) (ι fuel) (σ ra cs.length rc) (σ ka cs.length kc) ν (σ oa cs.length oc) (σ ba cs.length bc) (σ ea cs.length ec) (ι 0):=⟨_,rfl⟩
    rw [<-aU] at aE bF
    have aS:Hid (X19 m cs fuel wo.drew (fun b=>if b=w.heap.size+1+1 then 14 else 0) bo 0 Wf c2):=Lh ⟨aE,bF⟩
    unfold Xr6 at aU
    rw [<-aU]
    clear aE bF aU aL aK bC bO
    clear bQ cE dU dX eC
    revert aS
    revert c2
    revert Wf
    revert bo
    revert ec
    revert ea
    revert bc
    revert ba
    revert oc
    revert oa
    revert kc
    revert ka
    revert rc
    revert ra
    revert aI
    revert bB
    revert aH
    revert aY
    exact bS
  intro aY aH bB aI ra rc ka kc oa oc ba bc ea ec bo Wf c aS
  have cZ:Hid (∀ (V:World) (c':Clr),Chg NZ (fun b=>if b=w.heap.size+1+1 then 14 else 0) c' wo.drew V->Below w.heap.size w V):=Lh (fun V c' h=>by
   have hb:=(HT.o wo.drew (Xh bK.o 1)).2.2.2.2
   exact hb.trans (h.below (B:=w.heap.size) (fun b hb=>if_neg ω) hb.size))
  have fD:Hid (∀ (V:World) (c':Clr),Chg NZ (fun b=>if b=w.heap.size+1+1 then 14 else 0) c' wo.drew V->V.heap[w.heap.size+1+1]?=some (χ Bz 34 (0,0))/\c' (w.heap.size+1+1)=14):=Lh (fun V c' h=>by
   have hk:=HK.o wo.drew (Xh bK.o 1)
   exact ⟨(h.keep _ hk.2.2.2 (by show ¬NZ (if _ then _ else _);rw [if_pos rfl];exact Xvf)).trans hk.2.2.1,(h.old _ hk.2.2.2).trans (if_pos rfl)⟩)
  clear aT dV dY
  go_wp2_with fail
  go_loopw [91] (fun i wr=>∃ k:Nat,k<=cs.length/\i=ι k/\Hid (∃ c,X19 m cs fuel wo.drew (fun b=>if b=w.heap.size+1+1 then 14 else 0) bo k wr c)) (fun i _=>cs.length - (intOf i).toNat)
  case atStart=>exact ⟨0,Nat.zero_le _,rfl,Lh ⟨_,aS.o⟩⟩
  case round=>
   obtain ⟨k,hk,rfl,aE⟩:=hrel
   obtain ⟨c,aE⟩:=aE.o
   have HS:=Lh aE
   clear aE aS
   by_cases dK:k<cs.length
   ·obtain ⟨l,hl⟩:∃ y,cs[k]?=some y:=⟨_,Lg dK⟩
    have aV:=cZ.o wr c HS.o.chg
    obtain ⟨b0,o0,rfl,dS,fT,cA,bA⟩:=(dZ.o.calss aV).nth hl
    obtain ⟨xa,xc,rfl⟩:=bA.form
    rw [Nat.mul_one] at cA
    have HX:=Lh hl
    have dC:=Lh bA
    have eZ:Hid (l.length<=2000):=Lh (by
     have h:=HA.o
     rw [List.any_eq_false] at h
     have:=h l (Lm hl)
     simp at this
     omega)
    have eA:Hid ((cs.take k).length=k):=Lh (by rw [List.length_take];omega)
    have fM:(0:Int)<=(k:Int):=In _
    have fN:(k:Int)<(cs.length:Int):=ω
    obtain ⟨bH,bI,fU,p5,dN,eP⟩:=HS.o.st.pushC
    rw [show ({ Xy9 m cs.length fuel with calls:=cs.take k }:Thr).calls.length=k from eA.o] at p5 dN
    have fE:=Lh dN
    have eY:=Lh eP
    have LB:=Lh HS.o.st.lab
    have zb:=LB.o.2.1
    clear hl bA dS aV dN eP
    go_upto_region 25 with fail
    clear cA zb
    refine X6 (fun Vs=>Vs.cell? (π bo 5)=some (σ bH k bI)) [3,4,5,7] true 8 rfl κ κ p5 ?_
    repeat (first|(refine' Xr4.take (Eq.refl false) _ (fun wV bD=>?_) ?_;rotate_left;(try dsimp only at bD);go_simp;(try with_reducible rfl);try simp only [Ap])|refine Xr4.skip (Eq.refl true) ?_)
    refine Xr4.stop ?_
    simp only [List.nil_append,List.cons_append]
    have HF:=Lh p5
    clear p5
    have eV:Hid (∀ V,Below wr.heap.size wr V->Calls Tryz.prog 51 #[σ xa l.length xc] V (Xwd l V)):=Lh (fun V hV=>by
     have aV:=cZ.o wr c HS.o.chg
     exact Xwm l (σ xa l.length xc) w.heap.size V (Nt aV.size hV.size) (dC.o.cals (hV.mono aV.size)) (by have:=eZ.o;omega) (OK.o.a l (Lm HX.o)))
    refine X5 κ ?_
    go_simp
    refine (eV.o _ (Xh Br 1)).mono ?_
    rintro e u6 ⟨cW,cX,rfl,hb,hx⟩
    have aR:Hid (Below wr.heap.size wr u6):=Lh ((Xh Br 1).then hb)
    have fH:=Lh hx
    clear hb hx
    refine ⟨Xc aR.o HF.o,?_⟩
    refine X5 κ ?_
    go_simp
    refine ⟨Xc (Xa _ _) (Xc aR.o HF.o),?_⟩
    have cC:Hid (Chg (fun t=>t=19) c c wr u6):=Lh (Chg.of_below aR.o ω)
    have eD:Hid (∀ b,u6.heap.size<=b->c b=0):=Lh (fun b hb=>LB.o.2.2.1 b (Nt aR.o.size hb))
    have eT:Hid (∀ b,(u6.alloc (χ #[σ cW l.length cX] 54)).heap.size<=b->c b=0):=Lh (fun b hb=>eD.o b (by simp at hb;omega))
    have dA:Hid (Chg (fun t=>t=19) c c wr (u6.alloc (χ #[σ cW l.length cX] 54))):=Lh (cC.o.trans (Chg.of_below (Xa _ _) ω))
    refine X5 κ ?_
    refine Xsy (fun t=>t=6) (.tmp 96) (.tmp 99) 29 54 rfl Tryz.underlying29 Xw9 rfl δ δ (c:=c) (tag:=6) (v:=σ bH k bI) (n:=k) (xs:=fU) rfl (fE.o.keep dA.o ω) (π u6.heap.size 0) 1 1 [σ cW l.length cX] rfl rfl (fun j u hu=>(Xso u6 _ _ j).trans (by simpa using hu)) (by simp [Value.oneCell']) δ (by have:=H8.o;omega) rfl δ eT.o (fun g6 bT v6 eF aO hC bM fJ=>?_)
    obtain ⟨aE,bE⟩:=eY.o u6 c v6 eF (σ cW l.length cX) l (σ (some (π g6 0)) (k+1) bT) cC.o eD.o (fH.o c (fun b hb=>LB.o.2.2.1 b hb)) ((Chg.of_below (Xa _ _) ω).trans hC) bM (by rw [show ({ Xy9 m cs.length fuel with calls:=cs.take k }:Thr).calls.length=k from eA.o];exact aO)
    have e0:=hC.cell (Xc (Xa _ _) (Xc aR.o HF.o)) (by show ¬c _=_;rw [cC.o.old _ LB.o.2.1,(LB.o.1)];omega)
    have ef:v6.frozen? (π bo 5)=false:=hC.frozen (Nl LB.o.2.1 dA.o.size) (dA.o.frozen LB.o.2.1 (LB.o.2.2.2 5) (by show ¬c bo=_;rw [LB.o.1];omega)) (by show ¬c bo=_;rw [cC.o.old _ LB.o.2.1,LB.o.1];omega)
    refine ⟨.inl e0,?_⟩
    refine X5 κ ?_
    go_simp
    refine Xr3 ?_
    obtain ⟨W6,eH⟩:∃ u,u=v6.setCell (π bo 5) (σ (some (π g6 0)) (k+1) bT):=⟨_,rfl⟩
    rw [<-eH] at aE bE ⊢
    have fF:Hid (X19 m cs fuel wo.drew (fun b=>if b=w.heap.size+1+1 then 14 else 0) bo (k+1) W6 eF):=Lh ⟨(by
     have e:({ Xy9 m cs.length fuel with calls:=cs.take k++[l] }:Thr)={ Xy9 m cs.length fuel with calls:=cs.take (k+1) }:=by
      rw [List.take_add_one,HX.o];rfl
     rw [<-e];exact aE),HS.o.chg.trans bE⟩
    clear aE bE aO hC bM fJ eH e0 ef
    go_wp2_with fail
    go_roundw
    case rel=>exact ⟨k+1,ω,by go_num,Lh ⟨_,fF.o⟩⟩
    case measure=>simp [intOf];omega
   ·obtain rfl:k=cs.length:=ω
    have aE:=HS.o.st
    rw [List.take_length] at aE
    obtain ⟨bG,eO⟩:=fD.o wr c HS.o.chg
    obtain ⟨sN,dO⟩:∃ s,s=Xtb m fuel cs:=⟨_,rfl⟩
    have aE:V2 wr c bo sN:=by rw [dO];exact aE
    obtain ⟨cL,cM,cQ,cR,cU,cV,bH,bI,cH,cI,cS,cT,cF,cG,cJ,cK,aO,aX⟩:=aE.o (n:=0) (fun b hb=>by omega) eO
    have aX:=aX.self
    have aV:=cZ.o wr c HS.o.chg
    have aA:Hid (Xut cd m cs fuel w (.returned (.tuple #[.agg (Bt cL cM cQ cR cU cV bH bI cH cI cS cT cF cG cJ cK sN),ι 0])) (Xr6 wr (w.heap.size+1+1) (σ cL sN.mem.globals.length cM) (σ cQ sN.mem.nodes.length cR) (ι sN.fuel) (σ cU sN.running.length cV) (σ bH sN.nodes.length bI) (σ cH sN.calls.length cI) (σ cS sN.results.length cT) (σ cF sN.begins.length cG) (σ cJ sN.ends.length cK) (ι sN.step))):=Lh ⟨V0 aV ω aV.size (σ cL sN.mem.globals.length cM) (σ cQ sN.mem.nodes.length cR) (ι sN.fuel) (σ cU sN.running.length cV) (σ bH sN.nodes.length bI) (σ cH sN.calls.length cI) (σ cS sN.results.length cT) (σ cF sN.begins.length cG) (σ cJ sN.ends.length cK) (ι sN.step),.inr ⟨eW.o,_,rfl,by rw [<-dO];exact aX⟩⟩
    clear dO
    obtain ⟨⟨x0,x1,x2,x3,x4,x5,x6,x7,x8,x9⟩,-,xz⟩:=ten aO
    obtain ⟨⟨y0,y1,y2,y3,y4,y5,y6,y7,y8,y9⟩,⟨z0,z1,z2,z3,z4,z5,z6,z7,z8,z9⟩,zz⟩:=ten bG
    have aG:=Lh bG
    clear bG aO aX aV eO aE
    go_wp2_with fail
    exact bodyPost_ret (V9 (p:=8) (u:=9) rfl (V4 aG.o (σ cL sN.mem.globals.length cM) (σ cQ sN.mem.nodes.length cR) (ι sN.fuel) (σ cU sN.running.length cV) (σ bH sN.nodes.length bI) (σ cH sN.calls.length cI) (σ cS sN.results.length cT) (σ cF sN.begins.length cG) (σ cJ sN.ends.length cK) (ι sN.step)) _ rfl rfl) rfl aA.o
