import Derived.Test.YtiejafonjemioaaGreatDoorInv
set_option maxHeartbeats 8000000
set_option maxRecDepth 100000
set_option linter.all false
open Go renaming World→Ϣ,Value→ϒ,Calls→ϙ,bodyPost_ret→ϖ
open Go.RowKit renaming Below→ϐ
open Option renaming some→ς
open Bool renaming false→ϝ,true→ϑ
open List renaming replicate→ϱ,mem_cons→ϰ
open Go.Value renaming slice→σ
open Go.Obj renaming cells→χ
namespace Go.Proofs.YtiejafonjemioaaGreatDoor
open Go.RowKit Proofs.Tryz
variable {a a0:Act} {sl:Nat->Nat} {f:Nat->ϒ} {d i j sz bytes fn n q x t bo:Nat} {l done:List Nat} {o:Oper} {K:Act->Ϣ->Prop} {Q:Exit->Act->Ϣ->Prop} {w w' W:Ϣ} {z v c0 c1 c2 g0 g1 lv:ϒ} {m:Mm} {c cd:AQ} {C0:A1} {S:Ϣ->Prop} {fuel:Int} {cs:List (List Bi)}
def GS (a:Act) (sl:Nat->Nat) (f:Nat->ϒ):List Nat->Act
 | []=>a
 | i::l=>(GS a sl f l).put (ς (sl i)) (f i)
def Ja (a:Act) (sl:Nat->Nat) (f:Nat->ϒ):∀ l,(GS a sl f l).tmps.size=a.tmps.size
 | []=>rfl
 | _::l=>(BQ _ _ _).trans (Ja a sl f l)
def K5 (a:Act) (sl:Nat->Nat) (f:Nat->ϒ) (d:Nat):∀ l:List Nat,(∀ i∈l,sl i≠d)->(GS a sl f l).tmps[d]?=a.tmps[d]?
 | [],_=>rfl
 | i::l,h=>by show ((GS a sl f l).put (ς (sl i)) (f i)).tmps[d]?=_;rw [A0 _ _ _ _ (λe=>h i ψ (by simpa using e))];exact K5 a sl f d l (λj b=>h j (by simp [b]))
def SA (h:∀ i∈l,sl i≠d):(GS a sl f l).eval (.tmp d)=a.eval (.tmp d):=by
 show (GS a sl f l).tmps.getD d undef=a.tmps.getD d undef;rw [Array.getD_eq_getD_getElem?,Array.getD_eq_getD_getElem?,K5 a sl f d l h]
def K4 {g:Nat->ϒ}:∀ {l:List Nat},(∀ i∈l,f i=g i)->GS a sl f l=GS a sl g l
 | [],_=>rfl
 | i::l,h=>by show (GS a sl f l).put _ _=(GS a sl g l).put _ _;rw [K4 (l:=l) (λj b=>h j (by simp [b])),h i ψ]
def O0 (a:Act) (u v:ϒ) (h:i≠j):(a.put (ς i) u).put (ς j) v=(a.put (ς j) v).put (ς i) u:=by
 refine NA rfl (λd=>?_);by_cases c:d=j
 .subst c
  rw [A0 (a.put (ς d) v) _ _ _ (λe=>h (by simpa using e))];by_cases b:d<a.tmps.size
  .rw [CA _ _ _ (by rw [BQ];exact b),CA _ _ _ b]
  .rw [Array.getElem?_eq_none (by rw [BQ,BQ];omega),Array.getElem?_eq_none (by rw [BQ];omega)]
 .rw [A0 _ _ _ _ (λe=>c (by simpa using e.symm))]
  by_cases f:d=i
  .subst f
   by_cases b:d<a.tmps.size
   .rw [CA _ _ _ b,CA _ _ _ (by rw [BQ];exact b)]
   .rw [Array.getElem?_eq_none (by rw [BQ];omega),Array.getElem?_eq_none (by rw [BQ,BQ];omega)]
  .rw [A0 _ _ _ _ (λe=>f (by simpa using e.symm)),A0 _ _ _ _ (λe=>f (by simpa using e.symm)),A0 _ _ _ _ (λe=>c (by simpa using e.symm))]
def SB {m:List Nat} (o:l.Perm m):(∀ i∈l,∀ j∈l,sl i=sl j->i=j)->GS a sl f l=GS a sl f m:=by
 induction o with
 | nil=>intro _;rfl
 | cons x _ p=>intro h;exact congrArg (λq:Act=>q.put (ς (sl x)) (f x)) (p (λi b j c=>h i (by simp [b]) j (by simp [c])))
 | swap x y l=>
  intro h;show ((GS a sl f l).put (ς (sl x)) (f x)).put (ς (sl y)) (f y)=((GS a sl f l).put (ς (sl y)) (f y)).put (ς (sl x)) (f x);by_cases e:x=y
  .subst e;rfl
  .exact O0 _ _ _ (λn=>e (h x ψ y ψ n))
 | trans k _ d g=>intro h;exact (d h).trans (g (λi b j c=>h i (k.mem_iff.2 b) j (k.mem_iff.2 c)))
def X4 (x:Nat) (t e:TypeId) (v:o.op=.makeSlice t (.tmp x) (.tmp x)) (y:prog.underlying t=ς (.slice e)) (s:(prog.info? e).map (λi=>(i.zero,i.size,i.bytes))=ς (ς z,sz,bytes)) (f:bytes<=128) (n:Nat) (A:a.eval (.tmp x)=ι (n:Int)) (u:n<=1000)
  (h:∀ w',w'.heap[(w:Nat)]?=ς (χ (madeCells z.cells (n*sz)) e (0,0))->(∀ (c:A1) d,(∀ b,(w:Nat)<=b->c b=0)->∃ g,AT NO c g w w'/\(∀ b,w'.heap.size<=b->g b=0)/\Ao w' g d e sz (σ (ς (π w 0)) n n) n (madeCells z.cells (n*sz)).toList)->K (a.put o.dst (σ (ς (π w 0)) n n)) w'):o.wp prog a w K Q:=by
 obtain ⟨k,l,m,p,q⟩:=info_parts s;have B:k.bytes*n<=128*1000:=Nat.mul_le_mul (by rw [q];exact f) u;have j:=run_make w t e k z y l m .i64 .i64 (n:Int) (n:Int) ω ω (by rw [<-Int.natCast_mul];omega) ω;simp only [Int.toNat_natCast,p] at j;have C:(World.alloc w (χ (madeCells z.cells (n*sz)) e)).heap.size=(w:Nat)+1:=by simp
 unfold Oper.wp;simp [execOp,v,A,j];refine h _ (Hn _ _) (λc d r=>⟨λx=>if x=(w:Nat) then d else c x,AT.paint _ _ (AA _ _) (Nr _),λb f=>?_,⟨World.ownsRow_lit w _ n (Nat.zero_le _) (by unfold maxLen;omega) (size_madeCells _ _),λb f=>?_,ω⟩⟩)
 .show (if _ then _ else _)=_
  rw [if_neg ω];exact r b ω
 .simp [Value.ownBlock] at f
  exact if_pos f
def X3 (x:Nat) (t:TypeId) (b:An fn) (f:o.op=.call { callee:=.value (.func fn),args:=#[.tmp x],argTypes:=#[t] }) (v:ϒ) (i:a.eval (.tmp x)=v) (h:ϙ prog fn #[v] w (λe w'=>∃ r,e=.returned r/\K (a.put o.dst r) w')):o.wp prog a w K Q:=by
 have c:a.tmps[x]?.getD undef=v:=by rw [<-Array.getD_eq_getD_getElem?];exact i
 have g:(execOp a.eval o).run prog w=.ok (.enter fn #[v]) w:=by simpa [go_sem,execOp,f,c] using b #[v] w
 unfold Oper.wp;rw [g,Oper.upon_enter];refine h.mono ?_;rintro e w' ⟨r,rfl,d⟩;exact d
def Ia (q x i:Nat):Nat:=if i=14 then x else q+(i - 1)
def SR:Array ϒ:=#[ν,ι 0,ι 0,ι 0,ι 0,ι 0,ι 0,ι 0,ι 0]
def Wc (m:Mm) (n i:Nat) (v:ϒ) (w:Ϣ) (c:A1):Prop:=
 match i with
 | 1=>∃ ga gc na nc nx,v=.agg (Bm ga gc na nc m)/\Mq w c m (σ ga m.G gc) (σ na m.N nc) nx
 | 4=>Ao w c 4 51 9 v n (madeCells SR (n*9)).toList
 | 6=>Ao w c 5 3 1 v n (madeCells #[ι 0] (n*1)).toList
 | 8=>Ao w c 7 78 1 v n (madeCells #[ν] (n*1)).toList
 | 10=>Ao w c 8 22 1 v n (madeCells #[ν] (n*1)).toList
 | 12=>Ao w c 9 22 1 v n (madeCells #[ν] (n*1)).toList
 | _=>∃ bo,v=.pointer (ς (π bo 0))/\w.heap[bo]?=ς (χ Bz 34 (0,0))/\c bo=1
def Wc.kp {c c':A1} (e:i∈[1,4,6,8,10,12,14]) (h:Wc m n i v w c) (a:AT NO c c' w w') (d:∀ b,(w':Nat)<=b->c' b=0):Wc m n i v w' c':=by
 simp only [ϰ,List.mem_nil_iff,or_false] at e;rcases e with rfl|rfl|rfl|rfl|rfl|rfl|rfl
 .obtain ⟨ga,gc,na,nc,nx,h1,h2⟩:=h
  exact ⟨ga,gc,na,nc,nx,h1,h2.kp a d (λt g=>g.elim)⟩
 .exact (show Ao _ _ _ _ _ _ _ _ from h).kp a (no _)
 .exact (show Ao _ _ _ _ _ _ _ _ from h).kp a (no _)
 .exact (show Ao _ _ _ _ _ _ _ _ from h).kp a (no _)
 .exact (show Ao _ _ _ _ _ _ _ _ from h).kp a (no _)
 .exact (show Ao _ _ _ _ _ _ _ _ from h).kp a (no _)
 .obtain ⟨bo,h1,h2,h3⟩:=h
  have f:=(La h2)
  exact ⟨bo,h1,(a.kp bo f (no _)).trans h2,(a.old bo f).trans h3⟩
structure Xl (q x:Nat) (m:Mm) (n:Nat) (W:Ϣ) (C0:A1) (a0:Act) (done:List Nat) (a:Act) (w:Ϣ) (f:Nat->ϒ) (c:A1):Prop where
 act:a=GS a0 (Ia q x) f done
 nd:done.Nodup
 sub:∀ i∈done,i∈[1,4,6,8,10,12,14]
 chg:AT NO C0 c W w
 hi:∀ b,(w:Nat)<=b->c b=0
 fact:∀ i∈done,Wc m n i (f i) w c
def Fa (q x:Nat) (m:Mm) (n:Nat) (W:Ϣ) (C0:A1) (a0:Act) (done:List Nat) (a:Act) (w:Ϣ):Prop:=∃ f c,Xl q x m n W C0 a0 done a w f c
def Fa.put (h:Fa q x m n W C0 a0 done a w) (u:i∉done) (z:i∈[1,4,6,8,10,12,14]) (p:∀ c:A1,(∀ b,(w:Nat)<=b->c b=0)->∃ k,AT NO c k w w'/\(∀ b,(w':Nat)<=b->k b=0)/\Wc m n i v w' k):Fa q x m n W C0 a0 (i::done) (a.put (ς (Ia q x i)) v) w':=by
 obtain ⟨f,c,o⟩:=h;obtain ⟨k,r,s,y⟩:=p c o.hi;have t:∀ j∈done,(if j=i then v else f j)=f j:=λj d=>if_neg (λe=>u (by rw [<-e];exact d));refine ⟨λj=>if j=i then v else f j,k,?_,List.nodup_cons.2 ⟨u,o.nd⟩,λj d=>?_,o.chg.trans r,s,λj d=>?_⟩
 .show _=(GS a0 (Ia q x) (λj=>if j=i then v else f j) done).put (ς (Ia q x i)) (if i=i then v else f i)
  rw [if_pos rfl,K4 (l:=done) (g:=f) t,o.act]
 .rcases ϰ.1 d with rfl|d
  .exact z
  .exact o.sub j d
 .rcases ϰ.1 d with rfl|d
  .show Wc m n j (if j=j then v else f j) w' k
   rw [if_pos rfl];exact y
  .show Wc m n j (if j=i then v else f j) w' k
   rw [t j d];exact (o.fact j d).kp (o.sub j d) r s
def Fa.chg (h:Fa q x m n W C0 a0 done a w):∃ c,AT NO C0 c W w:=by
 obtain ⟨f,c,b⟩:=h;exact ⟨c,b.chg⟩
def Fa.eval (h:Fa q x m n W C0 a0 done a w) (e:∀ i∈[1,4,6,8,10,12,14],Ia q x i≠d):a.eval (.tmp d)=a0.eval (.tmp d):=by
 obtain ⟨f,c,b⟩:=h;rw [b.act];exact SA (λi g=>e i (b.sub i g))
def LW (c:x+1<q):∀ i∈[1,4,6,8,10,12,14],∀ j∈[1,4,6,8,10,12,14],Ia q x i=Ia q x j->i=j:=λi a j b h=>by
 simp only [ϰ,List.mem_nil_iff,or_false] at a b;unfold Ia at h;split at h<;>split at h<;>omega
def Fa.P (u:x+1<q) (h:Fa q x m n W C0 a0 done a w) (p:∀ i∈[1,4,6,8,10,12],i∈done):∃ l,(l=[14,12,10,8,6,4,1]\/l=[12,10,8,6,4,1])/\(∀ i,done.contains i=l.contains i)/\∃ f c,Xl q x m n W C0 a0 l a w f c:=by
 obtain ⟨f,c,d⟩:=h;have o:∀ l:List Nat,l.Nodup->(∀ i,i∈done↔i∈l)->(∀ i,done.contains i=l.contains i)/\∃ f c,Xl q x m n W C0 a0 l a w f c:=λl r g=>by
  have t:=(List.perm_ext_iff_of_nodup d.nd r).2 g;refine ⟨λi=>?_,f,c,?_,r,λi b=>d.sub i ((g i).2 b),d.chg,d.hi,λi b=>d.fact i ((g i).2 b)⟩
  .rw [Bool.eq_iff_iff]
   simp only [List.contains_iff_mem];exact g i
  .rw [d.act]
   exact SB t (λi b j s=>LW u i (d.sub i b) j (d.sub j s))
 by_cases k:14∈done
 .refine ⟨_,.inl rfl,o _ δ (λi=>⟨λb=>?_,λb=>?_⟩)⟩
  .have:=d.sub i b
   simp only [ϰ,List.mem_nil_iff,or_false] at this ⊢;omega
  .simp only [ϰ,List.mem_nil_iff,or_false] at b
   rcases b with rfl|rfl|rfl|rfl|rfl|rfl|rfl
   .exact k
   all_goals exact p _ δ
 .refine ⟨_,.inr rfl,o _ δ (λi=>⟨λb=>?_,λb=>?_⟩)⟩
  .have:=d.sub i b
   have v:i≠14:=λe=>k (by rw [<-e];exact b);simp only [ϰ,List.mem_nil_iff,or_false] at this ⊢;omega
  .simp only [ϰ,List.mem_nil_iff,or_false] at b
   rcases b with rfl|rfl|rfl|rfl|rfl|rfl;all_goals exact p _ δ
def Ov {y:Bool} (r:x+1<q) (k:Fa q x m n W C0 a0 done a w) (E:i∉done) (p:i∈[4,6,8,10,12]) (tag:Nat) {t e:TypeId} (J:o.op=.makeSlice t (.tmp (q+(i - 2))) (.tmp (q+(i - 2)))) (g:o.dst=ς (q+(i - 1))) (L:prog.underlying t=ς (.slice e)) (G:(prog.info? e).map (λi=>(i.zero,i.size,i.bytes))=ς (ς z,sz,bytes)) (h:bytes<=128) (M:∀ j∈[4,6,8,10,12],a0.eval (.tmp (q+(j - 2)))=ι (n:Int)) (I:n<=1000)
  (hF:∀ w' d v,Ao w' d tag e sz v n (madeCells z.cells (n*sz)).toList->Wc m n i v w' d) (C:∀ V d,AT NO C0 d W V->S V):o.wp prog a w (λs w'=>(S w'\/y=ϑ)/\Fa q x m n W C0 a0 (i::done) s w') Q:=by
 have u:=p;simp only [ϰ,List.mem_nil_iff,or_false] at u;refine X4 (q+(i - 2)) t e J L G h n ((k.eval (λj H=>?_)).trans (M i p)) I (λw' N l=>?_)
 .simp only [ϰ,List.mem_nil_iff,or_false] at H
  unfold Ia;split<;>omega
 .obtain ⟨cq,aC⟩:=k.chg
  obtain ⟨P,f,O,-⟩:=l (λ_=>0) 0 (λb h=>rfl);have r:ϐ w w w':=⟨f.os,f.tape,f.output,f.size,λb h=>f.kp b h (no _)⟩
  have A:Ia q x i=q+(i - 1):=if_neg ω;rw [g,<- A];refine ⟨.inl (C w' cq (aC.trans (AT.ob r (no 0)))),k.put E φ (λc D=>?_)⟩;obtain ⟨d,B,F,K⟩:=l c tag D;exact ⟨d,B,F,hF _ _ _ K⟩
def Eh (c:AQ):List Bi->Int
 | []=>0
 | x::l=>if AS c x 0=0 then Eh c l else AS c x 0
def Ed (c:AQ):List (List Bi)->Int
 | []=>0
 | l::r=>if Eh c l=0 then Ed c r else Eh c l
def GV :∀ {l:List Bi},(∀ y∈l,AS c y 0=0)->Eh c l=0
 | [],_=>rfl
 | x::l,h=>by unfold Eh;rw [if_pos (h x ψ)];exact GV (λy a=>h y (by simp [a]))
def J6 :∀ {l:List Bi} {p:Nat} {x:Bi},l[p]?=ς x->(∀ y∈l.take p,AS c y 0=0)->AS c x 0≠0->Eh c l=AS c x 0
 | [],_,_,h,_,_=>by simp at h
 | z::l,0,x,h,_,hx=>by simp at h;subst h;unfold Eh;rw [if_neg hx]
 | z::l,p+1,x,h,hall,hx=>by unfold Eh;rw [if_pos (hall z ψ)];exact J6 (by simpa using h) (λy a=>hall y (by simp [a])) hx
def Gp :∀ {cs:List (List Bi)},(∀ l∈cs,∀ y∈l,AS c y 0=0)->Ed c cs=0
 | [],_=>rfl
 | l::r,h=>by unfold Ed;rw [if_pos (GV (h l ψ))];exact Gp (λb a=>h b (by simp [a]))
def Km :∀ {cs:List (List Bi)} {k:Nat} {l:List Bi} {p:Nat} {x:Bi},cs[k]?=ς l->(∀ z∈cs.take k,∀ y∈z,AS c y 0=0)->l[p]?=ς x->(∀ y∈l.take p,AS c y 0=0)->AS c x 0≠0->Ed c cs=AS c x 0
 | [],_,_,_,_,h,_,_,_,_=>by simp at h
 | z::r,0,l,p,x,h,_,hp,hl,hx=>by simp at h;subst h;have e:=J6 hp hl hx;unfold Ed;rw [if_neg (by rw [e];exact hx),e]
 | z::r,k+1,l,p,x,h,hall,hp,hl,hx=>by unfold Ed;rw [if_pos (GV (hall z ψ))];exact Km (by simpa using h) (λy a=>hall y (by simp [a])) hp hl hx
noncomputable def GO (c:AQ) (m:Mm) (cs:List (List Bi)) (fuel:Int):Int:=
 if ¬(DW c=ϑ/\Bb c m=ϑ) then 1 else if fuel<0\/1048576<fuel then 2 else if cs.length=0 then 3 else if 8<cs.length\/cs.any (λl=>decide (2000<(l:Int)))=ϑ then 4 else Ed c cs
def TW (c:AQ) (m:Mm) (cs:List (List Bi)) (fuel:Int) (w:Ϣ) (e:Ending) (w':Ϣ):Prop:=ϐ w w w'/\
 ((GO c m cs fuel≠0/\e=.returned (.tuple #[.agg Bz,ι (GO c m cs fuel)]))\/
 (GO c m cs fuel=0/\∃ v,e=.returned (.tuple #[v,ι 0])/\CJ w' w' v (Lx m fuel cs)))
def Vu (e:t<n) (a:(FW ν AI)[j]?=ς v):(madeCells SR (n*9)).toList[t*9+j]?=ς v:=by
 have c:j<9:=(Ll a)
 have b:t*9+j<n*9:=by have:(t+1)*9<=n*9:=Nat.mul_le_mul_right 9 e;omega
 have d:(t*9+j) % 9=j:=ω;rw [Array.getElem?_toList];unfold madeCells;rw [Array.getElem?_map,Array.getElem?_range,if_pos b];show ς (SR[(t*9+j) % 9]!)=ς v;rw [d];rw [<-a]
 match j,c with
 | 0,_=>rfl
 | 1,_=>rfl
 | 2,_=>rfl
 | 3,_=>rfl
 | 4,_=>rfl
 | 5,_=>rfl
 | 6,_=>rfl
 | 7,_=>rfl
 | 8,_=>rfl
def WX:GC AI:=by
 unfold GC Rq.wf AI in64;simp
def QM (a:t<n):(madeCells #[Value.slice none 0 0] (n*1)).toList[t]?=ς ν:=by
 rw [Nat.mul_one,toList_madeCells_one,List.getElem?_replicate,if_pos a]
def Ns (m:Mm) (n:Nat) (fuel:Int):A3:=⟨m,fuel,ϱ n AI,ϱ n 0,[],ϱ n [],ϱ n [],ϱ n [],0⟩
def NX {α:Type} {x y:α} (h:(ϱ n x)[t]?=ς y):t<n/\y=x:=⟨by simpa using (Ll h),JU h⟩
def XU {c:A1} {gv nv k g h d e:ϒ} {nx:List ϒ} (f:Mq w c m gv nv nx) (A:Ao w c 4 51 9 k n (madeCells SR (n*9)).toList) (q:Ao w c 5 3 1 g n (madeCells #[ι 0] (n*1)).toList) (z:Ao w c 7 78 1 h n (madeCells #[ν] (n*1)).toList)
  (r:Ao w c 8 22 1 d n (madeCells #[ν] (n*1)).toList) (s:Ao w c 9 22 1 e n (madeCells #[ν] (n*1)).toList) (b:w.heap[bo]?=ς (χ #[gv,nv,ι fuel,k,g,ν,h,d,e,ι 0] 34 (0,0))) (p:c bo=1) (o:in64 fuel):Au w c bo (Ns m n fuel):=by
 refine ⟨⟨gv,nv,k,g,ν,h,d,e,nx,(madeCells SR (n*9)).toList,[],(madeCells #[ν] (n*1)).toList,(madeCells #[ν] (n*1)).toList,(madeCells #[ν] (n*1)).toList⟩,⟨f.hi,λ_=>f.g,λ_=>f.n,λi x C=>?_,λ_=>?_,λt E u=>?_,λ_=>?_,λ_=>Ao.nil _ _ _ _ _,λt l a=>?_,λ_=>?_,λt l a=>?_,λ_=>?_,λt l a=>?_,λ_=>?_,λt l a=>?_,o,by show in64 0;unfold in64;omega⟩,⟨b,p⟩⟩
 .obtain ⟨lv,h1,h2,h3,h4⟩:=f.nn i x C
  exact ⟨lv,h1,h2,h3,λ_=>h4⟩
 .show Ao w c 4 51 9 k (ϱ n AI).length _
  rw [List.length_replicate];exact A
 .obtain ⟨ht,rfl⟩:=NX u
  exact ⟨ν,λj v B=>Vu ht B,⟨none,0,rfl,by simp [AI],by simp [AI],ω,.inl rfl⟩,WX⟩
 .refine ⟨?_,λy D=>?_⟩
  .show Ao w c 5 3 1 g (ϱ n (0:Int)).length ((ϱ n (0:Int)).map (Value.int .i64))
   rw [List.length_replicate,List.map_replicate];rw [Nat.mul_one,toList_madeCells_one] at q;exact q
  .have:y=0:=(List.mem_replicate.1 D).2
   subst this;unfold in64;omega
 .cases a
 .show Ao w c 7 78 1 h (ϱ n ([]:List CD)).length _
  rw [List.length_replicate];exact z
 .obtain ⟨ht,rfl⟩:=NX a
  exact ⟨ν,QM ht,λ_=>⟨Ao.nil _ _ _ _ _,ψ⟩⟩
 .show Ao w c 8 22 1 d (ϱ n ([]:List Int)).length _
  rw [List.length_replicate];exact r
 .obtain ⟨ht,rfl⟩:=NX a
  exact ⟨ν,QM ht,λ_=>⟨Ao.nil _ _ _ _ _,ψ⟩⟩
 .show Ao w c 9 22 1 e (ϱ n ([]:List Int)).length _
  rw [List.length_replicate];exact s
 .obtain ⟨ht,rfl⟩:=NX a
  exact ⟨ν,QM ht,λ_=>⟨Ao.nil _ _ _ _ _,ψ⟩⟩
structure Wj (m:Mm) (cs:List (List Bi)) (fuel:Int) (W:Ϣ) (C0:A1) (bo k:Nat) (wr:Ϣ) (c:A1):Prop where
 st:Au wr c bo { Ns m cs.length fuel with A:=cs.take k }
 chg:AT NZ C0 c W wr
def Xl.built {c:A1} (h:Xl q x m n W C0 a0 l a w f c) (h1:1∈l) (h4:4∈l) (h6:6∈l) (h8:8∈l) (H:10∈l) (I:12∈l):∃ g j k o C D y z A B p r s u,f 1=.agg (Bm g j k o m)/\f 4=σ C n D/\f 6=σ y n z/\f 8=σ A n B/\f 10=σ p n r/\f 12=σ s n u/\
  ∀ (e:Ϣ) (c1:A1) bo fuel,AT NO c c1 w e->(∀ b,(e:Nat)<=b->c1 b=0)->e.heap[bo]?=ς (χ Bz 34 (0,0))->c1 bo=1->in64 fuel->
   Au (B7 e bo (σ g m.G j) (σ k m.N o) (ι fuel) (σ C n D) (σ y n z) ν (σ A n B) (σ p n r) (σ s n u) (ι 0)) c1 bo (Ns m n fuel)/\AT NZ C0 c1 W (B7 e bo (σ g m.G j) (σ k m.N o) (ι fuel) (σ C n D) (σ y n z) ν (σ A n B) (σ p n r) (σ s n u) (ι 0)):=by
 obtain ⟨g,j,k,o,nx,e1,hM⟩:=h.fact 1 h1;have K:Ao w c 4 51 9 (f 4) n (madeCells SR (n*9)).toList:=h.fact 4 h4;have L:Ao w c 5 3 1 (f 6) n (madeCells #[ι 0] (n*1)).toList:=h.fact 6 h6;have M:Ao w c 7 78 1 (f 8) n (madeCells #[ν] (n*1)).toList:=h.fact 8 h8;have F:Ao w c 8 22 1 (f 10) n (madeCells #[ν] (n*1)).toList:=h.fact 10 H;have G:Ao w c 9 22 1 (f 12) n (madeCells #[ν] (n*1)).toList:=h.fact 12 I;obtain ⟨C,D,S,-⟩:=K.form;obtain ⟨y,z,T,-⟩:=L.form;obtain ⟨A,B,U,-⟩:=M.form;obtain ⟨p,r,O,-⟩:=F.form;obtain ⟨s,u,P,-⟩:=G.form;rw [S] at K;rw [T] at L;rw [U] at M;rw [O] at F;rw [P] at G;refine ⟨g,j,k,o,C,D,y,z,A,B,p,r,s,u,e1,S,T,U,O,P,λe c1 bo fuel v R X Q hf=>?_⟩;obtain ⟨V,J⟩:=ε (B7 e bo (σ g m.G j) (σ k m.N o) (ι fuel) (σ C n D) (σ y n z) ν (σ A n B) (σ p n r) (σ s n u) (ι 0));have d:AT (λt=>t=1) c1 c1 e V:=by rw [J];exact D7 Q ω
 have hz:(V:Nat)=(e:Nat):=by rw [J,FH]
 have Y:=λb hb=>R b (by rw [<-hz];exact hb);have E:=hM.kp v R (λt ht=>ht.elim);have Z:Mq V c1 m (σ g m.G j) (σ k m.N o) nx:=⟨Y,E.g.kp d δ,E.n.kp d δ,λi x hx=>by
  obtain ⟨lv,k1,k2,k3,k4⟩:=E.nn i x hx;exact ⟨lv,k1,k2,k3,k4.kp d ω⟩⟩
 have N:=CB X (σ g m.G j) (σ k m.N o) (ι fuel) (σ C n D) (σ y n z) ν (σ A n B) (σ p n r) (σ s n u) (ι 0);rw [<-J] at N ⊢;exact ⟨XU Z ((K.kp v (no _)).kp d δ) ((L.kp v (no _)).kp d δ) ((M.kp v (no _)).kp d δ) ((F.kp v (no _)).kp d δ) ((G.kp v (no _)).kp d δ) N Q hf,(h.chg.nz.trans v.nz).trans (d.nz δ)⟩
def NB :∀ {l:List Nat},(∀ j∈l,sl j=sl i->j=i)->i∈l->sl i<a.tmps.size->(GS a sl f l).tmps[sl i]?=ς (f i)
 | j::l,h,hi,hs=>by
  by_cases e:j=i
  .subst e
   exact CA _ _ _ (by rw [Ja];exact hs)
  .show ((GS a sl f l).put (ς (sl j)) (f j)).tmps[sl i]?=_
   rw [A0 _ _ _ _ (λk=>e (h j ψ (by simpa using k)))];exact NB (λk b=>h k (by simp [b])) (by rcases ϰ.1 hi with k|k;exact absurd k.symm e;exact k) hs
def Rr {o1 o4 o6 o8 G H s XM d:Oper} (fuel:Int) (mv:ϒ) (D:x+1<q) (bS:An fn)
  (he:[(o1.op,o1.dst),(o4.op,o4.dst),(o6.op,o6.dst),(o8.op,o8.dst),(G.op,G.dst),(H.op,H.dst),(s.op,s.dst),(XM.op,XM.dst),(d.op,d.dst)]=[(.call { callee:=.value (.func fn),args:=#[.tmp (q - 1)],argTypes:=#[28] },ς q),(.makeSlice 30 (.tmp (q+2)) (.tmp (q+2)),ς (q+3)),(.makeSlice 22 (.tmp (q+4)) (.tmp (q+4)),ς (q+5)),(.makeSlice 31 (.tmp (q+6)) (.tmp (q+6)),ς (q+7)),(.makeSlice 32 (.tmp (q+8)) (.tmp (q+8)),ς (q+9)),(.makeSlice 32 (.tmp (q+10)) (.tmp (q+10)),ς (q+11)),(.build 34 #[(0,.tmp q),(1,.tmp (q+1)),(2,.tmp (q+3)),(3,.tmp (q+5)),(5,.tmp (q+7)),(6,.tmp (q+9)),(7,.tmp (q+11))],ς (q+12)),(.alloc 34,ς x),(.store 34 (.tmp x) (.tmp (q+12)),none)])
  (E:Cp s=[1,2,4,6,8,10,12]) (L:∀ i∈[14,13,1,4,6,8,10,12],(Cp d).contains i=ϑ) (M:n<=1000) (bR:in64 fuel) (bV:q+12<a0.tmps.size)
  (o:a0.eval (.tmp (q+2))=ι (n:Int)/\a0.eval (.tmp (q+4))=ι (n:Int)/\a0.eval (.tmp (q+6))=ι (n:Int)/\a0.eval (.tmp (q+8))=ι (n:Int)/\a0.eval (.tmp (q+10))=ι (n:Int)) (bU:a0.eval (.tmp (q - 1))=mv) (bT:a0.eval (.tmp (q+1))=ι fuel) (t:∀ V K,AT NO C0 K W V->S V) (A:∀ b,(W:Nat)<=b->C0 b=0) (z:∀ V K,AT NO C0 K W V->ϙ prog fn #[mv] V (IU m V))
  (k:∀ u1 u4 u6 u8 u10 u12 u13 bo c P,Au P c bo (Ns m n fuel)->AT NZ C0 c W P->Q .normal ((((((((a0.put (ς q) u1).put (ς (q+3)) u4).put (ς (q+5)) u6).put (ς (q+7)) u8).put (ς (q+9)) u10).put (ς (q+11)) u12).put (ς x) (.pointer (ς (π bo 0)))).put (ς (q+12)) u13) P) :
  Dm prog 16 Q S ϑ [(1,o1),(4,o4),(6,o6),(8,o8),(10,G),(12,H),(13,s),(14,XM),(15,d)] a0 W:=by
 simp only [List.cons.injEq,Prod.mk.injEq,and_true] at he;obtain ⟨⟨e1,d1⟩,⟨e4,d4⟩,⟨e6,d6⟩,⟨e8,d8⟩,⟨aZ,aX⟩,⟨bA,aY⟩,⟨bB,aR⟩,⟨bN,bL⟩,bO,bM⟩:=he;have o:∀ j∈[4,6,8,10,12],a0.eval (.tmp (q+(j - 2)))=ι (n:Int):=λj y=>by
  simp only [ϰ,List.mem_nil_iff,or_false] at y;rcases y with rfl|rfl|rfl|rfl|rfl
  .exact o.1
  .exact o.2.1
  .exact o.2.2.1
  .exact o.2.2.2.1
  .exact o.2.2.2.2
 refine Jg ((((((((List.Perm.swap _ _ _).cons _).cons _).cons _).cons _).cons _).cons _)) ?_;refine SK [_,_,_,_,_,_,_] [_,_] [1,4,6,8,10,12] (Fa q x m n W C0 a0) ⟨λ_=>undef,C0,rfl,List.nodup_nil,ψ,AT.ob Br (no 0),A,ψ⟩ ?_ ?_ ?_ ?_ ?_
 .show List.Nodup [1,4,6,8,10,12,14,13,15]
  decide
 .intro r hr i l o' _
  simp only [ϰ,List.mem_nil_iff,or_false] at hr;rcases hr with rfl|rfl
  .unfold waits
   rw [E];simp only [ϰ,List.mem_nil_iff,or_false] at l;rcases l with rfl|rfl|rfl|rfl|rfl|rfl<;>rfl
  .unfold waits
   rw [L i (by simp at l ⊢;omega)];simp only [ϰ,List.mem_nil_iff,or_false] at l;rcases l with rfl|rfl|rfl|rfl|rfl|rfl<;>rfl
 .intro i l
  simp only [ϰ,List.mem_nil_iff,or_false] at l;rcases l with rfl|rfl|rfl|rfl|rfl|rfl
  .exact ⟨_,.head _⟩
  .exact ⟨_,.tail _ (.head _)⟩
  .exact ⟨_,.tail _ (.tail _ (.head _))⟩
  .exact ⟨_,.tail _ (.tail _ (.tail _ (.head _)))⟩
  .exact ⟨_,.tail _ (.tail _ (.tail _ (.tail _ (.head _))))⟩
  .exact ⟨_,.tail _ (.tail _ (.tail _ (.tail _ (.tail _ (.head _)))))⟩
 .intro p hp done a w hd hI
  obtain ⟨cq,N⟩:=hI.chg;simp only [ϰ,List.mem_nil_iff,or_false] at hp;rcases hp with rfl|rfl|rfl|rfl|rfl|rfl|rfl
  .refine X3 (q - 1) 28 bS e1 mv ((hI.eval (λj y=>?_)).trans bU) ?_
   .simp only [ϰ,List.mem_nil_iff,or_false] at y
    unfold Ia;split<;>omega
   refine (z w cq N).mono ?_;rintro e w' ⟨aL,T,aQ,Z,rfl,hb,bE⟩;rw [d1];refine ⟨_,rfl,.inl (t w' cq (N.trans (AT.ob hb (no 0)))),hI.put (i:=1) hd δ (λc hc=>?_)⟩;obtain ⟨K,nx,v,hM⟩:=bE c hc;exact ⟨K,v,hM.hi,aL,T,aQ,Z,nx,rfl,hM⟩
  .exact Ov (i:=4) D hI hd δ 4 e4 d4 underlying30 JA δ o M (λ_ _ _ h=>h) t
  .exact Ov (i:=6) D hI hd δ 5 e6 d6 underlying22 Cx δ o M (λ_ _ _ h=>h) t
  .exact Ov (i:=8) D hI hd δ 7 e8 d8 underlying31 MU δ o M (λ_ _ _ h=>h) t
  .exact Ov (i:=10) D hI hd δ 8 aZ aX underlying32 Hj δ o M (λ_ _ _ h=>h) t
  .exact Ov (i:=12) D hI hd δ 9 bA aY underlying32 Hj δ o M (λ_ _ _ h=>h) t
  .have J:∀ w',w'=w.alloc (χ Bz 34)->S w'/\Fa q x m n W C0 a0 (14::done) (a.put (ς x) (.pointer (ς (π w 0)))) w':=λw' hw=>⟨t w' cq (N.trans (by rw [hw];exact AT.ob (AA _ _) (no 0))),hI.put (i:=14) hd δ (λc hc=>by
    obtain ⟨v,C,F⟩:=Hf (c:=c) (tag:=1) (.inl hw);exact ⟨_,v,F hc,_,rfl,C,if_pos rfl⟩)⟩
   have aW:=Lh J;clear J hI hd N o t z k A;go_simp;exact aW.o _ rfl
 .intro done a w aB hI
  obtain ⟨l0,aV,U,f,c,g⟩:=hI.P D aB;rw [List.filter_congr (λ(p:Nat×Oper) _=>by rw [U]:∀ p∈_,(!done.contains p.1)=!l0.contains p.1)];have u:∀ i∈[1,4,6,8,10,12],i∈l0:=λi l=>by rcases aV with rfl|rfl<;>(simp at l ⊢;omega)
  obtain ⟨aL,T,aQ,Z,ra,rc,ka,kc,oa,oc,ba,bc,ea,ec,g1,g4,g6,g8,bC,bD,Y⟩:=g.built (u 1 δ) (u 4 δ) (u 6 δ) (u 8 δ) (u 10 δ) (u 12 δ);have B:∀ i∈[1,4,6,8,10,12],a.tmps[Ia q x i]?.getD undef=f i:=λi l=>by
   rw [g.act,NB (λj y e=>LW D j (g.sub j y) i (g.sub i (u i l)) e) (u i l) (by
    simp only [ϰ,List.mem_nil_iff,or_false] at l;unfold Ia;split<;>omega)]
   rfl
  have v1:a.tmps[q]?.getD undef=_:=(B 1 δ).trans g1;have v2:a.tmps[q+1]?.getD undef=ι fuel:=by
   rw [<-Array.getD_eq_getD_getElem?];exact (Fa.eval ⟨f,c,g⟩ (λj y=>by
    simp only [ϰ,List.mem_nil_iff,or_false] at y;unfold Ia;split<;>omega)).trans bT
  have v4:a.tmps[q+3]?.getD undef=_:=(B 4 δ).trans g4;have v6:a.tmps[q+5]?.getD undef=_:=(B 6 δ).trans g6;have v8:a.tmps[q+7]?.getD undef=_:=(B 8 δ).trans g8;have bJ:a.tmps[q+9]?.getD undef=_:=(B 10 δ).trans bC;have bK:a.tmps[q+11]?.getD undef=_:=(B 12 δ).trans bD;obtain ⟨I,aO⟩:=ε (.agg #[σ aL m.G T,σ aQ m.N Z,ι fuel,σ ra n rc,σ ka n kc,ν,σ oa n oc,σ ba n bc,σ ea n ec,ι 0]:ϒ);have R:∀ V,(execOp a.eval s).run prog V=.ok (.value I) V:=λV=>by rw [aO];simp [go_sem,execOp,bB,v1,v2,v4,v6,v8,bJ,bK]
  have bP:a.tmps.size=a0.tmps.size:=by rw [g.act];exact Ja _ _ _ _
  have X:∀ (b:Act) (V:Ϣ) (c1:A1) (bo:Nat),b.tmps[x]?.getD undef=.pointer (ς (π bo 0))->b.tmps[q+12]?.getD undef=I->AT NO c c1 w V->(∀ b,V.heap.size<=b->c1 b=0)->V.heap[bo]?=ς (χ Bz 34 (0,0))->c1 bo=1->(∀ u1 u4 u6 u8 u10 u12 u13,u1=f 1->u4=f 4->u6=f 6->u8=f 8->u10=f 10->u12=f 12->u13=I->b=((((((((a0.put (ς q) u1).put (ς (q+3)) u4).put (ς (q+5)) u6).put (ς (q+7)) u8).put (ς (q+9)) u10).put (ς (q+11)) u12).put (ς x) (.pointer (ς (π bo 0)))).put (ς (q+12)) u13))->Dm prog 16 Q S ϑ [(15,d)] b V:=λb V c1 bo bQ bF v F C bH aT=>by obtain ⟨J,aU⟩:=Y V c1 bo fuel v F C bH bR;have O:=Lh (k (f 1) (f 4) (f 6) (f 8) (f 10) (f 12) I bo c1 _ J aU);rw [<-aT _ _ _ _ _ _ _ rfl rfl rfl rfl rfl rfl rfl] at O;obtain ⟨⟨y0,y1,y2,y3,y4,y5,y6,y7,y8,y9⟩,⟨z0,z1,z2,z3,z4,z5,z6,z7,z8,z9⟩,zz⟩:=Gk C;rw [aO] at bF;refine AH rfl ?_;clear J aU k t z hI g Y B aT o A U aB u C v F;unfold B7 at O;go_simp;exact BH O.o
  clear U aB;have aP:(([(15,d)]:List (Nat×Oper)).all λr=>r.1 != 13 && !waits (13,s) r)=ϑ:=by simp [waits,E]
  rcases aV with rfl|rfl
  .obtain ⟨bo,aS,aN,bG⟩:=g.fact 14 δ
   refine (show Dm _ _ _ _ _ [_,_] _ _ from ?_);refine Ae (by rw [aP];rfl) I (λV _=>R V) ?_;rw [aR];refine X _ w c bo ?_ ?_ (AT.ob Br (no 0)) g.hi aN bG ?_
   .rw [A0 _ _ _ _ φ,g.act,show (GS a0 (Ia q x) f [14,12,10,8,6,4,1]).tmps[x]?=ς (f 14) from NB (i:=14) (λj y e=>LW D j (g.sub j y) 14 δ e) δ (show x<_ by omega),aS]
    rfl
   .rw [CA _ _ _ ω]
    rfl
   .rintro _ _ _ _ _ _ _ rfl rfl rfl rfl rfl rfl rfl
    rw [g.act,<- aS];rfl
  .refine (show Dm _ _ _ _ _ [_,_,_] _ _ from ?_)
   refine De ?_;refine Ae (by simp [waits,E]) I (λV _=>R V) ?_;rw [aR];have aM:([(15,d)].all λr=>r.1 != 14 && [(14,XM),(15,d)].any (waits r))=ϑ:=by have:=L 14 δ;simp only [List.contains_iff_mem] at this;simp [waits,this]
   refine AH aM ?_;obtain ⟨V,hV⟩:=ε (w.alloc (χ Bz 34));obtain ⟨v,C,F⟩:=Hf (c:=c) (tag:=1) (.inl hV);have bI:(ς x:Option Nat)≠ς (q+12):=by simp;omega
   have HF:=Lh (And.intro (t V _ (g.chg.trans v)) (X ((a.put (ς (q+12)) I).put (ς x) (.pointer (ς (π w 0)))) V _ (w:Nat) (by rw [CA _ _ _ (by rw [BQ];omega)];rfl) (by rw [A0 _ _ _ _ bI,CA _ _ _ ω];rfl) v (F g.hi) C (if_pos rfl) (by
    rintro _ _ _ _ _ _ _ rfl rfl rfl rfl rfl rfl rfl;rw [O0 _ _ _ ω,g.act];rfl)))
   clear v C F X k t z hI g Y B o A u R aO;rw [hV] at HF;go_simp;exact HF.o
def OT:An 48:=λ_ _=>by kernel_rfl
def Vx (B:Nat) (w:Ϣ):∀ (x:List Bi) (b:Ϣ) (c:ϒ),ϐ w w b->Nv B b c x->ϙ prog 48 (#[c]++#[]) b (λe g=>e=.returned (.bool (decide (2000<(x:Int))))/\ϐ b b g):=by
 rintro x b c _ f;have i:x.length<=140737488355328:=by obtain ⟨_,_,_,h,_⟩:=f;exact h
 obtain ⟨a,d,rfl⟩:=AE.form f;clear f;show ϙ prog 48 #[σ a x d] b _;go_enter func48,ntmps48;go_wp2;go_ret;exact ⟨rfl,Below.refl _ _⟩
def TT (h:DW c=ϝ\/Bb c m=ϝ):GO c m cs fuel=1:=by
 unfold GO;rw [if_pos (λk=>by rcases h with h|h;rw [h] at k;cases k.1;rw [h] at k;cases k.2)]
def TY (h:DW c=ϑ/\Bb c m=ϑ) (a:fuel<0\/1048576<fuel):GO c m cs fuel=2:=by
 unfold GO;rw [if_neg (λk=>k h),if_pos a]
def Wm (h:DW c=ϑ/\Bb c m=ϑ) (b:0<=fuel/\fuel<=1048576) (a:cs.length=0):GO c m cs fuel=3:=by
 unfold GO;rw [if_neg (λk=>k h),if_neg ω,if_pos a]
def TU (h:DW c=ϑ/\Bb c m=ϑ) (d:0<=fuel/\fuel<=1048576) (a:cs.length≠0) (b:8<cs.length\/cs.any (λl=>decide (2000<(l:Int)))=ϑ):GO c m cs fuel=4:=by
 unfold GO;rw [if_neg (λk=>k h),if_neg ω,if_neg a,if_pos b]
def Wn (h:DW c=ϑ/\Bb c m=ϑ) (e:0<=fuel/\fuel<=1048576) (a:cs.length≠0) (d:cs.length<=8) (b:cs.any (λl=>decide (2000<(l:Int)))=ϝ):GO c m cs fuel=Ed c cs:=by
 unfold GO;rw [if_neg (λk=>k h),if_neg ω,if_neg a,if_neg (λk=>by rcases k with k|k;omega;rw [b] at k;cases k)]
structure Xe (m:Mm) (cs:List (List Bi)):Prop where
 g:m.G.length<=1000000
 n:m.N.length<=4096
 f:∀ x∈m.N,x.f.length<=1000000
 a:∀ l∈cs,∀ x∈l,x.args.length<=1000000
structure YL (cd:AQ) (m:Mm) (cs:List (List Bi)) (c0 c1 c2 g0 g1 lv:ϒ) (zz:Array ϒ) (w V:Ϣ):Prop where
 c:V.cell? (π w 0)=ς c0/\V.cell? (π w 1)=ς c1/\V.cell? (π w 2)=ς c2/\(w:Nat)<V
 g:V.cell? (π (w+1) 0)=ς g0/\V.cell? (π (w+1) 1)=ς g1/\(w:Nat)+1<V
 t:V.heap[(w:Nat)+1+1]?=ς (χ zz 34 (0,0))
 L:C8 V
 cod:BF w V (.agg #[c0,c1,c2]) cd
 mm:Lw w V (.agg #[g0,g1]) m
 cs:AE w V 1 (Bg 2 (DA w) w) lv cs
 b:ϐ w w V
 s:(w:Nat)+3<=V
def VL {e:Array ϒ} (b:W=((w.alloc (χ #[c0,c1,c2] 25)).alloc (χ #[g0,g1] 28)).alloc (χ e 34)) (i:C8 w) (j:BF w w (.agg #[c0,c1,c2]) cd) (k:Lw w w (.agg #[g0,g1]) m) (hl:AE w w 1 (Bg 2 (DA w) w) lv cs):∀ V,ϐ W W V->YL cd m cs c0 c1 c2 g0 g1 lv e w V:=λV a=>by
 have g:ϐ w w W:=by rw [b];exact ((AA _ _).th (AA _ _)).th (AA _ _)
 have l:(W:Nat)=(w:Nat)+3:=by rw [b];simp
 have d:V.heap[(w:Nat)]?=ς (χ #[c0,c1,c2] 25 (0,0)):=(a.block _ ω).trans (by
  rw [b,Ha _ _ _ φ,Ha _ _ _ ψ];exact Hn _ _)
 have f:V.heap[(w:Nat)+1]?=ς (χ #[g0,g1] 28 (0,0)):=(a.block _ ω).trans (by
  rw [b,Ha _ _ _ ψ];have:=Hn (w.alloc (χ #[c0,c1,c2] 25)) (χ #[g0,g1] 28);rwa [show (w.alloc (χ #[c0,c1,c2] 25)).heap.size=(w:Nat)+1 by simp] at this)
 have h:V.heap[(w:Nat)+1+1]?=ς (χ e 34 (0,0)):=(a.block _ ω).trans (by
  rw [b];have:=Hn ((w.alloc (χ #[c0,c1,c2] 25)).alloc (χ #[g0,g1] 28)) (χ e 34);rwa [show ((w.alloc (χ #[c0,c1,c2] 25)).alloc (χ #[g0,g1] 28)).heap.size=(w:Nat)+1+1 by simp] at this)
 have c:=g.th a;exact ⟨⟨Cr d rfl,Cr d rfl,Cr d rfl,(La d)⟩,⟨Cr f rfl,Cr f rfl,(La f)⟩,h,i.below c,j.below c,k.below c,hl.calss c,c,by have:=a.size;omega⟩
def Gn {fn:Func} (i:fn.results=#[.cell 8 34,.tmp 9]) {V:Ϣ} (h:YL cd m cs c0 c1 c2 g0 g1 lv Bz w V) {e:Int} (g:GO cd m cs fuel=e) (b:e≠0) (c:a.tmps.getD 8 undef=.pointer (ς (π (w+1+1) 0))) (d:a.tmps.getD 9 undef=ι e) (f:a.defers=[]):bodyPost prog fn (TW cd m cs fuel w) .ret a (B7 V (w+1+1) ν ν (ι 0) ν ν ν ν ν ν (ι 0)):=
 ϖ (Dc (p:=8) (u:=9) i (CB h.t ν ν (ι 0) ν ν ν ν ν ν (ι 0)) _ c d) f ⟨CH h.b ω h.b.size ν ν (ι 0) ν ν ν ν ν ν (ι 0),.inl (by rw [g];exact ⟨b,rfl⟩)⟩
def Xf {wr:Ϣ} {c:A1} (B:Au wr c bo (Lx m fuel cs)) (A:c ((w:Nat)+1+1)=14) (e:wr.heap[(w:Nat)+1+1]?=ς (χ Bz 34 (0,0))) (d:ϐ w w wr) (K:GO cd m cs fuel=0):∃ l o q r y z s t h i v x f g j k E D no C ne,wr.heap[bo]?=ς (χ #[σ l m.G o,σ q m.N r,ι fuel,σ y E z,σ s D t,σ h cs i,σ v no x,σ f C g,σ j ne k,ι 0] 34 (0,0))/\
  ∀ (fn:Func) (_:fn.results=#[.cell 8 34,.tmp 9]) (a:Act) (_:a.tmps.getD 8 undef=.pointer (ς (π (w+1+1) 0))) (_:a.tmps.getD 9 undef=ι 0) (_:a.defers=[]),bodyPost prog fn (TW cd m cs fuel w) .ret a (B7 wr (w+1+1) (σ l m.G o) (σ q m.N r) (ι fuel) (σ y E z) (σ s D t) (σ h cs i) (σ v no x) (σ f C g) (σ j ne k) (ι 0)):=by
 obtain ⟨l,o,q,r,y,z,s,t,h,i,v,x,f,g,j,k,F,G⟩:=B.o (n:=0) (λb M=>by omega) A;exact ⟨l,o,q,r,y,z,s,t,h,i,v,x,f,g,j,k,_,_,_,_,_,F,λ_ L _ H I J=>ϖ (Dc (p:=8) (u:=9) L (CB e _ _ _ _ _ _ _ _ _ _) _ H I) J ⟨CH d ω d.size _ _ _ _ _ _ _ _ _ _,.inr ⟨K,_,rfl,G.self⟩⟩⟩
def Ps:An 50:=λ_ _=>by kernel_rfl
def TO (cd:AQ) (m:Mm) (cs:List (List Bi)) (fuel:Int) (cv mv lv:ϒ) (w:Ϣ) (hL:C8 w) (hc:BF w w cv cd) (hm:Lw w w mv m) (hl:AE w w 1 (Bg 2 (DA w) w) lv cs) (eL:in64 fuel) (ok:Xe m cs) :
  ϙ prog 12 #[cv,mv,lv,ι fuel] w (TW cd m cs fuel w):=by
 obtain ⟨fv,gv,rfl,hf,hg,bI⟩:=id hc;obtain ⟨fa,fc,rfl⟩:=hf.form;obtain ⟨qa,qc,rfl⟩:=hg.form;obtain ⟨dW,eD,rfl,cG,cI⟩:=id hm;obtain ⟨ga,gc,rfl⟩:=cG.form;obtain ⟨ma,mc,rfl⟩:=cI.form;have dH:cs.length<=140737488355328:=by obtain ⟨_,_,_,h,_⟩:=hl;exact h
 obtain ⟨la,lc,rfl⟩:=hl.form;have OK:=Lh ok;have cS:=Lh hl;have cL:=Lh eL;obtain ⟨W,hW⟩:=ε (((w.alloc (χ (Bc fa fc qa qc cd) 25)).alloc (χ (Bm ga gc ma mc m) 28)).alloc (χ Bz 34));have a:=Lh (VL hW hL hc hm hl);clear hf hg bI hL hc hm hl cG cI ok eL;obtain ⟨⟨c0,c1,c2,zc⟩,⟨g0,g1,zg⟩,-⟩:=a.o W Br;go_enter func12,ntmps12;go_upto_region 1 with fail;rw [<-hW];clear hW;go_wp2_with fail;refine (Ls cd _ (w:Nat) W (a.o W Br).L (a.o W Br).b.size (a.o W Br).cod).mono ?_;rintro e w1 ⟨rfl,cB⟩;have G:=Lh cB;clear c0 c1 c2 zc g0 g1 zg cB;cases aW:DW cd with
 | false=>have bF:=Lh aW;clear aW;obtain ⟨⟨K,L,M,N,O,P,Q,R,S,T⟩,⟨U,X,Y,Z,z4,z5,z6,z7,z8,z9⟩,zR⟩:=Gk (a.o w1 G.o).t;go_wp2_with fail;exact Gn rfl (a.o w1 G.o) (TT (.inl bF.o)) ω rfl rfl rfl
 | true=>
 have bF:=Lh aW;clear aW;obtain ⟨⟨c0,c1,c2,zc⟩,⟨g0,g1,zg⟩,-⟩:=a.o w1 G.o;go_wp2_with fail;refine (Mh cd _ m _ (w:Nat) w1 (a.o w1 G.o).b.size (a.o w1 G.o).cod (a.o w1 G.o).mm).mono ?_;rintro e r ⟨rfl,aN⟩;have g:=Lh (G.o.th aN);clear c0 c1 c2 zc g0 g1 zg aN;cases aV:Bb cd m with
 | false=>have cQ:=Lh aV;clear aV;obtain ⟨⟨K,L,M,N,O,P,Q,R,S,T⟩,⟨U,X,Y,Z,z4,z5,z6,z7,z8,z9⟩,zR⟩:=Gk (a.o r g.o).t;go_wp2_with fail;exact Gn rfl (a.o r g.o) (TT (.inr cQ.o)) ω rfl rfl rfl
 | true=>
 have aI:=Lh (And.intro bF.o aV);clear aV;by_cases dD:fuel<0
 .have bC:=Lh dD
  obtain ⟨⟨K,L,M,N,O,P,Q,R,S,T⟩,⟨U,X,Y,Z,z4,z5,z6,z7,z8,z9⟩,zR⟩:=Gk (a.o r g.o).t;go_wp2_with fail;exact Gn rfl (a.o r g.o) (TY aI.o (.inl bC.o)) ω rfl rfl rfl
 by_cases dE:1048576<fuel
 .have bC:=Lh dE
  obtain ⟨⟨K,L,M,N,O,P,Q,R,S,T⟩,⟨U,X,Y,Z,z4,z5,z6,z7,z8,z9⟩,zR⟩:=Gk (a.o r g.o).t;go_wp2_with fail;exact Gn rfl (a.o r g.o) (TY aI.o (.inr bC.o)) ω rfl rfl rfl
 have aU:=@Lh (0<=fuel/\fuel<=1048576) ω;by_cases o:cs.length=0
 .have aL:=Lh o
  have dK:((cs:Int) == 0)=ϑ:=by simp [o]
  clear o;obtain ⟨⟨K,L,M,N,O,P,Q,R,S,T⟩,⟨U,X,Y,Z,z4,z5,z6,z7,z8,z9⟩,zR⟩:=Gk (a.o r g.o).t;go_wp2_with fail;exact Gn rfl (a.o r g.o) (Wm aI.o aU.o aL.o) ω rfl rfl rfl
 have aL:=Lh o;have dK:((cs:Int) == 0)=ϝ:=by simp [o]
 clear o;by_cases h8:8<(cs:Int)
 .have H8:=Lh h8
  obtain ⟨⟨K,L,M,N,O,P,Q,R,S,T⟩,⟨U,X,Y,Z,z4,z5,z6,z7,z8,z9⟩,zR⟩:=Gk (a.o r g.o).t;go_wp2_with fail;exact Gn rfl (a.o r g.o) (TU aI.o aU.o aL.o (.inl (by have:=H8.o;omega))) ω rfl rfl rfl
 have H8:=@Lh (cs.length<=8) ω;go_wp2_with fail;refine (FJ 48 #[] (λl=>decide (2000<(l:Int))) cs _ (w:Nat) r OT (a.o r g.o).b.size (a.o r g.o).cs (Vx w r)).mono ?_;rintro e w3 ⟨rfl,cC⟩;have aS:=Lh (g.o.th cC);clear cC;cases ha:cs.any λl=>decide (2000<(l:Int)) with
 | true=>have HA:=Lh ha;clear ha;obtain ⟨⟨K,L,M,N,O,P,Q,R,S,T⟩,⟨U,X,Y,Z,z4,z5,z6,z7,z8,z9⟩,zR⟩:=Gk (a.o w3 aS.o).t;go_wp2_with fail;exact Gn rfl (a.o w3 aS.o) (TU aI.o aU.o aL.o (.inr HA.o)) ω rfl rfl rfl
 | false=>
 have HA:=Lh ha;have bU:=Lh (Wn aI.o aU.o aL.o H8.o ha);clear ha;go_wp2_with fail;go_loopw [54] (λi wr=>∃ k:Nat,k<=cs.length/\i=ι k/\Hid (ϐ W W wr/\∀ l∈cs.take k,∀ y∈l,AS cd y 0=0)) (λi _=>cs.length - (intOf i).toNat)
 case atStart=>exact ⟨0,Nat.zero_le _,rfl,Lh ⟨aS.o,ψ⟩⟩
 case round=>
  obtain ⟨k,hk,rfl,J⟩:=hrel;obtain ⟨d,rfl⟩:=ε (wr:Ϣ);by_cases bK:k<cs.length
  .obtain ⟨l,hl⟩:∃ y,cs[k]?=ς y:=⟨_,Lg bK⟩
   obtain ⟨b0,o0,rfl,bQ,dL,aR,H⟩:=(a.o d J.o.1).cs.nth hl;have eA:l.length<=140737488355328:=by obtain ⟨_,_,_,h,_⟩:=H;exact h
   obtain ⟨xa,xc,rfl⟩:=H.form;rw [Nat.mul_one] at aR;have HX:=Lh hl;have bE:=Lh H;have dF:=In k;have dG:(k:Int)<(cs:Int):=ω;clear hl H bQ;go_wp2_with fail;clear aR;go_loopw [60] (λi wr=>∃ p:Nat,p<=l.length/\i=ι p/\Hid (ϐ d d wr/\∀ y∈l.take p,AS cd y 0=0)) (λi _=>l.length - (intOf i).toNat)
   case atStart=>exact ⟨0,Nat.zero_le _,rfl,Lh ⟨Below.refl _ _,ψ⟩⟩
   case round=>
    obtain ⟨p,hp,rfl,aJ⟩:=hrel;have aZ:=Lh (J.o.1.th aJ.o.1);by_cases dI:p<l.length
    .obtain ⟨x,hx⟩:∃ y,l[p]?=ς y:=⟨_,Lg dI⟩
     obtain ⟨b1,o1,rfl,dN,x0,⟨av,x1,bN⟩,dJ⟩:=(bE.o.cals (aJ.o.1.mono (a.o d J.o.1).b.size)).nth hx;obtain ⟨cJ,cK,rfl⟩:=bN.form;have bX:=Lh hx;have cA:∀ V,ϐ wr wr V->Gh w V (.agg #[.string x.proc,σ cJ x.args cK]) x:=λV E=>⟨_,rfl,bN.ints (E.mono (a.o wr aZ.o).b.size),dJ⟩
     have dA:=Lh cA;have dY:=In p;have dZ:(p:Int)<(l:Int):=ω;clear hx bN cA dN;go_upto_region 15 with fail;obtain ⟨V,E⟩:=ε (wr.alloc (χ #[.string x.proc,σ cJ x.args cK] 80));have bG:=Lh (bl1 E);have bL:=ro11 E;have v0:=Ω2 bL;have C:=Lh (aZ.o.th bG.o);rw [<-E];clear E bL x0 x1;obtain ⟨⟨c0,c1,c2,zc⟩,-⟩:=a.o V C.o;go_wp2_with fail;refine (Lr cd _ x _ (w:Nat) V (a.o V C.o).b.size (a.o V C.o).cod (dA.o V bG.o)).mono ?_;rintro e w6 ⟨rfl,bH⟩;have bR:=Lh (C.o.th bH);have cN:=Lh ((aJ.o.1.th bG.o).th bH);clear c0 c1 c2 zc v0 bH;obtain ⟨ge,bJ⟩:=ε (AS cd x 0);rw [<-bJ];have bS:=Lh bJ;clear bJ;by_cases aQ:ge=0
     .subst aQ
      have hn:Hid (∀ y∈l.take (p+1),AS cd y 0=0):=Lh (λy D=>by
       rw [List.take_add_one,bX.o] at D;rcases List.mem_append.1 D with D|D
       .exact aJ.o.2 y D
       .simp at D;subst D;exact bS.o.symm)
      go_wp2;go_roundw
      case rel=>exact ⟨p+1,ω,by go_num,Lh ⟨cN.o,hn.o⟩⟩
      case measure=>simp [intOf];omega
     .have cU:=Lh aQ
      have dX:=τ ge 0 aQ;have cV:=@Lh (Ed cd cs=ge) (by
       have h:=bS.o;rw [h];exact Km HX.o J.o.2 bX.o aJ.o.2 (by rw [<-h];exact aQ))
      clear aQ;obtain ⟨⟨K,L,M,N,O,P,Q,R,S,T⟩,⟨U,X,Y,Z,z4,z5,z6,z7,z8,z9⟩,zR⟩:=Gk (a.o w6 bR.o).t;go_wp2_with fail;exact Gn rfl (a.o w6 bR.o) (bU.o.trans cV.o) cU.o rfl rfl rfl
    .obtain rfl:p=l.length:=ω
     have hn:Hid (∀ z∈cs.take (k+1),∀ y∈z,AS cd y 0=0):=Lh (λz o y D=>by
      rw [List.take_add_one,HX.o] at o;rcases List.mem_append.1 o with o|o
      .exact J.o.2 z o y D
      .simp at o;subst o;exact aJ.o.2 y (by rw [List.take_length];exact D))
     go_wp2;go_roundw
     case rel=>exact ⟨k+1,ω,by go_num,Lh ⟨aZ.o,hn.o⟩⟩
     case measure=>simp [intOf];omega
  obtain rfl:k=cs.length:=ω;have cW:=Lh (by
   have h:=J.o.2;rw [List.take_length] at h;exact h)
  have cP:=@Lh (GO cd m cs fuel=0) (by rw [bU.o];exact Gp cW.o);have aK:=Lh J.o.1;clear J aS g G;obtain ⟨-,⟨g0,g1,zg⟩,-⟩:=a.o d aK.o;go_upto_region 21 with fail;have hD:=a.o d.drew (AG aK.o 1);refine Ac (λVs=>Vs.cell? (π (w+1) 0)=ς (σ ga m.G gc)/\Vs.cell? (π (w+1) 1)=ς (σ ma m.N mc)) [1,4,6,8,10,12,13,14,15] ϑ 16 rfl κ κ ⟨g0,g1⟩ ?_;refine softA ?_;clear g0 g1 zg;refine Rr (q:=76) (x:=16) (C0:=(λb=>if b=(w:Nat)+1+1 then 14 else 0)) fuel (.agg (Bm ga gc ma mc m)) δ Ps rfl κ δ (n:=cs.length) (m:=m) (by have:=H8.o;omega) cL.o ψ ⟨rfl,rfl,rfl,rfl,rfl⟩ rfl rfl (λV I h=>⟨h.cell hD.g.1 (no _),h.cell hD.g.2.1 (no _)⟩) (λb s=>if_neg (by have:=hD.s;omega)) (λV I h=>?_) (λu1 u4 u6 u8 eI eJ eK bo c Wf f cD=>?_)
  .have aN:=(⟨h.os,h.tape,h.output,h.size,λb s=>h.kp b s (no _)⟩:ϐ d.drew.heap.size d.drew V).mono hD.b.size
   exact PL m _ (w:Nat) V (Nt hD.b.size aN.size) (hD.mm.below aN) OK.o.g OK.o.n OK.o.f
  simp only [Ap];have bV:Hid (Wj m cs fuel d.drew (λb=>if b=(w:Nat)+1+1 then 14 else 0) bo 0 Wf c):=Lh ⟨f,cD⟩;clear f cD hD;have bA:=@Lh (∀ (V:Ϣ) (I:A1),AT NZ (λb=>if b=(w:Nat)+1+1 then 14 else 0) I d.drew V->ϐ w w V) (λV I h=>(a.o d.drew (AG aK.o 1)).b.trans (h.below (B:=(w:Nat)) (λb s=>if_neg ω) (a.o d.drew (AG aK.o 1)).b.size));have cX:Hid (∀ (V:Ϣ) (I:A1),AT NZ (λb=>if b=(w:Nat)+1+1 then 14 else 0) I d.drew V->V.heap[(w:Nat)+1+1]?=ς (χ Bz 34 (0,0))/\I ((w:Nat)+1+1)=14):=Lh (λV I h=>by
   have hk:=a.o d.drew (AG aK.o 1);have hl:(w:Nat)+1+1<d.drew.heap.size:=by have:=hk.s;omega
   exact ⟨(h.kp _ hl (by show ¬NZ (if _ then _ else _);rw [if_pos rfl];exact Io)).trans hk.t,(h.old _ hl).trans (if_pos rfl)⟩)
  go_wp2_with fail;go_loopw [91] (λi wr=>∃ k:Nat,k<=cs.length/\i=ι k/\Hid (∃ c,Wj m cs fuel d.drew (λb=>if b=(w:Nat)+1+1 then 14 else 0) bo k wr c)) (λi _=>cs.length - (intOf i).toNat)
  case atStart=>exact ⟨0,Nat.zero_le _,rfl,Lh ⟨_,bV.o⟩⟩
  case round=>
   obtain ⟨k,hk,rfl,f⟩:=hrel;obtain ⟨c,f⟩:=f.o;have F:=Lh f;clear f bV;by_cases bK:k<cs.length
   .obtain ⟨l,hl⟩:∃ y,cs[k]?=ς y:=⟨_,Lg bK⟩
    have aO:=bA.o wr c F.o.chg;obtain ⟨b0,o0,rfl,bQ,dL,aR,H⟩:=(cS.o.calss aO).nth hl;obtain ⟨xa,xc,rfl⟩:=H.form;rw [Nat.mul_one] at aR;have HX:=Lh hl;have bE:=Lh H;have cT:=@Lh (l.length<=2000) (by
     have h:=HA.o;rw [List.any_eq_false] at h;have:=h l (Lm hl);simp at this;omega)
    have bT:=@Lh ((cs.take k).length=k) (by rw [List.length_take];omega);have dF:=In k;have dG:(k:Int)<(cs:Int):=ω;obtain ⟨bO,bP,dM,p5,bM,cF⟩:=F.o.st.pushC;rw [show ({ Ns m cs.length fuel with A:=cs.take k }:A3).A.length=k from bT.o] at p5 bM;have cY:=Lh bM;have cR:=Lh cF;have A:=Lh F.o.st.lab;clear hl H bQ aO bM cF;go_upto_region 25 with fail;clear aR;refine Ac (λVs=>Vs.cell? (π bo 5)=ς (σ bO k bP)) [3,4,5,7] ϑ 8 rfl κ κ p5 ?_;refine softA ?_;have HF:=Lh p5;clear p5;have cO:Hid (∀ V,ϐ wr wr V->ϙ prog 51 #[σ xa l xc] V (Kp l V)):=Lh (λV E=>by
     have aO:=bA.o wr c F.o.chg;exact Lq l (σ xa l xc) w V (Nt aO.size E.size) (bE.o.cals (E.mono aO.size)) (by have:=cT.o;omega) (OK.o.a l (Lm HX.o)))
    refine AH κ ?_;go_simp;refine (cO.o _ (AG Br 1)).mono ?_;rintro e u6 ⟨aX,aY,rfl,s,hx⟩;have C:=Lh ((AG Br 1).th s);have dB:=Lh hx;clear s hx;refine ⟨AB C.o HF.o,?_⟩;refine AH κ ?_;go_simp;refine ⟨AB (AA _ _) (AB C.o HF.o),?_⟩;have aT:=@Lh (AT (λt=>t=19) c c wr u6) (AT.ob C.o ω);have bW:=Lh (λb s=>A.o.2.2.1 b (Nt C.o.size s));have cM:=@Lh (∀ b,(u6.alloc (χ #[σ aX l aY] 54)).heap.size<=b->c b=0) (λb s=>bW.o b (by simp at s;omega));have bB:=@Lh (AT (λt=>t=19) c c wr (u6.alloc (χ #[σ aX l aY] 54))) (aT.o.trans (AT.ob (AA _ _) ω));refine AH κ ?_;refine Dz (λt=>t=6) (.tmp 96) (.tmp 99) 29 54 rfl underlying29 Kl rfl δ δ (c:=c) (tag:=6) (v:=σ bO k bP) (n:=k) (xs:=dM) rfl (cY.o.kp bB.o ω) (π u6 0) 1 1 [σ aX l aY] rfl rfl (λj u hu=>(Cy u6 _ _ j).trans (by simpa using hu)) (by simp [Value.oneCell']) δ (by have:=H8.o;omega) rfl δ cM.o (λg6 aM v6 bY aC hC cH dC=>?_);obtain ⟨f,aG⟩:=cR.o u6 c v6 bY (σ aX l aY) l (σ (ς (π g6 0)) (k+1) aM) aT.o bW.o (dB.o c (λb s=>A.o.2.2.1 b s)) ((AT.ob (AA _ _) ω).trans hC) cH (by rw [show ({ Ns m cs.length fuel with A:=cs.take k }:A3).A.length=k from bT.o];exact aC);have e0:=hC.cell (AB (AA _ _) (AB C.o HF.o)) (by show ¬c _=_;rw [aT.o.old _ A.o.2.1,(A.o.1)];omega);have ef:=hC.frozen (Nl A.o.2.1 bB.o.size) (bB.o.frozen A.o.2.1 (A.o.2.2.2 5) (by show ¬c bo=_;rw [A.o.1];omega)) (by show ¬c bo=_;rw [aT.o.old _ A.o.2.1,A.o.1];omega);refine ⟨.inl e0,?_⟩;refine AH κ ?_;go_simp;refine BH ?_;obtain ⟨W6,bZ⟩:=ε (v6.setCell (π bo 5) (σ (ς (π g6 0)) (k+1) aM));rw [<-bZ] at f aG ⊢;have cZ:Hid (Wj m cs fuel d.drew (λb=>if b=(w:Nat)+1+1 then 14 else 0) bo (k+1) W6 bY):=Lh ⟨(by
     have e:({ Ns m cs.length fuel with A:=cs.take k++[l] }:A3)={ Ns m cs.length fuel with A:=cs.take (k+1) }:=by rw [List.take_add_one,HX.o];rfl
     rw [<-e];exact f),F.o.chg.trans aG⟩
    clear f aG aC hC cH dC bZ e0 ef;go_wp2;go_roundw
    case rel=>exact ⟨k+1,ω,by go_num,Lh ⟨_,cZ.o⟩⟩
    case measure=>simp [intOf];omega
   .obtain rfl:k=cs.length:=ω
    have f:=F.o.st;rw [List.take_length] at f;obtain ⟨aH,cE⟩:=cX.o wr c F.o.chg;obtain ⟨dU,dV,eB,eC,eG,eH,bO,bP,dQ,dR,eE,eF,dO,dP,dS,dT,nr,nk,no,nb,ne,aC,aP⟩:=Xf (cd:=cd) (show Au wr c bo (Lx m fuel cs) from f) cE aH (bA.o wr c F.o.chg) cP.o;have bD:=Lh aP;obtain ⟨⟨x0,x1,x2,x3,x4,x5,x6,x7,x8,x9⟩,-,xz⟩:=Gk aC;obtain ⟨⟨K,L,M,N,O,P,Q,R,S,T⟩,⟨U,X,Y,Z,z4,z5,z6,z7,z8,z9⟩,zz⟩:=Gk aH;clear aH aC cE f aP;go_wp2_with fail;exact bD.o _ rfl _ rfl rfl rfl
