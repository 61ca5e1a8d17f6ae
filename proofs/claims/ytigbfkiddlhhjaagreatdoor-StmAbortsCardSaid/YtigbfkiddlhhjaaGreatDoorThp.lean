import Derived.Test.YtigbfkiddlhhjaaGreatDoorThu
set_option linter.all false
open Option renaming some→ς
open List renaming replicate→ϱ
open Go.Value renaming slice→σ
open Go.Obj renaming cells→χ
namespace Go.Proofs.YtigbfkiddlhhjaaGreatDoor
open Go.RowKit Proofs.Tryz
variable {o:Oper} {a:Act} {Kk:Act->World->Prop} {Q:Exit->Act->World->Prop} {w w':World} {z v:Value} {sz bytes tag n B bt b j:Nat} {c:AQ} {xs:List Value} {c':A1} {m m':AV} {r:Rq}
def wp_appW (T:Nat->Prop) (s x:Operand) (t e:TypeId) (P:o.op=.call { callee:=.builtin .append,args:=#[s,x],argTypes:=#[t,t] }) (R:prog.underlying t=ς (.slice e)) (N:(prog.info? e).map (λi=>(i.zero,i.size,i.bytes))=ς (ς z,sz,bytes)) (U:z.cells.size=sz) (D:0<sz)
  {c:A1} (hs:a.eval s=v) (A:Ao w c tag e sz v n xs) (y:Addr) (m E:Nat) (d:List Value) (S:a.eval x=σ (ς y) m E) (hl:d.length=m*sz) (l:∀ (j:Nat) u,d[j]?=ς u->w.cell? (y.add j)=ς u) (q:∀ u∈d,u.oneCell'=true) (O:0<m) (F:n+m<=1000000000000) (C:(n+m)*bytes<=128000000000000) (M:T tag) (K:¬T 0) (B:∀ b,(w:Nat)<=b->c b=0)
  (h:∀ g f w' c',Ao w' c' tag e sz (σ (ς (π g 0)) (n+m) f) (n+m) (xs++d)->AT T c c' w w'->(∀ b,w'.heap.size<=b->c' b=0)->c' g=tag->Kk (a.put o.dst (σ (ς (π g 0)) (n+m) f)) w'):o.wp prog a w Kk Q:=by
 obtain ⟨V,G,H,I,J⟩:=info_parts N;refine wp_append_lies w s x t P 0 e V z sz bytes R G H I J U D v n xs hs A.1 y m E d S hl l q O (by unfold maxLen;omega) ?_ (Nat.zero_le _) (w:Nat) rfl (λg f w' L p r X=>?_)
 .exact Nt C δ
 .have aA:g<w->c g=tag:=λW=>by
   rcases r with r|r
   .exact A.2.1 g (by rw [r];simp)
   .omega
  refine h g f w' (λb=>if b=g then tag else c b) ⟨L,λb k=>?_,ω⟩ ⟨p.os,p.tape,p.output,p.size,λb k F=>p.block b k (λe=>F ?_),λb k=>?_,K⟩ (λb k=>?_) (if_pos rfl)
  .simp [Value.ownBlock] at k
   exact if_pos k
  .rw [A.2.1 b (by rw [<-e];simp)];exact M
  .split
   .rename_i e;subst e;exact (aA k).symm
   .rfl
  .rw [if_neg ω]
   exact B b (Nt p.size k)
def Dz (T:Nat->Prop) (s x:Operand) (t e:TypeId) (H:o.op=.call { callee:=.builtin .append,args:=#[s,x],argTypes:=#[t,t] }) (I:prog.underlying t=ς (.slice e)) (F:(prog.info? e).map (λi=>(i.zero,i.size,i.bytes))=ς (ς z,sz,bytes)) (K:z.cells.size=sz) (r:0<sz) (E:bytes<=128)
  {c:A1} (hs:a.eval s=v) (C:Ao w c tag e sz v n xs) (p:Addr) (m y:Nat) (d:List Value) (J:a.eval x=σ (ς p) m y) (hl:d.length=m*sz) (f:∀ (j:Nat) u,d[j]?=ς u->w.cell? (p.add j)=ς u) (l:∀ u∈d,u.oneCell'=true) (G:0<m) (A:n+m<=1000000000000) (D:T tag) (B:¬T 0) (q:∀ b,(w:Nat)<=b->c b=0)
  (h:∀ g k w' c',Ao w' c' tag e sz (σ (ς (π g 0)) (n+m) k) (n+m) (xs++d)->AT T c c' w w'->(∀ b,w'.heap.size<=b->c' b=0)->c' g=tag->Kk (a.put o.dst (σ (ς (π g 0)) (n+m) k)) w'):o.wp prog a w Kk Q:=
 wp_appW T s x t e H I F K r hs C p m y d J hl f l G A (Nat.mul_le_mul A E) D B q h
def JB:(prog.info? 114).map (λi=>(i.zero,i.size,i.bytes))=ς (ς (.agg #[ι 0,ι 0,ι 0,ι 0,ι 0]),5,40):=by kernel_rfl
structure Xn (cd:AQ) (r:Rq):Prop where
 D:0<=r.D
 O:0<=r.O
 nodeV:r.O<=1099511627776
 V:in64 r.V
 alloc:r.K=3->∃ n,cd.H[r.D.toNat]?=ς n/\0<=n/\n<=12
def AT.belowN {c:A1} (h:AT NZ c c' w w') (d:∀ b,b<B->¬NZ (c b)) (e:B<=w):Below B w w':=⟨h.os,h.tape,h.output,h.size,λb a=>h.kp b ω (d b a)⟩
def AT.lowN {c:A1} (h:AT NZ c c' w w') (d:∀ b,b<B->¬NZ (c b)) (e:B<=w):∀ b,b<B->¬NZ (c' b):=λb a=>by rw [h.old b ω];exact d b a
structure Kt (w:World) (bt:Nat) (m:Mm):Prop where
 g:∃ ga gc,w.cell? (π bt 0)=ς (σ ga m.G gc)/\∀ (j:Nat) v,m.G[j]?=ς v->∃ b o,ga=ς (π b o)
 n:∃ na nc,w.cell? (π bt 1)=ς (σ na m.N nc)/\∀ (i:Nat) x,m.N[i]?=ς x->∃ nb no la lc,na=ς (π nb no)/\w.cell? (π nb (no+i*2+1))=ς (σ la x.f lc)/\∀ (j:Nat) v,x.f[j]?=ς v->∃ b o,la=ς (π b o)
def Kt.grow {m:Mm} (h:Kt w bt m) (a:Below w w w'):Kt w' bt m:=by
 obtain ⟨⟨d,e,b,j⟩,p,r,c,f⟩:=h;exact ⟨⟨d,e,AB a b,j⟩,p,r,AB a c,λi x k=>by
  obtain ⟨q,no,l,n,h,o,g⟩:=f i x k;exact ⟨q,no,l,n,h,AB a o,g⟩⟩
def Wv (w:World) (bt:Nat) (r:Rq) (b o:Nat):Prop:=(r.O=0/\∃ n k,w.cell? (π bt 0)=ς (σ (ς (π b o)) n k))\/(1<=r.O/\∃ nb no n k n2 k2,w.cell? (π bt 1)=ς (σ (ς (π nb no)) n k)/\w.cell? (π nb (no+(r.O - 1).toNat*2+1))=ς (σ (ς (π b o)) n2 k2))
def Pb (w:World) (bt:Nat) (m:Mm) (r:Rq) (e:Ending) (w':World):Prop:=Below w w w'/\((((Bd m r).length:Int)<=r.D/\e=.returned (.pointer none))\/(r.D<((Bd m r).length:Int)/\∃ b o,Wv w bt r b o/\e=.returned (.pointer (ς (π b (o+r.D.toNat))))))
def Gz {m:Mm} (a:Below w w w') (h:((Bd m r).length:Int)<=r.D):Pb w bt m r (.returned (.pointer none)) w':=⟨a,.inl ⟨h,rfl⟩⟩
def J2 {m:Mm} {o:Nat} (a:Below w w w') (h:r.D<((Bd m r).length:Int)) (d:Wv w bt r b o) (c:j=o+r.D.toNat):Pb w bt m r (.returned (.pointer (ς (π b j)))) w':=⟨a,.inr ⟨h,b,o,d,by rw [c]⟩⟩
def Ay (a:Below w w w') (d:(w:Nat)<=b):Below w w (w'.setCell (π b j) v):=
 ⟨a.os,a.tape,a.output,by simpa using a.size,λk c=>by rw [heap_setCell_other _ _ _ _ (by show k≠b;omega)];exact a.block k c⟩
def QB {c:A1} {k:Nat} (f:k<=1000000) (e:c (w:Nat)=tag):Dq (w.alloc (χ (Ad (ϱ k 0)) 3)) c tag (σ (ς (π w 0)) k k) (ϱ k 0):=by
 refine ⟨⟨⟨?_,.inr ⟨(w:Nat),k,Ad (ϱ k 0),ψ,Nat.zero_le _,Hn w _,ψ,by unfold maxLen;omega,by simp [Ad],?_⟩⟩,λb a=>?_,by simp;omega⟩,λn d=>?_⟩
 .simp
 .simp [Ad]
 .simp [Value.ownBlock] at a;subst a;exact e
 .simp at d;rw [d.2];unfold in64;omega
def AT.pre {c:A1} {a b d:World} (h:Below a a b) (k:AT NZ c c' b d):AT NZ c c' a d:=(AT.ob h Qx).trans k
inductive H7 (m:AV):KM->Prop
 | go (m1:AV):m1.Y<=m.Y/\m1.C+Co m1<=m.C+Co m/\m1.I<=100000->H7 m (.go m1)
 | stop (r:Rq) (m1:AV):m1.Y<=m.Y/\m1.C+Co m1<=m.C+Co m/\m1.I<=100000->H7 m (.stop r m1)
def H7.ite {p:Prop} [Decidable p] {a b:KM} (c:H7 m a) (d:H7 m b):H7 m (if p then a else b):=by split<;>assumption
def Uy (c:AQ) (m:AV) (fs:List AY) (f:AY) (y:BK) (x:Cd) (h:m.I<100000):H7 m (Df c m fs f y x):=by
 have b:∀ a:List AY,({ m with I:=m.I+1,J:=a }:AV).Y<=m.Y/\({ m with I:=m.I+1,J:=a }:AV).C+Co { m with I:=m.I+1,J:=a }<=m.C+Co m/\({ m with I:=m.I+1,J:=a }:AV).I<=100000:=λa=>by unfold Co;simp only [];omega
 have d:∀ a:List AY,({ m with I:=m.I+1,C:=m.C+DS x.op,J:=a }:AV).Y<=m.Y/\({ m with I:=m.I+1,C:=m.C+DS x.op,J:=a }:AV).C+Co { m with I:=m.I+1,C:=m.C+DS x.op,J:=a }<=m.C+Co m/\({ m with I:=m.I+1,C:=m.C+DS x.op,J:=a }:AV).I<=100000:=λa=>by
  have:DS x.op<=1:=by unfold DS;split<;>omega
  unfold Co;simp only [];omega
 have g:∀ a:List AY,({ m with Y:=m.Y - 1,I:=0,J:=a }:AV).Y<=m.Y/\({ m with Y:=m.Y - 1,I:=0,J:=a }:AV).C+Co { m with Y:=m.Y - 1,I:=0,J:=a }<=m.C+Co m/\({ m with Y:=m.Y - 1,I:=0,J:=a }:AV).I<=100000:=λa=>by unfold Co;simp only [];omega
 have e:m.Y<=m.Y/\m.C+Co m<=m.C+Co m/\m.I<=100000:=ω;unfold Df;simp only []
 repeat' apply H7.ite
 all_goals first|exact .go _ (b _)|exact .stop _ _ (b _)|exact .go _ (d _)|exact .stop _ _ (d _)|exact .go _ (g _)|skip
 .cases Dt c x.a with
  | none=>exact .stop _ _ e
  | some z=>
   simp only [];apply H7.ite
   .exact .go _ (b _)
   .exact .stop _ _ (b _)
 .cases fs.getLast? with
  | none=>exact .stop _ _ (b _)
  | some z=>exact .go _ (b _)
def PI (c:AQ) (m:AV) (b:m.I<=100000):H7 m (stepP c m):=by
 have a:m.Y<=m.Y/\m.C+Co m<=m.C+Co m/\m.I<=100000:=ω;unfold stepP;split
 .exact .stop _ _ a
 .cases m.J.getLast? with
  | none=>exact .stop _ _ a
  | some f=>
   simp only [];cases c.funcs[f.fn.toNat]? with
   | none=>exact .stop _ _ a
   | some y=>
    simp only [];cases y.code[f.pc.toNat]? with
    | none=>exact .stop _ _ a
    | some x=>exact Uy c m _ f y x ω
def JN (h:Cf c m m'):m.I<=100000->m'.Y<=m.Y/\m'.C+Co m'<=m.C+Co m/\m'.I<=100000:=by
 induction h with
 | stop a=>
  intro b;have:=PI c _ b;rw [a] at this;cases this with
  | stop _ _ h=>exact h
 | go a _ d=>
  intro b;have:=PI c _ b;rw [a] at this;cases this with
  | go _ h=>have:=d h.2.2;omega
def Tt {x:Cd} (h:Ko x r):AP x r=true:=by
 unfold AP;rcases h with ⟨a,rfl⟩|⟨v,a,c,rfl⟩|⟨n,a,d,b,rfl⟩|⟨n,v,a,d,b,c,rfl⟩|⟨a,rfl⟩
 .rw [a];simp [Aa,Ag]
 .rw [a];simp [Aa,Ag];exact .inr (Aq.2 c)
 .rw [a];simp [Aa,Ag];unfold BP at b;omega
 .rw [a];simp [Aa,Ag];unfold BP at b;exact ⟨⟨d,b.2⟩,.inr (Aq.2 c)⟩
 .rw [a];simp [Aa,Ag]
def Oi :∀ (l:List AY) (g:AY),Ge c l g.fn->∀ (j:Nat) f,l[j]?=ς f->DL c f (λx=>x.op=9/\x.a=((if j=0 then ς g else l[j - 1]?).map (·.fn)).getD 0)
 | [],g,_,j,f,h=>by simp at h
 | a::l,g,h,0,f,hf=>by simp at hf;subst hf;exact h.1
 | a::l,g,h,j+1,f,hf=>by
  have:=Oi l a h.2 j f (by simpa using hf);refine this.imp (λx b=>⟨b.1,?_⟩);rw [b.2];cases j with
  | zero=>simp
  | succ j=>simp
def Lv (hs:AU c) {fs:List AY} {f:AY} (h:C9 c m m.Q fs f) (e:EB m) (p:m.Y<=1048576) (o:m.C<=1099511627776):Ax c m:=by
 have r:=h.len;have a:=h.fr;refine ⟨hs,⟨e.Y,p⟩,⟨e.cmp0,o⟩,⟨e.idle0,e.idle1⟩,by rw [a];simp;omega,.inr ⟨by rw [a];simp,λk g b=>?_⟩⟩;have q:m.J.length=fs.length+1:=by rw [a];simp
 unfold BU;by_cases j:k<fs.length
 .rw [a,Al j] at b
  have n:fs.reverse[fs.length - 1 - k]?=ς g:=by rw [List.getElem?_reverse ω];rw [show fs.length - 1 - (fs.length - 1 - k)=k by omega];exact b
  refine (Oi _ _ h.low _ _ n).imp (λx d=>?_);rw [if_neg ω];refine ⟨d.1,?_⟩;by_cases l:k+1=fs.length
  .refine ⟨f,by rw [a,Ar ω,l];simp,?_⟩
   rw [d.2,if_pos ω];rfl
  .obtain ⟨i,aB⟩:∃ i,fs[k+1]?=ς i:=⟨_,Lg ω⟩
   refine ⟨i,by rw [a,Al ω];exact aB,?_⟩;rw [d.2,if_neg ω,List.getElem?_reverse ω,show fs.length - 1 - (fs.length - 1 - k - 1)=k+1 by omega,aB];rfl
 .have aC:k=fs.length:=by
   have:=(Ll b)
   omega
  rw [a,aC] at b;simp at b;subst b;refine h.top.imp (λx d=>?_);rw [if_pos ω];exact Tt d
structure Iv (c:AQ) (m:AV):Prop where
 waits:∃ fs f,C9 c m m.Q fs f
 nums:EB m
 Y:m.Y<=1048576
 cmp:m.C+Co m<=1000000000000
def Iv.valid (hs:AU c) (h:Iv c m):Ax c m:=by
 obtain ⟨d,f,b⟩:=h.waits;refine Lv hs b h.nums h.Y ?_;have e:=h.nums.Y;have g:=h.nums.idle1;have a:=h.cmp;unfold Co at a;omega
def Iv.K (h:Iv c m):m.Q.K=1\/m.Q.K=2\/m.Q.K=3:=by
 obtain ⟨d,f,b⟩:=h.waits;obtain ⟨_,x,_,_,_,_,a,_⟩:=b.top;exact EW a
def Iv.asks (h:Iv c m):Cs m=true:=by
 unfold Cs;rcases h.K with e|e|e<;>simp [e]
def FB (h:Cs m=true):m.Q.K≠4/\m.Q.K≠5:=by
 unfold Cs at h;simp at h;omega
def Fy.q (h:Fy c r):Xn c r:=⟨h.D,h.O,h.nodeV.2,by have:=h.V;unfold BP at this;unfold in64;omega,h.alloc⟩
def Kn (h:DQ c m) (d:Cs m=true) (g:m.Y<=1048576) (f:m.C+Co m<=1000000000000):Iv c m:=by
 obtain ⟨i,h⟩:=h;have b:=FB d;rcases h with ⟨e,_,a,_⟩|⟨v,_,a,_⟩|j
 .exact absurd (by rw [a];rfl) b.2
 .exact absurd (by rw [a];rfl) b.1
 .exact ⟨j,i,g,f⟩
def Jn (hs:AU c) {x:Bi} {fuel:Int} (h:AS c x fuel=0) (a:Cf c (CF c x fuel) m):DQ c m/\m.Y<=1048576/\m.C+Co m<=1000000000000:=by
 have g:0<=fuel/\fuel<=1048576:=by
  unfold AS at h;by_cases f:fuel<0\/1048576<fuel
  .rw [if_pos f] at h;omega
  .omega
 have e:=JN a (by show (0:Int)<=100000;omega);have b:(CF c x fuel).Y=fuel:=rfl;have d:(CF c x fuel).C+Co (CF c x fuel)=0+(fuel*100001+(100000 - 0)):=rfl;rw [b,d] at e;exact ⟨(Nn hs h a).1,ω,ω⟩
def TX (hs:AU c) {n:Int} (h:Iv c m) (o:Bj m.Q n=true) (k:ED c m n m'):(DQ c m'\/(m'.J=[]/\m'.Q=Ah 21/\EB m'))/\m'.Y<=1048576/\m'.C+Co m'<=1000000000000:=by
 have j:=FB h.asks;have l:DQ c m:=⟨h.nums,.inr (.inr h.waits)⟩
 refine ⟨(IR hs l j.1 j.2 o k).1,?_⟩;have a:=h.Y;have b:=h.cmp;have i:=h.nums.idle1;rcases k with ⟨_,_,rfl⟩|⟨_,g,f,_,d⟩|⟨_,d⟩
 .exact ⟨a,b⟩
 .have:=JN d i
  have e:({ m with Q:=Eg,J:=g++[{ f with S:=f.S++[n] }] }:AV).C+Co { m with Q:=Eg,J:=g++[{ f with S:=f.S++[n] }] }=m.C+Co m:=rfl;rw [e] at this;exact ⟨Int.le_trans this.1 a,Int.le_trans this.2.1 b⟩
 .have:=JN d i
  have e:({ m with Q:=Eg }:AV).C+Co { m with Q:=Eg }=m.C+Co m:=rfl;rw [e] at this;exact ⟨Int.le_trans this.1 a,Int.le_trans this.2.1 b⟩
def Fy.wf (h:Fy c r) (d:r.X=0):r.wf:=by
 have e:=h.K;have f:=h.D;have g:=h.field2;have i:=h.O;have a:=h.nodeV;have b:=h.V;unfold BP at a b;unfold Rq.wf in64;rw [d];omega
def RN (hs:AU c) (h:DQ c m\/(m.J=[]/\m.Q=Ah 21/\EB m)) (d:m.Y<=1048576):GC m:=by
 have g:∀ m:AV,EB m->m.Y<=1048576->in64 m.Y/\in64 m.C/\in64 m.I:=λm a d=>by have p:=a.Y;have q:=a.idle0;have r:=a.idle1;have s:=a.cmp0;have j:=a.potle;unfold Co at j;unfold in64;omega
 rcases h with ⟨a,h⟩|⟨_,b,a⟩
 .refine ⟨?_,g m a d⟩
  rcases h with ⟨e,t,b,_⟩|⟨v,l,b,_⟩|⟨o,f,i⟩
  .rw [b];unfold Ah Rq.wf in64;simp;omega
  .rw [b];unfold BP at l;unfold EE Rq.wf in64;simp;omega
  .refine (i.Q hs).wf ?_
   obtain ⟨_,x,_,_,_,_,k,_⟩:=i.top;rcases k with ⟨_,e⟩|⟨v,_,_,e⟩|⟨n,_,_,_,e⟩|⟨n,v,_,_,_,_,e⟩|⟨_,e⟩<;>rw [e]
 .exact ⟨by rw [b];unfold Ah Rq.wf in64;simp,g m a d⟩
def Uu {α:Type} {l:List α} {t:Nat} {x:α} (h:l[t]?=ς x):l.set t x=l:=by
 obtain ⟨a,rfl⟩:=List.getElem?_eq_some_iff.1 h;exact List.set_getElem_self a
def Fy.f64 (h:Fy c r):r.D<=1000000:=by have:=h.field2;omega
