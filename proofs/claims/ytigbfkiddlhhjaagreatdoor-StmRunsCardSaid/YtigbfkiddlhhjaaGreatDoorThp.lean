import Derived.Test.YtigbfkiddlhhjaaGreatDoorGst
import Derived.Great.BuildSlice
set_option maxHeartbeats 1000000
set_option linter.all false
open Go renaming World→Ϣ,Value→ϒ
open Go.RowKit renaming Below→ϐ
open Option renaming some→X
open Bool renaming false→ϝ,true→ϑ
open List renaming replicate→ϱ,mem_cons→ϰ
open Go.Value renaming slice→H
open Go.Obj renaming cells→χ
namespace Go.Proofs.YtigbfkiddlhhjaaGreatDoor
open Go.RowKit Proofs.Tryz
open Go.RowKit renaming π→U,ω→Z
variable{α:Type}{e:TypeId}{o o10 o12:Oper}{a:Act}{Q:Exit->Act->Ϣ->Prop}{w w' wr w8 w9 W:Ϣ}{z v v' gv nv:ϒ}{sz bytes tag n B bt b j k d t cap g1 bi br bo nc R i fld kk:Nat}{c c' c1 c9:A1}{xs nx:List ϒ}{m m':AV}{r:Rq}{x:Bi}{f:Nat->ϒ}{fuel:Int}{T:Nat->Prop}{ops:Array Oper}{rest:List Oper}{iv:Array ϒ}{na:Option Addr}{sl:Nat->Nat}{cs:List (List Bi)}{l:List α}
def Xir{Kk:Act->Ϣ->Prop}(T:Nat->Prop)(s x:Operand)(t e:TypeId)(Y:o.op=.call {callee:=.builtin .append,args:=#[s,x],argTypes:=#[t,t]})(hu:prog.underlying t=X (.slice e))(V:(prog.info? e).map (λi=>(i.zero,i.size,i.bytes))=X (X z,sz,bytes))(hz:z.cells.size=sz)(C:0<sz)
  (hs:a.eval s=v) (y:Ao w c tag e sz v n xs) (r:Addr) (m E:Nat) (d:List ϒ) (hx:a.eval x=H (X r) m E) (hl:d.length=m*sz) (k:∀(j:Nat) u,d[j]?=X u->w.cell? (r.add j)=X u) (p:∀u∈d,u.oneCell'=ϑ) (W:0<m) (F:n+m<=1000000000000) (B:(n+m)*bytes<=128000000000000) (S:T tag) (P:¬T 0) (A:∀b,(w:Nat)<=b->c b=0)
  (h:∀g cap w' c',Ao w' c' tag e sz (H (X (U g 0)) (n+m) cap) (n+m) (xs++d)->AT T c c' w w'->(∀b,w'.heap.size<=b->c' b=0)->c' g=tag->Kk (a.put o.dst (H (X (U g 0)) (n+m) cap)) w'):o.wp prog a w Kk Q:=by
 let⟨ti,J,L,M,N⟩:=info_parts V;refine wp_append_lies w s x t Y 0 e ti z sz bytes hu J L M N hz C v n xs hs y.1 r m E d hx hl k p W (by unfold maxLen;omega) ?_ (Nat.zero_le _) (w:Nat) rfl (λg cap w' R l q h4=>?_)
 .exact Nt B δ
 have G:g<w->c g=tag:=λaF=>by
  rcases q with q|q
  .exact y.2.1 g (by rw[q];simp)
  omega
 refine h g cap w' (λb=>if b=g then tag else c b) ⟨R,λb f=>?_,Z⟩ ⟨l.os,l.tape,l.output,l.size,λb f F=>l.block b f (λe=>F ?_),λb f=>?_,P⟩ (λb f=>?_) (if_pos rfl)
 .simp [Value.ownBlock]at f
  exact if_pos f
 .rw [y.2.1 b (by rw[<-e];simp)];exact S
 .split
  .rename_i e;subst e;exact(G f).symm
  rfl
 rw[if_neg Z];exact A b (Nt l.size f)
def Dz{Kk:Act->Ϣ->Prop}(T:Nat->Prop)(s x:Operand)(t e:TypeId)(M:o.op=.call {callee:=.builtin .append,args:=#[s,x],argTypes:=#[t,t]})(L:prog.underlying t=X (.slice e))(J:(prog.info? e).map (λi=>(i.zero,i.size,i.bytes))=X (X z,sz,bytes))(F:z.cells.size=sz)(E:0<sz)(G:bytes<=128)
  (hs:a.eval s=v) (C:Ao w c tag e sz v n xs) (g:Addr) (m k:Nat) (f:List ϒ) (B:a.eval x=H (X g) m k) (hl:f.length=m*sz) (A:∀(j:Nat) d,f[j]?=X d->w.cell? (g.add j)=X d) (y:∀d∈f,d.oneCell'=ϑ) (u:0<m) (h:n+m<=1000000000000) (r:T tag) (q:¬T 0) (p:∀b,(w:Nat)<=b->c b=0)
  (l:∀d cap w' c',Ao w' c' tag e sz (H (X (U d 0)) (n+m) cap) (n+m) (xs++f)->AT T c c' w w'->(∀b,w'.heap.size<=b->c' b=0)->c' d=tag->Kk (a.put o.dst (H (X (U d 0)) (n+m) cap)) w'):o.wp prog a w Kk Q:=
 Xir T s x t e M L J F E hs C g m k f B hl A y u h (Nat.mul_le_mul h G) r q p l
def JB:(prog.info? 114).map (λi=>(i.zero,i.size,i.bytes))=X (X (.agg #[ι 0,ι 0,ι 0,ι 0,ι 0]),5,40):=by kernel_rfl
structure Xn(cd:AQ)(r:Rq):Prop where
 D:0<=r.D
 O:0<=r.O
 nodeV:r.O<=1099511627776
 V:in64 r.V
 alloc:r.K=3->∃n,cd.H[r.D.toNat]?=X n/\0<=n/\n<=12
def AT.belowN(a:AT NZ c c' w w')(e:∀b,b<B->¬NZ (c b))(d:B<=w):ϐ B w w':=⟨a.os,a.tape,a.output,a.size,λb d=>a.kp b Z (e b d)⟩
def AT.lowN(e:AT NZ c c' w w')(d:∀b,b<B->¬NZ (c b))(a:B<=w):∀b,b<B->¬NZ (c' b):=λb a=>by rw[e.old b Z];exact d b a
structure Kt(w:Ϣ)(bt:Nat)(m:Mm):Prop where
 g:∃ga gc,w.cell? (U bt 0)=X (H ga m.G gc)/\∀(j:Nat) v,m.G[j]?=X v->∃b o,ga=X (U b o)
 n:∃na nc,w.cell? (U bt 1)=X (H na m.N nc)/\∀(i:Nat) x,m.N[i]?=X x->∃nb no la lc,na=X (U nb no)/\w.cell? (U nb (no+i*2+1))=X (H la x.f lc)/\∀(j:Nat) v,x.f[j]?=X v->∃b o,la=X (U b o)
def Kt.grow{m:Mm}(g:Kt w bt m)(a:ϐ w w w'):Kt w' bt m:=by
 let⟨⟨b,c,d,e⟩,na,nc,f,j⟩:=g;exact⟨⟨b,c,AB a d,e⟩,na,nc,AB a f,λi x f=>by
  let⟨e,no,c,d,b,h,g⟩:=j i x f;exact⟨e,no,c,d,b,AB a h,g⟩⟩
def Wv(w:Ϣ)(bt:Nat)(r:Rq)(b o:Nat):Prop:=(r.O=0/\∃n k,w.cell? (U bt 0)=X (H (X (U b o)) n k))\/(1<=r.O/\∃nb no n k n2 k2,w.cell? (U bt 1)=X (H (X (U nb no)) n k)/\w.cell? (U nb (no+(r.O-1).toNat*2+1))=X (H (X (U b o)) n2 k2))
def Pb(w:Ϣ)(bt:Nat)(m:Mm)(r:Rq)(e:Ending)(w':Ϣ):Prop:=ϐ w w w'/\((((Bd m r).length:Int)<=r.D/\e=.returned (.pointer none))\/(r.D<((Bd m r).length:Int)/\∃b o,Wv w bt r b o/\e=.returned (.pointer (X (U b (o+r.D.toNat))))))
def Gz{m:Mm}(b:ϐ w w w')(a:((Bd m r).length:Int)<=r.D):Pb w bt m r (.returned (.pointer none)) w':=⟨b,.inl ⟨a,rfl⟩⟩
def J2{m:Mm}{o:Nat}(e:ϐ w w w')(d:r.D<((Bd m r).length:Int))(c:Wv w bt r b o)(a:j=o+r.D.toNat):Pb w bt m r (.returned (.pointer (X (U b j)))) w':=⟨e,.inr ⟨d,b,o,c,by rw[a]⟩⟩
def Ay(a:ϐ w w w')(c:(w:Nat)<=b):ϐ w w (w'.setCell (U b j) v):=
 ⟨a.os,a.tape,a.output,by simpa using a.size,λk c=>by rw[heap_setCell_other _ _ _ _ (by show k≠b;omega)];exact a.block k c⟩
def IZ:(prog.info? 72).map (λi=>(i.zero,i.size,i.bytes))=X (X (.agg #[ι 0,ν]),2,32):=by kernel_rfl
def QB(f:k<=1000000)(e:c (w:Nat)=tag):Dq (w.alloc (χ (Ad (ϱ k 0)) 3)) c tag (H (X (U w 0)) k k) (ϱ k 0):=by
 refine⟨⟨⟨?_,.inr ⟨(w:Nat),k,Ad (ϱ k 0),ψ,Nat.zero_le _,Hn w _,ψ,by unfold maxLen;omega,by simp[Ad],?_⟩⟩,λb a=>?_,by simp;omega⟩,λn d=>?_⟩
 .simp
 .simp [Ad]
 .simp [Value.ownBlock]at a;subst a;exact e
 simp at d;rw[d.2];unfold in64;omega
def AT.pre{a b d:Ϣ}(e:ϐ a a b)(k:AT NZ c c' b d):AT NZ c c' a d:=(AT.ob e Qx).trans k
inductive H7(m:AV):KM->Prop
 |go (m1:AV):m1.Y<=m.Y/\m1.C+Co m1<=m.C+Co m/\m1.I<=100000->H7 m (.go m1)
 |stop (r:Rq) (m1:AV):m1.Y<=m.Y/\m1.C+Co m1<=m.C+Co m/\m1.I<=100000->H7 m (.stop r m1)
def H7.ite{p:Prop}[Decidable p]{a b:KM}(c:H7 m a)(c:H7 m b):H7 m (if p then a else b):=by split<;>assumption
def Uy(c:AQ)(m:AV)(fs:List AY)(f:AY)(y:BK)(x:Cd)(a:m.I<100000):H7 m (Df c m fs f y x):=by
 have b:∀a:List AY,({m with I:=m.I+1,J:=a}:AV).Y<=m.Y/\({m with I:=m.I+1,J:=a}:AV).C+Co {m with I:=m.I+1,J:=a}<=m.C+Co m/\({m with I:=m.I+1,J:=a}:AV).I<=100000:=λa=>by unfold Co;simp only[];omega
 have d:∀a:List AY,({m with I:=m.I+1,C:=m.C+DS x.op,J:=a}:AV).Y<=m.Y/\({m with I:=m.I+1,C:=m.C+DS x.op,J:=a}:AV).C+Co {m with I:=m.I+1,C:=m.C+DS x.op,J:=a}<=m.C+Co m/\({m with I:=m.I+1,C:=m.C+DS x.op,J:=a}:AV).I<=100000:=λa=>by
  have:DS x.op<=1:=by unfold DS;split<;>omega
  unfold Co;simp only[];omega
 have g:∀a:List AY,({m with Y:=m.Y-1,I:=0,J:=a}:AV).Y<=m.Y/\({m with Y:=m.Y-1,I:=0,J:=a}:AV).C+Co {m with Y:=m.Y-1,I:=0,J:=a}<=m.C+Co m/\({m with Y:=m.Y-1,I:=0,J:=a}:AV).I<=100000:=λa=>by unfold Co;simp only[];omega
 have e:m.Y<=m.Y/\m.C+Co m<=m.C+Co m/\m.I<=100000:=Z;unfold Df;simp only[];repeat' apply H7.ite
 all_goals first|exact .go _ (b _)|exact .stop _ _ (b _)|exact .go _ (d _)|exact .stop _ _ (d _)|exact .go _ (g _)|skip
 .cases Dt c x.a with
  |none=>exact .stop _ _ e
  |some z=>
   simp only[];apply H7.ite
   .exact .go _ (b _)
   exact .stop _ _ (b _)
 cases fs.getLast? with
 |none=>exact .stop _ _ (b _)
 |some z=>exact .go _ (b _)
def PI(c:AQ)(m:AV)(d:m.I<=100000):H7 m (stepP c m):=by
 have a:m.Y<=m.Y/\m.C+Co m<=m.C+Co m/\m.I<=100000:=Z;unfold stepP;split
 .exact .stop _ _ a
 cases m.J.getLast? with
 |none=>exact .stop _ _ a
 |some f=>
  simp only[];cases c.q0[f.fn.toNat]? with
  |none=>exact .stop _ _ a
  |some b=>
   simp only[];cases b.q9[f.pc.toNat]? with
   |none=>exact .stop _ _ a
   |some x=>exact Uy c m _ f b x Z
def JN{c:AQ}(a:Cf c m m'):m.I<=100000->m'.Y<=m.Y/\m'.C+Co m'<=m.C+Co m/\m'.I<=100000:=by
 induction a with
 |stop b=>
  intro a;have:=PI c _ a;rw[b]at this;cases this with
  |stop _ _ a=>exact a
 |go b _ d=>
  intro a;have:=PI c _ a;rw[b]at this;cases this with
  |go _ a=>have:=d a.2.2;omega
def Tt{x:Cd}(e:Ko x r):AP x r=ϑ:=by
 unfold AP;rcases e with ⟨a,rfl⟩|⟨v,a,c,rfl⟩|⟨n,a,d,b,rfl⟩|⟨n,v,a,d,b,c,rfl⟩|⟨a,rfl⟩
 .rw [a];simp[Aa,Ag]
 .rw [a];simp[Aa,Ag];exact .inr (Aq.2 c)
 .rw [a];simp[Aa,Ag];unfold BP at b;omega
 .rw [a];simp[Aa,Ag];unfold BP at b;exact⟨⟨d,b.2⟩,.inr (Aq.2 c)⟩
 rw[a];simp[Aa,Ag]
def Oi{c:AQ}:∀(l:List AY)(g:AY),Ge c l g.fn->∀(j:Nat) f,l[j]?=X f->DL c f (λx=>x.op=9/\x.a=((if j=0 then X g else l[j-1]?).map (·.fn)).getD 0)
 |[],g,_,j,f,h=>by simp at h
 |a::l,g,h,0,f,hf=>by simp at hf;subst hf;exact h.1
 |a::l,g,h,j+1,f,hf=>by
  have:=Oi l a h.2 j f (by simpa using hf);refine this.imp (λx b=>⟨b.1,?_⟩);rw[b.2];cases j with
  |zero=>simp
  |succ j=>simp
def Lv{c:AQ}(hs:AU c){fs:List AY}{f:AY}(g:C9 c m m.Q fs f)(b:EB m)(h:m.Y<=1048576)(e:m.C<=1099511627776):Ax c m:=by
 have:=g.len;have a:=g.fr;refine⟨hs,⟨b.Y,h⟩,⟨b.cmp0,e⟩,⟨b.idle0,b.idle1⟩,by rw[a];simp;omega,.inr ⟨by rw[a];simp,λk e d=>?_⟩⟩;have:m.J.length=fs.length+1:=by rw[a];simp
 unfold BU;by_cases j:k<fs.length
 .rw [a,Al j]at d
  have b:fs.reverse[fs.length-1-k]?=X e:=by rw[List.getElem?_reverse Z];rw[show fs.length-1-(fs.length-1-k)=k by omega];exact d
  refine(Oi _ _ g.low _ _ b).imp (λx e=>?_);rw[if_neg Z];refine⟨e.1,?_⟩;by_cases i:k+1=fs.length
  .refine ⟨f,by rw[a,Ar Z,i];simp,?_⟩
   rw[e.2,if_pos Z];rfl
  obtain⟨b,h⟩:=Ϡ fs (k+1);refine⟨b,by rw[a,Al Z];exact h,?_⟩;rw[e.2,if_neg Z,List.getElem?_reverse Z,show fs.length-1-(fs.length-1-k-1)=k+1 by omega,h];rfl
 have b:k=fs.length:=by
  have:=(Ll d);omega
 rw[a,b]at d;simp at d;subst d;refine g.top.imp (λx a=>?_);rw[if_pos Z];exact Tt a
structure Iv(c:AQ)(m:AV):Prop where
 waits:∃fs f,C9 c m m.Q fs f
 nums:EB m
 Y:m.Y<=1048576
 cmp:m.C+Co m<=1000000000000
def Iv.valid{c:AQ}(hs:AU c)(a:Iv c m):Ax c m:=by
 let⟨_,f,b⟩:=a.waits;refine Lv hs b a.nums a.Y ?_;have:=a.nums.Y;have:=a.nums.idle1;have b:=a.cmp;unfold Co at b;omega
def Iv.K{c:AQ}(a:Iv c m):m.Q.K=1\/m.Q.K=2\/m.Q.K=3:=by
 let⟨_,f,b⟩:=a.waits;let⟨_,x,_,_,_,_,a,_⟩:=b.top;exact EW a
def Iv.asks{c:AQ}(a:Iv c m):Cs m=ϑ:=by
 unfold Cs;rcases a.K with e|e|e<;>simp[e]
def FB(a:Cs m=ϑ):m.Q.K≠4/\m.Q.K≠5:=by
 unfold Cs at a;simp at a;omega
def Fy.q{c:AQ}(a:Fy c r):Xn c r:=⟨a.D,a.O,a.nodeV.2,by have:=a.V;unfold BP at this;unfold in64;omega,a.alloc⟩
def Kn{c:AQ}(b:DQ c m)(g:Cs m=ϑ)(j:m.Y<=1048576)(i:m.C+Co m<=1000000000000):Iv c m:=by
 let⟨h,b⟩:=b;have d:=FB g;rcases b with ⟨e,_,a,_⟩|⟨v,_,a,_⟩|f
 .exact absurd (by rw[a];rfl) d.2
 .exact absurd (by rw[a];rfl) d.1
 exact⟨f,h,j,i⟩
def Jn{c:AQ}(hs:AU c)(a:AS c x fuel=0)(d:Cf c (CF c x fuel) m):DQ c m/\m.Y<=1048576/\m.C+Co m<=1000000000000:=by
 have:0<=fuel/\fuel<=1048576:=by
  unfold AS at a;by_cases b:fuel<0\/1048576<fuel
  .rw [if_pos b]at a;omega
  omega
 have g:=JN d (by show(0:Int)<=100000;omega);have f:(CF c x fuel).Y=fuel:=rfl;have e:(CF c x fuel).C+Co (CF c x fuel)=0+(fuel*100001+(100000-0)):=rfl;rw[f,e]at g;exact⟨(Nn hs a d).1,Z,Z⟩
def TX{c:AQ}(hs:AU c){n:Int}(a:Iv c m)(o:Bj m.Q n=ϑ)(j:ED c m n m'):(DQ c m'\/(m'.J=[]/\m'.Q=Ah 21/\EB m'))/\m'.Y<=1048576/\m'.C+Co m'<=1000000000000:=by
 have d:=FB a.asks;have l:DQ c m:=⟨a.nums,.inr (.inr a.waits)⟩;refine⟨(IR hs l d.1 d.2 o j).1,?_⟩;have g:=a.Y;have i:=a.cmp;have k:=a.nums.idle1;rcases j with ⟨_,_,rfl⟩|⟨_,h,f,_,b⟩|⟨_,b⟩
 .exact ⟨g,i⟩
 .have:=JN b k
  have e:({m with Q:=Eg,J:=h++[{f with S:=f.S++[n]}]}:AV).C+Co {m with Q:=Eg,J:=h++[{f with S:=f.S++[n]}]}=m.C+Co m:=rfl;rw[e]at this;exact⟨Int.le_trans this.1 g,Int.le_trans this.2.1 i⟩
 have:=JN b k;have e:({m with Q:=Eg}:AV).C+Co {m with Q:=Eg}=m.C+Co m:=rfl;rw[e]at this;exact⟨Int.le_trans this.1 g,Int.le_trans this.2.1 i⟩
def Fy.wf{c:AQ}(a:Fy c r)(e:r.X=0):r.wf:=by
 have:=a.K;have:=a.D;have:=a.field2;have:=a.O;have d:=a.nodeV;have b:=a.V;unfold BP at d b;unfold Rq.wf in64;rw[e];omega
def RN{c:AQ}(hs:AU c)(d:DQ c m\/(m.J=[]/\m.Q=Ah 21/\EB m))(h:m.Y<=1048576):GC m:=by
 have l:∀m:AV,EB m->m.Y<=1048576->in64 m.Y/\in64 m.C/\in64 m.I:=λm a h=>by have:=a.Y;have:=a.idle0;have:=a.idle1;have:=a.cmp0;have j:=a.potle;unfold Co at j;unfold in64;omega
 rcases d with ⟨a,d⟩|⟨_,b,a⟩
 .refine ⟨?_,l m a h⟩
  rcases d with ⟨e,_,b,_⟩|⟨v,k,b,_⟩|⟨_,f,g⟩
  .rw [b];unfold Ah Rq.wf in64;simp;omega
  .rw [b];unfold BP at k;unfold EE Rq.wf in64;simp;omega
  refine(g.Q hs).wf ?_;let⟨_,x,_,_,_,_,i,_⟩:=g.top;rcases i with ⟨_,e⟩|⟨v,_,_,e⟩|⟨n,_,_,_,e⟩|⟨n,v,_,_,_,_,e⟩|⟨_,e⟩<;>rw[e]
 exact⟨by rw[b];unfold Ah Rq.wf in64;simp,l m a h⟩
def Uu{x:α}(b:l[t]?=X x):l.set t x=l:=by
 obtain⟨a,rfl⟩:=List.getElem?_eq_some_iff.1 b;exact List.set_getElem_self a
def Fy.f64{c:AQ}(a:Fy c r):r.D<=1000000:=by have:=a.field2;omega
def WS:Tl (λ_=>JW):=λ_ _ _ _ _ _ _ _ b a=>⟨b _ _ a.1,b _ _ a.2.1,a.2.2⟩
def WR:Tl CW:=λ_ _ _ _ _ _ _ j a b=>by
 let⟨c,d,e,f,⟨v,g,h⟩,i⟩:=b;exact⟨a _ _ c,a _ _ d,a _ _ e,a _ _ f,⟨v,a _ _ g,h.ups WS j a⟩,i⟩
def BF.ups{a:Nat}{cd:AQ}(c:B<=a)(b:JT w w')(h:BF B w v cd):BF a w' v cd:=by
 let⟨a,gv,d,e,f,g⟩:=h;exact⟨a,gv,d,e.ups B5 c b,f.ups WR c b,g⟩
def CE.below{fv:ϒ}(a:CE w fv m w'):ϐ w w w':=by let⟨_,_,_,a⟩:=a;exact a
def CE.fras{d:Option Addr}{a:Nat}(f:CE w (H d m.J a) m w')(g:∀b,(w:Nat)<=b->c b=0)(e:IK m):AE w' (mask w' c) 4 (CK w') (H d m.J a) m.J:=by
 let⟨_,a,d,_⟩:=f;have:=(a.kp (w':=mask w' c) (λb a=>Jj (g b (d b a)))).q4 e.1 e.2;rw[Hk]at this;exact this
def AE.tail{E:Ϣ->Nat->Nat->α->Prop}{o:Nat}{x:α}{a:Option Addr}(j:AE B w sz E (H (X (U b o)) (x::l).length cap) (x::l))(d:(if cap=1 then X ((U b o):Addr)else X (U b (o+sz)))=a):AE B w sz E (H a l (cap-1)) l:=by
 let⟨_,_,e,f,g,_,c⟩:=j;cases e;simp only[List.length_cons]at f g;refine⟨a,cap-1,rfl,Z,Z,Z,?_⟩;split at d
 .left;exact List.eq_nil_of_length_eq_zero Z
 rcases c with c|⟨_,_,e,h,c⟩
 .cases c
 cases e;refine .inr ⟨b,o+sz,d.symm,h,λi d f=>?_⟩;have:=c (i+1) d (by simpa using f);rwa[Nat.add_mul,Nat.one_mul,show o+(i*sz+sz)=o+sz+i*sz by omega]at this
def PB{t:TypeId}(a:TypeInfo)(f:prog.underlying t=X (.slice e))(d:prog.info? e=X a)(a:TypeId)(b c:Nat)(w:Ϣ):(Builtin.append_ #[t,t] a #[H (X (U b 0)) 0 0,H none 0 c]).run prog w=.ok (H (X (U b 0)) 0 0) w:=by
 simp[Builtin.append_,run_underlying f,sizeOf,typeInfo,d,Builtin.lenOf,Builtin.firstCells,storeCells]
def WK{a:Nat}(f:w.heap[a]?=X (χ #[] e (0,0)))(g:c a=tag):Ao w c tag e sz (H (X (U a 0)) 0 0) 0 []:=
 ⟨⟨ψ,.inr ⟨a,0,#[],rfl,Nat.zero_le _,f,Nr _,by unfold maxLen;omega,ψ,ψ⟩⟩,λb d=>by simp[Value.ownBlock]at d;subst d;exact g,Z⟩
def Nj{J:Act->Ϣ->Prop}(tag:Nat)(s x:Operand)(t e:TypeId)(G:o.op=.call {callee:=.builtin .append,args:=#[s,x],argTypes:=#[t,t]})(F:prog.underlying t=X (.slice e))(N:(prog.info? e).map (λi=>(i.zero,i.size,i.bytes))=X (X z,sz,bytes))(W:z.cells.size=sz)(V:0<sz)(p:bytes<=128)
  (g:Nat) (R:w.heap[g]?=X (χ #[] e (0,0))) (hs:a.eval s=H (X (U g 0)) 0 0) (xa:Option Addr) (n xc:Nat) (h:List ϒ) (E:a.eval x=H xa n xc) (hl:h.length=n*sz) (S:n=0\/∃l,xa=X l/\∀(j:Nat) f,h[j]?=X f->w.cell? (l.add j)=X f) (T:∀f∈h,f.oneCell'=ϑ) (f:n<=1000000) (L:c g=tag) (v:tag≠0) (y:∀b,(w:Nat)<=b->c b=0)
  (A:∀f cap w' c',Ao w' c' tag e sz (H (X (U f 0)) n cap) n h->AT (λk=>k=tag) c c' w w'->(∀b,w'.heap.size<=b->c' b=0)->J (a.put o.dst (H (X (U f 0)) n cap)) w'):o.wp prog a w J Q:=by
 have m:=WK (sz:=sz) R L;by_cases u:n=0
 .subst u
  obtain rfl:h=[]:=List.eq_nil_of_length_eq_zero Z;let⟨q,r,_,M,_⟩:=info_parts N;cases xa with
  |none=>have f:=PB q F r o.type g xc w;unfold Oper.wp;simp[execOp,G,resolve,invoke,builtin,hs,E,f,Result.andThen];exact A g 0 w c m (AT.ob Br (λe=>v e.symm)) y
  |some f=>let⟨w',l,J,d⟩:=run_append_fits (P:=prog) w 0 t o.type e q sz F r M g 0 0 [] m.1 f 0 xc [] ψ ψ ψ (Nr _);unfold Oper.wp;simp[execOp,G,resolve,invoke,builtin,hs,E,l,Result.andThen];exact A g 0 w' c ⟨by simpa using J,m.2⟩ ⟨d.os,d.tape,d.output,d.size,λb p f=>d.block b p (λe=>f (by simp at e;subst e;exact L)),λ_ _=>rfl,λe=>v e.symm⟩ (λb p=>y b (Nt d.size p))
 obtain⟨B,rfl,C⟩:=S.resolve_left u;refine Dz (λk=>k=tag) s x t e G F N W V p hs m B n xc h E hl C T Z Z rfl (λe=>v e.symm) y (λf cap w' c' d g h _=>?_);rw[Nat.zero_add]at d ⊢;rw[List.nil_append]at d;exact A f cap w' c' d g h
def AT.paint(b tag:Nat)(a:ϐ w w w')(d:(w:Nat)<=b):AT NO c (λx=>if x=b then tag else c x) w w':=
 ⟨a.os,a.tape,a.output,a.size,λx d _=>a.block x d,λx d=>if_neg Z,no 0⟩
def EN(n:Nat):A1:=λb=>if b<n then 99 else 0
def Ee:∀b,n<=b->EN n b=0:=λb a=>if_neg Z
def Mv(a:b<n):EN n b=99:=if_pos a
def AT.seen(h:AT T (EN w) c1 w w')(g:∀b,(w:Nat)<=b->c b=0):JT (mask w' c1) (mask w' c):=λa v d=>by
 rw[GJ]at d ⊢;split at d
 .rename_i f
  rw[if_pos (g _ (Nat.le_of_not_lt λe=>by rw[h.old _ e,Mv e]at f;cases f))];exact d
 cases d
def AT.fresh(e:AT T (EN w) c1 w w')(c:c1 b=tag)(d:tag≠99:=by decide):(w:Nat)<=b:=Nat.le_of_not_lt λa=>by
 rw[e.old _ a,Mv a]at c;exact d c.symm
def AT.below0(a:AT T (EN w) c1 w w')(d:¬T 99):ϐ w w w':=
 ⟨a.os,a.tape,a.output,a.size,λb c=>a.kp b c (by rw[Mv c];exact d)⟩
def Ao.seen(h:AT T (EN w) c1 w w')(g:∀b,(w:Nat)<=b->c b=0)(a:Ao w' c1 tag e sz v n xs)(f:tag≠99:=by decide):Ao (mask w' c) c1 tag e sz v n xs:=
 ⟨JV a.1 (λb d=>Jj (g b (h.fresh (a.2.1 b d) f))),a.2⟩
def IT{L:Act->Ϣ->Prop}{w0:Ϣ}(s x:Operand)(aN:o.op=.call {callee:=.builtin .append,args:=#[s,x],argTypes:=#[22,22]})
  (h:Nat) (P:w.heap[h]?=X (χ #[] 3 (0,0))) (hs:a.eval s=H (X (U h 0)) 0 0) (q:ϐ w0 w0 w) (T:(w0:Nat)<=h) (xa:Option Addr) (n xc:Nat) (l:List Int) (B:Nat) (W:a.eval x=H xa n xc) (hl:AE B w 1 Aj (H xa n xc) l) (V:l.length<=1000000) (aQ:∀b,(w0:Nat)<=b->c b=0)
  (aP:∀p cap w',AE w'.heap.size (mask w' c) 1 Aj (H (X (U p 0)) n cap) l->ϐ w0 w0 w'->((∀b,b<(w:Nat)->b≠h->w'.heap[b]?=w.heap[b]?)/\JT w w'/\(w:Nat)<=w'.heap.size)->L (a.put o.dst (H (X (U p 0)) n cap)) w'):o.wp prog a w L Q:=by
 have:=(La P);let⟨A,F,J,_,_,_,k⟩:=hl;obtain⟨rfl,rfl,rfl⟩:xa=A/\n=l.length/\xc=F:=by simpa using J
 have aO:∀p∈l,in64 p:=λp t=>by
  rcases k with r|⟨b,S,rfl,R,k⟩
  .subst r;cases t
  obtain⟨i,C,rfl⟩:=List.getElem_of_mem t;exact(k i _ (Lg C)).2
 refine Nj 1 s x 22 3 aN underlying22 (z:=ι 0) (sz:=1) (bytes:=8) Cx rfl δ δ (c:=λb=>if b=h then 1 else 0) h P hs xa l.length xc (l.map (Value.int .i64)) W ψ ?_ (λp d=>?_) V (if_pos rfl) δ (λb g=>if_neg Z) (λm cap w' c' G f _=>?_)
 .rcases k with r|⟨b,S,rfl,R,k⟩
  .left;rw[r];rfl
  refine .inr ⟨_,rfl,λj p d=>?_⟩;rw[List.getElem?_map]at d;cases y:l[j]? with
  |none=>rw[y]at d;simp at d
  |some E=>rw[y]at d;simp at d;subst d;have:=(k j E y).1;rw[Nat.mul_one]at this;rw[GB];exact this
 .obtain ⟨_,_,rfl⟩:=List.mem_map.1 d;rfl
 have Y:(w0:Nat)<=m:=by
  have u:=G.2.1 m (by simp[Value.ownBlock]);by_cases N:m<w
  .rw [f.old m N]at u
   by_cases e:m=h
   .omega
   rw[if_neg e]at u;cases u
  have:=q.size;omega
 have p:∀b,b<(w:Nat)->b≠h->w'.heap[b]?=w.heap[b]?:=λb g d=>f.kp b g (by rw[if_neg d];decide);have t:JT w w':=λk v d=>by
  have r:k.block≠h:=λe=>by unfold World.cell? at d;rw[e,P]at d;simp at d
  rw[World.cell?_of_block (w:=w) (p _ (World.block_lt_of_cell? w k d) r)];exact d
 refine(λT d=>aP m cap w' T d ⟨p,t,f.size⟩) ?_ ⟨f.os.trans q.os,f.tape.trans q.tape,f.output.trans q.output,Nt q.size f.size,λb g=>?_⟩
 .have M:Dq (mask w' c) c' 1 (H (X (U m 0)) l cap) l:=⟨⟨JV G.1 (λb g=>by
   simp[Value.ownBlock]at g;subst g;exact Jj (aQ _ Y)),G.2⟩,aO⟩
  have:=M.q4;rw[Hk]at this;exact this
 rw[f.kp b (Nl g q.size) (by rw[if_neg Z];decide)];exact q.block b g
structure Pa(l:List Bi)(w:Ϣ)(k:Nat)(v:ϒ)(c:A1)(xs:List ϒ)(wr:Ϣ):Prop where
 row:Ao wr c 1 64 2 v k xs
 chg:AT (λt=>t=1) (EN w) c w wr
 hi:∀b,(wr:Nat)<=b->c b=0
 elem:∀(i:Nat) x,i<k->l[i]?=X x->∃av,xs[i*2]?=X (.string x.proc)/\xs[i*2+1]?=X av/\AE wr (mask wr c) 1 Aj av x.args/\x.proc.size<=140737488355328
 len:xs.length=k*2
def PX:(prog.info? 64).map (λi=>(i.zero,i.size,i.bytes))=X (X (.agg #[.string ⟨#[]⟩,ν]),2,40):=by kernel_rfl
def Kp(l:List Bi)(w:Ϣ)(e:Ending)(w':Ϣ):Prop:=∃a cap,e=.returned (H a l cap)/\ϐ w w w'/\∀c:A1,(∀b,(w:Nat)<=b->c b=0)->AE w' (mask w' c) 2 (DA w') (H a l cap) l
def Pa.post{l:List Bi}{a:Option Addr}(d:Pa l w l.length (H a l cap) c xs wr):Kp l w (.returned (H a l cap)) wr:=by
 refine⟨a,cap,rfl,d.chg.below0 δ,λc' f=>?_⟩;have b:=d.row.seen d.chg f δ;have:=b.q4 (l:=l) (E:=DA wr) (λi x b=>?_) (λi x g b e=>?_)
 .rw [Hk]at this;exact this
 .obtain ⟨_,g,_⟩:=d.elem i x (Ll b) b
  exact⟨_,g⟩
 obtain⟨h,g,j,k,m⟩:=d.elem i x (Ll b) b;exact⟨e _ _ g,⟨h,e _ _ j,k.ups B5 (Nr _) (d.chg.seen f)⟩,m⟩
def Pa.next{l:List Bi}{c1:Nat}(a:Pa l w k v c xs wr)(q:l[k]?=X x)(hs:x.proc.size<=140737488355328)(n:ϐ wr wr w8)(hl:AE w8 (mask w8 c) 1 Aj (H (X (U g1 0)) x.args c1) x.args)
  (m:AT (λt=>t=1) c c9 (w8.alloc (χ #[.string x.proc,H (X (U g1 0)) x.args c1] 64)) w9) (j:∀b,(w9:Nat)<=b->c9 b=0) (h:Ao w9 c9 1 64 2 v' (k+1) (xs++[.string x.proc,H (X (U g1 0)) x.args c1])):Pa l w (k+1) v' c9 (xs++[.string x.proc,H (X (U g1 0)) x.args c1]) w9:=by
 have f:AT (λt=>t=1) c c wr w8:=AT.ob n δ;have d:=(AT.ob (AA _ _) δ).trans m;refine⟨h,(a.chg.trans f).trans d,j,λi m h e=>?_,by simp[a.len];omega⟩;by_cases g:i<k
 .obtain ⟨h,j,n,o,p⟩:=a.elem i m g e
  exact⟨h,by rw[Al (by rw[a.len];omega)];exact j,by rw[Al (by rw[a.len];omega)];exact n,o.ups B5 (f.trans d).size (f.trans d).sub,p⟩
 obtain rfl:i=k:=Z;rw[q]at e;cases e;exact⟨_,by rw[Ar (by rw[a.len];omega),a.len,Nat.sub_self];rfl,by rw[Ar (by rw[a.len];omega),a.len,show i*2+1-i*2=1 by omega];rfl,hl.ups B5 d.size d.sub,hs⟩
def T3(t:Nat):Prop:=t=1\/t=2\/t=3
def RZ(L:o.guard=none)(tag:Nat)(s x:Operand)(N:o.op=.call {callee:=.builtin .append,args:=#[s,x],argTypes:=#[22,22]})
  (m:Nat) (M:w.heap[m]?=X (χ #[] 3 (0,0))) (hs:a.eval s=H (X (U m 0)) 0 0) (xa:Option Addr) (n xc:Nat) (l:List Int) (B:Nat) (J:a.eval x=H xa n xc) (hl:AE B w 1 Aj (H xa n xc) l) (G:l.length<=1000000) (F:c m=tag) (h:tag≠0) (C:∀b,(w:Nat)<=b->c b=0)
  (E:∀g cap w' c',Dq w' c' tag (H (X (U g 0)) n cap) l->AT (λk=>k=tag) c c' w w'->(∀b,w'.heap.size<=b->c' b=0)->wpList prog ops Q rest (a.put o.dst (H (X (U g 0)) n cap)) w'):wpList prog ops Q (o::rest) a w:=by
 refine wpList_plain L λ_ y=>?_;let⟨p,q,v,_,_,_,e⟩:=hl;obtain⟨rfl,rfl,rfl⟩:xa=p/\n=l.length/\xc=q:=by simpa using v
 refine Nj tag s x 22 3 N underlying22 Cx rfl δ δ m M hs xa l.length xc (l.map (Value.int .i64)) J ψ ?_ (λm d=>?_) G F h C (λg cap w' c' m p q=>y _ _ (E g cap w' c' ⟨m,λg r=>?_⟩ p q))
 .rcases e with h|⟨b,A,rfl,z,e⟩
  .left;rw[h];rfl
  exact .inr ⟨_,rfl,λj g d=>by
   rw[List.getElem?_map]at d;cases f:l[j]? with
   |none=>rw[f]at d;simp at d
   |some u=>
    rw[f]at d;simp at d;subst d;have:=(e j u f).1;rw[Nat.mul_one]at this;rw[GB];exact this⟩
 .obtain ⟨_,_,rfl⟩:=List.mem_map.1 d;rfl
 rcases e with h|⟨b,A,rfl,z,e⟩
 .subst h;cases r
 obtain⟨i,t,rfl⟩:=List.getElem_of_mem r;exact(e i _ (Lg t)).2
def Ex{y:Act->Ϣ->Prop}(tag:Nat)(s x:Operand)(M:o.op=.call {callee:=.builtin .append,args:=#[s,x],argTypes:=#[22,22]})
  (m:Nat) (L:w.heap[m]?=X (χ #[] 3 (0,0))) (hs:a.eval s=H (X (U m 0)) 0 0) (xa:Option Addr) (n xc:Nat) (l:List Int) (B:Nat) (J:a.eval x=H xa n xc) (hl:AE B w 1 Aj (H xa n xc) l) (G:l.length<=1000000) (F:c m=tag) (h:tag≠0) (E:∀b,(w:Nat)<=b->c b=0)
  (C:∀g cap w' c',Dq w' c' tag (H (X (U g 0)) n cap) l->AT (λk=>k=tag) c c' w w'->(∀b,w'.heap.size<=b->c' b=0)->y (a.put o.dst (H (X (U g 0)) n cap)) w'):o.wp prog a w y Q:=by
 let⟨p,q,v,_,_,_,e⟩:=hl;obtain⟨rfl,rfl,rfl⟩:xa=p/\n=l.length/\xc=q:=by simpa using v
 refine Nj tag s x 22 3 M underlying22 Cx rfl δ δ m L hs xa l.length xc (l.map (Value.int .i64)) J ψ ?_ (λm d=>?_) G F h E (λg cap w' c' m p q=>C g cap w' c' ⟨m,λg r=>?_⟩ p q)
 .rcases e with h|⟨b,A,rfl,z,e⟩
  .left;rw[h];rfl
  exact .inr ⟨_,rfl,λj g d=>by
   rw[List.getElem?_map]at d;cases f:l[j]? with
   |none=>rw[f]at d;simp at d
   |some u=>
    rw[f]at d;simp at d;subst d;have:=(e j u f).1;rw[Nat.mul_one]at this;rw[GB];exact this⟩
 .obtain ⟨_,_,rfl⟩:=List.mem_map.1 d;rfl
 rcases e with h|⟨b,A,rfl,z,e⟩
 .subst h;cases r
 obtain⟨i,t,rfl⟩:=List.getElem_of_mem r;exact(e i _ (Lg t)).2
def TM(t:Nat):Prop:=t≠0/\t≠99
def YK:¬TM 0:=λa=>a.1 rfl
def WP:¬TM 99:=λa=>a.2 rfl
def AT.tm(b:AT (λk=>k=t) c c' w w')(e:t≠0)(d:t≠99):AT TM c c' w w':=b.mono (λk a=>by subst a;exact⟨e,d⟩) YK
def AT.ntm(a:AT NO c c' w w'):AT TM c c' w w':=a.mono (λk a=>a.elim) YK
structure Mz(m:Mm)(w:Ϣ)(bi br bo k:Nat)(iv:Array ϒ)(gv v:ϒ)(c:A1)(xs:List ϒ)(wr:Ϣ):Prop where
 g:Dq wr c 2 gv m.G
 row:Ao wr c 3 72 2 v k xs
 chg:AT TM (EN w) c w wr
 hi:∀b,(wr:Nat)<=b->c b=0
 box:wr.heap[bo]?=X (χ #[gv,v] 28 (0,0))
 cbo:c bo=4
 res:wr.heap[br]?=X (χ #[ν,ν] 28 (0,0))
 cbr:c br=5
 inp:wr.heap[bi]?=X (χ iv 28 (0,0))
 cbi:c bi=0
 elem:∀(i:Nat) x,i<k->m.N[i]?=X x->∃lv,xs[i*2]?=X (ι x.type)/\xs[i*2+1]?=X lv/\in64 x.type/\Dq wr c (10+5*i) lv x.f
 len:xs.length=k*2
structure Mq(w:Ϣ)(c:A1)(m:Mm)(gv nv:ϒ)(nx:List ϒ):Prop where
 hi:∀b,(w:Nat)<=b->c b=0
 g:Dq w c 2 gv m.G
 n:Ao w c 3 72 2 nv m.N.length nx
 nn:∀(i:Nat) x,m.N[i]?=X x->∃lv,nx[i*2]?=X (ι x.type)/\nx[i*2+1]?=X lv/\in64 x.type/\Dq w c (10+5*i) lv x.f
def IU(m:Mm)(w:Ϣ)(e:Ending)(w':Ϣ):Prop:=∃ga gc na nc,e=.returned (.agg (Bm ga gc na nc m))/\ϐ w w w'/\∀c:A1,(∀b,(w:Nat)<=b->c b=0)->∃c' nx,AT NO c c' w w'/\Mq w' c' m (H ga m.G gc) (H na m.N nc) nx
def Ao.recol(a:Ao w c tag e sz v n xs)(f:∀b,c b=tag->c' b=tag):Ao w c' tag e sz v n xs:=⟨a.1,λb d=>f b (a.2.1 b d),a.2.2⟩
def Mz.post{m:Mm}{d:Option Addr}{a:Nat}(e:Mz m w bi br bo m.N.length iv (H d m.G a) (H na m.N nc) c xs wr):IU m w (.returned (.agg (Bm d a na nc m))) ((wr.setCell (U br 0) (H d m.G a)).setCell (U br 1) (H na m.N nc)):=by
 let⟨j,f⟩:=ε ((wr.setCell (U br 0) (H d m.G a)).setCell (U br 1) (H na m.N nc));have h:AT (λt=>t=5) c c wr j:=by rw[f];exact(AT.set (T:=λt=>t=5) e.cbr Z).trans (AT.set e.cbr Z)
 have g:=e.chg.trans (h.tm δ δ);have k:(j:Nat)=(wr:Nat):=by rw[f];simp
 rw[<-f];refine⟨d,a,na,nc,rfl,g.below0 WP,λc' a=>?_⟩;have j:∀tag,tag≠99->∀b,c b=tag->(if b<(w:Nat)then c' b else c b)=tag:=λtag d b a=>by rw[if_neg (Nat.not_lt.2 (g.fresh a d))];exact a
 have d:=g.below0 WP;refine⟨λb=>if b<(w:Nat)then c' b else c b,xs,⟨d.os,d.tape,d.output,d.size,λb a _=>d.block b a,λb a=>if_pos a,no 0⟩,λb a=>?_,⟨(e.g.1.kp h Z).recol (j 2 δ),e.g.2⟩,(e.row.kp h Z).recol (j 3 δ),λi x f=>?_⟩
 .show (if _ then _ else _)=_
  rw[if_neg (by have:=d.size;omega)];exact e.hi b (by rw[<-k];exact a)
 obtain⟨l,d,g,k,a⟩:=e.elem i x (Ll f) f;exact⟨l,d,g,k,⟨(a.1.kp h Z).recol (j _ Z),a.2⟩⟩
def Mz.next{m:Mm}{c1:Nat}{d:A1}{x:Gl}(a:Mz m w bi br bo k iv gv v c xs wr)(y:m.N[k]?=X x)(z:in64 x.type)(l:AT (λt=>t=10+5*k) c d wr w8)(hl:Dq w8 d (10+5*k) (H (X (U g1 0)) x.f c1) x.f)
  (f:AT (λt=>t=3) d c9 (w8.alloc (χ #[ι x.type,H (X (U g1 0)) x.f c1] 72)) w9) (u:∀b,(w9:Nat)<=b->c9 b=0) (q:Ao w9 c9 3 72 2 v' (k+1) (xs++[ι x.type,H (X (U g1 0)) x.f c1])) :
  Mz m w bi br bo (k+1) iv gv v' c9 (xs++[ι x.type,H (X (U g1 0)) x.f c1]) (w9.setCell (U bo 1) v'):=by
 have r:=(AT.ob (AA _ _) δ).trans f;have f:AT (λt=>t=10+5*k\/t=3) c c9 wr w9:=(l.mono (λt a=>.inl a) Z).trans (r.mono (λt a=>.inr a) Z);have h:=(La a.box);have n:c9 bo=4:=by rw[f.old _ h];exact a.cbo
 have j:AT (λt=>t=4) c9 c9 w9 (w9.setCell (U bo 1) v'):=AT.set n Z;have d:AT (λt=>(t=10+5*k\/t=3)\/t=4) c c9 wr (w9.setCell (U bo 1) v'):=(f.mono (λt a=>.inl a) Z).trans (j.mono (λt a=>.inr a) Z);have s:w9.heap[bo]?=X (χ #[gv,v] 28 (0,0)):=by rw[f.kp _ h (by rw[a.cbo];omega)];exact a.box
 have f:=(La a.res);have h:=(La a.inp);have p:=a.len;have o:(w9:Nat)=(w9.setCell (U bo 1) v').heap.size:=by simp
 refine⟨a.g.kp d Z,q.kp j Z,a.chg.trans (d.mono (λt a=>by unfold TM;omega) YK),λb l=>u b (by rw[o];exact l),?_,n,?_,by rw[d.old _ f];exact a.cbr,?_,by rw[d.old _ h];exact a.cbi,λi q l e=>?_,by simp[a.len];omega⟩
 .rw [heap_setCell_same _ _ _ _ _ _ s];rfl
 .rw [d.kp _ f (by rw[a.cbr];omega)];exact a.res
 .rw [d.kp _ h (by rw[a.cbi];omega)];exact a.inp
 by_cases g:i<k
 .obtain ⟨f,h,l,n,o⟩:=a.elem i q g e
  exact⟨f,by rw[Al Z];exact h,by rw[Al Z];exact l,n,o.kp d Z⟩
 obtain rfl:i=k:=Z;rw[y]at e;cases e;exact⟨_,by rw[Ar Z,p,Nat.sub_self];rfl,by rw[Ar Z,p,show i*2+1-i*2=1 by omega];rfl,z,(hl.kp r Z).kp j Z⟩
def SQ(b:W.heap[R]?=X (χ #[gv,nv] 28 (0,0))):(loadVar 28 (U R 0)).run prog W=.ok (.agg #[gv,nv]) W:=by
 have a:=Ω2 b;simp[go_sem,a.1,a.2]
def JK{b:Func}{p:Tmp}(d:b.results=#[.cell p 28])(e:W.heap[R]?=X (χ #[gv,nv] 28 (0,0)))(a:Array ϒ)(c:a.getD p undef=.pointer (X (U R 0))) :
  (results b a).run prog W=.ok (.agg #[gv,nv]) W:=by
 simp only[results,d];rw[Array.getD_eq_getD_getElem?]at c;simp[c,asAddr,SQ e,Result.andThen,Sem.run_bind]
def ET{a e:Nat}(c:a≠b)(k:a≠d)(l:a≠e):¬(((NO a\/a=b)\/a=d)\/a=e):=λx=>by
 rcases x with ((x|x)|x)|x
 .exact x
 .exact c x
 .exact k x
 exact l x
def Mq.kp{m:Mm}(a:Mq w c m gv nv nx)(e:AT T c c' w w')(f:∀b,(w':Nat)<=b->c' b=0)(d:∀t,T t->t=5):Mq w' c' m gv nv nx:=
 ⟨f,a.g.kp e (λa=>by have:=d _ a;omega),a.n.kp e (λa=>by have:=d _ a;omega),λi x l=>by
  let⟨k,f,g,h,j⟩:=a.nn i x l;exact⟨k,f,g,h,j.kp e (λa=>by
   have:=d _ a;omega)⟩⟩
def Kl:(prog.info? 65).map (λi=>(i.zero,i.size,i.bytes))=X (X ν,1,24):=by kernel_rfl
def MU:(prog.info? 127).map (λi=>(i.zero,i.size,i.bytes))=X (X ν,1,24):=by kernel_rfl
def Hj:(prog.info? 22).map (λi=>(i.zero,i.size,i.bytes))=X (X ν,1,24):=by kernel_rfl
def Xck{x:Nat}:(a.put (X d) v).eval (.tmp x)=if x=d/\d<a.tmps.size then v else a.eval (.tmp x):=by
 unfold Act.put Act.eval;simp only[Array.getD_eq_getD_getElem?];by_cases b:x=d
 .subst b
  by_cases c:x<a.tmps.size
  .simp [c]
  simp[c]
 rw[if_neg (λe=>b e.1)];simp[Array.getElem?_setIfInBounds,Ne.symm b]
def row_push{x y z d1 d2:Nat}{S:Ϣ->Prop}{o9:Oper}{u:Ϣ}{cu:A1}{xa:Option Addr}{xn xc:Nat}(h g:TypeId)
  (m:[(o9.op,o9.dst),(o10.op,o10.dst),(o12.op,o12.dst)]=[(.buildSlice h 1 #[(0,.tmp x)],X d1),(.call {callee:=.builtin .append,args:=#[.tmp y,.tmp d1],argTypes:=#[h,h]},X d2),(.store h (.tmp z) (.tmp d2),none)])
  (V:([(j,o10),(k,o12)].all λr=>r.1 !=i && [(i,o9),(j,o10),(k,o12)].any (waits r))=ϑ) (aM:([(k,o12)].all λr=>r.1 !=j && [(j,o10),(k,o12)].any (waits r))=ϑ) (d:k+1=n)
  (C:prog.underlying h=X (.slice g)) (w:(prog.info? g).map (λi=>(i.zero,i.size,i.bytes))=X (X ν,1,24)) (aO:(prog.info? h).map (λi=>(i.zero,i.size,i.bytes))=X (X ν,1,24))
  (q:d1<a.tmps.size/\d2<a.tmps.size/\y≠d1/\z≠d1/\z≠d2) (J:a.eval (.tmp x)=H xa xn xc) (R:a.eval (.tmp y)=H na kk nc) (aN:a.eval (.tmp z)=.pointer (X (U bo fld)))
  (N:Ao u cu tag g 1 (H na kk nc) kk nx) (d:kk<=1000000) (s:tag≠0) (Y:∀b,(u:Nat)<=b->cu b=0) (B:∀d c',AT (λt=>t=tag) cu c' u d->S d)
  (aL:∀d c',AT (λt=>t=tag) cu c' u d->∃f,d.cell? (U bo fld)=X f/\d.frozen? (U bo fld)=ϝ)
  (W:∀l f cap d c',Ao d c' tag g 1 (H (X (U f 0)) (kk+1) cap) (kk+1) (nx++[H xa xn xc])->AT (λt=>t=tag) cu c' u d->(∀b,d.heap.size<=b->c' b=0)->Q .normal ((a.put (X d1) l).put (X d2) (H (X (U f 0)) (kk+1) cap)) (d.setCell (U bo fld) (H (X (U f 0)) (kk+1) cap))) :
  Dm prog n Q S ϑ [(i,o9),(j,o10),(k,o12)] a u:=by
 simp only[List.cons.injEq,Prod.mk.injEq,and_true]at m;let⟨⟨o,p⟩,⟨A,G⟩,_,_⟩:=m;let⟨f,l,m,d,_⟩:=info_parts w;let⟨F,P,E,M,L⟩:=q;have q:AT (λt=>t=tag) cu cu u (u.alloc (χ #[H xa xn xc] g)):=AT.ob (AA _ _) (λe=>s e.symm);refine AH V ?_;refine wp_buildSlice h g 1 _ o #[H xa xn xc] f ν C l m (by rw[d];decide) (by rw[d];decide) (by rw[d];simp[J,Instr.fill,Value.cells];apply Array.ext';simp[List.range,List.range.loop]) ?_;rw[p];refine⟨.inl (B _ cu q),?_⟩;refine AH aM ?_;refine Dz (λt=>t=tag) (.tmp y) (.tmp d1) h g A C w rfl δ δ (c:=cu) (tag:=tag) (v:=H na kk nc) (n:=kk) (xs:=nx) (by rw[Xck,if_neg (λe=>E e.1)];exact R) ((N.recol (λb d=>d)).kp (T:=NO) (AT.ob (AA _ _) (no 0)) (no _)) (U u 0) 1 1 [H xa xn xc] (by rw[Xck,if_pos ⟨rfl,F⟩]) rfl (λj v f=>by rw[GB,Nat.zero_add,B6];simpa using f) (by simp[Value.oneCell']) δ Z rfl (λe=>s e.symm) (λb d=>Y b (by simp at d;omega)) (λl cap g c' o m p _=>?_);rw[G];have f:=q.trans m;refine⟨.inl (B g c' f),?_⟩;let⟨_,_,_⟩:=aL g c' f;have m:=Lh (W (H (X (U u 0)) 1 1) l cap g c' o f p);let⟨b,d⟩:=ε (((a.put (X d1) (H (X (U u 0)) 1 1)).put (X d2) (H (X (U l 0)) (kk+1) cap)));have g:b.eval (.tmp z)=.pointer (X (U bo fld)):=by rw[d,Xck,if_neg (λe=>L e.1),Xck,if_neg (λe=>M e.1)];exact aN
 have f:b.eval (.tmp d2)=H (X (U l 0)) (kk+1) cap:=by rw[d,Xck,if_pos ⟨rfl,by rw[BQ];exact P⟩]
 rw[<-d]at m ⊢;refine AH rfl ?_;have:b.tmps[z]?.getD undef=.pointer (X (U bo fld)):=by rw[<-Array.getD_eq_getD_getElem?];exact g
 have:b.tmps[d2]?.getD undef=H (X (U l 0)) (kk+1) cap:=by rw[<-Array.getD_eq_getD_getElem?];exact f
 obtain⟨tj,l,-,g,-⟩:=info_parts aO;have:∀f:Ϣ,Sem.run prog (sizeOf h) f=.ok 1 f:=λf=>by simp[sizeOf,typeInfo,l,g]
 clear d;go_simp;exact BH m.o
def Xo0{b:Act->Ϣ->Prop}{t:TypeId}(f:o.op=.buildSlice t 0 #[])(g:prog.underlying t=X (.slice e))(d:(prog.info? e).map (λi=>(i.zero,i.size,i.bytes))=X (X z,sz,bytes))(h:b (a.put o.dst (H (X (U w 0)) 0 0)) (w.alloc (χ #[] e))):o.wp prog a w b Q:=by
 let⟨_,b,c,_,_⟩:=info_parts d;unfold Oper.wp execOp;simp[f,Instr.buildSlice,run_underlying g,sizeOf,typeInfo,zeroValue,b,c,Instr.fill,newRow];have:(Array.map (λ_=>default) (Array.range 0):Array ϒ)=#[]:=by apply Array.ext';simp
 rw[this];exact h
def Xig{p F sb so tagI:Nat}{B h o9:Oper}{s:Option Addr}{n q:Nat}{v1:ϒ}{R:Ϣ->A1->Prop}(A:Ϣ->A1->ϒ->Prop)(u l C:TypeId){f:ϒ}{d n0:Nat}
  (aZ:prog.underlying u=X (.slice l)) (aY:(prog.info? l).map (λi=>(i.zero,i.size,i.bytes))=X (X ν,1,24)) (aW:prog.underlying l=X (.slice C)) (aT:(prog.info? C).map (λi=>(i.zero,i.size,i.bytes))=X (X f,d,n0))
  (aS:∀(b:Act)(W:Ϣ)(c':A1)(d:Nat)(m:Act->Ϣ->Prop),ϐ w w W->W.heap[d]?=X (χ #[] C (0,0))->(w:Nat)<=d->c' d=tagI->AT (λt=>t=tagI) c c' w W->b.eval (.tmp p)=H (X (U d 0)) 0 0->b.eval (.tmp (p+5))=H s n q->(∀b,(W:Nat)<=b->c' b=0)->(∀g cap d f,A d f (H (X (U g 0)) n cap)->AT (λt=>t=tagI) c f w d->(∀b,d.heap.size<=b->f b=0)->m (b.put h.dst (H (X (U g 0)) n cap)) d)->h.wp prog b W m (NoPanic Q))
  (m0:w.cell? (U bo fld)=X (H na kk nc)) (m1:w.cell? (U F fld)=X v1) (aQ:w.cell? (U sb so)=X (H s n q)) (G:c bo=1/\bo<w/\(∀b,(w:Nat)<=b->c b=0)/\∀j,w.frozen? (U bo j)=ϝ) (ci:c F=0) (cs:c sb=0\/c sb=14\/c sb=99)
  (aV:Ao w c tag l 1 (H na kk nc) kk nx) (aU:kk<=1000000)
  (aX:∀d c1 f g m v',AT (λk=>k=tagI) c c1 w d->(∀b,d.heap.size<=b->c1 b=0)->A d c1 m->AT (λk=>k=tag) c1 g d f->(∀b,f.heap.size<=b->g b=0)->Ao f g tag l 1 v' (kk+1) (nx++[m])->R (f.setCell (U bo fld) v') g)
  (aR:∀u0 u1 u2 u3 d c',R d c'->Q .normal ((((a.put (X p) u0).put (X (p+6)) u1).put (X (p+7)) u2).put (X (p+8)) u3) d)
  (f:[(B.op,B.dst),(h.op,h.dst),(o9.op,o9.dst),(o10.op,o10.dst),(o12.op,o12.dst)]=[(.buildSlice l 0 #[],X p),(.call {callee:=.builtin .append,args:=#[.tmp p,.tmp (p+5)],argTypes:=#[l,l]},X (p+6)),(.buildSlice u 1 #[(0,.tmp (p+6))],X (p+7)),(.call {callee:=.builtin .append,args:=#[.tmp (p-1),.tmp (p+7)],argTypes:=#[u,u]},X (p+8)),(.store u (.tmp (p+9)) (.tmp (p+8)),none)]:=by rfl)
  (A:[([(8,h),(9,o9),(10,o10),(12,o12)].all λr=>r.1 !=2 && [(2,B),(8,h),(9,o9),(10,o10),(12,o12)].any (waits r)),([(9,o9),(10,o10),(12,o12)].all λr=>r.1 !=8 && [(8,h),(9,o9),(10,o10),(12,o12)].any (waits r)),([(10,o10),(12,o12)].all λr=>r.1 !=9 && [(9,o9),(10,o10),(12,o12)].any (waits r)),([(12,o12)].all λr=>r.1 !=10 && [(10,o10),(12,o12)].any (waits r))]=[ϑ,ϑ,ϑ,ϑ]:=by kernel_rfl) (aP:(prog.info? u).map (λi=>(i.zero,i.size,i.bytes))=X (X ν,1,24):=by kernel_rfl)
  (g:0<p/\p+9<a.tmps.size:=by simp) (aM:a.eval (.tmp (p+5))=H s n q:=by rfl) (aO:a.eval (.tmp (p-1))=H na kk nc:=by rfl) (aN:a.eval (.tmp (p+9))=.pointer (X (U bo fld)):=by rfl) (L:tagI≠tag/\tag≠0/\tagI≠0/\tag≠1/\tagI≠1/\tag≠14/\tagI≠14/\tag≠99/\tagI≠99:=by omega) :
  Dm prog 13 Q (λd=>d.cell? (U bo fld)=X (H na kk nc)/\d.cell? (U F fld)=X v1/\d.cell? (U sb so)=X (H s n q)) ϑ [(2,B),(8,h),(9,o9),(10,o10),(12,o12)] a w:=by
 simp only[List.cons.injEq,Prod.mk.injEq,and_true]at f A;let⟨⟨J,M⟩,⟨_,N⟩,⟨aL,Y⟩,⟨V,T⟩,S,P⟩:=f;have h:c bo≠tagI/\c bo≠tag:=by rw[G.1];omega
 have B:∀{d c' b o v},AT (λt=>t=tagI\/t=tag) c c' w d->w.cell? (U b o)=X v->c b≠tagI/\c b≠tag->d.cell? (U b o)=X v:=λg m f=>g.cell m (λk=>k.elim f.1 f.2);have E:∀d c',AT (λt=>t=tagI\/t=tag) c c' w d->d.cell? (U bo fld)=X (H na kk nc)/\d.cell? (U F fld)=X v1/\d.cell? (U sb so)=X (H s n q):=λd c' f=>⟨B f m0 h,B f m1 (by rw[ci];omega),B f aQ Z⟩;have s:∀{c' f:A1}{d V':Ϣ},AT (λt=>t=tagI) c' f d V'->AT (λt=>t=tagI\/t=tag) c' f d V':=λf=>f.mono (λt f=>.inl f) Z;have F:∀{c' f:A1}{d V':Ϣ},AT (λt=>t=tag) c' f d V'->AT (λt=>t=tagI\/t=tag) c' f d V':=λf=>f.mono (λt f=>.inr f) Z;have m:=AT.paint (c:=c) (w:Nat) tagI (AA w (χ #[] C)) (Nr _);let⟨f,g⟩:=ε (λx=>if x=(w:Nat)then tagI else c x:A1);rw[<-g]at m;have q:AT (λt=>t=tagI) c f w (w.alloc (χ #[] C)):=m.mono (λt m=>m.elim) Z;refine AH A.1 ?_;refine Xo0 J aW aT ?_;rw[M];refine⟨.inl (E _ f (s q)),?_⟩;refine AH A.2.1 ?_;refine aS _ _ f (w:Nat) _ (AA _ _) (Hn _ _) (Nr _) (by rw[g];exact if_pos rfl) q (by rw[Xck,if_pos ⟨rfl,Z⟩]) (by rw[Xck,if_neg Z];exact aM) (λb h=>by rw[g];simp at h;show(if _ then _ else _)=_;rw[if_neg Z];exact G.2.2.1 b Z) (λf C m cu J g q=>?_);rw[N];refine⟨.inl (E m cu (s g)),?_⟩;refine row_push (x:=p+6) (y:=p-1) (z:=p+9) (d1:=p+7) (d2:=p+8) (bo:=bo) (fld:=fld) (kk:=kk) (tag:=tag) (cu:=cu) (na:=na) (nc:=nc) (xa:=X (U f 0)) (xn:=n) (xc:=C) (nx:=nx) u l (by rw[aL,Y,V,T,S,P]) A.2.2.1 A.2.2.2 rfl aZ aY aP ⟨by rw[BQ,BQ];omega,by rw[BQ,BQ];omega,Z,Z,Z⟩ (by rw[Xck,if_pos ⟨rfl,by rw[BQ];omega⟩]) (by rw[Xck,if_neg Z,Xck,if_neg Z];exact aO) (by rw[Xck,if_neg Z,Xck,if_neg Z];exact aN) (aV.kp g (λe=>L.1 e.symm)) aU L.2.1 q (λd c' f=>E d c' ((s g).trans (F f))) (λd c' f=>have f:=(s g).trans (F f);⟨_,B f m0 h,f.frozen G.2.1 (G.2.2.2 fld) (λk=>k.elim h.1 h.2)⟩) (λv1 n cap d c' l f h=>aR _ _ v1 _ _ _ (aX m cu d c' _ _ g q J f h l))
def AT.t5(a:AT NO c c' w w'):AT (λt=>t=5) c c' w w':=a.mono (λt a=>a.elim) δ
def Hf{P:Ϣ}{o:Obj}(a:w'=P.alloc o\/w'=(P.alloc o).drew):AT NO c (λx=>if x=(P:Nat)then tag else c x) P w'/\w'.heap[(P:Nat)]?=X o/\((∀b,(P:Nat)<=b->c b=0)->∀b,(w':Nat)<=b->(λx=>if x=(P:Nat)then tag else c x) b=0):=by
 have:(w':Nat)=(P:Nat)+1:=by rcases a with rfl|rfl<;>simp
 refine⟨AT.paint _ _ ?_ (Nr _),?_,λd b e=>?_⟩
 .rcases a with rfl|rfl
  .exact AA _ _
  exact Cb _ _
 .rcases a with rfl|rfl
  .exact Hn _ _
  exact Hn P o
 show(if _ then _ else _)=_;rw[if_neg Z];exact d b Z
def DL.mil{c:AQ}(hs:AU c)(h:Bv c){g:AY}{P:Cd->Prop}(e:DL c g P):g.L.length<=1000000/\g.S.length<=1000000:=by
 let⟨d,x,_,a,_,f,_,b,_⟩:=e;have:=DJ (hs.wf a.fn) (hs.snd a.fn) b;have:=h d (Lm a.fn);have:=((hs.wf a.fn).pops x (Lm f)).1;have b:=hs.fok a.fn;unfold CX at b;have:=a.loc;omega
def P8{c:AQ}(hs:AU c){k:Int}(h:AS c x k=0):x.args.length<=1000000:=by
 unfold AS at h;split at h
 .cases h
 split at h
 .cases h
 rename_i y b;split at h
 .cases h
 split at h
 .cases h
 rename_i d;have a:=hs.fok b;unfold CX at a;omega
def ju(p:o.guard=none)(s x:Operand)(u:o.op=.call {callee:=.builtin .append,args:=#[s,x],argTypes:=#[22,22]})
  (g:Option Addr) (n cap:Nat) (l:List Int) (hs:a.eval s=H g n cap) (hl:n=l.length) (q:Dq w c 1 (H g n cap) l) (h:Nat) (y:Int) (r:a.eval x=H (X (U h 0)) 1 1) (v:w.cell? (U h 0)=X (ι y)) (z:in64 y) (g:n<=1000000) (i:∀b,(w:Nat)<=b->c b=0)
  (d:∀e cap w' c',Dq w' c' 1 (H (X (U e 0)) (n+1) cap) (l++[y])->AT (λt=>t=1) c c' w w'->(∀b,w'.heap.size<=b->c' b=0)->wpList prog ops Q rest (a.put o.dst (H (X (U e 0)) (n+1) cap)) w'):wpList prog ops Q (o::rest) a w:=by
 subst hl;refine wpList_plain p λ_ p=>?_;refine Dz (λt=>t=1) s x 22 3 u underlying22 Cx rfl δ δ (c:=c) (tag:=1) hs q.1 (U h 0) 1 1 [ι y] r rfl (λj g f=>?_) (by simp[Value.oneCell']) δ Z rfl δ i (λe cap w' c' g h i _=>p _ _ (d e cap w' c' ⟨by rw[List.length_append,List.map_append];exact g,λm k=>?_⟩ h i))
 .rw [GB]
  cases j with
  |zero=>simp at f;subst f;exact v
  |succ j=>simp at f
 rcases List.mem_append.1 k with d|d
 .exact q.2 m d
 simp at d;subst d;exact z
def Iv.ne{c:AQ}(b:Iv c m):m.J≠[]:=by
 let⟨_,f,a⟩:=b.waits;rw[a.fr];simp
def GS(a:Act)(sl:Nat->Nat)(f:Nat->ϒ):List Nat->Act
 |[]=>a
 |i::l=>(GS a sl f l).put (X (sl i)) (f i)
def Ja(a:Act)(sl:Nat->Nat)(f:Nat->ϒ):∀l,(GS a sl f l).tmps.size=a.tmps.size
 |[]=>rfl
 |_::l=>(BQ _ _ _).trans (Ja a sl f l)
def K5(a:Act)(sl:Nat->Nat)(f:Nat->ϒ)(d:Nat):∀l:List Nat,(∀i∈l,sl i≠d)->(GS a sl f l).tmps[d]?=a.tmps[d]?
 |[],_=>rfl
 |i::l,h=>by show((GS a sl f l).put (X (sl i)) (f i)).tmps[d]?=_;rw[A0 _ _ _ _ (λe=>h i ψ (by simpa using e))];exact K5 a sl f d l (λj b=>h j (by simp[b]))
def SA{l:List Nat}(b:∀i∈l,sl i≠d):(GS a sl f l).eval (.tmp d)=a.eval (.tmp d):=by
 show(GS a sl f l).tmps.getD d undef=a.tmps.getD d undef;rw[Array.getD_eq_getD_getElem?,Array.getD_eq_getD_getElem?,K5 a sl f d l b]
def K4{g:Nat->ϒ}:∀{l:List Nat},(∀i∈l,f i=g i)->GS a sl f l=GS a sl g l
 |[],_=>rfl
 |i::l,h=>by show(GS a sl f l).put _ _=(GS a sl g l).put _ _;rw[K4 (l:=l) (λj b=>h j (by simp[b])),h i ψ]
def O0(a:Act)(u v:ϒ)(c:i≠j):(a.put (X i) u).put (X j) v=(a.put (X j) v).put (X i) u:=by
 refine NA rfl (λd=>?_);by_cases f:d=j
 .subst f
  rw[A0 (a.put (X d) v) _ _ _ (λe=>c (by simpa using e))];by_cases g:d<a.tmps.size
  .rw [CA _ _ _ (by rw[BQ];exact g),CA _ _ _ g]
  rw[Array.getElem?_eq_none (by rw[BQ,BQ];omega),Array.getElem?_eq_none (by rw[BQ];omega)]
 rw[A0 _ _ _ _ (λe=>f (by simpa using e.symm))];by_cases b:d=i
 .subst b
  by_cases c:d<a.tmps.size
  .rw [CA _ _ _ c,CA _ _ _ (by rw[BQ];exact c)]
  rw[Array.getElem?_eq_none (by rw[BQ];omega),Array.getElem?_eq_none (by rw[BQ,BQ];omega)]
 rw[A0 _ _ _ _ (λe=>b (by simpa using e.symm)),A0 _ _ _ _ (λe=>b (by simpa using e.symm)),A0 _ _ _ _ (λe=>f (by simpa using e.symm))]
def SB{l c:List Nat}(d:l.Perm c):(∀i∈l,∀j∈l,sl i=sl j->i=j)->GS a sl f l=GS a sl f c:=by
 induction d with
 |nil=>intro _;rfl
 |cons x _ d=>intro g;exact congrArg (λc:Act=>c.put (X (sl x)) (f x)) (d (λi c j d=>g i (by simp[c]) j (by simp[d])))
 |swap x b l=>
  intro h;show((GS a sl f l).put (X (sl x)) (f x)).put (X (sl b)) (f b)=((GS a sl f l).put (X (sl b)) (f b)).put (X (sl x)) (f x);by_cases e:x=b
  .subst e;rfl
  exact O0 _ _ _ (λc=>e (h x ψ b ψ c))
 |trans c _ d g=>intro b;exact(d b).trans (g (λi d j g=>b i (c.mem_iff.2 d) j (c.mem_iff.2 g)))
def X4{d:Act->Ϣ->Prop}(x:Nat)(t e:TypeId)(s:o.op=.makeSlice t (.tmp x) (.tmp x))(p:prog.underlying t=X (.slice e))(m:(prog.info? e).map (λi=>(i.zero,i.size,i.bytes))=X (X z,sz,bytes))(l:bytes<=1024)(n:Nat)(r:a.eval (.tmp x)=ι (n:Int))(k:n<=1000)
  (q:∀w',w'.heap[(w:Nat)]?=X (χ (madeCells z.cells (n*sz)) e (0,0))->(∀(c:A1) tag,(∀b,(w:Nat)<=b->c b=0)->∃c',AT NO c c' w w'/\(∀b,w'.heap.size<=b->c' b=0)/\Ao w' c' tag e sz (H (X (U w 0)) n n) n (madeCells z.cells (n*sz)).toList)->d (a.put o.dst (H (X (U w 0)) n n)) w'):o.wp prog a w d Q:=by
 let⟨d,g,h,j,f⟩:=info_parts m;have:d.bytes*n<=1024*1000:=Nat.mul_le_mul (by rw[f];exact l) k;have f:=run_make w t e d z p g h .i64 .i64 (n:Int) (n:Int) Z Z (by rw[<-Int.natCast_mul];omega) Z;simp only[Int.toNat_natCast,j]at f;have:(World.alloc w (χ (madeCells z.cells (n*sz)) e)).heap.size=(w:Nat)+1:=by simp
 unfold Oper.wp;simp[execOp,s,r,f];refine q _ (Hn _ _) (λc tag f=>⟨λx=>if x=(w:Nat)then tag else c x,AT.paint _ _ (AA _ _) (Nr _),λb d=>?_,⟨World.ownsRow_lit w _ n (Nat.zero_le _) (by unfold maxLen;omega) (size_madeCells _ _),λb d=>?_,Z⟩⟩)
 .show (if _ then _ else _)=_
  rw[if_neg Z];exact f b Z
 simp[Value.ownBlock]at d;exact if_pos d
def X3{b:Nat}{c:Act->Ϣ->Prop}(x:Nat)(t:TypeId)(j:An b)(i:o.op=.call {callee:=.value (.func b),args:=#[.tmp x],argTypes:=#[t]})(v:ϒ)(g:a.eval (.tmp x)=v)(h:Calls prog b #[v] w (λe w'=>∃r,e=.returned r/\c (a.put o.dst r) w')):o.wp prog a w c Q:=by
 have f:a.tmps[x]?.getD undef=v:=by rw[<-Array.getD_eq_getD_getElem?];exact g
 have c:(execOp a.eval o).run prog w=.ok (.enter b #[v]) w:=by simpa[go_sem,execOp,i,f]using j #[v] w
 unfold Oper.wp;rw[c,Oper.upon_enter];refine h.mono ?_;rintro e w'⟨r,rfl,d⟩;exact d
def Eh(c:AQ):List Bi->Int
 |[]=>0
 |x::l=>if AS c x 0=0 then Eh c l else AS c x 0
def Ed(c:AQ):List (List Bi)->Int
 |[]=>0
 |l::r=>if Eh c l=0 then Ed c r else Eh c l
def GV{c:AQ}:∀{l:List Bi},(∀a∈l,AS c a 0=0)->Eh c l=0
 |[],_=>rfl
 |x::l,h=>by unfold Eh;rw[if_pos (h x ψ)];exact GV (λa b=>h a (by simp[b]))
def J6{c:AQ}:∀{l:List Bi}{p:Nat}{x:Bi},l[p]?=X x->(∀a∈l.take p,AS c a 0=0)->AS c x 0≠0->Eh c l=AS c x 0
 |[],_,_,h,_,_=>by simp at h
 |z::l,0,x,h,_,hx=>by simp at h;subst h;unfold Eh;rw[if_neg hx]
 |z::l,p+1,x,h,hall,hx=>by unfold Eh;rw[if_pos (hall z ψ)];exact J6 (by simpa using h) (λa b=>hall a (by simp[b])) hx
def Gp{c:AQ}:∀{cs:List (List Bi)},(∀l∈cs,∀a∈l,AS c a 0=0)->Ed c cs=0
 |[],_=>rfl
 |l::r,h=>by unfold Ed;rw[if_pos (GV (h l ψ))];exact Gp (λa b=>h a (by simp[b]))
def Km{c:AQ}:∀{cs:List (List Bi)}{k:Nat}{l:List Bi}{p:Nat}{x:Bi},cs[k]?=X l->(∀z∈cs.take k,∀a∈z,AS c a 0=0)->l[p]?=X x->(∀a∈l.take p,AS c a 0=0)->AS c x 0≠0->Ed c cs=AS c x 0
 |[],_,_,_,_,h,_,_,_,_=>by simp at h
 |z::r,0,l,p,x,h,_,hp,hl,hx=>by simp at h;subst h;have e:=J6 hp hl hx;unfold Ed;rw[if_neg (by rw[e];exact hx),e]
 |z::r,k+1,l,p,x,h,hall,hp,hl,hx=>by unfold Ed;rw[if_pos (GV (hall z ψ))];exact Km (by simpa using h) (λa b=>hall a (by simp[b])) hp hl hx
def ZS{c:AQ}:∀{l:List Bi},Eh c l=0->∀y∈l,AS c y 0=0
 |[],_,_,a=>by cases a
 |x::l,h,y,a=>by
  unfold Eh at h;split at h
  .rename_i b
   rcases ϰ.1 a with rfl|a
   .exact b
   exact ZS h y a
  rename_i b;exact absurd h b
def Y5{c:AQ}:∀{cs:List (List Bi)},Ed c cs=0->∀l∈cs,∀y∈l,AS c y 0=0
 |[],_,_,a=>by cases a
 |x::r,h,l,a=>by
  unfold Ed at h;split at h
  .rename_i b
   rcases ϰ.1 a with rfl|a
   .exact ZS b
   exact Y5 h l a
  rename_i b;exact absurd h b
noncomputable def GO(c:AQ)(m:Mm)(cs:List (List Bi))(fuel:Int):Int:=
 if ¬(DW c=ϑ/\Bb c m=ϑ)then 1 else if fuel<0\/1048576<fuel then 2 else if cs.length=0 then 3 else if 8<cs.length\/cs.any (λl=>decide (2000<(l:Int)))=ϑ then 4 else Ed c cs
def WX:GC AI:=by
 unfold GC Rq.wf AI in64;simp
def NB:∀{l:List Nat},(∀j∈l,sl j=sl i->j=i)->i∈l->sl i<a.tmps.size->(GS a sl f l).tmps[sl i]?=X (f i)
 |j::l,h,hi,hs=>by
  by_cases e:j=i
  .subst e
   exact CA _ _ _ (by rw[Ja];exact hs)
  show((GS a sl f l).put (X (sl j)) (f j)).tmps[sl i]?=_;rw[A0 _ _ _ _ (λk=>e (h j ψ (by simpa using k)))];exact NB (λk b=>h k (by simp[b])) (by rcases ϰ.1 hi with k|k;exact absurd k.symm e;exact k) hs
def TT{c:AQ}{m:Mm}(a:DW c=ϝ\/Bb c m=ϝ):GO c m cs fuel=1:=by
 unfold GO;rw[if_pos (λk=>by rcases a with a|a;rw[a]at k;cases k.1;rw[a]at k;cases k.2)]
def TY{c:AQ}{m:Mm}(b:DW c=ϑ/\Bb c m=ϑ)(a:fuel<0\/1048576<fuel):GO c m cs fuel=2:=by
 unfold GO;rw[if_neg (λk=>k b),if_pos a]
def Wm{c:AQ}{m:Mm}(b:DW c=ϑ/\Bb c m=ϑ)(a:0<=fuel/\fuel<=1048576)(a:cs.length=0):GO c m cs fuel=3:=by
 unfold GO;rw[if_neg (λk=>k b),if_neg Z,if_pos a]
def TU{c:AQ}{m:Mm}(d:DW c=ϑ/\Bb c m=ϑ)(a:0<=fuel/\fuel<=1048576)(b:cs.length≠0)(a:8<cs.length\/cs.any (λl=>decide (2000<(l:Int)))=ϑ):GO c m cs fuel=4:=by
 unfold GO;rw[if_neg (λk=>k d),if_neg Z,if_neg b,if_pos a]
def Wn{c:AQ}{m:Mm}(d:DW c=ϑ/\Bb c m=ϑ)(a:0<=fuel/\fuel<=1048576)(a:cs.length≠0)(e:cs.length<=8)(b:cs.any (λl=>decide (2000<(l:Int)))=ϝ):GO c m cs fuel=Ed c cs:=by
 unfold GO;rw[if_neg (λk=>k d),if_neg Z,if_neg a,if_neg (λk=>by rcases k with k|k;omega;rw[b]at k;cases k)]
structure Xe(m:Mm)(cs:List (List Bi)):Prop where
 g:m.G.length<=1000000
 n:m.N.length<=4096
 f:∀x∈m.N,x.f.length<=1000000
 a:∀l∈cs,∀x∈l,x.args.length<=1000000
