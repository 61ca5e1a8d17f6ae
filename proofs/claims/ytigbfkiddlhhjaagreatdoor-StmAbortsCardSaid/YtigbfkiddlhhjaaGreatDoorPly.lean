import Derived.Laws.EntriesVeiled
import Derived.Test.YtigbfkiddlhhjaaGreatDoorNxt2
set_option linter.all false
open Go.Value renaming slice→σ
open Go.Obj renaming cells→χ
namespace Go.Proofs.YtigbfkiddlhhjaaGreatDoor
open Go.RowKit
variable {l:List Int} {c:AQ} {x:Bi} {m m1 m':AV} {b B B' o:Nat} {fs:List AY} {f:AY} {r:Rq} {n:Int} {w:World} {v:Value} {F:List Nat}
def BS (c:AQ) (n:Gl):Bool:=if n.type<0 then true else match c.H[n.type.toNat]? with|none=>true|some k=>if (n.f:Int)≠k then true else n.f.any (λn=>!Af n)
def Bb (c:AQ) (m:Mm):Bool:=decide ((m.G:Int)=c.G) && (decide (m.N.length<=4096) && (!(m.G.any (λn=>!Af n)) && !(m.N.any (BS c))))
structure PT where
 K:Int
 O:Int
 D:Int
structure MB where
 M:Mm
 log:List PT
 N:Int
def Nm (x:Gl) (i:Nat) (v:Int):Gl:={ x with f:=x.f.set i v }
def Bd (m:Mm) (r:Rq):List Int:=if (m.N:Int)<r.O then [] else if 0<r.O then ((m.N[(r.O - 1).toNat]?).map (·.f)).getD [] else m.G
def putM (m:Mm) (r:Rq):Mm:=if r.K≠2 then m else if 0<r.O then { m with N:=m.N.modify (r.O - 1).toNat (λx=>Nm x r.D.toNat r.V) } else { m with G:=m.G.set r.D.toNat r.V }
def M7 (c:AQ) (x:Gl):Prop:=0<=x.type/\c.H[x.type.toNat]?=some (x.f:Int)/\∀ n∈x.f,BP n
structure Dp (c:AQ) (m:Mm):Prop where
 gl:(m.G:Int)=c.G
 gv:∀ n∈m.G,BP n
 len:m.N.length<=4096
 N:∀ x∈m.N,M7 c x
def NC :l.any (λn=>!Af n)=false↔∀ n∈l,BP n:=by
 rw [List.any_eq_false];exact ⟨λh n a=>by have:=h n a;simp at this;exact Aq.1 this,λh n a=>by rw [Aq.2 (h n a)];simp⟩
def KE {x:Gl}:BS c x=false↔M7 c x:=by
 unfold BS M7;by_cases h:x.type<0
 .rw [if_pos h];constructor
  .intro h;cases h
  .intro a;omega
 rw [if_neg h];cases d:c.H[x.type.toNat]? with
 | none=>simp
 | some k=>
  simp only [];by_cases b:(x.f:Int)=k
  .rw [if_neg (by simp [b]),NC]
   exact ⟨λa=>⟨ω,by rw [b],a⟩,λa=>a.2.2⟩
  .rw [if_pos b]
   exact ⟨λh=>(by cases h),λa=>absurd (by simpa using a.2.1.symm) b⟩
def Ik {m:Mm}:Bb c m=true↔Dp c m:=by
 unfold Bb;simp only [Bool.and_eq_true,decide_eq_true_eq,Bool.not_eq_true'];rw [NC];have g:m.N.any (BS c)=false↔∀ x∈m.N,M7 c x:=by rw [List.any_eq_false];exact ⟨λh x f=>KE.1 (by have:=h x f;simpa using this),λh x f=>by rw [KE.2 (h x f)];simp⟩
 rw [g];exact ⟨λ⟨a,b,d,e⟩=>⟨a,d,b,e⟩,λh=>⟨h.gl,h.len,h.gv,h.N⟩⟩
inductive EK (m:AV):KM->Prop
 | go (m1:AV):EK m (.go m1)
 | stop (r:Rq) (m1:AV):m1.Y=m.Y/\m1.I=m.I+1->EK m (.stop r m1)
 | junk (r:Rq) (m1:AV):r.K=5->EK m (.stop r m1)
def EK.ite {p:Prop} [Decidable p] {a b:KM} (c:EK m a) (d:EK m b):EK m (if p then a else b):=by split<;>assumption
def Qh (c:AQ) (m:AV) (fs:List AY) (f:AY) (y:BK) (x:Cd):EK m (Df c m fs f y x):=by
 unfold Df;simp only []
 repeat' apply EK.ite
 all_goals first|exact .go _|exact .stop _ _ ⟨rfl,rfl⟩|skip
 .cases Dt c x.a with
  | none=>exact .junk _ _ rfl
  | some z=>
   simp only [];apply EK.ite
   .exact .go _
   .exact .stop _ _ ⟨rfl,rfl⟩
 .cases fs.getLast? with
  | none=>exact .stop _ _ ⟨rfl,rfl⟩
  | some z=>exact .go _
def Sy (hs:AU c) (h:Dr c m fs f) (a:stepP c m=.stop r m1) (d:r.K≠5):Co m1<Co m:=by
 by_cases b:100000<=m.I
 .unfold stepP at a
  rw [if_pos b] at a;cases a;exact absurd rfl d
 have b:m.I<100000:=ω;obtain ⟨y,x,g,n,i,l,j⟩:=h.at_ hs;rw [h.stepP g.fn i b] at a;have e:EK m (.stop r m1):=by rw [<-a];exact Qh c m fs f y x
 cases e with
 | stop _ _ k=>unfold Co;omega
 | junk _ _ k=>exact absurd k d
def Us (hs:AU c) (h:Cf c m m'):∀ fs f,Dr c m fs f->m'.Q.K≠5->Co m'<Co m:=by
 induction h with
 | stop a=>intro fs f b d;rename_i m r m1;show Co m1<Co m;exact Sy hs b a d
 | go a _ j=>intro fs f b d;have:=GA hs b;rw [a] at this;obtain ⟨⟨e,i,g⟩,k⟩:=this;have:=j e i g d;omega
def mu (m:AV):Nat:=(Co m).toNat*2+(if m.Q.K=4\/m.Q.K=5 then 0 else 1)
def DQ.pot0 (h:DQ c m):0<=Co m:=by
 have a:=h.1.Y;have b:=h.1.idle1;unfold Co;omega
def IR (hs:AU c) (h:DQ c m) (q:m.Q.K≠4) (r:m.Q.K≠5) (i:Bj m.Q n=true) (z:ED c m n m'):(DQ c m'\/(m'.J=[]/\m'.Q=Ah 21/\EB m'))/\mu m'<mu m:=by
 have D:=h.pot0;obtain ⟨d,y⟩:=h;have p:mu m=(Co m).toNat*2+1:=by unfold mu;rw [if_neg (λe=>e.elim q r)]
 obtain ⟨fs,f,o⟩:∃ fs f,C9 c m m.Q fs f:=by
  rcases y with ⟨e,_,a,_⟩|⟨v,_,a,_⟩|h
  .exact absurd (by rw [a];rfl) r
  .exact absurd (by rw [a];rfl) q
  .exact h
 have g:∀ l j k,Dr c l j k->Co l=Co m->Cf c l m'->(DQ c m'\/(m'.J=[]/\m'.Q=Ah 21/\EB m'))/\mu m'<mu m:=λl j k t F a=>by
  obtain ⟨s,B⟩:=Md hs a j k t;refine ⟨.inl s,?_⟩;have E:=s.pot0;rw [p];unfold mu;split
  .omega
  .rename_i b
   have:=Us hs a j k t ω;omega
 rcases z with ⟨b,C,rfl⟩|⟨b,u,x,w,a⟩|⟨b,a⟩
 .refine ⟨.inr ⟨rfl,rfl,⟨d.Y,d.idle0,d.idle1,d.cmp0,d.potle⟩⟩,?_⟩
  rw [p];unfold mu;rw [if_pos (by simp [Ah])];show (Co m).toNat*2+0<_;omega
 .have aD:u=fs/\x=f:=by have:=w.symm.trans o.fr;simpa using List.append_inj' this rfl
  obtain ⟨rfl,rfl⟩:=aD;have A:BP n:=by
   unfold Bj at i;rcases b with b|⟨b,_⟩
   .rw [if_pos b] at i;exact Aq.1 i
   .rw [if_neg ω,if_pos b] at i;simp at i;unfold BP;omega
  exact g _ _ _ (o.push d ω n A Eg) rfl a
 .exact g _ _ _ (o.goOn d b Eg) rfl a
def Ri {e:AV} (h:ED c m n m1) (b:ED c m n e):m1=e:=by
 rcases h with ⟨d,a,rfl⟩|⟨d,fs,f,a,g⟩|⟨d,a⟩
 .rcases b with ⟨b1,b2,rfl⟩|⟨b1,_⟩|⟨b1,_⟩
  .rfl
  .omega
  .omega
 .rcases b with ⟨b1,b2,rfl⟩|⟨b1,aB,f',b2,b3⟩|⟨b1,_⟩
  .omega
  .have he:=a.symm.trans b2
   obtain ⟨rfl,i⟩:=List.append_inj' he rfl;cases i;exact Kb g b3
  .omega
 .rcases b with ⟨b1,b2,rfl⟩|⟨b1,_⟩|⟨b1,b2⟩
  .omega
  .omega
  .exact Kb a b2
def VP (c:AQ) (f:BK) (hs:List Int) (i:Nat):Bool:=match f.code[i]?,hs[i]? with
 | some x,some h=>decide (AM c f x<=h) && ((decide (x.op≠10) || decide (h=AM c f x)) && (Am x i).all (λk=>decide (k<f.code.length) && decide (hs[k]?=some (h - AM c f x+AK c f x))))
 | _,_=>false
def Ro {f:BK} (hs:List Int) (q:hs[0]?=some 0) (r:0<f.code.length) (d:∀ i,i<f.code.length->VP c f hs i=true):CQ c f:=by
 have o:∀ i n,Reach c f i n->i<f.code.length/\hs[i]?=some n:=λi n h=>by refine h (λi n=>i<f.code.length/\hs[i]?=some n) ⟨r,q⟩ ?_;rintro i n x k ⟨g,j⟩ l p;have:=d i g;unfold VP at this;rw [l,j] at this;simp only [Bool.and_eq_true,decide_eq_true_eq,List.all_eq_true] at this;exact this.2.2 k p
 refine ⟨λi n h=>?_,λi n m g j=>?_⟩
 .obtain ⟨g,j⟩:=o i n h
  have:=d i g;unfold VP at this;obtain ⟨x,l⟩:∃ x,f.code[i]?=some x:=⟨_,Lg g⟩
  rw [l,j] at this;simp only [Bool.and_eq_true,Bool.or_eq_true,decide_eq_true_eq,List.all_eq_true] at this;refine ⟨x,l,this.1,λe=>?_,λk p=>(this.2.2 k p).1⟩;rcases this.2.1 with h|h
  .exact absurd e h
  .exact Int.le_of_eq h
 .have a:=(o i n g).2
  have b:=(o i m j).2;rw [a] at b;exact Option.some.inj b
def Nn (hs:AU c) {fuel:Int} (h:AS c x fuel=0) (p:Cf c (CF c x fuel) m):DQ c m/\mu m<=300000000000:=by
 obtain ⟨fs,f,o,q⟩:∃ fs f,Dr c (CF c x fuel) fs f/\Co (CF c x fuel)<=110000000000:=by
  unfold AS at h;by_cases d:fuel<0\/1048576<fuel
  .rw [if_pos d] at h;omega
  rw [if_neg d] at h;cases b:c.funcs[(Dh c x.proc).toNat]? with
  | none=>rw [b] at h;simp at h
  | some y=>
   rw [b] at h;simp only [] at h;by_cases g:Dh c x.proc<0
   .rw [if_pos g] at h;omega
   rw [if_neg g] at h;by_cases i:(x.args:Int)=y.params;rotate_left
   .rw [if_pos i] at h;omega
   rw [if_neg (by simp [i])] at h;cases j:x.args.any (λn=>!Af n) with
   | true=>rw [j] at h;simp at h
   | false=>
    have k:=hs.fok b;unfold CX at k;have e:CF c x fuel=⟨[⟨Dh c x.proc,0,x.args++List.replicate (y.L - y.params).toNat 0,[]⟩],⟨0,0,0,0,0⟩,fuel,0,0⟩:=by unfold CF;rw [b];rfl
    rw [e];refine ⟨[],_,⟨rfl,⟨y,⟨by show 0<=Dh c x.proc;omega,b,by show (0:Int)<=0;omega,by show ((x.args++List.replicate (y.L - y.params).toNat 0).length:Int)=y.L;rw [List.length_append,List.length_replicate];omega,λn a=>?_,ψ⟩,Reach.zero c y⟩,trivial,ψ,⟨by show 0<=fuel;omega,by show (0:Int)<=0;omega,by show (0:Int)<=100000;omega,by show (0:Int)<=0;omega,by show (0:Int)+(fuel*100001+(100000 - 0))<=_;omega⟩⟩,by show fuel*100001+(100000 - 0)<=_;omega⟩;simp only [List.mem_append,List.mem_replicate] at a;rcases a with a|a
    .exact NC.1 j n a
    .rw [a.2];unfold BP;omega
 obtain ⟨l,d⟩:=Md hs p fs f o;refine ⟨l,?_⟩;unfold mu;split<;>omega
structure Fy (c:AQ) (r:Rq):Prop where
 K:r.K=1\/r.K=2\/r.K=3
 D:0<=r.D
 field2:r.D<=100
 O:0<=r.O
 nodeV:BP r.O
 V:BP r.V
 alloc:r.K=3->∃ n,c.H[r.D.toNat]?=some n/\0<=n/\n<=12
def C9.Q (hs:AU c) (h:C9 c m r fs f):Fy c r:=by
 obtain ⟨y,x,_,k,_,l,j,_⟩:=h.top;have a:=fun {n:Int} hn=>hs.lim (n:=n) k.fn l hn;have z:BP 0:=by unfold BP;omega
 have p:=hs.1.2.2.2.1;have o:=hs.1.1;rcases j with ⟨b,rfl⟩|⟨v,b,e,rfl⟩|⟨n,b,i,d,rfl⟩|⟨n,v,b,i,d,e,rfl⟩|⟨b,rfl⟩
 .have:=a (n:=c.G) (by rw [b];rfl)
  exact ⟨ψ,this.1,by show x.a<=100;omega,ψ,z,z,ψ⟩
 .have:=a (n:=c.G) (by rw [b];rfl)
  exact ⟨ψ,this.1,by show x.a<=100;omega,ψ,z,e,ψ⟩
 .have:=a (n:=12) (by rw [b];rfl)
  exact ⟨ψ,this.1,by show x.a<=100;omega,by show 0<=n;omega,d,z,ψ⟩
 .have:=a (n:=12) (by rw [b];rfl)
  exact ⟨ψ,this.1,by show x.a<=100;omega,by show 0<=n;omega,d,e,ψ⟩
 .have:=a (n:=(c.H:Int)) (by rw [b];rfl)
  refine ⟨ψ,this.1,by show x.a<=100;omega,ψ,z,z,λ_=>?_⟩;have g:x.a.toNat<c.H.length:=ω;refine ⟨c.H[x.a.toNat],Lg g,?_⟩;have d:=hs.1.2.1;rw [List.any_eq_false] at d;have:=d _ (List.getElem_mem g);simp at this;omega
def AE.up {α:Type} {sz:Nat} {E d:World->Nat->Nat->α->Prop} {l:List α} (h:AE B w sz E v l) (m:B<=B') (g:∀ b o x,E w b o x->d w b o x):AE B' w sz d v l:=by
 obtain ⟨a,c,rfl,j,e,f,h⟩:=h;refine ⟨a,c,rfl,j,e,f,?_⟩;rcases h with h|⟨b,o,rfl,n,h⟩
 .exact .inl h
 .exact .inr ⟨b,o,rfl,ω,λi x k=>g _ _ _ (h i x k)⟩
def AE.upI (h:AE B w 1 Aj v l) (a:B<=B'):AE B' w 1 Aj v l:=h.up a (λ_ _ _ h=>h)
def CW.up {f:BK} (h:CW B w b o f) (k:B<=B'):CW B' w b o f:=by
 obtain ⟨a,c,d,e,⟨v,g,i⟩,j⟩:=h;exact ⟨a,c,d,e,⟨v,g,i.up k (λ_ _ _ h=>h)⟩,j⟩
def CK.up (h:CK B w b o f) (a:B<=B'):CK B' w b o f:=by
 obtain ⟨c,d,⟨v,e,g⟩,⟨u,i,j⟩,k⟩:=h;exact ⟨c,d,⟨v,e,g.upI a⟩,⟨u,i,j.upI a⟩,k⟩
def GP.up {f:Gl} (h:GP B w b o f) (g:B<=B'):GP B' w b o f:=by
 obtain ⟨a,⟨v,c,d⟩,e⟩:=h;exact ⟨a,⟨v,c,d.upI g⟩,e⟩
def BF.up (h:BF B w v c) (a:B<=B'):BF B' w v c:=by
 obtain ⟨b,d,e,f,g,i⟩:=h;exact ⟨b,d,e,f.upI a,g.up a (λ_ _ _ h=>h.up a),i⟩
def Lw.up {m:Mm} (h:Lw B w v m) (a:B<=B'):Lw B' w v m:=by
 obtain ⟨b,f,c,d,e⟩:=h;exact ⟨b,f,c,d.upI a,e.up a (λ_ _ _ h=>h.up a)⟩
def Gh.up (h:Gh B w v x) (e:B<=B'):Gh B' w v x:=by
 obtain ⟨a,b,c,d⟩:=h;exact ⟨a,b,c.upI e,d⟩
def Be.reads (h:Be w v l F) (hl:l.length<=140737488355328):AE w w 1 Aj v l:=by
 by_cases d:0<l.length
 .obtain ⟨lb,a,rfl,hF,h1,h2⟩:=h.form d
  refine ⟨_,a,rfl,hl,h1,h2,.inr ⟨lb,0,rfl,h.lt lb (by rw [hF];simp),λi x b=>⟨?_,h.2.2 x (Lm b)⟩⟩⟩;rw [Nat.zero_add,Nat.mul_one];exact h.cellAt b
 .have h3:l=[]:=List.eq_nil_of_length_eq_zero ω
  subst h3;rcases h.1.2 with ⟨rfl,_⟩|⟨g,a,e,rfl,_,j,f,c,_⟩
  .exact ⟨none,0,rfl,ψ,ψ,ω,.inl rfl⟩
  .exact ⟨some (π g 0),a,rfl,ψ,ψ,by unfold maxLen at c;omega,.inl rfl⟩
def BJ.at_ :∀ {fs:List AY} {cells:List Value} {F:List Nat} {i:Nat} {f:AY},BJ w cells fs F->fs[i]?=some f->
  ∃ a b c d,cells[i*4]?=some (ι f.fn)/\cells[i*4+1]?=some (ι f.pc)/\cells[i*4+2]?=some a/\cells[i*4+3]?=some b/\Be w a f.L c/\Be w b f.S d/\in64 f.fn/\in64 f.pc
 | [],_,_,_,_,_,hx=>by simp at hx
 | g::fs,cells,F,0,f,h,hx=>by obtain ⟨a,b,s,c,d,q,rfl,l,m,n,o,p,rfl⟩:=h;simp at hx;subst hx;exact ⟨a,b,c,d,rfl,rfl,rfl,rfl,l,m,n,o⟩
 | g::fs,cells,F,i+1,f,h,hx=>by
  obtain ⟨a,b,s,c,d,q,rfl,l,m,n,o,p,rfl⟩:=h;obtain ⟨j,k,r,e,t,u,v,x,y⟩:=p.at_ (by simpa using hx);refine ⟨j,k,r,e,?_,?_,?_,?_,y⟩
  .rw [show (i+1)*4=i*4+1+1+1+1 by omega];simpa using t
  .rw [show (i+1)*4+1=(i*4+1)+1+1+1+1 by omega];simpa using u
  .rw [show (i+1)*4+2=(i*4+2)+1+1+1+1 by omega];simpa using v
  .rw [show (i+1)*4+3=(i*4+3)+1+1+1+1 by omega];simpa using x
def Cv.reads {fv:Value} (h:Cv w fv fs F) (hl:fs.length<=140737488355328) (n:∀ f∈fs,f.L.length<=140737488355328/\f.S.length<=140737488355328):AE w w 4 (CK w) fv fs:=by
 obtain ⟨c,B,a,e,rfl,E⟩:=h;have G:=e.len;rcases a.2 with ⟨rfl,m⟩|⟨g,b,D,rfl,_,o,k,l,_⟩
 .have h3:=List.eq_nil_of_length_eq_zero m
  subst h3;exact ⟨none,0,rfl,ψ,ψ,ω,.inl rfl⟩
 .refine ⟨some (π g 0),b,rfl,hl,k,by unfold maxLen at l;omega,.inr ⟨g,0,rfl,(La o),λi f d=>?_⟩⟩
  obtain ⟨y,z,A,C,p,q,r,s,t,u,v,x⟩:=e.at_ d;have H:=(Ll d)
  have j:=n f (Lm d);rw [Nat.zero_add];refine ⟨?_,?_,⟨y,?_,t.reads j.1⟩,⟨z,?_,u.reads j.2⟩,v,x⟩
  .rw [a.cellAt _ ω];exact p
  .rw [a.cellAt _ ω];exact q
  .rw [a.cellAt _ ω];exact r
  .rw [a.cellAt _ ω];exact s
def IK (m:AV):Prop:=m.J.length<=140737488355328/\∀ f∈m.J,f.L.length<=140737488355328/\f.S.length<=140737488355328
def DL.modest (hs:AU c) (b:Bv c) {g:AY} {P:Cd->Prop} (h:DL c g P):g.L.length<=140737488355328/\g.S.length<=140737488355328:=by
 obtain ⟨y,x,m,a,i,f,_,e,n⟩:=h;have j:=DJ (hs.wf a.fn) (hs.snd a.fn) e;have k:=b y (Lm a.fn);have l:=((hs.wf a.fn).pops x (Lm f)).1;have d:=hs.fok a.fn;unfold CX at d;have:=a.loc;omega
def Ge.modest (hs:AU c) (b:Bv c):∀ {l:List AY} {k:Int},Ge c l k->∀ f∈l,f.L.length<=140737488355328/\f.S.length<=140737488355328
 | [],_,_,f,a=>by simp at a
 | g::r,k,h,f,a=>by
  rw [List.mem_cons] at a;rcases a with rfl|a
  .exact h.1.modest hs b
  .exact Ge.modest hs b h.2 f a
def IQ (h:m.J=[]):IK m:=by
 unfold IK;rw [h];exact ⟨ψ,ψ⟩
def C9.modest (hs:AU c) (a:Bv c) (h:C9 c m r fs f):IK m:=by
 refine ⟨?_,λg b=>?_⟩
 .rw [h.fr,List.length_append];have:=h.len;simp;omega
 .rw [h.fr,List.mem_append,List.mem_singleton] at b
  rcases b with b|rfl
  .exact h.low.modest hs a g (List.mem_reverse.2 b)
  .exact h.top.modest hs a
def DQ.modest (hs:AU c) (a:Bv c) (h:DQ c m):IK m:=by
 rcases h.2 with ⟨_,_,_,h⟩|⟨_,_,_,h⟩|⟨fs,f,b⟩
 .exact IQ h
 .exact IQ h
 .exact b.modest hs a
