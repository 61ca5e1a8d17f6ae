import Derived.Laws.EntriesVeiled
import Derived.Test.YtigbfkiddlhhjaaGreatDoorCpy3
import Derived.Deep.Slices
import Derived.Deep.Fields
import Derived.ChangeSame
import Derived.Lib.SmallJoins
import Derived.SizedLaws
import Derived.MakeChecks
import Derived.OpenShut
import Derived.Carry
import Derived.Test.YtigbfkiddlhhjaaGreatDoorCards
import Derived.Test.YtigbfkiddlhhjaaGreatDoorTie
import Derived.ProofKit
import Derived.LaidMore
import Derived.Stop.Joined
import Derived.Stop.LaidErr
import Derived.Lib.LaidTab
import Derived.SevenTiedAt
import Derived.ChangeKeysEq
import Derived.DeepKeys3
set_option maxHeartbeats 400000
set_option maxRecDepth 100000
set_option linter.all false
open Go renaming World→Ϣ,Value→ϒ,Calls→ϙ
open Go.RowKit renaming Below→ϐ
open Option renaming some→I
open Bool renaming false→ϝ,true→ϑ
open List renaming replicate→ϱ,mem_cons→ϰ
open Go.Value renaming slice→σ
open Go.Obj renaming cells→χ
namespace Go.Proofs.YtigbfkiddlhhjaaGreatDoor
open Go.RowKit Proofs.Tryz
def BS(c:AQ)(n:Gl):Bool:=if n.type<0 then ϑ else match c.H[n.type.toNat]? with|none=>ϑ|some k=>if(n.f:Int)≠k then ϑ else n.f.any (λn=>!Af n)
def Bb(c:AQ)(m:Mm):Bool:=decide ((m.G:Int)=c.G)&&(decide (m.N.length<=4096)&&(!(m.G.any (λn=>!Af n)) && !(m.N.any (BS c))))
structure PT where
 K:Int
 O:Int
 D:Int
structure MB where
 M:Mm
 log:List PT
 N:Int
def Nm(x:Gl)(i:Nat)(v:Int):Gl:={x with f:=x.f.set i v}
def Bd(m:Mm)(r:Rq):List Int:=if(m.N:Int)<r.O then []else if 0<r.O then((m.N[(r.O-1).toNat]?).map (·.f)).getD []else m.G
def putM(m:Mm)(r:Rq):Mm:=if r.K≠2 then m else if 0<r.O then {m with N:=m.N.modify (r.O-1).toNat (λx=>Nm x r.D.toNat r.V)}else {m with G:=m.G.set r.D.toNat r.V}
def M7(c:AQ)(x:Gl):Prop:=0<=x.type/\c.H[x.type.toNat]?=I (x.f:Int)/\∀n∈x.f,BP n
structure Dp(c:AQ)(m:Mm):Prop where
 gl:(m.G:Int)=c.G
 gv:∀n∈m.G,BP n
 len:m.N.length<=4096
 N:∀x∈m.N,M7 c x
def NC{l:List Int}:l.any (λa=>!Af a)=ϝ↔∀a∈l,BP a:=by
 rw[List.any_eq_false];exact⟨λa c b=>by have:=a c b;simp at this;exact Aq.1 this,λa c b=>by rw[Aq.2 (a c b)];simp⟩
def KE{c:AQ}{x:Gl}:BS c x=ϝ↔M7 c x:=by
 unfold BS M7;by_cases a:x.type<0
 .rw [if_pos a];constructor
  .intro a;cases a
  intro d;omega
 rw[if_neg a];cases e:c.H[x.type.toNat]? with
 |none=>simp
 |some d=>
  simp only[];by_cases b:(x.f:Int)=d
  .rw [if_neg (by simp[b]),NC]
   exact⟨λd=>⟨ω,by rw[b],d⟩,λd=>d.2.2⟩
  rw[if_pos b];exact⟨λa=>(by cases a),λd=>absurd (by simpa using d.2.1.symm) b⟩
def Ik{c:AQ}{m:Mm}:Bb c m=ϑ↔Dp c m:=by
 unfold Bb;simp only[Bool.and_eq_true,decide_eq_true_eq,Bool.not_eq_true'];rw[NC];have e:m.N.any (BS c)=ϝ↔∀a∈m.N,M7 c a:=by rw[List.any_eq_false];exact⟨λa d b=>KE.1 (by have:=a d b;simpa using this),λa d b=>by rw[KE.2 (a d b)];simp⟩
 rw[e];exact⟨λ⟨b,e,a,d⟩=>⟨b,a,e,d⟩,λa=>⟨a.gl,a.len,a.gv,a.N⟩⟩
inductive EK(m:AV):KM->Prop
 |go (m1:AV):EK m (.go m1)
 |stop (r:Rq) (m1:AV):m1.Y=m.Y/\m1.I=m.I+1->EK m (.stop r m1)
 |junk (r:Rq) (m1:AV):r.K=5->EK m (.stop r m1)
def EK.ite{m:AV}{p:Prop}[Decidable p]{a b:KM}(c:EK m a)(c:EK m b):EK m (if p then a else b):=by split<;>assumption
def Qh(c:AQ)(m:AV)(fs:List AY)(f:AY)(y:BK)(x:Cd):EK m (Df c m fs f y x):=by
 unfold Df;simp only[];repeat' apply EK.ite
 all_goals first|exact .go _|exact .stop _ _ ⟨rfl,rfl⟩|skip
 .cases Dt c x.a with
  |none=>exact .junk _ _ rfl
  |some a=>
   simp only[];apply EK.ite
   .exact .go _
   exact .stop _ _ ⟨rfl,rfl⟩
 cases fs.getLast? with
 |none=>exact .stop _ _ ⟨rfl,rfl⟩
 |some a=>exact .go _
def Sy{c:AQ}(hs:AU c){m:AV}{fs:List AY}{f:AY}(d:Dr c m fs f){r:Rq}{m1:AV}(a:stepP c m=.stop r m1)(g:r.K≠5):Co m1<Co m:=by
 by_cases e:100000<=m.I
 .unfold stepP at a
  rw[if_pos e]at a;cases a;exact absurd rfl g
 have b:m.I<100000:=ω;let⟨l,k,h,_,i,_,_⟩:=d.at_ hs;rw[d.stepP h.fn i b]at a;have j:EK m (.stop r m1):=by rw[<-a];exact Qh c m fs f l k
 cases j with
 |stop _ _ a=>unfold Co;omega
 |junk _ _ a=>exact absurd a g
def Us{c:AQ}(hs:AU c){m m':AV}(h:Cf c m m'):∀b f,Dr c m b f->m'.Q.K≠5->Co m'<Co m:=by
 induction h with
 |stop a=>intro b f d e;rename_i m r l;show Co l<Co m;exact Sy hs d a e
 |go a _ k=>intro b f d e;have:=GA hs d;rw[a]at this;let⟨⟨g,j,i⟩,n⟩:=this;have:=k g j i e;omega
def mu(m:AV):Nat:=(Co m).toNat*2+(if m.Q.K=4\/m.Q.K=5 then 0 else 1)
def DQ.pot0{c:AQ}{m:AV}(a:DQ c m):0<=Co m:=by
 have:=a.1.Y;have:=a.1.idle1;unfold Co;omega
def IR{c:AQ}(hs:AU c){m m':AV}{n:Int}(h:DQ c m)(r:m.Q.K≠4)(s:m.Q.K≠5)(i:Bj m.Q n=ϑ)(B:ED c m n m'):(DQ c m'\/(m'.J=[]/\m'.Q=Ah 21/\EB m'))/\mu m'<mu m:=by
 have G:=h.pot0;let⟨d,A⟩:=h;have q:mu m=(Co m).toNat*2+1:=by unfold mu;rw[if_neg (λe=>e.elim r s)]
 let⟨o,f,p⟩:∃o f,C9 c m m.Q o f:=by
  rcases A with ⟨e,_,a,_⟩|⟨v,_,a,_⟩|h
  .exact absurd (by rw[a];rfl) s
  .exact absurd (by rw[a];rfl) r
  exact h
 have g:∀l j k,Dr c l j k->Co l=Co m->Cf c l m'->(DQ c m'\/(m'.J=[]/\m'.Q=Ah 21/\EB m'))/\mu m'<mu m:=λl j k u L a=>by
  let⟨t,E⟩:=Md hs a j k u;refine⟨.inl t,?_⟩;have J:=t.pot0;rw[q];unfold mu;split
  .omega
  rename_i b;have:=Us hs a j k u ω;omega
 rcases B with ⟨b,F,rfl⟩|⟨b,w,z,y,a⟩|⟨b,a⟩
 .refine ⟨.inr ⟨rfl,rfl,⟨d.Y,d.idle0,d.idle1,d.cmp0,d.potle⟩⟩,?_⟩
  rw[q];unfold mu;rw[if_pos (by simp[Ah])];show(Co m).toNat*2+0<_;omega
 .have x:w=o/\z=f:=by have:=y.symm.trans p.fr;simpa using List.append_inj' this rfl
  obtain⟨rfl,rfl⟩:=x;have C:BP n:=by
   unfold Bj at i;rcases b with b|⟨b,_⟩
   .rw [if_pos b]at i;exact Aq.1 i
   rw[if_neg ω,if_pos b]at i;simp at i;unfold BP;omega
  exact g _ _ _ (p.push d ω n C Eg) rfl a
 exact g _ _ _ (p.goOn d b Eg) rfl a
def Ri{c:AQ}{m m1 f:AV}{n:Int}(i:ED c m n m1)(g:ED c m n f):m1=f:=by
 rcases i with ⟨e,d,rfl⟩|⟨e,_,_,d,l⟩|⟨e,d⟩
 .rcases g with ⟨a,b,rfl⟩|⟨a,_⟩|⟨a,_⟩
  .rfl
  .omega
  omega
 .rcases g with ⟨a,b,rfl⟩|⟨a,_,_,b,k⟩|⟨a,_⟩
  .omega
  .have j:=d.symm.trans b
   obtain⟨rfl,h⟩:=List.append_inj' j rfl;cases h;exact Kb l k
  omega
 rcases g with ⟨a,b,rfl⟩|⟨a,_⟩|⟨a,b⟩
 .omega
 .omega
 exact Kb d b
def VP(c:AQ)(f:BK)(hs:List Int)(i:Nat):Bool:=match f.q9[i]?,hs[i]? with
 |some x,some h=>decide (AM c f x<=h)&&((decide (x.op≠10)||decide (h=AM c f x))&&(Am x i).all (λk=>decide (k<f.q9.length)&&decide (hs[k]?=I (h-AM c f x+AK c f x))))
 |_,_=>ϝ
def Ro{c:AQ}{f:BK}(hs:List Int)(i:hs[0]?=I 0)(h:0<f.q9.length)(k:∀a,a<f.q9.length->VP c f hs a=ϑ):CQ c f:=by
 have l:∀a b,Reach c f a b->a<f.q9.length/\hs[a]?=I b:=λa b d=>by refine d (λa b=>a<f.q9.length/\hs[a]?=I b) ⟨h,i⟩ ?_;rintro a b h j⟨e,g⟩ n i;have:=k a e;unfold VP at this;rw[n,g]at this;simp only[Bool.and_eq_true,decide_eq_true_eq,List.all_eq_true]at this;exact this.2.2 j i
 refine⟨λa b d=>?_,λa b m e g=>?_⟩
 .obtain ⟨e,g⟩:=l a b d
  have:=k a e;unfold VP at this;let⟨h,k⟩:=Ϡ f.q9 a e;rw[k,g]at this;simp only[Bool.and_eq_true,Bool.or_eq_true,decide_eq_true_eq,List.all_eq_true]at this;refine⟨h,k,this.1,λo=>?_,λj i=>(this.2.2 j i).1⟩;rcases this.2.1 with d|d
  .exact absurd o d
  exact Int.le_of_eq d
 have d:=(l a b e).2;have b:=(l a m g).2;rw[d]at b;exact Option.some.inj b
def Nn{c:AQ}(hs:AU c){x:Bi}{fuel:Int}(a:AS c x fuel=0){m:AV}(o:Cf c (CF c x fuel) m):DQ c m/\mu m<=300000000000:=by
 let⟨l,k,n,_⟩:∃l k,Dr c (CF c x fuel) l k/\Co (CF c x fuel)<=110000000000:=by
  unfold AS at a;by_cases j:fuel<0\/1048576<fuel
  .rw [if_pos j]at a;omega
  rw[if_neg j]at a;cases e:c.q0[(Dh c x.proc).toNat]? with
  |none=>rw[e]at a;simp at a
  |some d=>
   rw[e]at a;simp only[]at a;by_cases i:Dh c x.proc<0
   .rw [if_pos i]at a;omega
   rw[if_neg i]at a;by_cases h:(x.args:Int)=d.params;rotate_left
   .rw [if_pos h]at a;omega
   rw[if_neg (by simp[h])]at a;cases g:x.args.any (λf=>!Af f)with
   |true=>rw[g]at a;simp at a
   |false=>
    have a:=hs.fok e;unfold CX at a;have a:CF c x fuel=⟨[⟨Dh c x.proc,0,x.args++ϱ (d.L-d.params).toNat 0,[]⟩],⟨0,0,0,0,0⟩,fuel,0,0⟩:=by unfold CF;rw[e];rfl
    rw[a];refine⟨[],_,⟨rfl,⟨d,⟨by show 0<=Dh c x.proc;omega,e,by show(0:Int)<=0;omega,by show((x.args++ϱ (d.L-d.params).toNat 0).length:Int)=d.L;rw[List.length_append,List.length_replicate];omega,λf b=>?_,ψ⟩,Reach.zero c d⟩,trivial,ψ,⟨by show 0<=fuel;omega,by show(0:Int)<=0;omega,by show(0:Int)<=100000;omega,by show(0:Int)<=0;omega,by show(0:Int)+(fuel*100001+(100000-0))<=_;omega⟩⟩,by show fuel*100001+(100000-0)<=_;omega⟩;simp only[List.mem_append,List.mem_replicate]at b;rcases b with b|b
    .exact NC.1 g f b
    rw[b.2];unfold BP;omega
 let⟨a,b⟩:=Md hs o l k n;refine⟨a,?_⟩;unfold mu;split<;>omega
structure Fy(c:AQ)(r:Rq):Prop where
 K:r.K=1\/r.K=2\/r.K=3
 D:0<=r.D
 field2:r.D<=100
 O:0<=r.O
 nodeV:BP r.O
 V:BP r.V
 alloc:r.K=3->∃n,c.H[r.D.toNat]?=I n/\0<=n/\n<=12
def C9.Q{c:AQ}(hs:AU c){m:AV}{r:Rq}{fs:List AY}{f:AY}(k:C9 c m r fs f):Fy c r:=by
 let⟨_,b,_,l,_,o,p,_⟩:=k.top;have e:=fun {n:Int} hn=>hs.lim (n:=n) l.fn o hn;have d:BP 0:=by unfold BP;omega
 have:=hs.1.2.2.2.1;have:=hs.1.1;rcases p with ⟨a,rfl⟩|⟨j,a,h,rfl⟩|⟨n,a,i,g,rfl⟩|⟨n,j,a,i,g,h,rfl⟩|⟨a,rfl⟩
 .have:=e (n:=c.G) (by rw[a];rfl)
  exact⟨ψ,this.1,by show b.a<=100;omega,ψ,d,d,ψ⟩
 .have:=e (n:=c.G) (by rw[a];rfl)
  exact⟨ψ,this.1,by show b.a<=100;omega,ψ,d,h,ψ⟩
 .have:=e (n:=12) (by rw[a];rfl)
  exact⟨ψ,this.1,by show b.a<=100;omega,by show 0<=n;omega,g,d,ψ⟩
 .have:=e (n:=12) (by rw[a];rfl)
  exact⟨ψ,this.1,by show b.a<=100;omega,by show 0<=n;omega,g,h,ψ⟩
 have:=e (n:=(c.H:Int)) (by rw[a];rfl);refine⟨ψ,this.1,by show b.a<=100;omega,ψ,d,d,λ_=>?_⟩;have d:b.a.toNat<c.H.length:=ω;refine⟨c.H[b.a.toNat],Lg d,?_⟩;have a:=hs.1.2.1;rw[List.any_eq_false]at a;have:=a _ (List.getElem_mem d);simp at this;omega
def AE.up{α:Type}{B f:Nat}{w:Ϣ}{sz:Nat}{E e:Ϣ->Nat->Nat->α->Prop}{v:ϒ}{l:List α}(a:AE B w sz E v l)(d:B<=f)(m:∀b c d,E w b c d->e w b c d):AE f w sz e v l:=by
 obtain⟨g,j,rfl,k,h,i,a⟩:=a;refine⟨g,j,rfl,k,h,i,?_⟩;rcases a with a|⟨b,c,rfl,_,a⟩
 .exact .inl a
 exact .inr ⟨b,c,rfl,ω,λc d b=>m _ _ _ (a c d b)⟩
def AE.upI{B a:Nat}{w:Ϣ}{v:ϒ}{l:List Int}(c:AE B w 1 Aj v l)(b:B<=a):AE a w 1 Aj v l:=c.up b (λ_ _ _ a=>a)
def CW.up{B a:Nat}{w:Ϣ}{b o:Nat}{f:BK}(k:CW B w b o f)(l:B<=a):CW a w b o f:=by
 let⟨a,c,d,e,⟨i,g,h⟩,j⟩:=k;exact⟨a,c,d,e,⟨i,g,h.up l (λ_ _ _ a=>a)⟩,j⟩
def CK.up{B a:Nat}{w:Ϣ}{b o:Nat}{f:AY}(m:CK B w b o f)(c:B<=a):CK a w b o f:=by
 let⟨a,d,⟨h,e,g⟩,⟨k,i,j⟩,l⟩:=m;exact⟨a,d,⟨h,e,g.upI c⟩,⟨k,i,j.upI c⟩,l⟩
def GP.up{B a:Nat}{w:Ϣ}{b o:Nat}{f:Gl}(h:GP B w b o f)(i:B<=a):GP a w b o f:=by
 let⟨a,⟨e,c,d⟩,g⟩:=h;exact⟨a,⟨e,c,d.upI i⟩,g⟩
def BF.up{B b:Nat}{w:Ϣ}{v:ϒ}{c:AQ}(h:BF B w v c)(a:B<=b):BF b w v c:=by
 let⟨b,gv,d,e,f,g⟩:=h;exact⟨b,gv,d,e.upI a,f.up a (λ_ _ _ b=>b.up a),g⟩
def Lw.up{B b:Nat}{w:Ϣ}{v:ϒ}{m:Mm}(e:Lw B w v m)(a:B<=b):Lw b w v m:=by
 let⟨gv,nv,b,c,d⟩:=e;exact⟨gv,nv,b,c.upI a,d.up a (λ_ _ _ b=>b.up a)⟩
def Gh.up{B a:Nat}{w:Ϣ}{v:ϒ}{x:Bi}(e:Gh B w v x)(f:B<=a):Gh a w v x:=by
 let⟨a,b,c,d⟩:=e;exact⟨a,b,c.upI f,d⟩
def Be.q4{w:Ϣ}{v:ϒ}{l:List Int}{F:List Nat}(a:Be w v l F)(hl:l.length<=140737488355328):AE w w 1 Aj v l:=by
 by_cases e:0<l.length
 .obtain ⟨c,b,rfl,hF,d,f⟩:=a.u1 e
  refine⟨_,b,rfl,hl,d,f,.inr ⟨c,0,rfl,a.lt c (by rw[hF];simp),λf d c=>⟨?_,a.2.2 d (Lm c)⟩⟩⟩;rw[Nat.zero_add,Nat.mul_one];exact a.cellAt c
 have g:l=[]:=List.eq_nil_of_length_eq_zero ω;subst g;rcases a.1.2 with ⟨rfl,_⟩|⟨h,b,_,rfl,_,_,_,i,_⟩
 .exact ⟨none,0,rfl,ψ,ψ,ω,.inl rfl⟩
 exact⟨I (π h 0),b,rfl,ψ,ψ,by unfold maxLen at i;omega,.inl rfl⟩
def BJ.at_{w:Ϣ}:∀{fs:List AY}{cells:List ϒ}{F:List Nat}{i:Nat}{f:AY},BJ w cells fs F->fs[i]?=I f->
  ∃lv a n o,cells[i*4]?=I (ι f.fn)/\cells[i*4+1]?=I (ι f.pc)/\cells[i*4+2]?=I lv/\cells[i*4+3]?=I a/\Be w lv f.L n/\Be w a f.S o/\in64 f.fn/\in64 f.pc
 |[],_,_,_,_,_,hx=>by simp at hx
 |g::fs,cells,F,0,f,h,hx=>by obtain⟨lv,e,_,c,d,_,rfl,j,k,l,m,_,rfl⟩:=h;simp at hx;subst hx;exact⟨lv,e,c,d,rfl,rfl,rfl,rfl,j,k,l,m⟩
 |g::fs,cells,F,i+1,f,h,hx=>by
  obtain⟨lv,_,_,_,_,_,rfl,_,_,_,_,b,rfl⟩:=h;obtain⟨e,j,c,a,k,l,m,n,d⟩:=b.at_ (by simpa using hx);refine⟨e,j,c,a,?_,?_,?_,?_,d⟩
  .rw [show(i+1)*4=i*4+1+1+1+1 by omega];simpa using k
  .rw [show(i+1)*4+1=(i*4+1)+1+1+1+1 by omega];simpa using l
  .rw [show(i+1)*4+2=(i*4+2)+1+1+1+1 by omega];simpa using m
  rw[show(i+1)*4+3=(i*4+3)+1+1+1+1 by omega];simpa using n
def Cv.q4{w:Ϣ}{fv:ϒ}{fs:List AY}{F:List Nat}(j:Cv w fv fs F)(hl:fs.length<=140737488355328)(o:∀b∈fs,b.L.length<=140737488355328/\b.S.length<=140737488355328):AE w w 4 (CK w) fv fs:=by
 obtain⟨cells,_,a,d,rfl,_⟩:=j;have:=d.len;rcases a.2 with ⟨rfl,f⟩|⟨c,h,_,rfl,_,k,g,i,_⟩
 .have e:=List.eq_nil_of_length_eq_zero f
  subst e;exact⟨none,0,rfl,ψ,ψ,ω,.inl rfl⟩
 refine⟨I (π c 0),h,rfl,hl,g,by unfold maxLen at i;omega,.inr ⟨c,0,rfl,(La k),λc e b=>?_⟩⟩;let⟨lv,j,_,_,k,l,m,n,f,g,h,i⟩:=d.at_ b;have:=(Ll b);have c:=o e (Lm b);rw[Nat.zero_add];refine⟨?_,?_,⟨lv,?_,f.q4 c.1⟩,⟨j,?_,g.q4 c.2⟩,h,i⟩
 .rw [a.cellAt _ ω];exact k
 .rw [a.cellAt _ ω];exact l
 .rw [a.cellAt _ ω];exact m
 rw[a.cellAt _ ω];exact n
def IK(m:AV):Prop:=m.J.length<=140737488355328/\∀f∈m.J,f.L.length<=140737488355328/\f.S.length<=140737488355328
def DL.modest{c:AQ}(hs:AU c)(i:Bv c){g:AY}{P:Cd->Prop}(e:DL c g P):g.L.length<=140737488355328/\g.S.length<=140737488355328:=by
 let⟨d,h,_,a,_,f,_,b,_⟩:=e;have:=DJ (hs.wf a.fn) (hs.snd a.fn) b;have:=i d (Lm a.fn);have:=((hs.wf a.fn).pops h (Lm f)).1;have b:=hs.fok a.fn;unfold CX at b;have:=a.loc;omega
def Ge.modest{c:AQ}(hs:AU c)(d:Bv c):∀{l:List AY}{k:Int},Ge c l k->∀b∈l,b.L.length<=140737488355328/\b.S.length<=140737488355328
 |[],_,_,b,a=>by simp at a
 |g::r,k,h,b,a=>by
  rw[ϰ]at a;rcases a with rfl|a
  .exact h.1.modest hs d
  exact Ge.modest hs d h.2 b a
def IQ{m:AV}(a:m.J=[]):IK m:=by
 unfold IK;rw[a];exact⟨ψ,ψ⟩
def C9.modest{c:AQ}(hs:AU c)(d:Bv c){m:AV}{r:Rq}{fs:List AY}{f:AY}(a:C9 c m r fs f):IK m:=by
 refine⟨?_,λe b=>?_⟩
 .rw [a.fr,List.length_append];have:=a.len;simp;omega
 rw[a.fr,List.mem_append,List.mem_singleton]at b;rcases b with b|rfl
 .exact a.low.modest hs d e (List.mem_reverse.2 b)
 exact a.top.modest hs d
def DQ.modest{c:AQ}(hs:AU c)(d:Bv c){m:AV}(a:DQ c m):IK m:=by
 rcases a.2 with ⟨_,_,_,a⟩|⟨_,_,_,a⟩|⟨_,_,b⟩
 .exact IQ a
 .exact IQ a
 exact b.modest hs d
def Be.set{w:Ϣ}{b cap:Nat}{l:List Int}{F:List Nat}(a:Be w (σ (I (π b 0)) l cap) l F)(j:Nat)(v:Int)(g:in64 v):Be (w.setCell (π b j) (ι v)) (σ (I (π b 0)) l cap) (l.set j v) F:=by
 let⟨c,b,f⟩:=a;refine⟨?_,b,λe d=>?_⟩
 .have:=(c.stored j (ι v)).1
  rw[<-List.map_set]at this;simpa using this
 rcases List.mem_or_eq_of_mem_set d with a|a
 .exact f e a
 rw[a];exact g
def PQ{w:Ϣ}{e:TypeId}{size:Nat}{v:ϒ}{n:Nat}{xs:List ϒ}(d:w.ownsRow 0 e size v n xs):∀b∈v.ownBlock.toList,b<(w:Nat):=λb a=>by
 rcases d.2 with ⟨rfl,_⟩|⟨_,_,_,rfl,_,c,_⟩
 .simp [Value.ownBlock]at a
 simp[Value.ownBlock]at a;subst a;exact(La c)
def KZ{w w':Ϣ}{e:TypeId}{size:Nat}{v:ϒ}{n:Nat}{xs:List ϒ}(a:w.ownsRow 0 e size v n xs)(j:∀b∈v.ownBlock.toList,w'.heap[b]?=w.heap[b]?):w'.ownsRow 0 e size v n xs:=by
 refine⟨a.1,?_⟩;rcases a.2 with a|⟨c,f,d,rfl,g,h,i⟩
 .exact .inl a
 exact .inr ⟨c,f,d,rfl,g,by rw[j c (by simp[Value.ownBlock])];exact h,i⟩
variable{A:Nat}{W wr w':Ϣ}{bm bo bl bc:Nat}{m:AV}{p:MB}{fault value cmp:Int}{Fm:List Nat}{gv nv:ϒ}{cells:List ϒ}{Fg Fn:List Nat}{lv:ϒ}
def Be.frozen{w:Ϣ}{b n cap:Nat}{l:List Int}{F:List Nat}(d:Be w (σ (I (π b 0)) n cap) l F)(j:Nat):w.frozen? (π b j)=ϝ:=by
 rcases d.1.2 with ⟨a,_⟩|⟨_,cap,_,a,_,c,_⟩
 .simp at a
 simp at a;obtain⟨⟨rfl,_⟩,_⟩:=a;exact Fz c
def Cp(o:Oper):List Nat:=(o.after.toList.filter (Region.binds .any ·)).map (·.on)
inductive BI(P:Program)(S:Ϣ->Prop)(hard:List Nat)(K:List (Nat×Oper)->Act->Prop):List Oper->Nat->List (Nat×Oper)->Act->Prop
 |stop {i acc a} (h:K acc a):BI P S hard K [] i acc a
 |skip {o os i acc a} (hi:hard.contains i=ϑ) (h:BI P S hard K os (i+1) (acc++[(i,o)]) a):BI P S hard K (o::os) i acc a
 |take {o os i acc a} (hi:hard.contains i=ϝ) (c:ϒ) (hc:∀w,S w->(execOp a.eval o).run P w=.ok (.value c) w) (h:BI P S hard K os (i+1) acc (a.put o.dst c)):BI P S hard K (o::os) i acc a
def waits(p q:Nat×Oper):Bool:=p.1 !=q.1&&(Cp p.2).contains q.1
def DE(p:Nat×Oper)(left:List (Nat×Oper)):Bool:=left.all (λq=>!waits p q)
def Gu(P:Program)(n:Nat)(Q:Exit->Act->Ϣ->Prop)(S:Ϣ->Prop)(fin:Bool):Nat->List (Nat×Oper)->Act->Ϣ->Prop
 |0,left,a,w=>left=[]/\Q .normal a w
 |f+1,left,a,w=>(∃p∈left,(fin&&p.1+1==n)=ϝ/\DE p left=ϑ/\∃c,(∀w,S w->(execOp a.eval p.2).run P w=.ok (.value c) w)/\Gu P n Q S fin f (left.filter (λq=>q.1 !=p.1)) (a.put p.2.dst c) w)\/
  ((left=[]->Q .normal a w)/\∀p∈left,DE p left=ϑ->p.2.wp P a w (λa' w'=>(S w'\/(fin&&p.1+1==n)=ϑ)/\Gu P n Q S fin f (left.filter (λq=>q.1 !=p.1)) a' w') (NoPanic Q))
structure Dm(P:Program)(n:Nat)(Q:Exit->Act->Ϣ->Prop)(S:Ϣ->Prop)(fin:Bool)(left:List (Nat×Oper))(a:Act)(w:Ϣ):Prop where
 out:Gu P n Q S fin left.length left a w
def BH{P:Program}{n:Nat}{b:Exit->Act->Ϣ->Prop}{S:Ϣ->Prop}{d:Bool}{a:Act}{w:Ϣ}(c:b .normal a w):Dm P n b S d [] a w:=⟨rfl,c⟩
def Dm.one{P:Program}{n:Nat}{e:Exit->Act->Ϣ->Prop}{S:Ϣ->Prop}{d:Bool}{p:Nat×Oper}{rest:List (Nat×Oper)}{a:Act}{w:Ϣ}(j:∀c∈rest,c.1≠p.1)(k:∀c∈rest,∃i∈p::rest,waits c i=ϑ)
  (b:p.2.wp P a w (λc w'=>(S w'\/(d&&p.1+1==n)=ϑ)/\Dm P n e S d rest c w') (NoPanic e)):Dm P n e S d (p::rest) a w:=by
 refine⟨.inr ⟨λb=>(by cases b),λg f h=>?_⟩⟩;rcases ϰ.1 f with rfl|f
 .have e:(g::rest).filter (λc=>c.1 !=g.1)=rest:=by rw[List.filter_cons,if_neg ψ];exact List.filter_eq_self.2 (λd c=>by simpa using j d c)
  rw[e];exact Oper.wp_mono (λc w' b=>⟨b.1,b.2.out⟩) b
 obtain⟨c,b,d⟩:=k g f;unfold DE at h;rw[List.all_eq_true]at h;have:=h c b;rw[d]at this;cases this
def AH{P:Program}{n:Nat}{c:Exit->Act->Ϣ->Prop}{S:Ϣ->Prop}{b:Bool}{i:Nat}{o:Oper}{rest:List (Nat×Oper)}{a:Act}{w:Ϣ}(e:(rest.all λd=>d.1 !=i&&((i,o)::rest).any (waits d))=ϑ)
  (f:o.wp P a w (λd w'=>(S w'\/(b&&i+1==n)=ϑ)/\Dm P n c S b rest d w') (NoPanic c)):Dm P n c S b ((i,o)::rest) a w:=by
 rw[List.all_eq_true]at e;refine Dm.one (λc b=>?_) (λc b=>?_) f
 .have:=e c b
  rw[Bool.and_eq_true]at this;simpa using this.1
 have:=e c b;rw[Bool.and_eq_true]at this;exact List.any_eq_true.1 this.2
def Dv{P:Program}{n:Nat}{d:Exit->Act->Ϣ->Prop}{S:Ϣ->Prop}{c:Bool}{i j:Nat}{o u:Oper}{rest:List (Nat×Oper)}{a:Act}{w:Ϣ}(l:(i !=j)=ϑ)(g:(rest.all λe=>e.1 !=i&&e.1 !=j&&((i,o)::(j,u)::rest).any (waits e))=ϑ)
  (b:o.wp P a w (λe w'=>(S w'\/(c&&i+1==n)=ϑ)/\Dm P n d S c ((j,u)::rest) e w') (NoPanic d)) (p:u.wp P a w (λe w'=>(S w'\/(c&&j+1==n)=ϑ)/\Dm P n d S c ((i,o)::rest) e w') (NoPanic d)):Dm P n d S c ((i,o)::(j,u)::rest) a w:=by
 rw[List.all_eq_true]at g;have k:i≠j:=by simpa using l
 refine⟨.inr ⟨λb=>(by cases b),λm f h=>?_⟩⟩;rcases ϰ.1 f with rfl|f
 .have e:((i,o)::(j,u)::rest).filter (λc=>c.1 !=i)=(j,u)::rest:=by rw[List.filter_cons,if_neg ψ,List.filter_cons,if_pos (by simpa using Ne.symm k)];exact congrArg _ (List.filter_eq_self.2 (λd c=>by have:=g d c;simp only[Bool.and_eq_true]at this;exact this.1.1))
  rw[e];exact Oper.wp_mono (λc w' b=>⟨b.1,b.2.out⟩) b
 rcases ϰ.1 f with rfl|f
 .have e:((i,o)::(j,u)::rest).filter (λc=>c.1 !=j)=(i,o)::rest:=by rw[List.filter_cons,if_pos (by simpa using k),List.filter_cons,if_neg ψ];exact congrArg _ (List.filter_eq_self.2 (λd c=>by have:=g d c;simp only[Bool.and_eq_true]at this;exact this.1.2))
  rw[e];exact Oper.wp_mono (λc w' b=>⟨b.1,b.2.out⟩) p
 have:=g m f;rw[Bool.and_eq_true]at this;let⟨c,b,d⟩:=List.any_eq_true.1 this.2;unfold DE at h;rw[List.all_eq_true]at h;have:=h c b;rw[d]at this;cases this
def Ae{P:Program}{n:Nat}{g:Exit->Act->Ϣ->Prop}{S:Ϣ->Prop}{f:Bool}{i:Nat}{o:Oper}{rest:List (Nat×Oper)}{a:Act}{w:Ϣ}(d:(!(f&&i+1==n)&&rest.all λe=>e.1 !=i && !waits (i,o) e)=ϑ)(c:ϒ)(j:∀w,S w->(execOp a.eval o).run P w=.ok (.value c) w)
  (k:Dm P n g S f rest (a.put o.dst c) w):Dm P n g S f ((i,o)::rest) a w:=by
 rw[Bool.and_eq_true,List.all_eq_true,Bool.not_eq_true']at d;let⟨e,d⟩:=d;refine⟨.inl ⟨(i,o),ψ,e,?_,c,j,?_⟩⟩
 .unfold DE
  rw[List.all_eq_true];intro h b;rcases ϰ.1 b with rfl|b
  .simp [waits]
  have:=d h b;rw[Bool.and_eq_true]at this;exact this.2
 have h:((i,o)::rest).filter (λb=>b.1 !=i)=rest:=by rw[List.filter_cons,if_neg ψ];exact List.filter_eq_self.2 (λe b=>by have:=d e b;rw[Bool.and_eq_true]at this;exact this.1)
 show Gu P n g S f rest.length (((i,o)::rest).filter (λb=>b.1 !=i)) _ w;rw[h];exact k.out
def Jg{P:Program}{n:Nat}{g:Exit->Act->Ϣ->Prop}{S:Ϣ->Prop}{f:Bool}{l e:List (Nat×Oper)}{a:Act}{w:Ϣ}(d:l.Perm e)(b:Dm P n g S f l a w):Dm P n g S f e a w:=by
 have x:∀(j:Nat)(l e:List (Nat×Oper))(a:Act)(w:Ϣ),l.Perm e->Gu P n g S f j l a w->Gu P n g S f j e a w:=by
  intro m;induction m with
  |zero=>intro l e a w d b;exact⟨by have:=b.1;subst this;exact d.symm.eq_nil,b.2⟩
  |succ e r=>
   intro l h a w d b;have v:∀c,DE c l=DE c h:=λc=>by
    have:DE c l=ϑ↔DE c h=ϑ:=by unfold DE;rw[List.all_eq_true,List.all_eq_true];exact⟨λb e f=>b e (d.mem_iff.2 f),λb e f=>b e (d.mem_iff.1 f)⟩
    cases k:DE c l<;>cases i:DE c h<;>simp_all
   rcases b with ⟨c,q,p,u,s,t,b⟩|⟨k,i⟩
   .exact .inl ⟨c,d.mem_iff.1 q,p,by rw[<-v];exact u,s,t,r _ _ _ _ (d.filter _) b⟩
   exact .inr ⟨λo=>k (by subst o;exact d.eq_nil),λc e f=>Oper.wp_mono (λg w' b=>⟨b.1,r _ _ _ _ (d.filter _) b.2⟩) (i c (d.mem_iff.2 e) (by rw[v];exact f))⟩
 exact⟨by rw[<-d.length_eq];exact x _ _ _ _ _ d b.out⟩
def De{P:Program}{n:Nat}{c:Exit->Act->Ϣ->Prop}{S:Ϣ->Prop}{b:Bool}{p q:Nat×Oper}{rest:List (Nat×Oper)}{a:Act}{w:Ϣ}(d:Dm P n c S b (q::p::rest) a w):Dm P n c S b (p::q::rest) a w:=Jg (List.Perm.swap p q rest) d
def GW{P:Program}{n:Nat}{c:Exit->Act->Ϣ->Prop}{S:Ϣ->Prop}{b:Bool}{p q:Nat×Oper}(l:List (Nat×Oper)){rest:List (Nat×Oper)}{a:Act}{w:Ϣ}(d:Dm P n c S b (p::q::(l++rest)) a w):Dm P n c S b (p::(l++q::rest)) a w:=Jg (List.Perm.cons p List.perm_middle.symm) d
def U4(o:Oper):List Nat:=o.op.operands.toList.filterMap λx=>match x with|.tmp d=>I d|_=>none
def LO(o:Oper):Bool:=match o.op with|.select _ _=>ϑ|_=>ϝ
def Uq(ops:Array Oper)(hard:List Nat)(fin:Bool)(n:Nat):Bool:=((List.range ops.size).all λi=>match ops[i]? with
 |none=>ϝ
 |some o=>o.guard.isNone && !LO o&&(Cp o).all (λj=>decide (j<i))&&(match o.dst with|none=>ϑ|some d=>decide (d<n)) &&
  (List.range ops.size).all λj=>match ops[j]? with
   |none=>ϝ
   |some u=>(i==j||o.dst.isNone||o.dst !=u.dst)&&(match u.dst with|none=>ϑ|some d=>!(U4 o).contains d||((Cp o).contains j&&(hard.contains i || !hard.contains j))||(fin&&j+1==ops.size&&i !=j))) &&
 (!fin||(hard.contains (ops.size-1)&&match ops[ops.size-1]? with|none=>ϝ|some z=>(List.range (ops.size-1)).all (λj=>(Cp z).contains j||(Cp z).any λk=>match ops[k]? with|none=>ϝ|some u=>(Cp u).contains j||(Cp u).any λk2=>match ops[k2]? with|none=>ϝ|some u2=>(Cp u2).contains j)))
structure Jz(ops:Array Oper)(hard:List Nat)(fin:Bool)(n:Nat):Prop where
 guard:∀(i:Nat) o,ops[i]?=I o->o.guard=none
 sel:∀(i:Nat) o,ops[i]?=I o->∀cs b,o.op≠.select cs b
 deps:∀(i:Nat) o,ops[i]?=I o->∀j∈Cp o,j<i
 dst:∀(i:Nat) o,ops[i]?=I o->∀d,o.dst=I d->d<n
 one:∀(i j:Nat) o u d,ops[i]?=I o->ops[j]?=I u->o.dst=I d->u.dst=I d->i=j
 look:∀(i j:Nat) o u d,ops[i]?=I o->ops[j]?=I u->u.dst=I d->.tmp d∈o.op.operands->(j∈Cp o/\(hard.contains i=ϝ->hard.contains j=ϝ))\/(fin=ϑ/\j+1=ops.size/\i≠j)
 last:fin=ϑ->hard.contains (ops.size-1)=ϑ
 fin:fin=ϑ->∀z,ops[ops.size-1]?=I z->∀j,j+1<ops.size->j∈Cp z\/∃k u,k∈Cp z/\ops[k]?=I u/\(j∈Cp u\/∃k2 u2,k2∈Cp u/\ops[k2]?=I u2/\j∈Cp u2)
def QT{s:Array Oper}{p:List Nat}{v:Bool}{n:Nat}(o:Uq s p v n=ϑ):Jz s p v n:=by
 unfold Uq at o;rw[Bool.and_eq_true,List.all_eq_true]at o;let⟨z,t⟩:=o;have r:∀(b:Nat) a,s[b]?=I a->((((a.guard=none/\LO a=ϝ)/\∀g∈Cp a,g<b)/\∀h,a.dst=I h->h<n)/\∀(g:Nat) m h,s[g]?=I m->m.dst=I h->(a.dst=I h->b=g)/\(.tmp h∈a.op.operands->(g∈Cp a/\(p.contains b=ϝ->p.contains g=ϝ))\/(v=ϑ/\g+1=s.size/\b≠g))):=λb a f=>by
  have o:=(La f);have p:=z b (List.mem_range.2 o);simp only[f,Bool.and_eq_true,Option.isNone_iff_eq_none,List.all_eq_true,decide_eq_true_eq,Bool.not_eq_true']at p;let⟨⟨⟨⟨z,v⟩,A⟩,o⟩,C⟩:=p;refine⟨⟨⟨⟨z,v⟩,A⟩,λh k=>?_⟩,λg m h i k=>?_⟩
  .rw [k]at o;simpa using o
  have o:=C g (List.mem_range.2 (La i));simp only[i,k,Bool.and_eq_true]at o;refine⟨λp=>?_,λx=>?_⟩
  .have:=o.1;rw[p]at this;simpa using this
  have F:h∈U4 a:=List.mem_filterMap.2 ⟨.tmp h,by simpa using x,rfl⟩;have c:=o.2;simp only[Bool.or_eq_true,Bool.and_eq_true,Bool.not_eq_true']at c;rcases c with (c|⟨c,e⟩)|c
  .rw [List.contains_iff_mem.2 F]at c;cases c
  .refine .inl ⟨List.contains_iff_mem.1 c,λB=>?_⟩
   rcases e with e|e
   .rw [B]at e;cases e
   exact e
  exact .inr ⟨c.1.1,by simpa using c.1.2,by simpa using c.2⟩
 refine⟨λb a f=>(r b a f).1.1.1.1,λb a f p c o=>?_,λb a f=>(r b a f).1.1.2,λb a f=>(r b a f).1.2,λb g a m h f i k c=>((r b a f).2 g m h i c).1 k,λb g a m h f i k x=>((r b a f).2 g m h i k).2 x,λq=>?_,λq h G g c=>?_⟩
 .have:=(r b a f).1.1.1.2
  unfold LO at this;rw[o]at this;cases this
 .rw [q]at t
  simp only[Bool.not_true,Bool.false_or,Bool.and_eq_true]at t;exact t.1
 rw[q]at t;simp only[Bool.not_true,Bool.false_or,Bool.and_eq_true,G,List.all_eq_true]at t;have e:=t.2 g (List.mem_range.2 ω);rw[Bool.or_eq_true]at e;rcases e with e|e
 .exact .inl (List.contains_iff_mem.1 e)
 obtain⟨u,y,d⟩:=List.any_eq_true.1 e;cases i:s[u]? with
 |none=>rw[i]at d;cases d
 |some m=>
  rw[i]at d;simp only[Bool.or_eq_true]at d;rcases d with d|d
  .exact .inr ⟨u,m,y,i,.inl (List.contains_iff_mem.1 d)⟩
  obtain⟨w,E,l⟩:=List.any_eq_true.1 d;cases j:s[w]? with
  |none=>rw[j]at l;cases l
  |some u2=>rw[j]at l;exact .inr ⟨u,m,y,i,.inr ⟨w,u2,E,j,List.contains_iff_mem.1 l⟩⟩
def Jz.own{c:Array Oper}{g:List Nat}{f:Bool}{n:Nat}(e:Jz c g f n){i:Nat}{o:Oper}{d:Nat}(b:c[i]?=I o)(j:o.dst=I d)(h:.tmp d∈o.op.operands):False:=by
 rcases e.look i i o o d b b j h with ⟨a,_⟩|⟨_,_,a⟩
 .have:=e.deps i o b i a;omega
 exact a rfl
def BQ(a:Act)(d:Option Tmp)(v:ϒ):(a.put d v).tmps.size=a.tmps.size:=by cases d<;>simp[Act.put]
def Em(a:Act)(d:Option Tmp)(v:ϒ):(a.put d v).defers=a.defers:=by cases d<;>rfl
def CA(a:Act)(d:Nat)(v:ϒ)(b:d<a.tmps.size):(a.put (I d) v).tmps[d]?=I v:=by simp[Act.put,b]
def A0(a:Act)(x:Option Tmp)(d:Nat)(v:ϒ)(c:x≠I d):(a.put x v).tmps[d]?=a.tmps[d]?:=by
 cases x with
 |none=>rfl
 |some b=>simp[Act.put,Array.getElem?_setIfInBounds_ne (show b≠d from λb=>c (by rw[b]))]
def NA{a b:Act}(f:a.defers=b.defers)(d:∀c:Nat,a.tmps[c]?=b.tmps[c]?):a=b:=by
 cases a with|mk t e=>cases b with|mk t' e'=>obtain rfl:=Array.ext_getElem? (show ∀c:Nat,t[c]?=t'[c]? from d);obtain rfl:e=e':=f;rfl
def GI{a b:Act}(o:Oper)(hs:∀c b,o.op≠.select c b)(f:∀c,.tmp c∈o.op.operands->a.tmps[c]?=b.tmps[c]?):execOp a.eval o=execOp b.eval o:=
 execOp_congr o hs λd e=>by
  cases d with
  |tmp c=>simp[Act.eval,Array.getD_eq_getD_getElem?,f c e]
  |_=>rfl
def Jm{P:Program}{S:Ϣ->Prop}{h:Array Oper}{k:List Nat}{f:Bool}{n:Nat}(q:Jz h k f n){t:List (Nat×Oper)->Act->Prop} :
  ∀(os:List Oper)(i:Nat)(acc:List (Nat×Oper))(a:Act),os=h.toList.drop i->a.tmps.size=n->BI P S k t os i acc a->
   ∃f left,t (acc++left) f/\f.defers=a.defers/\f.tmps.size=n/\(∀(j:Nat) o,(j,o)∈left↔i<=j/\h[j]?=I o/\k.contains j=ϑ)/\(∀b,(∀(j:Nat) o,i<=j->h[j]?=I o->k.contains j=ϝ->o.dst≠I b)->f.tmps[b]?=a.tmps[b]?)/\
    (∀(j:Nat) o,i<=j->h[j]?=I o->k.contains j=ϝ->∃k,(∀b,o.dst=I b->f.tmps[b]?=I k)/\∀w,S w->(execOp f.eval o).run P w=.ok (.value k) w)
 |[],i,acc,a,hos,hn,m=>by
  have:h.size<=i:=by have:=congrArg List.length hos;simp at this;omega
  have v:∀(j:Nat) o,i<=j->h[j]?=I o->False:=λj o k f=>by have:=(La f);omega
  exact⟨a,[],by cases m with|stop c=>simpa using c,rfl,hn,λj o=>⟨λc=>by simp at c,λc=>(v j o c.1 c.2.1).elim⟩,λ_ _=>rfl,λj o f k=>(v j o f k).elim⟩
 |o::os,i,acc,a,hos,hn,m=>by
  have r:i<h.toList.length:=by have:=congrArg List.length hos;rw[List.length_drop,List.length_cons]at this;omega
  rw[List.drop_eq_getElem_cons r]at hos;injection hos with e1 e2;have g:h[i]?=I o:=by rw[e1];simp at r;simp[r]
  cases m with
  |skip A m=>
   let⟨f,left,k,r,t,M,v,aI⟩:=Jm q os (i+1) _ a e2 hn m;refine⟨f,(i,o)::left,by simpa using k,r,t,λj e=>?_,λb d=>v b (λj e f=>d j e ω),λj e f R s=>?_⟩
   .rw [ϰ,M]
    constructor
    .rintro (c|⟨c,F⟩)
     .cases c;exact⟨Nr _,g,A⟩
     exact⟨ω,F⟩
    rintro⟨c,p,J⟩;by_cases V:j=i
    .subst V;rw[g]at p;cases p;exact .inl rfl
    exact .inr ⟨ω,p,J⟩
   by_cases T:j=i
   .subst T;rw[A]at s;cases s
   exact aI j e ω R s
  |take N Q aO m=>
   let⟨z,left,W,Y,aJ,aK,y,aN⟩:=Jm q os (i+1) acc (a.put o.dst Q) e2 ((BQ _ _ _).trans hn) m;have aM:∀b,.tmp b∈o.op.operands->z.tmps[b]?=a.tmps[b]?:=λb d=>by
    rw[y b (λj e f E L C=>by
     rcases q.look i j o e b g E C d with ⟨c,_⟩|⟨c,_,_⟩
     .have:=q.deps i o g j c;omega
     have:=q.last c;rw[show h.size-1=j by omega,L]at this;cases this)]
    exact A0 _ _ _ _ (λf=>q.own g f d)
   refine⟨z,left,W,Y.trans (Em _ _ _),aJ,λj e=>?_,λb d=>?_,λj e f u aL=>?_⟩
   .rw [aK]
    constructor
    .rintro ⟨c,f⟩
     exact⟨ω,f⟩
    rintro⟨c,G,l⟩;by_cases B:j=i
    .subst B;rw[N]at l;cases l
    exact⟨ω,G,l⟩
   .rw [y b (λj e c=>d j e ω)]
    exact A0 _ _ _ _ (d i o (Nr _) g N)
   by_cases x:j=i
   .subst x
    rw[g]at u;cases u;refine⟨Q,λb d=>?_,λw l=>?_⟩
    .rw [y b (λc f p k m h=>by have:=q.one j c o f b g k d h;omega),d]
     exact CA _ _ _ (by rw[hn];exact q.dst j o g b d)
    rw[GI o (q.sel j o g) aM];exact aO w l
   exact aN j e ω u aL
def QF{b:Array Oper}{k:List Nat}{e:Bool}{n:Nat}{a:Array Bool}(hs:a.size=b.size)(p:Jz b k e n)(q:Region.ready .any b a=[]):∀e,e<b.size->a[e]?=I ϑ:=by
 intro j;induction j using Nat.strongRecOn with
 |_ d o=>
  intro g;cases h:a[d]? with
  |none=>rw[Array.getElem?_eq_none_iff]at h;omega
  |some i=>
   cases i with
   |true=>rfl
   |false=>
    exfalso;have l:=Array.getElem?_eq_getElem g;have:d∈Region.ready .any b a:=by
     unfold Region.ready;rw[List.mem_filter];refine⟨List.mem_range.2 g,?_⟩;rw[l];have e:a.getD d ϑ=ϝ:=by rw[Array.getD_eq_getD_getElem?,h];rfl
     rw[e];simp only[Bool.not_false,Bool.true_and,Option.map_some,Option.getD_some];rw[Array.all_eq_true'];intro c m;cases f:Region.binds .any c with
     |false=>rfl
     |true=>have e:c.on∈Cp b[d]:=List.mem_map.2 ⟨c,List.mem_filter.2 ⟨by simpa using m,f⟩,rfl⟩;have a:=p.deps d _ l _ e;rw[Array.getD_eq_getD_getElem?,o _ a ω];rfl
    rw[q]at this;cases this
def Lb{e:Array Oper}{c:Array Bool}{i:Nat}(b:i∈Region.ready .any e c)(hs:c.size=e.size):∃g,e[i]?=I g/\c[i]?=I ϝ/\∀e∈Cp g,c[e]?=I ϑ:=by
 unfold Region.ready at b;rw[List.mem_filter,List.mem_range]at b;let⟨g,b⟩:=b;have e:=Array.getElem?_eq_getElem g;rw[e,Bool.and_eq_true]at b;refine⟨_,e,?_,λe k=>?_⟩
 .have e:=b.1
  rw[Array.getD_eq_getD_getElem?]at e;have j:i<c.size:=ω;rw[Array.getElem?_eq_getElem j]at e ⊢;simpa using e
 obtain⟨h,f,rfl⟩:=List.mem_map.1 k;rw[List.mem_filter]at f;have e:=b.2;simp only[Option.map_some,Option.getD_some]at e;rw[Array.all_eq_true']at e;have a:=e h (by simpa using f.1);rw[f.2,Array.getD_eq_getD_getElem?]at a;simp only[Bool.not_true,Bool.false_or]at a;cases d:c[h.on]? with
 |none=>rw[d]at a;cases a
 |some b=>rw[d]at a;simpa using a
structure IA(P:Program)(S:Ϣ->Prop)(fin:Bool)(ops:Array Oper)(n:Nat)(listed:Array Bool)(left:List (Nat×Oper))(a b:Act)(w:Ϣ):Prop where
 lsize:listed.size=ops.size
 defers:a.defers=b.defers
 asize:a.tmps.size=n
 bsize:b.tmps.size=n
 same:∀d,(∀(i:Nat) o,ops[i]?=I o->listed[i]?=I ϝ->(i,o)∉left->o.dst≠I d)->a.tmps[d]?=b.tmps[d]?
 soft:∀(i:Nat) o,ops[i]?=I o->listed[i]?=I ϝ->(i,o)∉left->∃c,(∀d,o.dst=I d->b.tmps[d]?=I c)/\∀w,S w->(execOp b.eval o).run P w=.ok (.value c) w
 look:∀(i:Nat) o,ops[i]?=I o->listed[i]?=I ϝ->(i,o)∉left->∀(j:Nat) u d,ops[j]?=I u->u.dst=I d->.tmp d∈o.op.operands->(j,u)∉left\/(fin=ϑ/\j+1=ops.size)
 last:fin=ϑ->∀o,ops[ops.size-1]?=I o->listed[ops.size-1]?=I ϝ->(ops.size-1,o)∈left
 sub:∀p∈left,ops[p.1]?=I p.2/\listed[p.1]?=I ϝ
 s:S w\/∀i,i<ops.size->listed[i]?=I ϑ
 closed:∀(i:Nat) o,ops[i]?=I o->listed[i]?=I ϑ->∀j∈Cp o,listed[j]?=I ϑ
def XX{P:Program}{o:Oper}{a b:Act}{w:Ϣ}{g h:Act->Ϣ->Prop}{j:Exit->Act->Ϣ->Prop}(s:execOp a.eval o=execOp b.eval o)(r:a.defers=b.defers)(q:∀i w' d,g ({b with defers:=d}.put o.dst i) w'->h ({a with defers:=d}.put o.dst i) w')(c:o.wp P b w g (NoPanic j)):o.wp P a w h (NoPanic j):=by
 unfold Oper.wp at *;rw[s];have f:∀d w',g (b.put o.dst d) w'->h (a.put o.dst d) w':=λd w' c=>by
  have g:({a with defers:=b.defers}:Act)=a:=by rw[<-r]
  have:=q d w' b.defers c;rwa[g]at this
 generalize (execOp b.eval o).run P w=k at *;cases k with
 |ok l w'=>
  cases l<;>simp only[Oper.upon]at c ⊢
  case value d=>exact f d w' c
  case skip=>exact f _ w' c
  case defer d=>rw[r];exact q _ w' _ c
  case enter d d=>
   refine Calls.mono c λn p e=>?_;cases n with
   |returned d=>exact f d p e
   |panicked d=>exact e
   |outgrown=>exact e
  case row k d=>exact Rows.mono c λd e c=>f d e c
 |halt m w'=>
  cases m<;>simp only[Oper.upon]at c ⊢
  case panic d=>exact c
def JE{left:List (Nat×Oper)}{i j:Nat}{o:Oper}(b:(j,o)∉left.filter (λa=>a.1 !=i))(c:j≠i):(j,o)∉left:=λa=>b (List.mem_filter.2 ⟨a,by simpa using c⟩)
def IA.take{P:Program}{S:Ϣ->Prop}{m:Array Oper}{o:List Nat}{l:Bool}{n:Nat}(s:Jz m o l n){x:Array Bool}{left:List (Nat×Oper)}{a b:Act}{w:Ϣ}(g:IA P S l m n x left a b w){p:Nat×Oper}(Q:p∈left)(t:(l&&p.1+1==m.size)=ϝ)(o:DE p left=ϑ)(c:ϒ)
  (N:∀w,S w->(execOp b.eval p.2).run P w=.ok (.value c) w):IA P S l m n x (left.filter (λC=>C.1 !=p.1)) a (b.put p.2.dst c) w:=by
 let⟨q,j⟩:=p;let⟨i,x⟩:=g.sub _ Q;dsimp only at i x N t ⊢;have J:¬(l=ϑ/\q+1=m.size):=λG=>by rw[G.1,G.2]at t;simp at t
 have V:∀d h,d∈Cp j->d≠q->(d,h)∉left:=λd h m E l=>by unfold DE at o;rw[List.all_eq_true]at o;have:=o _ l;unfold waits at this;rw[List.contains_iff_mem.2 m]at this;simp at this;exact E this.symm
 have R:∀e,.tmp e∈j.op.operands->j.dst≠I e:=λe m l=>s.own i l m;refine⟨g.lsize,g.defers.trans (Em _ _ _).symm,g.asize,(BQ _ _ _).trans g.bsize,λe l=>?_,λd h f r v=>?_,λd h f r v B F e M L A=>?_,λo h f x=>List.mem_filter.2 ⟨g.last o h f x,by simp;intro T;exact J ⟨o,by have:=(La i);omega⟩⟩,λC m=>g.sub C (List.mem_filter.1 m).1,g.s,g.closed⟩
 .have o:=l q j i x (λm=>by simp at m)
  rw[A0 _ _ _ _ o];exact g.same e (λd h f r v=>l d h f r (λl=>v (List.mem_filter.1 l).1))
 .by_cases y:d=q
  .subst y
   rw[i]at f;cases f;exact⟨c,λe l=>by rw[l];exact CA _ _ _ (by rw[g.bsize];exact s.dst d j i e l),λw m=>by
    rw[GI j (s.sel d j i) (λe l=>A0 _ _ _ _ (R e l))];exact N w m⟩
  have m:=JE v y;let⟨l,k,z⟩:=g.soft d h f r m;refine⟨l,λe l=>?_,λw t=>?_⟩
  .rw [A0 _ _ _ _ (λo=>y (s.one d q h j e f i l o))];exact k e l
  rw[<-z w t];exact congrArg (λl=>Sem.run P l w) (GI h (s.sel d h f) (λe A=>A0 _ _ _ _ (λl=>(g.look d h f r m q j e i l A).elim (λg=>g Q) J)))
 by_cases u:d=q
 .subst u
  rw[i]at f;cases f;rcases s.look d B j F e i M L A with ⟨E,_⟩|⟨k,z,_⟩
  .exact .inl λl=>V B F E (λm=>by have:=s.deps d j i B E;omega) (List.mem_filter.1 l).1
  exact .inr ⟨k,z⟩
 rcases g.look d h f r (JE v u) B F e M L A with k|k
 .exact .inl λd=>k (List.mem_filter.1 d).1
 exact .inr k
def Xh(P:Program)(n:Nat)(Q:Exit->Act->Ϣ->Prop)(S:Ϣ->Prop)(fin:Bool)(f:Nat)(left:List (Nat×Oper))(a:Act)(w:Ϣ):Prop:=
 (left=[]->Q .normal a w)/\∀p∈left,DE p left=ϑ->p.2.wp P a w (λa' w'=>(S w'\/(fin&&p.1+1==n)=ϑ)/\Gu P n Q S fin f (left.filter (λq=>q.1 !=p.1)) a' w') (NoPanic Q)
def IA.norm{P:Program}{l:Exit->Act->Ϣ->Prop}{S:Ϣ->Prop}{e:Array Oper}{h:List Nat}{d:Bool}{n:Nat}(m:Jz e h d n){k:Array Bool}{a:Act}{w:Ϣ} :
  ∀(f:Nat)(left:List (Nat×Oper))(b:Act),IA P S d e n k left a b w->Gu P e.size l S d f left b w->∃i t h,IA P S d e n k i a h w/\Xh P e.size l S d t i h w
 |0,left,b,d,c=>⟨left,0,b,d,λ_=>c.2,λp g=>by rw[c.1]at g;cases g⟩
 |f+1,left,b,j,c=>by
  rcases c with ⟨p,g,o,s,q,r,c⟩|c
  .exact IA.norm m f _ _ (j.take m g o s q r) c
  exact⟨left,f,b,j,c⟩
def WQ{P:Program}{z:Array Oper}{cJ:Exit->Act->Ϣ->Prop}{S:Ϣ->Prop}{G:List Nat}{bX:Bool}{n:Nat}(L:Jz z G bX n) :
  ∀(fuel:Nat)(G:Array Bool)(left:List (Nat×Oper))(f:Nat)(a b:Act)(w:Ϣ),IA P S bX z n G left a b w->G.toList.count ϝ<=fuel->Gu P z.size cJ S bX f left b w->wpAny P .any z (NoPanic cJ) fuel G a w:=by
 intro fuel;have cG:∀(G:Array Bool)(left:List (Nat×Oper))(f:Nat)(a b:Act)(w:Ϣ),IA P S bX z n G left a b w->Region.ready .any z G=[]->Gu P z.size cJ S bX f left b w->NoPanic cJ .normal a w:=λG left f a b w d C Q=>by
  let⟨left,f,b,d,Q⟩:=d.norm L f left b Q;have bL:=QF d.lsize L C;have cE:left=[]:=by
   cases left with
   |nil=>rfl
   |cons p l=>have:=d.sub p ψ;have j:=bL p.1 (La this.1);rw[this.2]at j;cases j
  have bZ:=NA d.defers (λh=>d.same h (λi cT G bR _=>by
   have j:=bL i (La G);rw[bR]at j;cases j))
  subst bZ;exact Q.1 cE
 induction fuel with
 |zero=>
  intro E left f a b w d G Q;have C:Region.ready .any z E=[]:=by
   rcases hrr:Region.ready .any z E with _|⟨i,_⟩
   .rfl
   exfalso;obtain⟨_,_,bL,-⟩:=Lb (i:=i) (by rw[hrr];simp) d.lsize;have G:E.toList.count ϝ=0:=ω;rw[List.count_eq_zero]at G;exact G (by let⟨m,j⟩:=Array.getElem?_eq_some_iff.1 bL;rw[<-j];simp)
  exact⟨C,cG E left f a b w d C Q⟩
 |succ fuel dJ=>
  intro q left f a b w d E Q;refine⟨λC=>cG q left f a b w d C Q,λi C=>?_⟩;let⟨left,f,b,d,Q⟩:=d.norm L f left b Q;let⟨k,t,cC,V⟩:=Lb C d.lsize;have dE:=(La cC);have bV:=(La t);have dI:S w:=by
   rcases d.s with M|M
   .exact M
   have:=M i bV;rw[cC]at this;cases this
  have dH:(q.setIfInBounds i ϑ).toList.count ϝ<=fuel:=by
   have j:(q.setIfInBounds i ϑ).toList.count ϝ=q.toList.count ϝ-1:=by
    let⟨m,j⟩:=Array.getElem?_eq_some_iff.1 cC;rw[Array.toList_setIfInBounds,List.count_set (a:=ϑ) (b:=ϝ) (l:=q.toList) (i:=i) (by simpa using m)];have C:q.toList[i]'(by simpa using m)=ϝ:=by simpa using j
    rw[C];rfl
   have:0<q.toList.count ϝ:=by let⟨m,j⟩:=Array.getElem?_eq_some_iff.1 cC;exact List.count_pos_iff.2 (by rw[<-j];simp)
   omega
  have cM:=λh bU=>d.same h (λc g e v B bQ=>by
   rcases L.look i c k g h t e bQ bU with ⟨m,_⟩|⟨m,j,_⟩
   .have:=V c m
    rw[v]at this;cases this
   obtain rfl:c=z.size-1:=ω;exact B (d.last m g e v))
  have dD:bX=ϑ->i+1=z.size->∀c,c≠i->c<z.size->q[c]?=I ϑ:=λbO bS c C y=>by
   rcases L.fin bO k (by rw[<-bS];exact t) c ω with s|⟨r,g,s,e,F|⟨R,u2,cA,bW,F⟩⟩
   .exact V c s
   .exact d.closed r g e (V r s) c F
   exact d.closed R u2 bW (d.closed r g e (V r s) R cA) c F
  have dB:=GI k (L.sel i k t) cM;have T:∀c,c≠i->(q.setIfInBounds i ϑ)[c]?=q[c]?:=λc y=>Array.getElem?_setIfInBounds_ne (Ne.symm y);have cL:(q.setIfInBounds i ϑ)[i]?=I ϑ:=by simp[dE]
  have bN:∀c,(q.setIfInBounds i ϑ)[c]?=I ϝ->c≠i/\q[c]?=I ϝ:=λc y=>by
   by_cases cH:c=i
   .subst cH;rw[cL]at y;cases y
   rw[T c cH]at y;exact⟨cH,y⟩
  have dF:∀(o:Nat) g,z[o]?=I g->(q.setIfInBounds i ϑ)[o]?=I ϑ->∀c∈Cp g,(q.setIfInBounds i ϑ)[c]?=I ϑ:=λo g e Y c y=>by
   by_cases cP:c=i
   .subst cP;exact cL
   rw[T c cP];by_cases cO:o=i
   .subst cO;rw[t]at e;cases e;exact V c y
   rw[T o cO]at Y;exact d.closed o g e Y c y
  unfold wpOp;rw[t];simp only[];rw[if_pos (by unfold Region.wanted;rw[L.guard i k t])];refine .inl ?_;by_cases bY:(i,k)∈left
  .have cF:=Q.2 (i,k) bY (by
    unfold DE;rw[List.all_eq_true];intro A bM;unfold waits;cases dC:(Cp k).contains A.1 with
    |false=>simp
    |true=>
     have m:=V A.1 (List.contains_iff_mem.1 dC);have j:=(d.sub A bM).2;rw[m]at j;cases j)
   refine XX dB d.defers (λr w' o s=>?_) cF;let⟨dG,C⟩:=s;refine dJ _ _ f _ _ w' ⟨by simpa using d.lsize,(Em {a with defers:=o} k.dst r).trans (Em {b with defers:=o} k.dst r).symm,(BQ _ _ _).trans d.asize,(BQ _ _ _).trans d.bsize,λh cK=>?_,λc g e v B=>?_,λc g e v B cX cY h bU cV cW=>?_,λdA g e cZ=>?_,λA bM=>?_,?_,dF⟩ dH C
   .by_cases N:k.dst=I h
    .simp only[N]
     rw[CA _ _ _ (by show h<a.tmps.size;rw[d.asize];exact L.dst i k t h N),CA _ _ _ (by show h<b.tmps.size;rw[d.bsize];exact L.dst i k t h N)]
    rw[A0 _ _ _ _ N,A0 _ _ _ _ N];exact d.same h (λc g e v B=>by
     by_cases cI:c=i
     .subst cI;rw[t]at e;cases e;exact N
     exact cK c g e (by rw[T c cI];exact v) (λo=>B (List.mem_filter.1 o).1))
   .obtain ⟨r,s⟩:=bN c v
    have C:=JE B r;let⟨F,m,j⟩:=d.soft c g e s C;have E:∀h,g.dst=I h->k.dst≠I h:=λh o cS=>r (L.one c i g k h e t o cS);refine⟨F,λh o=>by rw[A0 _ _ _ _ (E h o)];exact m h o,λw cR=>?_⟩;rw[<-j w cR];exact congrArg (λo=>Sem.run P o w) (GI g (L.sel c g e) (λh bU=>A0 _ _ _ _ (λcN=>(d.look c g e s C i k h t cN bU).elim (λd=>d bY) (λo=>by
     have:=dD o.1 o.2 c r (La e);rw[s]at this;cases this))))
   .obtain ⟨bT,bP⟩:=bN c v
    rcases d.look c g e bP (JE B bT) cX cY h bU cV cW with m|m
    .exact .inl λo=>m (List.mem_filter.1 o).1
    exact .inr m
   .obtain ⟨r,o⟩:=bN _ cZ
    exact List.mem_filter.2 ⟨d.last dA g e o,by simpa using r⟩
   .obtain ⟨o,r⟩:=List.mem_filter.1 bM
    let⟨m,j⟩:=d.sub A o;exact⟨m,by rw[T A.1 (by simpa using r)];exact j⟩
   rcases dG with M|M
   .exact .inl M
   right;rw[Bool.and_eq_true]at M;have cB:i+1=z.size:=by simpa using M.2
   intro c y;by_cases bK:c=i
   .subst bK;exact cL
   rw[T c bK];exact dD M.1 cB c bK y
  obtain⟨o,m,j⟩:=d.soft i k t cC bY;unfold Oper.wp;rw[dB,j w dI];show wpAny P .any z (NoPanic cJ) fuel (q.setIfInBounds i ϑ) (a.put k.dst o) w;have cU:IA P S bX z n (q.setIfInBounds i ϑ) left (a.put k.dst o) b w:=⟨by simpa using d.lsize,(Em _ _ _).trans d.defers,(BQ _ _ _).trans d.asize,d.bsize,λh cD=>by
   by_cases x:k.dst=I h
   .simp only[x]
    rw[CA _ _ _ (by rw[d.asize];exact L.dst i k t h x),m h x]
   .rw [A0 _ _ _ _ x]
    exact d.same h (λc g e v B=>by
     by_cases W:c=i
     .subst W;rw[t]at e;cases e;exact x
     exact cD c g e (by rw[T c W];exact v) B),λc g e v B=>d.soft c g e (bN c v).2 B,λc g e v B=>d.look c g e (bN c v).2 B,λc g e h=>d.last c g e (bN _ h).2,λA bM=>by
   let⟨u,c⟩:=d.sub A bM;refine⟨u,?_⟩;rw[T A.1 (λJ=>bY ?_)]
   .exact c
   have:A=(i,k):=by let⟨_,_⟩:=A;dsimp only at J u;subst J;rw[t]at u;cases u;rfl
   rw[<-this];exact bM,.inl dI,dF⟩
  exact dJ _ left (f+1) _ b w cU dH (.inr Q)
def Ac{P:Program}{f:Array Oper}{o:Exit->Act->Ϣ->Prop}{id:Nat}{a:Act}{w:Ϣ}(S:Ϣ->Prop)(h:List Nat)(m:Bool)(n:Nat)(A:f.size=n)(e:P.follows .mixedOrders=ϑ)(u:Uq f h m a.tmps.size=ϑ)(M:S w.drew)
  (j:BI P S h (λleft r=>Dm P n o S m left r w.drew) f.toList 0 [] a):(Code.region id f ϑ).wp P o a w:=by
 subst A;have k:=QT u;let⟨E,left,L,C,F,i,G,J⟩:=Jm k f.toList 0 [] a rfl rfl j;have t:∀(d:Nat) b,f[d]?=I b->(d,b)∉left->h.contains d=ϝ:=λd b c e=>by
  cases v:h.contains d with
  |false=>rfl
  |true=>exact absurd ((i d b).2 ⟨Nat.zero_le _,c,v⟩) e
 refine wp_region_noPanic (wp_region_any e (WQ k f.size _ left left.length a E _ ⟨ψ,C.symm,rfl,F,λl f=>(G l (λg b _ c h=>f g b c (by simp[(La c)]) (λe=>by have:=((i g b).1 e).2.2;rw[h]at this;cases this))).symm,λd b c _ e=>J d b (Nat.zero_le _) c (t d b c e),λd b c _ e g q l y x z=>?_,λf b c _=>(i _ _).2 ⟨Nat.zero_le _,c,k.last f⟩,λp B=>?_,.inl M,λd b c f=>(by have h:=(La c);rw[Array.getElem?_replicate,if_pos h]at f;cases f)⟩ ψ L.out))
 .rcases k.look d g b q l c y x z with ⟨_,j⟩|⟨j,s,_⟩
  .refine .inl λf=>?_
   have:=j (t d b c e);rw[((i g q).1 f).2.2]at this;cases this
  exact .inr ⟨j,s⟩
 obtain⟨_,b,_⟩:=(i p.1 p.2).1 B;exact⟨b,by simp[(La b)]⟩
def Px{l:List (Nat×Oper)}(c:(l.map (·.1)).Nodup){x:Nat×Oper}(a:x∈l):(l.filter (λb=>b.1 !=x.1)).length+1=l.length:=by
 induction l with
 |nil=>cases a
 |cons e l f=>
  rw[List.map_cons,List.nodup_cons]at c;rcases ϰ.1 a with rfl|a
  .rw [List.filter_cons,if_neg ψ,List.filter_eq_self.2 (λb d=>by
    have:b.1≠x.1:=λb=>c.1 (by rw[<-b];exact List.mem_map_of_mem d);simpa using this)]
   rfl
  have d:e.1≠x.1:=λb=>c.1 (by rw[b];exact List.mem_map_of_mem a);rw[List.filter_cons,if_pos (by simpa using d),List.length_cons,List.length_cons,f c.2 a]
def wp_region_bel{P:Program}{b:Array Oper}{e:Exit->Act->Ϣ->Prop}{id:Nat}{a:Act}{w:Ϣ}{S:Ϣ->Prop}(k:∀c,ϐ w w c->S c)(d:List Nat)(c:Bool)(n:Nat)(j:b.size=n)(i:P.follows .mixedOrders=ϑ)(g:Uq b d c a.tmps.size=ϑ)
  (h:BI P S d (λleft f=>Dm P n e S c left f w.drew) b.toList 0 [] a):(Code.region id b ϑ).wp P e a w:=
 Ac S d c n j i g (k _ ⟨rfl,rfl,rfl,Nr _,λ_ _=>rfl⟩) h
def SK{P:Program}{n:Nat}{k:Exit->Act->Ϣ->Prop}{S:Ϣ->Prop}{i:Bool}(fs rest:List (Nat×Oper))(l:List Nat)(f:List Nat->Act->Ϣ->Prop){a:Act}{w:Ϣ}(Y:f [] a w)(L:((fs++rest).map (·.1)).Nodup)
  (W:∀j∈rest,(∀b∈l,∀e,(b,e)∈fs->waits j (b,e)=ϑ)\/∃C∈rest,waits j C=ϑ) (y:∀b∈l,∃e,(b,e)∈fs)
  (T:∀p∈fs,∀e a w,p.1∉e->f e a w->p.2.wp P a w (λj w'=>(S w'\/(i&&p.1+1==n)=ϑ)/\f (p.1::e) j w') (NoPanic k))
  (v:∀e a w,(∀b∈l,b∈e)->f e a w->Dm P n k S i (fs.filter (λp=>!e.contains p.1)++rest) a w):Dm P n k S i (fs++rest) a w:=by
 have V:∀(j:Nat)(e:List Nat)(a:Act)(w:Ϣ),(fs.filter (λp=>!e.contains p.1)).length<=j->f e a w->Dm P n k S i (fs.filter (λp=>!e.contains p.1)++rest) a w:=by
  intro q;induction q with
  |zero=>
   intro e a w j i;refine v e a w (λb f=>?_) i;let⟨i,k⟩:=y b f;have f:=List.eq_nil_of_length_eq_zero (Nat.le_zero.1 j);by_cases B:b∈e
   .exact B
   have:(b,i)∈fs.filter (λp=>!e.contains p.1):=List.mem_filter.2 ⟨k,by simpa using B⟩;rw[f]at this;cases this
  |succ e R=>
   intro c a w e E;by_cases A:∀b∈l,b∈c
   .exact v c a w A E
   have i:∃b∈l,b∉c:=Classical.byContradiction λf=>A λb e=>Classical.byContradiction λN=>f ⟨b,e,N⟩;let⟨b,J,M⟩:=i;let⟨x,G⟩:=y b J;have F:(b,x)∈fs.filter (λp=>!c.contains p.1):=List.mem_filter.2 ⟨G,by simpa using M⟩;have i:(fs.filter (λp=>!c.contains p.1)++rest).map (·.1) |>.Nodup:=by refine List.Nodup.sublist ?_ L;exact(List.Sublist.append List.filter_sublist (List.Sublist.refl _)).map _
   have z:∀e,e∈fs.filter (λp=>!c.contains p.1)++rest->((fs.filter (λp=>!c.contains p.1)++rest).filter (λf=>f.1 !=e.1)).length+1=(fs.filter (λp=>!c.contains p.1)++rest).length:=λe f=>Px i f;let⟨r,m⟩:∃r,(fs.filter (λp=>!c.contains p.1)++rest).length=r+1:=⟨(fs.filter (λp=>!c.contains p.1)++rest).length-1,by have:=z _ (List.mem_append_left _ F);omega⟩;refine⟨?_⟩;rw[m];refine .inr ⟨λh=>(by rw[h]at m;cases m),λd t o=>?_⟩;rcases List.mem_append.1 t with s|Q
   .obtain ⟨j,e⟩:=List.mem_filter.1 s
    have q:d.1∉c:=by simpa using e
    have k:rest.filter (λe=>e.1 !=d.1)=rest:=List.filter_eq_self.2 (λe i=>by
     have f:=L;rw[List.map_append,List.nodup_append]at f;have:e.1≠d.1:=λh=>f.2.2 _ (List.mem_map_of_mem j) _ (List.mem_map_of_mem i) h.symm;simpa using this)
    have i:(fs.filter (λp=>!c.contains p.1)).filter (λe=>e.1 !=d.1)=fs.filter (λp=>!(d.1::c).contains p.1):=by rw[List.filter_filter];refine List.filter_congr (λe _=>?_);by_cases h:e.1=d.1<;>simp[h]
    have e:=z d t;rw[m,List.filter_append,k,i]at e;have l:(fs.filter (λp=>!(d.1::c).contains p.1)).length+rest.length=r:=by rw[List.length_append]at e;omega
    refine Oper.wp_mono (λf w' e=>⟨e.1,?_⟩) (T d j c a w q E);have j:=R (d.1::c) f w' (by rw[List.length_append]at m;omega) e.2;rw[List.filter_append,k,i];have:=j.out;rw[List.length_append,l]at this;exact this
   exfalso;unfold DE at o;rw[List.all_eq_true]at o;rcases W d Q with g|⟨C,u,g⟩
   .have:=o (b,x) (List.mem_append_left _ F)
    rw[g b J x G]at this;cases this
   have:=o C (List.mem_append_right _ u);rw[g]at this;cases this
 have:=V fs.length [] a w (List.length_filter_le _ _) Y;rw[List.filter_eq_self.2 (λp _=>by simp)]at this;exact this
def Ig(n i:Nat):Array Bool:=Array.ofFn (n:=n) (λj=>decide (j.val<i))
def Nf(ops:Array Oper)(hard:List Nat):Bool:=Region.noSelect ops&&(List.range ops.size).all λi=>if hard.contains i then Region.ready .any ops (Ig ops.size i) == [i]else Region.free .any ops (Ig ops.size i) i&&(Region.ready .any ops (Ig ops.size i)).contains i
structure Hw(P:Program)(ops:Array Oper)(hard:List Nat)(Q:Exit->Act->Ϣ->Prop)(S:Ϣ->Prop)(i:Nat)(os:List Oper)(a:Act)(w:Ϣ):Prop where
 out:Nf ops hard=ϑ->ops.toList.drop i=os->S w->wpAnyH P .any ops (NoPanic Q) S os.length (Ig ops.size i) a w
def KY{n i j:Nat}(a:j<n):(Ig n i)[j]?=I (decide (j<i)):=by
 unfold Ig;rw[Array.getElem?_ofFn];simp[a]
def Lu{n i:Nat}:(Ig n i).setIfInBounds i ϑ=Ig n (i+1):=by
 have d:∀c,(Ig n c).size=n:=λc=>by simp[Ig]
 apply Array.ext_getElem?;intro c;by_cases a:c<n
 .rw [KY a,Array.getElem?_setIfInBounds,d]
  by_cases b:i=c
  .subst b;simp[a]
  rw[if_neg b,KY a];exact congrArg I φ
 rw[Array.getElem?_eq_none (by simp[d];omega),Array.getElem?_eq_none (by rw[d];omega)]
def NH{a:Array Oper}{i:Nat}{o:Oper}{os:List Oper}(b:a.toList.drop i=o::os):a[i]?=I o/\a.toList.drop (i+1)=os:=by
 have c:a.toList[i]?=I o:=by have:=congrArg (λa=>a[0]?) b;simpa using this
 refine⟨by simpa using c,?_⟩;rw[<-List.drop_drop,b];rfl
def Gq{P:Program}{b:Array Oper}{d:Exit->Act->Ϣ->Prop}{id:Nat}{a:Act}{w:Ϣ}(S:Ϣ->Prop)(c:List Nat)(g:P.follows .mixedOrders=ϑ)(h:Nf b c=ϑ)(e:S w.drew)(f:Hw P b c d S 0 b.toList a w.drew):(Code.region id b ϑ).wp P d a w:=by
 refine wp_region_noPanic (wp_region_held_drew (S:=S) g e (λc=>?_));have:=f.out h rfl c;have e:Ig b.size 0=Array.replicate b.size ϝ:=by
  apply Array.ext_getElem?;intro d;by_cases c:d<b.size
  .rw [KY c,Array.getElem?_replicate,if_pos c];rfl
  rw[Array.getElem?_eq_none (by simp[Ig];omega),Array.getElem?_eq_none φ]
 rw[e]at this;exact this
def Fp{P:Program}{c:Array Oper}{d:List Nat}{b:Exit->Act->Ϣ->Prop}{S:Ϣ->Prop}{i:Nat}{a:Act}{w:Ϣ}(e:b .normal a w):Hw P c d b S i [] a w:=⟨λ_ b _=>by
 have:c.size<=i:=by simpa using b
 refine⟨?_,e⟩;unfold Region.ready;rw[List.filter_eq_nil_iff];intro b b;rw[List.mem_range]at b;simp only[Array.getD_eq_getD_getElem?,KY b];simp;omega⟩
def Ng{a:Array Oper}{c:List Nat}{i:Nat}{o:Oper}(b:Nf a c=ϑ)(d:a[i]?=I o):Region.noSelect a=ϑ/\(if c.contains i then Region.ready .any a (Ig a.size i) == [i]else Region.free .any a (Ig a.size i) i&&(Region.ready .any a (Ig a.size i)).contains i)=ϑ:=by
 unfold Nf at b;rw[Bool.and_eq_true,List.all_eq_true]at b;exact⟨b.1,b.2 i (List.mem_range.2 (La d))⟩
def Hw.yield{P:Program}{c:Array Oper}{b:List Nat}{e:Exit->Act->Ϣ->Prop}{S:Ϣ->Prop}{i:Nat}{o:Oper}{os:List Oper}{a:Act}{w:Ϣ}(j:b.contains i=ϝ)(v:ϒ)(k:YieldsIf P c S o v a)(d:Hw P c b e S (i+1) os (a.put o.dst v) w):Hw P c b e S i (o::os) a w:=⟨λf b e=>by
 let⟨c,h⟩:=NH b;let⟨g,b⟩:=Ng f c;rw[if_neg (by rw[j];simp),Bool.and_eq_true]at b;refine wpAnyH_take c g b.1 b.2 (λ_ _ _ d=>d.elim) k e ?_;rw[Lu];exact d.out f h e⟩
def CU{P:Program}{c:Array Oper}{b:List Nat}{d:Exit->Act->Ϣ->Prop}{S:Ϣ->Prop}{i:Nat}{o:Oper}{os:List Oper}{a:Act}{w:Ϣ}(h:b.contains i=ϝ)(g:Region.wanted o (yielded c a.tmps)=ϑ)(v:ϒ)(f:∀w,S w->(execOp a.eval o).run P w=.ok (.value v) w)(e:Hw P c b d S (i+1) os (a.put o.dst v) w):Hw P c b d S i (o::os) a w:=.yield h v (.inl ⟨g,f⟩) e
def CT{P:Program}{b:Array Oper}{d:List Nat}{h:Exit->Act->Ϣ->Prop}{S:Ϣ->Prop}{i:Nat}{o:Oper}{os:List Oper}{a:Act}{w:Ϣ}(l:Region.wanted o (yielded b a.tmps)=ϝ)(m:Hw P b d h S (i+1) os (a.put o.dst undef) w):Hw P b d h S i (o::os) a w:=⟨λe f k=>by
 let⟨j,n⟩:=NH f;let⟨_,g⟩:=Ng e j;cases c:d.contains i with
 |false=>exact(Hw.yield c undef (.inr ⟨l,rfl⟩) m).out e f k
 |true=>
  rw[if_pos c]at g;refine wpAnyH_ready (by simpa using g) ψ (AllReadyH.cons j (λd b=>?_) AllReadyH.nil);rw[if_neg (by rw[l];simp)];exact b.out _ _ k (λb=>by rw[Lu];exact m.out e n b)⟩
def E5{P:Program}{e:Array Oper}{d:List Nat}{c:Exit->Act->Ϣ->Prop}{S:Ϣ->Prop}{i:Nat}{o:Oper}{os:List Oper}{a:Act}{w:Ϣ}(g:d.contains i=ϑ)(h:Region.wanted o (yielded e a.tmps)=ϑ)(b:o.wp P a w (λf w'=>S w'/\Hw P e d c S (i+1) os f w') (NoPanic c)):Hw P e d c S i (o::os) a w:=⟨λe c d=>by
 let⟨d,f⟩:=NH c;let⟨_,c⟩:=Ng e d;rw[if_pos g]at c;refine wpAnyH_ready (by simpa using c) ψ (AllReadyH.cons d (λd c=>?_) AllReadyH.nil);rw[if_pos h];exact Oper.wp_mono (λd w' b=>c.out _ _ b.1 (λc=>by rw[Lu];exact b.2.out e f c)) b⟩
def Xac{P a:Prop}(q:a)(k:a->P:=by intro q;(repeat (first|(refine' BI.take (Eq.refl false) _ (λb a=>?_) ?_;rotate_left;(try dsimp only at a);go_simp;(try with_reducible rfl);try simp only[Ap])|refine BI.skip (Eq.refl true) ?_));refine BI.stop ?_;simp only[List.nil_append,List.cons_append];exact q):P:=k q
def Xcy{H P b:Prop}(a:Hid H)(q:b)(k:Hid H->b->P:=by intro a q;(repeat (first|(refine' CU (Eq.refl false) rfl _ (λc b=>?_) ?_;rotate_left;(replace b:=a.out _ b);go_simp;(try with_reducible rfl);try simp only[Ap])|(refine CT rfl ?_;try simp only[Ap])));exact q):P:=k a q
def BF.funs{B:Nat}{w:Ϣ}{fv g gv:ϒ}{c:AQ}(b:BF B w (.agg #[fv,g,gv]) c):AE B w 5 (CW B) gv c.q0:=by
 let⟨_,_,a,_,d,_⟩:=b;simp only[Value.agg.injEq,Array.mk.injEq,List.cons.injEq,and_true]at a;rw[a.2.2];exact d
end Go.Proofs.YtigbfkiddlhhjaaGreatDoor
namespace Go.Proofs.YtigbfkiddlhhjaaGreatDoor
open Go.ChangeShapes Go.WideShapes Go.Deep Go.RowKit Proofs.Tryz
section
variable{H:Type}{enc:TypeId×ϒ->H}{w:Ϣ}{base:Nat}{spare:Nat->Bool}{held:Bool}
def MC(t:TypeId)(d:DataW H):Prop:=∀z∈d.weights prog t,z<=140737488351232
def MC.of_each{a:List TypeId}{b:List (DataW H)}(f:(DataW.weightsEach prog a b).all (·<=reachBytes)=ϑ){j:Nat}{t:TypeId}{d:DataW H}(e:a[j]?=I t)(c:b[j]?=I d):MC t d:=λa b=>by
 have:=List.all_eq_true.1 f a (DataW.weights_mem_each e c a b);have:=of_decide_eq_true this;unfold reachBytes at this;exact this
def MC.part{t:TypeId}{fs:Array Field}{a:List (DataW H)}(hs:prog.underlying t=I (.struct fs))(c:MC t (.agg a)){j:Nat}{f:Field}{d:DataW H}(g:fs[j]?=I f)(e:a[j]?=I d):MC f.type d:=λa b=>
 c a (by
  simp only[DataW.weights,hs];exact DataW.weights_mem_each (j:=j) (t:=f.type) (by simp[g]) e a b)
def Gg{e:TypeId}:∀{a:List (DataW H)}{j:Nat}{d:DataW H},a[j]?=I d->∀b∈d.weights prog e,b∈DataW.weightsAll prog e a
 |d0::a,0,d,hd,b,hn=>by simp only[List.getElem?_cons_zero,Option.some.injEq]at hd;subst hd;simp only[DataW.weightsAll,List.mem_append];exact Or.inl hn
 |d0::a,j+1,d,hd,b,hn=>by simp only[List.getElem?_cons_succ]at hd;simp only[DataW.weightsAll,List.mem_append];exact Or.inr (Gg hd b hn)
 |[],_,_,hd,_,_=>by simp at hd
def EC{α:Type}(Q:α){t e:TypeId}{sz by_:Nat}{E:Ϣ->Nat->Nat->α->Prop}(r:prog.underlying t=I (.slice e))(M:prog.cellsOf e=sz)(A:prog.bytesOf e=by_)(C:1<=by_)(f:1<=sz)
  (L:∀(b o n:Nat)(f:List ϒ)(y:DataW H×List MemPlace),(∀j,j<sz->w.cell? (π b (o+j))=f[j]?)->f.length=sz->DataW.trod enc prog w base spare held n e f=I y->MC e y.1->∃f,E w b o f)
  {v:ϒ} {n:Nat} {y:DataW H×List MemPlace} (p:DataW.trod enc prog w base spare held n t [v]=I y) (s:MC t y.1):∃f:List α,AE w w sz E v f:=by
 rcases open_slice r p with ⟨c,_⟩|⟨g,a,z,m,F,G,J,c,_,P,u,k,rfl,l⟩
 .cases c
  exact⟨[],none,0,rfl,ψ,ψ,ω,.inl rfl⟩
 cases c;have:a<=m:=by rw[k];split<;>omega
 have N:a<=140737488355328:=by have:=s ((a+(m-a))*by_) (by simp[DataW.weights,r,A]);have:(a+(m-a))*1<=(a+(m-a))*by_:=Nat.mul_le_mul_left _ C;omega
 unfold maxLen at u;by_cases x:a=0
 .subst x
  exact⟨[],I g,z,rfl,ψ,ψ,ω,.inl rfl⟩
 let⟨b,o,c⟩:=g;have q:c=none:=by let⟨_,f,_⟩:=l 0 ω;let⟨_,_,c⟩:=World.cells?_some f;have:=c 0 ω;rw[Lg ω]at this;simpa[Addr.add]using World.cell?_spot this
 subst q;have A:∀c,c<a->∃f,E w b (o+c*sz) f:=λc u=>by
  let⟨p,k,q⟩:=l c ω;let⟨_,f,g⟩:=World.cells?_some k;rw[M]at f g;refine L b (o+c*sz) F p (G c,J c) (λj k=>?_) f q (λf p=>s f ?_)
  .have:=g j k
   rw[add_plain,add_plain]at this;exact this
  simp only[DataW.weights,r];refine List.mem_cons_of_mem _ (List.mem_append_left _ (Gg (j:=c) ?_ f p));simp[u]
 let⟨f,B⟩:=@choose_lt α ⟨Q⟩ _ _ A;have k:b<w:=by let⟨_,g,_⟩:=l 0 ω;let⟨_,_,c⟩:=World.cells?_some g;have:=c 0 ω;rw[Lg ω,add_plain,add_plain]at this;exact Bl this
 have c:((List.range a).map f).length=a:=by simp
 refine⟨(List.range a).map f,I (π b o),z,by rw[c],by rw[c];exact N,by rw[c];exact P,ω,.inr ⟨b,o,rfl,k,λi f d=>?_⟩⟩;have h:i<a:=by have:=(Ll d);rw[c]at this;exact this
 rw[List.getElem?_map,List.getElem?_range h]at d;simp only[Option.map_some,Option.some.injEq]at d;subst d;exact B i h
def Qz{n:Int}(a:(Lit.int .i64 n).wf=ϑ):in64 n:=bounds_i64 a
def Aw{t:TypeId}{fs:Array Field}{b:List ϒ}{n:Nat}{y:DataW H×List MemPlace}(hs:prog.underlying t=I (.struct fs))(k:DataW.trod enc prog w base spare held n t b=I y)(o:MC t y.1)
  (j:Nat) {f:Field} {v:ϒ} (c:fs[j]?=I f) (m:prog.cellsOf f.type=1) (l:b[f.offset]?=I v):∃d a,DataW.trod enc prog w base spare held d f.type [v]=I a/\MC f.type a.1:=by
 obtain⟨e,i,rfl,rfl,_,g,h⟩:=DataW.trod_struct hs k;have d:j<e.length:=by rw[g];exact(La c)
 have a:=h j f c;have h:(b.drop f.offset).take (prog.cellsOf f.type)=[v]:=by let⟨g,b⟩:=List.getElem?_eq_some_iff.1 l;rw[m,List.drop_eq_getElem_cons g,b];rfl
 rw[h,Lg d]at a;exact⟨i,e[j],a,o.part hs c (by simp[Lg d])⟩
def Bf:prog.cellsOf 3=1:=by kernel_rfl
def jx:prog.cellsOf 4=1:=by kernel_rfl
def Rf:prog.cellsOf 9=1:=by kernel_rfl
def EV:prog.cellsOf 22=1:=by kernel_rfl
def DV{n:Nat}{v:ϒ}{y:DataW H×List MemPlace}(e:DataW.trod enc prog w base spare held n 3 [v]=I y):∃a,v=ι a/\in64 a:=by
 let⟨c,b,_,d⟩:=DataW.trod_int underlying3 e;cases b;exact⟨c,rfl,Qz d⟩
def sd{n:Nat}{v:ϒ}{y:DataW H×List MemPlace}(d:DataW.trod enc prog w base spare held n 4 [v]=I y):∃a,v=.bool a:=by
 let⟨c,b,_⟩:=DataW.trod_bool underlying4 d;cases b;exact⟨c,rfl⟩
def Wi{n:Nat}{v:ϒ}{y:DataW H×List MemPlace}(e:DataW.trod enc prog w base spare held n 9 [v]=I y)(d:MC 9 y.1):∃b:ByteArray,v=.string b/\b.size<=140737488355328:=by
 obtain⟨a,c,rfl,_⟩:=DataW.trod_string underlying9 e;cases c;refine⟨a,rfl,?_⟩;have:=d a.data.toList.length (by simp[DataW.weights]);rw[Array.length_toList]at this;have:a.data.size=a.size:=rfl;omega
def GN{n:Nat}{v:ϒ}{y:DataW H×List MemPlace}(a:DataW.trod enc prog w base spare held n 22 [v]=I y)(b:MC 22 y.1):∃d:List Int,AE w w 1 Aj v d:=
 EC 0 (by_:=8) underlying22 Bf κ ω ω (λi j n f y h d a b=>by
  match f,d with
  |[c],_=>
   obtain⟨e,rfl,g⟩:=DV a;exact⟨e,h 0 ω,g⟩) a b
def sf{n:Nat}{v:ϒ}{y:DataW H×List MemPlace}(b:DataW.trod enc prog w base spare held n 68 [v]=I y)(a:MC 68 y.1):∃d:List Cd,AE w w 2 JW v d:=
 EC ⟨0,0⟩ (by_:=16) underlying68 κ κ ω ω (λl m n e y c d b a=>by
  match e,d with
  |[c0,c1],_=>
   let⟨_,_,k,_⟩:=Aw underlying96 b a 0 rfl Bf rfl;let⟨_,_,j,_⟩:=Aw underlying96 b a 1 rfl Bf rfl;obtain⟨h,rfl,i⟩:=DV k;obtain⟨f,rfl,g⟩:=DV j;exact⟨⟨h,f⟩,c 0 ω,c 1 ω,i,g⟩) b a
def se{n:Nat}{v:ϒ}{y:DataW H×List MemPlace}(b:DataW.trod enc prog w base spare held n 23 [v]=I y)(a:MC 23 y.1):∃d:List BK,AE w w 5 (CW w) v d:=
 EC ⟨ByteArray.empty,0,0,ϝ,[]⟩ (by_:=64) underlying23 κ κ ω ω (λu x n e y c d b a=>by
  match e,d with
  |[c0,c1,c2,c3,c4],_=>
   let⟨_,_,s,t⟩:=Aw underlying70 b a 0 rfl Rf rfl;let⟨_,_,r,_⟩:=Aw underlying70 b a 1 rfl Bf rfl;let⟨_,_,q,_⟩:=Aw underlying70 b a 2 rfl Bf rfl;let⟨_,_,p,_⟩:=Aw underlying70 b a 3 rfl jx rfl;let⟨_,_,l,m⟩:=Aw underlying70 b a 4 rfl κ rfl;obtain⟨j,rfl,o⟩:=Wi s t;obtain⟨h,rfl,k⟩:=DV r;obtain⟨g,rfl,i⟩:=DV q;obtain⟨f,rfl⟩:=sd p;let⟨d,e⟩:=sf l m;exact⟨⟨j,h,g,f,d⟩,c 0 ω,c 1 ω,c 2 ω,c 3 ω,⟨c4,c 4 ω,e⟩,o,k,i⟩) b a
def VO{n:Nat}{v:ϒ}{y:DataW H×List MemPlace}(b:DataW.trod enc prog w base spare held n 26 [v]=I y)(a:MC 26 y.1):∃d:List Gl,AE w w 2 (GP w) v d:=
 EC ⟨0,[]⟩ (by_:=32) underlying26 κ κ ω ω (λk l n e y c d b a=>by
  match e,d with
  |[c0,c1],_=>
   let⟨_,_,j,_⟩:=Aw underlying72 b a 0 rfl Bf rfl;let⟨_,_,h,i⟩:=Aw underlying72 b a 1 rfl EV rfl;obtain⟨f,rfl,g⟩:=DV j;let⟨d,e⟩:=GN h i;exact⟨⟨f,d⟩,c 0 ω,⟨c1,c 1 ω,e⟩,g⟩) b a
def Wh{t:TypeId}{fs:Array Field}{r:Go.Reach}{a:Nat}{v:ϒ}{d:DataW H}{p:List MemPlace}(hs:prog.underlying t=I (.struct fs))(g:Value.okWide prog w r a t v)(f:DataW.Trod enc prog w base spare held t v d p) :
  ∃(a:List ϒ)(c:Nat),v=.agg a.toArray/\a.length=prog.cellsOf t/\DataW.trod enc prog w base spare held c t a=I (d,p):=by
 obtain⟨b,rfl,e⟩:=okWide_struct hs g;let⟨a,c⟩:=f;exact⟨b.toList,a,ψ,by simpa using e,by simpa[Value.cells]using c⟩
def Y4{r:Go.Reach}{c:Nat}{v:ϒ}{d:DataW H}{p:List MemPlace}(n:Value.okWide prog w r c 25 v)(a:DataW.Trod enc prog w base spare held 25 v d p)(b:MC 25 d):∃c,BF w w v c:=by
 obtain⟨f,_,rfl,e,a⟩:=Wh underlying25 n a
 match f,e.trans (show prog.cellsOf 25=3 by kernel_rfl)with
 |[c0,c1,c2],_=>let⟨_,_,c,e⟩:=Aw underlying25 a b 0 rfl EV rfl;let⟨_,_,m,_⟩:=Aw underlying25 a b 1 rfl Bf rfl;let⟨_,_,k,l⟩:=Aw underlying25 a b 2 rfl κ rfl;let⟨i,j⟩:=GN c e;obtain⟨g,rfl,h⟩:=DV m;let⟨a,b⟩:=se k l;exact⟨⟨i,g,a⟩,c0,c2,rfl,j,b,h⟩
def bj{r:Go.Reach}{f:Nat}{v:ϒ}{d:DataW H}{p:List MemPlace}(g:Value.okWide prog w r f 28 v)(a:DataW.Trod enc prog w base spare held 28 v d p)(b:MC 28 d):∃m,Lw w w v m:=by
 obtain⟨e,_,rfl,c,a⟩:=Wh underlying28 g a
 match e,c.trans (show prog.cellsOf 28=2 by kernel_rfl)with
 |[c0,c1],_=>let⟨_,_,h,i⟩:=Aw underlying28 a b 0 rfl EV rfl;let⟨_,_,f,g⟩:=Aw underlying28 a b 1 rfl κ rfl;let⟨c,e⟩:=GN h i;let⟨a,b⟩:=VO f g;exact⟨⟨c,a⟩,c0,c1,rfl,e,b⟩
end
end Go.Proofs.YtigbfkiddlhhjaaGreatDoor
namespace Go.Proofs.YtigbfkiddlhhjaaGreatDoor
open Go.ChangeShapes Go.WideShapes Go.ChangeAt Go.WideElems Go.RowKit Proofs.Tryz
def own:ownKnob prog.godebug=none:=by kernel_rfl
def X7:laidOutB prog=ϑ:=by kernel_rfl
def YY:List (String×DataW Unit):=[("math/bits.deBruijn64tab",Rows.laid_math_bits_deBruijn64tab),("unicode.White_Space",Rows.laid_unicode_White_Space),("strings.asciiSpace",Rows.laid_strings_asciiSpace)]
def Yl(os:Os)(args:Array ϒ):laidMetH prog YY ((World.doorLaid prog 38 os).forCall (λ_ _=>0) ⟨#[],args,[]⟩).memory:=
 laidMetH_of_parts3 (fuel:=8) (laidMet_of_run' 8 κ κ) κ κ
def tq:prog.globalNamed "math/bits.deBruijn64tab"=I 0:=by kernel_rfl
def rm:(prog.globals[0]?).map (·.type)=I 231:=by kernel_rfl
def tx:prog.globalNamed "strings.asciiSpace"=I 1:=by kernel_rfl
def rk:(prog.globals[1]?).map (·.type)=I 245:=by kernel_rfl
def ig:prog.cellsOf 5=1:=by kernel_rfl
def gf:List Int:=Lib.deBruijn64tab.map (λ(n:Nat)=>(n:Int))
def Yv{W:Ϣ}(a:laidMetH prog YY W):C8 W:=by
 rw[MakeChecks.laidMetH_plain _ _ _ κ]at a;have c:laidMet prog (("math/bits.deBruijn64tab",Lib.tabData .u8 gf)::[("unicode.White_Space",Rows.laid_unicode_White_Space),("strings.asciiSpace",Rows.laid_strings_asciiSpace)]) W:=a;have b:laidMet prog [("strings.asciiSpace",Lib.tabData .u8 Lib.asciiSpaceTab)] W:=a.tail.tail;have d:=Lib.tabIs_of_head tq rm underlying231 underlying5 ig κ c;have a:=Lib.tabIs_of_head tx rk underlying245 underlying5 ig κ b;refine⟨a,λb a=>?_⟩;have c:b<gf.length:=by unfold gf;rw[List.length_map];exact a
 rw[d.cell tq b c];unfold gf;rw[List.getD_eq_getElem?_getD,List.getElem?_map,Lg a,List.getD_eq_getElem?_getD,Lg a];rfl
def ZT{H:Type}{enc:TypeId×ϒ->H}{W e:Ϣ}{c:Nat->Bool}:∀{b:List TypeId}{vs:List ϒ}{ds:List (DataW H)}{ps:List MemPlace},
  (∀t∈b,prog.readableRec t=ϑ/\t<prog.types.size)->DataW.TrodAll enc prog W 0 (λ_=>ϑ) ϑ b vs ds ps->(∀a∈ps,W.sameAt e a)->(∀a∈ps,c a.block=ϑ)->DataW.TrodAll enc prog e 0 c ϑ b vs ds ps
 |[],[],[],_,_,h,_,_=>h
 |t::b,v::vs,d::ds,ps,hr,h,hb,hs=>by obtain⟨p,f,g,i,rfl⟩:=h;exact⟨p,f,Trod_stays X7 (hr t ψ).1 (hr t ψ).2 g (λa b=>hb a (by simp[b])) (λa b=>hs a (by simp[b])),ZT (λc e=>hr c (by simp[e])) i (λa b=>hb a (by simp[b])) (λa b=>hs a (by simp[b])),rfl⟩
 |[],_::_,_,_,_,h,_,_=>h.elim
 |[],[],_::_,_,_,h,_,_=>h.elim
 |_::_,[],_,_,_,h,_,_=>h.elim
 |_::_,_::_,[],_,_,h,_,_=>h.elim
def Yp{H:Type}{enc:TypeId×ϒ->H}{c:Func}{s:ChangeSpec}{W k:Ϣ}{args:Array ϒ}{b:List (DataW H)}{m:List MemPlace}(l:s.vars=[])
  (u:∀d∈c.params.toList,prog.readableRec d=ϑ/\d<prog.types.size) (t:c.resultTypes=#[4])
  (h:DataW.Whole enc prog c.params.toList s.vars ϝ W args.toList b [] m) (o:(s.fn H (b++[])).results=[.lit (.bool ϑ)]) (q:(s.fn H (b++[])).args=b) (r:(s.fn H (b++[])).vars=[]) (j:ϐ W W k) :
  s.post enc prog c ϝ ϑ ϝ ϝ W args (.bool ϑ) k:=by
 have f:=h;obtain⟨p,_,n,e,rfl,_,_⟩:=h;rw[l]at e;obtain⟨_,rfl⟩:=trodVars_none e;have g:=λc a=>f.lt c (by simpa using a);refine⟨b,[],p++[],[],p,[],f,?_,?_,?_,World.keptBut_mono (λb a=>⟨a,.inr (.inl (by simpa using a))⟩) (j.frame _),λi=>by cases i⟩
 .rw [t,o];exact trodAll_mk1 (shut_bool underlying4 _)
 .rw [q];exact ZT u n (λb a=>j.same (g b a)) (λb a=>by simpa using g b a)
 rw[r,l];rfl
def Xdd(a b:Int)(i:Nat)(v:ϒ)(c:(#[ι a,ι b]:Array ϒ)[i]?=I v)(w:Ϣ):(part 3 #[ι a,ι b] i).run prog w=.ok v w:=
 run_part_plain w κ c
def Xii(a b c d:Int)(w:Ϣ):(Op.equal 85 (.agg #[ι a,ι b]) (.agg #[ι c,ι d])).run prog w=.ok (a==c&&b==d) w:=by
 obtain⟨_,i,-⟩:=info_parts (P:=prog) (e:=3) (z:=ι 0) (size:=1) (bytes:=8) κ;have h:prog.cellsOf 3=1:=by kernel_rfl
 unfold Op.equal Op.maxDepth;rw[run_equalIn_array w 9999 _ _ underlying85 i,h];simp only[List.range,List.range.loop,Op.eqItems,Sem.run_bind,Nat.zero_mul,Nat.one_mul];rw[Xdd a b 0 (ι a) rfl,Result.andThen_ok,Xdd c d 0 (ι c) rfl,Result.andThen_ok,run_equalIn_int w 9998 _ _ _ _ _ underlying3,Result.andThen_ok];by_cases g:a=c
 .subst g
  simp only[beq_self_eq_true,Bool.not_true,Bool.false_eq_true,if_false,Sem.run_bind];rw[Xdd a b 1 (ι b) rfl,Result.andThen_ok,Xdd a d 1 (ι d) rfl,Result.andThen_ok,run_equalIn_int w 9998 _ _ _ _ _ underlying3,Result.andThen_ok];by_cases f:b=d
  .subst f;simp
  simp[f]
 simp[g]
def Xdr(l:List (Int×Int)):List MapEntry:=l.zipIdx.map λp=>⟨.agg #[ι p.1.1,ι p.1.2],.bool ϑ,p.2⟩
def Xlm(l:List (Int×Int))(r:Int×Int):Xdr (l++[r])=Xdr l++[⟨.agg #[ι r.1,ι r.2],.bool ϑ,l.length⟩]:=by
 unfold Xdr;rw[List.zipIdx_append,List.map_append];simp
def Xjs(a b:Int)(e:Bool)(n:Nat)(w:Ϣ):(Instr.checkKey e (n+1+1) 85 (.agg #[ι a,ι b])).run prog w=.ok () w:=by
 let⟨_,d,_,c,_⟩:=info_parts (P:=prog) (e:=3) (z:=ι 0) (size:=1) (bytes:=8) κ;simp[Instr.checkKey,run_underlying underlying85,Std.Legacy.Range.forIn_eq_forIn_range',Std.Legacy.Range.size,List.range',sizeOf,typeInfo,d,c,Xdd a b 0 (ι a) rfl,Xdd a b 1 (ι b) rfl,run_underlying underlying3]
def Xhb(a b:Int)(e:Bool)(w:Ϣ):(Instr.checkKey e 10000 85 (.agg #[ι a,ι b])).run prog w=.ok () w:=Xjs a b e 9998 w
def Xfh(a b:Int)(w:Ϣ):∀(l:List MapEntry)(k:Nat),(∀e∈l,∃c d:Int,e.key=.agg #[ι c,ι d]/\¬(a=c/\b=d))->(Instr.findAsking 85 (.agg #[ι a,ι b]) l k).run prog w=.ok none w
 |[],_,_=>by simp[Instr.findAsking]
 |e::l,k,h=>by
  let⟨d,c,g,f⟩:=h e (List.mem_cons_self ..);have:(a==d&&b==c)=ϝ:=by
   rw[Bool.and_eq_false_iff];by_cases c:a=d
   .exact .inr (by simp;exact λd=>f ⟨c,d⟩)
   exact .inl (by simpa using c)
  simp only[Instr.findAsking,Sem.run_bind,g,Xii,Result.andThen_ok,this,Bool.false_eq_true,if_false];exact Xfh a b w l (k+1) (λe d=>h e (List.mem_cons_of_mem _ d))
def Xh3{l:List (Int×Int)}{r:Int×Int}(h:r∉l):∀e∈Xdr l,∃c d:Int,e.key=.agg #[ι c,ι d]/\¬(r.1=c/\r.2=d):=λe f=>by
 unfold Xdr at f;obtain⟨⟨⟨a,b⟩,_⟩,g,rfl⟩:=List.mem_map.1 f;refine⟨a,b,rfl,λ⟨e,f⟩=>h ?_⟩;have:(a,b)∈l:=by have:=List.mem_zipIdx g;simp at this;let⟨d,c⟩:=this;rw[c];exact List.getElem_mem d
 rw[show r=(a,b)from Prod.ext e f];exact this
def Xhn(a b:Int)(w:Ϣ)(l:List MapEntry):(Instr.findKey 85 (.agg #[ι a,ι b]) l).run prog w=(Instr.findAsking 85 (.agg #[ι a,ι b]) l).run prog w:=run_findKey_eq w κ _ _
def Xlx(w:Ϣ):(zeroValue 4).run prog w=.ok (.bool ϝ) w:=by kernel_rfl
def Xh0{l:List (Int×Int)}{a b:Int}(d:(a,b)∉l){w:Ϣ}{c k:Nat}(e:w.heap[c]?=I (.map (Xdr l).toArray k)) :
  (Instr.lookup 188 (.map (I c)) (.agg #[ι a,ι b]) ϝ).run prog w=.ok (.bool ϝ) w:=by
 have c:=Xfh a b w (Xdr l) 0 (Xh3 d);simp[Instr.lookup,run_underlying underlying188,MapKept.run_getObj_map e,Xhb,Xhn,c,Xlx]
def Xgh{l:List (Int×Int)}{a b:Int}(e:(a,b)∉l){w:Ϣ}{c:Nat}(d:w.heap[c]?=I (.map (Xdr l).toArray l.length)) :
  (Instr.mapUpdate 188 (.map (I c)) (.agg #[ι a,ι b]) (.bool ϑ)).run prog w=.ok () {w with heap:=w.heap.setIfInBounds c (.map (Xdr (l++[(a,b)])).toArray (l++[(a,b)]).length)}:=by
 have c:=Xfh a b w (Xdr l) 0 (Xh3 e);rw[Xlm];simp[Instr.mapUpdate,run_underlying underlying188,MapKept.run_getObj_map d,Xhb,Xhn,c,MapKept.run_setObj_map _ d,Result.andThen]
structure CD where
 X:Int
 V:Int
 C:Int
 N:Int
 more:Int
structure A3 where
 M:Mm
 Y:Int
 R:List AV
 N:List Int
 A:List (List Bi)
 results:List (List CD)
 Z:List (List Int)
 P:List (List Int)
 U:Int
def FW(fv:ϒ)(m:AV):List ϒ:=[fv,ι m.Q.K,ι m.Q.O,ι m.Q.D,ι m.Q.V,ι m.Q.X,ι m.Y,ι m.C,ι m.I]
def Ht(B:Nat)(w:Ϣ)(b o:Nat)(m:AV):Prop:=
 ∃fv,(∀(j:Nat) v,(FW fv m)[j]?=I v->w.cell? (π b (o+j))=I v)/\AE B w 4 (CK B) fv m.J/\m.Q.wf/\in64 m.Y/\in64 m.C/\in64 m.I
def Ht.below{B:Nat}{w w':Ϣ}(a:ϐ B w w'){b o:Nat}{m:AV}(i:b<B)(d:Ht B w b o m):Ht B w' b o m:=by
 let⟨c,f,g,h⟩:=d;exact⟨c,λd e c=>by rw[Di a i];exact f d e c,g.fras a,h⟩
def DA(B:Nat)(w:Ϣ)(b o:Nat)(x:Bi):Prop:=
 w.cell? (π b o)=I (.string x.proc)/\(∃v,w.cell? (π b (o+1))=I v/\AE B w 1 Aj v x.args)/\x.proc.size<=140737488355328
def DA.below{B:Nat}{w w':Ϣ}(a:ϐ B w w'){b o:Nat}{x:Bi}(g:b<B)(f:DA B w b o x):DA B w' b o x:=by
 let⟨_,⟨d,_,c⟩,e⟩:=f;refine⟨?_,⟨d,?_,c.ints a⟩,e⟩<;>rw[Di a g]<;>assumption
def FM(w:Ϣ)(b o:Nat)(x:CD):Prop:=
 w.cell? (π b o)=I (ι x.X)/\w.cell? (π b (o+1))=I (ι x.V)/\w.cell? (π b (o+2))=I (ι x.C)/\w.cell? (π b (o+3))=I (ι x.N)/\w.cell? (π b (o+4))=I (ι x.more)/\in64 x.X/\in64 x.V/\in64 x.C/\in64 x.N/\in64 x.more
def FM.below{B:Nat}{w w':Ϣ}(c:ϐ B w w'){b o:Nat}{x:CD}(a:b<B)(d:FM w b o x):FM w' b o x:=by
 unfold FM at *;rw[Di c a,Di c a,Di c a,Di c a,Di c a];exact d
def Bg{α:Type}(sz:Nat)(E:Ϣ->Nat->Nat->α->Prop)(B:Nat)(w:Ϣ)(b o:Nat)(l:List α):Prop:=∃v,w.cell? (π b o)=I v/\AE B w sz E v l
def Bg.below{α:Type}{sz:Nat}{E:Ϣ->Nat->Nat->α->Prop}{B:Nat}{w w':Ϣ}(f:ϐ B w w')(g:∀b o a,b<B->E w b o a->E w' b o a){b o:Nat}{l:List α}(e:b<B)(hl:Bg sz E B w b o l):Bg sz E B w' b o l:=by
 let⟨a,c,d⟩:=hl;exact⟨a,by rw[Di f e];exact c,d.mono g⟩
def AE.cals{B:Nat}{w w':Ϣ}(b:ϐ B w w'){v:ϒ}{l:List Bi}(a:AE B w 2 (DA B) v l):AE B w' 2 (DA B) v l:=a.mono λ_ _ _ a=>DA.below b a
def AE.outs{B:Nat}{w w':Ϣ}(b:ϐ B w w'){v:ϒ}{l:List CD}(a:AE B w 5 FM v l):AE B w' 5 FM v l:=a.mono λ_ _ _ a=>FM.below b a
def AE.calss{B:Nat}{w w':Ϣ}(b:ϐ B w w'){v:ϒ}{l:List (List Bi)}(a:AE B w 1 (Bg 2 (DA B) B) v l):AE B w' 1 (Bg 2 (DA B) B) v l:=a.mono λ_ _ _ a c=>Bg.below b (λ_ _ _ a=>DA.below b a) a c
abbrev Bt(a:Option Addr)(b:Nat)(c:Option Addr)(d:Nat)(e:Option Addr)(f:Nat)(g:Option Addr)(h:Nat)(i:Option Addr)(j:Nat)(k:Option Addr)(l:Nat)(m:Option Addr)(n:Nat)(o:Option Addr)(p:Nat)(s:A3):Array ϒ:=#[σ a s.M.G b,σ c s.M.N d,ι s.Y,σ e s.R f,σ g s.N h,σ i s.A j,σ k s.results l,σ m s.Z n,σ o s.P p,ι s.U]
def Cs(m:AV):Bool:=decide (m.Q.K=1)||(decide (m.Q.K=2)||decide (m.Q.K=3))
def AE.nth{α:Type}{B:Nat}{w:Ϣ}{sz:Nat}{E:Ϣ->Nat->Nat->α->Prop}{a:Option Addr}{cap n:Nat}{l:List α}(c:AE B w sz E (σ a n cap) l){k:Nat}{x:α}(e:l[k]?=I x):∃b d,a=I (π b d)/\b<B/\E w b (d+k*sz) x:=by
 obtain⟨_,_,f,-,-,-,c⟩:=c;cases f;rcases c with rfl|⟨b,d,rfl,g,c⟩
 .simp at e
 exact⟨b,d,rfl,g,c k x e⟩
def Nv(B:Nat)(w:Ϣ)(v:ϒ)(l:List Bi):Prop:=AE B w 2 (DA B) v l
def Q8(B:Nat)(w:Ϣ)(v:ϒ)(l:List Int):Prop:=AE B w 1 Aj v l
def LI(d:Nat)(m:Array ϒ)(p:Bi->Bool)(l:List Bi)(v:ϒ)(B:Nat)(w:Ϣ)(L:An d)(P:B<=w)(f:AE B w 2 (DA B) v l)
  (J:∀(x:Bi)(a:Ϣ)(h:ϒ),ϐ w w a->Gh B a h x->ϙ prog d (#[h]++m) a (λh t=>h=.returned (.bool (p x))/\ϐ a a t)) :
  ϙ prog 47 #[v,.func (.func d) #[] m] w λa w'=>a=.returned (ι (Cz p l))/\ϐ w w w':=by
 obtain⟨_,_,rfl,_,_,_,f⟩:=f;have M:=Lh f;have N:=Lh J;unfold An at L;go_in;go_wp2;go_loopw[8] (λd wr=>∃a:Nat,a<=l.length/\d=ι a/\ϐ w w wr/\Hid (∀f x,f<a->l[f]?=I x->p x=ϝ)) (λd _=>l.length-(intOf d).toNat);exact⟨0,Nat.zero_le _,rfl,Below.refl _ _,λd x a=>by omega⟩;obtain⟨b,_,rfl,g,o⟩:=hrel;by_cases F:b<l.length
 .obtain ⟨x,e⟩:=Ϡ l b F
  rcases M.out with r|⟨_,_,rfl,u,c⟩
  .subst r;simp at e
  have c:=DA.below (g.mono P) u (c b x e);let⟨_,⟨lv,_,a⟩,C⟩:=c;have z:=Lh a;have q:=Lh e;go_wp2_with fail;refine(N.out x wr _ g ⟨lv,rfl,z.out,C⟩).mono ?_;rintro d a⟨rfl,c⟩;have s:ϐ w w a:=g.trans (c.mono g.size);cases k:p x with
  |true=>have y:=Lh (DO q.out k o);go_wp2;go_ret;exact⟨by rw[y.out];rfl,s⟩
  |false=>
   have G:Hid (∀a x,a<b+1->l[a]?=I x->p x=ϝ):=by
    intro j E a i;by_cases n:j=b
    .subst n;have:=q.out.symm.trans i;simp at this;rw[<-this];exact k
    exact o j E ω i
   go_wp2;go_roundw;exact⟨b+1,ω,by go_num,s,G⟩;simp[intOf];omega
 have A:=Lh (CR (p:=p) (l:=l) (λb c d a=>o b c ω a));go_wp2;go_ret;exact⟨by rw[A.out];rfl,g⟩
def Fb(b:Nat)(d:Array ϒ)(p:Bi->Bool)(l:List Bi)(v:ϒ)(B:Nat)(w:Ϣ)(n:An b)(o:B<=w)(m:AE B w 2 (DA B) v l)
  (k:∀(x:Bi)(a:Ϣ)(c:ϒ),ϐ w w a->Gh B a c x->ϙ prog b (#[c]++d) a (λc e=>c=.returned (.bool (p x))/\ϐ a a e)) :
  ϙ prog 23 #[v,.func (.func b) #[] d] w λa w'=>a=.returned (.bool (l.any p))/\ϐ w w w':=by
 let⟨h,i,g,j⟩:=Λ4 m k n (Ci p l);go_in;go_wp2_with fail;refine(LI b d p l v B w g.out o h.out i.out).mono ?_;rintro a w'⟨rfl,f⟩;go_wp2;go_ret;exact⟨by rw[<-j.out];rfl,f⟩
def KN(f:Nat)(n:Array ϒ)(p:List Bi->Bool)(l:List (List Bi))(v:ϒ)(B:Nat)(w:Ϣ)(L:An f)(E:B<=w)(h:AE B w 1 (Bg 2 (DA B) B) v l)
  (J:∀(x:List Bi)(a:Ϣ)(c:ϒ),ϐ w w a->Nv B a c x->ϙ prog f (#[c]++n) a (λc t=>c=.returned (.bool (p x))/\ϐ a a t)) :
  ϙ prog 46 #[v,.func (.func f) #[] n] w λa w'=>a=.returned (ι (Cz p l))/\ϐ w w w':=by
 obtain⟨_,_,rfl,_,_,_,h⟩:=h;have M:=Lh h;have N:=Lh J;unfold An at L;go_in;go_wp2;go_loopw[8] (λc wr=>∃a:Nat,a<=l.length/\c=ι a/\ϐ w w wr/\Hid (∀f x,f<a->l[f]?=I x->p x=ϝ)) (λc _=>l.length-(intOf c).toNat);exact⟨0,Nat.zero_le _,rfl,Below.refl _ _,λc x a=>by omega⟩;obtain⟨b,_,rfl,d,o⟩:=hrel;by_cases G:b<l.length
 .obtain ⟨x,g⟩:=Ϡ l b G
  rcases M.out with r|⟨_,_,rfl,A,e⟩
  .subst r;simp at g
  have e:=Bg.below (d.mono E) (λ_ _ _ a=>DA.below (d.mono E) a) A (e b x g);let⟨_,a,c⟩:=e;rw[Nat.mul_one]at a;have y:=Lh c;have q:=Lh g;go_wp2_with fail;refine(N.out x wr _ d y.out).mono ?_;rintro e a⟨rfl,c⟩;have s:ϐ w w a:=d.trans (c.mono d.size);cases k:p x with
  |true=>have u:=Lh (DO q.out k o);go_wp2;go_ret;exact⟨by rw[u.out];rfl,s⟩
  |false=>
   have F:Hid (∀a x,a<b+1->l[a]?=I x->p x=ϝ):=by
    intro j C a i;by_cases m:j=b
    .subst m;have:=q.out.symm.trans i;simp at this;rw[<-this];exact k
    exact o j C ω i
   go_wp2;go_roundw;exact⟨b+1,ω,by go_num,s,F⟩;simp[intOf];omega
 have z:=Lh (CR (p:=p) (l:=l) (λb c e a=>o b c ω a));go_wp2;go_ret;exact⟨by rw[z.out];rfl,d⟩
def FJ(b:Nat)(d:Array ϒ)(p:List Bi->Bool)(l:List (List Bi))(v:ϒ)(B:Nat)(w:Ϣ)(n:An b)(o:B<=w)(m:AE B w 1 (Bg 2 (DA B) B) v l)
  (k:∀(x:List Bi)(a:Ϣ)(c:ϒ),ϐ w w a->Nv B a c x->ϙ prog b (#[c]++d) a (λc e=>c=.returned (.bool (p x))/\ϐ a a e)) :
  ϙ prog 21 #[v,.func (.func b) #[] d] w λa w'=>a=.returned (.bool (l.any p))/\ϐ w w w':=by
 let⟨h,i,g,j⟩:=Λ4 m k n (Ci p l);go_in;go_wp2_with fail;refine(KN b d p l v B w g.out o h.out i.out).mono ?_;rintro a w'⟨rfl,f⟩;go_wp2;go_ret;exact⟨by rw[<-j.out];rfl,f⟩
def LJ(f:Nat)(n:Array ϒ)(p:List Int->Bool)(l:List (List Int))(v:ϒ)(B:Nat)(w:Ϣ)(L:An f)(E:B<=w)(h:AE B w 1 (Bg 1 Aj B) v l)
  (J:∀(x:List Int)(a:Ϣ)(c:ϒ),ϐ w w a->Q8 B a c x->ϙ prog f (#[c]++n) a (λc t=>c=.returned (.bool (p x))/\ϐ a a t)) :
  ϙ prog 137 #[v,.func (.func f) #[] n] w λa w'=>a=.returned (ι (Cz p l))/\ϐ w w w':=by
 obtain⟨_,_,rfl,_,_,_,h⟩:=h;have M:=Lh h;have N:=Lh J;unfold An at L;go_in;go_wp2;go_loopw[8] (λc wr=>∃a:Nat,a<=l.length/\c=ι a/\ϐ w w wr/\Hid (∀f x,f<a->l[f]?=I x->p x=ϝ)) (λc _=>l.length-(intOf c).toNat);exact⟨0,Nat.zero_le _,rfl,Below.refl _ _,λc x a=>by omega⟩;obtain⟨b,_,rfl,d,o⟩:=hrel;by_cases G:b<l.length
 .obtain ⟨x,g⟩:=Ϡ l b G
  rcases M.out with r|⟨_,_,rfl,A,e⟩
  .subst r;simp at g
  have e:=Bg.below (d.mono E) (λ_ _ _ a=>Aj.below (d.mono E) a) A (e b x g);let⟨_,a,c⟩:=e;rw[Nat.mul_one]at a;have y:=Lh c;have q:=Lh g;go_wp2_with fail;refine(N.out x wr _ d y.out).mono ?_;rintro e a⟨rfl,c⟩;have s:ϐ w w a:=d.trans (c.mono d.size);cases k:p x with
  |true=>have u:=Lh (DO q.out k o);go_wp2;go_ret;exact⟨by rw[u.out];rfl,s⟩
  |false=>
   have F:Hid (∀a x,a<b+1->l[a]?=I x->p x=ϝ):=by
    intro j C a i;by_cases m:j=b
    .subst m;have:=q.out.symm.trans i;simp at this;rw[<-this];exact k
    exact o j C ω i
   go_wp2;go_roundw;exact⟨b+1,ω,by go_num,s,F⟩;simp[intOf];omega
 have z:=Lh (CR (p:=p) (l:=l) (λb c e a=>o b c ω a));go_wp2;go_ret;exact⟨by rw[z.out];rfl,d⟩
def Fe(b:Nat)(d:Array ϒ)(p:List Int->Bool)(l:List (List Int))(v:ϒ)(B:Nat)(w:Ϣ)(n:An b)(o:B<=w)(m:AE B w 1 (Bg 1 Aj B) v l)
  (k:∀(x:List Int)(a:Ϣ)(c:ϒ),ϐ w w a->Q8 B a c x->ϙ prog b (#[c]++d) a (λc e=>c=.returned (.bool (p x))/\ϐ a a e)) :
  ϙ prog 98 #[v,.func (.func b) #[] d] w λa w'=>a=.returned (.bool (l.any p))/\ϐ w w w':=by
 let⟨h,i,g,j⟩:=Λ4 m k n (Ci p l);go_in;go_wp2_with fail;refine(LJ b d p l v B w g.out o h.out i.out).mono ?_;rintro a w'⟨rfl,f⟩;go_wp2;go_ret;exact⟨by rw[<-j.out];rfl,f⟩
