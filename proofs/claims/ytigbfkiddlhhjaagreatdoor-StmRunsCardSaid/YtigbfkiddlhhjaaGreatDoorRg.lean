import Derived.Test.YtigbfkiddlhhjaaGreatDoorSqn
import Derived.OwnWalk
set_option maxHeartbeats 4000000
set_option maxRecDepth 100000
set_option linter.all false
open Go renaming World→Ϣ,Value→ϒ,Calls→ϙ,bodyPost_ret→ϖ,heap_setCell_same→ϡ
open Go.RowKit renaming Below→ϐ
open Option renaming some→O
open Bool renaming false→ϝ,true→ϑ
open And renaming intro→ϟ
open List renaming replicate→ϱ,mem_cons→ϰ
open Go.Value renaming slice→X
open Go.Obj renaming cells→K
namespace Go.Proofs.YtigbfkiddlhhjaaGreatDoor
open Go.RowKit Proofs.Tryz
open Go.RowKit renaming ω→D,π→H,ι→U,ν→Z
variable{T:TypeId}{c:AQ}{f:BK}{x:Cd}{hs hl:List Int}{ds l dl:List Bool}{q k i n j g base cap gd e1:Nat}{v:Int}{b:Bool}{V V' w w' W V2 w8:Ϣ}{F Fh Fd F':List Nat}{ops:Array Oper}{rest:List Oper}{o:Oper}{a:Act}{Q:Exit->Act->Ϣ->Prop}{hv dv fv lv sv:ϒ}{m:AV}{fs:List AY}
def KF(b:Bool)(w:Ϣ):ϙ prog 161 #[.bool b] w λa w'=>a=.returned (U (D0 b))/\w'=w:=by
 cases b;all_goals
  go_in;go_wp2;go_ret;exact⟨rfl,rfl⟩
def XO(op:Int):Int:=if BB op then 2 else Bk op
def UT(op:Int):Int:=if BB op then 1 else DI op
def DZ(k:Int)(d:x.op=k)(a:k≠9)(a:k≠10):AM c f x=XO k/\AK c f x=UT k:=by
 have b:¬x.op=9:=D;have a:¬x.op=10:=D;unfold AM AK XO UT;rw[if_neg b,if_neg a,if_neg b,if_neg a,d];exact⟨rfl,rfl⟩
def Vw(d:BB x.op):AM c f x=2/\AK c f x=1:=by
 let⟨a,b⟩:=DZ (c:=c) (f:=f) (x:=x) x.op rfl (by unfold BB at d;omega) (by unfold BB at d;omega);unfold XO at a;unfold UT at b;rw[if_pos d]at a b;exact⟨a,b⟩
def QZ(c:AQ)(d:ϒ)(f:BK)(fv:ϒ)(x:Cd)(b:ϒ)(B:Nat)(w:Ϣ)(j:BF B w d c)(k:EI B w fv f)(l:IV B w b x)(a:x.op=10) :
  ϙ prog 134 #[d,fv,b] w λb w'=>b=.returned (.tuple #[U (AM c f x),U (AK c f x)])/\ϐ w w w':=by
 obtain⟨fv,_,rfl,g,i,_⟩:=j;obtain⟨_,rfl,h,_,_,_⟩:=k;obtain⟨rfl,m,n⟩:=l;obtain⟨_,_,rfl,-⟩:=g;obtain⟨_,_,rfl,-⟩:=i;obtain⟨_,_,rfl,-⟩:=h;have e:=@Lh (AM c f x=D0 f.result/\AK c f x=0) (by
  constructor
  .unfold AM;rw[if_neg D,if_pos a]
  unfold AK;rw[if_neg D,if_pos a])
 let⟨_,_⟩:=x;dsimp only at a m n;subst a;go_in;go_wp2_with fail;refine(KF _ _).mono ?_;rintro o w'⟨rfl,rfl⟩;go_wp2_with fail;go_ret2;exact⟨by rw[e.o.1,e.o.2];rfl,((AA _ _).th (AA _ _)).th (AA _ _)⟩
def QY(c:AQ)(e:ϒ)(f:BK)(fv:ϒ)(x:Cd)(d:ϒ)(B:Nat)(w:Ϣ)(k:BF B w e c)(l:EI B w fv f)(m:IV B w d x)(p:1<=x.op)(p:x.op<=31)(n:x.op≠9)(o:x.op≠10) :
  ϙ prog 134 #[e,fv,d] w λd w'=>d=.returned (.tuple #[U (AM c f x),U (AK c f x)])/\ϐ w w w':=by
 obtain⟨fv,_,rfl,g,j,_⟩:=k;obtain⟨_,rfl,i,_,_,_⟩:=l;obtain⟨rfl,_,_⟩:=m;obtain⟨_,_,rfl,-⟩:=g;obtain⟨_,_,rfl,-⟩:=j;obtain⟨_,_,rfl,-⟩:=i;have:=ξ x.op 9 n;have:=ξ x.op 10 o;unfold in64 at *;have e:∀d q:Int,AM c f x=d/\AK c f x=q->Ending.returned (Value.tuple #[U d,U q])=.returned (.tuple #[U (AM c f x),U (AK c f x)]):=λd q ⟨a,b⟩=>by rw[a,b]
 have h:=Lh e;go_in;go_wp2_with fail;all_goals
  go_ret2;refine⟨h.o _ _ ?_,((AA _ _).th (AA _ _)).th (AA _ _)⟩;simp only[beq_iff_eq,beq_eq_false_iff_ne,ne_eq]at *;first
   |exact DZ 1 (by assumption) D D
   |exact DZ 2 (by assumption) D D
   |exact DZ 4 (by assumption) D D
   |exact DZ 8 (by assumption) D D
   |exact DZ 3 (by assumption) D D
   |exact DZ 5 (by assumption) D D
   |exact DZ 12 (by assumption) D D
   |exact DZ 30 (by assumption) D D
   |exact DZ 6 (by assumption) D D
   |exact DZ 14 (by assumption) D D
   |exact DZ 26 (by assumption) D D
   |exact DZ 29 (by assumption) D D
   |exact DZ 7 (by assumption) D D
   |exact DZ 11 (by assumption) D D
   |exact DZ 13 (by assumption) D D
   |exact DZ 31 (by assumption) D D
   |exact Vw (by unfold BB;omega)
def O7(c:AQ)(i:ϒ)(f:BK)(fv:ϒ)(x:Cd)(h:ϒ)(B:Nat)(w:Ϣ)(S:B<=w)(y:BF B w i c)(A:EI B w fv f)(C:IV B w h x)(j:x.op=9)(G:0<=x.a)(R:x.a<c.q0.length) :
  ϙ prog 134 #[i,fv,h] w λh w'=>h=.returned (.tuple #[U (AM c f x),U (AK c f x)])/\ϐ w w w':=by
 obtain⟨fv,_,rfl,m,q,_⟩:=y;obtain⟨_,rfl,p,_,_,_⟩:=A;obtain⟨rfl,P,Q⟩:=C;obtain⟨t,u,rfl,-⟩:=m;obtain⟨_,v,rfl,_,-,-,F⟩:=q;obtain⟨J,L,rfl,-⟩:=p;let⟨n,k⟩:=Int.eq_ofNat_of_zero_le G;have h:n<c.q0.length:=D;let⟨g,d⟩:=Ϡ c.q0 n h;have E:=@Lh (AM c f x=g.params/\AK c f x=D0 g.result) (by
  have:Dt c x.a=O g:=by unfold Dt;rw[k];exact d
  constructor
  .unfold AM;rw[if_pos j,this]
  unfold AK;rw[if_pos j,this])
 rcases F with l|⟨b,o,rfl,N,M⟩
 .rw [l]at d;simp at d
 let⟨W,a⟩:=ε ((((w.alloc (K #[X t c.H u,U c.G,X (O (H b o)) c.q0 v] 25)).alloc (K #[.string f.name,U f.params,U f.L,.bool f.result,X J f.q9 L] 70)).alloc (K #[U x.op,U x.a] 96)));have s:=@Lh (ϐ w w W) (by rw[a];exact((AA _ _).th (AA _ _)).th (AA _ _));have z:AR W w [X t c.H u,U c.G,X (O (H b o)) c.q0 v]:=by rw[a];exact(AF.alloc _).alloc _
 have e:AR W (w+1+1) [U x.op,U x.a]:=by rw[a];exact J3
 let⟨_,_⟩:=x;dsimp only at j P Q G R k e a ⊢;subst j k;have:=z 2 _ rfl;have:=e 1 _ rfl;let⟨_,_,_,_,_⟩:=(M n g d).below (s.o.mono S) N;have r:=Lh a;have:=In n;have:(n:Int)<(c.q0:Int):=D;clear a;go_in;go_wp2_with fail;rw[<-r.o];go_quiet((go_at_call 161;exact Calls.quiet_of_same (KF _ _)));go_wp2_with fail;go_ret2;exact⟨by rw[E.o.1,E.o.2];rfl,AG s.o _⟩
def Ld(c:AQ)(b:ϒ)(f:BK)(fv:ϒ)(x:Cd)(a:ϒ)(B:Nat)(w:Ϣ)(e:B<=w)(i:BF B w b c)(h:EI B w fv f)(g:IV B w a x)(k:Pg c f)(j:x∈f.q9) :
  ϙ prog 134 #[b,fv,a] w λd w'=>d=.returned (.tuple #[U (AM c f x),U (AK c f x)])/\ϐ w w w':=by
 by_cases d:x.op=9
 .have:=k.call x j d
  exact O7 c b f fv x a B w e i h g d this.1 this.2
 by_cases e:x.op=10
 .exact QZ c b f fv x a B w i h g e
 have:=k.op x j;exact QY c b f fv x a B w i h g this.1 this.2 d e
def Xo(x:Cd)(i:Nat)(w:Ϣ)(e:Ending)(w':Ϣ):Prop:=
 ∃(a:Option Addr)(l:List Nat)(cap:Nat),e=.returned (X a l cap)/\l.length<=cap/\cap<=2/\(l=[]\/∃g,a=O (H g 0)/\(w:Nat)<=g/\g<(w':Nat)/\∀(j:Nat) y,l[j]?=O y->w'.cell? (H g j)=O (U (y:Int)))/\l=Am x i/\ϐ w w w'
def So(x:Cd)(i:Nat)(w:Ϣ)(f:i<=1048576)(g:x.op=11\/x.op=12->0<=x.a) :
  ϙ prog 135 #[.agg #[U x.op,U x.a],U (i:Int)] w (Xo x i w):=by
 let⟨W,a⟩:=ε (w.alloc (K #[U x.op,U x.a] 96));have m:=Lh (bl1 a);have f:=Xbq a;let⟨h,l⟩:=Γ2 f;have c:=Lh a;let⟨b,_⟩:=x;dsimp only at h l g c ⊢;clear a;by_cases e:b=10
 .subst e
  go_in;go_wp2;go_ret;rw[<-c.o];exact⟨none,[],0,rfl,ψ,D,.inl rfl,rfl,m.o⟩
 have:=ξ b 10 e;by_cases d:b=11
 .subst d
  obtain⟨n,rfl⟩:=Int.eq_ofNat_of_zero_le (g (.inl rfl));go_in;go_wp2;go_ret;refine⟨_,[n],1,rfl,ψ,D,.inr ⟨(w:Nat)+1,rfl,D,ψ,λj c h=>?_⟩,by simp[Am],(AA _ _).th (AA _ _)⟩;exact GF j _ (by
   have:([U (n:Int)]:List ϒ)[j]?=O (U (c:Int)):=by
    have f:(([n]:List Nat).map (λ(k:Nat)=>Value.int .i64 (k:Int)))[j]?=O (U (c:Int)):=by rw[List.getElem?_map,h];rfl
    exact f
   exact this)
 have:=ξ b 11 d;by_cases a:b=12
 .subst a
  obtain⟨n,rfl⟩:=Int.eq_ofNat_of_zero_le (g (.inr rfl));go_in;go_wp2;go_ret;refine⟨_,[i+1,n],2,rfl,ψ,D,.inr ⟨(w:Nat)+1,rfl,D,ψ,λj c g=>?_⟩,by simp[Am],(AA _ _).th (AA _ _)⟩;exact GF j _ (by
   have:([U ((i:Int)+1),U (n:Int)]:List ϒ)[j]?=O (U (c:Int)):=by
    have f:(([i+1,n]:List Nat).map (λ(k:Nat)=>Value.int .i64 (k:Int)))[j]?=O (U (c:Int)):=by rw[List.getElem?_map,g];rfl
    exact f
   exact this)
 have:=ξ b 12 a;go_in;go_wp2;go_ret;refine⟨_,[i+1],1,rfl,ψ,D,.inr ⟨(w:Nat)+1,rfl,D,ψ,λj b f=>?_⟩,by simp[Am,e,d,a],(AA _ _).th (AA _ _)⟩;exact GF j _ (by
  have:([U ((i:Int)+1)]:List ϒ)[j]?=O (U (b:Int)):=by
   have c:(([i+1]:List Nat).map (λ(k:Nat)=>Value.int .i64 (k:Int)))[j]?=O (U (b:Int)):=by rw[List.getElem?_map,f];rfl
   exact c
  exact this)
def Tb(hs:List Int)(ds:List Bool)(q:Nat):Bool:=decide (0<=hs.getD q (-1)) && !(ds.getD q ϑ)
def N6(a:hs[q]?=O v)(d:ds[q]?=O b):Tb hs ds q=(decide (0<=v) && !b):=by
 unfold Tb;rw[List.getD_eq_getElem?_getD,List.getD_eq_getElem?_getD,a,d];rfl
def Tk(a:ds.length<=q):Tb hs ds q=ϝ:=by
 unfold Tb;rw[List.getD_eq_getElem?_getD (l:=ds),List.getElem?_eq_none a];simp
structure It(c:AQ)(f:BK)(hs:List Int)(ds:List Bool)(skip:Nat->Prop):Prop where
 lab:KL c f hs (Tb hs ds) skip
 len:ds.length=f.q9.length
 dn:∀(q:Nat),ds[q]?=O ϑ->∃v,hs[q]?=O v/\0<=v
def Qm(ds:List Bool):Nat:=ds.countP (λb=>!b)
def U6(b:ds[k]?=O ϝ):Qm (ds.set k ϑ)+1=Qm ds:=by
 unfold Qm;induction ds generalizing k with
 |nil=>simp at b
 |cons a l c=>
  cases k with
  |zero=>simp at b;subst b;simp
  |succ k=>simp at b;rw[List.set_cons_succ,List.countP_cons,List.countP_cons];have:=c b;omega
def It.q8(a:Pg c f):It c f ((ϱ f.q9.length (-1:Int)).set 0 0) (ϱ f.q9.length ϝ) (λ_=>False) where
 lab:=KL.q8 a _ (λi=>by
  have:=a.one;by_cases d:i<f.q9.length
  .have e:(ϱ f.q9.length ϝ)[i]?=O ϝ:=by simp[d]
   by_cases b:i=0
   .subst b
    have a:((ϱ f.q9.length (-1:Int)).set 0 0)[0]?=O 0:=List.getElem?_set_self (by rw[List.length_replicate];omega);rw[N6 a e];rfl
   have:((ϱ f.q9.length (-1:Int)).set 0 0)[i]?=O (-1):=by rw[List.getElem?_set_ne D];simp[d]
   rw[N6 this e];have:decide (i=0)=ϝ:=by simpa using b
   rw[this];rfl
  rw[Tk φ];have:decide (i=0)=ϝ:=by simp;omega
  rw[this])
 len:=by simp
 dn:=λq a=>by rw[List.getElem?_replicate]at a;split at a<;>simp at a
def It.take(e:It c f hs ds (λ_=>False))(hv:hs[i]?=O v)(k:0<=v)(g:ds[i]?=O ϝ):It c f hs (ds.set i ϑ) (λj=>j=i) where
 lab:=e.lab.take (λj=>by
  by_cases b:j=i
  .subst b
   have hl:=(Ll g);rw[N6 hv (List.getElem?_set_self hl)];simp
  have h:(ds.set i ϑ).getD j ϑ=ds.getD j ϑ:=by rw[List.getD_eq_getElem?_getD,List.getD_eq_getElem?_getD,List.getElem?_set_ne (λq=>b q.symm)]
  have g:=θ (j=i) b;unfold Tb;rw[h,g];simp)
 len:=by rw[List.length_set];exact e.len
 dn:=λq d=>by
  by_cases a:q=i
  .subst a;exact⟨v,hv,k⟩
  rw[List.getElem?_set_ne (λg=>a g.symm)]at d;exact e.dn q d
structure RB(c:AQ)(f:BK)(hs:List Int)(ds:List Bool)(i:Nat)(v n:Int)(l:List Nat)(j:Nat):Prop where
 rl:It c f hs ds (λq=>q=i)
 at_:hs[i]?=O v
 so:∀(t k:Nat),t<j->l[t]?=O k->hs[k]?=O n
def RB.same{n:Int}{l:List Nat}(e:RB c f hs ds i v n l j)(h:l[j]?=O k)(d:hs[k]?=O n):RB c f (hs.set k n) ds i v n l (j+1):=by
 have a:hs.set k n=hs:=List.ext_getElem? (λq=>by
  by_cases a:k=q
  .subst a;rw[List.getElem?_set_self (Ll d),d]
  rw[List.getElem?_set_ne a])
 rw[a];refine⟨e.rl,e.at_,λg q m b=>?_⟩;by_cases a:g=j
 .subst a;rw[h]at b;cases b;exact d
 exact e.so g q D b
def RB.label(y:Pg c f)(z:f.q9[i]?=O x)(A:0<=v)(E:AM c f x<=v)
  (d:RB c f hs ds i v (v-AM c f x+AK c f x) (Am x i) j) (B:(Am x i)[j]?=O k) (n:hs[k]?=O (-1)) :
  RB c f (hs.set k (v-AM c f x+AK c f x)) ds i v (v-AM c f x+AK c f x) (Am x i) (j+1):=by
 have:=y.pushes x (Lm z);have s:=(Ll n);have t:∀(q:Nat) a,hs[q]?=O a->0<=a->k≠q:=λq a e p u=>by subst u;rw[n]at e;cases e;omega
 have r:∀(q:Nat) a,hs[q]?=O a->0<=a->(hs.set k (v-AM c f x+AK c f x))[q]?=O a:=λq a e p=>by rw[List.getElem?_set,if_neg (t q a e p)];exact e
 have w:ds[k]?=O ϝ:=by
  have hl:k<ds.length:=by rw[d.rl.len,<- d.rl.lab.len];exact s
  cases o:ds[k]with
  |false=>rw[Lg hl,o]
  |true=>let⟨a,h,_⟩:=d.rl.dn k (by rw[Lg hl,o]);rw[n]at h;cases h;omega
 have C:∀q,Tb (hs.set k (v-AM c f x+AK c f x)) ds q=(Tb hs ds q||decide (q=k)):=λq=>by
  by_cases g:q=k
  .subst g
   rw[N6 (List.getElem?_set_self s) w];have:decide (0<=v-AM c f x+AK c f x)=ϑ:=by simp;omega
   rw[this];simp
  have h:(hs.set k (v-AM c f x+AK c f x)).getD q (-1)=hs.getD q (-1):=by rw[List.getD_eq_getElem?_getD,List.getD_eq_getElem?_getD,List.getElem?_set_ne (λe=>g e.symm)]
  have e:=θ (q=k) g;unfold Tb;rw[h,e];simp
 refine⟨⟨d.rl.lab.label y d.at_ A z E (Lm B) n C,d.rl.len,λq b=>?_⟩,r _ _ d.at_ A,λm q e b=>?_⟩
 .obtain ⟨a,h,e⟩:=d.rl.dn q b
  exact⟨a,r q a h e,e⟩
 by_cases l:m=j
 .subst l;rw[B]at b;cases b
  exact List.getElem?_set_self s
 exact r _ _ (d.so m q D b) D
def RB.done(l:f.q9[i]?=O x)(h:AM c f x<=v)(g:x.op=10->v<=AM c f x)
  (a:RB c f hs ds i v (v-AM c f x+AK c f x) (Am x i) j) (m:(Am x i).length<=j):It c f hs ds (λ_=>False):=
 ⟨a.rl.lab.put a.at_ ⟨x,l,h,g,λk d=>by
  obtain⟨b,e,rfl⟩:=List.getElem_of_mem d;exact a.so b _ D (Lg e)⟩,a.rl.len,a.rl.dn⟩
def RB.clash{u:Int}(l:f.q9[i]?=O x)(h:0<=v)
  (a:RB c f hs ds i v (v-AM c f x+AK c f x) (Am x i) j) (g:(Am x i)[j]?=O k) (e:hs[k]?=O u) (d:0<=u) (b:u≠v-AM c f x+AK c f x):¬CQ c f:=
 λhs=>b (hs.2 k _ _ (a.rl.lab.reach k u e d) ((a.rl.lab.reach i v a.at_ h).next l (Lm g)))
def It.fin(a:Pg c f)(b:It c f hs ds (λ_=>False))(d:∀j,j<f.q9.length->Tb hs ds j=ϝ):CQ c f/\DB c f hs:=
 b.lab.fin a (λi=>by
  by_cases a:i<f.q9.length
  .exact d i a
  exact Tk (by rw[b.len];omega))
def Gw(V:Ϣ)(g:Nat)(hs:List Int):Prop:=∃cur,V.heap[g]?=O (K cur 3 (0,0))/\cur.toList.take hs.length=hs.map (Value.int .i64)
def Iu(V:Ϣ)(g:Nat)(ds:List Bool):Prop:=∃cur,V.heap[g]?=O (K cur 4 (0,0))/\cur.toList.take ds.length=ds.map Value.bool
def Qa{b:Array ϒ}{l:List ϒ}{u:ϒ}(c:b.toList.take n=l)(a:l[k]?=O u):b[k]?=O u:=by
 have hl:=(Ll a);have b:k<n:=by rw[<-c,List.length_take]at hl;omega
 rw[<-c,List.getElem?_take]at a;rw[if_pos b]at a;simpa using a
def Gw.cell(c:Gw V g hs)(d:hs[k]?=O v):V.cell? (H g k)=O (U v):=by
 let⟨_,a,b⟩:=c;rw[cell_of_row _ _ _ _ _ _ a];exact Qa b (by rw[List.getElem?_map,d];rfl)
def Iu.cell(d:Iu V g ds)(e:ds[k]?=O b):V.cell? (H g k)=O (.bool b):=by
 let⟨_,a,c⟩:=d;rw[cell_of_row _ _ _ _ _ _ a];exact Qa c (by rw[List.getElem?_map,e];rfl)
def Gw.kp(d:Gw V g hs)(e:V'.heap[g]?=V.heap[g]?):Gw V' g hs:=by
 let⟨a,b,c⟩:=d;exact⟨a,by rw[e];exact b,c⟩
def Iu.kp(d:Iu V g ds)(e:V'.heap[g]?=V.heap[g]?):Iu V' g ds:=by
 let⟨a,b,c⟩:=d;exact⟨a,by rw[e];exact b,c⟩
def Gw.lt(b:Gw V g hs):g<V:=by let⟨_,a,_⟩:=b;exact(La a)
def Iu.lt(b:Iu V g ds):g<V:=by let⟨_,a,_⟩:=b;exact(La a)
def Gw.frozen(b:Gw V g hs)(k:Nat):V.frozen? (H g k)=ϝ:=by let⟨_,a,_⟩:=b;exact Fz a
def Iu.frozen(b:Iu V g ds)(k:Nat):V.frozen? (H g k)=ϝ:=by let⟨_,a,_⟩:=b;exact Fz a
def Gw.put(b:Gw V g hs)(k:Nat)(v:Int):Gw (V.setCell (H g k) (U v)) g (hs.set k v):=by
 let⟨_,a,c⟩:=b;refine⟨_,ϡ _ _ _ _ _ _ a,?_⟩;rw[List.length_set,Array.toList_setIfInBounds,List.take_set,c,List.map_set]
def Iu.put(c:Iu V g ds)(k:Nat)(b:Bool):Iu (V.setCell (H g k) (.bool b)) g (ds.set k b):=by
 let⟨_,a,d⟩:=c;refine⟨_,ϡ _ _ _ _ _ _ a,?_⟩;rw[List.length_set,Array.toList_setIfInBounds,List.take_set,d,List.map_set]
def WL{v:ϒ}(h:w.ownsRow base 3 1 v n (hs.map (Value.int .i64)))(i:hs.length=n)(j:1<=n):∃g cap,v=X (O (H g 0)) n cap/\base<=g/\n<=cap/\cap<=9223372036854775807/\Gw w g hs:=by
 rcases h.2 with ⟨_,_⟩|⟨g,cap,f,rfl,c,e,b,d,_,a⟩
 .omega
 rw[Nat.mul_one]at a;exact⟨g,cap,rfl,c,b,by unfold maxLen at d;omega,f,e,by rw[i];exact a⟩
def WJ{v:ϒ}(h:w.ownsRow base 4 1 v n (ds.map Value.bool))(i:ds.length=n)(j:1<=n):∃g cap,v=X (O (H g 0)) n cap/\base<=g/\n<=cap/\cap<=9223372036854775807/\Iu w g ds:=by
 rcases h.2 with ⟨_,_⟩|⟨g,cap,f,rfl,c,e,b,d,_,a⟩
 .omega
 rw[Nat.mul_one]at a;exact⟨g,cap,rfl,c,b,by unfold maxLen at d;omega,f,e,by rw[i];exact a⟩
def Gw.q4{B:Nat}(e:Gw V g hs)(hl:hs.length<=140737488355328)(c:hs.length<=cap)(b:cap<=9223372036854775807)(a:g<B)(d:∀v∈hs,in64 v):AE B V 1 Aj (X (O (H g 0)) hs cap) hs:=
 ⟨_,_,rfl,hl,c,b,.inr ⟨g,0,rfl,a,λi x a=>⟨by rw[Nat.mul_one,Nat.zero_add];exact e.cell a,d x (Lm a)⟩⟩⟩
def SN:(prog.info? 4).map (λi=>(i.zero,i.size,i.bytes))=O (O (.bool ϝ),1,1):=by kernel_rfl
def Ku(w:Ϣ)(v:ϒ)(l:List Bool)(F:List Nat):Prop:=w.ownsRow 0 4 1 v l.length (l.map Value.bool)/\F=v.ownBlock.toList
def Ku.kp{v:ϒ}(h:Ku w v l F)(k:∀b∈F,w'.heap[b]?=w.heap[b]?):Ku w' v l F:=by
 let⟨a,c⟩:=h;subst c;refine⟨⟨a.1,?_⟩,rfl⟩;rcases a.2 with d|⟨g,cap,e,rfl,f,i,j⟩
 .exact .inl d
 exact .inr ⟨g,cap,e,rfl,f,by rw[k g (by simp[Value.ownBlock])];exact i,j⟩
def Ku.lt{v:ϒ}(e:Ku w v l F):∀b∈F,b<(w:Nat):=λb a=>by
 let⟨d,c⟩:=e;subst c;simp at a;exact(d.lt b a).2
def Sc(w:Ϣ)(v:ϒ)(l:List Bool)(F:List Nat)(q:Ku w v l F)(d:Addr)(n:Bool)(t:w.cell? d=O (.bool n))(hl:l.length<2000000)(e:TypeId) :
  ∃c w' F',(Builtin.append_ #[185,185] e #[v,X (O d) 1 1]).run prog w=.ok c w'/\Ku w' c (l++[n]) F'/\AW F F' w w'/\(∃g,F'=[g]/\(F=[g]\/(w:Nat)<=g))/\(∃h m,c=X h (l.length+1) m):=by
 let⟨i,p,c,h,m⟩:=info_parts SN;let⟨f,w',g,r,o,s,k,a⟩:=GT (P:=prog) w 185 e 4 i (.bool ϝ) 1 1 underlying185 p c h m rfl δ v l.length (l.map Value.bool) q.1 d 1 1 [.bool n] rfl
  (λj c b=>by
   cases j with
   |zero=>simp at b;subst b;exact t
   |succ j=>simp at b) (by simp[Value.oneCell']) (by unfold maxLen;omega) D D
 have hF:=q.2;refine⟨f,w',f.ownBlock.toList,r,⟨by simpa using o,rfl⟩,by rw[hF];exact Ga s k a,⟨g,by rw[k];rfl,?_⟩,?_⟩
 .rcases a with a|a
  .left;rw[hF,a];rfl
  right;exact a
 rcases o.2 with ⟨rfl,_⟩|⟨_,cap,_,rfl,_⟩
 .omega
 exact⟨_,_,rfl⟩
def Nh(t:o.guard=none)(s x:Operand)(y:o.op=.call {callee:=.builtin .append,args:=#[s,x],argTypes:=#[185,185]})
  (v:ϒ) (l:List Bool) (F:List Nat) (hs:a.eval s=v) (q:Ku w v l F) (b:Addr) (n:Bool) (u:a.eval x=X (O b) 1 1) (p:w.cell? b=O (.bool n)) (hl:l.length<2000000)
  (r:∀c d w' F',Ku w' (X c (l.length+1) d) (l++[n]) F'->AW F F' w w'->(∃g,F'=[g]/\(F=[g]\/(w:Nat)<=g))->wpList prog ops Q rest (a.put o.dst (X c (l.length+1) d)) w'):wpList prog ops Q (o::rest) a w:=by
 refine wpList_plain t λc m=>?_;obtain⟨_,w',F',e,i,j,k,⟨f,h,rfl⟩⟩:=Sc w v l F q b n p hl o.type;unfold Oper.wp execOp;simp only[y,resolve,invoke,builtin,Sem.run_bind,Sem.run_pure,Result.andThen_ok,List.map_toArray,List.map_cons,List.map_nil,hs,u,e];exact m _ _ (r f h w' F' i j k)
def Sd(w:Ϣ)(v:ϒ)(l:List Int)(F:List Nat)(h:Be w v l F)(e:Addr)(n:Int)(y:in64 n)(u:w.cell? e=O (U n))(hl:l.length<2000000)(f:TypeId) :
  ∃d w' F',(Builtin.append_ #[22,22] f #[v,X (O e) 1 1]).run prog w=.ok d w'/\Be w' d (l++[n]) F'/\AW F F' w w'/\(∃g,F'=[g]/\(F=[g]\/(w:Nat)<=g))/\(∃m o,d=X m (l.length+1) o):=by
 let⟨i,r,d,m,o⟩:=info_parts Cx;let⟨k,w',g,s,q,t,p,b⟩:=GT (P:=prog) w 22 f 3 i (U 0) 1 8 underlying22 r d m o rfl δ v l.length (l.map (Value.int .i64)) h.1 e 1 1 [U n] rfl
  (λj d c=>by
   cases j with
   |zero=>simp at c;subst c;exact u
   |succ j=>simp at c) (by simp[Value.oneCell']) (by unfold maxLen;omega) D D
 have hF:=h.2.1;refine⟨k,w',k.ownBlock.toList,s,⟨by simpa using q,rfl,λx a=>by simp at a;rcases a with a|rfl;exact h.2.2 x a;exact y⟩,by rw[hF];exact Ga t p b,⟨g,by rw[p];rfl,?_⟩,?_⟩
 .rcases b with b|b
  .left;rw[hF,b];rfl
  right;exact b
 rcases q.2 with ⟨rfl,_⟩|⟨_,cap,_,rfl,_⟩
 .omega
 exact⟨_,_,rfl⟩
def Ni(u:o.guard=none)(s x:Operand)(z:o.op=.call {callee:=.builtin .append,args:=#[s,x],argTypes:=#[22,22]})
  (v:ϒ) (l:List Int) (F:List Nat) (hs:a.eval s=v) (r:Be w v l F) (b:Addr) (n:Int) (q:in64 n) (y:a.eval x=X (O b) 1 1) (p:w.cell? b=O (U n)) (hl:l.length<2000000)
  (t:∀c d w' F',Be w' (X c (l.length+1) d) (l++[n]) F'->AW F F' w w'->(∃g,F'=[g]/\(F=[g]\/(w:Nat)<=g))->wpList prog ops Q rest (a.put o.dst (X c (l.length+1) d)) w'):wpList prog ops Q (o::rest) a w:=by
 refine wpList_plain u λc m=>?_;obtain⟨_,w',F',e,i,j,k,⟨f,h,rfl⟩⟩:=Sd w v l F r b n q p hl o.type;unfold Oper.wp execOp;simp only[z,resolve,invoke,builtin,Sem.run_bind,Sem.run_pure,Result.andThen_ok,List.map_toArray,List.map_cons,List.map_nil,hs,y,e];exact m _ _ (t f h w' F' i j k)
structure JY(W V:Ϣ)(hl:List Int)(dl:List Bool)(hv dv:ϒ)(Fh Fd:List Nat):Prop where
 h:Be V hv hl Fh
 d:Ku V dv dl Fd
 dis:∀b∈Fh,b∉Fd
 geh:∀b∈Fh,(W:Nat)<=b
 ged:∀b∈Fd,(W:Nat)<=b
 below:ϐ W W V
def JY.q8(W:Ϣ):JY W W [] [] Z Z [] []:=
 ⟨⟨World.ownsRow_nil _ _ _ _,rfl,ψ⟩,⟨World.ownsRow_nil _ _ _ _,rfl⟩,ψ,ψ,ψ,Below.refl _ _⟩
def JY.alloc(a:JY W V hl dl hv dv Fh Fd)(o:Obj):JY W (V.alloc o) hl dl hv dv Fh Fd:=
 ⟨a.h.kp (λb c=>Ha _ _ _ (a.h.lt b c)),a.d.kp (λb c=>Ha _ _ _ (a.d.lt b c)),a.dis,a.geh,a.ged,a.below.th (AA _ _)⟩
def JY.pushI{i:List Int}{h:ϒ}(a:JY W V hl dl hv dv Fh Fd)(j:Be V2 h i F')(d:AW Fh F' V V2)(hF:∃g,F'=[g]/\(Fh=[g]\/(V:Nat)<=g)):JY W V2 i dl h dv F' Fd:=by
 have i:=d.ge a.geh a.below.size;refine⟨j,a.d.kp (λb c=>d.block b (a.d.lt b c) (λh=>a.dis b h c)),?_,i,a.ged,a.below.trans (d.below a.geh a.below.size)⟩;intro b c f;obtain⟨g,rfl,e⟩:=hF;obtain rfl:b=g:=by simpa using c
 rcases e with rfl|e
 .exact a.dis b ψ f
 have:=a.d.lt b f;omega
def JY.pushB{h:List Bool}{f:ϒ}(a:JY W V hl dl hv dv Fh Fd)(j:Ku V2 f h F')(d:AW Fd F' V V2)(hF:∃g,F'=[g]/\(Fd=[g]\/(V:Nat)<=g)):JY W V2 hl h hv f Fh F':=by
 have h:=d.ge a.ged a.below.size;refine⟨a.h.kp (λb c=>d.block b (a.h.lt b c) (λf=>a.dis b c f)),j,?_,a.geh,h,a.below.trans (d.below a.ged a.below.size)⟩;intro b c i;obtain⟨g,rfl,e⟩:=hF;obtain rfl:b=g:=by simpa using i
 rcases e with rfl|e
 .exact a.dis b c ψ
 have:=a.h.lt b c;omega
def U5(k:Nat):Qm (ϱ k ϝ)<=k:=by
 have:=List.countP_le_length (p:=λb:Bool=>!b) (l:=ϱ k ϝ);rw[List.length_replicate]at this;exact this
def O3{α:Type}(k:Nat)(a:α):ϱ k a++[a]=ϱ (k+1) a:=List.replicate_succ'.symm
structure Gt(c:AQ)(f:BK)(W V:Ϣ)(g gd:Nat)(hs:List Int)(ds:List Bool):Prop where
 ri:Gw V g hs
 rb:Iu V gd ds
 ne:g≠gd
 geh:(W:Nat)<=g
 ged:(W:Nat)<=gd
 below:ϐ W W V
def Gt.later(a:Gt c f W V g gd hs ds)(b:ϐ V V V'):Gt c f W V' g gd hs ds:=
 ⟨a.ri.kp (b.block g a.ri.lt),a.rb.kp (b.block gd a.rb.lt),a.ne,a.geh,a.ged,a.below.th b⟩
def Gt.putH(a:Gt c f W V g gd hs ds)(k:Nat)(v:Int):Gt c f W (V.setCell (H g k) (U v)) g gd (hs.set k v) ds:=
 ⟨a.ri.put k v,a.rb.kp (heap_setCell_other _ _ _ _ (λb=>a.ne b.symm)),a.ne,a.geh,a.ged,a.below.setCell a.geh _⟩
def Gt.putD(a:Gt c f W V g gd hs ds)(k:Nat)(b:Bool):Gt c f W (V.setCell (H gd k) (.bool b)) g gd hs (ds.set k b):=
 ⟨a.ri.kp (heap_setCell_other _ _ _ _ a.ne),a.rb.put k b,a.ne,a.geh,a.ged,a.below.setCell a.ged _⟩
def YF(c:AQ)(f:BK)(w:Ϣ)(e:Ending)(w':Ϣ):Prop:=
 (∃(at_ er:Int),e=.returned (.tuple #[Z,U at_,U er])/\er≠0/\¬CQ c f/\ϐ w w w')\/
 (∃(g cap:Nat)(hs:List Int),e=.returned (.tuple #[X (O (H g 0)) hs cap,U 0,U 0])/\(w:Nat)<=g/\hs.length<=cap/\cap<=9223372036854775807/\CQ c f/\DB c f hs/\Gw w' g hs/\ϐ w w w')
def JL(c:AQ)(F:ϒ)(f:BK)(fv:ϒ)(B:Nat)(w:Ϣ)(hU:B<=w)(J:BF B w F c)(Q:EI B w fv f)(e:Pg c f) :
  ϙ prog 95 #[F,fv] w (YF c f w):=by
 have jI:=Lh J;have iU:=Lh Q;obtain⟨_,_,rfl,fC,fI,o⟩:=J;obtain⟨gT,gU,rfl,-⟩:=fC;obtain⟨gO,gP,rfl,-⟩:=fI;obtain⟨_,rfl,fE,-⟩:=Q;obtain⟨iQ,gX,rfl,m,fT,_,h⟩:=fE;have jF:=Lh h;have hH:=Lh e;have gY:=e.one;have F:=e.most;obtain⟨n,d⟩:=ε f.q9.length;rw[<-d]at gY F fT iU ⊢;have gZ:=Lh d;clear h e d o m;obtain⟨W,d⟩:=ε ((w.alloc (K (Bc gT gU gO gP c) 25)).alloc (K #[.string f.name,U f.params,U f.L,.bool f.result,X iQ n gX] 70));obtain⟨fZ,jH,iH,iR⟩:=Λ4 (bl2 d) (Xdu d) (Xek d) d;clear d;go_in;go_wp2_with fail;rw[<-iR.o];go_loopw[7,8,9] (λhv dv i wr=>∃k:Nat,k<=n/\i=U k/\Hid (∃Fh Fd,JY W wr (ϱ k (-1)) (ϱ k ϝ) hv dv Fh Fd)) (λ_ _ i _=>n-(intOf i).toNat);exact⟨0,Nat.zero_le _,rfl,Lh ⟨[],[],JY.q8 W⟩⟩;obtain⟨k,_,rfl,hs⟩:=hrel;obtain⟨Fh,Fd,hF⟩:=hs.o;have d:=Lh hF;have u:=(iH.o.kp hF.below) 4 _ rfl;clear hF hs;by_cases jK:k<n
 .have fF:=Lh (d.o.alloc (K #[U (-1)] 3))
  have hG:=@Lh ((wr.alloc (K #[U (-1)] 3)).cell? (H wr 0)=O (U (-1))) (B6 _ _ _ 0);have gW:(ϱ k (-1:Int)).length<2000000:=by simp;omega
  have hQ:(ϱ k ϝ).length<2000000:=by simp;omega
  have fW:in64 (-1):=by unfold in64;omega
  go_wp2_with(first
   |(at_builtin;refine Ni rfl (.tmp 24) (.tmp 25) rfl _ (ϱ k (-1)) Fh rfl fF.o.h (H wr 0) (-1) fW rfl hG.o gW ?_;intro hX hZ t hN N M L;have fD:=Lh (fF.o.pushI N M L);have Y:=Lh (fD.o.alloc (K #[.bool ϝ] 4));have gI:Hid ((t.alloc (K #[.bool ϝ] 4)).cell? (H t 0)=O (.bool ϝ)):=Lh (B6 _ _ _ 0);clear N M L)
   |(at_builtin;refine Nh rfl (.tmp 27) (.tmp 28) rfl _ (ϱ k ϝ) Fd rfl Y.o.d (H t 0) ϝ rfl gI.o hQ ?_;intro hY iA iB fS cQ C A;have fR:=Lh (Y.o.pushB cQ C A);clear cQ C A))
  go_roundw;exact⟨k+1,D,by go_num,Lh ⟨hN,fS,by have:=fR.o;rw[O3,O3,List.length_replicate,List.length_replicate]at this;exact this⟩⟩;simp[intOf];omega
 obtain rfl:k=n:=D;obtain⟨g,cap,e1,s,iO,iP,e⟩:=WL (n:=k) (by have:=d.o.h.1;rw[List.length_replicate]at this;exact this) (List.length_replicate ..) gY;obtain⟨gd,_,G,r,_,_,m⟩:=WJ (n:=k) (by have:=d.o.d.1;rw[List.length_replicate]at this;exact this) (List.length_replicate ..) gY;have h:g≠gd:=λjD=>d.o.dis g (by rw[d.o.h.2.1,e1];simp[Value.ownBlock]) (by rw[d.o.d.2,G,jD];simp[Value.ownBlock]);have o:Hid (Gt c f W wr g gd (ϱ k (-1)) (ϱ k ϝ)):=Lh ⟨e,m,h,d.o.geh g (by rw[d.o.h.2.1,e1];simp[Value.ownBlock]),d.o.ged gd (by rw[d.o.d.2,G];simp[Value.ownBlock]),d.o.below⟩;subst e1 G;have q:=e.cell (k:=0) (v:=-1) (by rw[List.getElem?_replicate,if_pos D]);have p:=e.frozen 0;clear e m h d s r;go_wp2_with fail;obtain⟨A,d⟩:=ε (wr.setCell (H g 0) (U 0));have t:Hid (Gt c f W A g gd ((ϱ k (-1)).set 0 0) (ϱ k ϝ)/\It c f ((ϱ k (-1)).set 0 0) (ϱ k ϝ) (λ_=>False)):=by rw[d];have:=It.q8 hH.o;rw[<-gZ.o]at this;exact Lh ⟨o.o.putH 0 0,this⟩
 rw[<-d];clear d o q p u;go_loopg[10] (k+1) (λgk _ wr=>Hid (∃hs ds,Gt c f W wr g gd hs ds/\It c f hs ds (λ_=>False)/\Qm ds+1<=gk));exact Lh ⟨_,_,t.o.1,t.o.2,Nat.succ_le_succ (U5 k)⟩;obtain⟨hs,ds,e,d,_⟩:=hrel.o;obtain⟨V,rfl⟩:=ε (wr:Ϣ);have fU:hs.length=k:=by rw[d.lab.len,gZ.o]
 have:ds.length=k:=by rw[d.len,gZ.o]
 have u:=Lh e;have hC:=Lh d;clear hrel e d;go_wp2_with fail;go_loop[10] (λa=>∃t:Nat,t<=k/\a=U t/\Hid (∀j,j<t->Tb hs ds j=ϝ)) (λa=>k-(intOf a).toNat);exact⟨0,Nat.zero_le _,rfl,Lh (λj t=>by omega)⟩;obtain⟨d,_,rfl,q⟩:=hrel;by_cases jB:d<k;rotate_left
 .obtain rfl:d=k:=D
  have R:=Lh (hC.o.fin hH.o (λj t=>q.o j (by rw[gZ.o];exact t)));go_wp2_with fail;go_ret3;have t:=fZ.o.th u.o.below;refine .inr ⟨g,cap,hs,by rw[fU];rfl,Nt fZ.o.size u.o.geh,by rw[fU];exact iO,iP,R.o.1,R.o.2,u.o.ri,t⟩
 obtain⟨v,hv⟩:=Ϡ hs d;obtain⟨b,e⟩:=Ϡ ds d;have fG:=u.o.ri.cell hv;have fB:=u.o.rb.cell e;have fN:=Lh hv;have iN:=Lh e;have o:=N6 hv e;clear hv e;by_cases jJ:v<0
 .have gR:Hid (∀j,j<d+1->Tb hs ds j=ϝ):=Lh (λj t=>by
   by_cases iZ:j=d
   .subst iZ;rw[o];have:decide (0<=v)=ϝ:=by simp;omega
    rw[this];rfl
   exact q.o j D)
  have e1:=η (v<0);clear o;go_wp2;go_round;exact⟨d+1,D,by go_num,gR⟩;simp[intOf];omega
 have e1:=θ (v<0);cases b with
 |true=>
  have gF:Hid (∀j,j<d+1->Tb hs ds j=ϝ):=Lh (λj t=>by
   by_cases iX:j=d
   .subst iX;rw[o];simp
   exact q.o j D)
  clear o;go_wp2;go_round;exact⟨d+1,D,by go_num,gF⟩;simp[intOf];omega
 |false=>
 have fV:=hC.o.lab.bound d v fN.o;have fH:=hC.o.lab.len;have fA:=ξ (d:Int) (k:Int);have S:=u.o.rb.frozen d;obtain⟨x,h⟩:=Ϡ f.q9 d (by rw[<-gZ.o];exact jB);have T:=Lh h;have r:=fZ.o.th u.o.below;have p:Hid (IV B V (.agg #[U x.op,U x.a]) x/\∃e m,iQ=O (H e m)/\V.cell? (H e (m+d*2))=O (U x.op)/\V.cell? (H e (m+d*2+1))=O (U x.a)/\e<w):=by
  rcases jF.o with y|⟨e,m,rfl,fQ,fJ⟩
  .rw [y]at h;simp at h
  obtain⟨C,F,t,A⟩:=(fJ d x h).below (r.mono hU) fQ;exact Lh ⟨⟨rfl,t,A⟩,e,m,rfl,C,F,D⟩
 obtain⟨e,m,rfl,s,z,E⟩:=p.o.2;have m:=p.o.1.2;have iF:=Lh m;clear m;have iV:¬e=gd:=by have:=u.o.ged;have:=fZ.o.size;omega
 have:=(iH.o.kp u.o.below) 4 _ rfl;have iT:¬(w:Nat)+1=gd:=by
  have iG:=u.o.ged;have iW:(W:Nat)=(w:Nat)+1+1:=by rw[iR.o];simp
  omega
 clear h p o q r;obtain⟨V2,e⟩:=ε ((V.setCell (H gd d) (.bool ϑ)).alloc (K #[U x.op,U x.a] 96));have P:=@Lh (Gt c f W V2 g gd hs (ds.set d ϑ)) (by rw[e];exact(u.o.putD d ϑ).later (AA _ _));obtain⟨m,h⟩:=ε (V:Nat);have gL:Hid (AR V2 m [U x.op,U x.a]):=by rw[e,h];have:=@AF (V.setCell (H gd d) (.bool ϑ)) #[U x.op,U x.a] 96;exact Lh (by simpa using this)
 have fP:=Lh e;have fM:=Lh h;clear e h;go_upto_region 16 with fail;rw[<-fP.o,<- fM.o];have e:=fZ.o.th P.o.below;have hA:=Lh (jI.o.below (e.mono hU));have gS:=Lh (iU.o.below (e.mono hU));have gK:=Nt hU e.size;have o:=Γ3 (jH.o.kp P.o.below);have h:=Γ5 (iH.o.kp P.o.below);have p:=Γ2 gL.o;clear fG fB S s z iV iT E e fA;go_wp2_with fail;clear o h;refine(Ld c _ f _ x (.agg #[U x.op,U x.a]) B V2 gK hA.o gS.o ⟨rfl,iF.o⟩ hH.o (Lm T.o)).mono ?_;rintro jG iI⟨rfl,m⟩;have u:=hH.o.pops x (Lm T.o);have t:=hH.o.pushes x (Lm T.o);obtain⟨s,h⟩:=ε (AM c f x);obtain⟨fB,e⟩:=ε (AK c f x);rw[<-h]at u ⊢;rw[<-e]at t ⊢;obtain⟨gQ,iC,S,t,gB⟩:=Λ5 h e (P.o.later m) (gL.o.kp m) (hC.o.take fN.o D iN.o);have u1:=S.o.ri.cell fN.o;have u2:=Γ2 t.o;clear h e m p;by_cases jE:v<s
 .have fY:=Lh (EZ gB.o.lab fN.o D T.o (λy=>by have:=y.1;rw[<-gQ.o]at this;omega))
  have:=η (v<s);go_wp2_with fail;go_ret3;exact .inl ⟨_,14,rfl,δ,fY.o,fZ.o.th S.o.below⟩
 have:=θ (v<s);by_cases gM:x.op=10/\s<v
 .have gD:=Lh (EZ gB.o.lab fN.o D T.o (λy=>by have:=y.2.1 gM.1;rw[<-gQ.o]at this;omega))
  have:=ζ x.op 10 gM.1;have:=η (s<v);go_wp2_with fail;go_ret3;exact .inl ⟨_,3,rfl,δ,gD.o,fZ.o.th S.o.below⟩
 have e:x.op=10->v<=s:=λiM=>by
  by_cases y:s<v
  .exact absurd ⟨iM,y⟩ gM
  omega
 have iL:=Lh e;have hK:=Lh (λy=>(hH.o.jump x (Lm T.o) y).1);have hE:d<=1048576:=D;clear gM e;by_cases gH:x.op=10;all_goals
  first
  |have:(x.op==10)=ϑ:=by simpa using gH
  |have:(x.op==10)=ϝ:=by simpa using gH
  have e:x.op=10->decide (s<v)=ϝ:=λiK=>by have:=iL.o iK;simp;omega
  first
  |have:=e gH
  |have:=trivial
  clear e gH;go_wp2_with fail;refine(So x d iI hE hK.o).mono ?_;rintro jC fA⟨gG,l,_,rfl,fL,_,q,rfl,o⟩;obtain⟨fK,h⟩:=ε ((Am x d).length);rw[<-h]at fL ⊢;have iJ:=Lh h;have m:=Lh (S.o.later o);have:v<=2097152:=D;have hS:Hid (∃e,RB c f e (ds.set d ϑ) d v (v-s+fB) (Am x d) 0/\Gt c f W fA g gd e (ds.set d ϑ)/\((Am x d)=[]\/∃p,gG=O (H p 0)/\p≠g/\∀(j:Nat) r,(Am x d)[j]?=O r->fA.cell? (H p j)=O (U (r:Int)))):=by
   refine Lh ⟨hs,⟨gB.o,fN.o,λt k e=>by omega⟩,m.o,?_⟩;rcases q with y|⟨p,iG,iW,_,fO⟩
   .exact .inl y
   exact .inr ⟨p,iG,λjA=>by have:=S.o.ri.lt;omega,fO⟩
  have iY:=Lh (U6 iN.o);clear u1 u2 o q h fV fH;go_wp2_with fail;go_loopw[15] (λi wr=>∃j:Nat,j<=fK/\i=U j/\Hid (∃e,RB c f e (ds.set d ϑ) d v (v-s+fB) (Am x d) j/\Gt c f W wr g gd e (ds.set d ϑ)/\((Am x d)=[]\/∃p,gG=O (H p 0)/\p≠g/\∀(j:Nat) r,(Am x d)[j]?=O r->wr.cell? (H p j)=O (U (r:Int))))) (λi _=>fK-(intOf i).toNat);exact⟨0,Nat.zero_le _,rfl,hS⟩;obtain⟨j,_,rfl,hO⟩:=hrel;obtain⟨fG,gA,hM,iD⟩:=hO.o;have E:=Lh gA;have z:=Lh hM;have:fG.length=k:=by rw[gA.rl.lab.len,gZ.o]
  by_cases iE:j<fK
  .obtain ⟨h,o⟩:=Ϡ (Am x d) j (by rw[<-iJ.o];exact iE)
   rcases iD with y|⟨p,rfl,gJ,q⟩
   .rw [y]at o;simp at o
   have:=q j h o;have hV:=Lh q;have fH:=Lh o;clear gA hM q o hO;by_cases iS:k<=h
   .have fX:=Lh (EZ gB.o.lab fN.o D T.o (λy=>by have:=y.2.2 h (Lm fH.o);rw[<-gZ.o]at this;omega))
    go_wp2_with fail;go_ret3;exact .inl ⟨_,8,rfl,δ,fX.o,fZ.o.th z.o.below⟩
   obtain⟨o,e⟩:=Ϡ fG h;have:=z.o.ri.cell E.o.at_;have:=z.o.ri.cell e;have:=z.o.ri.frozen h;have fV:=Lh e;have m:=E.o.rl.lab.bound h o e;have:o<=2097152:=D;have gN:=E.o.rl.lab.neg h o e;have u:=Lh gN;clear e m gN;have q:∀(m:ϒ)(e:Nat)(r:Nat),(Am x d)[e]?=O r->(wr.setCell (H g h) m).cell? (H p e)=O (U (r:Int)):=λm e r t=>by rw[World.cell?_of_block (w:=wr) (heap_setCell_other _ _ _ _ gJ)];exact hV.o e r t
   have gE:=Lh q;clear q;by_cases hP:o<0
   .have hD:Hid (RB c f (fG.set h (v-s+fB)) (ds.set d ϑ) d v (v-s+fB) (Am x d) (j+1)):=by have e:=E.o;have r:=gQ.o;have m:=iC.o;rw[r,m]at e ⊢;exact Lh (e.label hH.o T.o D D fH.o (by rw[<-u.o hP];exact fV.o))
    have:=θ (0<=o);go_wp2;go_roundw;exact⟨j+1,D,by go_num,Lh ⟨_,hD.o,z.o.putH h _,.inr ⟨p,rfl,gJ,gE.o _⟩⟩⟩;simp[intOf];omega
   have:=η (0<=o);by_cases q:o=v-s+fB
   .have gC:=Lh (E.o.same fH.o (by rw[<-q];exact fV.o))
    have:(o !=v-s+fB)=ϝ:=by simp[q]
    clear q;go_wp2;go_roundw;exact⟨j+1,D,by go_num,Lh ⟨_,gC.o,z.o.putH h _,.inr ⟨p,rfl,gJ,gE.o _⟩⟩⟩;simp[intOf];omega
   have gV:Hid (¬CQ c f):=by have e:=E.o;have m:=gQ.o;have h:=iC.o;rw[m,h]at e q;exact Lh (e.clash T.o D fH.o fV.o D q)
   have:=τ o (v-s+fB) q;clear q;go_wp2_with fail;go_ret3;exact .inl ⟨_,13,rfl,δ,gV.o,fZ.o.th z.o.below⟩
  have hJ:Hid (It c f fG (ds.set d ϑ) (λ_=>False)):=by have m:=E.o;have e:=gQ.o;have o:=iC.o;have h:=iL.o;rw[e]at h;rw[e,o]at m;exact Lh (m.done T.o D h (by rw[<-iJ.o];omega))
  clear gA hM iD hO;go_wp2_with fail;go_roundg(gk-1);exact Lh ⟨fG,ds.set d ϑ,z.o,hJ.o,by have:=iY.o;omega⟩;omega
def QS(c:AQ)(u:ϒ)(B:Nat)(w:Ϣ)(s:B<=w)(y:BF B w u c) :
  ϙ prog 64 #[u] w (Q6 c w):=by
 have bY:=Lh y;obtain⟨_,_,rfl,P,T,-⟩:=y;obtain⟨cG,cH,rfl,-⟩:=P;obtain⟨bK,cI,rfl,_,_,_,N⟩:=T;have dA:=Lh N;let⟨W,d⟩:=ε (w.alloc (K (Bc cG cH bK cI c) 25));have t:=Lh (bl1 d);have bV:=Lh (Xbq d);have Y:=Lh d;clear d;go_in;go_wp2_with fail;rw[<-Y.o];refine(Si c _ B W (Nt s t.o.size) (bY.o.below (t.o.mono s))).mono ?_;rintro Q bZ⟨rfl,u⟩;have q:=Lh (t.o.th u);have M:=Lh (bV.o.kp u);by_cases bR:Jy c;rotate_left
 .rw [Bs bR]
  have bP:=@Lh (¬AU c) (λd=>bR d.1);go_wp2_with fail;go_ret3;exact⟨_,_,_,rfl,⟨(λd=>by cases d),λd=>absurd d bP.o⟩,q.o⟩
 rw[FP bR];have cZ:=Lh bR;have:=Γ3 M.o;go_wp2_with fail;refine(Qf c _ B bZ (Nt s q.o.size) (bY.o.below (q.o.mono s))).mono ?_;rintro Q J⟨i,k,rfl,v⟩;have bN:=Lh (q.o.th v);have cM:=Lh (M.o.kp v);cases bX:Dl c with
 |true=>
  have bQ:=@Lh (¬AU c) (λd=>by rw[d.2.1]at bX;cases bX);go_wp2_with fail;go_ret3;exact⟨_,_,_,rfl,⟨(λd=>by cases d),λd=>absurd d bQ.o⟩,bN.o⟩
 |false=>
  have cX:=Lh bX;go_wp2_with fail;go_loopw[8] (λi wr=>∃k:Nat,k<=c.q0.length/\i=U k/\Hid (ϐ J J wr/\∀(j:Nat) f,j<k->c.q0[j]?=O f->CQ c f)) (λi _=>c.q0.length-(intOf i).toNat);exact⟨0,Nat.zero_le _,rfl,Lh ⟨Below.refl _ _,λj f q=>by omega⟩⟩;obtain⟨k,_,rfl,hs⟩:=hrel;have G:=Lh (bN.o.th hs.o.1);have q:=Lh (cM.o.kp hs.o.1);let⟨cJ,cK,cL⟩:=Γ3 q.o;by_cases cW:k<c.q0.length
  .obtain ⟨x,e⟩:=Ϡ c.q0 k cW
   rcases dA.o with d|⟨b,o,rfl,bO,bJ⟩
   .rw [d]at e;simp at e
   let⟨cB,cC,cD,cE,⟨q,cF,F⟩,t,u,v⟩:=(bJ k x e).below (G.o.mono s) bO;have cY:=@Lh (∀V,ϐ wr wr V->EI B V (.agg #[.string x.name,U x.params,U x.L,.bool x.result,q]) x) (λV q=>⟨_,rfl,F.inss (q.mono (Nt s G.o.size)),t,u,v⟩);obtain⟨cS,cT,rfl,-⟩:=F;have cP:=Lh e;have cV:=Lh (Qr cZ.o cX.o (Lm e));have:=In k;have:(k:Int)<(c.q0:Int):=D;have cU:=@Lh (BF B wr.drew (.agg #[X cG c.H cH,U c.G,X (O (H b o)) c.q0 cI]) c) (bY.o.below ((AG G.o 1).mono s));have cR:B<=wr.drew.heap.size:=Nt s G.o.size;have cO:=@Lh (ϐ wr wr wr.drew) (AG Br 1);go_wp2_with fail;go_upto_region 9 with fail;go_region_held3 (λV=>V.cell? (H w 0)=O (X cG c.H cH)/\V.cell? (H w 1)=O (U c.G)/\V.cell? (H w 2)=O (X (O (H b o)) c.q0 cI)/\V.cell? (H b (o+k*5))=O (.string x.name)/\V.cell? (H b (o+k*5+1))=O (U x.params)/\V.cell? (H b (o+k*5+2))=O (U x.L)/\V.cell? (H b (o+k*5+3))=O (.bool x.result)/\V.cell? (H b (o+k*5+4))=O (X cS x.q9 cT))
    (first|exact⟨cJ,cK,cL,cB,cC,cD,cE,cF⟩|exact⟨AB hb3 cJ,AB hb3 cK,AB hb3 cL,AB hb3 cB,AB hb3 cC,AB hb3 cD,AB hb3 cE,AB hb3 cF⟩)
    (first|(go_at_call 95;refine(JL c _ x _ B _ cR cU.o (cY.o _ cO.o) cV.o).mono ?_;rintro Q bT L;obtain⟨z,C,A,E,l,rfl,hiff,hb3⟩:∃(z:Option Addr)(C A:Nat)(E l:Int),Q=.returned (.tuple #[X z C A,U E,U l])/\Hid (l=0↔CQ c x)/\ϐ wr.drew.heap.size wr.drew bT:=(by rcases L with ⟨a,b,m,n,bM,p⟩|⟨g,_,hs,m,_,_,_,n,_,_,p⟩;exact⟨none,0,0,a,b,m,Lh ⟨λd=>absurd d n,λd=>absurd d bM⟩,p⟩;exact⟨_,_,_,0,0,m,Lh ⟨λ_=>n,λ_=>rfl⟩,p⟩);clear L))
   have cN:=Lh ((AG G.o 1).th hb3);have cA:=Lh ((AG hs.o.1 1).th hb3);by_cases r:l=0
   .subst r
    have bW:Hid (∀(j:Nat) f,j<k+1->c.q0[j]?=O f->CQ c f):=Lh (λj f e h=>by
     by_cases Q:j=k
     .subst Q;rw[cP.o]at h;cases h;exact hiff.o.1 rfl
     exact hs.o.2 j f D h)
    go_wp2;go_roundw;exact⟨k+1,D,by go_num,Lh ⟨cA.o,bW.o⟩⟩;simp[intOf];omega
   have bU:=@Lh (¬AU c) (λd=>r (hiff.o.2 (d.2.2 x (Lm cP.o))));have e1:=τ l 0 r;have bL:=Lh r;go_wp2_with fail;go_ret3;exact⟨_,_,l,rfl,⟨λd=>absurd d bL.o,λd=>absurd d bU.o⟩,cN.o⟩
  have bS:Hid (AU c):=Lh ⟨cZ.o,cX.o,λf R=>by
   obtain⟨j,S,rfl⟩:=List.getElem_of_mem R;exact hs.o.2 j _ D (Lg S)⟩
  go_wp2_with fail;go_ret3;exact⟨_,_,_,rfl,⟨λ_=>bS.o,λ_=>rfl⟩,G.o⟩
def PR(c:AQ)(e:ϒ)(B:Nat)(w:Ϣ)(q:B<=w)(f:BF B w e c) :
  ϙ prog 30 #[e] w λe w'=>e=.returned (.bool (DW c))/\ϐ w w w':=by
 have p:=Lh f;obtain⟨_,_,rfl,j,m,-⟩:=f;obtain⟨_,_,rfl,-⟩:=j;obtain⟨_,_,rfl,-⟩:=m;go_in;go_wp2_with fail;refine(QS c _ B _ φ (p.o.below ((AA _ _).mono q))).mono ?_;rintro r s⟨i,k,l,rfl,d,h⟩;have g:=As h;by_cases a:l=0
 .have n:=Lh (CZ (d.1 a))
  subst a;clear d;go_wp2;go_ret;exact⟨by rw[n.o];rfl,g⟩
 have o:=Lh (FA (λe=>a (d.2 e)));have e1:=beq_eq_false_iff_ne.2 a;clear d;go_wp2;go_ret;exact⟨by rw[o.o];exact congrArg (λb=>Ending.returned (.bool b)) (by first|exact e1|rfl),g⟩
def Xj(c:AQ)(m:Mm)(w:Ϣ)(e:Ending)(w':Ϣ):Prop:=e=.returned (.bool (Bb c m))/\ϐ w w w'
def Ff{m:Mm}(d:Bb c m=b)(a:ϐ w w w'):Xj c m w (.returned (.bool b)) w':=⟨by rw[d],a⟩
def Hi{m:Mm}{x:Gl}(b:m.N[k]?=O x)(a:BS c x=ϑ):Bb c m=ϝ:=by
 have:m.N.any (BS c)=ϑ:=List.any_eq_true.2 ⟨x,Lm b,a⟩;unfold Bb;rw[this];simp
def Rl(c:AQ)(E:ϒ)(m:Mm)(C:ϒ)(B:Nat)(w:Ϣ)(cS:B<=w)(bZ:BF B w E c)(cM:Lw B w C m) :
  ϙ prog 31 #[E,C] w (Xj c m w):=by
 obtain⟨_,cg,rfl,z,bT,_⟩:=bZ;obtain⟨dC,dE,rfl,cR⟩:=z.frm;obtain⟨dB,dD,rfl,-⟩:=bT.frm;obtain⟨_,_,rfl,t,u⟩:=cM;obtain⟨cY,dA,rfl,cN⟩:=t.frm;obtain⟨cW,cX,rfl,cK⟩:=u.frm;let⟨M,g⟩:=ε c.H.length;let⟨y,f⟩:=ε m.G.length;let⟨e,d⟩:=ε m.N.length;rw[<-g]at z cR ⊢;rw[<-f]at t cN ⊢;rw[<-d]at u cK ⊢;let⟨eA,dK,dX,dV,dF,bV⟩:=Λ6 z t u g f d;let⟨W,a⟩:=ε ((w.alloc (K #[X dC M dE,U c.G,X dB c.q0 dD] 25)).alloc (K #[X cY y dA,X cW e cX] 28));have A:=Lh (bl2 a);have dH:=Lh (Xdu a);have dI:=Lh (Xek a);have:=Γ2 dH.o;have:=Γ2 dI.o;clear g f d;go_in;go_upto_region 1 with fail;rw[<-a];clear a;by_cases dS:(y:Int)=c.G;rotate_left
 .have:=τ (y:Int) c.G
  have bY:=@Lh (Bb c m=ϝ) (by unfold Bb;rw[<-dF.o,decide_eq_false dS];rfl);go_wp2;go_ret;exact Ff bY.o A.o
 have:=ρ (y:Int) c.G;have dN:=Lh dS;go_wp2_with fail;refine(Db m.G _ B W (dK.o.ints (A.o.mono cS))).mono ?_;rintro dR w'⟨rfl,rfl⟩;cases hv:Ce m.G with
 |false=>
  have bX:=@Lh (Bb c m=ϝ) (by
   unfold Bb Ce at *;rw[hv];simp)
  go_wp2;go_ret;exact Ff bX.o A.o
 |true=>
 have dG:=Lh hv;by_cases eC:(e:Int)<=4096;rotate_left
 .have:=η ((4096:Int)<(e:Int))
  have cH:=@Lh (Bb c m=ϝ) (by
   unfold Bb;rw[<-bV.o,decide_eq_false (show ¬e<=4096 by omega)];simp)
  go_wp2;go_ret;exact Ff cH.o A.o
 have:=θ ((4096:Int)<(e:Int));have y:=@Lh (e<=4096) D;have dL:Hid ((∀x∈m.N,BS c x=ϝ)->Bb c m=ϑ):=Lh (λdW=>by
  have u:m.N.any (BS c)=ϝ:=List.any_eq_false.2 (λx t=>by rw[dW x t];simp);have t:=dG.o;unfold Ce at t;unfold Bb;rw[u,t,<- dF.o,<- bV.o,decide_eq_true dN.o,decide_eq_true y.o];rfl)
 go_wp2_with fail;go_loopw[5] (λi wr=>∃k:Nat,k<=e/\i=U k/\Hid ((∀(j:Nat) x,j<k->m.N[j]?=O x->BS c x=ϝ)/\ϐ W W wr)) (λi _=>e-(intOf i).toNat);exact⟨0,Nat.zero_le _,rfl,Lh ⟨λj x t=>by omega,Below.refl _ _⟩⟩;obtain⟨k,_,rfl,v⟩:=hrel;have dT:=Lh v.o.1;have h:=Lh v.o.2;have dQ:=dH.o.kp h.o 0 _ rfl;have:=dI.o.kp h.o 1 _ rfl;by_cases eB:k<e;rotate_left
 .have cO:=Lh (dL.o (λx V=>by
   obtain⟨j,bU,rfl⟩:=List.getElem_of_mem V;exact dT.o j _ (by have:=bV.o;omega) (Lg bU)))
  have bS:=Lh (A.o.th h.o);go_wp2;go_ret;exact Ff cO.o bS.o
 let⟨x,J⟩:=Ϡ m.N k (by have:=bV.o;omega);have p:=(A.o.th h.o).mono cS;obtain⟨b,o,cT,cU,rfl,_,cD,G,hl⟩:=dX.o.nodElem p J;have:=In k;have:(k:Int)<(e:Int):=D;have Q:=Lh J;let⟨g,r⟩:=x;dsimp only at cD G hl;let⟨F,d⟩:=ε r.length;rw[<-d]at G hl;have dU:=Lh d;let⟨dZ,a⟩:=ε (wr.alloc (K #[U g,X cT F cU] 72));have e:=bl1 a;have t:=Lh (Xbq a);have dP:=Lh (hl.ints (e.mono (Nt cS p.size)));have dY:=Lh (h.o.th e);have T:=Lh (A.o.th (h.o.th e));have:=Γ2 t.o;have:=AB e dQ;have dO:=Lh (eA.o.ints (p.trans (e.mono (Nt cS p.size))));go_upto_region 7 with fail;rw[<-d,<- a];clear a d;by_cases cE:g<0
 .have:=η (g<0) cE
  have cA:=@Lh (Bb c m=ϝ) (Hi Q.o (by unfold BS;rw[if_pos cE]));go_quiet(fail);go_wp2;go_ret;exact Ff cA.o (AG T.o _)
 have:=θ (g<0);obtain⟨a,rfl⟩:∃e:Nat,g=e:=⟨g.toNat,D⟩;have cJ:=Lh cE;by_cases dM:M<=a
 .have e1:=η ((M:Int)<=(a:Int))
  have:=η (M<=a);have cP:=Lh (Hi Q.o (by
   unfold BS;dsimp only;rw[if_neg cJ.o,Int.toNat_natCast,List.getElem?_eq_none (by rw[<-dV.o];exact dM)]))
  go_quiet(fail);go_wp2;go_ret;exact Ff cP.o (AG T.o _)
 have e1:=θ ((M:Int)<=(a:Int));have:=θ (M<=a);let⟨l,N⟩:=Ϡ c.H a (by have:=dV.o;omega);obtain⟨_,_,rfl,-,R⟩:=dO.o.elem N;have e:=R.1;rw[Nat.mul_one]at e;have:=In a;have:(a:Int)<(M:Int):=D;have S:=@Lh (BS c ⟨(a:Int),r⟩=if(F:Int)≠l then ϑ else r.any (λn=>!Af n)) (by
  unfold BS;dsimp only;rw[if_neg cJ.o,Int.toNat_natCast,N,<- dU.o])
 by_cases cC:(F:Int)=l;rotate_left
 .have:=τ (F:Int) l
  have bW:=Lh (Hi Q.o (by rw[S.o,if_pos cC]));go_quiet(fail);go_wp2;go_ret;exact Ff bW.o (AG T.o _)
 have:=ρ (F:Int) l;have cI:=Lh cC;cases f:Ce r with
 |false=>
  have cZ:=Lh (Hi Q.o (by
   unfold Ce at f;rw[S.o,if_neg (by simpa using cI.o)];cases cV:r.any (λn=>!Af n)with
   |true=>rfl
   |false=>rw[cV]at f;simp at f))
  have cF:=Lh f;go_quiet((go_at_call 65;exact Calls.quiet_of_same ((Db r _ B _ (dP.o.ints (AG Br _))).mono (λa w' P=>⟨by rw[P.1,cF.o],P.2.symm⟩))));go_wp2;go_ret;exact Ff cZ.o (AG T.o _)
 |true=>
  have dJ:Hid (∀(j:Nat) d,j<k+1->m.N[j]?=O d->BS c d=ϝ):=Lh (λj d a L=>by
   by_cases cB:j=k
   .subst cB
    have:=Q.o.symm.trans L;cases this;unfold Ce at f;rw[S.o,if_neg (by simpa using cI.o)];cases Y:r.any (λn=>!Af n)with
    |true=>rw[Y]at f;simp at f
    |false=>rfl
   exact dT.o j d D L)
  have cG:=Lh f;go_quiet((go_at_call 65;exact Calls.quiet_of_same ((Db r _ B _ (dP.o.ints (AG Br _))).mono (λa w' s=>⟨by rw[s.1,cG.o],s.2.symm⟩))));have cL:=@Lh (∀n,(∀(j:Nat) d,j<k+1->m.N[j]?=O d->BS c d=ϝ)/\ϐ W W (dZ.drewN n)) (λn=>⟨dJ.o,AG dY.o n⟩);go_wp2;go_roundw;exact⟨k+1,D,by go_num,Lh (cL.o _)⟩;simp[intOf];omega
def Nq(m:Mm)(q:ϒ)(B:Nat)(w:Ϣ)(h:B<=w)(y:Lw B w q m)(cZ:m.G.length<=1000000)(dC:m.N.length<=4096)(u:∀x∈m.N,x.f.length<=1000000) :
  ϙ prog 33 #[q] w (IU m w):=by
 obtain⟨_,_,rfl,f,g⟩:=y;obtain⟨Y,cT,rfl⟩:=f.u1;obtain⟨cX,dD,rfl⟩:=g.u1;let⟨r,e⟩:=ε m.G.length;let⟨A,s⟩:=ε m.N.length;rw[<-e]at f cZ ⊢;rw[<-s]at g dC ⊢;let⟨eE,eI,dZ,eG,dG⟩:=Λ5 g e s u h;let⟨W,d⟩:=ε ((w.alloc (K #[X Y r cT,X cX A dD] 28)).alloc (K #[Z,Z] 28));have q:=Lh (bl2 d);have S:=Lh (sz2 d);have o:=Xct d;have t:=Xcm d;have eC:=Lh o;have eB:=Lh t;have z:=Cw o 0 rfl;have C:=Bl z;have dS:=@Lh ((W.alloc (K #[] 3)).heap[(W:Nat)]?=O (K #[] 3 (0,0))) (Hn _ _);have dR:=@Lh (AE B (W.alloc (K #[] 3)) 1 Aj (X Y r cT) m.G) ((f.ints (q.o.mono h)).ints ((AA _ _).mono (Nt h q.o.size)));have dN:m.G.length<=1000000:=by rw[<-e];exact cZ
 have dY:=@Lh (AT NO (EN w) (λx=>if x=(W:Nat)then 2 else if x=(w:Nat)+1 then 5 else EN w x) w (W.alloc (K #[] 3))) (by
  have l:=q.o.th (AA W (K #[] 3));exact⟨l.os,l.tape,l.output,l.size,λx q _=>l.block x q,λx q=>by have:=S.o;show(if _ then _ else if _ then _ else _)=_;rw[if_neg D,if_neg D],no 0⟩)
 have dK:Hid (∀x,(W.alloc (K #[] 3)).heap.size<=x->(λx=>if x=(W:Nat)then 2 else if x=(w:Nat)+1 then 5 else EN w x) x=0):=Lh (λx q=>by
  have:=S.o;simp at q;show(if _ then _ else if _ then _ else _)=_;rw[if_neg D,if_neg D];exact Ee x D)
 clear o t f g e s u h;go_in;go_upto_region 1 with fail;rw[<-d];have:=Lh d;clear d;go_upto_region 2 with (with_reducible refine RZ rfl 2 (.tmp 5) (.tmp 7) rfl (c:=λx=>if x=(W:Nat)then 2 else if x=(w:Nat)+1 then 5 else EN w x) W dS.o rfl Y r cT m.G B rfl dR.o dN (if_pos rfl) δ dK.o ?_;intro G J g s dB h M;have dL:=Lh dB;have u:=Lh h;have dU:=Lh M;clear dB h M);let⟨q,e⟩:=ε (g.alloc (K #[X (O (H G 0)) r J,Z] 28));have cY:=@Lh (Mz m w w (w+1) g 0 #[X Y r cT,X cX A dD] (X (O (H G 0)) r J) Z (λx=>if x=(g:Nat)then 4 else s x) [] q) (by
  have:=S.o;have y:AT NO s (λx=>if x=(g:Nat)then 4 else s x) g q:=AT.paint _ _ (by rw[e];exact AA _ _) (Nr _);have:=u.o.size;have P:(W.alloc (K #[] 3)).heap.size=(W:Nat)+1:=by simp
  have S:∀b v,b<(W:Nat)->(if b=(w:Nat)+1 then 5 else EN w b)≠2->W.heap[b]?=v->q.heap[b]?=v:=λb v l q hv=>by rw[y.kp b D (no _),u.o.kp b D (by rw[if_neg D];exact q),Ha _ _ _ l];exact hv
  have q:∀b,b<(W:Nat)->(if b=(g:Nat)then 4 else s b)=(if b=(w:Nat)+1 then 5 else EN w b):=λb l=>by rw[if_neg D,u.o.old b D,if_neg D]
  refine⟨dL.o.kp y (no _),Ao.nil _ _ _ _ _,(dY.o.ntm.trans (u.o.tm δ δ)).trans y.ntm,λb l=>?_,by rw[e];exact Hn _ _,if_pos rfl,S _ _ D (by rw[if_pos rfl];decide) eB.o,?_,S _ _ D (by rw[if_neg D,Ee _ (Nr _)];decide) eC.o,?_,λi x s=>by omega,rfl⟩
  .have cQ:(g:Nat)+1<=b:=by rw[e]at l;simpa using l
   show(if _ then _ else _)=_;rw[if_neg D];exact dU.o b D
  .exact (q _ D).trans (if_pos rfl)
  exact(q _ D).trans (by rw[if_neg D];exact Ee _ (Nr _)))
 let⟨N,d⟩:=ε (g:Nat);rw[<-e,<- d];rw[<-d]at cY;clear e d z C;have d:=Cw cY.o.inp 1 rfl;have e:=Bl d;go_wp2_with fail;clear d e;go_loopw[4] (λi wr=>∃k:Nat,k<=A/\i=U k/\Hid (∃a cap c xs,Mz m w w (w+1) N k #[X Y r cT,X cX A dD] (X (O (H G 0)) r J) (X a k cap) c xs wr)) (λi _=>A-(intOf i).toNat);exact⟨0,Nat.zero_le _,rfl,Lh ⟨_,_,_,_,cY.o⟩⟩;obtain⟨k,_,rfl,d⟩:=hrel;let⟨C,E,c,xs,d⟩:=d.o;have e:=Lh d;clear d;by_cases eH:k<A
 .obtain ⟨x,o⟩:=Ϡ m.N k (by have:=dZ.o;omega)
  have eF:=Lh o;have dH:=(e.o.chg.below0 WP).mono dG.o;let⟨f,no_,dE,T,dF⟩:∃f no,cX=O (H f no)/\f<B/\GP B wr f (no+k*2) x:=by
   let⟨Q,R,cU,_,_,_,P⟩:=eE.o;obtain⟨rfl,_,rfl⟩:cX=Q/\A=m.N.length/\dD=R:=by have:=dZ.o;simpa[this]using cU
   rcases P with L|⟨f,no,rfl,l,P⟩
   .rw [L]at o;simp at o
   exact⟨f,no,rfl,l,(P k x o).below dH l⟩
  subst dE;let⟨cW,⟨lv,cV,F⟩,dA⟩:=dF;obtain⟨dI,dJ,rfl⟩:=F.u1;have s:=eG.o x (Lm o);have V:=Cw e.o.box 1 rfl;have z:=Cw e.o.inp 1 rfl;have dV:=Bl z;have dX:=@Lh (c f=99) (by rw[e.o.chg.old f (Nl T dG.o)];exact if_pos (Nl T dG.o));have dQ:=In k;have dP:(k:Int)<(A:Int):=D;have eD:=Lh dA;have dW:=Lh s;have q:=Nt dG.o e.o.chg.size;have dT:=@Lh ((wr.alloc (K #[] 3)).drew.heap[(wr:Nat)]?=O (K #[] 3 (0,0))) (Hn wr _);have t:=@Lh (ϐ wr wr (wr.alloc (K #[] 3)).drew) (Cb wr _);have dO:=Lh (F.ints (t.o.mono q));have eA:=@Lh (AT NO c (λd=>if d=(wr:Nat)then 10+5*k else c d) wr (wr.alloc (K #[] 3)).drew) (AT.paint _ _ t.o (Nr _));have dM:Hid (∀d,(wr.alloc (K #[] 3)).drew.heap.size<=d->(λd=>if d=(wr:Nat)then 10+5*k else c d) d=0):=Lh (λd g=>by
   have:(wr:Nat)+1<=d:=by simpa using g
   show(if _ then _ else _)=_;rw[if_neg D];exact e.o.hi d D)
  clear o dH F dA s q;go_upto_region 5 with fail;refine wp_region_bel (λh W=>ϟ (AB W cW) (ϟ (AB W cV) (ϟ (AB W V) (AB W z)))) [8,15,16,17,18,20] ϑ 21 rfl κ κ ?_;refine Xac ?_;have g:=Lh (ϟ cW (ϟ cV (ϟ V z)));clear cW cV V z dQ dP dV;refine AH κ ?_;go_simp;refine⟨Θ4 (AA _ _) g.o,?_⟩;refine AH κ ?_;refine Ex (10+5*k) (.tmp 25) (.tmp 31) rfl (c:=λd=>if d=(wr:Nat)then 10+5*k else c d) wr dT.o rfl dI x.f.length dJ x.f B rfl dO.o dW.o (if_pos rfl) D dM.o (λL P w8 s dB h M=>?_);have Y:=Lh dB;have Q:=Lh h;have R:=Lh M;have y:∀d,d<(wr:Nat)->(if d=(wr:Nat)then 10+5*k else c d)=c d:=λd o=>if_neg D;have F:=Bl g.o.1;have z:=Bl g.o.2.2.2;have cV:¬(if f=(wr:Nat)then 10+5*k else c f)=10+5*k:=by rw[y f F,dX.o];omega
  have dH:¬(if(w:Nat)=(wr:Nat)then 10+5*k else c (w:Nat))=10+5*k:=by rw[y _ z,e.o.cbi];omega
  have dA:¬(λd=>if d=(wr:Nat)then 10+5*k else c d) N=10+5*k:=by
   have:=(La e.o.box);show ¬(if _ then _ else _)=_;rw[if_neg D,e.o.cbo];omega
  have u:=h.cell (AB t.o g.o.1) cV;have e1:=h.cell (AB t.o g.o.2.1) cV;have o:=h.cell (AB t.o g.o.2.2.1) dA;have d:=h.cell (AB t.o g.o.2.2.2) dH;have q:=Lh (ϟ u (ϟ e1 (ϟ o d)));clear dB h M cV dA dH y F z u e1 o d;refine⟨.inl q.o,?_⟩
  (refine' Ae κ _ (λo d=>?_) ?_;rotate_left;(clear d;go_simp);(try with_reducible rfl);try simp only[Ap])
  refine AH κ ?_;go_simp;refine⟨Θ4 (AA _ _) q.o,?_⟩;have o:=Lh ((eA.o.mono (λd t=>t.elim) D).trans Q.o);have t:=@Lh (AT (λd=>d=10+5*k) c s wr (w8.alloc (K #[U x.type,X (O (H L 0)) x.f P] 72))) (o.o.trans (AT.ob (AA _ _) D));have u:=@Lh (∀b,(w8.alloc (K #[U x.type,X (O (H L 0)) x.f P] 72)).heap.size<=b->s b=0) (λb l=>R.o b (by simp at l;omega));refine AH κ ?_;refine Dz (λd=>d=3) (.tmp 18) (.tmp 34) 26 72 rfl underlying26 IZ rfl δ δ (c:=s) (tag:=3) (v:=X C k E) (n:=k) (xs:=xs) rfl (e.o.row.kp t.o D) (H w8 0) 1 1 [U x.type,X (O (H L 0)) x.f P] rfl rfl (λj l d=>(Cy w8 _ _ j).trans (by simpa using d)) (by simp[Value.oneCell']) δ D rfl δ u.o (λS T Q d P h M R=>?_);have L:=e.o.next eF.o eD.o o.o Y.o h M P;have d:=(La e.o.box);have y:=Bl g.o.1;have u:=Bl g.o.2.2.2;have F:¬s f=3:=by rw[o.o.old _ y,dX.o];decide
  have V:¬s (w:Nat)=3:=by rw[o.o.old _ u,e.o.cbi];decide
  have z:¬s N=3:=by rw[o.o.old _ d,e.o.cbo];decide
  have l:=h.cell (AB (AA _ _) q.o.1) F;have g:=h.cell (AB (AA _ _) q.o.2.1) F;have o:=h.cell (AB (AA _ _) q.o.2.2.1) z;have f:=h.cell (AB (AA _ _) q.o.2.2.2) V;have s:Q.frozen? (H N 1)=ϝ:=h.frozen (Nl d t.o.size) (t.o.frozen d (Fz e.o.box) (Ϟ e.o.cbo ω)) z;refine⟨.inl ⟨l,g,o,f⟩,?_⟩;have q:=Lh L;clear P h M R L F z V y u l g f d;refine AH κ ?_;go_simp;refine BH ?_;let⟨_,f⟩:=ε (Q.setCell (H N 1) (X (O (H S 0)) (k+1) T));have d:=q.o;rw[<-f]at d ⊢;have M:=Lh d;clear d f o s;go_wp2;go_roundw;exact⟨k+1,D,by go_num,Lh ⟨_,_,_,_,M.o⟩⟩;simp[intOf];omega
 obtain rfl:k=A:=D;have dB:=@Lh (IU m w (.returned (.agg #[X (O (H G 0)) r J,X C k E])) ((wr.setCell (H (w+1) 0) (X (O (H G 0)) r J)).setCell (H (w+1) 1) (X C k E))) (by
  have d:=e.o;rw[dZ.o,eI.o]at d ⊢;exact d.post)
 have h:=e.o.box;have d:=e.o.res;have f:=Cw e.o.inp 1 rfl;have:=Bl f;have:=Ω2 h;have:=Ω2 d;have:=ϴ d;have cW:=@Lh (((wr.setCell (H (w+1) 0) (X (O (H G 0)) r J)).setCell (H (w+1) 1) (X C k E)).heap[(w:Nat)+1]?=O (K #[X (O (H G 0)) r J,X C k E] 28 (0,0))) (by
  have e:=ϡ wr ((w:Nat)+1) 0 _ _ (X (O (H G 0)) r J) d;exact ϡ _ ((w:Nat)+1) 1 _ _ (X C k E) e)
 clear h d;go_wp2;exact ϖ (v:=.agg #[X (O (H G 0)) r J,X C k E]) (JK (p:=2) rfl cW.o _ rfl) rfl dB.o
def Rk(c:AQ)(m:AV)(n:Int)(w:Ϣ)(F:List Nat)(e:Ending)(w':Ϣ):Prop:=∃m',ED c m n m'/\DK w F m' e w'
def Rm(hs:AU c)(dE:Bv c){f:AY}(cN cA:Option Addr)(cM cL bZ:Nat)(g n:Int)(k:C9 c m m.Q fs f)(J:EB m)
  (B:Nat) (dC:B<=w) (G:AE B w 5 (CW B) (X cA c.q0 bZ) c.q0) (hv:Cv w fv m.J F) (C:∀b∈F,B<=b) (h:Bj m.Q n=ϑ) :
  ϙ prog 151 #[.agg #[X cN cM cL,U g,X cA c.q0 bZ],AJ fv m,U n] w (Rk c m n w F):=by
 obtain⟨y,cap,_,_,lv,sv,bX,bY,Fs,rfl,rfl,z⟩:=hv.top k.fr;let⟨cO,dB,dQ,cC,dI⟩:=Λ5 hv.lt C G k J;have T:m.Q.K=1\/m.Q.K=2\/m.Q.K=3:=by let⟨_,x,_,_,_,_,u,_⟩:=k.top;exact EW u
 have dJ:Hid (m.Q.K=1\/m.Q.K=3->BP n):=Lh (λe=>by
  unfold Bj at h;rcases e with e|e
  .rw [if_pos e]at h;exact Aq.1 h
  rw[if_neg D,if_pos e]at h;simp at h;unfold BP;omega)
 have dS:f.S.length<1000000:=by let⟨A,x,_,a,_,i,_,u,hl⟩:=k.top;have dU:=DJ (hs.wf a.fn) (hs.snd a.fn) u;have dT:=dE A (Lm a.fn);have:=((hs.wf a.fn).pops x (Lm i)).1;omega
 have:=k.len;let⟨u,o⟩:=ε c.q0.length;have dP:=Lh o;rw[<-o];let⟨W,d⟩:=ε (((w.alloc (K #[X cN cM cL,U g,X cA u bZ] 25)).alloc (K (AC (X (O (H y 0)) (fs.length+1) cap) m) 59)).alloc (K (AC Z AI) 59));have t:=Lh (bl3 d);have E:=Lh (sz3 d);have bV:=Lh (Xf2 d);have l:=Xcs d;have s:=Xbs d;have r:=z W ((w:Nat)+1) m t.o l D;have dG:=Lh r;have q:(w:Nat)∉((w:Nat)+1)::y::(bX++(bY++Fs)):=λj=>by
  rw[ϰ]at j;rcases j with j|j
  .omega
  have:=cO.o _ j;omega
 have cK:=Lh q;have P:=AO l;have cY:=Lh s;clear l s z r hv k J h C G q o;unfold AJ;unfold AC AI at d;unfold AC;dsimp only at d ⊢;go_in;go_upto_region 1 with fail;rw[<-d];clear d;by_cases k:m.Q.K=3/\n=0
 .have L:=ζ m.Q.K 3 k.1
  have dD:=ζ n 0 k.2;have cS:=@Lh (ED c m n {m with Q:=Ah 21,J:=[]}) (.inl ⟨k.1,k.2,rfl⟩);clear k T;go_wp2_with fail;refine(DX _ _ _ m 21 _).mono ?_;rintro j u⟨rfl,o⟩;let⟨d,h,l⟩:=EF (R:=(w:Nat)+1+1) (bm:=(w:Nat)+1) (F0:=[]) (F2:=[]) (m1:={m with Q:=Ah 21,J:=[]}) (fv:=Z) t.o (Ds u) ((AW.ob o).wide (Fs:=[]) (Fs':=[]) ψ ψ) ψ cO.o D D D (by have:=E.o;omega) cY.o;have N:=Lh h;have S:=Lh l;have:=AO d;have:=AX d;clear d h l o P L dD;unfold AJ AC;go_wp2;exact ϖ (v:=AJ Z {m with Q:=Ah 21,J:=[]}) (AL (p:=6) rfl N.o _ rfl) rfl ⟨_,cS.o,S.o⟩
 by_cases r:m.Q.K=2
 .have L:=ξ m.Q.K 3
  have:(m.Q.K !=2)=ϝ:=by simp[r]
  have cE:=Lh (cC.o.goOn dI.o r Eg);have dF:=@Lh (∀h,Cf c {m with Q:=Eg} h->ED c m n h) (λh e=>.inr (.inr ⟨r,e⟩));have bW:=Lh (dQ.o.funs (t.o.mono dC));have bU:=@Lh (Cv W (X (O (H y 0)) (fs.length+1) cap) m.J (y::(bX++(bY++Fs)))) (by rw[cC.o.fr];exact Kk dG.o);have C:=Γ3 bV.o;clear k r T;go_wp2_with fail;have d:=Kj (m:=m) hs dE cN cA cM cL bZ g cE.o B (Nt dC t.o.size) bW.o bU.o dB.o;rw[<-dP.o]at d;refine d.mono ?_;clear d;rintro j cZ⟨G,z,_,V,rfl,q,s⟩;obtain⟨cP,cR,rfl⟩:=q.u1;have cT:=Lh z;let⟨d,l,o⟩:=EF (R:=(w:Nat)+1+1) (bm:=(w:Nat)+1) t.o q ((s.wide (F:=((w:Nat)+1)::y::(bX++(bY++Fs))) (F':=((w:Nat)+1)::V) (λb a=>List.mem_cons_of_mem _ a) (λb a=>by rw[ϰ]at a;rcases a with a|a;right;simp[a];left;exact a))) (λx i=>List.mem_cons_of_mem _ i) cO.o D D D (by have:=E.o;omega) cY.o;let⟨Y,h⟩:=ε G.J.length;rw[<-h]at l o ⊢;have M:=Lh l;have Q:=Lh o;have:=AO d;have:=AX d;clear d l o z q s h P C;unfold AJ AC;go_wp2;exact ϖ (v:=AJ (X cP Y cR) G) (AL (p:=6) rfl M.o _ rfl) rfl ⟨_,dF.o _ cT.o,Q.o⟩
 have:=τ m.Q.K 2 r;have d:m.Q.K=1\/m.Q.K=3:=D;have dL:=Lh (cC.o.push dI.o d n (dJ.o d) Eg);have dR:=@Lh (∀h,Cf c {m with Q:=Eg,J:=fs++[{f with S:=f.S++[n]}]} h->ED c m n h) (λh e=>.inr (.inl ⟨D,fs,f,cC.o.fr,e⟩));have cB:=(dJ.o d).in64;have bS:((m.Q.K==3)=ϑ/\(n==0)=ϝ)\/(m.Q.K==3)=ϝ:=by
  by_cases e:m.Q.K=3
  .left
   exact⟨by simpa using e,by simpa using λj=>k ⟨e,j⟩⟩
  right;simpa using e
 clear k r T d;rcases bS with ⟨L,dD⟩|L;all_goals
  go_wp2_with fail;refine(DP m dG.o D n cB dS).mono ?_;rintro j s⟨rfl,_,_,cD,o,d⟩;have cX:=Lh d;have dO:=d.cell (bV.o 0 _ rfl) cK.o;have dN:=d.cell (bV.o 1 _ rfl) cK.o;have dM:=d.cell (bV.o 2 _ rfl) cK.o;clear P;have dK:=AO o.u2;have l:ϐ B W s:=d.below (λx i=>by
   rw[ϰ]at i;rcases i with i|i
   .omega
   exact dB.o x i) (by have:=E.o;omega)
  have cJ:=Lh ((dQ.o.funs (t.o.mono dC)).funs l);have cI:B<=s:=by have:=l.size;have dH:=E.o;omega
  have cH:=Lh (Kk o);have cG:Hid (∀x∈y::(bX++(bY++cD)),B<=x):=Lh (λx i=>by
   rcases d.new x (List.mem_cons_of_mem _ i)with e|e
   .rw [ϰ]at e
    rcases e with e|e
    .omega
    exact dB.o x e
   have:=E.o;omega)
  have cF:=cX;clear o d l;go_wp2_with fail;have d:=Kj (m:={m with J:=fs++[{f with S:=f.S++[n]}]}) hs dE cN cA cM cL bZ g dL.o B cI cJ.o cH.o cG.o;rw[<-dP.o]at d;refine d.mono ?_;clear d;rintro j dA⟨J,C,_,bR,rfl,q,z⟩;obtain⟨cU,cV,rfl⟩:=q.u1;have cW:=Lh C;let⟨d,l,o⟩:=EF (R:=(w:Nat)+1+1) (bm:=(w:Nat)+1) t.o q (cF.o.trans (z.wide (F:=((w:Nat)+1)::y::(bX++(bY++cD))) (F':=((w:Nat)+1)::bR) (λb a=>List.mem_cons_of_mem _ a) (λb a=>by rw[ϰ]at a;rcases a with a|a;right;simp[a];left;exact a))) (λx i=>List.mem_cons_of_mem _ i) cO.o D D D (by have:=E.o;omega) cY.o;let⟨bT,a⟩:=ε J.J.length;rw[<-a]at l o ⊢;have P:=Lh l;have T:=Lh o;have:=AO d;have:=AX d;clear d l o C q z a dK dO dN dM;unfold AJ AC;go_wp2;exact ϖ (v:=AJ (X cU bT cV) J) (AL (p:=6) rfl P.o _ rfl) rfl ⟨_,dR.o _ cW.o,T.o⟩
def KR(a:TypeId)(b c:Nat)(w:Ϣ):(Builtin.append_ #[22,22] a #[X (O (H b 0)) 0 0,X none 0 c]).run prog w=.ok (X (O (H b 0)) 0 0) w:=by
 let⟨_,a,_,_,_⟩:=info_parts Cx;simp[Builtin.append_,run_underlying underlying22,sizeOf,typeInfo,a,Builtin.lenOf,Builtin.firstCells,storeCells]
def QN(a:w.heap[e1]?=O (K #[] 3 (0,0))):Be w (X (O (H e1 0)) 0 0) [] [e1]:=
 ⟨⟨rfl,.inr ⟨e1,0,#[],rfl,Nat.zero_le _,a,Nr _,by unfold maxLen;omega,rfl,rfl⟩⟩,rfl,ψ⟩
def J8(a:w.grownBy w' (O e1))(b:e1<w):ϐ e1 w w':=
 ⟨a.os,a.tape,a.output,a.size,λk b=>a.block k D φ⟩
def JS(F:o.guard=none)(s x:Operand)(E:o.op=.call {callee:=.builtin .append,args:=#[s,x],argTypes:=#[22,22]})
  (e1:Nat) (h:w.heap[e1]?=O (K #[] 3 (0,0))) (hs:a.eval s=X (O (H e1 0)) 0 0) (xa:Option Addr) (n xc:Nat) (l:List Int) (B:Nat) (k:a.eval x=X xa n xc) (hl:AE B w 1 Aj (X xa n xc) l) (V:l.length<=1000000)
  (N:∀g cap w',Be w' (X (O (H g 0)) n cap) l [g]->e1<=g->g<w'.heap.size->ϐ e1 w w'->wpList prog ops Q rest (a.put o.dst (X (O (H g 0)) n cap)) w'):wpList prog ops Q (o::rest) a w:=by
 have p:=(La h);have r:=QN h;let⟨J,L,S,M,T⟩:=info_parts Cx;let⟨u,z,C,_,_,_,m⟩:=hl;obtain⟨rfl,rfl,rfl⟩:xa=u/\n=l.length/\xc=z:=by simpa using C
 cases l with
 |nil=>
  cases xa with
  |none=>refine wpList_plain F λh u=>?_;have h:=KR o.type e1 xc w;unfold Oper.wp;simp only[List.length_nil]at k;simp[execOp,E,resolve,invoke,builtin,hs,k,h,Result.andThen];exact u _ _ (N e1 0 w r (Nr _) p Br)
  |some h=>refine wpList_append_fits w F s x 22 E 0 3 J 1 underlying22 L M e1 0 0 [] hs r.1 h 0 xc [] k rfl ψ ψ (Nr _) (λw' u h=>?_);refine N e1 0 w' ⟨by simpa using u,rfl,ψ⟩ (Nr _) (Nl p h.size) (J8 h p)
 |cons v l=>
  rcases m with t|⟨b,G,rfl,_,m⟩
  .simp at t
  refine wpList_append_lies w F s x 22 E 0 3 J (U 0) 1 8 underlying22 L S M T rfl δ (X (O (H e1 0)) 0 0) 0 [] hs r.1 (H b G) (v::l).length xc ((v::l).map (Value.int .i64)) k ψ (λj h c=>?_) (λh c=>?_) ψ (by unfold maxLen;simp at *;omega) (by simp at *;omega) (Nat.zero_le _) (w:Nat) rfl (λg cap w' f R e P=>?_)
  .rw [List.getElem?_map]at c
   cases d:(v::l)[j]? with
   |none=>rw[d]at c;simp at c
   |some q=>rw[d]at c;simp at c;subst c;have:=(m j q d).1;rw[Nat.mul_one]at this;rw[MO];exact this
  .obtain ⟨_,_,rfl⟩:=List.mem_map.1 c;rfl
  rw[Nat.zero_add]at f ⊢;rw[List.nil_append]at f;refine N g cap w' ⟨f,rfl,λq A=>?_⟩ ?_ P (J8 R p)
  .obtain ⟨i,y,rfl⟩:=List.getElem_of_mem A
   exact(m i _ (Lg y)).2
  rcases e with e|e
  .simp [Value.ownBlock]at e;omega
  omega
def SJ{wr e:Ϣ}{bo:Nat}{f:AY}{l:List ϒ}{j Fl Fs:List Nat}(Y:wr.heap[bo]?=O (K (AC fv m) 59 (0,0)))(W:BJ wr l fs j)(aZ:wr.ownsRow 0 150 4 fv n l)(A:(bo::(fv.ownBlock.toList++j)).Nodup)
  (o:ϐ wr wr w8) (hl:Be w8 lv f.L Fl) (hs:Be w8 sv f.S Fs) (v:∀b∈Fl++Fs,(wr:Nat)<=b) (bD:(Fl++Fs).Nodup) (bC:in64 f.fn) (bB:in64 f.pc)
  (T:e.ownsRow 0 150 4 (X (O (H g 0)) (n+1) cap) (n+1) (l++[U f.fn,U f.pc,lv,sv])) (s:w8.grownBy e fv.ownBlock) (Q:fv.ownBlock=O g\/g=(w8:Nat)) :
  (e.setCell (H bo 0) (X (O (H g 0)) (n+1) cap)).heap[bo]?=O (K (AC (X (O (H g 0)) (n+1) cap) m) 59 (0,0))/\BJ (e.setCell (H bo 0) (X (O (H g 0)) (n+1) cap)) (l++[U f.fn,U f.pc,lv,sv]) (fs++[f]) (j++(Fl++Fs))/\
  (e.setCell (H bo 0) (X (O (H g 0)) (n+1) cap)).ownsRow 0 150 4 (X (O (H g 0)) (n+1) cap) (n+1) (l++[U f.fn,U f.pc,lv,sv])/\(bo::g::(j++(Fl++Fs))).Nodup/\
  AW (bo::(fv.ownBlock.toList++j)) (bo::g::(j++(Fl++Fs))) wr (e.setCell (H bo 0) (X (O (H g 0)) (n+1) cap)):=by
 have G:=(La Y);have F:=o.size;rw[List.nodup_cons,List.mem_append,not_or]at A;let⟨⟨N,R⟩,l⟩:=A;rw[List.nodup_append]at l;obtain⟨-,bA,S⟩:=l;have V:∀x,fv.ownBlock=O x->x<(wr:Nat):=λx h=>by
  rcases aZ.2 with ⟨a,_⟩|⟨p,J,L,rfl,_,w,_⟩
  .rw [a]at h;simp[Value.ownBlock]at h
  simp[Value.ownBlock]at h;subst h;exact(La w)
 have r:=W.lt;have P:∀b∈Fl++Fs,b<(w8:Nat):=λb c=>by
  rw[List.mem_append]at c;rcases c with d|d
  .exact hl.lt b d
  exact hs.lt b d
 have aY:=Nl G F;have t:∀b,b<(w8:Nat)->fv.ownBlock≠O b->e.heap[b]?=w8.heap[b]?:=λb c h=>s.block b c (λa=>h a.symm);have y:fv.ownBlock≠O bo:=λa=>N (by rw[a];simp);have M:g≠bo:=by
  rcases Q with d|d
  .intro a;rw[a]at d;exact y d
  omega
 have q:∀b,b≠bo->(e.setCell (H bo 0) (X (O (H g 0)) (n+1) cap)).heap[b]?=e.heap[b]?:=λb c=>heap_setCell_other _ _ _ _ c;have C:∀b∈j,fv.ownBlock≠O b:=λb c a=>S b (by rw[a];simp) b c rfl;have B:∀b∈Fl++Fs,fv.ownBlock≠O b:=λb c a=>by have:=v b c;have:=V b a;omega
 have A:∀b∈j,(e.setCell (H bo 0) (X (O (H g 0)) (n+1) cap)).heap[b]?=wr.heap[b]?:=λb c=>by rw[q b (λa=>R (a▸c)),t b (Nl (r b c) F) (C b c),o.block b (r b c)]
 have h:∀b∈Fl++Fs,(e.setCell (H bo 0) (X (O (H g 0)) (n+1) cap)).heap[b]?=w8.heap[b]?:=λb c=>by rw[q b (λa=>by have:=v b c;omega),t b (P b c) (B b c)]
 have l:e.heap[bo]?=O (K (AC fv m) 59 (0,0)):=by rw[t bo aY y,o.block bo G];exact Y
 refine⟨?_,(W.kp A).add (hl.kp (λb c=>h b (by simp[c]))) (hs.kp (λb c=>h b (by simp[c]))) bC bB,?_,?_,?_⟩
 .rw [ϡ _ _ _ _ _ _ l,CY]
 .refine ⟨T.1,?_⟩
  rcases T.2 with ⟨d,_⟩|⟨p,J,L,i,c,w,u⟩
  .cases d
  have:p=g:=by simp at i;exact i.1.symm
  exact .inr ⟨p,J,L,i,c,by rw[q p (by rw[this];exact M)];exact w,u⟩
 .have E:g∉j++(Fl++Fs):=λa=>by
   rcases Q with d|d
   .rw [List.mem_append]at a
    rcases a with a|a
    .exact C g a d
    exact B g a d
   rw[List.mem_append]at a;rcases a with a|a
   .have:=r g a;omega
   have:=P g a;omega
  have z:bo∉j++(Fl++Fs):=λa=>by
   rw[List.mem_append]at a;rcases a with a|a
   .exact R a
   have:=v bo a;omega
  rw[List.nodup_cons,List.nodup_cons];refine⟨λa=>?_,E,?_⟩
  .rw [ϰ]at a
   rcases a with a|a
   .exact M a.symm
   exact z a
  rw[List.nodup_append];exact⟨bA,bD,λx e i h=>λa=>by have:=r x e;have:=v i h;omega⟩
 refine⟨s.os.trans o.os,s.tape.trans o.tape,s.output.trans o.output,by have:=s.size;simp;omega,λk h e=>?_,λb c=>?_⟩
 .rw [ϰ,List.mem_append,not_or,not_or]at e
  rw[q k e.1,t k (Nl h F) (λa=>e.2.1 (by rw[a];simp)),o.block k h]
 rw[ϰ,ϰ,List.mem_append]at c;rcases c with c|c|c|c
 .exact .inl (by simp[c])
 .rcases Q with d|d
  .exact .inl (by rw[c,ϰ,List.mem_append];exact .inr (.inl (by rw[d];simp)))
  right;omega
 .exact .inl (by simp[c])
 exact .inr (v b c)
def Xpa(m:AV)(bo:Nat)(W:Ϣ)(k:Nat)(wr:Ϣ):Prop:=
 ∃(a:Option Addr)(cap:Nat)(cells:List ϒ)(Fr:List Nat),wr.heap[bo]?=O (K (AC (X a k cap) m) 59 (0,0))/\wr.ownsRow 0 150 4 (X a k cap) k cells/\BJ wr cells (m.J.take k) Fr/\(bo::((Value.slice a k cap).ownBlock.toList++Fr)).Nodup/\AW [bo] (bo::((Value.slice a k cap).ownBlock.toList++Fr)) W wr
def Nz(m:AV)(w:Ϣ)(e:Ending)(w':Ϣ):Prop:=∃fv,e=.returned (AJ fv m)/\CE w fv m w'
def UA{b:Nat}{d pc:Int}(c:W.heap[b]?=O (K (BM d pc lv sv) T (0,0))) :
  W.cell? (H b 0)=O (U d)/\W.cell? (H b 1)=O (U pc)/\W.cell? (H b 2)=O lv/\W.cell? (H b 3)=O sv/\W.frozen? (H b 2)=ϝ/\W.frozen? (H b 3)=ϝ/\b<W:=by
 have a:∀(j:Nat)(v:ϒ),(BM d pc lv sv)[j]?=O v->W.cell? (H b j)=O v:=λj v hv=>by rw[cell_of_row _ _ _ _ _ _ c];exact hv
 exact⟨a 0 _ rfl,a 1 _ rfl,a 2 _ rfl,a 3 _ rfl,Fz c,Fz c,(La c)⟩
def MS{d:Ϣ}{a c:Nat}{l:List Int}{e cs':Array ϒ}(h:V.heap[a]?=O (K e T (0,0)))(o:Be w8 (X (O (H g 0)) n c) l [g])(f:(V:Nat)<=g)(f:ϐ V V w8)(i:ϐ d d V)(k:(d:Nat)<=a)(m:e.setIfInBounds j (X (O (H g 0)) n c)=cs') :
  (w8.setCell (H a j) (X (O (H g 0)) n c)).heap[a]?=O (K cs' T (0,0))/\Be (w8.setCell (H a j) (X (O (H g 0)) n c)) (X (O (H g 0)) n c) l [g]/\
  ϐ d d (w8.setCell (H a j) (X (O (H g 0)) n c))/\(∀b,b<(V:Nat)->b≠a->(w8.setCell (H a j) (X (O (H g 0)) n c)).heap[b]?=V.heap[b]?)/\(w8.setCell (H a j) (X (O (H g 0)) n c)).heap.size=(w8:Nat):=by
 have d:=(La h);have e:=(f.block a d).trans h;refine⟨?_,o.kp (λb d=>?_),(i.th f).setCell k _,λb d h=>?_,ψ⟩
 .rw [<-m];exact ϡ _ _ _ _ _ _ e
 .simp at d
  exact heap_setCell_other _ _ _ _ (by show b≠a;omega)
 rw[heap_setCell_other _ _ _ _ h,f.block b d]
def Mc(m:AV)(fv:ϒ)(B:Nat)(w:Ϣ)(gJ:B<=w)(s:AE B w 4 (CK B) fv m.J)(G:m.J.length<=1000)(C:∀f∈m.J,f.L.length<=1000000/\f.S.length<=1000000) :
  ϙ prog 114 #[AJ fv m] w (Nz m w):=by
 obtain⟨E,F,rfl⟩:=s.u1;have gI:=Lh s;have gK:=Lh C;let⟨n,o⟩:=ε m.J.length;rw[<-o]at G ⊢;have gF:=Lh o;let⟨G,a⟩:=ε (((w.alloc (K (AC (X E n F) m) 59)).alloc (K (AC Z AI) 59)).alloc (K (AC (X E n F) m) 59));have l:=bl3 a;have x:=sz3 a;have h:=Xda a;have u:=Xcs a;have e:=Xbs a;let⟨W,c⟩:=ε (G.setCell (H (w+1+1) 0) Z);have d:AW [(w:Nat)+1+1] [(w:Nat)+1+1] G W:=by rw[c];exact BX
 have t:W.heap[(w:Nat)+1+1]?=O (K (AC Z m) 59 (0,0)):=by rw[c,ϡ _ _ _ _ _ _ e,CY]
 have r:W.heap[(w:Nat)]?=O (K (AC (X E n F) m) 59 (0,0)):=by rw[d.block _ D (by simp<;>omega)];exact h
 have q:W.heap[(w:Nat)+1]?=O (K (AC Z AI) 59 (0,0)):=by rw[d.block _ D ψ];exact u
 have gN:=Lh (l.trans (d.below (λb G=>by simp at G;omega) l.size));have fB:=@Lh ((W:Nat)=(w:Nat)+3) (by rw[c];simpa using x);have fM:Hid (Xpa m ((w:Nat)+1+1) W 0 W):=Lh ⟨none,0,[],[],t,World.ownsRow_nil _ _ _ _,⟨rfl,rfl⟩,by simp[Value.ownBlock],by simpa[Value.ownBlock]using(AW.self:AW [(w:Nat)+1+1] [(w:Nat)+1+1] W W)⟩;have A:=AO h;have z:=AO e;have y:=AX e;have fL:=Lh r;have gW:=Lh q;clear h u e d l r q t o s C x;unfold AJ;unfold AC AI at a;unfold AC;dsimp only at a ⊢;go_in;have eJ:=Lh c;clear c;go_upto_region 2 with fail;rw[<-a];have:=Lh a;clear a;go_upto_region 3 with fail;rw[<-eJ.o];clear A z y;let⟨gR,gV,gS,gT,gU⟩:=info_parts FT;go_wp2_with fail;go_loopw[4] (λi wr=>∃k:Nat,k<=n/\i=U k/\Hid (Xpa m ((w:Nat)+1+1) W k wr)) (λi _=>n-(intOf i).toNat);exact⟨0,Nat.zero_le _,rfl,fM⟩;obtain⟨k,_,rfl,gD⟩:=hrel;let⟨h,l,gL,fZ,fA,fS,eZ,fR,Y⟩:=gD.o;have gH:=Lh (La fA);have gC:wr.heap[(w:Nat)]?=O (K (AC (X E n F) m) 59 (0,0)):=by rw[Y.block _ (by have:=fB.o;omega) (by simp<;>omega)];exact fL.o
 have P:=AD gC 0 (X E n F) rfl;by_cases gM:k<n
 .obtain ⟨f,z⟩:=Ϡ m.J k (by rw[<-gF.o];exact gM)
  have r:=(gN.o.mono gJ).trans (Y.below (λb E=>by simp at E;omega) (by have:=fB.o;omega));obtain⟨_,_,rfl,_,e1,N,⟨lv,_,J⟩,⟨sv,M,C⟩,L⟩:=(gI.o.fras r).elem z;obtain⟨x,y,rfl,-⟩:=J.frm;obtain⟨s,t,rfl,-⟩:=C.frm;have:=In k;have:(k:Int)<(n:Int):=D;have fU:=gK.o f (Lm z);let⟨d,c⟩:=ε (wr.alloc (K (BM f.fn f.pc (X x f.L y) (X s f.S t)) 150));let⟨a,u⟩:=ε (wr:Nat);have o:=bl1 c;have A:d.heap[a]?=O (K (BM f.fn f.pc (X x f.L y) (X s f.S t)) 150 (0,0)):=by rw[c,u];exact Hn _ _
  let⟨G,q⟩:=ε (d.alloc (K #[] 3));have e:=bl1 q;have F:=Xao q;have E:G.heap[a]?=O (K (BM f.fn f.pc (X x f.L y) (X s f.S t)) 150 (0,0)):=by rw[e.block a (La A)];exact A
  have eP:=Lh (J.ints ((o.mono (by have:=r.size;omega)).trans (e.mono (by have:=o.size;have:=r.size;omega))));let⟨gA,G,eK,T,eJ,eR⟩:=Λ6 C q F E (o.th e) u;let⟨V,fN,fO,gO,gE,gQ⟩:=Λ6 c fA fS eZ fR Y;have gP:=Lh z;have gG:=Lh L;have eY:=Lh r;clear fA fS eZ fR Y z J C gC gD o e A E F r L;unfold BM at c;have e:=G.o;rw[e]at eK T eJ eP;clear e;go_upto_region 7 with fail;rw[<-c,<- u];clear c u q P e1 N M;have e:a<d:=by rw[V.o,eR.o];simp
  have c:d.heap[a]?=O (K (BM f.fn f.pc (X x f.L y) (X s f.S t)) 150 (0,0)):=by rw[<-Ha _ _ _ e];exact T.o
  have fE:=Lh e;have gB:=@Lh (ϐ wr wr d) (by rw[V.o];exact AA _ _);have:=UA c;have eI:=Lh c;clear c e;go_upto_region 8 with (with_reducible refine JS rfl (.tmp 20) (.tmp 22) rfl d eK.o rfl x f.L.length y f.L B rfl eP.o fU.1 ?_;intro q J w8 e c o S;have eU:=Lh e;have fI:=Lh c;have N:=Lh ((AA d _).trans S);let⟨t0,t1,t2,t3,g4,g5,tz⟩:=UA ((N.o.block a fE.o).trans eI.o);clear e c o S);let⟨o,u⟩:=ε (w8.setCell (H a 2) (X (O (H q 0)) f.L J));rw[<-u];have r:(wr:Nat)<=a:=by rw[eR.o];exact Nr _
  let⟨c,e,d,z,A⟩:=MS (j:=2) (cs':=BM f.fn f.pc (X (O (H q 0)) f.L J) (X s f.S t)) eI.o eU.o fI.o N.o gB.o r rfl;rw[<-u]at c e d z A;let⟨cQ,fW,fY,fV⟩:=Λ4 c e d r;have y:=e.lt q ψ;have fX:=Lh y;have x:=(La c);have fC:=Lh x;have:=UA c;have eV:=@Lh ((o.alloc (K #[] 3)).heap[(o:Nat)]?=O (K #[] 3 (0,0))) (Hn _ _);have eT:=@Lh (AE B (o.alloc (K #[] 3)) 1 Aj (X s f.S t) f.S) (gA.o.ints ((d.mono (by have:=eY.o.size;omega)).trans ((AA _ _).mono (by have:=eY.o.size;have:=d.size;omega))));clear u r c e d z A t0 t1 t2 t3 g4 g5 tz y x;go_upto_region 9 with (with_reducible refine JS rfl (.tmp 25) (.tmp 27) rfl o eV.o rfl s f.S.length t f.S B rfl eT.o fU.2 ?_;intro z A eL d c r e;have eS:=Lh d;have eW:=Lh c;have M:=Lh ((AA o _).trans e);let⟨t0,t1,t2,t3,g4,g5,tz⟩:=UA ((M.o.block a fC.o).trans cQ.o);clear d c r e);let⟨u,R⟩:=ε (eL.setCell (H a 3) (X (O (H z 0)) f.S A));rw[<-R];let⟨L,P,c,Q,eO⟩:=MS (j:=3) (cs':=BM f.fn f.pc (X (O (H q 0)) f.L J) (X (O (H z 0)) f.S A)) cQ.o eS.o eW.o M.o fY.o fV.o rfl;rw[<-R]at L P c Q eO;have eM:q≠a:=by have:=fI.o;have:=fE.o;omega
  have fK:=Lh (fW.o.kp (λb e=>by
   simp at e;subst e;exact Q _ fX.o eM))
  have fJ:=Lh P;let⟨C,a⟩:=ε (u.alloc (K #[U f.fn,U f.pc,X (O (H q 0)) f.L J,X (O (H z 0)) f.S A] 150));have o:=bl1 a;have eN:=Lh (c.th o);have r:=Lh a;have e:u.heap[(w:Nat)+1+1]?=O (K (AC (X h k l) m) 59 (0,0)):=by rw[c.block _ gH.o];exact fN.o
  have:=AD e 0 (X h k l) rfl;have fP:=Lh (KZ fO.o (λb d=>eN.o.block b (PQ fO.o b d)));have:=UA L;have fQ:=@Lh (∀j d,[Value.int .i64 f.fn,U f.pc,X (O (H q 0)) f.L J,X (O (H z 0)) f.S A][j]?=O d->C.cell? (((H u 0):Addr).add j)=O d) (by rw[a];exact Mw u _ _);clear R L P c Q eO t0 t1 t2 t3 g4 g5 tz eM a o e;have fT:Hid ((Value.slice h k l).ownBlock≠O ((w:Nat)+1+1)):=Lh (λd=>by
   have a:=gE.o;rw[d,List.nodup_cons]at a;exact a.1 ψ)
  have eM:=@Lh (C.heap[(w:Nat)+1+1]?=O (K (AC (X h k l) m) 59 (0,0))) (by rw[eN.o.block _ gH.o];exact fN.o);have fD:=Lh (La eM.o);go_upto_region 5 with ((with_reducible refine wpList_append_lies _ rfl (.tmp 31) (.tmp 33) 55 rfl 0 150 gR (.agg #[U 0,U 0,Z,Z]) 4 64 underlying55 gV gS gT gU rfl δ (X h k l) k gL rfl (by rw[<-r.o];exact fP.o) (H u 0) 1 1 [U f.fn,U f.pc,X (O (H q 0)) f.L J,X (O (H z 0)) f.S A] rfl rfl (by rw[<-r.o];exact fQ.o) (by simp[Value.oneCell']) D (by unfold maxLen;omega) D (Nat.zero_le _) (C:Nat) (by rw[r.o]) ?_;intro g cap Q e c d a;rw[<-r.o]at c;have fH:=Lh e;have fG:=Lh c;have fF:=Lh d;have a:Q.heap[(w:Nat)+1+1]?=O (K (AC (X h k l) m) 59 (0,0)):=(c.block ((w:Nat)+1+1) fD.o fT.o.symm).trans eM.o;trace "B";have:=AD a 0 (X h k l) rfl;trace "C";obtain⟨vf9,-⟩:=AX a;trace "D";have:=(La a);clear e c d a));have s:=SJ (m:=m) (fs:=m.J.take k) (f:=f) fN.o gO.o fO.o gE.o eN.o (hl:=fK.o.kp (w':=C) (λb a=>by rw[r.o];exact Ha _ _ _ (fK.o.lt b a))) (hs:=fJ.o.kp (w':=C) (λb a=>by rw[r.o];exact Ha _ _ _ (fJ.o.lt b a)))
   (λb a=>by have d:=fI.o;have e:=eW.o;have:=gB.o.size;have:=fY.o.size;simp at a;omega) (by have d:=fX.o;have e:=eW.o;simp;omega) gG.o.1 gG.o.2 fH.o fG.o fF.o
  let⟨r,q⟩:=ε (Q.setCell (H (w+1+1) 0) (X (O (H g 0)) (k+1) cap));rw[<-q]at s ⊢;let⟨a,c,d,e,o⟩:=s;have eO:Hid (Xpa m ((w:Nat)+1+1) W (k+1) r):=Lh ⟨_,_,_,_,a,d,by rw[List.take_add_one,gP.o];exact c,e,gQ.o.trans o⟩;clear q a c d e o;go_wp2;go_roundw;exact⟨k+1,D,by go_num,eO⟩;simp[intOf];omega
 obtain rfl:k=n:=D;have eQ:(m.J.take k)=m.J:=by rw[gF.o];exact List.take_length
 rw[eQ]at eZ;have hv:Cv wr (X h k l) m.J ((Value.slice h k l).ownBlock.toList++fZ):=⟨gL,fZ,by rw[<-gF.o];exact fS,eZ,rfl,(List.nodup_cons.1 fR).2⟩;have L:∀b∈(Value.slice h k l).ownBlock.toList++fZ,(w:Nat)+1+1<=b:=λb P=>by
  rcases Y.new b (List.mem_cons_of_mem _ P)with c|c
  .simp at c;omega
  have:=fB.o;omega
 have S:wr.heap[(w:Nat)+1]?=O (K (AC Z AI) 59 (0,0)):=by rw[Y.block _ (by have:=fB.o;omega) ψ];exact gW.o
 have d:=gN.o.trans (Y.below (λb a=>by simp at a;omega) (by have:=fB.o;omega));let⟨e,c⟩:=AZ S (X h k l) m;have eX:Hid (Nz m w (.returned (AJ (X h k l) m)) (Ai wr (w+1) (X h k l) m)):=Lh ⟨_,rfl,_,hv.kp (λb a=>c.block b (hv.lt b a) (λo=>by
  have:=L b a;rw[List.mem_singleton]at o;omega)),λb a=>by have:=L b a;omega,d.trans (c.below (λb a=>by simp at a;omega) d.size)⟩
 have R:=Lh e;have:=AO fA;have:=AO S;have:=AX S;clear eQ eZ hv L S d e c fA fS fR Y gD gC;go_wp2;exact ϖ (v:=AJ (X h k l) m) (AL (p:=2) rfl R.o _ rfl) rfl eX.o
def N4(c:AQ)(m:AV)(n:Int)(w:Ϣ)(e:Ending)(w':Ϣ):Prop:=∃m' fv,ED c m n m'/\e=.returned (AJ fv m')/\CE w fv m' w'
def Sp{m':AV}{n:Int}(j:ED c m n m')(a:DK w [] m' (.returned (AJ fv m')) w'):N4 c m n w (.returned (AJ fv m')) w':=by
 let⟨e,h,f,g,d⟩:=a;refine⟨m',e,j,f,h,g,λb i=>?_,d.below ψ (Nr _)⟩;rcases d.new b i with a|a
 .simp at a
 exact a
def C9.nframes{r:Rq}{f:AY}(a:C9 c m r fs f):m.J.length<=200:=by
 rw[a.fr,List.length_append];have:=a.len;simp;omega
def Sg(hs:AU c)(dK:Bv c)(i fv:ϒ)(m:AV)(n:Int){f:AY}(l:C9 c m m.Q fs f)(C:EB m)(B:Nat)(w:Ϣ)(r:B<=w)(A:BF B w i c)(k:AE B w 4 (CK B) fv m.J)(z:∀f∈m.J,f.L.length<=1000000/\f.S.length<=1000000)(q:Bj m.Q n=ϑ) :
  ϙ prog 116 #[i,AJ fv m,U n] w (N4 c m n w):=by
 obtain⟨_,cg,rfl,o,e,_⟩:=id A;obtain⟨S,T,rfl⟩:=o.u1;obtain⟨E,G,rfl⟩:=e.u1;obtain⟨t,u,rfl⟩:=k.u1;let⟨s,d⟩:=ε m.J.length;have i:=l.nframes;let⟨bQ,cS,dF,dG,dH⟩:=Λ5 k z l C q;rw[<-d]at i ⊢;have y:=Lh d;let⟨W,a⟩:=ε (((w.alloc (K (Bc S T E G c) 25)).alloc (K (AC (X t s u) m) 59)).alloc (K (AC Z AI) 59));have J:=Lh (bl3 a);have dJ:=Lh (sz3 a);have j:=Xf2 a;have h:=Xcs a;have g:=Xbs a;have dI:=Lh g;let⟨bJ,bK,bL,bN,bO,bP,bR,bT,bV⟩:=AO h;let⟨bG,bH,bI⟩:=Γ3 j;have x:=Nt r J.o.size;have cP:=@Lh (AE B W.drew 4 (CK B) (X t s u) m.J) ((bQ.o.fras (J.o.mono r)).fras (AG Br 1) |> λi=>by rw[<-y.o]at i;exact i);have cR:=@Lh (AE B W.drew 5 (CW B) (X E c.q0 G) c.q0) ((e.funs (J.o.mono r)).funs (AG Br 1));clear j h g A k l C q z d o e;unfold AJ;unfold AC AI at a;unfold AC;dsimp only at a ⊢;go_in;go_upto_region 1 with fail;rw[<-a];clear a;go_region_held3 (λV=>V.cell? (H w 0)=O (X S c.H T)/\V.cell? (H w 1)=O (U c.G)/\V.cell? (H w 2)=O (X E c.q0 G)/\V.cell? (H (w+1) 0)=O (X t s u)/\V.cell? (H (w+1) 1)=O (U m.Q.K)/\V.cell? (H (w+1) 2)=O (U m.Q.O)/\V.cell? (H (w+1) 3)=O (U m.Q.D)/\V.cell? (H (w+1) 4)=O (U m.Q.V)/\V.cell? (H (w+1) 5)=O (U m.Q.X)/\V.cell? (H (w+1) 6)=O (U m.Y)/\V.cell? (H (w+1) 7)=O (U m.C)/\V.cell? (H (w+1) 8)=O (U m.I))
  (first|with_reducible exact⟨cG,cH,cI,u0,u1,u2,u3,u4,u5,u6,u7,u8⟩|with_reducible exact⟨bM,bS,bW,bX,bY,bZ,cA,cB,cC,cD,cE,cF⟩|exact⟨cT,cU,cV,cW,cX,cY,cZ,dA,dB,dC,dD,dE⟩|exact⟨bG,bH,bI,bJ,bK,bL,bN,bO,bP,bR,bT,bV⟩)
  (first
   |(go_at_call 114;refine(Mc m _ B W.drew x cP.o (by rw[<-y.o];omega) cS.o).mono ?_;rintro cL A⟨_,rfl,L,h,q,j⟩;obtain⟨a1,c1,rfl⟩:=h.u1;rw[<-y.o]at h;have a:ϐ W W A:=(AG Br 1).trans j;have bU:=Lh h;have C:Hid (∀b∈L,(W:Nat)<=b):=Lh q;have Y:=Lh (cR.o.funs (j.mono x));have bM:=AB a bG;have bS:=AB a bH;have bW:=AB a bI;have bX:=AB a bJ;have bY:=AB a bK;have bZ:=AB a bL;have cA:=AB a bN;have cB:=AB a bO;have cC:=AB a bP;have cD:=AB a bR;have cE:=AB a bT;have cF:=AB a bV;have l:=Lh a;clear h q j a;unfold AJ AC;rw[<-y.o])
   |(go_at_call 151;refine(Rm hs dK S E _ T G c.G n dF.o dG.o B (Nt x l.o.size) Y.o bU.o (λb g=>Nt x (C.o b g)) dH.o).mono ?_;rintro cM cN⟨z,Q,_,M,rfl,k,P⟩;obtain⟨a9,c9,rfl⟩:=k.u1;have cO:=Lh Q;have e:=LU l.o P (λb g=>C.o b g);have:=Lh k;have N:=e.wide (F:=[(w:Nat)+1]) (F':=M) ψ (λb g=>.inl g);let⟨t1,t2,t3⟩:=EF (R:=(w:Nat)+1+1) (bm:=(w:Nat)+1) (F:=[]) J.o k N (λb g=>g) ψ D D D (by have:=dJ.o;omega) dI.o;let⟨r0,r1,r2,r3,r4,r5,r6,r7,r8⟩:=AO t1;let⟨q0,q1,q2,q3,q4,q5,q6,q7,q8⟩:=AX t1;have:=(La t1);let⟨n9,hn9⟩:∃o,o=z.J.length:=⟨_,rfl⟩;rw[<-hn9]at t2 t3 ⊢;have:=Lh hn9;have cJ:=Lh t2;have cK:=Lh t3;have cG:=e.cell bG ψ;have cH:=e.cell bH ψ;have cI:=e.cell bI ψ;have u0:=e.cell bJ ψ;have u1:=e.cell bK ψ;have u2:=e.cell bL ψ;have u3:=e.cell bN ψ;have u4:=e.cell bO ψ;have u5:=e.cell bP ψ;have u6:=e.cell bR ψ;have u7:=e.cell bT ψ;have u8:=e.cell bV ψ;have d:=(AZ t1 (X a9 n9 c9) z).2;have cT:=d.cell cG φ;have cU:=d.cell cH φ;have cV:=d.cell cI φ;have cW:=d.cell u0 ψ;have cX:=d.cell u1 ψ;have cY:=d.cell u2 ψ;have cZ:=d.cell u3 ψ;have dA:=d.cell u4 ψ;have dB:=d.cell u5 ψ;have dC:=d.cell u6 ψ;have dD:=d.cell u7 ψ;have dE:=d.cell u8 ψ;clear d;clear Q k P e N t1 t2 t3 hn9;unfold AJ AC))
 all_goals
  go_wp2;exact ϖ (v:=AJ (X a9 n9 c9) z) (AL (p:=6) rfl cJ.o _ rfl) rfl (Sp cO.o cK.o)
