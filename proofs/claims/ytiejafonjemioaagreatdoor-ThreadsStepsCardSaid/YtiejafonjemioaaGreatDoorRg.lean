import Derived.Test.YtiejafonjemioaaGreatDoorRn
import Derived.Test.YtiejafonjemioaaGreatDoorStep0
set_option maxHeartbeats 4000000
set_option maxRecDepth 100000
set_option linter.all false
open Go renaming World→Ϣ,Value→ϒ,Calls→ϙ,heap_setCell_same→ϡ
open Go.RowKit renaming Below→ϐ
open Option renaming some→ς
open Bool renaming false→ϝ,true→ϑ
open List renaming replicate→ϱ
open Go.Value renaming slice→σ
open Go.Obj renaming cells→χ
namespace Go.Proofs.YtiejafonjemioaaGreatDoor
open Go.RowKit Proofs.Tryz
variable {c:AQ} {f:BK} {x:Cd} {hs hl:List Int} {ds l dl:List Bool} {q k i n j g base gd:Nat} {v:Int} {b:Bool} {V V' w W V2:Ϣ} {F Fh Fd F':List Nat} {ops:Array Oper} {rest:List Oper} {o:Oper} {a:Act} {Q:Exit->Act->Ϣ->Prop} {hv dv:ϒ}
def KF (b:Bool) (w:Ϣ):ϙ prog 184 #[.bool b] w λe a=>e=.returned (ι (D0 b))/\a=w:=by
 cases b;all_goals
  go_enter func184,ntmps184;go_wp2;go_ret;exact ⟨rfl,rfl⟩
def XO (op:Int):Int:=if BB op then 2 else Bk op
def UT (op:Int):Int:=if BB op then 1 else DI op
def DZ (k:Int) (e:x.op=k) (g:k≠9) (d:k≠10):AM c f x=XO k/\AK c f x=UT k:=by
 have a:¬x.op=9:=ω;have b:¬x.op=10:=ω;unfold AM AK XO UT;rw [if_neg a,if_neg b,if_neg a,if_neg b,e];exact ⟨rfl,rfl⟩
def Vw (h:BB x.op):AM c f x=2/\AK c f x=1:=by
 obtain ⟨a,b⟩:=DZ (c:=c) (f:=f) (x:=x) x.op rfl (by unfold BB at h;omega) (by unfold BB at h;omega);unfold XO at a;unfold UT at b;rw [if_pos h] at a b;exact ⟨a,b⟩
def QZ (c:AQ) (d:ϒ) (f:BK) (fv:ϒ) (x:Cd) (h:ϒ) (B:Nat) (w:Ϣ) (m:BF B w d c) (n:EI B w fv f) (p:IV B w h x) (a:x.op=10) :
  ϙ prog 158 #[d,fv,h] w λe g=>e=.returned (.tuple #[ι (AM c f x),ι (AK c f x)])/\ϐ w w g:=by
 obtain ⟨fv,A,rfl,i,j,t⟩:=m;obtain ⟨F,rfl,o,C,D,u⟩:=n;obtain ⟨rfl,k,l⟩:=p;obtain ⟨y,q,rfl,-⟩:=i;obtain ⟨z,r,rfl,-⟩:=j;obtain ⟨E,s,rfl,-⟩:=o;have b:=@Lh (AM c f x=D0 f.result/\AK c f x=0) (by
  constructor
  .unfold AM;rw [if_neg ω,if_pos a]
  .unfold AK;rw [if_neg ω,if_pos a])
 obtain ⟨v,G⟩:=x;dsimp only at a k l;subst a;go_enter func158,ntmps158;go_wp2_with fail;refine (KF _ _).mono ?_;rintro e g ⟨rfl,rfl⟩;go_wp2_with fail
 go_ret2
 exact ⟨by rw [b.o.1,b.o.2];rfl,((AA _ _).th (AA _ _)).th (AA _ _)⟩
def QY (c:AQ) (h:ϒ) (f:BK) (fv:ϒ) (x:Cd) (i:ϒ) (B:Nat) (w:Ϣ) (m:BF B w h c) (n:EI B w fv f) (s:IV B w i x) (I:1<=x.op) (J:x.op<=31) (r:x.op≠9) (g:x.op≠10) :
  ϙ prog 158 #[h,fv,i] w λe t=>e=.returned (.tuple #[ι (AM c f x),ι (AK c f x)])/\ϐ w w t:=by
 obtain ⟨fv,H,rfl,k,l,A⟩:=m;obtain ⟨O,rfl,o,L,M,C⟩:=n;obtain ⟨rfl,D,K⟩:=s;obtain ⟨F,u,rfl,-⟩:=k;obtain ⟨G,v,rfl,-⟩:=l;obtain ⟨N,y,rfl,-⟩:=o;have E:=ξ x.op 9 r;have z:=ξ x.op 10 g;unfold in64 at *
 have d:∀ p q:Int,AM c f x=p/\AK c f x=q->Ending.returned (Value.tuple #[ι p,ι q])=.returned (.tuple #[ι (AM c f x),ι (AK c f x)]):=λp q ⟨a,b⟩=>by rw [a,b]
 have j:=Lh d;clear d;go_enter func158,ntmps158;go_wp2_with fail;all_goals
  go_ret2
  refine ⟨j.o _ _ ?_,((AA _ _).th (AA _ _)).th (AA _ _)⟩;simp only [beq_iff_eq,beq_eq_false_iff_ne,ne_eq] at *
  first
   | exact DZ 1 (by assumption) ω ω
   | exact DZ 2 (by assumption) ω ω
   | exact DZ 4 (by assumption) ω ω
   | exact DZ 8 (by assumption) ω ω
   | exact DZ 3 (by assumption) ω ω
   | exact DZ 5 (by assumption) ω ω
   | exact DZ 12 (by assumption) ω ω
   | exact DZ 30 (by assumption) ω ω
   | exact DZ 6 (by assumption) ω ω
   | exact DZ 14 (by assumption) ω ω
   | exact DZ 26 (by assumption) ω ω
   | exact DZ 29 (by assumption) ω ω
   | exact DZ 7 (by assumption) ω ω
   | exact DZ 11 (by assumption) ω ω
   | exact DZ 13 (by assumption) ω ω
   | exact DZ 31 (by assumption) ω ω
   | exact Vw (by unfold BB;omega)
def O7 (c:AQ) (u:ϒ) (f:BK) (fv:ϒ) (x:Cd) (C:ϒ) (B:Nat) (w:Ϣ) (K:B<=w) (L:BF B w u c) (M:EI B w fv f) (O:IV B w C x) (k:x.op=9) (a:0<=x.a) (j:x.a<c.funcs.length) :
  ϙ prog 158 #[u,fv,C] w λe Q=>e=.returned (.tuple #[ι (AM c f x),ι (AK c f x)])/\ϐ w w Q:=by
 obtain ⟨fv,gv,rfl,G,H,S⟩:=L;obtain ⟨kv,rfl,N,hn,hp,T⟩:=M;obtain ⟨rfl,t,z⟩:=O;obtain ⟨v,q,rfl,-⟩:=G;obtain ⟨ga,r,rfl,R,-,-,I⟩:=H;obtain ⟨P,D,rfl,-⟩:=N;obtain ⟨n,l⟩:=Int.eq_ofNat_of_zero_le a;have J:n<c.funcs.length:=ω;obtain ⟨g,i⟩:∃ g,c.funcs[n]?=ς g:=⟨_,Lg J⟩
 have s:=@Lh (AM c f x=g.params/\AK c f x=D0 g.result) (by
  have:Dt c x.a=ς g:=by unfold Dt;rw [l];exact i
  constructor
  .unfold AM;rw [if_pos k,this]
  .unfold AK;rw [if_pos k,this])
 rcases I with h|⟨b,o,rfl,F,y⟩
 .rw [h] at i;simp at i
 obtain ⟨W,d⟩:=ε ((((w.alloc (χ #[σ v c.H q,ι c.G,σ (ς (π b o)) c.funcs r] 25)).alloc (χ #[.string f.name,ι f.params,ι f.L,.bool f.result,σ P f.code D] 93)).alloc (χ #[ι x.op,ι x.a] 124)));have p:=@Lh (ϐ w w W) (by rw [d];exact ((AA _ _).th (AA _ _)).th (AA _ _));have A:AR W w [σ v c.H q,ι c.G,σ (ς (π b o)) c.funcs r]:=by rw [d];exact (AF.alloc _).alloc _
 have m:AR W (w+1+1) [ι x.op,ι x.a]:=by rw [d];exact J3
 obtain ⟨X,xa⟩:=x;dsimp only at k t z a j l m d ⊢;subst k l;have Y:=A 2 _ rfl;have x1:=m 1 _ rfl;obtain ⟨_,Z,_,g3,_⟩:=(y n g i).below (p.o.mono K) F;have E:=Lh d;have U:=In n;have V:(n:Int)<(c.funcs:Int):=ω;clear d A m y i z t a j;go_enter func158,ntmps158;go_wp2_with fail;rw [<-E.o];go_quiet ((go_at_call 184;exact Calls.quiet_of_same (KF _ _)));go_wp2_with fail
 go_ret2
 exact ⟨by rw [s.o.1,s.o.2];rfl,AG p.o _⟩
def Ld (c:AQ) (a:ϒ) (f:BK) (fv:ϒ) (x:Cd) (b:ϒ) (B:Nat) (w:Ϣ) (m:B<=w) (g:BF B w a c) (h:EI B w fv f) (i:IV B w b x) (l:Pg c f) (k:x∈f.code) :
  ϙ prog 158 #[a,fv,b] w λe n=>e=.returned (.tuple #[ι (AM c f x),ι (AK c f x)])/\ϐ w w n:=by
 by_cases d:x.op=9
 .have:=l.call x k d
  exact O7 c a f fv x b B w m g h i d this.1 this.2
 by_cases j:x.op=10
 .exact QZ c a f fv x b B w g h i j
 .have:=l.op x k
  exact QY c a f fv x b B w g h i this.1 this.2 d j
def Xo (x:Cd) (i:Nat) (w:Ϣ) (e:Ending) (w':Ϣ):Prop:=
 ∃ (a:Option Addr) (l:List Nat) (cap:Nat),e=.returned (σ a l cap)/\l.length<=cap/\cap<=2/\(l=[]\/∃ g,a=ς (π g 0)/\(w:Nat)<=g/\g<(w':Nat)/\∀ (j:Nat) y,l[j]?=ς y->w'.cell? (π g j)=ς (ι (y:Int)))/\l=Am x i/\ϐ w w w'
def So (x:Cd) (i:Nat) (w:Ϣ) (u:i<=1048576) (h:x.op=11\/x.op=12->0<=x.a) :
  ϙ prog 159 #[.agg #[ι x.op,ι x.a],ι (i:Int)] w (Xo x i w):=by
 obtain ⟨W,d⟩:=ε (w.alloc (χ #[ι x.op,ι x.a] 124));have o:=Lh (bl1 d);have m:=ce11 d;obtain ⟨p,q⟩:=Γ2 m;have l:=Lh d;obtain ⟨a,v⟩:=x;dsimp only at p q h l ⊢;clear m d;by_cases e:a=10
 .subst e
  go_enter func159,ntmps159;go_wp2;go_ret;rw [<-l.o];exact ⟨none,[],0,rfl,ψ,ω,.inl rfl,rfl,o.o⟩
 have r:=ξ a 10 e;by_cases f:a=11
 .subst f
  obtain ⟨n,rfl⟩:=Int.eq_ofNat_of_zero_le (h (.inl rfl));go_enter func159,ntmps159;go_wp2;go_ret;refine ⟨_,[n],1,rfl,ψ,ω,.inr ⟨(w:Nat)+1,rfl,ω,ψ,λj y c=>?_⟩,by simp [Am],(AA _ _).th (AA _ _)⟩;exact GF j _ (by
   have:([ι (n:Int)]:List ϒ)[j]?=ς (ι (y:Int)):=by
    have b:(([n]:List Nat).map (λ(k:Nat)=>Value.int .i64 (k:Int)))[j]?=ς (ι (y:Int)):=by rw [List.getElem?_map,c];rfl
    exact b
   exact this)
 have s:=ξ a 11 f;by_cases g:a=12
 .subst g
  obtain ⟨n,rfl⟩:=Int.eq_ofNat_of_zero_le (h (.inr rfl));go_enter func159,ntmps159;go_wp2;go_ret;refine ⟨_,[i+1,n],2,rfl,ψ,ω,.inr ⟨(w:Nat)+1,rfl,ω,ψ,λj y c=>?_⟩,by simp [Am],(AA _ _).th (AA _ _)⟩;exact GF j _ (by
   have:([ι ((i:Int)+1),ι (n:Int)]:List ϒ)[j]?=ς (ι (y:Int)):=by
    have b:(([i+1,n]:List Nat).map (λ(k:Nat)=>Value.int .i64 (k:Int)))[j]?=ς (ι (y:Int)):=by rw [List.getElem?_map,c];rfl
    exact b
   exact this)
 have t:=ξ a 12 g;go_enter func159,ntmps159;go_wp2;go_ret;refine ⟨_,[i+1],1,rfl,ψ,ω,.inr ⟨(w:Nat)+1,rfl,ω,ψ,λj y c=>?_⟩,by simp [Am,e,f,g],(AA _ _).th (AA _ _)⟩;exact GF j _ (by
  have:([ι ((i:Int)+1)]:List ϒ)[j]?=ς (ι (y:Int)):=by
   have b:(([i+1]:List Nat).map (λ(k:Nat)=>Value.int .i64 (k:Int)))[j]?=ς (ι (y:Int)):=by rw [List.getElem?_map,c];rfl
   exact b
  exact this)
def Tb (hs:List Int) (ds:List Bool) (q:Nat):Bool:=decide (0<=hs.getD q (-1)) && !(ds.getD q ϑ)
def N6 (h:hs[q]?=ς v) (d:ds[q]?=ς b):Tb hs ds q=(decide (0<=v) && !b):=by
 unfold Tb;rw [List.getD_eq_getElem?_getD,List.getD_eq_getElem?_getD,h,d];rfl
def Tk (h:ds.length<=q):Tb hs ds q=ϝ:=by
 unfold Tb;rw [List.getD_eq_getElem?_getD (l:=ds),List.getElem?_eq_none h];simp
structure It (c:AQ) (f:BK) (hs:List Int) (ds:List Bool) (skip:Nat->Prop):Prop where
 lab:KL c f hs (Tb hs ds) skip
 len:ds.length=f.code.length
 dn:∀ (q:Nat),ds[q]?=ς ϑ->∃ v,hs[q]?=ς v/\0<=v
def Qm (ds:List Bool):Nat:=ds.countP (λb=>!b)
def U6 (b:ds[k]?=ς ϝ):Qm (ds.set k ϑ)+1=Qm ds:=by
 unfold Qm;induction ds generalizing k with
 | nil=>simp at b
 | cons a l c=>
  cases k with
  | zero=>simp at b;subst b;simp
  | succ k=>simp at b;rw [List.set_cons_succ,List.countP_cons,List.countP_cons];have:=c b;omega
def It.start (d:Pg c f):It c f ((ϱ f.code.length (-1:Int)).set 0 0) (ϱ f.code.length ϝ) (λ_=>False) where
 lab:=KL.start d _ (λi=>by
  have g:=d.one;by_cases b:i<f.code.length
  .have hd:(ϱ f.code.length ϝ)[i]?=ς ϝ:=by simp [b]
   by_cases a:i=0
   .subst a
    have e:((ϱ f.code.length (-1:Int)).set 0 0)[0]?=ς 0:=List.getElem?_set_self (by rw [List.length_replicate];omega);rw [N6 e hd];rfl
   .have:((ϱ f.code.length (-1:Int)).set 0 0)[i]?=ς (-1):=by rw [List.getElem?_set_ne ω];simp [b]
    rw [N6 this hd];have:decide (i=0)=ϝ:=by simpa using a
    rw [this];rfl
  .rw [Tk φ]
   have:decide (i=0)=ϝ:=by simp;omega
   rw [this])
 len:=by simp
 dn:=λq h=>by rw [List.getElem?_replicate] at h;split at h<;>simp at h
def It.take (h:It c f hs ds (λ_=>False)) (hv:hs[i]?=ς v) (b:0<=v) (g:ds[i]?=ς ϝ):It c f hs (ds.set i ϑ) (λj=>j=i) where
 lab:=h.lab.take (λj=>by
  by_cases e:j=i
  .subst e
   have hl:=(Ll g)
   rw [N6 hv (List.getElem?_set_self hl)];simp
  .have h1:(ds.set i ϑ).getD j ϑ=ds.getD j ϑ:=by rw [List.getD_eq_getElem?_getD,List.getD_eq_getElem?_getD,List.getElem?_set_ne (λq=>e q.symm)]
   have d:=θ (j=i) e;unfold Tb;rw [h1,d];simp)
 len:=by rw [List.length_set];exact h.len
 dn:=λq a=>by
  by_cases e:q=i
  .subst e;exact ⟨v,hv,b⟩
  .rw [List.getElem?_set_ne (λz=>e z.symm)] at a;exact h.dn q a
structure RB (c:AQ) (f:BK) (hs:List Int) (ds:List Bool) (i:Nat) (v n:Int) (l:List Nat) (j:Nat):Prop where
 rl:It c f hs ds (λq=>q=i)
 at_:hs[i]?=ς v
 so:∀ (t k:Nat),t<j->l[t]?=ς k->hs[k]?=ς n
def RB.same {n:Int} {l:List Nat} (h:RB c f hs ds i v n l j) (d:l[j]?=ς k) (a:hs[k]?=ς n):RB c f (hs.set k n) ds i v n l (j+1):=by
 have e:hs.set k n=hs:=List.ext_getElem? (λq=>by
  by_cases e:k=q
  .subst e;rw [List.getElem?_set_self (Ll a),a]
  .rw [List.getElem?_set_ne e])
 rw [e];refine ⟨h.rl,h.at_,λt q g b=>?_⟩;by_cases e:t=j
 .subst e;rw [d] at b;cases b;exact a
 .exact h.so t q ω b
def RB.label (w:Pg c f) (s:f.code[i]?=ς x) (l:0<=v) (D:AM c f x<=v)
  (h:RB c f hs ds i v (v - AM c f x+AK c f x) (Am x i) j) (r:(Am x i)[j]?=ς k) (a:hs[k]?=ς (-1)) :
  RB c f (hs.set k (v - AM c f x+AK c f x)) ds i v (v - AM c f x+AK c f x) (Am x i) (j+1):=by
 have E:=w.pushes x (Lm s);have n:=(Ll a)
 have A:∀ (q:Nat) u,hs[q]?=ς u->0<=u->k≠q:=λq u d b e=>by subst e;rw [a] at d;cases d;omega
 have m:∀ (q:Nat) u,hs[q]?=ς u->0<=u->(hs.set k (v - AM c f x+AK c f x))[q]?=ς u:=λq u d b=>by rw [List.getElem?_set,if_neg (A q u d b)];exact d
 have y:ds[k]?=ς ϝ:=by
  have hl:k<ds.length:=by rw [h.rl.len,<- h.rl.lab.len];exact n
  cases p:ds[k] with
  | false=>rw [Lg hl,p]
  | true=>obtain ⟨u,b,o⟩:=h.rl.dn k (by rw [Lg hl,p]);rw [a] at b;cases b;omega
 have C:∀ q,Tb (hs.set k (v - AM c f x+AK c f x)) ds q=(Tb hs ds q || decide (q=k)):=λq=>by
  by_cases e:q=k
  .subst e
   rw [N6 (List.getElem?_set_self n) y];have:decide (0<=v - AM c f x+AK c f x)=ϑ:=by simp;omega
   rw [this];simp
  .have h1:(hs.set k (v - AM c f x+AK c f x)).getD q (-1)=hs.getD q (-1):=by rw [List.getD_eq_getElem?_getD,List.getD_eq_getElem?_getD,List.getElem?_set_ne (λz=>e z.symm)]
   have B:=θ (q=k) e;unfold Tb;rw [h1,B];simp
 refine ⟨⟨h.rl.lab.label w h.at_ l s D (Lm r) a C,h.rl.len,λq g=>?_⟩,m _ _ h.at_ l,λt q F g=>?_⟩
 .obtain ⟨u,b,o⟩:=h.rl.dn q g
  exact ⟨u,m q u b o,o⟩
 .by_cases e:t=j
  .subst e;rw [r] at g;cases g
   exact List.getElem?_set_self n
  .exact m _ _ (h.so t q ω g) ω
def RB.done (g:f.code[i]?=ς x) (b:AM c f x<=v) (d:x.op=10->v<=AM c f x)
  (h:RB c f hs ds i v (v - AM c f x+AK c f x) (Am x i) j) (l:(Am x i).length<=j):It c f hs ds (λ_=>False):=
 ⟨h.rl.lab.put h.at_ ⟨x,g,b,d,λk a=>by
  obtain ⟨t,e,rfl⟩:=List.getElem_of_mem a;exact h.so t _ ω (Lg e)⟩,h.rl.len,h.rl.dn⟩
def RB.clash {u:Int} (l:f.code[i]?=ς x) (d:0<=v)
  (h:RB c f hs ds i v (v - AM c f x+AK c f x) (Am x i) j) (e:(Am x i)[j]?=ς k) (a:hs[k]?=ς u) (g:0<=u) (b:u≠v - AM c f x+AK c f x):¬CQ c f:=
 λhs=>b (hs.2 k _ _ (h.rl.lab.reach k u a g) ((h.rl.lab.reach i v h.at_ d).next l (Lm e)))
def It.fin (d:Pg c f) (h:It c f hs ds (λ_=>False)) (a:∀ j,j<f.code.length->Tb hs ds j=ϝ):CQ c f/\DB c f hs:=
 h.lab.fin d (λi=>by
  by_cases b:i<f.code.length
  .exact a i b
  .exact Tk (by rw [h.len];omega))
def Gw (V:Ϣ) (g:Nat) (hs:List Int):Prop:=∃ cur,V.heap[g]?=ς (χ cur 3 (0,0))/\cur.toList.take hs.length=hs.map (Value.int .i64)
def Iu (V:Ϣ) (g:Nat) (ds:List Bool):Prop:=∃ cur,V.heap[g]?=ς (χ cur 4 (0,0))/\cur.toList.take ds.length=ds.map Value.bool
def Qa {a:Array ϒ} {l:List ϒ} {u:ϒ} (h:a.toList.take n=l) (b:l[k]?=ς u):a[k]?=ς u:=by
 have hl:=(Ll b)
 have c:k<n:=by rw [<-h,List.length_take] at hl;omega
 rw [<-h,List.getElem?_take] at b;rw [if_pos c] at b;simpa using b
def Gw.cell (h:Gw V g hs) (c:hs[k]?=ς v):V.cell? (π g k)=ς (ι v):=by
 obtain ⟨d,a,b⟩:=h;rw [cell_of_row _ _ _ _ _ _ a];exact Qa b (by rw [List.getElem?_map,c];rfl)
def Iu.cell (h:Iu V g ds) (d:ds[k]?=ς b):V.cell? (π g k)=ς (.bool b):=by
 obtain ⟨e,a,c⟩:=h;rw [cell_of_row _ _ _ _ _ _ a];exact Qa c (by rw [List.getElem?_map,d];rfl)
def Gw.kp (h:Gw V g hs) (d:V'.heap[g]?=V.heap[g]?):Gw V' g hs:=by
 obtain ⟨a,b,c⟩:=h;exact ⟨a,by rw [d];exact b,c⟩
def Iu.kp (h:Iu V g ds) (d:V'.heap[g]?=V.heap[g]?):Iu V' g ds:=by
 obtain ⟨a,b,c⟩:=h;exact ⟨a,by rw [d];exact b,c⟩
def Gw.lt (h:Gw V g hs):g<V:=by obtain ⟨b,a,_⟩:=h;exact (La a)
def Iu.lt (h:Iu V g ds):g<V:=by obtain ⟨b,a,_⟩:=h;exact (La a)
def Gw.frozen (h:Gw V g hs) (k:Nat):V.frozen? (π g k)=ϝ:=by obtain ⟨b,a,_⟩:=h;exact Fz a
def Iu.frozen (h:Iu V g ds) (k:Nat):V.frozen? (π g k)=ϝ:=by obtain ⟨b,a,_⟩:=h;exact Fz a
def Gw.put (h:Gw V g hs) (k:Nat) (v:Int):Gw (V.setCell (π g k) (ι v)) g (hs.set k v):=by
 obtain ⟨c,a,b⟩:=h;refine ⟨_,ϡ _ _ _ _ _ _ a,?_⟩;rw [List.length_set,Array.toList_setIfInBounds,List.take_set,b,List.map_set]
def Iu.put (h:Iu V g ds) (k:Nat) (b:Bool):Iu (V.setCell (π g k) (.bool b)) g (ds.set k b):=by
 obtain ⟨d,a,c⟩:=h;refine ⟨_,ϡ _ _ _ _ _ _ a,?_⟩;rw [List.length_set,Array.toList_setIfInBounds,List.take_set,c,List.map_set]
def WL {v:ϒ} (h:w.ownsRow base 3 1 v n (hs.map (Value.int .i64))) (j:hs.length=n) (m:1<=n):∃ g a,v=σ (ς (π g 0)) n a/\base<=g/\n<=a/\a<=9223372036854775807/\Gw w g hs:=by
 rcases h.2 with ⟨_,l⟩|⟨g,a,c,rfl,e,i,f,d,k,b⟩
 .omega
 .rw [Nat.mul_one] at b
  exact ⟨g,a,rfl,e,f,by unfold maxLen at d;omega,c,i,by rw [j];exact b⟩
def WJ {v:ϒ} (h:w.ownsRow base 4 1 v n (ds.map Value.bool)) (j:ds.length=n) (m:1<=n):∃ g a,v=σ (ς (π g 0)) n a/\base<=g/\n<=a/\a<=9223372036854775807/\Iu w g ds:=by
 rcases h.2 with ⟨_,l⟩|⟨g,a,c,rfl,e,i,f,d,k,b⟩
 .omega
 .rw [Nat.mul_one] at b
  exact ⟨g,a,rfl,e,f,by unfold maxLen at d;omega,c,i,by rw [j];exact b⟩
def Gw.reads {cap B:Nat} (h:Gw V g hs) (hl:hs.length<=140737488355328) (e:hs.length<=cap) (b:cap<=9223372036854775807) (d:g<B) (a:∀ v∈hs,in64 v):AE B V 1 Aj (σ (ς (π g 0)) hs cap) hs:=
 ⟨_,_,rfl,hl,e,b,.inr ⟨g,0,rfl,d,λi x c=>⟨by rw [Nat.mul_one,Nat.zero_add];exact h.cell c,a x (Lm c)⟩⟩⟩
def SN:(prog.info? 4).map (λi=>(i.zero,i.size,i.bytes))=ς (ς (.bool ϝ),1,1):=by kernel_rfl
def Ku (w:Ϣ) (v:ϒ) (l:List Bool) (F:List Nat):Prop:=w.ownsRow 0 4 1 v l.length (l.map Value.bool)/\F=v.ownBlock.toList
def Ku.kp {w':Ϣ} {v:ϒ} (h:Ku w v l F) (k:∀ b∈F,w'.heap[b]?=w.heap[b]?):Ku w' v l F:=by
 obtain ⟨c,e⟩:=h;subst e;refine ⟨⟨c.1,?_⟩,rfl⟩;rcases c.2 with f|⟨g,a,d,rfl,i,j,r⟩
 .exact .inl f
 .exact .inr ⟨g,a,d,rfl,i,by rw [k g (by simp [Value.ownBlock])];exact j,r⟩
def Ku.lt {v:ϒ} (h:Ku w v l F):∀ b∈F,b<(w:Nat):=λb a=>by
 obtain ⟨c,d⟩:=h;subst d;simp at a;exact (c.lt b a).2
def Sc (w:Ϣ) (v:ϒ) (l:List Bool) (F:List Nat) (k:Ku w v l F) (d:Addr) (n:Bool) (x:w.cell? d=ς (.bool n)) (hl:l.length<2000000) (m:TypeId) :
  ∃ b c F',(Builtin.append_ #[188,188] m #[v,σ (ς d) 1 1]).run prog w=.ok b c/\Ku c b (l++[n]) F'/\AW F F' w c/\(∃ g,F'=[g]/\(F=[g]\/(w:Nat)<=g))/\(∃ o s,b=σ o (l.length+1) s):=by
 obtain ⟨i,y,p,q,r⟩:=info_parts SN;obtain ⟨b,c,g,z,f,t,h,a⟩:=GT (P:=prog) w 188 m 4 i (.bool ϝ) 1 1 underlying188 y p q r rfl δ v l.length (l.map Value.bool) k.1 d 1 1 [.bool n] rfl
  (λj u e=>by
   cases j with
   | zero=>simp at e;subst e;exact x
   | succ j=>simp at e) (by simp [Value.oneCell']) (by unfold maxLen;omega) ω ω
 have hF:=k.2;refine ⟨b,c,b.ownBlock.toList,z,⟨by simpa using f,rfl⟩,by rw [hF];exact Ga t h a,⟨g,by rw [h];rfl,?_⟩,?_⟩
 .rcases a with a|a
  .left;rw [hF,a];rfl
  .right;exact a
 .rcases f.2 with ⟨rfl,aE⟩|⟨g',cap,aD,rfl,_⟩
  .omega
  .exact ⟨_,_,rfl⟩
def Nh (f:o.guard=none) (s x:Operand) (r:o.op=.call { callee:=.builtin .append,args:=#[s,x],argTypes:=#[188,188] })
  (v:ϒ) (l:List Bool) (F:List Nat) (hs:a.eval s=v) (p:Ku w v l F) (e:Addr) (n:Bool) (u:a.eval x=σ (ς e) 1 1) (q:w.cell? e=ς (.bool n)) (hl:l.length<2000000)
  (h:∀ c d b F',Ku b (σ c (l.length+1) d) (l++[n]) F'->AW F F' w b->(∃ g,F'=[g]/\(F=[g]\/(w:Nat)<=g))->wpList prog ops Q rest (a.put o.dst (σ c (l.length+1) d)) b):wpList prog ops Q (o::rest) a w:=by
 refine wpList_plain f λK m=>?_;obtain ⟨y,b,F',t,i,j,k,⟨c,d,rfl⟩⟩:=Sc w v l F p e n q hl o.type;unfold Oper.wp execOp;simp only [r,resolve,invoke,builtin,Sem.run_bind,Sem.run_pure,Result.andThen_ok,List.map_toArray,List.map_cons,List.map_nil,hs,u,t];exact m _ _ (h c d b F' i j k)
def Sd (w:Ϣ) (v:ϒ) (l:List Int) (F:List Nat) (f:Be w v l F) (e:Addr) (n:Int) (B:in64 n) (z:w.cell? e=ς (ι n)) (hl:l.length<2000000) (o:TypeId) :
  ∃ b c F',(Builtin.append_ #[22,22] o #[v,σ (ς e) 1 1]).run prog w=.ok b c/\Be c b (l++[n]) F'/\AW F F' w c/\(∃ g,F'=[g]/\(F=[g]\/(w:Nat)<=g))/\(∃ p t,b=σ p (l.length+1) t):=by
 obtain ⟨i,A,q,r,s⟩:=info_parts Cx;obtain ⟨b,c,g,C,k,y,m,a⟩:=GT (P:=prog) w 22 o 3 i (ι 0) 1 8 underlying22 A q r s rfl δ v l.length (l.map (Value.int .i64)) f.1 e 1 1 [ι n] rfl
  (λj u h=>by
   cases j with
   | zero=>simp at h;subst h;exact z
   | succ j=>simp at h) (by simp [Value.oneCell']) (by unfold maxLen;omega) ω ω
 have hF:=f.2.1;refine ⟨b,c,b.ownBlock.toList,C,⟨by simpa using k,rfl,λx d=>by simp at d;rcases d with d|rfl;exact f.2.2 x d;exact B⟩,by rw [hF];exact Ga y m a,⟨g,by rw [m];rfl,?_⟩,?_⟩
 .rcases a with a|a
  .left;rw [hF,a];rfl
  .right;exact a
 .rcases k.2 with ⟨rfl,aE⟩|⟨g',cap,aD,rfl,_⟩
  .omega
  .exact ⟨_,_,rfl⟩
def Ni (f:o.guard=none) (s x:Operand) (t:o.op=.call { callee:=.builtin .append,args:=#[s,x],argTypes:=#[22,22] })
  (v:ϒ) (l:List Int) (F:List Nat) (hs:a.eval s=v) (p:Be w v l F) (e:Addr) (n:Int) (r:in64 n) (y:a.eval x=σ (ς e) 1 1) (q:w.cell? e=ς (ι n)) (hl:l.length<2000000)
  (h:∀ c d b F',Be b (σ c (l.length+1) d) (l++[n]) F'->AW F F' w b->(∃ g,F'=[g]/\(F=[g]\/(w:Nat)<=g))->wpList prog ops Q rest (a.put o.dst (σ c (l.length+1) d)) b):wpList prog ops Q (o::rest) a w:=by
 refine wpList_plain f λK m=>?_;obtain ⟨z,b,F',u,i,j,k,⟨c,d,rfl⟩⟩:=Sd w v l F p e n r q hl o.type;unfold Oper.wp execOp;simp only [t,resolve,invoke,builtin,Sem.run_bind,Sem.run_pure,Result.andThen_ok,List.map_toArray,List.map_cons,List.map_nil,hs,y,u];exact m _ _ (h c d b F' i j k)
structure JY (W V:Ϣ) (hl:List Int) (dl:List Bool) (hv dv:ϒ) (Fh Fd:List Nat):Prop where
 h:Be V hv hl Fh
 d:Ku V dv dl Fd
 dis:∀ b∈Fh,b∉Fd
 geh:∀ b∈Fh,(W:Nat)<=b
 ged:∀ b∈Fd,(W:Nat)<=b
 below:ϐ W W V
def JY.start (W:Ϣ):JY W W [] [] ν ν [] []:=
 ⟨⟨World.ownsRow_nil _ _ _ _,rfl,ψ⟩,⟨World.ownsRow_nil _ _ _ _,rfl⟩,ψ,ψ,ψ,Below.refl _ _⟩
def JY.alloc (h:JY W V hl dl hv dv Fh Fd) (o:Obj):JY W (V.alloc o) hl dl hv dv Fh Fd:=
 ⟨h.h.kp (λb a=>Ha _ _ _ (h.h.lt b a)),h.d.kp (λb a=>Ha _ _ _ (h.d.lt b a)),h.dis,h.geh,h.ged,h.below.th (AA _ _)⟩
def JY.pushI {a:List Int} {c:ϒ} (h:JY W V hl dl hv dv Fh Fd) (l:Be V2 c a F') (f:AW Fh F' V V2) (hF:∃ g,F'=[g]/\(Fh=[g]\/(V:Nat)<=g)):JY W V2 a dl c dv F' Fd:=by
 have k:=f.ge h.geh h.below.size;refine ⟨l,h.d.kp (λb d=>f.block b (h.d.lt b d) (λe=>h.dis b e d)),?_,k,h.ged,h.below.trans (f.below h.geh h.below.size)⟩;intro b d i;obtain ⟨g,rfl,j⟩:=hF;obtain rfl:b=g:=by simpa using d
 rcases j with rfl|j
 .exact h.dis b ψ i
 .have:=h.d.lt b i;omega
def JY.pushB {a:List Bool} {c:ϒ} (h:JY W V hl dl hv dv Fh Fd) (k:Ku V2 c a F') (f:AW Fd F' V V2) (hF:∃ g,F'=[g]/\(Fd=[g]\/(V:Nat)<=g)):JY W V2 hl a hv c Fh F':=by
 have j:=f.ge h.ged h.below.size;refine ⟨h.h.kp (λb d=>f.block b (h.h.lt b d) (λe=>h.dis b d e)),k,?_,h.geh,j,h.below.trans (f.below h.ged h.below.size)⟩;intro b d l;obtain ⟨g,rfl,i⟩:=hF;obtain rfl:b=g:=by simpa using l
 rcases i with rfl|i
 .exact h.dis b d ψ
 .have:=h.h.lt b d;omega
def U5 (k:Nat):Qm (ϱ k ϝ)<=k:=by
 have:=List.countP_le_length (p:=λb:Bool=>!b) (l:=ϱ k ϝ);rw [List.length_replicate] at this;exact this
def O3 {α:Type} (k:Nat) (a:α):ϱ k a++[a]=ϱ (k+1) a:=List.replicate_succ'.symm
structure Gt (c:AQ) (f:BK) (W V:Ϣ) (g gd:Nat) (hs:List Int) (ds:List Bool):Prop where
 ri:Gw V g hs
 rb:Iu V gd ds
 ne:g≠gd
 geh:(W:Nat)<=g
 ged:(W:Nat)<=gd
 below:ϐ W W V
def Gt.later (h:Gt c f W V g gd hs ds) (a:ϐ V V V'):Gt c f W V' g gd hs ds:=
 ⟨h.ri.kp (a.block g h.ri.lt),h.rb.kp (a.block gd h.rb.lt),h.ne,h.geh,h.ged,h.below.th a⟩
def Gt.putH (h:Gt c f W V g gd hs ds) (k:Nat) (v:Int):Gt c f W (V.setCell (π g k) (ι v)) g gd (hs.set k v) ds:=
 ⟨h.ri.put k v,h.rb.kp (heap_setCell_other _ _ _ _ (λe=>h.ne e.symm)),h.ne,h.geh,h.ged,h.below.setCell h.geh _⟩
def Gt.putD (h:Gt c f W V g gd hs ds) (k:Nat) (b:Bool):Gt c f W (V.setCell (π gd k) (.bool b)) g gd hs (ds.set k b):=
 ⟨h.ri.kp (heap_setCell_other _ _ _ _ h.ne),h.rb.put k b,h.ne,h.geh,h.ged,h.below.setCell h.ged _⟩
def YF (c:AQ) (f:BK) (w:Ϣ) (e:Ending) (w':Ϣ):Prop:=
 (∃ (at_ er:Int),e=.returned (.tuple #[ν,ι at_,ι er])/\er≠0/\¬CQ c f/\ϐ w w w')\/
 (∃ (g cap:Nat) (hs:List Int),e=.returned (.tuple #[σ (ς (π g 0)) hs cap,ι 0,ι 0])/\(w:Nat)<=g/\hs.length<=cap/\cap<=9223372036854775807/\CQ c f/\DB c f hs/\Gw w' g hs/\ϐ w w w')
def JL (c:AQ) (cv:ϒ) (f:BK) (fv:ϒ) (B:Nat) (w:Ϣ) (hB:B<=w) (hc:BF B w cv c) (E:EI B w fv f) (wf:Pg c f) :
  ϙ prog 124 #[cv,fv] w (YF c f w):=by
 have HC:=Lh hc;have cF:=Lh E;obtain ⟨eO,eP,rfl,dO,dP,bS⟩:=hc;obtain ⟨fa,fc,rfl,-⟩:=dO;obtain ⟨ga,gc,rfl,-⟩:=dP;obtain ⟨kv,rfl,hk,-⟩:=E;obtain ⟨ka,kc,rfl,dW,dX,eU,cT⟩:=hk;have dC:=Lh cT;have M:=Lh wf;have bY:=wf.one;have eA:=wf.most;obtain ⟨n,hn⟩:=ε f.code.length;rw [<-hn] at bY eA dX cF ⊢;have J:=Lh hn;clear cT wf hn bS dW;obtain ⟨W,Y⟩:=ε ((w.alloc (χ (Bc fa fc ga gc c) 25)).alloc (χ #[.string f.name,ι f.params,ι f.L,.bool f.result,σ ka n kc] 93));obtain ⟨F,bI,aM,cI⟩:=Λ4 (bl2 Y) (ce21 Y) (ce22 Y) Y;clear Y;go_enter func124,ntmps124;go_wp2_with fail;rw [<-cI.o];go_loopw [7,8,9] (λhv dv i wr=>∃ k:Nat,k<=n/\i=ι k/\Hid (∃ Fh Fd,JY W wr (ϱ k (-1)) (ϱ k ϝ) hv dv Fh Fd)) (λ_ _ i _=>n - (intOf i).toNat)
 case atStart=>exact ⟨0,Nat.zero_le _,rfl,Lh ⟨[],[],JY.start W⟩⟩
 case round=>
  obtain ⟨k,hk,rfl,hs⟩:=hrel;obtain ⟨Fh,Fd,hF⟩:=hs.o;have q:=Lh hF;have b1:=(aM.o.kp hF.below) 4 _ rfl;clear hF hs;by_cases eW:k<n
  .have cB:=Lh (q.o.alloc (χ #[ι (-1)] 3))
   have cZ:=@Lh ((wr.alloc (χ #[ι (-1)] 3)).cell? (π wr 0)=ς (ι (-1))) (B6 _ _ _ 0);have bV:(ϱ k (-1:Int)).length<2000000:=by simp;omega
   have aX:(ϱ k ϝ).length<2000000:=by simp;omega
   have bM:in64 (-1):=by unfold in64;omega
   go_wp2_with (first
    | (at_builtin;refine Ni rfl (.tmp 24) (.tmp 25) rfl _ (ϱ k (-1)) Fh rfl cB.o.h (π wr 0) (-1) bM rfl cZ.o bV ?_;intro a1 c1 w2 F1 cP cM cK;have dD:=Lh (cB.o.pushI cP cM cK);have cC:=Lh (dD.o.alloc (χ #[.bool ϝ] 4));have dA:Hid ((w2.alloc (χ #[.bool ϝ] 4)).cell? (π w2 0)=ς (.bool ϝ)):=Lh (B6 _ _ _ 0);clear cP cM cK)
    | (at_builtin;refine Nh rfl (.tmp 27) (.tmp 28) rfl _ (ϱ k ϝ) Fd rfl cC.o.d (π w2 0) ϝ rfl dA.o aX ?_;intro a2 c2 w3 F2 cQ cN cL;have dE:=Lh (cC.o.pushB cQ cN cL);clear cQ cN cL))
   go_roundw
   case rel=>exact ⟨k+1,ω,by go_num,Lh ⟨F1,F2,by have:=dE.o;rw [O3,O3,List.length_replicate,List.length_replicate] at this;exact this⟩⟩
   case measure=>simp [intOf];omega
  .obtain rfl:k=n:=ω
   obtain ⟨g,fA,V,dS,dT,dU,bD⟩:=WL (n:=k) (by have:=q.o.h.1;rw [List.length_replicate] at this;exact this) (List.length_replicate ..) bY;obtain ⟨gd,dJ,e2,dQ,eR,eS,cR⟩:=WJ (n:=k) (by have:=q.o.d.1;rw [List.length_replicate] at this;exact this) (List.length_replicate ..) bY;have cV:g≠gd:=λe=>q.o.dis g (by rw [q.o.h.2.1,V];simp [Value.ownBlock]) (by rw [q.o.d.2,e2,e];simp [Value.ownBlock]);have HR:Hid (Gt c f W wr g gd (ϱ k (-1)) (ϱ k ϝ)):=Lh ⟨bD,cR,cV,q.o.geh g (by rw [q.o.h.2.1,V];simp [Value.ownBlock]),q.o.ged gd (by rw [q.o.d.2,e2];simp [Value.ownBlock]),q.o.below⟩;subst V e2;have q0:=bD.cell (k:=0) (v:=-1) (by rw [List.getElem?_replicate,if_pos ω]);have qf:=bD.frozen 0;clear bD cR cV q dS dQ;go_wp2_with fail;obtain ⟨V0,bO⟩:=ε (wr.setCell (π g 0) (ι 0));have cH:Hid (Gt c f W V0 g gd ((ϱ k (-1)).set 0 0) (ϱ k ϝ)/\It c f ((ϱ k (-1)).set 0 0) (ϱ k ϝ) (λ_=>False)):=by rw [bO];have:=It.start M.o;rw [<-J.o] at this;exact Lh ⟨HR.o.putH 0 0,this⟩
   rw [<-bO];clear bO HR q0 qf b1;go_loopg [10] (k+1) (λgk _ wr=>Hid (∃ hs ds,Gt c f W wr g gd hs ds/\It c f hs ds (λ_=>False)/\Qm ds+1<=gk))
   case atStart=>exact Lh ⟨_,_,cH.o.1,cH.o.2,Nat.succ_le_succ (U5 k)⟩
   case round=>
    obtain ⟨hs,ds,hR,hL,eT⟩:=hrel.o;obtain ⟨Q,rfl⟩:=ε (wr:Ϣ);have cX:hs.length=k:=by rw [hL.lab.len,J.o]
    have eQ:ds.length=k:=by rw [hL.len,J.o]
    have s:=Lh hR;have bB:=Lh hL;clear hrel hR hL;go_wp2_with fail
    go_loop [10] (λa=>∃ p:Nat,p<=k/\a=ι p/\Hid (∀ j,j<p->Tb hs ds j=ϝ)) (λa=>k - (intOf a).toNat)
    case atStart=>exact ⟨0,Nat.zero_le _,rfl,Lh (λj Z=>by omega)⟩
    case round=>
     obtain ⟨p,hp,rfl,bF⟩:=hrel;by_cases eC:p<k;rotate_left
     .obtain rfl:p=k:=ω
      have aV:=Lh (bB.o.fin M.o (λj Z=>bF.o j (by rw [J.o];exact Z)));go_wp2_with fail
      go_ret3
      have P:=F.o.th s.o.below;refine .inr ⟨g,fA,hs,by rw [cX];rfl,Nt F.o.size s.o.geh,by rw [cX];exact dT,dU,aV.o.1,aV.o.2,s.o.ri,P⟩
     obtain ⟨v,hv⟩:∃ v,hs[p]?=ς v:=⟨_,Lg ω⟩
     obtain ⟨b,P⟩:∃ b,ds[p]?=ς b:=⟨_,Lg ω⟩
     have q1:=s.o.ri.cell hv;have q2:=s.o.rb.cell P;have K:=Lh hv;have cD:=Lh P;have X:=N6 hv P;clear hv P;by_cases eY:v<0
     .have L:Hid (∀ j,j<p+1->Tb hs ds j=ϝ):=Lh (λj Z=>by
       by_cases e:j=p
       .subst e;rw [X];have:decide (0<=v)=ϝ:=by simp;omega
        rw [this];rfl
       .exact bF.o j ω)
      have V:=η (v<0);clear X;go_wp2;go_round
      case rel=>exact ⟨p+1,ω,by go_num,L⟩
      case measure=>simp [intOf];omega
     have V:=θ (v<0);cases b with
     | true=>
      have L:Hid (∀ j,j<p+1->Tb hs ds j=ϝ):=Lh (λj Z=>by
       by_cases e:j=p
       .subst e;rw [X];simp
       .exact bF.o j ω)
      clear X;go_wp2;go_round
      case rel=>exact ⟨p+1,ω,by go_num,L⟩
      case measure=>simp [intOf];omega
     | false=>
     have dN:=bB.o.lab.bound p v K.o;have bX:=bB.o.lab.len;have e5:=ξ (p:Int) (k:Int);have qf:=s.o.rb.frozen p;obtain ⟨x,hx⟩:∃ x,f.code[p]?=ς x:=⟨_,Lg (by rw [<-J.o];exact eC)⟩
     have C:=Lh hx;have cJ:=F.o.th s.o.below;have r:Hid (IV B Q (.agg #[ι x.op,ι x.a]) x/\∃ I R,ka=ς (π I R)/\Q.cell? (π I (R+p*2))=ς (ι x.op)/\Q.cell? (π I (R+p*2+1))=ς (ι x.a)/\I<w):=by
      rcases dC.o with h|⟨I,R,rfl,eJ,eK⟩
      .rw [h] at hx;simp at hx
      .obtain ⟨y1,y2,y3,y4⟩:=(eK p x hx).below (cJ.mono hB) eJ
       exact Lh ⟨⟨rfl,y3,y4⟩,I,R,rfl,y1,y2,ω⟩
     obtain ⟨I,R,rfl,y1,y2,eM⟩:=r.o.2;have aY:=r.o.1.2;have bK:=Lh aY;clear aY;have eL:¬I=gd:=by have:=s.o.ged;have:=F.o.size;omega
     have s4:=(aM.o.kp s.o.below) 4 _ rfl;have eF:¬(w:Nat)+1=gd:=by
      have h1:=s.o.ged;have h2:(W:Nat)=(w:Nat)+1+1:=by rw [cI.o];simp
      omega
     clear hx r X bF cJ;obtain ⟨V2,bE⟩:=ε ((Q.setCell (π gd p) (.bool ϑ)).alloc (χ #[ι x.op,ι x.a] 124));have aF:=@Lh (Gt c f W V2 g gd hs (ds.set p ϑ)) (by rw [bE];exact (s.o.putD p ϑ).later (AA _ _));obtain ⟨bx,bQ⟩:=ε (Q:Nat);have bL:Hid (AR V2 bx [ι x.op,ι x.a]):=by rw [bE,bQ];have:=@AF (Q.setCell (π gd p) (.bool ϑ)) #[ι x.op,ι x.a] 124;exact Lh (by simpa using this)
     have dI:=Lh bE;have cY:=Lh bQ;clear bE bQ;go_upto_region 16 with fail;rw [<-dI.o,<- cY.o];have aH:=F.o.th aF.o.below;have bG:=Lh (HC.o.below (aH.mono hB));have bH:=Lh (cF.o.below (aH.mono hB));have dM:=Nt hB aH.size;have r0:=Γ3 (bI.o.kp aF.o.below);have s0:=Γ5 (aM.o.kp aF.o.below);have t0:=Γ2 bL.o;clear q1 q2 qf y1 y2 eL eF eM aH e5;go_wp2_with fail;clear r0 s0;refine (Ld c _ f _ x (.agg #[ι x.op,ι x.a]) B V2 dM bG.o bH.o ⟨rfl,bK.o⟩ M.o (Lm C.o)).mono ?_;rintro e w3 ⟨rfl,bP⟩;have eD:=M.o.pops x (Lm C.o);have eE:=M.o.pushes x (Lm C.o);obtain ⟨d,aO⟩:=ε (AM c f x);obtain ⟨N,aP⟩:=ε (AK c f x);rw [<-aO] at eD ⊢;rw [<-aP] at eE ⊢;obtain ⟨T,bJ,U,aT,bA⟩:=Λ5 aO aP (aF.o.later bP) (bL.o.kp bP) (bB.o.take K.o ω cD.o);have u1:=U.o.ri.cell K.o;have u2:=Γ2 aT.o;clear aO aP bP t0;by_cases dZ:v<d
     .have E:=Lh (EZ bA.o.lab K.o ω C.o (λh=>by have:=h.1;rw [<-T.o] at this;omega))
      have e6:=η (v<d);go_wp2_with fail
      go_ret3
      exact .inl ⟨_,14,rfl,δ,E.o,F.o.th U.o.below⟩
     have e6:=θ (v<d);by_cases aI:x.op=10/\d<v
     .have E:=Lh (EZ bA.o.lab K.o ω C.o (λh=>by have:=h.2.1 aI.1;rw [<-T.o] at this;omega))
      have e7:=ζ x.op 10 aI.1;have e8:=η (d<v);go_wp2_with fail
      go_ret3
      exact .inl ⟨_,3,rfl,δ,E.o,F.o.th U.o.below⟩
     have aL:x.op=10->v<=d:=λe=>by
      by_cases h:d<v
      .exact absurd ⟨e,h⟩ aI
      .omega
     have aS:=Lh aL;have bU:=Lh (λh=>(M.o.jump x (Lm C.o) h).1);have bZ:p<=1048576:=ω;clear aI aL;by_cases bC:x.op=10;all_goals
      first
      | have e7:(x.op == 10)=ϑ:=by simpa using bC
      | have e7:(x.op == 10)=ϝ:=by simpa using bC
      have e8:x.op=10->decide (d<v)=ϝ:=λe=>by have:=aS.o e;simp;omega
      first
      | have e9:=e8 bC
      | have e9:=trivial
      clear e8 bC;go_wp2_with fail;refine (So x p w3 bZ bU.o).mono ?_;rintro e w4 ⟨na,l,eN,rfl,dY,eV,cU,rfl,cS⟩;obtain ⟨ln,bW⟩:=ε ((Am x p).length);rw [<-bW] at dY ⊢;have cG:=Lh bW;have dF:=Lh (U.o.later cS);have eZ:v<=2097152:=ω;have dG:Hid (∃ A,RB c f A (ds.set p ϑ) p v (v - d+N) (Am x p) 0/\Gt c f W w4 g gd A (ds.set p ϑ)/\((Am x p)=[]\/∃ m,na=ς (π m 0)/\m≠g/\∀ (j:Nat) y,(Am x p)[j]?=ς y->w4.cell? (π m j)=ς (ι (y:Int)))):=by
       refine Lh ⟨hs,⟨bA.o,K.o,λt k ht=>by omega⟩,dF.o,?_⟩;rcases cU with h|⟨m,h1,h2,h3,h4⟩
       .exact .inl h
       .exact .inr ⟨m,h1,λe=>by have:=U.o.ri.lt;omega,h4⟩
      have dR:=Lh (U6 cD.o);clear u1 u2 cS cU bW dN bX;go_wp2_with fail;go_loopw [15] (λi wr=>∃ j:Nat,j<=ln/\i=ι j/\Hid (∃ A,RB c f A (ds.set p ϑ) p v (v - d+N) (Am x p) j/\Gt c f W wr g gd A (ds.set p ϑ)/\((Am x p)=[]\/∃ m,na=ς (π m 0)/\m≠g/\∀ (j:Nat) y,(Am x p)[j]?=ς y->wr.cell? (π m j)=ς (ι (y:Int))))) (λi _=>ln - (intOf i).toNat)
      case atStart=>exact ⟨0,Nat.zero_le _,rfl,dG⟩
      case round=>
       obtain ⟨j,Z,rfl,cA⟩:=hrel;obtain ⟨A,hI,bN,cO⟩:=cA.o;have r:=Lh hI;have G:=Lh bN;have eG:A.length=k:=by rw [hI.rl.lab.len,J.o]
       by_cases dV:j<ln
       .obtain ⟨o,aW⟩:∃ o,(Am x p)[j]?=ς o:=⟨_,Lg (by rw [<-cG.o];exact dV)⟩
        rcases cO with h|⟨m,rfl,bT,bR⟩
        .rw [h] at aW;simp at aW
        have v1:=bR j o aW;have dB:=Lh bR;have aZ:=Lh aW;clear hI bN bR aW cA;by_cases eB:k<=o
        .have E:=Lh (EZ bA.o.lab K.o ω C.o (λh=>by have:=h.2.2 o (Lm aZ.o);rw [<-J.o] at this;omega))
         go_wp2_with fail
         go_ret3
         exact .inl ⟨_,8,rfl,δ,E.o,F.o.th G.o.below⟩
        obtain ⟨u,hu⟩:∃ u,A[o]?=ς u:=⟨_,Lg ω⟩
        have v2:=G.o.ri.cell r.o.at_;have v3:=G.o.ri.cell hu;have v4:=G.o.ri.frozen o;have HU:=Lh hu;have eI:=r.o.rl.lab.bound o u hu;have eX:u<=2097152:=ω;have D:=r.o.rl.lab.neg o u hu;have dH:=Lh D;clear hu eI D;have aK:∀ (z:ϒ) (t:Nat) (y:Nat),(Am x p)[t]?=ς y->(wr.setCell (π g o) z).cell? (π m t)=ς (ι (y:Int)):=λz t y hy=>by rw [World.cell?_of_block (w:=wr) (heap_setCell_other _ _ _ _ bT)];exact dB.o t y hy
        have cE:=Lh aK;clear aK;by_cases eH:u<0
        .have L:Hid (RB c f (A.set o (v - d+N)) (ds.set p ϑ) p v (v - d+N) (Am x p) (j+1)):=by have H:=r.o;have O:=T.o;have S:=bJ.o;rw [O,S] at H ⊢;exact Lh (H.label M.o C.o ω ω aZ.o (by rw [<-dH.o eH];exact HU.o))
         have dK:=θ (0<=u);go_wp2;go_roundw
         case rel=>exact ⟨j+1,ω,by go_num,Lh ⟨_,L.o,G.o.putH o _,.inr ⟨m,rfl,bT,cE.o _⟩⟩⟩
         case measure=>simp [intOf];omega
        have dK:=η (0<=u);by_cases D:u=v - d+N
        .have L:=Lh (r.o.same aZ.o (by rw [<-D];exact HU.o))
         have dL:(u != v - d+N)=ϝ:=by simp [D]
         clear D;go_wp2;go_roundw
         case rel=>exact ⟨j+1,ω,by go_num,Lh ⟨_,L.o,G.o.putH o _,.inr ⟨m,rfl,bT,cE.o _⟩⟩⟩
         case measure=>simp [intOf];omega
        .have E:Hid (¬CQ c f):=by have H:=r.o;have O:=T.o;have S:=bJ.o;rw [O,S] at H D;exact Lh (H.clash C.o ω aZ.o HU.o ω D)
         have dL:=τ u (v - d+N) D;clear D;go_wp2_with fail
         go_ret3
         exact .inl ⟨_,13,rfl,δ,E.o,F.o.th G.o.below⟩
       .have aU:Hid (It c f A (ds.set p ϑ) (λ_=>False)):=by have H:=r.o;have O:=T.o;have S:=bJ.o;have cW:=aS.o;rw [O] at cW;rw [O,S] at H;exact Lh (H.done C.o ω cW (by rw [<-cG.o];omega))
        clear hI bN cO cA;go_wp2_with fail
        go_roundg (gk - 1)
        case measure=>omega
        case rel=>exact Lh ⟨A,ds.set p ϑ,G.o,aU.o,by have:=dR.o;omega⟩
def QS (c:AQ) (U:ϒ) (B:Nat) (w:Ϣ) (l:B<=w) (hc:BF B w U c) :
  ϙ prog 93 #[U] w (Q6 c w):=by
 have D:=Lh hc;obtain ⟨bC,bD,rfl,aY,aZ,-⟩:=hc;obtain ⟨H,I,rfl,-⟩:=aY;obtain ⟨ga,J,rfl,bG,bH,bI,T⟩:=aZ;have aS:=Lh T;obtain ⟨W,A⟩:=ε (w.alloc (χ (Bc H I ga J c) 25));have E:=Lh (bl1 A);have HK:=Lh (ce11 A);have aU:=Lh A;clear A T;go_enter func93,ntmps93;go_wp2_with fail;rw [<-aU.o];refine (Si c _ B W (Nt l E.o.size) (D.o.below (E.o.mono l))).mono ?_;rintro e w1 ⟨rfl,F⟩;have z:=Lh (E.o.th F);have Q:=Lh (HK.o.kp F);clear F;by_cases n:Jy c;rotate_left
 .rw [Bs n]
  have p:=@Lh (¬AU c) (λh=>n h.1);clear n;go_wp2_with fail
  go_ret3
  exact ⟨_,_,_,rfl,⟨(λh=>by cases h),λh=>absurd h p.o⟩,z.o⟩
 rw [FP n];have O:=Lh n;clear n;have C:=Γ3 Q.o;go_wp2_with fail;clear C;refine (Qf c _ B w1 (Nt l z.o.size) (D.o.below (z.o.mono l))).mono ?_;rintro e w2 ⟨i,k,rfl,G⟩;have R:=Lh (z.o.th G);have aT:=Lh (Q.o.kp G);clear G;cases q:Dl c with
 | true=>
  have p:=@Lh (¬AU c) (λh=>by rw [h.2.1] at q;cases q);clear q;go_wp2_with fail
  go_ret3
  exact ⟨_,_,_,rfl,⟨(λh=>by cases h),λh=>absurd h p.o⟩,R.o⟩
 | false=>
  have S:=Lh q;clear q;go_wp2_with fail;go_loopw [8] (λi wr=>∃ k:Nat,k<=c.funcs.length/\i=ι k/\Hid (ϐ w2 w2 wr/\∀ (j:Nat) f,j<k->c.funcs[j]?=ς f->CQ c f)) (λi _=>c.funcs.length - (intOf i).toNat)
  case atStart=>exact ⟨0,Nat.zero_le _,rfl,Lh ⟨Below.refl _ _,λj f N=>by omega⟩⟩
  case round=>
   obtain ⟨k,hk,rfl,hs⟩:=hrel;have m:=Lh (R.o.th hs.o.1);have aG:=Lh (aT.o.kp hs.o.1);obtain ⟨C,q1,q2⟩:=Γ3 aG.o;by_cases bA:k<c.funcs.length
   .obtain ⟨x,hx⟩:∃ x,c.funcs[k]?=ς x:=⟨_,Lg bA⟩
    rcases aS.o with h|⟨b,o,rfl,aW,hE⟩
    .rw [h] at hx;simp at hx
    obtain ⟨X,Y,Z,g4,⟨xv,g5,g6⟩,g7,g8,g9⟩:=(hE k x hx).below (m.o.mono l) aW;have aR:=@Lh (∀ V,ϐ wr wr V->EI B V (.agg #[.string x.name,ι x.params,ι x.L,.bool x.result,xv]) x) (λV hV=>⟨_,rfl,g6.inss (hV.mono (Nt l m.o.size)),g7,g8,g9⟩);obtain ⟨xa,aL,rfl,-⟩:=g6;have P:=Lh hx;have bB:=Lh (Qr O.o S.o (Lm hx));have bE:=In k;have bF:(k:Int)<(c.funcs:Int):=ω;have aQ:=@Lh (BF B wr.drew (.agg #[σ H c.H I,ι c.G,σ (ς (π b o)) c.funcs J]) c) (D.o.below ((AG m.o 1).mono l));have aV:B<=wr.drew.heap.size:=Nt l m.o.size;have aX:=@Lh (ϐ wr wr wr.drew) (AG Br 1);clear hE hx g7 g8 g9;go_wp2_with fail;go_upto_region 9 with fail;go_region_held3 (λV=>V.cell? (π w 0)=ς (σ H c.H I)/\V.cell? (π w 1)=ς (ι c.G)/\V.cell? (π w 2)=ς (σ (ς (π b o)) c.funcs J)/\V.cell? (π b (o+k*5))=ς (.string x.name)/\V.cell? (π b (o+k*5+1))=ς (ι x.params)/\V.cell? (π b (o+k*5+2))=ς (ι x.L)/\V.cell? (π b (o+k*5+3))=ς (.bool x.result)/\V.cell? (π b (o+k*5+4))=ς (σ xa x.code aL))
     (first|exact ⟨C,q1,q2,X,Y,Z,g4,g5⟩|exact ⟨AB hb3 C,AB hb3 q1,AB hb3 q2,AB hb3 X,AB hb3 Y,AB hb3 Z,AB hb3 g4,AB hb3 g5⟩)
     (first|(go_at_call 124;refine (JL c _ x _ B _ aV aQ.o (aR.o _ aX.o) bB.o).mono ?_;rintro e w3 hP;obtain ⟨s,y,t,r,d,rfl,hiff,hb3⟩:∃ (s:Option Addr) (y t:Nat) (r d:Int),e=.returned (.tuple #[σ s y t,ι r,ι d])/\Hid (d=0↔CQ c x)/\ϐ wr.drew.heap.size wr.drew w3:=(by rcases hP with ⟨a,b,K,L,h3,M⟩|⟨g,cp,hs,K,_,_,_,L,_,_,M⟩;exact ⟨none,0,0,a,b,K,Lh ⟨λh=>absurd h L,λh=>absurd h h3⟩,M⟩;exact ⟨_,_,_,0,0,K,Lh ⟨λ_=>L,λ_=>rfl⟩,M⟩);clear hP))
    have aP:=Lh ((AG m.o 1).th hb3);have aF:=Lh ((AG hs.o.1 1).th hb3);clear hb3;by_cases u:d=0
    .subst u
     have aJ:Hid (∀ (j:Nat) f,j<k+1->c.funcs[j]?=ς f->CQ c f):=Lh (λj f N v=>by
      by_cases e:j=k
      .subst e;rw [P.o] at v;cases v;exact hiff.o.1 rfl
      .exact hs.o.2 j f ω v)
     clear hiff;go_wp2;go_roundw
     case rel=>exact ⟨k+1,ω,by go_num,Lh ⟨aF.o,aJ.o⟩⟩
     case measure=>simp [intOf];omega
    .have p:=@Lh (¬AU c) (λh=>u (hiff.o.2 (h.2.2 x (Lm P.o))))
     have e1:=τ d 0 u;have HE:=Lh u;clear u hiff;go_wp2_with fail
     go_ret3
     exact ⟨_,_,d,rfl,⟨λh=>absurd h HE.o,λh=>absurd h p.o⟩,aP.o⟩
   .have aK:Hid (AU c):=Lh ⟨O.o,S.o,λf v=>by
     obtain ⟨j,N,rfl⟩:=List.getElem_of_mem v;exact hs.o.2 j _ ω (Lg N)⟩
    go_wp2_with fail
    go_ret3
    exact ⟨_,_,_,rfl,⟨λ_=>aK.o,λ_=>rfl⟩,m.o⟩
def PR (c:AQ) (g:ϒ) (B:Nat) (w:Ϣ) (q:B<=w) (j:BF B w g c) :
  ϙ prog 52 #[g] w λe s=>e=.returned (.bool (DW c))/\ϐ w w s:=by
 have l:=Lh j;obtain ⟨v,x,rfl,n,o,-⟩:=j;obtain ⟨y,u,rfl,-⟩:=n;obtain ⟨z,t,rfl,-⟩:=o;go_enter func52,ntmps52;go_wp2_with fail;refine (QS c _ B _ φ (l.o.below ((AA _ _).mono q))).mono ?_;rintro e A ⟨i,k,m,rfl,a,r⟩;have f:=As r;by_cases d:m=0
 .have aB:=Lh (CZ (a.1 d))
  subst d;clear a;go_wp2;go_ret;exact ⟨by rw [aB.o];rfl,f⟩
 .have aB:=Lh (FA (λh=>d (a.2 h)))
  have p:=beq_eq_false_iff_ne.2 d;clear a;go_wp2;go_ret;exact ⟨by rw [aB.o];exact congrArg (λb=>Ending.returned (.bool b)) (by first|exact p|rfl),f⟩
