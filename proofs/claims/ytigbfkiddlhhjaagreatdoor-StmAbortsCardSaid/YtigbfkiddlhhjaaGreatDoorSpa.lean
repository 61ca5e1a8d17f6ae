import Derived.Test.YtigbfkiddlhhjaaGreatDoorSpl
import Derived.Test.YtigbfkiddlhhjaaGreatDoorSop
set_option maxHeartbeats 4000000
set_option maxRecDepth 100000
set_option linter.all false
open Go renaming World→Ϣ,Value→ϒ,Calls→ϙ
open Option renaming some→ς
open Go.Value renaming slice→σ
open Go.Obj renaming cells→χ
namespace Go.Proofs.YtigbfkiddlhhjaaGreatDoor
open Go.RowKit Proofs.Tryz
variable {w:Ϣ} {bt B i n k t:Nat} {s:Tra} {l:List (Int×Int)} {o:Int×Int}
def place_any (m:Mm) (bt:Nat) (a f:Int) (w:Ϣ) (h:Kt w bt m) (n:0<=a) (l:0<=f) (c:a<=1099511627776) :
  ϙ prog 106 #[.pointer (ς (π bt 0)),ι a,ι f] w (Pb w bt m (plcR a f)):=by
 obtain ⟨Q,R,D,j⟩:=h.g;obtain ⟨V,W,E,g⟩:=h.n;obtain ⟨f,rfl⟩:∃ G:Nat,f=G:=⟨f.toNat,ω⟩
 have K:=θ ((f:Int)<0);have N:=In f;have A:=Lh D;have B:=Lh E;by_cases q:a=0
 .subst q
  have C:=θ ((m.N:Int)<0);have e:Bd m (plcR 0 f)=m.G:=Gm rfl;by_cases k:m.G.length<=f
  .have d:=@Lh (((Bd m (plcR 0 f)).length:Int)<=(f:Int)) (by rw [e];omega)
   have u:=η (m.G.length<=f);clear h j g e k n l c;go_enter func106,ntmps106;go_wp2;go_ret;exact Gz Br d.o
  .obtain ⟨v,hv⟩:∃ v,m.G[f]?=ς v:=⟨_,Lg ω⟩
   obtain ⟨b,o,rfl⟩:=j f v hv;have d:=@Lh ((f:Int)<((Bd m (plcR 0 f)).length:Int)) (by rw [e];omega);have u:=θ (m.G.length<=f);have H:(f:Int)<(m.G:Int):=ω;clear h j g e k n l c hv;go_enter func106,ntmps106;go_wp2;go_ret;exact J2 Br d.o (.inl ⟨rfl,_,_,A.o⟩) (by simp [plcR])
 obtain ⟨i,rfl⟩:∃ i:Nat,a=(i:Int)+1:=⟨(a - 1).toNat,ω⟩
 have C:=η (0<(i:Int)+1);have L:=θ ((i:Int)+1<0);have O:=In i;have P:IntKind.i64.wrap ((i:Int)+1 - 1)=(i:Int):=by rw [IntKind.wrap_i64]<;>omega
 have M:IntKind.i64.wrap (i:Int)=(i:Int):=by rw [IntKind.wrap_i64]<;>omega
 have p:((i:Int)+1 - 1).toNat=i:=ω;by_cases r:i<m.N.length;rotate_left
 .have d:=@Lh (((Bd m (plcR ((i:Int)+1) f)).length:Int)<=(f:Int)) (by unfold Bd plcR;rw [if_pos (by dsimp only;omega)];simp)
  have u:=η ((m.N:Int)<(i:Int)+1);clear h j g n l c r q;go_enter func106,ntmps106;go_wp2;go_ret;exact Gz Br d.o
 obtain ⟨x,s⟩:∃ x,m.N[i]?=ς x:=⟨_,Lg r⟩
 have e:Bd m (plcR ((i:Int)+1) f)=x.f:=IJ (by show (1:Int)<=(i:Int)+1;omega) (by show m.N[((i:Int)+1 - 1).toNat]?=_;rw [p];exact s);obtain ⟨J,no,T,U,rfl,I,t⟩:=g i x s;have z:=Lh I;have u:=θ ((m.N:Int)<(i:Int)+1);have S:(i:Int)<(m.N:Int):=ω;by_cases k:x.f.length<=f
 .have d:=@Lh (((Bd m (plcR ((i:Int)+1) f)).length:Int)<=(f:Int)) (by rw [e];omega)
  have F:=η (x.f.length<=f);clear h j g e k n l c r q s t p;go_enter func106,ntmps106;go_wp2;go_ret;exact Gz Br d.o
 .obtain ⟨v,hv⟩:∃ v,x.f[f]?=ς v:=⟨_,Lg ω⟩
  obtain ⟨b,o,rfl⟩:=t f v hv;have d:=@Lh ((f:Int)<((Bd m (plcR ((i:Int)+1) f)).length:Int)) (by rw [e];omega);have F:=θ (x.f.length<=f);have H:(f:Int)<(x.f:Int):=ω;have y:=Lh p;clear h j g e k n l c r q s t p hv;go_enter func106,ntmps106;go_wp2;go_ret;exact J2 Br d.o (.inr ⟨by show (1:Int)<=(i:Int)+1;omega,_,_,_,_,_,_,B.o,by show w.cell? ⟨J,no+((i:Int)+1 - 1).toNat*2+1,none⟩=_;rw [y.o];exact z.o⟩) (by simp [plcR])
def running_any (v0 v2 v3 v4 v5 v6 v7 v8 v9 a b c:ϒ) (k:Int) (w:Ϣ) :
  ϙ prog 72 #[.agg #[v0,ι k,v2,v3,v4,v5,v6,v7,v8,v9,a,b,c]] w λe d=>e=.returned (.bool (k != 0))/\Below w w d:=by
 go_enter func72,ntmps72;go_wp2;go_ret;exact ⟨rfl,AA _ _⟩
def zero_any (a b d:Option Addr) (n k l:Nat) (w:Ϣ) :
  ϙ prog 102 #[.agg #[σ a 0 n,ι 0,ι 0,ι 0,ι 0,ι 0,ι 0,ι 0,ι 0,ι 0,ι 0,σ b 0 k,σ d 0 l]] w λe c=>e=.returned (.bool true)/\Below w w c:=by
 go_enter func102,ntmps102;go_wp2;go_ret;exact ⟨rfl,(AA _ _).th (AA _ _)⟩
def BoxR (w:Ϣ) (bt:Nat) (s:Tra):Prop:=∃ vs,TraVs (w:Nat) w vs s/\∀ (j:Nat) v,vs[j]?=ς v->w.cell? (π bt j)=ς v
def BoxR.below {w':Ϣ} (h:BoxR w bt s) (a:Below w w w'):BoxR w' bt s:=by
 obtain ⟨e,b,c⟩:=h;exact ⟨e,b.ups a.size (JT.below a),λj v d=>AB a (c j v d)⟩
structure BoxC (w:Ϣ) (bt:Nat) (s:Tra) (gv nv vv av cv ov bv ev dv:ϒ):Prop where
 g:AE w w 1 Aj gv s.M.G/\w.cell? (π bt 0)=ς gv
 n:AE w w 2 (GP w) nv s.M.N/\w.cell? (π bt 1)=ς nv
 v:AE w w 1 (Bg 1 Aj w) vv s.vers/\w.cell? (π bt 2)=ς vv
 clock:w.cell? (π bt 3)=ς (ι s.clock)
 Y:w.cell? (π bt 4)=ς (ι s.Y)
 a:AE w w 13 (TrxE (w:Nat)) av s.active/\w.cell? (π bt 5)=ς av
 c:AE w w 1 (Bg 2 (DA w) w) cv s.A/\w.cell? (π bt 6)=ς cv
 o:AE w w 1 (Bg 5 FM w) ov s.results/\w.cell? (π bt 7)=ς ov
 b:AE w w 1 (Bg 1 Aj w) bv s.Z/\w.cell? (π bt 8)=ς bv
 e:AE w w 1 (Bg 1 Aj w) ev s.P/\w.cell? (π bt 9)=ς ev
 d:AE w w 2 RdE dv s.order/\w.cell? (π bt 10)=ς dv
 aborts:w.cell? (π bt 11)=ς (ι s.aborts)
 U:w.cell? (π bt 12)=ς (ι s.U)
def BoxR.opened (h:BoxR w bt s):∃ g i k b d j c f e,BoxC w bt s g i k b d j c f e:=by
 obtain ⟨v,⟨g,i,k,b,d,j,c,f,e,rfl,l,m,n,o,p,q,r,t,u⟩,a⟩:=h;exact ⟨g,i,k,b,d,j,c,f,e,⟨l,a 0 _ rfl⟩,⟨m,a 1 _ rfl⟩,⟨n,a 2 _ rfl⟩,a 3 _ rfl,a 4 _ rfl,⟨o,a 5 _ rfl⟩,⟨p,a 6 _ rfl⟩,⟨q,a 7 _ rfl⟩,⟨r,a 8 _ rfl⟩,⟨t,a 9 _ rfl⟩,⟨u,a 10 _ rfl⟩,a 11 _ rfl,a 12 _ rfl⟩
def listAt {α:Type} {sz:Nat} {E:Ϣ->Nat->Nat->α->Prop} {v:ϒ} {f:List (List α)} (h:AE B w 1 (Bg sz E B) v f) {l:List α} (hl:f[i]?=ς l) :
  ∃ b o c d e,v=σ (ς (π b o)) f c/\w.cell? (π b (o+i))=ς (σ d l e)/\AE B w sz E (σ d l e) l:=by
 obtain ⟨a,c,rfl,_,_,_,h⟩:=h;rcases h with rfl|⟨b,o,rfl,_,h⟩
 .simp at hl
 .obtain ⟨u,h1,h2⟩:=h i l hl
  obtain ⟨d,e,rfl,k⟩:=id h2;rw [Nat.mul_one] at h1;exact ⟨b,o,c,d,e,rfl,h1,h2⟩
def intAt {d:Option Addr} {g:Nat} {l:List Int} (h:AE B w 1 Aj (σ d n g) l) {x:Int} (c:l[i]?=ς x):∃ b o,d=ς (π b o)/\w.cell? (π b (o+i))=ς (ι x):=by
 obtain ⟨a,f,e,_,_,_,h⟩:=h;cases e;rcases h with rfl|⟨b,o,rfl,_,h⟩
 .simp at c
 .have:=(h i x c).1
  rw [Nat.mul_one] at this;exact ⟨b,o,rfl,this⟩
def times_any (s:Tra) (bt i:Nat) (b e:List Int) (w:Ϣ) (h:BoxR w bt s) (r:s.Z[i]?=ς b) (t:s.P[i]?=ς e) (F:timesB b e (-1) s.U=true) (hl:e.length<=b.length) :
  ϙ prog 103 #[.pointer (ς (π bt 0)),ι i] w λz Q=>z=.returned (.bool true)/\Below w w Q:=by
 obtain ⟨gv,nv,vv,X,cv,ov,bv,ev,dv,f⟩:=h.opened;obtain ⟨bb,bo,bc,ba,bd,rfl,k1,q⟩:=listAt f.b.1 r;obtain ⟨eb,eo,ec,ea,ed,rfl,k2,E⟩:=listAt f.e.1 t;have b8:=f.b.2;have b9:=f.e.2;have v:=f.U;have i0:=In i;have i1:(i:Int)<(s.Z:Int):=by have:=(Ll r);omega
 have i2:(i:Int)<(s.P:Int):=by have:=(Ll t);omega
 have S:b.length<=140737488355328:=by obtain ⟨_,_,_,P,_⟩:=q;exact P
 obtain ⟨G,H,I,J,R⟩:=Λ5 q E v F hl;clear h f r t q E v F hl;go_enter func103,ntmps103;go_upto_region 1 with fail;go_quiet (fail);go_wp2_with fail;go_loopw [7,26] (λl i wr=>∃ (k:Nat) (a:Int),k<=b.length/\i=ι k/\l=ι a/\Below w w wr/\Hid (timesB (b.drop k) (e.drop k) a s.U=true)) (λ_ i _=>b.length - (intOf i).toNat)
 case atStart=>exact ⟨0,-1,Nat.zero_le _,rfl,rfl,AG Br _,Lh J.o⟩
 case round=>
  obtain ⟨k,a,hk,rfl,rfl,d,g⟩:=hrel;by_cases L:k<b.length;rotate_left
  .go_wp2
   go_ret;exact ⟨rfl,d⟩
  obtain ⟨x,m⟩:∃ x,b[k]?=ς x:=⟨_,Lg L⟩
  have j:b.drop k=x::b.drop (k+1):=by obtain ⟨p,rfl⟩:=List.getElem?_eq_some_iff.1 m;exact List.drop_eq_getElem_cons p
  obtain ⟨Y,o1,rfl,o⟩:=intAt G.o m;have c1:=AB d o;have W:=AB d I.o;have T:=In k;have U:(k:Int)<(b:Int):=ω;by_cases K:k<e.length;rotate_left
  .have c:=g.o
   have C:e.drop k=[]:=List.drop_eq_nil_of_le ω;have D:e.drop (k+1)=[]:=List.drop_eq_nil_of_le ω;rw [j,C] at c;unfold timesB at c;simp only [Bool.and_eq_true,decide_eq_true_eq] at c;have M:=θ (x<=a);have N:=θ (s.U<=x);have O:=θ ((k:Int)<(e:Int));have n:=@Lh (timesB (b.drop (k+1)) (e.drop (k+1)) x s.U=true) (by rw [D];exact c.2.2);clear C D c j m g o;go_wp2;go_roundw
   case rel=>exact ⟨k+1,x,ω,by go_num,rfl,d,n⟩
   case measure=>simp [intOf];omega
  obtain ⟨y,u⟩:∃ x,e[k]?=ς x:=⟨_,Lg K⟩
  have A:e.drop k=y::e.drop (k+1):=by obtain ⟨p,rfl⟩:=List.getElem?_eq_some_iff.1 u;exact List.drop_eq_getElem_cons p
  obtain ⟨Z,o2,rfl,B⟩:=intAt H.o u;have c2:=AB d B;have c:=g.o;rw [j,A] at c;unfold timesB at c;simp only [Bool.and_eq_true,decide_eq_true_eq] at c;have M:=θ (x<=a);have N:=θ (s.U<=x);have O:=η ((k:Int)<(e:Int));have d4:=θ (y<x);have d5:=θ (s.U<=y);have V:(k:Int)<(e:Int):=ω;have n:=@Lh (timesB (b.drop (k+1)) (e.drop (k+1)) y s.U=true) c.2.2.2.2;clear c j A m u g o B;go_wp2_with fail;go_quiet (fail);go_wp2;go_roundw
  case rel=>exact ⟨k+1,y,ω,by go_num,rfl,AG d _,n⟩
  case measure=>simp [intOf];omega
def cntO (l:List (Int×Int)) (k t:Nat):Nat:=(l.take k).countP λp=>p.1 == (t:Int)
def cntR (l:List (Int×Int)) (k n:Nat):List ϒ:=(List.range n).map λt=>ι (cntO l k t)
def cntO_le (l:List (Int×Int)) (k t:Nat):cntO l k t<=l.length:=Nt List.countP_le_length (by rw [List.length_take];omega)
def cntO_succ (h:l[k]?=ς o) (t:Nat):cntO l (k+1) t=cntO l k t+(if o.1=(t:Int) then 1 else 0):=by
 unfold cntO;rw [List.take_add_one,h];simp [List.countP_append,List.countP_cons]
def cntR_at (h:t<n):(cntR l k n)[t]?=ς (ι (cntO l k t)):=by
 unfold cntR;rw [List.getElem?_map,List.getElem?_range h];rfl
def cntR_set {q:Int} (h:l[k]?=ς ((t:Int),q)) (b:t<n):(cntR l k n).set t (ι ((cntO l k t:Nat)+1:Int))=cntR l (k+1) n:=by
 apply List.ext_getElem?;intro u;by_cases a:u<n
 .rw [cntR_at a,cntO_succ h]
  by_cases e:u=t
  .subst e
   rw [List.getElem?_set_self (by simp [cntR];exact a)];simp
  .rw [List.getElem?_set_ne (Ne.symm e),cntR_at a,if_neg φ]
   simp
 .rw [List.getElem?_eq_none (by simp [cntR];omega),List.getElem?_eq_none (by simp [cntR];omega)]
def cntR_zero (l:List (Int×Int)) (n:Nat):(cntR l 0 n).toArray=Ad (List.replicate n 0):=by
 unfold cntR Ad cntO;apply congrArg;apply List.ext_getElem?;intro t;by_cases a:t<n
 .rw [List.getElem?_map,List.getElem?_range a,List.getElem?_map,List.getElem?_replicate,if_pos a];simp
 .rw [List.getElem?_eq_none φ,List.getElem?_eq_none φ]
def lastOf_succ {a:List (List Int)} (h:l[k]?=ς o):lastOf a (l.take (k+1))=(a.getD o.1.toNat []).getD o.2.toNat 0:=by
 unfold lastOf;rw [List.take_add_one,h];simp
def ordered_any (s:Tra) (bt:Nat) (w:Ϣ) (h:BoxR w bt s) (h8:s.active.length<=8) (m:s.results.length=s.active.length) (o:s.P.length=s.active.length) (ho:OrdOk s.P s.order) (c:∀ (t:Nat) r e,s.results[t]?=ς r->s.P[t]?=ς e->e.length=r.length) :
  ϙ prog 71 #[.pointer (ς (π bt 0))] w λz w'=>z=.returned (.bool true)/\Below w w w':=by
 obtain ⟨gv,nv,vv,av,cv,ov,bv,ev,dv,a⟩:=h.opened;obtain ⟨aa,ac,rfl⟩:=a.a.1.form;obtain ⟨da,dc,rfl⟩:=a.d.1.form;obtain ⟨oa,oc,rfl⟩:=a.o.1.form;obtain ⟨ea,ec,rfl⟩:=a.e.1.form;have b5:=a.a.2;have U:=a.d.2;have d:=Lh a;have P:=Lh ho;have HR:=Lh c;obtain ⟨n,M⟩:=ε s.active.length;rw [<-M] at h8 m o b5;have S:s.order.length<=140737488355328:=by obtain ⟨_,_,_,hh,_⟩:=a.d.1;exact hh
 have g:=Lh (And.intro m (And.intro o (And.intro S M)));clear h a ho c m o S M;have n0:=In n;have bA:=FK w n ω;obtain ⟨W,L⟩:=ε (w.alloc (χ (Ad (List.replicate n 0)) 3));rw [<-L] at bA;have F:=@Lh (Below w w W/\W.heap[(w:Nat)]?=ς (χ (cntR s.order 0 n).toArray 3 (0,0))) (by rw [L,cntR_zero];exact ⟨AA _ _,Hn _ _⟩);clear L;have bH:=AB F.o.1 U;clear U;go_enter func71,ntmps71;go_wp2_with fail;go_loopw [4,21] (λl i wr=>∃ k:Nat,k<=s.order.length/\i=ι k/\l=ι (lastOf s.P (s.order.take k))/\Below w w wr/\Hid (wr.heap[(w:Nat)]?=ς (χ (cntR s.order k n).toArray 3 (0,0)))) (λ_ i _=>s.order.length - (intOf i).toNat)
 case atStart=>exact ⟨0,Nat.zero_le _,rfl,rfl,F.o.1,Lh F.o.2⟩
 case round=>
  obtain ⟨k,hk,rfl,rfl,C,v⟩:=hrel;have aY:(s.order:Int)<=140737488355328:=by have:=g.o.2.2.1;omega
  by_cases aZ:k<s.order.length;rotate_left
  .obtain rfl:k=s.order.length:=ω
   go_wp2_with fail;go_loopw [92] (λi Z=>∃ t:Nat,t<=n/\i=ι t/\Below w w Z/\Hid (Z.heap[(w:Nat)]?=ς (χ (cntR s.order s.order.length n).toArray 3 (0,0)))) (λi _=>n - (intOf i).toNat)
   case atStart=>exact ⟨0,Nat.zero_le _,rfl,C,v⟩
   case round=>
    obtain ⟨t,O,rfl,u,R⟩:=hrel;by_cases D:t<n;rotate_left
    .go_wp2
     go_ret;exact ⟨rfl,u⟩
    obtain ⟨r,c⟩:∃ x,s.results[t]?=ς x:=⟨_,Lg (by have:=g.o.1;omega)⟩
    obtain ⟨e,b⟩:∃ x,s.P[t]?=ς x:=⟨_,Lg (by have:=g.o.2.1;omega)⟩
    obtain ⟨ob,oo,bG,ra,rc,bB,k7,-⟩:=listAt d.o.o.1 c;cases bB;have c7:=AB u d.o.o.2;have c8:=AB u k7;have cn:wr.cell? (π w t)=ς (ι (r:Int)):=by
     rw [cell_of_row _ _ _ _ _ _ R.o];have m:=P.o.all t e b;have o:=HR.o t r e c b;have h3:(cntO s.order s.order.length t:Int)=r.length:=by unfold cntO;rw [List.take_length,m,o]
     rw [List.getElem?_toArray,cntR_at D,h3]
    have t0:=In t;have t1:(t:Int)<(n:Int):=ω;have t2:(t:Int)<(s.results:Int):=by have:=g.o.1;omega
    clear c b k7;go_wp2;go_roundw
    case rel=>exact ⟨t+1,ω,by go_num,u,R⟩
    case measure=>simp [intOf];omega
  obtain ⟨⟨ot,oq⟩,p⟩:∃ x,s.order[k]?=ς x:=⟨_,Lg aZ⟩
  have B:=P.o.at_ k _ p;obtain ⟨t,rfl⟩:∃ t:Nat,ot=t:=⟨ot.toNat,by have:=B.1;dsimp only at this;omega⟩
  obtain ⟨q,rfl⟩:∃ q:Nat,oq=q:=⟨_,B.2.2.1⟩
  simp only [Int.toNat_natCast] at B;obtain ⟨-,O,hq,K,G⟩:=B;obtain ⟨e,b⟩:∃ x,s.P[t]?=ς x:=⟨_,Lg O⟩
  rw [getD_at b] at K G;obtain ⟨y,E⟩:∃ y,e[q]?=ς y:=⟨_,Lg K⟩
  rw [getD_at E] at G;have D:t<n:=by have:=g.o.2.1;omega
  have J:q=cntO s.order k t:=by unfold cntO;omega
  obtain ⟨db,dd,rfl,-,V,X⟩:=d.o.d.1.nth p;obtain ⟨eb,eo,bF,ra,rc,aX,k9,Y⟩:=listAt d.o.e.1 b;cases aX;obtain ⟨yb,yo,rfl,ky⟩:=intAt Y E;obtain ⟨f,j⟩:=ε (wr.alloc (χ #[ι (t:Int),ι (q:Int)] 85));have I:=bl1 j;have H:=C.th I;have x0:=AB C V;have x1:=AB C X;dsimp only at x0 x1;have c9:=Δ3 H d.o.e.2 k9 ky;have A:=(I.block _ (La v.o)).trans v.o;have cn:f.cell? (π w t)=ς (ι (q:Int)):=by rw [cell_of_row _ _ _ _ _ _ A,List.getElem?_toArray,cntR_at D,<- J]
  have fn:f.frozen? (π w t)=false:=Fz A;have bD:f.cell? (π wr 0)=ς (ι (t:Int)):=by rw [j,B6];rfl
  have bE:f.cell? (π wr 1)=ς (ι (q:Int)):=by rw [j,B6];rfl
  have e0:=θ ((t:Int)<0);have e1:=θ (n<=t);have e2:=θ (e.length<=q);have e3:=θ (y<=lastOf s.P (s.order.take k));have t0:=In t;have t1:(t:Int)<(n:Int):=ω;have t2:(t:Int)<(s.P:Int):=ω;have q0:=In q;have q1:(q:Int)<(e:Int):=ω;have k0:=In k;have k1:(k:Int)<(s.order:Int):=ω;have ew:IntKind.i64.wrap ((q:Int)+1)=(q:Int)+1:=by have:=cntO_le s.order k t;rw [IntKind.wrap_i64]<;>omega
  have aV:=Lh H;have aW:=Lh A;have T:Hid (lastOf s.P (s.order.take (k+1))=y/\(cntR s.order k n).set t (ι ((q:Int)+1))=cntR s.order (k+1) n):=Lh ⟨by
   rw [lastOf_succ p];simp only [Int.toNat_natCast];rw [getD_at b,getD_at E],by rw [J];exact cntR_set p D⟩
  have Q:=Lh j;clear I H A p hq K G b E J V X k9 Y ky v j O;go_upto_region 7 with fail;rw [<-Q.o];clear Q x0 x1;go_quiet (fail);go_wp2_with fail;go_quiet (fail);go_wp2;go_roundw
  case rel=>refine ⟨k+1,ω,by go_num,by rw [T.o.1],Ay (AG aV.o _) (Nr _),Lh ?_⟩;have bC:∀ N,(f.drewN N).heap[(w:Nat)]?=ς (χ (cntR s.order k n).toArray 3 (0,0)):=λ_=>aW.o;rw [heap_setCell_same _ _ _ _ _ _ (bC _)];simp only [List.setIfInBounds_toArray];rw [T.o.2]
  case measure=>simp [intOf];omega
