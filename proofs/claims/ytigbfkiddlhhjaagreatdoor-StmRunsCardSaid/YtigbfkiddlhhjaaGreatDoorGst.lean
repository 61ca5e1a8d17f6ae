import Derived.Test.YtigbfkiddlhhjaaGreatDoorReg
set_option maxHeartbeats 8000000
set_option maxRecDepth 100000
set_option linter.all false
open Go renaming World→Ϣ,Value→ϒ,Calls→ϙ
open Go.RowKit renaming Below→ϐ
open Option renaming some→O
open Bool renaming false→ϝ,true→ϑ
open And renaming intro→ϟ
open Go.Value renaming slice→H
open Go.Obj renaming cells→I
namespace Go.Proofs.YtigbfkiddlhhjaaGreatDoor
open Go.RowKit Proofs.Tryz
open Go.RowKit renaming ι→X,π→D,ω→K
variable{α β:Type}{T e e2:TypeId}{B sz b cap n k B' j size tag bt i n2 o:Nat}{w w' d w1:Ϣ}{v u:ϒ}{a:Addr}{m:Mm}{T' S:Nat->Prop}{r:Rq}{P:Ϣ->ϒ->Prop}{vs:List ϒ}{L:List (Addr×ϒ)}{E:Ϣ->Nat->Nat->α->Prop}{l:List α}{f:α->List β}
def AE.fr(d:AE B w sz E v l):∃a cap,v=H a l cap/\l.length<=140737488355328:=by
 let⟨a,cap,b,c,_⟩:=d;exact⟨a,cap,b,c⟩
def PO(b:Bool)(w:Ϣ)(e:Ending)(w':Ϣ):Prop:=e=.returned (.bool b)/\ϐ w w w'
def XP{a b:Bool}(c:a=b):Ending.returned (.bool a)=Ending.returned (.bool b):=by rw[c]
def Gx{a b:Bool}(d:a=b)(c:ϐ w w w'):PO b w (.returned (.bool a)) w':=⟨XP d,c⟩
def MD(m:Mm):Bool:=decide (60<(m.G:Int))||(decide (60<(m.N:Int))||m.N.any (λx=>decide (60<(x.f:Int))))
def au(a:MD m=ϝ):m.G.length<=60/\m.N.length<=60/\∀x∈m.N,x.f.length<=60:=by
 unfold MD at a;simp only[Bool.or_eq_false_iff,decide_eq_false_iff_not,List.any_eq_false,decide_eq_true_eq]at a;exact⟨K,K,λx b=>by have:=a.2.2 x b;omega⟩
def TN(m:Mm)(h:ϒ)(B:Nat)(w:Ϣ)(V:B<=w)(A:Lw B w h m):ϙ prog 7 #[h] w (PO (MD m) w):=by
 obtain⟨_,_,rfl,q,j⟩:=A;obtain⟨Q,R,rfl,P⟩:=q.fr;obtain⟨W,Y,rfl,M⟩:=j.fr;have T:=Lh j;have f:=@Lh (MD m=(decide (60<(m.G:Int))||(decide (60<(m.N:Int))||m.N.any (λx=>decide (60<(x.f:Int)))))) rfl;let⟨g,e⟩:=ε m.G.length;let⟨c,d⟩:=ε m.N.length;rw[<-d]at M T f ⊢;rw[<-e]at P f ⊢;have bE:=Lh d;let⟨L,a⟩:=ε (w.alloc (I #[H Q g R,H W c Y] 28));have n:=Lh (bl1 a);have h:=Xao a;have bG:=Ω2 h;have bF:=Nt V n.o.size;clear e d;go_in;go_upto_region 1 with fail;rw[<-a];clear a;by_cases bJ:(g:Int)<=60;rotate_left
 .go_wp2
  go_ret;exact Gx (by rw[f.o,show decide (60<(g:Int))=ϑ by simp;omega];rfl) n.o
 by_cases bI:(c:Int)<=60;rotate_left
 .go_wp2
  go_ret;exact Gx (by rw[f.o,show decide (60<(c:Int))=ϑ by simp;omega];simp) n.o
 have bC:=@Lh (MD m=m.N.any (λx=>decide (60<(x.f:Int)))) (by rw[f.o,show decide (60<(g:Int))=ϝ by simp;omega,show decide (60<(c:Int))=ϝ by simp;omega];rfl);go_wp2_with fail;go_loopw[3] (λi wr=>∃k:Nat,k<=c/\i=X k/\Hid (∀y∈m.N.take k,y.f.length<=60)/\Hid (ϐ L L wr)) (λi _=>c-(intOf i).toNat);exact⟨0,Nat.zero_le _,rfl,Lh ψ,Lh Br⟩;obtain⟨k,_,rfl,S,l⟩:=hrel;have J:=Lh ((n.o.mono V).trans (l.o.mono bF));have:=AB l.o bG.2;by_cases bH:k<c
 .obtain ⟨x,d⟩:=Ϡ m.N k (by have:=bE.o;omega)
  rcases T.o.nods J.o with ⟨s,u,z,_,_,_,e⟩;obtain⟨rfl,-,rfl⟩:W=s/\c=m.N.length/\Y=u:=by simpa using z
  rcases e with p|⟨b,o,rfl,_,e⟩
  .rw [p]at d;simp at d
  let⟨_,⟨_,E,r⟩,_⟩:=e k x d;obtain⟨_,_,rfl,v⟩:=r.fr;have C:=Lh d;let⟨d,a⟩:=ε x.f.length;rw[<-a]at E v;have t:=Lh a;have:=In k;have:(k:Int)<(c:Int):=K;clear a;by_cases bD:(d:Int)<=60
  .have N:Hid (∀y∈m.N.take (k+1),y.f.length<=60):=Lh (λy a=>by
    rw[List.take_add_one,C.o]at a;rcases List.mem_append.1 a with a|a
    .exact S.o y a
    simp at a;subst a;have:=t.o;omega)
   go_wp2;go_roundw;exact⟨k+1,K,by go_num,N,l⟩;simp[intOf];omega
  have F:=@Lh (MD m=ϑ) (by
   rw[bC.o,List.any_eq_true];exact⟨x,Lm C.o,by have:=t.o;simp;omega⟩)
  go_wp2;go_ret;exact Gx F.o.symm (n.o.th l.o)
 obtain rfl:k=c:=K;have G:=@Lh (MD m=ϝ) (by
  rw[bC.o,List.any_eq_false];intro y a;have:=S.o y (by rw[bE.o,List.take_length];exact a);simp;omega)
 go_wp2;go_ret;exact Gx G.o.symm (n.o.th l.o)
def AE.elem{a:Option Addr}(j:AE B w sz E (H a n cap) l){x:α}(d:l[k]?=O x):∃b o,a=O (D b o)/\b<B/\E w b (o+k*sz) x:=by
 let⟨f,h,i,_,_,_,c⟩:=j;obtain⟨rfl,_,rfl⟩:a=f/\n=l.length/\cap=h:=by simpa using i
 rcases c with e|⟨b,o,rfl,g,c⟩
 .rw [e]at d;simp at d
 exact⟨b,o,rfl,g,c k x d⟩
def AE.frm(c:AE B w sz E v l):∃a cap,v=H a l cap/\l.length<=140737488355328:=by
 obtain⟨a,cap,rfl,b,_⟩:=c;exact⟨a,cap,rfl,b⟩
def YA(w:Ϣ)(e:Ending)(w':Ϣ):Prop:=e=.returned (.bool ϑ)/\∃n,w'=w.drewN n
def RW(l:List Int)(e f:ϒ)(h B:Nat)(w:Ϣ)(c:AE h w 1 Aj e l)(b:AE B w 1 Aj f l):ϙ prog 136 #[e,f] w (YA w):=by
 obtain⟨_,_,rfl,t⟩:=c.frm;obtain⟨_,_,rfl,_⟩:=b.frm;have m:=Lh c;have p:=Lh b;let⟨d,a⟩:=ε l.length;rw[<-a]at t m p ⊢;have z:=Lh a;clear c b a;go_in;go_wp2_with fail;go_loopw[5] (λi wr=>∃k:Nat,k<=d/\i=X k/\Hid (∃n,wr=w.drewN n)) (λi _=>d-(intOf i).toNat);exact⟨0,Nat.zero_le _,rfl,Lh ⟨0,rfl⟩⟩;obtain⟨k,_,rfl,o⟩:=hrel;let⟨n,a⟩:=o.o;by_cases A:k<d
 .obtain ⟨x,b⟩:=Ϡ l k (by have:=z.o;omega)
  let⟨r,s,q,_,g⟩:=m.o.elem b;let⟨v,y,j,_,c⟩:=p.o.elem b;subst q j;have c1:wr.cell? (D r (s+k))=O (X x):=by rw[a];have:=g.1;rw[Nat.mul_one]at this;exact this
  have:wr.cell? (D v (y+k))=O (X x):=by rw[a];have:=c.1;rw[Nat.mul_one]at this;exact this
  have:=In k;have:(k:Int)<(d:Int):=K;have u:=Lh a;clear b g c o a;go_wp2_with fail;go_quiet(fail);go_wp2;go_roundw;exact⟨k+1,K,by go_num,Lh ⟨_,by rw[u.o,World.drewN_drewN]⟩⟩;simp[intOf];omega
 go_wp2;go_ret;exact⟨rfl,n,rfl⟩
def Er(l:List Int)(e f:ϒ)(h B:Nat)(w:Ϣ)(c:AE h w 1 Aj e l)(b:AE B w 1 Aj f l):ϙ prog 67 #[e,f] w (YA w):=by
 obtain⟨_,_,rfl,t⟩:=c.frm;obtain⟨_,_,rfl,_⟩:=b.frm;have m:=Lh c;have p:=Lh b;let⟨d,a⟩:=ε l.length;rw[<-a]at t m p ⊢;have z:=Lh a;clear c b a;go_in;go_wp2_with fail;go_loopw[5] (λi wr=>∃k:Nat,k<=d/\i=X k/\Hid (∃n,wr=w.drewN n)) (λi _=>d-(intOf i).toNat);exact⟨0,Nat.zero_le _,rfl,Lh ⟨0,rfl⟩⟩;obtain⟨k,_,rfl,o⟩:=hrel;let⟨n,a⟩:=o.o;by_cases A:k<d
 .obtain ⟨x,b⟩:=Ϡ l k (by have:=z.o;omega)
  let⟨r,s,q,_,g⟩:=m.o.elem b;let⟨v,y,j,_,c⟩:=p.o.elem b;subst q j;have c1:wr.cell? (D r (s+k))=O (X x):=by rw[a];have:=g.1;rw[Nat.mul_one]at this;exact this
  have:wr.cell? (D v (y+k))=O (X x):=by rw[a];have:=c.1;rw[Nat.mul_one]at this;exact this
  have:=In k;have:(k:Int)<(d:Int):=K;have u:=Lh a;clear b g c o a;go_wp2_with fail;go_quiet(fail);go_wp2;go_roundw;exact⟨k+1,K,by go_num,Lh ⟨_,by rw[u.o,World.drewN_drewN]⟩⟩;simp[intOf];omega
 go_wp2;go_ret;exact⟨rfl,n,rfl⟩
def AE.fraElem{a:Option Addr}{l:List AY}(E:AE B w 4 (CK B) (H a n cap) l)(C:ϐ B w w'){f:AY}(A:l[k]?=O f):∃b o e g h i,a=O (D b o)/\b<B/\w'.cell? (D b (o+k*4))=O (X f.fn)/\w'.cell? (D b (o+k*4+1))=O (X f.pc)/\w'.cell? (D b (o+k*4+2))=O (H e f.L g)/\w'.cell? (D b (o+k*4+3))=O (H h f.S i)/\AE B w' 1 Aj (H e f.L g) f.L/\AE B w' 1 Aj (H h f.S i) f.S:=by
 obtain⟨b,o,rfl,z,r⟩:=(E.fras C).elem A;let⟨x,y,⟨v,t,d⟩,⟨u,s,c⟩,_⟩:=r;obtain⟨p,q,rfl,_⟩:=d.frm;obtain⟨j,m,rfl,_⟩:=c.frm;exact⟨b,o,p,q,j,m,rfl,z,x,y,t,s,d,c⟩
def VD(m:AV)(c d:ϒ)(t B:Nat)(w:Ϣ)(bU:t<=w)(bV:B<=w)(r:AE t w 4 (CK t) c m.J)(q:AE B w 4 (CK B) d m.J) :
  ϙ prog 97 #[.agg (AC c m),.agg (AC d m)] w (λe w'=>e=.returned (.bool ϑ)/\ϐ w w w'):=by
 obtain⟨F,G,rfl,z⟩:=r.frm;obtain⟨L,M,rfl,_⟩:=q.frm;let⟨b,⟨l,n,g,o,d⟩,h,c,j⟩:=m;dsimp only at r q z ⊢;have bX:=Lh r;have bY:=Lh q;let⟨a,q⟩:=ε b.length;rw[<-q]at z bX bY ⊢;have cC:=Lh q;let⟨u,p⟩:=ε ((w.alloc (I (AC (H F a G) ⟨b,⟨l,n,g,o,d⟩,h,c,j⟩) 59)).alloc (I (AC (H L a M) ⟨b,⟨l,n,g,o,d⟩,h,c,j⟩) 59));have s:=Lh (bl2 p);have bZ:=@Lh (AR u w (AC (H F a G) ⟨b,⟨l,n,g,o,d⟩,h,c,j⟩).toList) (by rw[p];exact AF.alloc _);have bW:Hid (AR u (w+1) (AC (H L a M) ⟨b,⟨l,n,g,o,d⟩,h,c,j⟩).toList):=by rw[p];have:=@AF (w.alloc (I (AC (H F a G) ⟨b,⟨l,n,g,o,d⟩,h,c,j⟩) 59)) (AC (H L a M) ⟨b,⟨l,n,g,o,d⟩,h,c,j⟩) 59;exact Lh (by simpa using this)
 clear q;unfold AC at p ⊢;go_in;go_upto_region 1 with fail;rw[<-p];clear p;have bS:=Γ9 bZ.o;have bT:=Γ9 bW.o;go_wp2_with fail;go_loopw[5] (λi wr=>∃k:Nat,k<=a/\i=X k/\Hid (ϐ u u wr)) (λi _=>a-(intOf i).toNat);exact⟨0,Nat.zero_le _,rfl,Lh Br⟩;obtain⟨k,_,rfl,p⟩:=hrel;have d:=AB p.o bS.1;have c:=AB p.o bT.1;have:=Bl d;have:=Bl c;by_cases cD:k<a
 .obtain ⟨f,c⟩:=Ϡ b k (by have:=cC.o;omega)
  have d:ϐ t w wr:=(s.o.mono bU).trans (p.o.mono (Nt bU s.o.size));have b:ϐ B w wr:=(s.o.mono bV).trans (p.o.mono (Nt bV s.o.size));let⟨_,_,_,_,_,_,bN,_,R,bR,N,Q,bO,bP⟩:=bX.o.fraElem d c;let⟨_,_,_,_,_,_,W,_,P,bQ,A,E,Y,bL⟩:=bY.o.fraElem b c;subst bN W;let⟨v,C,y,J⟩:=Λ4 bO bP Y bL;let⟨_,_,V,bM⟩:=f;dsimp only at R bR N Q P bQ A E v C y J;let⟨_,c⟩:=ε V.length;let⟨_,b⟩:=ε bM.length;rw[<-c]at N A v y;rw[<-b]at Q E C J;have:=Bl R;have:=Bl P;have:=In k;have:(k:Int)<(a:Int):=K;clear c b;go_wp2_with fail;have S:t<=wr:=Nt bU (Nt s.o.size p.o.size);have T:B<=wr:=Nt bV (Nt s.o.size p.o.size);go_region;all_goals
   go_wp2_with fail;refine(RW V _ _ t B _ (v.o.ints ((AG ((AA _ _).th (AA _ _)) 1).mono S)) (y.o.ints ((AG ((AA _ _).th (AA _ _)) 1).mono T))).mono ?_;rintro e cA⟨rfl,nq,rfl⟩;go_wp2_with fail;refine(RW bM _ _ t B _ (C.o.ints ((AG ((AA _ _).th (AA _ _)) _).mono S)) (J.o.ints ((AG ((AA _ _).th (AA _ _)) _).mono T))).mono ?_;rintro e cB⟨rfl,_,rfl⟩;go_wp2;go_roundw;exact⟨k+1,K,by go_num,Lh (p.o.th (AG ((AA _ _).th (AA _ _)) _))⟩;simp[intOf];omega
 go_wp2;go_ret;exact⟨rfl,s.o.th p.o⟩
def AE.nodElem{a:Option Addr}{l:List Gl}(s:AE B w 2 (GP B) (H a n cap) l)(r:ϐ B w w'){f:Gl}(q:l[k]?=O f):∃b o d e,a=O (D b o)/\b<B/\w'.cell? (D b (o+k*2))=O (X f.type)/\w'.cell? (D b (o+k*2+1))=O (H d f.f e)/\AE B w' 1 Aj (H d f.f e) f.f:=by
 obtain⟨b,o,rfl,p,i⟩:=(s.nods r).elem q;let⟨m,⟨v,j,c⟩,_⟩:=i;obtain⟨g,h,rfl,_⟩:=c.frm;exact⟨b,o,g,h,rfl,p,m,j,c⟩
def TH(m:Mm)(j l:ϒ)(r B:Nat)(w:Ϣ)(F:r<=w)(L:B<=w)(y:Lw r w j m)(J:Lw B w l m) :
  ϙ prog 36 #[j,l] w (λe w'=>e=.returned (.bool ϑ)/\ϐ w w w'):=by
 obtain⟨_,_,rfl,p,q⟩:=y;obtain⟨_,n2,rfl,h,o⟩:=J;obtain⟨W,Y,rfl,_⟩:=p.frm;obtain⟨bQ,bR,rfl,_⟩:=h.frm;obtain⟨R,S,rfl,N⟩:=q.frm;obtain⟨T,V,rfl,_⟩:=o.frm;let⟨A,C,bS,bT⟩:=Λ4 p h q o;let⟨j,l⟩:=ε m.G.length;let⟨d,g⟩:=ε m.N.length;rw[<-l]at A C ⊢;rw[<-g]at N bS bT ⊢;have cA:=Lh g;let⟨b,a⟩:=ε ((w.alloc (I #[H W j Y,H R d S] 28)).alloc (I #[H bQ j bR,H T d V] 28));have c:=Lh (bl2 a);have y:=Lh (Xdu a);have j:=Lh (Xek a);have bU:=Γ2 y.o;have bV:=Γ2 j.o;have bW:r<=b:=Nt F c.o.size;have bY:B<=b:=Nt L c.o.size;clear p h q o l g;go_in;go_upto_region 1 with fail;rw[<-a];clear a;go_wp2_with fail;refine(Er m.G _ _ r B b (A.o.ints (c.o.mono F)) (C.o.ints (c.o.mono L))).mono ?_;rintro e bZ⟨rfl,nq,rfl⟩;go_wp2_with fail;go_loopw[5] (λi wr=>∃k:Nat,k<=d/\i=X k/\Hid (∃n,wr=b.drewN n)) (λi _=>d-(intOf i).toNat);exact⟨0,Nat.zero_le _,rfl,Lh ⟨nq,rfl⟩⟩;obtain⟨k,_,rfl,E⟩:=hrel;let⟨n,q⟩:=E.o;have a:ϐ b b wr:=by rw[q];exact AG Br n
 have:=AB a bU.2;have:=AB a bV.2;by_cases bX:k<d
 .obtain ⟨f,o⟩:=Ϡ m.N k (by have:=cA.o;omega)
  let⟨_,_,_,_,M,_,P,u,v⟩:=bS.o.nodElem ((c.o.mono F).trans (a.mono bW)) o;let⟨_,_,_,_,z,_,G,p,t⟩:=bT.o.nodElem ((c.o.mono L).trans (a.mono bY)) o;subst M z;have g:=Lh v;have h:=Lh t;let⟨_,s⟩:=f;dsimp only at P u G p g h;let⟨_,b⟩:=ε s.length;rw[<-b]at u p g h;have:=In k;have:(k:Int)<(d:Int):=K;have Q:=Lh q;clear o v t b E q a;go_wp2_with fail;go_quiet((go_at_call 67;exact Calls.quiet_of (Er s _ _ r B _ (g.o.ints (AG Br _)) (h.o.ints (AG Br _)))));go_wp2;go_roundw;exact⟨k+1,K,by go_num,Lh ⟨_,by rw[Q.o,World.drewN_drewN]⟩⟩;simp[intOf];omega
 clear a;go_wp2;go_ret;exact⟨rfl,AG c.o n⟩
@[simp] theorem X9 {w:Ϣ} {b o c p:Nat} {x:ϒ} (a:¬b=c):(w.setCell (D c p) x).cell? (D b o)=w.cell? (D b o):=World.cell?_setCell_other _ _ _ _ (by simp;exact λe=>absurd e.symm a)
def Cb(w:Ϣ)(o:Obj):ϐ w w (w.alloc o).drew:=AG (AA w o) 1
def GB(b o j:Nat):((D b o):Addr).add j=(D b (o+j)):=by unfold Addr.add;split<;>simp_all
def Cy(w:Ϣ)(vs:Array ϒ)(T:TypeId)(j:Nat):(w.alloc (I vs T)).drew.cell? (Addr.add (D w 0) j)=vs[j]?:=by
 rw[GB,Nat.zero_add];exact B6 w vs T j
abbrev A1:=Nat->Nat
def mask(w:Ϣ)(c:A1):Ϣ:={w with heap:=w.heap.mapIdx λi o=>if c i=0 then o else I #[] 0 (0,0)}
def Hk(w:Ϣ)(c:A1):(mask w c).heap.size=(w:Nat):=by simp[mask]
def GJ(w:Ϣ)(c:A1)(a:Addr):(mask w c).cell? a=if c a.block=0 then w.cell? a else none:=by
 unfold World.cell? mask;rw[Array.getElem?_mapIdx];cases d:w.heap[a.block]? with
 |none=>simp
 |some o=>
  by_cases b:c a.block=0
  .simp [b]
  simp[b]
variable{c:A1}
def Jj(a:c b=0):(mask w c).heap[b]?=w.heap[b]?:=by
 simp[mask,Array.getElem?_mapIdx,a]
def JT(w w':Ϣ):Prop:=∀a v,w.cell? a=O v->w'.cell? a=O v
def JT.mask(w:Ϣ)(c:A1):JT (mask w c) w:=λa v b=>by
 rw[GJ]at b;split at b
 .exact b
 cases b
def JT.below(b:ϐ w w w'):JT w w':=λ_ _ a=>AB b a
def JT.trans{a b c:Ϣ}(e:JT a b)(k:JT b c):JT a c:=λx v d=>k x v (e x v d)
def Tl{α:Type}(E:Nat->Ϣ->Nat->Nat->α->Prop):Prop:=∀B B' w w' b o x,B<=B'->JT w w'->E B w b o x->E B' w' b o x
def AE.ups{E:Nat->Ϣ->Nat->Nat->α->Prop}(h:Tl E)(j:B<=B')(g:JT w w')(c:AE B w sz (E B) v l):AE B' w' sz (E B') v l:=by
 obtain⟨a,cap,rfl,d,e,f,c⟩:=c;refine⟨a,cap,rfl,d,e,f,?_⟩;rcases c with c|⟨b,o,rfl,_,c⟩
 .exact .inl c
 exact .inr ⟨b,o,rfl,K,λi x d=>h _ _ _ _ _ _ _ j g (c i x d)⟩
def B5:Tl (λ_=>Aj):=λ_ _ _ _ _ _ _ _ b a=>⟨b _ _ a.1,a.2⟩
def WV:Tl (λ_=>FM):=λ_ _ _ _ _ _ _ _ b a=>⟨b _ _ a.1,b _ _ a.2.1,b _ _ a.2.2.1,b _ _ a.2.2.2.1,b _ _ a.2.2.2.2.1,a.2.2.2.2.2⟩
def Dx:Tl CK:=λ_ _ _ _ _ _ _ b a c=>by
 let⟨d,e,⟨v,f,g⟩,⟨u,h,i⟩,j⟩:=c;exact⟨a _ _ d,a _ _ e,⟨v,a _ _ f,g.ups B5 b a⟩,⟨u,a _ _ h,i.ups B5 b a⟩,j⟩
def WU:Tl GP:=λ_ _ _ _ _ _ _ g a b=>by
 let⟨c,⟨v,d,e⟩,f⟩:=b;exact⟨a _ _ c,⟨v,a _ _ d,e.ups B5 g a⟩,f⟩
def Hd:Tl DA:=λ_ _ _ _ _ _ _ g a b=>by
 let⟨c,⟨v,d,e⟩,f⟩:=b;exact⟨a _ _ c,⟨v,a _ _ d,e.ups B5 g a⟩,f⟩
def WT:Tl Ht:=λ_ _ _ _ _ _ _ g a c=>by
 let⟨b,d,e,f⟩:=c;exact⟨b,λj v b=>a _ _ (d j v b),e.ups Dx g a,f⟩
def Il{E:Nat->Ϣ->Nat->Nat->α->Prop}(f:Tl E):Tl (λB=>Bg sz (E B) B):=λ_ _ _ _ _ _ _ e a b=>by
 let⟨v,c,d⟩:=b;exact⟨v,a _ _ c,d.ups f e a⟩
structure AT(T:Nat->Prop)(c c':A1)(w w':Ϣ):Prop where
 os:w'.os=w.os
 tape:w'.tape=w.tape
 output:w'.output=w.output
 size:(w:Nat)<=w'
 kp:∀b,b<(w:Nat)->¬T (c b)->w'.heap[b]?=w.heap[b]?
 old:∀b,b<(w:Nat)->c' b=c b
 zero:¬T 0
def AT.ob{T:Nat->Prop}(a:ϐ w w w')(e:¬T 0):AT T c c w w':=⟨a.os,a.tape,a.output,a.size,λb d _=>a.block b d,λ_ _=>rfl,e⟩
variable{c' c'':A1}
def AT.trans{T:Nat->Prop}{a b:Ϣ}(e:AT T c c' a b)(k:AT T c' c'' b d):AT T c c'' a d:=
 ⟨k.os.trans e.os,k.tape.trans e.tape,k.output.trans e.output,Nt e.size k.size,λi f g=>by
  rw[k.kp i (Nl f e.size) (by rw[e.old i f];exact g),e.kp i f g],λi f=>by rw[k.old i (Nl f e.size),e.old i f],e.zero⟩
def AT.mono{T:Nat->Prop}(a:AT T c c' w w')(g:∀d,T d->T' d)(f:¬T' 0):AT T' c c' w w':=⟨a.os,a.tape,a.output,a.size,λb d e=>a.kp b d (λd=>e (g _ d)),a.old,f⟩
def AT.aft{T:Nat->Prop}{a b:Ϣ}(e:AT T c' c'' b d)(k:AT T' c c' a b)(g:∀f,T' f->T f:=by intro _ e;exact e.elim):AT T c c'' a d:=(k.mono g e.zero).trans e
def NZ(t:Nat):Prop:=t≠0/\t≠14
def Qx:¬NZ 0:=λa=>a.1 rfl
def Io:¬NZ 14:=λa=>a.2 rfl
def AT.nz{T:Nat->Prop}(d:AT T c c' w w')(e:¬T 14:=by first|exact id|omega):AT NZ c c' w w':=d.mono (λa b=>⟨λa=>d.zero (a▸b),λa=>e (a▸b)⟩) Qx
def AT.below{T:Nat->Prop}(a:AT T c c' w w')(e:∀b,b<B->c b=0)(d:B<=w):ϐ B w w':=
 ⟨a.os,a.tape,a.output,a.size,λb d=>a.kp b K (by rw[e b d];exact a.zero)⟩
def AT.low{T:Nat->Prop}(e:AT T c c' w w')(d:∀b,b<B->c b=0)(a:B<=w):∀b,b<B->c' b=0:=λb a=>by rw[e.old b K];exact d b a
def AT.sub{T:Nat->Prop}(h:AT T c c' w w'):JT (mask w c) (mask w' c'):=λa v b=>by
 rw[GJ]at b ⊢;split at b
 .rename_i e
  have d:=World.block_lt_of_cell? w a b;rw[if_pos (by rw[h.old _ d];exact e),World.cell?_of_block (w:=w) (h.kp _ d (by rw[e];exact h.zero))];exact b
 cases b
def AT.cell{T:Nat->Prop}(d:AT T c c' w w')(b:w.cell? a=O v)(e:¬T (c a.block)):w'.cell? a=O v:=by
 rw[World.cell?_of_block (w:=w) (d.kp _ (World.block_lt_of_cell? w a b) e)];exact b
def AT.cd{T:Nat->Prop}(e:AT T c c' w.drew w')(d:w.cell? a=O v)(b:¬T (c a.block)):w'.cell? a=O v:=e.cell d b
def AT.frozen{T:Nat->Prop}(f:AT T c c' w w')(e:a.block<w)(d:w.frozen? a=ϝ)(b:¬T (c a.block)):w'.frozen? a=ϝ:=by
 rw[World.frozen?_of_block (w:=w) (f.kp _ e b)];exact d
def AT.set{T:Nat->Prop}(d:T (c b))(f:¬T 0):AT T c c w (w.setCell (D b j) v):=
 ⟨rfl,rfl,rfl,ψ,λk _ a=>heap_setCell_other _ _ _ _ (λe=>a (by rw[e];exact d)),λ_ _=>rfl,f⟩
def Ao(w:Ϣ)(c:A1)(tag:Nat)(e:TypeId)(sz:Nat)(v:ϒ)(n:Nat)(xs:List ϒ):Prop:=w.ownsRow 0 e sz v n xs/\(∀b∈v.ownBlock.toList,c b=tag)/\n<=140737488355328
def Qy{xs:List ϒ}(d:w.ownsRow 0 e size v n xs):∀b∈v.ownBlock.toList,b<(w:Nat):=λb a=>by
 rcases d.2 with ⟨rfl,_⟩|⟨g,cap,_,rfl,_,c,_⟩
 .simp [Value.ownBlock]at a
 simp[Value.ownBlock]at a;subst a;exact(La c)
def JV{xs:List ϒ}(a:w.ownsRow 0 e size v n xs)(h:∀b∈v.ownBlock.toList,w'.heap[b]?=w.heap[b]?):w'.ownsRow 0 e size v n xs:=by
 refine⟨a.1,?_⟩;rcases a.2 with a|⟨g,cap,c,rfl,d,f,r⟩
 .exact .inl a
 exact .inr ⟨g,cap,c,rfl,d,by rw[h g (by simp[Value.ownBlock])];exact f,r⟩
def Ao.kp{T:Nat->Prop}(f:AT T c c' w w'){xs:List ϒ}(a:Ao w c tag e sz v n xs)(g:¬T tag):Ao w' c' tag e sz v n xs:=
 ⟨JV a.1 (λb d=>f.kp b (Qy a.1 b d) (by rw[a.2.1 b d];exact g)),λb d=>by rw[f.old b (Qy a.1 b d)];exact a.2.1 b d,a.2.2⟩
def Ao.nil(w:Ϣ)(c:A1)(tag:Nat)(e:TypeId)(sz:Nat):Ao w c tag e sz ν 0 []:=⟨World.ownsRow_nil _ _ _ _,by simp[Value.ownBlock],K⟩
def Ao.u1{xs:List ϒ}(f:Ao w c tag e sz v n xs):∃a cap,v=H a n cap/\n<=cap/\cap<=9223372036854775807:=by
 rcases f.1.2 with ⟨rfl,rfl⟩|⟨g,cap,_,rfl,_,_,b,d,_⟩
 .exact ⟨none,0,rfl,K,K⟩
 exact⟨_,cap,rfl,b,by unfold maxLen at d;omega⟩
def Ao.pos{a:Option Addr}{xs:List ϒ}(h:Ao w c tag e sz (H a n cap) n xs)(m:xs[j]?=O u) :
  ∃g,a=O (D g 0)/\c g=tag/\g<(w:Nat)/\(∀(j:Nat) u,xs[j]?=O u->w.cell? (D g j)=O u)/\∀j,w.frozen? (D g j)=ϝ:=by
 rcases h.1.2 with ⟨i,d⟩|⟨g,k,_,i,_,f,d,_,_,l⟩
 .subst d
  have:=h.1.1;simp at this;subst this;simp at m
 obtain⟨rfl,-,rfl⟩:a=O (D g 0)/\True/\cap=k:=by simpa using i
 refine⟨g,rfl,h.2.1 g (by simp[Value.ownBlock]),(La f),λj u b=>?_,λj=>Fz f⟩;rw[<-l,List.getElem?_take]at b;split at b
 .rw [cell_of_row _ _ _ _ _ _ f];simpa using b
 cases b
def Ao.put{g:Nat}{xs:List ϒ}(a:Ao w c tag e sz (H (O (D g 0)) n cap) n xs)(j:Nat)(u:ϒ):Ao (w.setCell (D g j) u) c tag e sz (H (O (D g 0)) n cap) n (xs.set j u):=
 ⟨(a.1.stored j u).1,a.2.1,a.2.2⟩
def Ao.q4{xs:List ϒ}(b:Ao w c tag e sz v l.length xs)(n:∀i x,l[i]?=O x->∃u,xs[i*sz]?=O u)
  (o:∀i x g,l[i]?=O x->(∀(j:Nat) u,xs[j]?=O u->w.cell? (D g j)=O u)->E w g (i*sz) x):AE w w sz E v l:=by
 obtain⟨a,cap,rfl,d,f⟩:=b.u1;refine⟨a,cap,rfl,b.2.2,d,f,?_⟩;cases l with
 |nil=>exact .inl rfl
 |cons y l=>let⟨u,k⟩:=n 0 y rfl;obtain⟨g,rfl,_,h,m,_⟩:=b.pos k;exact .inr ⟨g,0,rfl,h,λi x b=>by rw[Nat.zero_add];exact o i x g b m⟩
def Dq(w:Ϣ)(c:A1)(tag:Nat)(v:ϒ)(l:List Int):Prop:=Ao w c tag 3 1 v l.length (l.map (Value.int .i64))/\∀n∈l,in64 n
def Dq.kp{T:Nat->Prop}(d:AT T c c' w w'){l:List Int}(a:Dq w c tag v l)(b:¬T tag):Dq w' c' tag v l:=⟨a.1.kp d b,a.2⟩
def Dq.q4{l:List Int}(b:Dq w c tag v l):AE w w 1 Aj v l:=
 b.1.q4 (λi x a=>⟨_,by rw[Nat.mul_one,List.getElem?_map,a];rfl⟩) (λi x g a d=>⟨by rw[Nat.mul_one];exact d i _ (by rw[List.getElem?_map,a];rfl),b.2 x (Lm a)⟩)
def Dq.put{g:Nat}{l:List Int}(b:Dq w c tag (H (O (D g 0)) n cap) l)(a:n=l.length)(j:Nat)(v:Int)(d:in64 v):Dq (w.setCell (D g j) (X v)) c tag (H (O (D g 0)) n cap) (l.set j v):=by
 subst a;refine⟨?_,λn a=>?_⟩
 .have:=b.1.put j (X v)
  rw[<-List.map_set]at this;simpa[Dq]using this
 rcases List.mem_or_eq_of_mem_set a with a|rfl
 .exact b.2 n a
 exact d
def Q9(x:CD):Prop:=in64 x.X/\in64 x.V/\in64 x.C/\in64 x.N/\in64 x.more
def Dw(x:CD):List ϒ:=[X x.X,X x.V,X x.C,X x.N,X x.more]
def Dk(l:List CD):List ϒ:=l.flatMap Dw
def Sb(l:List CD)(x:CD):Dk (l++[x])=Dk l++Dw x:=by simp[Dk]
def FU:∀{l:List CD}{i:Nat}{x:CD}(_:l[i]?=O x)(j:Nat)(v:ϒ),(Dw x)[j]?=O v->(Dk l)[i*5+j]?=O v
 |[],_,_,h,_,_,_=>by simp at h
 |y::l,0,x,h,j,v,hv=>by simp at h;subst h;have:Dk (y::l)=Dw y++Dk l:=rfl;rw[this,Nat.zero_mul,Nat.zero_add,Al ((Ll hv))];exact hv
 |y::l,i+1,x,h,j,v,hv=>by
  have:Dk (y::l)=Dw y++Dk l:=rfl;rw[this,Ar (by simp[Dw];omega)];have e:(i+1)*5+j-(Dw y).length=i*5+j:=by simp[Dw];omega
  rw[e];exact FU (by simpa using h) j v hv
def Hz(w:Ϣ)(c:A1)(tag:Nat)(v:ϒ)(l:List CD):Prop:=Ao w c tag 114 5 v l.length (Dk l)/\∀x∈l,Q9 x
def Hz.kp{T:Nat->Prop}(d:AT T c c' w w'){l:List CD}(a:Hz w c tag v l)(b:¬T tag):Hz w' c' tag v l:=⟨a.1.kp d b,a.2⟩
def Hz.q4{l:List CD}(d:Hz w c tag v l):AE w w 5 FM v l:=
 d.1.q4 (λi x a=>⟨_,FU a 0 _ rfl⟩) (λi x g a b=>⟨b _ _ (FU a 0 _ rfl),b _ _ (FU a 1 _ rfl),b _ _ (FU a 2 _ rfl),b _ _ (FU a 3 _ rfl),b _ _ (FU a 4 _ rfl),d.2 x (Lm a)⟩)
def GC(m:AV):Prop:=m.Q.wf/\in64 m.Y/\in64 m.C/\in64 m.I
def NO(_:Nat):Prop:=False
def no(t:Nat):¬NO t:=id
def FV{a d:Nat}(c:a≠b)(k:a≠d):¬((NO a\/a=b)\/a=d):=λx=>by
 rcases x with (x|x)|x
 .exact x
 .exact c x
 exact k x
def DU{a:Nat}(c:a≠b):¬(NO a\/a=b):=λx=>by
 rcases x with x|x
 .exact x
 exact c x
def XL:GC AI:=by unfold GC Rq.wf in64 AI;simp
def Xb9(m:Mm)(r:Rq)(x:Int):Mm:=if 0<r.O then {m with N:=m.N.modify (r.O-1).toNat (λy=>Nm y r.D.toNat x)}else {m with G:=m.G.set r.D.toNat x}
def Gm(a:r.O=0):Bd m r=m.G:=by unfold Bd;rw[if_neg K,if_neg K]
def IJ{x:Gl}(a:1<=r.O)(a:m.N[(r.O-1).toNat]?=O x):Bd m r=x.f:=by
 have:=(Ll a);unfold Bd;rw[if_neg K,if_pos K,a];rfl
def Jt(b:1<=r.O){f:Int}(b:0<=f)(hl:f<((Bd m r).length:Int)):∃x,m.N[(r.O-1).toNat]?=O x:=by
 cases a:m.N[(r.O-1).toNat]? with
 |some x=>exact⟨x,rfl⟩
 |none=>
  exfalso;unfold Bd at hl;split at hl
  .simp at hl;omega
  rw[if_pos K,a]at hl;simp at hl;omega
inductive Xad where
 |p (x:ϒ)
 |q (e:TypeId) (sz:Nat) (xs:List ϒ)
 |i (P:Ϣ->ϒ->Prop)
inductive Xae where
 |p (x:ϒ)
 |r (e:TypeId) (sz:Nat) (xs:List Xad)
 |i (P:Ϣ->ϒ->Prop)
def Xdq(P:Ϣ->ϒ->Prop):Prop:=∀w w' v,w.heap.size<=w'.heap.size->JT w w'->P w v->P w' v
def X6(w:Ϣ)(c:A1)(tag:Nat)(u:ϒ):Xad->Prop
 |.p x=>u=x
 |.q e sz xs=>∃n,Ao w c tag e sz u n xs
 |.i P=>Xdq P/\P (mask w c) u
def Xij(S:Nat->Prop)(tag:Nat):Xad->Prop
 |.q _ _ _=>¬S tag
 |_=>True
def Xaj(b:AT S c c' w w')(a:Xdq P/\P (mask w c) u):Xdq P/\P (mask w' c') u:=
 ⟨a.1,a.1 _ _ _ (by rw[Hk,Hk];exact b.size) b.sub a.2⟩
def X6.kp(b:AT S c c' w w'){x:Xad}(a:X6 w c tag u x)(d:Xij S tag x):X6 w' c' tag u x:=by
 cases x with
 |p x=>exact a
 |q e sz xs=>let⟨n,a⟩:=a;exact⟨n,a.kp b d⟩
 |i P=>exact Xaj b a
def Xam(w:Ϣ)(c:A1)(j:Nat)(u:ϒ)(e:TypeId)(sz:Nat)(xs:List Xad):Prop:=
 ∃n vs,Ao w c (20+j) e sz u n vs/\vs.length=xs.length/\∀i y x,vs[i]?=O y->xs[i]?=O x->X6 w c (100+16*i+j) y x
def Xay(w:Ϣ)(c:A1)(j:Nat)(u:ϒ):Xae->Prop
 |.p x=>u=x
 |.r e sz xs=>Xam w c j u e sz xs
 |.i P=>Xdq P/\P (mask w c) u
def Xog(S:Nat->Prop)(j:Nat)(xs:List Xad):Prop:=∀i x,xs[i]?=O x->Xij S (100+16*i+j) x
def Xd5(S:Nat->Prop)(j:Nat):Xae->Prop
 |.r _ _ xs=>¬S (20+j)/\Xog S j xs
 |_=>True
variable{xs:List Xad}
def Xam.kp(b:AT S c c' w w')(a:Xam w c j u e sz xs)(g:¬S (20+j))(h:Xog S j xs):Xam w' c' j u e sz xs:=by
 let⟨n,vs,a,d,f⟩:=a;exact⟨n,vs,a.kp b g,d,λi y x d a=>(f i y x d a).kp b (h i x a)⟩
variable{x:Xae}
def Xay.kp(d:AT S c c' w w')(a:Xay w c j u x)(b:Xd5 S j x):Xay w' c' j u x:=by
 cases x with
 |p x=>exact a
 |r e sz xs=>exact Xam.kp d a b.1 b.2
 |i P=>exact Xaj d a
def Xbb(w:Ϣ)(c:A1)(vs:List ϒ)(g:List Xae):Prop:=vs.length=g.length/\g.length<=16/\∀j y x,vs[j]?=O y->g[j]?=O x->Xay w c j y x
def X5(w:Ϣ)(c:A1)(T:TypeId)(bt:Nat)(g:List Xae):Prop:=(∀b,(w:Nat)<=b->c b=0)/\c bt=1/\∃vs,w.heap[bt]?=O (I vs.toArray T (0,0))/\Xbb w c vs g
def Xhq(S:Nat->Prop)(g:List Xae):Prop:=∀j x,g[j]?=O x->Xd5 S j x
variable{g:List Xae}
def Xbb.kp(f:AT S c c' w w')(a:Xbb w c vs g)(e:Xhq S g):Xbb w' c' vs g:=
 ⟨a.1,a.2.1,λj y x d b=>(a.2.2 j y x d b).kp f (e j x b)⟩
def X5.lt(a:X5 w c T bt g):bt<w:=by
 let⟨_,_,vs,a,_⟩:=a;exact(La a)
def X5.frz(a:X5 w c T bt g)(j:Nat):w.frozen? (D bt j)=ϝ:=by
 let⟨_,_,vs,a,_⟩:=a;exact Fz a
def X5.kp(a:AT S c c' w w')(e:X5 w c T bt g)(i:∀b,(w':Nat)<=b->c' b=0)(j:¬S 1)(l:Xhq S g):X5 w' c' T bt g:=by
 have d:=e.lt;let⟨_,k,vs,f,h⟩:=e;exact⟨i,by rw[a.old _ d];exact k,vs,by rw[a.kp _ d (by rw[k];exact j)];exact f,h.kp a l⟩
def Xai(b:∀a,20<=a->¬S a):Xhq S g:=λj x _=>by
 cases x with
 |p x=>exact trivial
 |r e sz xs=>exact⟨b _ K,λi x _=>by cases x<;>first|exact trivial|exact b _ K⟩
 |i P=>exact trivial
def X5.chg(i:X5 w c T bt g)(h:AT S c c' w w')(f:∀b,(w':Nat)<=b->c' b=0)(d:∀a,S a->a=14):X5 w' c' T bt g:=
 i.kp h f (λe=>absurd (d _ e) K) (Xai λf a e=>by have:=d _ e;omega)
def X5.grow(d:X5 w c T bt g)(a:ϐ w w w'):X5 w' c T bt g:=
 d.chg (AT.ob (T:=NO) a (no 0)) (λb e=>d.1 b (Nt a.size e)) (λd a=>a.elim)
def X5.len(a:X5 w c T bt g):g.length<=16:=by
 let⟨_,_,vs,_,a⟩:=a;exact a.2.1
def X5.at0(a:X5 w c T bt g)(b:g[j]?=O x):∃u,w.cell? (D bt j)=O u/\Xay w c j u x:=by
 let⟨_,_,vs,d,_,_,e⟩:=a;let⟨_,_⟩:=List.getElem?_eq_some_iff.1 b;have a:vs[j]?=O (vs[j]'K):=Lg K;exact⟨_,by rw[cell_of_row _ _ _ _ _ _ d];simpa using a,e j _ x a b⟩
def X5.p0(d:X5 w c T bt g){x:ϒ}(b:g[j]?=O (.p x)):w.cell? (D bt j)=O x:=by
 obtain⟨u,a,rfl⟩:=d.at0 b;exact a
def Xcj{m:Nat}(d:Ao w c tag e sz u n vs)(b:vs.length=m*sz)(a:0<sz):n=m:=
 Nat.eq_of_mul_eq_mul_right a (d.1.1.symm.trans b)
def X5.at1(y:X5 w c T bt g)(v:g[j]?=O (.r e sz xs))(l:xs.length=n*sz)(m:0<sz) :
  ∃a cap,w.cell? (D bt j)=O (H a n cap)/\n<=cap/\cap<=9223372036854775807/\(0<n->∃b,a=O (D b 0)/\c b=20+j/\b<(w:Nat)/\(∀i,w.frozen? (D b i)=ϝ)/\∀i x,xs[i]?=O x->∃u,w.cell? (D b i)=O u/\X6 w c (100+16*i+j) u x):=by
 let⟨u,s,_,vs,d,f,z⟩:=y.at0 v;obtain rfl:=Xcj d (by rw[f,l]) m;obtain⟨a,cap,rfl,h,k⟩:=d.u1;refine⟨a,cap,s,h,k,λh=>?_⟩;have r:0<vs.length:=by rw[f,l];exact Nat.mul_pos h m
 obtain⟨b,rfl,p,q,t,o⟩:=d.pos (Lg r);refine⟨b,rfl,p,q,o,λi x f=>?_⟩;have d:vs[i]?=O (vs[i]'(by have:=(Ll f);omega)):=Lg _;exact⟨_,t _ _ d,z i _ x d f⟩
def X6.at2{xs:List ϒ}(q:X6 w c tag u (.q e sz xs))(f:xs.length=n*sz)(g:0<sz) :
  ∃a cap,u=H a n cap/\n<=cap/\cap<=9223372036854775807/\Ao w c tag e sz (H a n cap) n xs/\(0<n->∃b,a=O (D b 0)/\c b=tag/\b<(w:Nat)/\(∀i,w.frozen? (D b i)=ϝ)/\∀i x,xs[i]?=O x->w.cell? (D b i)=O x):=by
 let⟨_,d⟩:=q;obtain rfl:=Xcj d f g;obtain⟨a,cap,rfl,h,j⟩:=d.u1;refine⟨a,cap,rfl,h,j,d,λh=>?_⟩;have p:0<xs.length:=by rw[f];exact Nat.mul_pos h g
 obtain⟨b,rfl,l,m,o,k⟩:=d.pos (Lg p);exact⟨b,rfl,l,m,k,o⟩
def Xbt{x y:α}(a:(l.set j x)[k]?=O y):(k=j/\y=x/\j<l.length)\/(k≠j/\l[k]?=O y):=by
 by_cases b:k=j
 .subst b
  have c:=(Ll a);rw[List.length_set]at c;rw[List.getElem?_set_self c]at a;exact .inl ⟨rfl,by simpa using a.symm,c⟩
 rw[List.getElem?_set_ne (Ne.symm b)]at a;exact .inr ⟨b,a⟩
def Xej(d:∀k y,k≠j->g[k]?=O y->Xd5 S k y)(c:Xd5 S j x):Xhq S (g.set j x):=λk y a=>by
 rcases Xbt a with ⟨rfl,rfl,_⟩|⟨b,a⟩
 .exact c
 exact d k y b a
def X5.weak0(m:X5 w c T bt g)(b:w.cell? (D bt j)=O u)(p:Xay w c j u x):X5 w c T bt (g.set j x):=by
 let⟨f,h,vs,d,i,l,o⟩:=m;refine⟨f,h,vs,d,by rw[List.length_set];exact i,by rw[List.length_set];exact l,λk y n e a=>?_⟩;rcases Xbt a with ⟨rfl,rfl,_⟩|⟨_,a⟩
 .rw [cell_of_row _ _ _ _ _ _ d]at b
  rw[List.getElem?_toArray]at b;have:y=u:=Option.some.inj (e.symm.trans b);rw[this];exact p
 exact o k y n e a
def X5.put0(q:X5 w c T bt g)(B:Xay w c j u x):X5 (w.setCell (D bt j) u) c T bt (g.set j x)/\AT (λm=>m=1) c c w (w.setCell (D bt j) u):=by
 let⟨t,l,vs,f,v,z,A⟩:=q;have h:AT (λm=>m=1) c c w (w.setCell (D bt j) u):=AT.set l K;have n:∀(k:Nat)(x:Xae),Xd5 (λm=>m=1) k x:=λk x=>by
  cases x with
  |p x=>exact trivial
  |r e sz xs=>exact⟨K,λi x _=>by cases x<;>first|exact trivial|(show ¬_=1;omega)⟩
  |i P=>exact trivial
 refine⟨⟨λb f=>t b (by simpa using f),l,vs.set j u,?_,by simpa using v,by simpa using z,λk y s a d=>?_⟩,h⟩
 .rw [heap_setCell_same _ _ _ _ _ _ f];simp
 rcases Xbt d with ⟨rfl,rfl,_⟩|⟨o,d⟩
 .rw [List.getElem?_set_self K]at a
  cases a;exact B.kp h (n _ _)
 rw[List.getElem?_set_ne (Ne.symm o)]at a;exact(A k y s a d).kp h (n _ _)
def Xa5(a:∀i,¬S (100+16*i+j)):Xog S j xs:=λi x _=>by cases x<;>first|exact trivial|exact a i
def X5.put1(h:X5 w c T bt g){x:Xad}(o:g[j]?=O (.r e sz xs))(E:w.cell? (D bt j)=O (H (O (D b 0)) n cap))(N:X6 w c (100+16*i+j) u x) :
  X5 (w.setCell (D b i) u) c T bt (g.set j (.r e sz (xs.set i x)))/\AT (λt=>t=20+j) c c w (w.setCell (D b i) u):=by
 have:=(Ll o);have:=h.len;let⟨z,B,F,vs,q,L,M⟩:=h.at0 o;obtain rfl:z=H (O (D b 0)) n cap:=by simpa using B.symm.trans E
 obtain⟨a,A,C,-,-⟩:=q.u1;obtain⟨-,rfl,-⟩:O ((D b 0):Addr)=a/\n=F/\cap=A:=by simpa using C
 have o:=q.2.1 b (by simp[Value.ownBlock]);have v:b≠bt:=λe=>by have:=h.2.1;rw[<-e,o]at this;omega
 have m:AT (λt=>t=20+j) c c w (w.setCell (D b i) u):=AT.set o K;have J:=(h.weak0 (x:=.p _) E rfl).kp m (λb o=>h.1 b (by simpa using o)) K (Xej (λk y o h=>by
  have:=(Ll h);cases y with
  |p x=>exact trivial
  |r e sz xs=>exact⟨K,Xa5 λi=>by omega⟩
  |i P=>exact trivial) trivial)
 have G:Xay (w.setCell (D b i) u) c j (H (O (D b 0)) n cap) (.r e sz (xs.set i x)):=by
  refine⟨n,vs.set i u,q.put i u,by simpa using L,λk y d f l=>?_⟩;have s:∀(d:Xad),Xij (λh=>h=20+j) (100+16*k+j) d:=λd=>by cases d<;>first|exact trivial|(show ¬_=20+j;omega)
  rcases Xbt l with ⟨rfl,rfl,_⟩|⟨v,l⟩
  .rw [List.getElem?_set_self K]at f
   cases f;exact N.kp m (s _)
  rw[List.getElem?_set_ne (Ne.symm v)]at f;exact(M k y d f l).kp m (s _)
 have d:=J.weak0 (x:=.r e sz (xs.set i x)) (by rw[World.cell?_setCell_other _ _ _ _ (by simp;exact λe=>absurd e v)];exact E) G;rw[List.set_set]at d;exact⟨d,m⟩
def X5.weak1(o:X5 w c T bt g){x:Xad}(A:g[j]?=O (.r e sz xs))(m:w.cell? (D bt j)=O (H (O (D b 0)) n cap))(F:w.cell? (D b i)=O u)(E:X6 w c (100+16*i+j) u x) :
  X5 w c T bt (g.set j (.r e sz (xs.set i x))):=by
 let⟨q,t,l,vs,h,z,C⟩:=o.at0 A;obtain rfl:q=H (O (D b 0)) n cap:=by simpa using t.symm.trans m
 refine o.weak0 m ⟨l,vs,h,by simpa using z,λk y B d f=>?_⟩;rcases Xbt f with ⟨rfl,rfl,_⟩|⟨_,f⟩
 .obtain ⟨a,s,v,-,-⟩:=h.u1
  obtain⟨-,rfl,rfl⟩:O ((D b 0):Addr)=a/\n=l/\cap=s:=by simpa using v
  let⟨_,p,_,_,r,_⟩:=h.pos d;cases p;have:y=u:=by simpa using(r _ _ d).symm.trans F
  rw[this];exact E
 exact C k y B d f
variable{y:Xad}
def X5.but2(d:X5 w c T bt g)(f:g[j]?=O (.r e sz xs))(l:w.cell? (D bt j)=O (H (O (D b 0)) n cap))(t:w.cell? (D b i)=O u)(m:xs[i]?=O y)
  (h:AT (λm=>m=100+16*i+j) c c' w w') (v:∀b,(w':Nat)<=b->c' b=0) :
  X5 w' c' T bt (g.set j (.r e sz (xs.set i (.p u))))/\w'.cell? (D bt j)=O (H (O (D b 0)) n cap)/\w'.cell? (D b i)=O u:=by
 have:=(Ll f);have:=d.len;let⟨o,q,_,vs,s,_,_⟩:=d.at0 f;obtain rfl:o=H (O (D b 0)) n cap:=by simpa using q.symm.trans l
 have m:=s.2.1 b (by simp[Value.ownBlock]);refine⟨(d.weak1 (x:=.p u) f l t rfl).kp h v K (Xej (λk y f a=>?_) ⟨K,λk y a=>?_⟩),h.cell l (by rw[show c ((D bt j):Addr).block=1 from d.2.1];omega),h.cell t (by rw[show c ((D b i):Addr).block=20+j from m];omega)⟩
 .have:=(Ll a)
  cases y with
  |p x=>exact trivial
  |r e sz xs=>exact⟨K,Xa5 λi=>by omega⟩
  |i P=>exact trivial
 rcases Xbt a with ⟨rfl,rfl,_⟩|⟨_,_⟩
 .exact trivial
 cases y<;>first|exact trivial|(show ¬_=100+16*i+j;omega)
def X5.put2(s:X5 w c T bt g){d f sz2:Nat}{h:List ϒ}(r:g[j]?=O (.r e sz xs))(A:w.cell? (D bt j)=O (H (O (D b 0)) n cap))(z:w.cell? (D b i)=O (H (O (D d 0)) n2 f))(y:xs[i]?=O (.q e2 sz2 h))
  (t:X6 w c (100+16*i+j) (H (O (D d 0)) n2 f) (.q e2 sz2 h)) :
  X5 (w.setCell (D d k) u) c T bt (g.set j (.r e sz (xs.set i (.q e2 sz2 (h.set k u)))))/\AT (λm=>m=100+16*i+j) c c w (w.setCell (D d k) u):=by
 have v:=(Ll r);let⟨p,l⟩:=t;obtain⟨a,o,q,-,-⟩:=l.u1;obtain⟨-,rfl,-⟩:O ((D d 0):Addr)=a/\n2=p/\f=o:=by simpa using q
 have f:=l.2.1 d (by simp[Value.ownBlock]);have m:AT (λo=>o=100+16*i+j) c c w (w.setCell (D d k) u):=AT.set f K;let⟨o,p,q⟩:=s.but2 r A z y m (λb f=>s.1 b (by simpa using f));have d:=o.weak1 (x:=.q e2 sz2 (h.set k u)) (List.getElem?_set_self v) p q ⟨n2,l.put k u⟩;rw[List.set_set,List.set_set]at d;exact⟨d,m⟩
def X5.but1(f:X5 w c T bt g)(d:g[j]?=O (.r e sz xs))(m:w.cell? (D bt j)=O u)
  (q:AT (λl=>l=20+j) c c' w w') (z:∀b,(w':Nat)<=b->c' b=0) :
  X5 w' c' T bt (g.set j (.p u))/\∃n vs,Ao w c (20+j) e sz u n vs/\vs.length=xs.length/\(∀i y x,vs[i]?=O y->xs[i]?=O x->X6 w c (100+16*i+j) y x)/\∀i y x,vs[i]?=O y->xs[i]?=O x->X6 w' c' (100+16*i+j) y x:=by
 have:=(Ll d);have:=f.len;let⟨a,o,v,vs,t,s,h⟩:=f.at0 d;obtain rfl:a=u:=by simpa using o.symm.trans m
 refine⟨(f.weak0 (x:=.p a) m rfl).kp q z K (Xej (λk y f a=>?_) trivial),v,vs,t,s,h,λi y x a d=>(h i y x a d).kp q ?_⟩
 .have:=(Ll a)
  cases y with
  |p x=>exact trivial
  |r e sz xs=>exact⟨K,Xa5 λi=>by omega⟩
  |i P=>exact trivial
 cases x<;>first|exact trivial|(show ¬_=20+j;omega)
def Xaq:∀{l:List α}{i:Nat}{x:α}(_:∀x,(f x).length=sz)(_:l[i]?=O x)(j:Nat)(v:β),(f x)[j]?=O v->(l.flatMap f)[i*sz+j]?=O v
 |[],_,_,_,h,_,_,_=>by simp at h
 |y::l,0,x,hf,h,j,v,hv=>by simp at h;subst h;rw[List.flatMap_cons,Nat.zero_mul,Nat.zero_add,Al ((Ll hv))];exact hv
 |y::l,i+1,x,hf,h,j,v,hv=>by
  rw[List.flatMap_cons,Ar (by rw[hf,Nat.add_mul];omega),hf];have e:(i+1)*sz+j-sz=i*sz+j:=by rw[Nat.add_mul];omega
  rw[e];exact Xaq hf (by simpa using h) j v hv
def Xap(a:∀x,(f x).length=sz):∀l:List α,(l.flatMap f).length=l.length*sz
 |[]=>by simp
 |y::l=>by rw[List.flatMap_cons,List.length_append,a,Xap a l,List.length_cons,Nat.add_mul];omega
def Xcd:∀{l:List α}{i:Nat}{x x':α}(_:∀x,(f x).length=sz)(_:l[i]?=O x)(j:Nat)(v:β),j<sz->(f x).set j v=f x'->(l.flatMap f).set (i*sz+j) v=(l.set i x').flatMap f
 |[],_,_,_,_,h,_,_,_,_=>by simp at h
 |y::l,0,x,x',hf,h,j,v,hj,hv=>by simp at h;subst h;rw[List.flatMap_cons,Nat.zero_mul,Nat.zero_add,List.set_append_left _ _ (by rw[hf];exact hj),hv];rfl
 |y::l,i+1,x,x',hf,h,j,v,hj,hv=>by
  rw[List.flatMap_cons,List.set_append_right _ _ (by rw[hf,Nat.add_mul];omega),hf];have e:(i+1)*sz+j-sz=i*sz+j:=by rw[Nat.add_mul];omega
  rw[e,Xcd hf (by simpa using h) j v hj hv];rfl
def over{α:Type}(xs:List α)(o:Nat):List α->List α
 |[]=>xs
 |y::ys=>over (xs.set o y) (o+1) ys
def Xfi:∀(c a b:List α)(o:Nat),o+c.length<=a.length->over (a++b) o c=over a o c++b
 |[],_,_,_,_=>rfl
 |y::c,a,b,o,h=>by unfold over;simp only[List.length_cons]at h;rw[List.set_append_left _ _ K,Xfi c _ _ _ (by rw[List.length_set];omega)]
def Xeq:∀(c a b:List α)(o:Nat),over (a++b) (a.length+o) c=a++over b o c
 |[],_,_,_=>rfl
 |y::c,a,b,o=>by unfold over;rw[List.set_append_right _ _ K,show a.length+o-a.length=o by omega,Nat.add_assoc,Xeq c]
def Xf8:∀(c a b:List α),a.length=c.length->over (a++b) 0 c=c++b:=by
 have j:∀(d c a b:List α),a.length=d.length->over (c++(a++b)) c.length d=c++(d++b):=by
  intro f;induction f with
  |nil=>intro c a b g;obtain rfl:=List.eq_nil_of_length_eq_zero g;rfl
  |cons y c i=>
   intro h a b e;cases a with
   |nil=>simp at e
   |cons a c=>unfold over;rw[List.set_append_right _ _ (Nr _),Nat.sub_self];have:=i (h++[y]) c b (by simpa using e);simp only[List.append_assoc,List.cons_append,List.nil_append,List.length_append,List.length_singleton]at this;exact this
 intro c a b d;exact j c [] a b d
def Xed:∀{l:List α}{i:Nat}{x x':α}(_:∀x,(f x).length=sz)(_:l[i]?=O x)(k:Nat)(ys:List β),k+ys.length<=sz->over (f x) k ys=f x'->over (l.flatMap f) (i*sz+k) ys=(l.set i x').flatMap f
 |[],_,_,_,_,h,_,_,_,_=>by simp at h
 |y::l,0,x,x',hf,h,k,ys,hk,hv=>by simp at h;subst h;rw[List.flatMap_cons,Nat.zero_mul,Nat.zero_add,Xfi _ _ _ _ (by rw[hf];exact hk),hv];rfl
 |y::l,i+1,x,x',hf,h,k,ys,hk,hv=>by
  have e:(i+1)*sz+k=(f y).length+(i*sz+k):=by rw[hf,Nat.add_mul];omega
  rw[List.flatMap_cons,e,Xeq,Xed hf (by simpa using h) k ys hk hv];rfl
def Xaa(w:Ϣ)(b o:Nat):List ϒ->Ϣ
 |[]=>w
 |u::us=>Xaa (w.setCell (D b o) u) b (o+1) us
def Xaf(w:Ϣ)(b o:Nat)(v0 v1 v2 v3 v4 v5 v6 v7 v8 v9 a c d:ϒ):(((((((((((((w.setCell (D b o) v0).setCell (D b (o+1)) v1).setCell (D b (o+2)) v2).setCell (D b (o+3)) v3).setCell (D b (o+4)) v4).setCell (D b (o+5)) v5).setCell (D b (o+6)) v6).setCell (D b (o+7)) v7).setCell (D b (o+8)) v8).setCell (D b (o+9)) v9).setCell (D b (o+10)) a).setCell (D b (o+11)) c).setCell (D b (o+12)) d)=Xaa w b o [v0,v1,v2,v3,v4,v5,v6,v7,v8,v9,a,c,d]:=rfl
def puts9(w:Ϣ)(b o:Nat)(v0 v1 v2 v3 v4 v5 v6 v7 v8:ϒ):(((((((((w.setCell (D b o) v0).setCell (D b (o+1)) v1).setCell (D b (o+2)) v2).setCell (D b (o+3)) v3).setCell (D b (o+4)) v4).setCell (D b (o+5)) v5).setCell (D b (o+6)) v6).setCell (D b (o+7)) v7).setCell (D b (o+8)) v8)=Xaa w b o [v0,v1,v2,v3,v4,v5,v6,v7,v8]:=rfl
def Xbe:∀(a:List ϒ)(w:Ϣ)(b o:Nat),(Xaa w b o a).heap.size=(w:Nat)
 |[],_,_,_=>rfl
 |u::a,w,b,o=>by unfold Xaa;rw[Xbe a];simp
def Xak(a:S (c b))(e:¬S 0):∀(d:List ϒ)(w:Ϣ)(o:Nat),AT S c c w (Xaa w b o d)
 |[],w,_=>AT.mono (AT.ob (T:=NO) (Below.refl _ w) (no 0)) (λ_ a=>a.elim) e
 |u::d,w,o=>(AT.set a e).trans (Xak a e d _ (o+1))
def X5.puts1:∀(d:List ϒ)(a:List Xad){w:Ϣ}{g:List Xae}{xs:List Xad}(o:Nat),X5 w c T bt g->g[j]?=O (.r e sz xs)->w.cell? (D bt j)=O (H (O (D b 0)) n cap)->d.length=a.length->
  (∀k u y,d[k]?=O u->a[k]?=O y->X6 w c (100+16*(o+k)+j) u y)->X5 (Xaa w b o d) c T bt (g.set j (.r e sz (over xs o a)))
 |[],a,w,g,xs,o,h,hx,f,hl,hL=>by
  obtain rfl:a=[]:=List.eq_nil_of_length_eq_zero hl.symm;have l:=(Ll hx);have:g.set j (.r e sz xs)=g:=by
   apply List.ext_getElem?;intro k;by_cases m:k=j
   .subst m;rw[List.getElem?_set_self l,hx]
   rw[List.getElem?_set_ne (Ne.symm m)]
  show X5 w c T bt (g.set j (.r e sz xs));rw[this];exact h
 |u::d,[],_,_,_,_,_,_,_,hl,_=>by simp at hl
 |u::d,y::a,w,g,xs,o,h,hx,f,hl,hL=>by
  have r:=(Ll hx);have l:=hL 0 u y rfl rfl;rw[Nat.add_zero]at l;let⟨q,p⟩:=h.put1 (i:=o) hx f l;have l:c ((D bt j):Addr).block=1:=h.2.1;have:=X5.puts1 d a (o+1) q (List.getElem?_set_self r) (p.cell f (by rw[l];omega)) (by simpa using hl) (λk u y f a=>by
   have:=hL (k+1) u y (by simpa using f) (by simpa using a);rw[show o+(k+1)=o+1+k by omega]at this;exact this.kp p (by cases y<;>first|exact trivial|(show ¬_=20+j;have:=h.len;omega)))
  rw[List.set_set]at this;exact this
variable{c1:A1}
def X5.app2(t:X5 w c T bt g){sz2:Nat}{d:List ϒ}(f:g[j]?=O (.r e sz xs))(s:w.cell? (D bt j)=O (H (O (D b 0)) n cap))(r:w.cell? (D b i)=O u)(q:xs[i]?=O y)
  (h:AT (λa=>a=100+16*i+j) c c1 w w1) (o:∀b,(w1:Nat)<=b->c1 b=0) (p:Ao w1 c1 (100+16*i+j) e2 sz2 v n2 d) :
  X5 (w1.setCell (D b i) v) c1 T bt (g.set j (.r e sz (xs.set i (.q e2 sz2 d))))/\AT (λa=>20<=a) c c1 w (w1.setCell (D b i) v):=by
 have m:=(Ll f);let⟨k,l,_⟩:=t.but2 f s r q h o;let⟨a,f⟩:=k.put1 (i:=i) (x:=.q e2 sz2 d) (List.getElem?_set_self m) l ⟨n2,p⟩;rw[List.set_set,List.set_set]at a;exact⟨a,(h.mono (λd a=>by omega) K).trans (f.mono (λd a=>by omega) K)⟩
def X5.push1(q:X5 w c T bt g)(h:List Xad){r:Nat}{l:List ϒ}(p:g[j]?=O (.r e sz xs))(C:w.cell? (D bt j)=O u)(f:Ao w c (20+j) e sz u n vs)
  (s:vs.length=xs.length) (F:∀i y x,vs[i]?=O y->xs[i]?=O x->X6 w c (100+16*i+j) y x) (m:AT (λf=>f=20+j) c c1 w w1) (t:∀b,(w1:Nat)<=b->c1 b=0) (z:Ao w1 c1 (20+j) e sz v r (vs++l)) (hl:l.length=h.length) (E:∀k u y,l[k]?=O u->h[k]?=O y->X6 w1 c1 (100+16*(xs.length+k)+j) u y) :
  X5 (w1.setCell (D bt j) v) c1 T bt (g.set j (.r e sz (xs++h)))/\AT (λf=>f=1\/f=20+j) c c1 w (w1.setCell (D bt j) v):=by
 have:=Nl (Ll p) q.len;let⟨B,_⟩:=q.but1 p C m t;have A:Xay w1 c1 j v (.r e sz (xs++h)):=by
  refine⟨r,vs++l,z,by simp[s,hl],λi y x a d=>?_⟩;by_cases o:i<vs.length
  .rw [Al o]at a
   rw[Al K]at d;exact(F i y x a d).kp m (by cases x<;>first|exact trivial|(show ¬_=20+j;omega))
  rw[Ar K]at a;rw[Ar K]at d;have:=E (i-vs.length) y x a (by rw[s];exact d);rw[show xs.length+(i-vs.length)=i by omega]at this;exact this
 let⟨a,f⟩:=B.put0 A;rw[List.set_set]at a;exact⟨a,(m.mono (λd a=>.inr a) K).trans (f.mono (λd a=>.inl a) K)⟩
def X5.row1(o:X5 w c T bt g)(l:g[j]?=O (.r e sz xs))(m:xs.length=n*sz)(k:0<sz) :
  ∃a cap vs,w.cell? (D bt j)=O (H a n cap)/\Ao w c (20+j) e sz (H a n cap) n vs/\vs.length=xs.length/\∀i y x,vs[i]?=O y->xs[i]?=O x->X6 w c (100+16*i+j) y x:=by
 let⟨u,h,_,vs,b,d,f⟩:=o.at0 l;obtain rfl:=Xcj b (by rw[d,m]) k;obtain⟨a,cap,rfl,_,_⟩:=b.u1;exact⟨a,cap,vs,h,b,d,f⟩
structure Trx where
 run:AV
 q8:Int
 N:Int
 q4:List (Int×Int)
 q2:List (Int×Int×Int)
structure Tra where
 M:Mm
 q6:List (List Int)
 q3:Int
 Y:Int
 q1:List Trx
 A:List (List Bi)
 results:List (List CD)
 Z:List (List Int)
 P:List (List Int)
 q7:List (Int×Int)
 q5:Int
 U:Int
def Xat:Trx:=⟨AI,0,0,[],[]⟩
def rdL(r:Int×Int):List ϒ:=[X r.1,X r.2]
def wrL(r:Int×Int×Int):List ϒ:=[X r.1,X r.2.1,X r.2.2]
def Xch(l:List AY)(w:Ϣ)(v:ϒ):Prop:=AE w w 4 (CK w) v l
def Xbz(l:List Bi)(w:Ϣ)(v:ϒ):Prop:=AE w w 2 (DA w) v l
def Xan(l:List AY):Xdq (Xch l):=λ_ _ _ b c a=>a.ups Dx b c
def Xeh(l:List Bi):Xdq (Xbz l):=λ_ _ _ b c a=>a.ups Hd b c
def Xa3(l:List Int):Xad:=.q 3 1 (l.map (Value.int .i64))
def Xg3(l:List CD):Xad:=.q 114 5 (Dk l)
def Xcg(m:AV):List Xad:=[.i (Xch m.J),.p (X m.Q.K),.p (X m.Q.O),.p (X m.Q.D),.p (X m.Q.V),.p (X m.Q.X),.p (X m.Y),.p (X m.C),.p (X m.I)]
def Xaz(x:Trx):List Xad:=Xcg x.run++[.p (X x.q8),.p (X x.N),.q 85 2 (x.q4.flatMap rdL),.q 120 3 (x.q2.flatMap wrL)]
def Xbw(x:Gl):List Xad:=[.p (X x.type),Xa3 x.f]
def Xil(o:Int×Int):List Xad:=[.p (X o.1),.p (X o.2)]
def Xag(s:Tra):List Xae:=[.r 3 1 (s.M.G.map λn=>.p (X n)),.r 72 2 (s.M.N.flatMap Xbw),.r 22 1 (s.q6.map Xa3),.p (X s.q3),.p (X s.Y),
 .r 62 13 (s.q1.flatMap Xaz),.r 65 1 (s.A.map λl=>.i (Xbz l)),.r 127 1 (s.results.map Xg3),.r 22 1 (s.Z.map Xa3),.r 22 1 (s.P.map Xa3),.r 85 2 (s.q7.flatMap Xil),.p (X s.q5),.p (X s.U)]
def RdE(w:Ϣ)(b o:Nat)(r:Int×Int):Prop:=w.cell? (D b o)=O (X r.1)/\w.cell? (D b (o+1))=O (X r.2)
def WrE(w:Ϣ)(b o:Nat)(r:Int×Int×Int):Prop:=w.cell? (D b o)=O (X r.1)/\w.cell? (D b (o+1))=O (X r.2.1)/\w.cell? (D b (o+2))=O (X r.2.2)
def Xly(B:Nat)(w:Ϣ)(b o:Nat)(x:Trx):Prop:=
 Ht B w b o x.run/\w.cell? (D b (o+9))=O (X x.q8)/\w.cell? (D b (o+10))=O (X x.N)/\Bg 2 RdE B w b (o+11) x.q4/\Bg 3 WrE B w b (o+12) x.q2
def Xb5:Tl (λ_=>RdE):=λ_ _ _ _ _ _ _ _ a b=>⟨a _ _ b.1,a _ _ b.2⟩
def Xdg:Tl (λ_=>WrE):=λ_ _ _ _ _ _ _ _ a b=>⟨a _ _ b.1,a _ _ b.2.1,a _ _ b.2.2⟩
def Xoj:Tl Xly:=λB B' w w' b o x d c a=>
 ⟨WT _ _ _ _ _ _ _ d c a.1,c _ _ a.2.1,c _ _ a.2.2.1,Il (E:=λ_=>RdE) Xb5 _ _ _ _ _ _ _ d c a.2.2.2.1,Il (E:=λ_=>WrE) Xdg _ _ _ _ _ _ _ d c a.2.2.2.2⟩
def TraVs(B:Nat)(w:Ϣ)(vs:List ϒ)(s:Tra):Prop:=
 ∃gv nv vv av cv ov bv ev dv,vs=[gv,nv,vv,X s.q3,X s.Y,av,cv,ov,bv,ev,dv,X s.q5,X s.U]/\AE B w 1 Aj gv s.M.G/\AE B w 2 (GP B) nv s.M.N/\AE B w 1 (Bg 1 Aj B) vv s.q6/\
  AE B w 13 (Xly B) av s.q1/\AE B w 1 (Bg 2 (DA B) B) cv s.A/\AE B w 1 (Bg 5 FM B) ov s.results/\AE B w 1 (Bg 1 Aj B) bv s.Z/\AE B w 1 (Bg 1 Aj B) ev s.P/\AE B w 2 RdE dv s.q7
variable{s:Tra}
def TraVs.ups(b:B<=B')(a:JT w w')(p:TraVs B w vs s):TraVs B' w' vs s:=by
 let⟨h,k,m,c,e,l,d,g,f,i,j,n,o,q,r,t,u,v,x⟩:=p;exact⟨h,k,m,c,e,l,d,g,f,i,j.ups B5 b a,n.ups WU b a,o.ups (Il (E:=λ_=>Aj) B5) b a,q.ups Xoj b a,r.ups (E:=λB=>Bg 2 (DA B) B) (Il (E:=DA) Hd) b a,t.ups (Il (E:=λ_=>FM) WV) b a,u.ups (Il (E:=λ_=>Aj) B5) b a,v.ups (Il (E:=λ_=>Aj) B5) b a,x.ups (E:=λ_=>RdE) Xb5 b a⟩
structure Xez(s:Tra):Prop where
 G:∀n∈s.M.G,in64 n
 N:∀x∈s.M.N,in64 x.type/\∀n∈x.f,in64 n
 q6:∀l∈s.q6,∀n∈l,in64 n
 q1:∀x∈s.q1,GC x.run
 results:∀l∈s.results,∀x∈l,Q9 x
 Z:∀l∈s.Z,∀n∈l,in64 n
 P:∀l∈s.P,∀n∈l,in64 n
def Xdw{l:List Int}(a:X6 w c tag u (Xa3 l))(b:∀n∈l,in64 n):AE w w 1 Aj u l:=by
 let⟨n,a⟩:=a;obtain rfl:=Xcj a (m:=l.length) ψ K;exact Dq.q4 ⟨a,b⟩
def Xm5{l:List CD}(a:X6 w c tag u (Xg3 l))(b:∀x∈l,Q9 x):AE w w 5 FM u l:=by
 let⟨n,a⟩:=a;obtain rfl:=Xcj a (m:=l.length) (Xap (f:=Dw) (sz:=5) (λ_=>rfl) l) K;exact Hz.q4 ⟨a,b⟩
def Xdx{f:α->List Xad}(b:Xam w c j u e sz (l.flatMap f))(h:∀x,(f x).length=sz)(p:0<sz)
  (r:∀i x g,l[i]?=O x->(∀k y,(f x)[k]?=O y->∃u,w.cell? (D g (i*sz+k))=O u/\X6 w c (100+16*(i*sz+k)+j) u y)->E w g (i*sz) x):AE w w sz E u l:=by
 let⟨n,vs,m,a,q⟩:=b;obtain rfl:=Xcj m (by rw[a,Xap h]) p;have o:∀(i:Nat) x k y,l[i]?=O x->(f x)[k]?=O y->∃u,vs[i*sz+k]?=O u/\X6 w c (100+16*(i*sz+k)+j) u y:=λi x k y a b=>by
  have d:=Xaq h a k y b;have:=(Ll d);have b:vs[i*sz+k]?=O (vs[i*sz+k]'K):=Lg _;exact⟨_,b,q _ _ _ b d⟩
 refine m.q4 (λi x a=>?_) (λi x g a q=>r i x g a λk y m=>?_)
 .have d:0<(f x).length:=by rw[h];exact p
  let⟨u,b,_⟩:=o i x 0 _ a (Lg d);exact⟨u,b⟩
 obtain⟨u,d,b⟩:=o i x k y a m;exact⟨u,q _ _ d,b⟩
def Xj0(l:List α)(f:α->Xad):l.map f=l.flatMap λx=>[f x]:=by induction l<;>simp_all
def Xcb{f:α->Xad}(a:Xam w c j u e 1 (l.map f))
  (k:∀i x g u,l[i]?=O x->w.cell? (D g i)=O u->X6 w c (100+16*i+j) u (f x)->E w g i x):AE w w 1 E u l:=by
 rw[Xj0]at a;refine Xdx a (λ_=>rfl) K λi x g h a=>?_;let⟨u,b,d⟩:=a 0 _ rfl;rw[Nat.mul_one]at *;exact k i x g u h b d
def X6.i_reads(a:X6 w c tag u (.i P)):P w u:=a.1 _ _ _ (by rw[Hk];exact Nr _) (JT.mask w c) a.2
def Xg7(l:List (Int×Int)):(l.flatMap rdL).length=l.length*2:=Xap (f:=rdL) (λ_=>rfl) l
def Xbf(l:List (Int×Int×Int)):(l.flatMap wrL).length=l.length*3:=Xap (f:=wrL) (λ_=>rfl) l
def Xd3{l:List (Int×Int)}(a:X6 w c tag u (.q e 2 (l.flatMap rdL))):AE w w 2 RdE u l:=by
 let⟨n,a⟩:=a;obtain rfl:=Xcj a (Xg7 l) K;exact a.q4 (λi x a=>⟨_,Xaq (f:=rdL) (sz:=2) (λ_=>rfl) a 0 _ rfl⟩) (λi x g a b=>⟨b _ _ (Xaq (f:=rdL) (sz:=2) (λ_=>rfl) a 0 _ rfl),b _ _ (Xaq (f:=rdL) (sz:=2) (λ_=>rfl) a 1 _ rfl)⟩)
def Xga{l:List (Int×Int×Int)}(a:X6 w c tag u (.q e 3 (l.flatMap wrL))):AE w w 3 WrE u l:=by
 let⟨n,a⟩:=a;obtain rfl:=Xcj a (Xbf l) K;exact a.q4 (λi x a=>⟨_,Xaq (f:=wrL) (sz:=3) (λ_=>rfl) a 0 _ rfl⟩) (λi x g a b=>⟨b _ _ (Xaq (f:=wrL) (sz:=3) (λ_=>rfl) a 0 _ rfl),b _ _ (Xaq (f:=wrL) (sz:=3) (λ_=>rfl) a 1 _ rfl),b _ _ (Xaq (f:=wrL) (sz:=3) (λ_=>rfl) a 2 _ rfl)⟩)
def Xme{g:Nat}{tg:Nat->Nat}{m:AV}{t:List Xad}(b:∀k y,(Xcg m++t)[k]?=O y->∃u,w.cell? (D g (o+k))=O u/\X6 w c (tg k) u y)(C:GC m):Ht w w g o m:=by
 let⟨A,E,B⟩:=b 0 _ rfl;have a:∀k x,(Xcg m++t)[k]?=O (.p x)->w.cell? (D g (o+k))=O x:=λk x s=>by let⟨u,z,r⟩:=b k _ s;obtain rfl:u=x:=r;exact z
 refine⟨A,λj v b=>?_,B.i_reads,C⟩
 match j,b with
 |0,d=>cases d;exact E
 |1,e=>cases e;exact a 1 _ rfl
 |2,f=>cases f;exact a 2 _ rfl
 |3,h=>cases h;exact a 3 _ rfl
 |4,i=>cases i;exact a 4 _ rfl
 |5,l=>cases l;exact a 5 _ rfl
 |6,n=>cases n;exact a 6 _ rfl
 |7,p=>cases p;exact a 7 _ rfl
 |8,q=>cases q;exact a 8 _ rfl
 |k+9,a=>simp[FW]at a
def Xnf{g:Nat}{x:Trx}(b:∀k y,(Xaz x)[k]?=O y->∃u,w.cell? (D g (o+k))=O u/\X6 w c (100+16*(o+k)+j) u y)(i:GC x.run):Xly (w:Nat) w g o x:=by
 have d:∀k a,(Xaz x)[k]?=O (.p a)->w.cell? (D g (o+k))=O a:=λk a f=>by let⟨u,h,e⟩:=b k _ f;obtain rfl:u=a:=e;exact h
 let⟨u,f,h⟩:=b 11 _ rfl;let⟨v,a,e⟩:=b 12 _ rfl;exact⟨Xme b i,d 9 _ rfl,d 10 _ rfl,⟨u,f,Xd3 h⟩,⟨v,a,Xga e⟩⟩
def Xbb.q4(e:Xbb w c vs (Xag s))(b:Xez s):TraVs (w:Nat) w vs s:=by
 let⟨d,_,a⟩:=e
 match vs,d with
 |[v0,v1,v2,v3,v4,v5,v6,v7,v8,v9,v10,v11,v12],_=>
  have h:v3=X s.q3:=a 3 _ _ rfl rfl;have f:v4=X s.Y:=a 4 _ _ rfl rfl;have e:v11=X s.q5:=a 11 _ _ rfl rfl;have d:v12=X s.U:=a 12 _ _ rfl rfl;refine⟨v0,v1,v2,v5,v6,v7,v8,v9,v10,by rw[h,f,e,d],?_,?_,?_,?_,?_,?_,?_,?_,?_⟩
  .exact Xcb (a 0 _ _ rfl rfl) λi x g u f d e=>⟨by rw[d,show u=_ from e],b.G x (Lm f)⟩
  .refine Xdx (a 1 _ _ rfl rfl) (λ_=>rfl) K λi x g f d=>?_
   let⟨u,k,j⟩:=d 0 _ rfl;let⟨v,e,h⟩:=d 1 _ rfl;have d:=b.N x (Lm f);exact⟨by rw[<-show u=_ from j];exact k,⟨v,e,Xdw h d.2⟩,d.1⟩
  .exact Xcb (a 2 _ _ rfl rfl) λi x g u f d e=>⟨u,d,Xdw e (b.q6 x (Lm f))⟩
  .exact Xdx (a 5 _ _ rfl rfl) (λ_=>rfl) K λi x g e d=>Xnf d (b.q1 x (Lm e))
  .exact Xcb (a 6 _ _ rfl rfl) λi x g u f d e=>⟨u,d,e.i_reads⟩
  .exact Xcb (a 7 _ _ rfl rfl) λi x g u f d e=>⟨u,d,Xm5 e (b.results x (Lm f))⟩
  .exact Xcb (a 8 _ _ rfl rfl) λi x g u f d e=>⟨u,d,Xdw e (b.Z x (Lm f))⟩
  .exact Xcb (a 9 _ _ rfl rfl) λi x g u f d e=>⟨u,d,Xdw e (b.P x (Lm f))⟩
  refine Xdx (a 10 _ _ rfl rfl) (λ_=>rfl) K λi x g b a=>?_;let⟨u,e,b⟩:=a 0 _ rfl;let⟨v,f,d⟩:=a 1 _ rfl;exact⟨by rw[<-show u=_ from b];exact e,by rw[<-show v=_ from d];exact f⟩
def Xhw(a b:Int)(w:Ϣ):(Go.binOp .neq 85 (.agg #[X a,X b]) (.agg #[X a,X b])).run prog w=.ok (.bool ϝ) w:=by
 simp only[Go.binOp];simp[Xii a b a b w]
def Xb6(a b c:Int)(i:Nat)(v:ϒ)(d:(#[X a,X b,X c]:Array ϒ)[i]?=O v)(w:Ϣ):(part 3 #[X a,X b,X c] i).run prog w=.ok v w:=
 run_part_plain w κ d
def Xo2(a b c:Int)(w:Ϣ):(Op.equal 120 (.agg #[X a,X b,X c]) (.agg #[X a,X b,X c])).run prog w=.ok ϑ w:=by
 obtain⟨i,f,-⟩:=info_parts (P:=prog) (e:=3) (z:=X 0) (size:=1) (bytes:=8) κ;have d:prog.cellsOf 3=1:=by kernel_rfl
 unfold Op.equal Op.maxDepth;rw[run_equalIn_array w 9999 _ _ underlying120 f,d];simp only[List.range,List.range.loop,Op.eqItems,Sem.run_bind,Nat.zero_mul,Nat.one_mul];rw[Xb6 a b c 0 (X a) rfl,Result.andThen_ok,Xb6 a b c 0 (X a) rfl,Result.andThen_ok,run_equalIn_int w 9998 _ _ _ _ _ underlying3,Result.andThen_ok];simp only[beq_self_eq_true,Bool.not_true,Bool.false_eq_true,if_false,Sem.run_bind];rw[Xb6 a b c 1 (X b) rfl,Result.andThen_ok,Xb6 a b c 1 (X b) rfl,Result.andThen_ok,run_equalIn_int w 9998 _ _ _ _ _ underlying3,Result.andThen_ok];simp only[beq_self_eq_true,Bool.not_true,Bool.false_eq_true,if_false,Sem.run_bind];rw[Xb6 a b c 2 (X c) rfl,Result.andThen_ok,Xb6 a b c 2 (X c) rfl,Result.andThen_ok,run_equalIn_int w 9998 _ _ _ _ _ underlying3,Result.andThen_ok];simp
def Xm9(a b c:Int)(w:Ϣ):(Go.binOp .neq 120 (.agg #[X a,X b,X c]) (.agg #[X a,X b,X c])).run prog w=.ok (.bool ϝ) w:=by
 simp only[Go.binOp];simp[Xo2 a b c w]
def Xdn(l:List Int)(e f:ϒ)(h B:Nat)(w:Ϣ)(c:AE h w 1 Aj e l)(b:AE B w 1 Aj f l):ϙ prog 37 #[e,f] w (YA w):=by
 obtain⟨_,_,rfl,t⟩:=c.frm;obtain⟨_,_,rfl,_⟩:=b.frm;have m:=Lh c;have p:=Lh b;let⟨d,a⟩:=ε l.length;rw[<-a]at t m p ⊢;have z:=Lh a;clear c b a;go_in;go_wp2_with fail;go_loopw[5] (λi wr=>∃k:Nat,k<=d/\i=X k/\Hid (∃n,wr=w.drewN n)) (λi _=>d-(intOf i).toNat);exact⟨0,Nat.zero_le _,rfl,Lh ⟨0,rfl⟩⟩;obtain⟨k,_,rfl,o⟩:=hrel;let⟨n,a⟩:=o.o;by_cases A:k<d
 .obtain ⟨x,b⟩:=Ϡ l k (by have:=z.o;omega)
  let⟨r,s,q,_,g⟩:=m.o.elem b;let⟨v,y,j,_,c⟩:=p.o.elem b;subst q j;have c1:wr.cell? (D r (s+k))=O (X x):=by rw[a];have:=g.1;rw[Nat.mul_one]at this;exact this
  have:wr.cell? (D v (y+k))=O (X x):=by rw[a];have:=c.1;rw[Nat.mul_one]at this;exact this
  have:=In k;have:(k:Int)<(d:Int):=K;have u:=Lh a;clear b g c o a;go_wp2_with fail;go_quiet(fail);go_wp2;go_roundw;exact⟨k+1,K,by go_num,Lh ⟨_,by rw[u.o,World.drewN_drewN]⟩⟩;simp[intOf];omega
 go_wp2;go_ret;exact⟨rfl,n,rfl⟩
def Xlr(x:Trx)(z C J rb P W:Option Addr)(u v f T r V g B:Nat)(w:Ϣ)(bR:g<=w)(bQ:B<=w)(bP:AE g w 4 (CK g) (H z x.run.J u) x.run.J)(bO:AE B w 4 (CK B) (H C x.run.J v) x.run.J)(Q:AE g w 2 RdE (H J x.q4 f) x.q4)(bM:AE B w 2 RdE (H rb x.q4 T) x.q4)(l:AE g w 3 WrE (H P x.q2 r) x.q2)(bL:AE B w 3 WrE (H W x.q2 V) x.q2) :
  ϙ prog 68 #[.agg #[H z x.run.J u,X x.run.Q.K,X x.run.Q.O,X x.run.Q.D,X x.run.Q.V,X x.run.Q.X,X x.run.Y,X x.run.C,X x.run.I,X x.q8,X x.N,H J x.q4 f,H P x.q2 r],.agg #[H C x.run.J v,X x.run.Q.K,X x.run.Q.O,X x.run.Q.D,X x.run.Q.V,X x.run.Q.X,X x.run.Y,X x.run.C,X x.run.I,X x.q8,X x.N,H rb x.q4 T,H W x.q2 V]] w (PO ϑ w):=by
 let⟨_,_,_,bG⟩:=Q.frm;let⟨_,_,_,Y⟩:=l.frm;let⟨A,bI,bK,bJ⟩:=Λ4 (ϟ bP bO) (ϟ Q bM) (ϟ l bL) (ϟ bR bQ);let⟨l,c⟩:=ε x.run.J.length;let⟨j,b⟩:=ε x.q4.length;let⟨q,a⟩:=ε x.q2.length;rw[<-b]at bG;rw[<-a]at Y;rw[<-c]at A;rw[<-b]at bI;rw[<-a]at bK;rw[<-c,<- b,<- a];have bS:=Lh (ϟ b (ϟ a c));clear c b a;let⟨a,b⟩:=ε ((w.alloc (I #[H z l u,X x.run.Q.K,X x.run.Q.O,X x.run.Q.D,X x.run.Q.V,X x.run.Q.X,X x.run.Y,X x.run.C,X x.run.I,X x.q8,X x.N,H J j f,H P q r] 62)).alloc (I #[H C l v,X x.run.Q.K,X x.run.Q.O,X x.run.Q.D,X x.run.Q.V,X x.run.Q.X,X x.run.Y,X x.run.C,X x.run.I,X x.q8,X x.N,H rb j T,H W q V] 62));have h:=Lh (bl2 b);have:=sz2 b;have J:=Xct b;have P:=Xcm b;have s:=Lh (λr (f:ϐ a a r)=>ϟ (ϵ ((f.block (w:Nat) K).trans J)) (ϵ ((f.block ((w:Nat)+1) K).trans P)));have X0:=s.o a Br;have f:=VD x.run (H z l u) (H C l v) g B a (Nt bJ.o.1 h.o.size) (Nt bJ.o.2 h.o.size) (A.o.1.ups Dx (Nr _) (JT.below h.o)) (A.o.2.ups Dx (Nr _) (JT.below h.o));unfold AC at f;have N:=Lh f;go_in;go_upto_region 1 with fail;rw[<-b];clear b;go_wp2_with fail;refine N.o.mono ?_;rintro e w1⟨rfl,b⟩;have bH:=Lh b;have X1:=s.o w1 b;go_upto_block 0 with fail;go_cut[] (λb=>Hid (ϐ a a b))
 .go_wp2_with fail;go_loopw[5] (λi wr=>∃k:Nat,k<=j/\i=X k/\Hid (ϐ a a wr)) (λi _=>j-(intOf i).toNat);exact⟨0,Nat.zero_le _,rfl,bH⟩
  obtain⟨k,_,rfl,c⟩:=hrel;have X2:=s.o wr c.o;by_cases bT:k<j
  .obtain ⟨y,o⟩:=Ϡ x.q4 k (by have:=bS.o.1;omega)
   have m:=h.o.th c.o;obtain⟨_,_,rfl,_,R⟩:=(AE.ups (E:=λ_=>RdE) Xb5 (Nr _) (JT.below m) bI.o.1).elem o;obtain⟨_,_,rfl,_,L⟩:=(AE.ups (E:=λ_=>RdE) Xb5 (Nr _) (JT.below m) bI.o.2).elem o;let⟨_,e2⟩:=R;let⟨_,_⟩:=L;have:=In k;have:(k:Int)<(j:Int):=K;have:=λw=>Xhw y.1 y.2 w;go_wp2_with fail;go_quiet(fail);have F:=Lh (λb=>c.o.th (AG Br b));go_wp2;go_roundw;exact⟨k+1,K,by go_num,Lh (F.o _)⟩;simp[intOf];omega
  go_wp2;go_meet;exact c
 have bF:=hcut;go_upto_block 2 with fail;go_cut[] (λb=>Hid (ϐ a a b))
 .go_wp2_with fail;go_loopw[6] (λi wr=>∃k:Nat,k<=q/\i=X k/\Hid (ϐ a a wr)) (λi _=>q-(intOf i).toNat);exact⟨0,Nat.zero_le _,rfl,bF⟩
  obtain⟨k,_,rfl,d⟩:=hrel;have X2:=s.o wr d.o;by_cases bN:k<q
  .obtain ⟨y,p⟩:=Ϡ x.q2 k (by have:=bS.o.2;omega)
   have n:=h.o.th d.o;obtain⟨_,_,rfl,_,S⟩:=(AE.ups (E:=λ_=>WrE) Xdg (Nr _) (JT.below n) bK.o.1).elem p;obtain⟨_,_,rfl,_,M⟩:=(AE.ups (E:=λ_=>WrE) Xdg (Nr _) (JT.below n) bK.o.2).elem p;let⟨_,e2,_⟩:=S;let⟨_,_,_⟩:=M;have:=In k;have:(k:Int)<(q:Int):=K;have:=λw=>Xm9 y.1 y.2.1 y.2.2 w;go_wp2_with fail;go_quiet(fail);have G:=Lh (λa=>d.o.th (AG Br a));go_wp2;go_roundw;exact⟨k+1,K,by go_num,Lh (G.o _)⟩;simp[intOf];omega
  go_wp2;go_meet;exact d
 have t:=hcut;go_wp2;go_ret;exact Gx rfl (h.o.th t.o)
def Xmp(s:Tra)(t:Nat)(VA VB:List ϒ)(gW B:Nat)(w:Ϣ)(R:gW<=w)(Q:B<=w)(hE:TraVs gW w VA s)(hM:TraVs B w VB s)(hT:s.A.length=s.q1.length/\s.results.length=s.q1.length/\s.Z.length=s.q1.length/\s.P.length=s.q1.length)(C:t<s.q1.length) :
  ϙ prog 38 #[.agg VA.toArray,.agg VB.toArray,X t] w (PO ϑ w):=by
 obtain⟨jC,jD,jE,_,_,_,_,_,jI,rfl,-,-,-,u,F,P,V,gU,-⟩:=hE;obtain⟨_,iS,rfl⟩:=u.u1;obtain⟨_,iT,rfl⟩:=F.u1;obtain⟨_,iU,rfl⟩:=P.u1;obtain⟨_,iV,rfl⟩:=V.u1;obtain⟨_,iW,rfl⟩:=gU.u1;obtain⟨jF,jG,jH,_,_,_,_,_,jJ,rfl,-,-,-,gT,gX,hG,hK,hN,-⟩:=hM;obtain⟨_,iX,rfl⟩:=gT.u1;obtain⟨_,iY,rfl⟩:=gX.u1;obtain⟨_,iZ,rfl⟩:=hG.u1;obtain⟨_,jA,rfl⟩:=hK.u1;obtain⟨_,jB,rfl⟩:=hN.u1;have:=u.frm;have:=F.frm;have:=P.frm;have:=V.frm;have:=gU.frm;let⟨x,n⟩:=Ϡ s.q1 t C;let⟨hF,j⟩:=Ϡ s.A t;let⟨hL,h⟩:=Ϡ s.results t;let⟨jT,f⟩:=Ϡ s.Z t;let⟨jU,b⟩:=Ϡ s.P t;obtain⟨hS,hR,rfl,-,⟨_,d,hH,-⟩,hO,hD,⟨_,gV,hI⟩,⟨_,gS,hJ⟩⟩:=u.elem n;obtain⟨iK,iL,rfl⟩:=hH.u1;obtain⟨jQ,jR,rfl⟩:=hI.u1;obtain⟨jO,jP,rfl⟩:=hJ.u1;have gR:w.cell? (D hS (hR+t*13))=O (H iK x.run.J iL):=d 0 _ rfl;obtain⟨hQ,hP,rfl,-,⟨_,c,gY,-⟩,gQ,Y,⟨_,W,gZ⟩,⟨_,T,hC⟩⟩:=gT.elem n;obtain⟨iI,iJ,rfl⟩:=gY.u1;obtain⟨jM,jN,rfl⟩:=gZ.u1;obtain⟨jK,jL,rfl⟩:=hC.u1;have S:w.cell? (D hQ (hP+t*13))=O (H iI x.run.J iJ):=c 0 _ rfl;obtain⟨iP,iO,rfl,-,_,N,A⟩:=F.elem j;obtain⟨_,_,rfl⟩:=A.u1;obtain⟨iR,iQ,rfl,-,_,M,a⟩:=gX.elem j;obtain⟨_,_,rfl⟩:=a.u1;rw[Nat.mul_one]at N M;have S6:=Lh (ϟ A a);obtain⟨iH,iG,rfl,-,_,L,v⟩:=P.elem h;obtain⟨_,_,rfl⟩:=v.u1;obtain⟨iN,iM,rfl,-,_,J,g⟩:=hG.elem h;obtain⟨_,_,rfl⟩:=g.u1;rw[Nat.mul_one]at L J;have S7:=Lh (ϟ v g);obtain⟨iD,iC,rfl,-,_,G,o⟩:=V.elem f;obtain⟨_,_,rfl⟩:=o.u1;obtain⟨iF,iE,rfl,-,_,z,l⟩:=hK.elem f;obtain⟨_,_,rfl⟩:=l.u1;rw[Nat.mul_one]at G z;have S8:=Lh (ϟ o l);obtain⟨hZ,hY,rfl,-,_,r,p⟩:=gU.elem b;obtain⟨_,_,rfl⟩:=p.u1;obtain⟨iB,iA,rfl,-,_,q,m⟩:=hN.elem b;obtain⟨_,_,rfl⟩:=m.u1;rw[Nat.mul_one]at r q;have S9:=Lh (ϟ p m);have o:=Lh (ϟ R Q);have l:=Lh (ϟ hH (ϟ gY (ϟ hI (ϟ gZ (ϟ hJ hC)))));have jS:=Lh (by let⟨_,_,_,a⟩:=A.frm;exact a);have jV:=Lh (by let⟨_,_,_,a⟩:=v.frm;exact a);have:=In t;have:(t:Int)<(s.q1:Int):=K;have:(t:Int)<(s.A:Int):=K;have:(t:Int)<(s.results:Int):=K;have i8:(t:Int)<(s.Z:Int):=K;have i9:(t:Int)<(s.P:Int):=K;clear R Q hT C n j h f b;let⟨b,h⟩:=ε ((w.alloc (I #[jC,jD,jE,X s.q3,X s.Y,H (O (D hS hR)) s.q1 iS,H (O (D iP iO)) s.A iT,H (O (D iH iG)) s.results iU,H (O (D iD iC)) s.Z iV,H (O (D hZ hY)) s.P iW,jI,X s.q5,X s.U] 39)).alloc (I #[jF,jG,jH,X s.q3,X s.Y,H (O (D hQ hP)) s.q1 iX,H (O (D iR iQ)) s.A iY,H (O (D iN iM)) s.results iZ,H (O (D iF iE)) s.Z jA,H (O (D iB iA)) s.P jB,jJ,X s.q5,X s.U] 39));have f:=Lh (bl2 h);have p:=sz2 h;have n:=Xct h;have j:=Xcm h;have C:=Lh (λg (m:ϐ b b g)=>(λa:ϐ w w g=>ϟ (ϵ ((m.block (w:Nat) K).trans n)) (ϟ (ϵ ((m.block ((w:Nat)+1) K).trans j)) (ϟ (AB a gR) (ϟ (AB a (d 1 _ rfl)) (ϟ (AB a (d 2 _ rfl)) (ϟ (AB a (d 3 _ rfl)) (ϟ (AB a (d 4 _ rfl)) (ϟ (AB a (d 5 _ rfl)) (ϟ (AB a (d 6 _ rfl)) (ϟ (AB a (d 7 _ rfl)) (ϟ (AB a (d 8 _ rfl)) (ϟ (AB a hO) (ϟ (AB a hD) (ϟ (AB a gV) (ϟ (AB a gS) (ϟ (AB a S) (ϟ (AB a (c 1 _ rfl)) (ϟ (AB a (c 2 _ rfl)) (ϟ (AB a (c 3 _ rfl)) (ϟ (AB a (c 4 _ rfl)) (ϟ (AB a (c 5 _ rfl)) (ϟ (AB a (c 6 _ rfl)) (ϟ (AB a (c 7 _ rfl)) (ϟ (AB a (c 8 _ rfl)) (ϟ (AB a gQ) (ϟ (AB a Y) (ϟ (AB a W) (ϟ (AB a T) (ϟ (AB a N) (ϟ (AB a M) (ϟ (AB a L) (ϟ (AB a J) (ϟ (AB a G) (ϟ (AB a z) (ϟ (AB a r) (AB a q)))))))))))))))))))))))))))))))))))) (f.o.th m));have hX:=Lh (λg (a:ϐ w w g)=>Xlr x iK iI jQ jM jO jK iL iJ jR jN jP jL gW B g (Nt o.o.1 a.size) (Nt o.o.2 a.size) (l.o.1.ups Dx (Nr _) (JT.below a)) (l.o.2.1.ups Dx (Nr _) (JT.below a)) (AE.ups (E:=λ_=>RdE) Xb5 (Nr _) (JT.below a) l.o.2.2.1) (AE.ups (E:=λ_=>RdE) Xb5 (Nr _) (JT.below a) l.o.2.2.2.1) (AE.ups (E:=λ_=>WrE) Xdg (Nr _) (JT.below a) l.o.2.2.2.2.1) (AE.ups (E:=λ_=>WrE) Xdg (Nr _) (JT.below a) l.o.2.2.2.2.2));clear p n j d c gR S hO hD gV gS gQ Y W T N M L J G z r q;go_in;go_upto_region 1 with fail;rw[<-h];clear h;refine Gq (ϐ b b) [10,53,67] κ κ (AG Br 1) ?_;refine Xcy C ?_;refine E5 (Eq.refl ϑ) rfl ?_;go_simp;go_at_call 68;refine(hX.o b.drew (f.o.th (AG Br 1))).mono ?_;rintro e w1⟨rfl,c⟩;have a:=Lh ((AG Br 1).th c);clear c;refine⟨a.o,?_⟩;refine Xcy C ?_;refine E5 (Eq.refl ϑ) rfl ?_;go_simp;go_at_call 37;refine(Xdn jT _ _ gW B w1 (S8.o.1.ups B5 (Nr _) (JT.below (f.o.th a.o))) (S8.o.2.ups B5 (Nr _) (JT.below (f.o.th a.o)))).mono ?_;rintro e g⟨rfl,n2,c⟩;have d:=@Lh (ϐ b b g) (a.o.th (by rw[c];exact AG Br n2));clear c;refine⟨d.o,?_⟩;refine Xcy C ?_;refine E5 (Eq.refl ϑ) rfl ?_;go_simp;go_at_call 37;refine(Xdn jU _ _ gW B g (S9.o.1.ups B5 (Nr _) (JT.below (f.o.th d.o))) (S9.o.2.ups B5 (Nr _) (JT.below (f.o.th d.o)))).mono ?_;rintro e g⟨rfl,l,a⟩;have z:=@Lh (ϐ b b g) (d.o.th (by rw[a];exact AG Br l));clear a;refine⟨z.o,?_⟩;refine Xcy C ?_;refine Fp ?_;go_upto_block 0 with fail;go_cut[] (λa=>Hid (ϐ b b a))
 .go_wp2_with fail;go_loopw[7] (λi wr=>∃k:Nat,k<=hF.length/\i=X k/\Hid (ϐ b b wr)) (λi _=>hF.length-(intOf i).toNat);exact⟨0,Nat.zero_le _,rfl,z⟩
  obtain⟨k,_,rfl,c⟩:=hrel;have:=C.o wr c.o;have:=jS.o;by_cases hT:k<hF.length
  .obtain ⟨hO,n⟩:=Ϡ hF k hT
   obtain⟨_,_,rfl,_,r,⟨_,gR,j⟩,-⟩:=S6.o.1.elem n;obtain⟨_,_,rfl,_,S,⟨_,R,h⟩,-⟩:=S6.o.2.elem n;obtain⟨_,_,rfl⟩:=j.u1;obtain⟨_,_,rfl⟩:=h.u1;have r:=Δ4 (f.o.th c.o) r gR S R;have hD:=Lh (λa=>j.ups B5 (Nr _) (JT.below ((f.o.th c.o).th (AG Br a))));have gV:=Lh (λa=>h.ups B5 (Nr _) (JT.below ((f.o.th c.o).th (AG Br a))));have:=In k;have:(k:Int)<(hF:Int):=K;clear n j h;go_wp2_with fail;go_quiet((go_at_call 37;exact Calls.quiet_of (Xdn hO.args _ _ gW B _ (hD.o _) (gV.o _))));have G:=Lh (λa=>c.o.th (AG Br a));go_wp2;go_roundw;exact⟨k+1,K,by go_num,Lh (G.o _)⟩;simp[intOf];omega
  go_wp2;go_meet;exact c
 have cQ:=hcut;go_upto_block 2 with fail;go_cut[] (λa=>Hid (ϐ b b a))
 .go_wp2_with fail;go_loopw[8] (λi wr=>∃k:Nat,k<=hL.length/\i=X k/\Hid (ϐ b b wr)) (λi _=>hL.length-(intOf i).toNat);exact⟨0,Nat.zero_le _,rfl,cQ⟩
  obtain⟨k,_,rfl,h⟩:=hrel;have:=C.o wr h.o;have:=jV.o;by_cases Q:k<hL.length
  .obtain ⟨Y,j⟩:=Ϡ hL k Q
   obtain⟨_,_,rfl,_,q,T,W,gQ,gS,-⟩:=S7.o.1.elem j;obtain⟨_,_,rfl,_,J,L,M,N,n,-⟩:=S7.o.2.elem j;let⟨_,_,_,_,_⟩:=Y;have a:=(f.o.th h.o);have q:=Δ9 a q J T L W M gQ N gS;have n:=AB a n;have:=In k;have:(k:Int)<(hL:Int):=K;clear j a;go_wp2_with fail;go_quiet(fail);have j:=Lh (λa=>h.o.th (AG Br a));go_wp2;go_roundw;exact⟨k+1,K,by go_num,Lh (j.o _)⟩;simp[intOf];omega
  go_wp2;go_meet;exact h
 go_wp2;go_ret;exact Gx rfl (f.o.th hcut.o)
def Xfj(s:Tra)(VA VB:List ϒ)(eB B:Nat)(w:Ϣ)(fV:eB<=w)(fU:B<=w)(c:TraVs eB w VA s)(C:TraVs B w VB s)(fT:s.A.length=s.q1.length/\s.results.length=s.q1.length/\s.Z.length=s.q1.length/\s.P.length=s.q1.length) :
  ϙ prog 11 #[.agg VA.toArray,.agg VB.toArray] w (PO ϑ w):=by
 have fB:=Lh c;have fE:=Lh C;obtain⟨_,_,_,_,_,_,_,_,_,rfl,b,j,A,Q,R,S,V,Y,o⟩:=c;obtain⟨fQ,fS,rfl⟩:=b.u1;obtain⟨fP,fR,rfl⟩:=j.u1;obtain⟨fL,fN,rfl⟩:=A.u1;obtain⟨fM,fO,rfl⟩:=Q.u1;obtain⟨fJ,fK,rfl⟩:=R.u1;obtain⟨fH,fI,rfl⟩:=S.u1;obtain⟨fF,fG,rfl⟩:=V.u1;obtain⟨fC,fD,rfl⟩:=Y.u1;obtain⟨eY,fA,rfl⟩:=o.u1;obtain⟨_,_,_,_,_,_,_,_,_,rfl,E,F,J,P,T,dU,dV,dX,G⟩:=C;obtain⟨eV,eX,rfl⟩:=E.u1;obtain⟨eU,eW,rfl⟩:=F.u1;obtain⟨eQ,eS,rfl⟩:=J.u1;obtain⟨eR,eT,rfl⟩:=P.u1;obtain⟨eO,eP,rfl⟩:=T.u1;obtain⟨eN,cQ,rfl⟩:=dU.u1;obtain⟨eL,eM,rfl⟩:=dV.u1;obtain⟨eJ,eK,rfl⟩:=dX.u1;obtain⟨eH,eI,rfl⟩:=G.u1;have:=b.frm;have:=j.frm;obtain⟨-,-,-,T⟩:=A.frm;obtain⟨-,-,-,C⟩:=Q.frm;have:=R.frm;have:=S.frm;have:=V.frm;have:=Y.frm;obtain⟨-,-,-,Q⟩:=o.frm;let⟨R,S,eG,fW,P⟩:=Λ5 (ϟ b E) (ϟ j F) (ϟ A J) (ϟ o G) (ϟ fV fU);let⟨b,c,j,o⟩:=fT;have fZ:=Lh (ϟ b (ϟ c (ϟ j o)));rw[b,c,j,o]at fB fE ⊢;let⟨n,a⟩:=ε s.q1.length;rw[<-a]at fB fE C ⊢;have fY:=Lh a;have eF:=Lh (ϟ T (ϟ Q C));clear a;let⟨f,d⟩:=ε ((w.alloc (I #[H fQ s.M.G fS,H fP s.M.N fR,H fL s.q6 fN,X s.q3,X s.Y,H fM n fO,H fJ n fK,H fH n fI,H fF n fG,H fC n fD,H eY s.q7 fA,X s.q5,X s.U] 39)).alloc (I #[H eV s.M.G eX,H eU s.M.N eW,H eQ s.q6 eS,X s.q3,X s.Y,H eR n eT,H eO n eP,H eN n cQ,H eL n eM,H eJ n eK,H eH s.q7 eI,X s.q5,X s.U] 39));have fX:=Lh (bl2 d);have:=sz2 d;have o:=Xct d;have A:=Xcm d;have a:=Lh (λj (c:ϐ f f j)=>(λb:ϐ w w j=>ϟ (ϟ (ϵ ((c.block (w:Nat) K).trans o)) (ϵ ((c.block ((w:Nat)+1) K).trans A))) (ϟ (Nt P.o.1 b.size) (ϟ (Nt P.o.2 b.size) b))) (fX.o.th c));have eC:=Lh (λb (c:ϐ f f b)=>TH s.M _ _ eB B b (a.o b c).2.1 (a.o b c).2.2.1 ⟨_,_,rfl,R.o.1.ups B5 (Nr _) (JT.below (a.o b c).2.2.2),S.o.1.ups WU (Nr _) (JT.below (a.o b c).2.2.2)⟩ ⟨_,_,rfl,R.o.2.ups B5 (Nr _) (JT.below (a.o b c).2.2.2),S.o.2.ups WU (Nr _) (JT.below (a.o b c).2.2.2)⟩);have:=(a.o f Br).1;go_in;go_upto_region 1 with fail;rw[<-d];clear d;go_wp2_with fail;refine(eC.o f Br).mono ?_;rintro e w1⟨rfl,b⟩;have m:=Lh b;have:=(a.o w1 m.o).1;go_upto_block 0 with fail;go_cut[5] (λb c=>b=X (n:Int)/\Hid (ϐ f f c))
 .have:=(a.o w1 m.o).1;go_wp2_with fail;go_loopw[6] (λi wr=>∃k:Nat,k<=s.q6.length/\i=X k/\Hid (ϐ f f wr)) (λi _=>s.q6.length-(intOf i).toNat);exact⟨0,Nat.zero_le _,rfl,m⟩
  obtain⟨k,_,rfl,h⟩:=hrel;have:=(a.o wr h.o).1;have:=eF.o.1;by_cases eZ:k<s.q6.length
  .obtain ⟨l,t⟩:=Ϡ s.q6 k eZ
   obtain⟨_,_,rfl,_,_,r,x⟩:=eG.o.1.elem t;obtain⟨_,_,rfl,_,_,p,z⟩:=eG.o.2.elem t;obtain⟨_,_,rfl⟩:=x.u1;obtain⟨_,_,rfl⟩:=z.u1;rw[Nat.mul_one]at r p;have:=AB (a.o wr h.o).2.2.2 r;have:=AB (a.o wr h.o).2.2.2 p;have eA:=Lh (λb=>x.ups B5 (Nr _) (JT.below ((a.o wr h.o).2.2.2.th (AG Br b))));have dW:=Lh (λb=>z.ups B5 (Nr _) (JT.below ((a.o wr h.o).2.2.2.th (AG Br b))));have:=In k;have:(k:Int)<(s.q6:Int):=K;go_wp2_with fail;go_quiet((go_at_call 37;exact Calls.quiet_of (Xdn l _ _ eB B _ (eA.o _) (dW.o _))));have M:=Lh (λb=>h.o.th (AG Br b));go_wp2;go_roundw;exact⟨k+1,K,by go_num,Lh (M.o _)⟩;simp[intOf];omega
  go_wp2;go_meet;exact⟨ψ,h⟩
 obtain⟨rfl,dY⟩:=hcut;go_upto_block 2 with fail;go_cut[5] (λb c=>b=X (n:Int)/\Hid (ϐ f f c))
 .go_wp2_with fail;go_loopw[7] (λi wr=>∃k:Nat,k<=s.q7.length/\i=X k/\Hid (ϐ f f wr)) (λi _=>s.q7.length-(intOf i).toNat);exact⟨0,Nat.zero_le _,rfl,dY⟩
  obtain⟨k,_,rfl,g⟩:=hrel;have:=(a.o wr g.o).1;have:=eF.o.2.1;by_cases eD:k<s.q7.length
  .obtain ⟨y,q⟩:=Ϡ s.q7 k eD
   obtain⟨_,_,rfl,_,r,p⟩:=fW.o.1.elem q;obtain⟨_,_,rfl,_,u,v⟩:=fW.o.2.elem q;have r:=AB (a.o wr g.o).2.2.2 r;have p:=AB (a.o wr g.o).2.2.2 p;have u:=AB (a.o wr g.o).2.2.2 u;have v:=AB (a.o wr g.o).2.2.2 v;have:=λw=>Xhw y.1 y.2 w;have:=In k;have:(k:Int)<(s.q7:Int):=K;go_wp2_with fail;go_quiet(fail);have N:=Lh (λb=>g.o.th (AG Br b));go_wp2;go_roundw;exact⟨k+1,K,by go_num,Lh (N.o _)⟩;simp[intOf];omega
  go_wp2;go_meet;exact⟨ψ,g⟩
 obtain⟨rfl,W⟩:=hcut;go_wp2_with fail;go_loopw[8] (λi wr=>∃k:Nat,k<=n/\i=X k/\Hid (ϐ f f wr)) (λi _=>n-(intOf i).toNat);exact⟨0,Nat.zero_le _,rfl,W⟩;obtain⟨k,_,rfl,d⟩:=hrel;have:=eF.o.2.2;by_cases eE:k<n
 .have dZ:=Lh (Xmp s k _ _ eB B wr (a.o wr d.o).2.1 (a.o wr d.o).2.2.1 (fB.o.ups (Nr _) (JT.below (a.o wr d.o).2.2.2)) (fE.o.ups (Nr _) (JT.below (a.o wr d.o).2.2.2)) fZ.o (by have:=fY.o;omega))
  have:=(a.o wr d.o).1;have:=In k;have:(k:Int)<(n:Int):=K;go_wp2_with fail;refine dZ.o.mono ?_;rintro e b⟨rfl,a⟩;have L:=Lh (d.o.th a);go_wp2;go_roundw;exact⟨k+1,K,by go_num,L⟩;simp[intOf];omega
 go_wp2;go_ret;exact Gx rfl (fX.o.th d.o)
def DD(L:List (Addr×ϒ))(w:Ϣ):Prop:=∀(j:Nat) p,L[j]?=O p->w.cell? p.1=O p.2
def DD.get(c:DD L w)(j:Nat)(b:L[j]?=O (a,v)):w.cell? a=O v:=c j (a,v) b
def DD.kp(d:DD L w)(c:ϐ w w w'):DD L w':=λj b a=>AB c (d j b a)
def DD.nil:DD [] w:=λj b a=>by simp at a
def DD.cons(e:w.cell? a=O v)(d:DD L w):DD ((a,v)::L) w:=λj c b=>by
 cases j with
 |zero=>simp at b;subst b;exact e
 |succ j=>exact d j c (by simpa using b)
def Wb(w:Ϣ):List (Addr×ϒ)->Prop
 |[]=>True
 |(a,v)::L=>w.cell? a=O v/\Wb w L
def DD.all(b:DD L w):Wb w L:=by
 induction L with
 |nil=>trivial
 |cons c L d=>let⟨a,v⟩:=c;exact⟨b.get 0 rfl,d (λj c d=>b (j+1) c (by simpa using d))⟩
