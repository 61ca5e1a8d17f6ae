import Derived.Test.YtigbfkiddlhhjaaGreatDoorRg
set_option maxHeartbeats 4000000
set_option maxRecDepth 1000000
set_option linter.all false
open Go renaming World→Ϣ,Value→ϒ,Calls→ϙ,bodyPost_ret→ϖ
open Option renaming some→D
open Bool renaming false→ϝ,true→ϑ
open And renaming intro→ϟ
open Go.Value renaming slice→X
open Go.Obj renaming cells→Z
namespace Go.Proofs.YtigbfkiddlhhjaaGreatDoor
open Go.RowKit Proofs.Tryz
open Go.RowKit renaming ι→O,ω→H,π→U,ν→K
variable{α:Type}{e T:TypeId}{l:List Bi}{k r R bt b tag sz n d j bytes q sb rb bo xb:Nat}{x:Xad}{W w w' w0 w2 wr wr':Ϣ}{x0 x1 x2 x3 x4 x5 x6 x7 x8 x9 x10 x11 x12 v u z:ϒ}{c c' c2:A1}{xs vs vs0:List ϒ}{g:List Xae}{s:Tra}{S:Nat->Prop}{o:Oper}{a:Act}{Q:Exit->Act->Ϣ->Prop}{ops:Array Oper}{rest:List Oper}{p:α->Bool}
def NuI(n:Int)(w:Ϣ)(e:Ending)(w':Ϣ):Prop:=e=.returned (O n)/\Below w w w'
def Xiz(n lo hi:Int):Bool:=decide (lo<=n)&&decide (n<=hi)
def Xhz(n a c:Int)(w:Ϣ):ϙ prog 32 #[O n,O a,O c] w (λe w'=>e=.returned (.bool (Xiz n a c))/\w'=w):=by
 unfold Xiz;by_cases b:a<=n
 .have d:=decide_eq_true b
  go_in;go_wp2;go_ret;simp[d]
 have f:=decide_eq_false b;go_in;go_wp2;go_ret;simp[f]
def Xc6(m:Mm)(k:Int):Int:=if(m.N:Int)<k then -1 else((Bd m (Xaw k 0)).length:Int)
def Xhp(m:Mm)(d:ϒ)(k:Int)(B:Nat)(w:Ϣ)(v:B<=w)(r:Lw B w d m)(v:0<=k)(v:k<=1099511627776):ϙ prog 34 #[d,O k] w (NuI (Xc6 m k) w):=by
 obtain⟨_,_,rfl,h,c⟩:=r;obtain⟨p,q,rfl⟩:=h.u1;obtain⟨l,n,rfl⟩:=c.u1;have y:=Lh c;let⟨W,b⟩:=ε (w.alloc (Z (Bm p q l n m) 28));have e:=Lh (bl1 b);have:=Xbq b 0 _ rfl;have:=Xbq b 1 _ rfl;by_cases o:k=0
 .subst o
  have t:=@Lh (Xc6 m 0=(m.G:Int)) (by unfold Xc6;rw[if_neg H,Gm rfl]);go_in;go_upto_region 1 with fail;rw[<-b];clear b;go_wp2;go_ret;rw[t.o];exact⟨rfl,e.o⟩
 have:=ξ k 0 o;have:=θ (k<0);by_cases g:(m.N:Int)<k
 .have:=η ((m.N:Int)<k)
  have s:=@Lh (Xc6 m k = -1) (by unfold Xc6;rw[if_pos g]);go_in;go_upto_region 1 with fail;rw[<-b];clear b;go_wp2;go_ret;rw[s.o];exact⟨rfl,e.o⟩
 have:=θ ((m.N:Int)<k);obtain⟨a,rfl⟩:∃a:Nat,k=(a:Int)+1:=⟨(k-1).toNat,H⟩;let⟨x,f⟩:=Ϡ m.N a;have u:=@Lh (Xc6 m ((a:Int)+1)=(x.f:Int)) (by
  unfold Xc6;rw[if_neg g,IJ (x:=x) (by unfold Xaw;dsimp only;omega) (by unfold Xaw;dsimp only;rw[show((a:Int)+1-1).toNat=a by omega];exact f)])
 obtain⟨_,no,rfl,-,-,⟨_,j,i⟩,-⟩:=y.o.nth f;obtain⟨_,_,rfl⟩:=i.u1;have:=AB e.o j;have:IntKind.i64.wrap (a:Int)=(a:Int):=by rw[IntKind.wrap_i64]<;>omega
 have:=In a;have:(a:Int)<(m.N:Int):=H;go_in;go_upto_region 1 with fail;rw[<-b];clear b;go_wp2;go_ret;rw[u.o];exact⟨rfl,e.o⟩
def Xj6(m:Mm)(c:ϒ)(k f:Int)(B:Nat)(w:Ϣ)(u:B<=w)(d:Lw B w c m)(t:0<=k)(s:k<=1099511627776)(v:0<=f):ϙ prog 117 #[c,O k,O f] w (PO (decide (f<((Bd m (Xaw k f)).length:Int))) w):=by
 obtain⟨_,_,rfl,g,l⟩:=id d;obtain⟨n,o,rfl⟩:=g.u1;obtain⟨h,i,rfl⟩:=l.u1;let⟨W,a⟩:=ε (w.alloc (Z (Bm n o h i m) 28));have p:=Lh (bl1 a);have:=Xbq a 0 _ rfl;have:=Xbq a 1 _ rfl;have:(w:Nat)<W:=by rw[sz1 a];omega
 have q:=Lh (Xhp m _ k (w:Nat) W H (((d.up u).below p.o)) t s);have r:=@Lh (decide (f<Xc6 m k)=decide (f<((Bd m (Xaw k f)).length:Int))) (by
  unfold Xc6;by_cases b:(m.N:Int)<k
  .have e:Bd m (Xaw k f)=[]:=by unfold Bd Xaw;rw[if_pos b]
   rw[if_pos b,e];simp;omega
  rw[if_neg b];rfl)
 have:=decide_eq_true v;go_in;go_upto_region 1 with fail;rw[<-a];clear a;go_wp2_with fail;refine q.o.mono ?_;rintro e c⟨rfl,a⟩;have j:=Lh a;go_wp2;go_ret;rw[<-r.o];exact⟨rfl,p.o.th j.o⟩
def Xmv(m:Mm)(i:ϒ)(r:Rq)(B:Nat)(w:Ϣ)(Q:B<=w)(E:Lw B w i m)(G:0<=r.O)(J:0<=r.D)(hl:r.D<((Bd m r).length:Int)):ϙ prog 119 #[i,O r.O,O r.D] w (NuI ((Bd m r).getD r.D.toNat 0) w):=by
 obtain⟨_,_,rfl,l,h⟩:=E;obtain⟨A,C,rfl,_⟩:=l.fr;obtain⟨v,y,rfl,_⟩:=h.fr;let⟨N,k,n,P,ft⟩:=r;dsimp only at G J hl ⊢;have R:=Lh h;have L:=Lh l;let⟨W,e⟩:=ε (w.alloc (Z (Bm A C v y m) 28));have g:=Lh (bl1 e);have:=Xbq e 0 _ rfl;have:=Xbq e 1 _ rfl;obtain⟨j,rfl⟩:∃j:Nat,n=j:=⟨n.toNat,H⟩;have:=In j;by_cases u:k=0
 .subst u
  rw[Gm rfl]at hl ⊢;let⟨c,p⟩:=Ϡ m.G j;obtain⟨b,o,rfl,-,s⟩:=L.o.nth p;have h:=AB g.o s.1;rw[Nat.mul_one]at h;have F:=@Lh (m.G.getD (j:Int).toNat 0=c) (by rw[Int.toNat_natCast,List.getD_eq_getElem?_getD,p];rfl);go_in;go_upto_region 1 with fail;rw[<-e];clear e;go_wp2;go_ret;rw[F.o];exact⟨rfl,g.o⟩
 have:=ξ k 0 u;let⟨x,d⟩:=Jt (m:=m) (r:=⟨N,k,j,P,ft⟩) (by dsimp only;omega) J hl;rw[IJ (x:=x) (by dsimp only;omega) d]at hl ⊢;obtain⟨a,rfl⟩:∃a:Nat,k=(a:Int)+1:=⟨(k-1).toNat,H⟩;rw[show(((a:Int)+1)-1).toNat=a by omega]at d;have:=(Ll d);obtain⟨_,no,rfl,-,-,⟨_,z,f⟩,-⟩:=R.o.nth d;obtain⟨_,_,rfl⟩:=f.u1;let⟨c,q⟩:=Ϡ x.f j;obtain⟨b,o,rfl,-,t⟩:=f.nth q;have:=AB g.o z;have d:=AB g.o t.1;rw[Nat.mul_one]at d;have M:=@Lh (x.f.getD (j:Int).toNat 0=c) (by rw[Int.toNat_natCast,List.getD_eq_getElem?_getD,q];rfl);have:IntKind.i64.wrap (a:Int)=(a:Int):=by rw[IntKind.wrap_i64]<;>omega
 have:=In a;have:(a:Int)<(m.N:Int):=H;go_in;go_upto_region 1 with fail;rw[<-e];clear e;go_wp2;go_ret;rw[M.o];exact⟨rfl,g.o⟩
def Xdt{α:Type}(l:List α)(p:α->Bool):Int:=match l.findIdx? p with
 |some k=>k
 |none=>-1
def Xjf{l:List α}(c:∀(i:Nat) x,l[i]?=D x->p x=ϝ):l.findIdx? p=none:=by
 rw[List.findIdx?_eq_none_iff];intro x a;let⟨i,b⟩:=List.mem_iff_getElem?.1 a;exact c i x b
def Xja{l:List α}{x:α}(b:l[k]?=D x)(c:p x=ϑ)(d:∀(i:Nat) y,i<k->l[i]?=D y->p y=ϝ):l.findIdx? p=D k:=by
 obtain⟨a,rfl⟩:=List.getElem?_eq_some_iff.1 b;rw[List.findIdx?_eq_some_iff_getElem];exact⟨a,c,λj a=>by rw[d j _ a (Lg H)];simp⟩
def Xli(l:List (Int×Int×Int))(v:ϒ)(r:Rq)(B:Nat)(w:Ϣ)(hl:AE B w 3 WrE v l):ϙ prog 118 #[v,O r.O,O r.D] w (NuI (Xdt l (Xcv r)) w):=by
 obtain⟨a,_,rfl,u⟩:=hl.fr;have y:=Lh hl;let⟨e,c⟩:=ε l.length;rw[<-c]at u y ⊢;have F:=Lh c;clear c;let⟨x1,x2,x3,x4,x5⟩:=r;dsimp only;go_in;go_wp2_with fail;go_loop[7] (λc=>∃k:Nat,k<=e/\c=O k/\Hid (∀(c:Nat) d,c<k->l[c]?=D d->Xcv ⟨x1,x2,x3,x4,x5⟩ d=ϝ)) (λc=>e-(intOf c).toNat);exact⟨0,Nat.zero_le _,rfl,Lh λu d c=>by omega⟩;obtain⟨k,_,rfl,m⟩:=hrel;by_cases G:k<e
 .obtain ⟨x,f⟩:=Ϡ l k (by have:=F.o;omega)
  obtain⟨b,o,rfl,-,_,_,_⟩:=y.o.nth f;have:=In k;have:(k:Int)<(e:Int):=H;have n:=Lh f;by_cases s:x.1=x2
  .have t:=ζ x.1 x2 s
   by_cases q:x.2.1=x3
   .have A:=ζ x.2.1 x3 q
    go_wp2;go_ret;rw[show Xdt l (Xcv ⟨x1,x2,x3,x4,x5⟩)=(k:Int) by unfold Xdt;rw[Xja n.o (by unfold Xcv;rw[t,A];rfl) m.o]];exact⟨rfl,Below.refl _ _⟩
   have E:=ξ x.2.1 x3 q;go_wp2;go_roundw;exact⟨k+1,H,by go_num,Lh λj d c i=>by
    by_cases z:j=k
    .subst z
     obtain rfl:x=d:=by simpa using n.o.symm.trans i
     unfold Xcv;rw[t,E];rfl
    exact m.o j d H i⟩
   simp[intOf];omega
  have C:=ξ x.1 x2 s;go_wp2;go_roundw;exact⟨k+1,H,by go_num,Lh λh d c g=>by
    by_cases p:h=k
    .subst p
     obtain rfl:x=d:=by simpa using n.o.symm.trans g
     unfold Xcv;rw[C];rfl
    exact m.o h d H g⟩
  simp[intOf];omega
 go_wp2;go_ret;rw[show Xdt l (Xcv ⟨x1,x2,x3,x4,x5⟩) = -1 by unfold Xdt;rw[Xjf λe d c=>m.o e d (by have:=(Ll c);have:=F.o;omega) c]];exact⟨rfl,Below.refl _ _⟩
def Xfn(r:Rq)(w:Int×Int):Bool:=w.1==r.O&&w.2==r.D
def Xl5(l:List (Int×Int))(v:ϒ)(r:Rq)(B:Nat)(w:Ϣ)(hl:AE B w 2 RdE v l):ϙ prog 120 #[v,O r.O,O r.D] w (NuI (Xdt l (Xfn r)) w):=by
 obtain⟨a,_,rfl,u⟩:=hl.fr;have y:=Lh hl;let⟨e,c⟩:=ε l.length;rw[<-c]at u y ⊢;have F:=Lh c;clear c;let⟨x1,x2,x3,x4,x5⟩:=r;dsimp only;go_in;go_wp2_with fail;go_loop[7] (λc=>∃k:Nat,k<=e/\c=O k/\Hid (∀(c:Nat) d,c<k->l[c]?=D d->Xfn ⟨x1,x2,x3,x4,x5⟩ d=ϝ)) (λc=>e-(intOf c).toNat);exact⟨0,Nat.zero_le _,rfl,Lh λu d c=>by omega⟩;obtain⟨k,_,rfl,m⟩:=hrel;by_cases G:k<e
 .obtain ⟨x,f⟩:=Ϡ l k (by have:=F.o;omega)
  obtain⟨b,o,rfl,-,_,_⟩:=y.o.nth f;have:=In k;have:(k:Int)<(e:Int):=H;have n:=Lh f;by_cases s:x.1=x2
  .have t:=ζ x.1 x2 s
   by_cases q:x.2=x3
   .have A:=ζ x.2 x3 q
    go_wp2;go_ret;rw[show Xdt l (Xfn ⟨x1,x2,x3,x4,x5⟩)=(k:Int) by unfold Xdt;rw[Xja n.o (by unfold Xfn;rw[t,A];rfl) m.o]];exact⟨rfl,Below.refl _ _⟩
   have E:=ξ x.2 x3 q;go_wp2;go_roundw;exact⟨k+1,H,by go_num,Lh λj d c i=>by
    by_cases z:j=k
    .subst z
     obtain rfl:x=d:=by simpa using n.o.symm.trans i
     unfold Xfn;rw[t,E];rfl
    exact m.o j d H i⟩
   simp[intOf];omega
  have C:=ξ x.1 x2 s;go_wp2;go_roundw;exact⟨k+1,H,by go_num,Lh λh d c g=>by
    by_cases p:h=k
    .subst p
     obtain rfl:x=d:=by simpa using n.o.symm.trans g
     unfold Xfn;rw[C];rfl
    exact m.o h d H g⟩
  simp[intOf];omega
 go_wp2;go_ret;rw[show Xdt l (Xfn ⟨x1,x2,x3,x4,x5⟩) = -1 by unfold Xdt;rw[Xjf λe d c=>m.o e d (by have:=(Ll c);have:=F.o;omega) c]];exact⟨rfl,Below.refl _ _⟩
def Xns{l:List (Int×Int)}{r:Rq}:Xdt l (Xfn r)<0↔(r.O,r.D)∉l:=by
 unfold Xdt;constructor
 .intro c e
  cases b:l.findIdx? (Xfn r)with
  |some k=>rw[b]at c;simp at c;omega
  |none=>rw[List.findIdx?_eq_none_iff]at b;have:=b _ e;simp[Xfn]at this
 intro f;rw[List.findIdx?_eq_none_iff.2 λx d=>?_]
 .simp
 cases a:Xfn r x with
 |false=>rfl
 |true=>simp[Xfn]at a;exact absurd (by rw[<-a.1,<- a.2];exact d) f
def Xmj(m:AV)(fv:ϒ)(w:Ϣ):ϙ prog 81 #[.agg (FW fv m).toArray] w (PO (Xbj m) w):=by
 let⟨_,⟨k,n,f,v,g⟩,h,cm,id⟩:=m;unfold FW Xbj;dsimp only;let⟨W,b⟩:=ε (w.alloc (Z #[fv,O k,O n,O f,O v,O g,O h,O cm,O id] 59));have c:=Lh (bl1 b);have:=Xbq b 1 _ rfl;by_cases a:k=4
 .have d:=ζ k 4 a
  have e:=@Lh ((decide (k=4)||decide (k=5))=ϑ) (by simp[a]);rw[e.o];clear a;go_in;go_upto_region 1 with fail;rw[<-b];clear b;go_wp2;go_ret;exact⟨rfl,c.o⟩
 have d:=ξ k 4 a;have e:=@Lh ((decide (k=4)||decide (k=5))=(k==5)) (by simp[a];rfl);rw[e.o];clear a;go_in;go_upto_region 1 with fail;rw[<-b];clear b;go_wp2;go_ret;exact⟨rfl,c.o⟩
def Xn6(a:W.heap[R]?=D (Z #[x0,x1,x2,x3,x4,x5,x6,x7,x8,x9,x10,x11,x12] 62 (0,0))):(loadVar 62 (U R 0)).run prog W=.ok (.agg #[x0,x1,x2,x3,x4,x5,x6,x7,x8,x9,x10,x11,x12]) W:=by
 have:=row13 a;simp only[loadVar];go_simp
def Xi7{b:Func}{p:Tmp}(d:b.results=#[.cell p 62])(e:W.heap[R]?=D (Z #[x0,x1,x2,x3,x4,x5,x6,x7,x8,x9,x10,x11,x12] 62 (0,0)))(a:Array ϒ)(c:a.getD p undef=.pointer (D (U R 0))) :
  (results b a).run prog W=.ok (.agg #[x0,x1,x2,x3,x4,x5,x6,x7,x8,x9,x10,x11,x12]) W:=by
 simp only[results,d];rw[Array.getD_eq_getD_getElem?]at c;simp[c,asAddr,Xn6 e,Result.andThen,Sem.run_bind]
def Xcr(w:Ϣ)(c:A1)(vs:List ϒ)(s:Tra):Prop:=Xbb w c vs (Xag s)/\∀b,(w:Nat)<=b->c b=0
def Xfe(R:Tra->Prop)(c:A1)(w:Ϣ)(e:Ending)(w':Ϣ):Prop:=∃s' vs' c',R s'/\e=.returned (.agg vs'.toArray)/\Xcr w' c' vs' s'/\AT NZ c c' w w'
def cOf(c:A1)(bt k:Nat):A1:=λb=>if b=bt then k else c b
def Xdh(c:A1)(bt k:Nat):cOf c bt k bt=k:=if_pos rfl
def Xb4(a:b≠bt):cOf c bt k b=c b:=if_neg a
def Ao.reCol(a:Ao w c tag e sz v n xs)(f:c bt≠tag):Ao w (cOf c bt k) tag e sz v n xs:=
 ⟨a.1,λb d=>by
  have:=a.2.1 b d;rw[Xb4 (λe=>f (by rw[<-e];exact this))];exact this,a.2.2⟩
def Xhd(d:c bt≠0)(b:k≠0):mask w (cOf c bt k)=mask w c:=by
 unfold mask;congr 1;apply Array.ext';simp only[Array.toList_mapIdx];apply List.ext_getElem?;intro a;simp only[List.getElem?_mapIdx];cases w.heap.toList[a]? with
 |none=>rfl
 |some o=>
  simp only[Option.map_some];by_cases e:a=bt
  .subst e;rw[Xdh,if_neg d,if_neg b]
  rw[Xb4 e]
def X6.reCol(a:X6 w c tag u x)(f:c bt≠0)(d:k≠0)(b:c bt≠tag):X6 w (cOf c bt k) tag u x:=by
 cases x with
 |p x=>exact a
 |q e sz xs=>let⟨n,a⟩:=a;exact⟨n,a.reCol b⟩
 |i b=>exact⟨a.1,by rw[Xhd f d];exact a.2⟩
def Xbb.reCol(a:Xbb w c vs g)(d:c bt≠0)(b:k≠0)(f:c bt<20):Xbb w (cOf c bt k) vs g:=
 ⟨a.1,a.2.1,λj l x h f=>by
  have:=a.2.2 j l x h f;cases x with
  |p x=>exact this
  |r e sz xs=>let⟨n,vs,a,f,l⟩:=this;exact⟨n,vs,a.reCol H,f,λi h x f a=>(l i h x f a).reCol d b H⟩
  |i a=>exact⟨this.1,by rw[Xhd d b];exact this.2⟩⟩
def Xe0(d:∀b,(w:Nat)<=b->c b=0)(a:bt<w):∀b,(w:Nat)<=b->cOf c bt k b=0:=λb a=>by rw[Xb4 H];exact d b a
def SAt.clos(a:SAt w c bt s):∃vs,w.heap[bt]?=D (Z vs.toArray 39 (0,0))/\Xcr w (cOf c bt 14) vs s:=by
 unfold SAt at a;have f:=a.lt;let⟨e,_,vs,b,d⟩:=a;exact⟨vs,b,d.reCol H H H,Xe0 e f⟩
def Xcr.box(b:Xcr w c vs s)(a:c bt=14)(a:w.heap[bt]?=D (Z vs.toArray 39 (0,0))):SAt w (cOf c bt 1) bt s:=
 ⟨Xe0 b.2 (La a),Xdh _ _ _,vs,a,b.1.reCol H H H⟩
def Xcr.kp(f:Xcr w c vs s)(e:AT S c c' w w')(d:∀a,20<=a->¬S a)(a:∀b,(w':Nat)<=b->c' b=0):Xcr w' c' vs s:=⟨f.1.kp e (Xai d),a⟩
def Xcr.grow(d:Xcr w c vs s)(a:Below w w w'):Xcr w' c vs s:=
 d.kp (AT.ob (T:=NO) a (no 0)) (λe _=>no e) (λb e=>d.2 b (Nt a.size e))
def Xcr.opened(g:Xcr w c vs s)(f:Below w w W)(h:(w:Nat)<=b)(e:W.heap[b]?=D (Z vs.toArray 39 (0,0))):SAt W (cOf c b 1) b s/\AT NO c (cOf c b 1) w W:=by
 have a:AT NO c (cOf c b 1) w W:=AT.paint _ _ f h;exact⟨⟨Xe0 (λd h=>g.2 d (Nt f.size h)) (La e),Xdh _ _ _,vs,e,g.1.kp a (Xai λe _=>no e)⟩,a⟩
def AT.opn(a:AT NZ (cOf c bt 14) c' w w')(g:bt<w)(h:c bt=1):AT NZ c (cOf c' bt 1) w w':=
 ⟨a.os,a.tape,a.output,a.size,λb f g=>a.kp b f (λd=>g (by
  by_cases e:b=bt
  .subst e;rw[Xdh]at d;exact absurd rfl d.2
  .rw [Xb4 e]at d;exact d)),λb f=>by
  by_cases e:b=bt
  .subst e;rw[Xdh,h]
  rw[Xb4 e,a.old b f,Xb4 e],a.zero⟩
def Xb8(g:d≠b){a:List ϒ}{o:Nat}(f:d<w):(Xaa w b o a).heap[d]?=w.heap[d]?:=
 (Xak (S:=λe=>e=1) (c:=λx=>if x=b then 1 else 0) (b:=b) (if_pos rfl) H a w o).kp d f (by show ¬(if d=b then 1 else 0)=1;rw[if_neg g];omega)
def Xeg(c:d≠b)(a:d<w):(w.setCell (U b j) v).heap[d]?=w.heap[d]?:=(Xb8 c a:(Xaa w b j [v]).heap[d]?=_)
def Xna(cd:AQ)(s:Tra)(i:Nat)(w:Ϣ)(e:Ending)(w':Ϣ):Prop:=Below w w w'/\∃y fa fc,Xg6 cd s i y/\e=.returned (.agg (Xa9 (X fa y.run.J fc) K K y).toArray)/\CE w (X fa y.run.J fc) y.run w'
def Xgc(cd:AQ)(r u:Option Addr)(q t B:Nat)(s:Tra)(vs:List ϒ)(c:A1)(i:Nat)(x:Bi)(cB:List Bi)(w0 w:Ϣ)(bU:Xbl cd (.agg (Bc r q u t cd)) B w0 w c)(cJ:Bv cd)(hs:AU cd)(A:Xcr w c vs s)(hl:s.A[i]?=D (x::cB))(cI:AS cd x s.Y=0) :
  ϙ prog 80 #[.agg (Bc r q u t cd),.agg vs.toArray,O i] w (Xna cd s i w):=by
 obtain⟨n,N,P,S,T,V,Y,bJ,bK,rfl⟩:=A.1.v9;let⟨W,a⟩:=ε (((w.alloc (Z (Bc r q u t cd) 25)).alloc (Z #[n,N,P,O s.q3,O s.Y,S,T,V,Y,bJ,bK,O s.q5,O s.U] 39)).alloc (Z #[K,O 0,O 0,O 0,O 0,O 0,O 0,O 0,O 0,O 0,O 0,K,K] 62));have bM:=Lh (bl3 a);have cL:=Lh (sz3 a);have cE:=Lh (bU.grow bM.o);have P:=Xcs a;have cD:=Lh (Xbs a);let⟨N,n⟩:=A.opened (W:=W) bM.o (b:=(w:Nat)+1) H P;have P:=Lh n;have n:=Lh N;let⟨v,A⟩:=ε (cOf c ((w:Nat)+1) 1);rw[<-A]at n P;have bZ:=Xf2 a 0 _ rfl;have bX:=Xf2 a 1 _ rfl;have bW:=Xf2 a 2 _ rfl;have cA:=Xhh a 3 _ rfl;have bY:=Xhh a 4 _ rfl;let⟨bQ,cF,_,o,d,_⟩:=n.o.viewC hl;obtain⟨_,cG,rfl⟩:=d.u1;obtain⟨Q,R,rfl,_,⟨f,⟨_,j,bL⟩,cC⟩⟩:=d.nth (k:=0) rfl;rw[Nat.zero_mul,Nat.add_zero]at f j;obtain⟨bO,bP,rfl⟩:=bL.u1;have u0:=JT.mask W v _ _ f;have u1:=JT.mask W v _ _ j;have bT:=o.hd;have bS:=o.el;have cH:Hid (∀f,Below W W f->ϙ prog 115 #[.agg (Bc r q u t cd),.agg #[.string x.proc,X bO x.args bP],O s.Y] f (λe w'=>∃d j n,Cf cd (CF cd x s.Y) d/\e=.returned (.agg #[X j d.J n,O d.Q.K,O d.Q.O,O d.Q.D,O d.Q.V,O d.Q.X,O d.Y,O d.C,O d.I])/\CE f (X j d.J n) d w')):=Lh (λf d=>by
  have n:=(JT.mask W v).trans (JT.below d);have j:=cE.o.grow d;refine(PY cd _ x _ s.Y (f:Nat) f (Nr _) (j.q9.up j.size) ⟨_,rfl,bL.ups B5 (by rw[Hk];exact d.size) n,cC⟩ hs cJ cI).mono ?_;rintro e w'⟨J,_,L,M,d⟩;let⟨E,h,F⟩:=d;obtain⟨y,z,rfl⟩:=h.u1;exact⟨J,y,z,L,M,E,h,F⟩)
 have:=In i;have:(i:Int)<(s.A:Int):=H;have cK:=Lh hl;go_in;go_upto_region 1 with fail;rw[<-a];clear a;refine wp_region_bel (λV h=>ϟ (AB h bZ) (ϟ (AB h bX) (ϟ (AB h bW) (ϟ (AB h bT) (ϟ (AB h bS) (ϟ (AB h u0) (ϟ (AB h u1) (ϟ (AB h bY) (AB h cA))))))))) [10,13,14] ϑ 15 rfl κ κ ?_;refine Xac ?_;have bN:=Lh (ϟ bZ (ϟ bX (ϟ bW (ϟ bT (ϟ bS (ϟ u0 (ϟ u1 (ϟ bY cA))))))));refine AH κ ?_;go_simp;refine(cH.o _ (AG Br 1)).mono ?_;rintro e bV⟨a,l,m,C,rfl,g⟩;have f:=(AG Br 1).th g.below;have j:=Lh C;have o:=Lh g;have g:=Lh f;refine⟨Θ9 g.o bN.o,?_⟩
 (refine' Ae κ _ (λh d=>?_) ?_;rotate_left;(clear d;go_simp);(try with_reducible rfl);try simp only[Ap])
 have d:=(g.o.block _ (La cD.o)).trans cD.o;have h:=Lh d;have:=ϵ d;have:=ϴ d;refine AH κ ?_;go_simp;rw[Xaf];have n:=Xab h.o (X l a.J m) (O a.Q.K) (O a.Q.O) (O a.Q.D) (O a.Q.V) (O a.Q.X) (O a.Y) (O a.C) (O a.I) (O s.q3) (O 0) K K;let⟨WE,d⟩:=ε (Xaa bV ((w:Nat)+1+1) 0 [X l a.J m,O a.Q.K,O a.Q.O,O a.Q.D,O a.Q.V,O a.Q.X,O a.Y,O a.C,O a.I,O s.q3,O 0,K,K]);have h:Below w w WE:=by rw[d];exact Xal H _ _ (bM.o.th g.o)
 have bR:Hid (Xna cd s i w (.returned (.agg (Xa9 (X l a.J m) K K ⟨a,s.q3,0,[],[]⟩).toArray)) WE):=Lh ⟨h,_,l,m,⟨x,cB,a,cK.o,j.o,rfl⟩,rfl,by
  let⟨j,g,a,_⟩:=o.o;have hs:=bM.o.size;refine⟨j,g.kp (λb f=>?_),λb f=>Nt hs (a b f),h⟩;have:(W:Nat)<=b:=a b f;rw[d];exact Xb8 (by have:=cL.o;omega) (g.lt b f)⟩
 rw[<-d]at n ⊢;have G:=Lh n;clear d;refine BH ?_;go_wp2;exact ϖ (Xi7 (p:=6) rfl G.o _ rfl) rfl bR.o
def Xpn{B:Nat}{E:Ϣ->Nat->Nat->α->Prop}:AE B w sz E K ([]:List α):=⟨none,0,rfl,ψ,ψ,H,.inl rfl⟩
def Xnp(m:AV)(fv:ϒ)(B:Nat)(w:Ϣ)(a:AE B w 4 (CK B) fv m.J)(h:m.Q.K≠0):ϙ prog 97 #[.agg (AC fv m),.agg #[K,O 0,O 0,O 0,O 0,O 0,O 0,O 0,O 0]] w (PO ϝ w):=by
 obtain⟨r,s,rfl,b⟩:=a.fr;let⟨e,⟨f,i,j,k,l⟩,o,p,q⟩:=m;let⟨n,a⟩:=ε e.length;unfold AC;dsimp only at b h ⊢;rw[<-a]at b ⊢;clear a;let⟨W,c⟩:=ε ((w.alloc (Z #[X r n s,O f,O i,O j,O k,O l,O o,O p,O q] 59)).alloc (Z #[K,O 0,O 0,O 0,O 0,O 0,O 0,O 0,O 0] 59));have g:=Lh (bl2 c);have a:=Xdu c;have b:=Xek c;have:=a 0 _ rfl;have:=b 0 _ rfl;have:=a 1 _ rfl;have:=b 1 _ rfl;have:=a 2 _ rfl;have:=b 2 _ rfl;have:=a 3 _ rfl;have:=b 3 _ rfl;have:=a 4 _ rfl;have:=b 4 _ rfl;have:=a 5 _ rfl;have:=b 5 _ rfl;have:=ξ f 0 h;by_cases d:n=0
 .subst d
  go_in;go_upto_region 1 with fail;rw[<-c];clear c;go_wp2;go_ret;exact⟨rfl,g.o⟩
 have:((n:Int) !=0)=ϑ:=by simp[d]
 go_in;go_upto_region 1 with fail;rw[<-c];clear c;go_wp2;go_ret;exact⟨rfl,g.o⟩
def Xl0(x:Trx)(g k l:Option Addr)(f a wc B:Nat)(w:Ϣ)(L:B<=w)(o:AE B w 4 (CK B) (X g x.run.J f) x.run.J)(b:x=Xat\/x.run.Q.K≠0):ϙ prog 79 #[.agg (Xa9 (X g x.run.J f) (X k x.q4 a) (X l x.q2 wc) x).toArray] w (PO (decide (x.run.Q.K=0)) w):=by
 let⟨⟨j,⟨n,F,A,G,z⟩,C,y,E⟩,q,r,s,t⟩:=x;unfold Xa9 FW;dsimp only at o b ⊢;let⟨W,c⟩:=ε (w.alloc (Z #[X g j f,O n,O F,O A,O G,O z,O C,O y,O E,O q,O r,X k s a,X l t wc] 62));have d:=Lh (bl1 c);have a:=Xbq c;have N:=a 0 _ rfl;have:=a 1 _ rfl;have:=a 2 _ rfl;have:=a 3 _ rfl;have:=a 4 _ rfl;have:=a 5 _ rfl;have:=a 6 _ rfl;have:=a 7 _ rfl;have:=a 8 _ rfl;have P:=a 9 _ rfl;have M:=a 10 _ rfl;have i:=a 11 _ rfl;have h:=a 12 _ rfl;rcases b with b|p
 .have J:=Lh (VD AI (X g 0 f) K (W:Nat) (W:Nat) W (Nr _) (Nr _) (by unfold Xat AI at b;cases b;exact(o.ups Dx (Nt L d.o.size) (JT.below d.o))) Xpn)
  unfold Xat AI at b;cases b;simp only[List.length_nil]at c N i h;go_in;go_upto_region 1 with fail;rw[<-c];clear c;go_wp2_with fail;refine J.o.mono ?_;rintro e b⟨rfl,a⟩;have m:=Lh (d.o.th a);have:=Δ4 a P M i h;go_wp2;go_ret;exact⟨rfl,m.o⟩
 have v:=Lh (Xnp ⟨j,⟨n,F,A,G,z⟩,C,y,E⟩ (X g j f) (W:Nat) W (o.ups Dx (Nt L d.o.size) (JT.below d.o)) p);have u:=@Lh (decide (n=0)=ϝ) (by simpa using p);go_in;go_upto_region 1 with fail;rw[<-c];clear c;go_wp2_with fail;refine v.o.mono ?_;rintro e b⟨rfl,a⟩;have c:=Lh (d.o.th a);go_wp2;go_ret;rw[u.o];exact⟨rfl,c.o⟩
def Xhe{l:Act->Ϣ->Prop}(tag:Nat)(s x:Operand)(t e:TypeId)(G:o.op=.call {callee:=.builtin .append,args:=#[s,x],argTypes:=#[t,t]})(q:prog.underlying t=D (.slice e))(F:(prog.info? e).map (λd=>(d.zero,d.size,d.bytes))=D (D z,sz,bytes))(E:z.cells.size=sz)(C:0<sz)(d:bytes<=128)
  (f:Nat) (v:w.heap[f]?=D (Z #[] e (0,0))) (hs:a.eval s=X (D (U f 0)) 0 0) (h:Below w0 w0 w) (i:(w0:Nat)<=f) (xa:Option Addr) (n xc:Nat) (m:List ϒ) (A:a.eval x=X xa n xc) (k:Src w0 sz xa n m) (r:tag≠0) (i:∀b,(w0:Nat)<=b->c b=0)
  (B:∀g i w' c',Ao w' c' tag e sz (X (D (U g 0)) n i) n m->AT NO c c' w0 w'->(∀b,w'.heap.size<=b->c' b=0)->l (a.put o.dst (X (D (U g 0)) n i)) w'):o.wp prog a w l Q:=by
 have:=(La v);let⟨i,l⟩:=ε (λb=>if b=f then tag else 0:A1);have y:i f=tag:=by rw[l];exact if_pos rfl
 have p:∀b,b≠f->i b=0:=λb d=>by rw[l];exact if_neg d
 refine Nj tag s x t e G q F E C d (c:=i) f v hs xa n xc m A k.len (k.at_.imp id (λ⟨f,i,l⟩=>⟨f,i,λj u q=>AB h (l j u q)⟩)) k.one k.small y r (λb d=>p b H) (λg i w' c' k f l=>?_);refine B g i w' (λb=>if b<(w0:Nat)then c b else c' b) ⟨k.1,λb d=>?_,k.2.2⟩ ⟨f.os.trans h.os,f.tape.trans h.tape,f.output.trans h.output,Nt h.size f.size,λb d _=>?_,λb d=>if_pos d,no 0⟩ (λb d=>?_)
 .have i:=k.2.1 b d
  show(if b<(w0:Nat)then c b else c' b)=tag;rw[if_neg (λk=>?_)]
  .exact i
  rw[f.old b (Nl k h.size),p b H]at i;exact r i.symm
 .rw [f.kp b (Nl d h.size) (by rw[p b H];exact λe=>r e.symm)]
  exact h.block b d
 have:=f.size;have:=h.size;show(if b<(w0:Nat)then c b else c' b)=0;rw[if_neg H];exact l b d
def Xmh{xs:List Xad}(hl:g.length<=16)(d:g[j]?=D (.r e sz xs))(c:∀a,S a->∃i,xs.length<=i/\a=100+16*i+j):Xhq S g:=λk x b=>by
 have:=(Ll d);have:=(Ll b);cases x with
 |p x=>trivial
 |i a=>trivial
 |r a h l=>exact⟨λa=>by let⟨i,_,_⟩:=c _ a;omega,λi x f=>by
   cases x with
   |p x=>trivial
   |i a=>trivial
   |q a sz3 h=>
    intro a;have:=c _ a;obtain rfl:k=j:=H;rw[d]at b;cases b;have:=(Ll f);omega⟩
def X5.growG(o:X5 w c T bt g){xs:List Xad}(i:g[j]?=D (.r e sz xs))(q:xs.length=n*sz)(p:0<sz) :
  ∃d f vs,w.cell? (U bt j)=D (X d n f)/\Ao w c (20+j) e sz (X d n f) n vs/\∀(S:Nat->Prop)(f:Ϣ)(d:A1)(w2:Ϣ)(c2:A1)(h:List ϒ)(m:List Xad)(v':ϒ)(n2:Nat),AT S c d w f->(∀b,f.heap.size<=b->d b=0)->¬S 1->Xhq S g->
   AT (λl=>l=20+j) d c2 f w2->(∀b,(w2:Nat)<=b->c2 b=0)->Ao w2 c2 (20+j) e sz v' n2 (vs++h)->h.length=m.length->(∀k u l,h[k]?=D u->m[k]?=D l->X6 f d (100+16*(xs.length+k)+j) u l)->
   X5 (w2.setCell (U bt j) v') c2 T bt (g.set j (.r e sz (xs++m)))/\AT (λh=>h=1\/h=20+j) d c2 f (w2.setCell (U bt j) v'):=by
 let⟨d,f,vs,l,m,z,A⟩:=o.row1 i q p;refine⟨d,f,vs,l,m,λS E B w2 c2 C r v' n2 d q f h p s v t y=>?_⟩;have:=Nl (Ll i) o.len;exact(o.kp d q f h).push1 r i (d.cell l (by rw[o.2.1];exact f)) (m.kp d (h j _ i).1) z (λm a x f l=>(A m a x f l).kp d ((h j _ i).2 m x l)) p s v t (λk u a d f=>(y k u a d f).kp p (by cases a<;>first|exact trivial|(show ¬_=20+j;omega)))
def rcZ(q r:Nat)(c:A1):A1:=λb=>if c b=q\/c b=r then 0 else c b
def Xe5(a:c b=tag)(d:tag≠q/\tag≠r):rcZ q r c b=tag:=by
 unfold rcZ;rw[a,if_neg H]
def Xd8(a:c b=q\/c b=r\/c b=0):rcZ q r c b=0:=by
 unfold rcZ;split<;>omega
def Xne:JT (mask w c) (mask w (rcZ q r c)):=λa v b=>by
 rw[GJ]at b ⊢;split at b
 .rename_i d
  rw[if_pos (Xd8 (.inr (.inr d)))];exact b
 cases b
def Xk6(a:Ao w c tag e sz v n xs)(f:tag≠q/\tag≠r):Ao w (rcZ q r c) tag e sz v n xs:=⟨a.1,λb d=>Xe5 (a.2.1 b d) f,a.2.2⟩
def Xoz{P:Ϣ->ϒ->Prop}(a:Xdq P/\P (mask w c) u):Xdq P/\P (mask w (rcZ q r c)) u:=⟨a.1,a.1 _ _ _ (by rw[Hk,Hk];exact Nr _) Xne a.2⟩
def Xnh(a:X6 w c tag u x)(b:tag≠q/\tag≠r):X6 w (rcZ q r c) tag u x:=by
 cases x with
 |p x=>exact a
 |q e sz xs=>let⟨n,a⟩:=a;exact⟨n,Xk6 a b⟩
 |i b=>exact Xoz a
def Xpb(a:X5 w c T bt g)(d:1<q/\q<20/\1<r/\r<20):X5 w (rcZ q r c) T bt g:=by
 let⟨d,f,vs,h,k,l,m⟩:=a;refine⟨λb a=>Xd8 (.inr (.inr (d b a))),Xe5 f H,vs,h,k,l,λj f x d a=>?_⟩;have:=m j f x d a;cases x with
 |p x=>exact this
 |r e sz xs=>let⟨n,vs,a,d,h⟩:=this;exact⟨n,vs,Xk6 a H,d,λi f x d a=>Xnh (h i f x d a) H⟩
 |i a=>exact Xoz this
def Xf1(w:Ϣ)(c:A1)(v:ϒ)(l:List Bi):Prop:=∃ns,Ao w c 16 64 2 v l.length ns/\∀(k:Nat) x,l[k]?=D x->ns[k*2]?=D (.string x.proc)/\x.proc.size<=140737488355328/\∃av,ns[k*2+1]?=D av/\Dq w c 15 av x.args
def Xf1.nil_(w:Ϣ)(c:A1):Xf1 w c K []:=⟨[],Ao.nil _ _ _ _ _,λk x a=>by simp at a⟩
def Xf1.kp(e:Xf1 w c v l)(a:AT S c c' w w')(j:¬S 15)(d:¬S 16):Xf1 w' c' v l:=by
 let⟨ns,b,i⟩:=e;refine⟨ns,b.kp a d,λk x h=>?_⟩;let⟨d,e,b,f,g⟩:=i k x h;exact⟨d,e,b,f,g.kp a j⟩
def Xf1.add{d:Ϣ}{b:A1}(p:Xf1 w c v l)(n:AT NO c b w d){x:Bi}{f:ϒ}(q:x.proc.size<=140737488355328)(r:Dq d b 15 f x.args):∃ns,Ao d b 16 64 2 v l.length ns/\∀w2 c2 e,AT (λh=>h=16) b c2 d w2->Ao w2 c2 16 64 2 e (l.length+1) (ns++[.string x.proc,f])->Xf1 w2 c2 e (l++[x]):=by
 let⟨ns,b,o⟩:=p.kp n (no _) (no _);refine⟨ns,b,λw2 c2 e m d=>⟨_,by rw[List.length_append];exact d,λk g a=>?_⟩⟩;have i:=b.1.1;by_cases j:k<l.length
 .rw [Al j]at a
  let⟨d,e,b,h,n⟩:=o k g a;exact⟨by rw[Al H];exact d,e,b,by rw[Al H];exact h,n.kp m H⟩
 rw[Ar H]at a;have b:=(Ll a);simp only[List.length_singleton]at b;obtain rfl:k=l.length:=H;rw[Nat.sub_self]at a;obtain rfl:x=g:=by simpa using a
 exact⟨by rw[Ar H,i,Nat.sub_self];rfl,q,f,by rw[Ar H,i,Nat.add_sub_cancel_left];rfl,r.kp m H⟩
def Xf1.done(d:Xf1 w c v l):Xbz l (mask w (rcZ 15 16 c)) v:=by
 let⟨ns,a,f⟩:=d;have d:=a.vis (c':=rcZ 15 16 c) (λb a=>Xd8 (.inr (.inl a)));have:=d.q4 (l:=l) (E:=DA w) (λk z a=>⟨_,(f k z a).1⟩) (λk z g a h=>?_)
 .unfold Xbz
  rw[Hk]at this ⊢;exact this
 obtain⟨i,m,e,j,d⟩:=f k z a;have f:Dq (mask w (rcZ 15 16 c)) c 15 e z.args:=⟨d.1.vis (λb a=>Xd8 (.inl a)),d.2⟩;have a:=f.q4;rw[Hk]at a;exact⟨h _ _ i,⟨e,h _ _ j,a⟩,m⟩
def Xkm(t:Nat):Nat:=if t=2 then 20 else if t=3 then 21 else if 10<=t/\t%5=0 then 100+16*((t-10)/5*2+1)+1 else 0
def Xos(i:Nat):Xkm (10+5*i)=100+16*(i*2+1)+1:=by
 unfold Xkm;rw[if_neg H,if_neg H,if_pos H];have:(10+5*i-10)/5=i:=H;rw[this]
def Xio{m:Mm}{e:Ending}(y:IU m w e w')(c:A1):∃i j o r c',e=.returned (.agg (Bm i j o r m))/\AT NO c c' w w'/\(∀b,(w':Nat)<=b->c' b=0)/\Xay w' c' 0 (X i m.G j) (.r 3 1 (m.G.map λn=>.p (O n)))/\Xay w' c' 1 (X o m.N r) (.r 72 2 (m.N.flatMap Xbw)):=by
 obtain⟨E,F,G,J,rfl,d,u⟩:=y;let⟨j,_,y,k⟩:=u (EN w) (λb d=>Ee b d);have A:∀b i,j b=i->i≠99->(w:Nat)<=b:=λb i r o=>Nat.le_of_not_lt λi=>o (by rw[<-r,y.old b i,Mv i]);have z:∀{tag i:Nat}{e:TypeId}{sz:Nat}{v:ϒ}{n:Nat}{xs:List ϒ},Ao w' j tag e sz v n xs->tag≠99->Xkm tag=i->Ao w' (λb=>if b<(w:Nat)then c b else Xkm (j b)) i e sz v n xs:=λi r u=>⟨i.1,λb d=>by
  have o:=i.2.1 b d;have:=A b _ o r;show(if b<(w:Nat)then c b else Xkm (j b))=_;rw[if_neg H,o];exact u,i.2.2⟩
 refine⟨E,F,G,J,λb=>if b<(w:Nat)then c b else Xkm (j b),rfl,⟨d.os,d.tape,d.output,d.size,λb i _=>d.block b i,λb i=>if_pos i,no 0⟩,λb i=>?_,⟨_,_,z k.g.1 H rfl,ψ,λa o x g h=>?_⟩,⟨_,_,z k.n H rfl,?_,λa o x g h=>?_⟩⟩
 .have:=d.size
  show(if b<(w:Nat)then c b else Xkm (j b))=0;rw[if_neg H,k.hi b i];rfl
 .rw [List.getElem?_map]at g h
  cases s:m.G[a]? with
  |none=>rw[s]at g;cases g
  |some n=>rw[s]at g h;cases g;cases h;exact rfl
 .rw [k.n.1.1,Xap (f:=Xbw) (sz:=2) (λ_=>rfl)]
 have d:=(Ll h);rw[Xap (f:=Xbw) (sz:=2) (λ_=>rfl)]at d;let⟨q,l⟩:=Ϡ m.N (a/2);obtain⟨_,i,t,-,C⟩:=k.nn _ _ l;by_cases B:a%2=0
 .have j:a=a/2*2+0:=H
  have d:=Xaq (f:=Xbw) (sz:=2) (λ_=>rfl) l 0 _ rfl;rw[<-j]at d;rw[show a/2*2=a by omega]at i;rw[i]at g;rw[d]at h;cases g;cases h;exact rfl
 have p:a=a/2*2+1:=H;have a:=Xaq (f:=Xbw) (sz:=2) (λ_=>rfl) l 1 _ rfl;rw[<-p]at a t;rw[t]at g;rw[a]at h;cases g;cases h;exact⟨_,z C.1 H (by rw[Xos,<- p])⟩
structure Xcf(w:Ϣ)(sb rb bo:Nat)(vs0:List ϒ)(g:List Xae)(c:A1)(wr:Ϣ):Prop where
 chg:AT Xa6 (EN w) c w wr
 st:X5 wr c 39 bo g
 src:wr.heap[sb]?=D (Z vs0.toArray 39 (0,0))/\c sb=0
 res:wr.heap[rb]?=D (Z Xm4 39 (0,0))/\c rb=2
def Xcf.hi(a:Xcf w sb rb bo vs0 g c wr):∀b,(wr:Nat)<=b->c b=0:=a.st.1
def Xcf.old(a:Xcf w sb rb bo vs0 g c wr):Below w w wr:=a.chg.below0 Xg5
def Xcf.go{T:Nat->Prop}{f:List Xae}(a:Xcf w sb rb bo vs0 g c wr)(j:X5 wr' c' 39 bo f)(b:AT T c c' wr wr')(h:∀d,T d->d≠99/\d≠2):Xcf w sb rb bo vs0 f c' wr':=
 have f:=(La a.res.1);have d:=(La a.src.1)
 ⟨a.chg.trans (b.mono (λi a=>⟨λe=>b.zero (e▸a),(h i a).1⟩) tn0),j,⟨by rw[b.kp _ d (by rw[a.src.2];exact b.zero)];exact a.src.1,by rw[b.old _ d];exact a.src.2⟩,by rw[b.kp _ f (by rw[a.res.2];exact λe=>(h _ e).2 rfl)];exact a.res.1,by rw[b.old _ f];exact a.res.2⟩
def Xcf.goN(a:Xcf w sb rb bo vs0 g c wr)(d:AT NO c c' wr wr')(e:∀b,(wr':Nat)<=b->c' b=0):Xcf w sb rb bo vs0 g c' wr':=a.go (a.st.chg d e (λe a=>a.elim)) d (λe a=>a.elim)
def Xcf.put0(a:Xcf w sb rb bo vs0 g c wr){x:Xae}(e:Xay wr c j u x):Xcf w sb rb bo vs0 (g.set j x) c (wr.setCell (U bo j) u):=by
 let⟨b,d⟩:=a.st.put0 e;exact a.go b d (λb a=>by omega)
def Xby(w:Ϣ)(c:A1)(j:Nat)(e:TypeId)(sz:Nat):Xay w c j K (.r e sz []):=⟨0,[],Ao.nil _ _ _ _ _,rfl,λd f x a b=>by simp at a⟩
def Xfr(j:o.guard=none)(tag:Nat)(s x:Operand)(t e:TypeId)(A:o.op=.call {callee:=.builtin .append,args:=#[s,x],argTypes:=#[t,t]})(y:prog.underlying t=D (.slice e))(v:(prog.info? e).map (λd=>(d.zero,d.size,d.bytes))=D (D z,sz,bytes))(u:z.cells.size=sz)(r:0<sz)(q:bytes<=128)
  (h:w=w0.alloc (Z #[] e)) (hs:a.eval s=X (D (U w0 0)) 0 0) (xa:Option Addr) (n xc:Nat) (d:List ϒ) (p:a.eval x=X xa n xc) (m:Src w0 sz xa n d) (l:tag≠0) (i:∀b,(w0:Nat)<=b->c b=0)
  (k:∀g f w' c',Ao w' c' tag e sz (X (D (U g 0)) n f) n d->AT NO c c' w0 w'->(∀b,w'.heap.size<=b->c' b=0)->wpList prog ops Q rest (a.put o.dst (X (D (U g 0)) n f)) w'):wpList prog ops Q (o::rest) a w:=by
 refine wpList_plain j λ_ j=>?_;exact Xhe tag s x t e A y v u r q (w0:Nat) (by rw[h];exact Hn _ _) hs (by rw[h];exact AA _ _) (Nr _) xa n xc d p m l i (λg d w' c' f h i=>j _ _ (k g d w' c' f h i))
def Xi6(m:o.guard=none)(tag:Nat)(s x:Operand)(t e:TypeId)(J:o.op=.call {callee:=.builtin .append,args:=#[s,x],argTypes:=#[t,t]})(G:prog.underlying t=D (.slice e))(C:(prog.info? e).map (λd=>(d.zero,d.size,d.bytes))=D (D z,sz,bytes))(B:z.cells.size=sz)(A:0<sz)(F:bytes<=1000)
  (hs:a.eval s=v) (y:Ao w c tag e sz v n xs) (h:Nat) (d:List ϒ) (l:a.eval x=X (D (U h 0)) 1 1) (hl:d.length=sz) (E:∀(j:Nat) u,d[j]?=D u->w.cell? (U h j)=D u) (i:∀u∈d,u.oneCell'=ϑ) (f:n<=1000000) (p:tag≠0) (q:∀b,(w:Nat)<=b->c b=0)
  (r:∀g f w' c',Ao w' c' tag e sz (X (D (U g 0)) (n+1) f) (n+1) (xs++d)->AT (λk=>k=tag) c c' w w'->(∀b,w'.heap.size<=b->c' b=0)->wpList prog ops Q rest (a.put o.dst (X (D (U g 0)) (n+1) f)) w'):wpList prog ops Q (o::rest) a w:=by
 refine wpList_plain m λ_ m=>?_;refine Xir (λk=>k=tag) s x t e J G C B A (c:=c) (tag:=tag) hs y (U h 0) 1 1 d l (by rw[hl,Nat.one_mul]) (λj u l=>?_) i δ H (Nt (Nat.mul_le_mul (show n+1<=1000001 by omega) F) δ) rfl (λk=>p k.symm) q (λg f w' c' d h i _=>m _ _ (r g f w' c' d h i));rw[GB,Nat.zero_add];exact E j u l
def Xic{p srcb so kk:Nat}{J s o9 m i:Oper}{xs:List Xad}{na N:Option Addr}{nc M P:Nat}{v1:ϒ}{E:List ϒ}(z l y:TypeId){B:ϒ}{x n0:Nat}
  (A:prog.underlying z=D (.slice l)) (aP:(prog.info? l).map (λh=>(h.zero,h.size,h.bytes))=D (D K,1,24)) (aY:prog.underlying l=D (.slice y)) (aX:(prog.info? y).map (λh=>(h.zero,h.size,h.bytes))=D (D B,x,n0)) (bK:B.cells.size=x) (bJ:0<x) (bI:n0<=128)
  (o:Xcf w sb rb bo vs0 g c wr) (aU:g[j]?=D (.r l 1 xs)) (bA:xs.length=kk) (aS:kk<=1000000)
  (m0:wr.cell? (U bo j)=D (X na kk nc)) (m1:wr.cell? (U sb j)=D v1) (aR:wr.cell? (U srcb so)=D (X N M P)) (aN:srcb<w) (bH:Src wr x N M E)
  (bG:∀u0 u1 u2 u3 q c',Xcf w sb rb bo vs0 (g.set j (.r l 1 (xs++[.q y x E]))) c' q->Q .normal ((((a.put (D p) u0).put (D (p+6)) u1).put (D (p+7)) u2).put (D (p+8)) u3) q)
  (W:[(J.op,J.dst),(s.op,s.dst),(o9.op,o9.dst),(m.op,m.dst),(i.op,i.dst)]=[(.buildSlice l 0 #[],D p),(.call {callee:=.builtin .append,args:=#[.tmp p,.tmp (p+5)],argTypes:=#[l,l]},D (p+6)),(.buildSlice z 1 #[(0,.tmp (p+6))],D (p+7)),(.call {callee:=.builtin .append,args:=#[.tmp (p-1),.tmp (p+7)],argTypes:=#[z,z]},D (p+8)),(.store z (.tmp (p+9)) (.tmp (p+8)),none)]:=by rfl)
  (bF:[([(8,s),(9,o9),(10,m),(12,i)].all λr=>r.1 !=2 && [(2,J),(8,s),(9,o9),(10,m),(12,i)].any (waits r)),([(9,o9),(10,m),(12,i)].all λr=>r.1 !=8 && [(8,s),(9,o9),(10,m),(12,i)].any (waits r)),([(10,m),(12,i)].all λr=>r.1 !=9 && [(9,o9),(10,m),(12,i)].any (waits r)),([(12,i)].all λr=>r.1 !=10 && [(10,m),(12,i)].any (waits r))]=[ϑ,ϑ,ϑ,ϑ]:=by kernel_rfl) (bE:(prog.info? z).map (λh=>(h.zero,h.size,h.bytes))=D (D K,1,24):=by kernel_rfl)
  (bD:0<p/\p+9<a.tmps.size:=by simp) (bC:a.eval (.tmp (p+5))=X N M P:=by rfl) (t:a.eval (.tmp (p-1))=X na kk nc:=by rfl) (bB:a.eval (.tmp (p+9))=.pointer (D (U bo j)):=by rfl) :
  Dm prog 13 Q (λq=>q.cell? (U bo j)=D (X na kk nc)/\q.cell? (U sb j)=D v1/\q.cell? (U srcb so)=D (X N M P)) ϑ [(2,J),(8,s),(9,o9),(10,m),(12,i)] a wr.drew:=by
 have:=Nl (Ll aU) o.st.len;have f:Below wr wr wr.drew:=AG Br 1;have Y:AT NO c c wr wr.drew:=AT.ob f (no 0);let⟨F,G,vs,L,aO,aZ⟩:=o.st.growG aU (n:=kk) (by rw[bA,Nat.mul_one]) H;obtain⟨rfl,rfl⟩:F=na/\G=nc:=by have:=L.symm.trans m0;simpa using this
 have L:c srcb=99:=by rw[o.chg.old _ aN];exact Mv aN
 have aW:s.op=.call {callee:=.builtin .append,args:=#[.tmp p,.tmp (p+5)],argTypes:=#[l,l]}:=by simp only[List.cons.injEq,Prod.mk.injEq]at W;exact W.2.1.1
 have m:=o.st.lt;refine Xig (p:=p) (sb:=srcb) (so:=so) (kk:=kk) (tag:=20+j) (tagI:=100+16*kk+j) (c:=c) (nx:=vs) (R:=λq c'=>Xcf w sb rb bo vs0 (g.set j (.r l 1 (xs++[.q y x E]))) c' q) (λu i v=>∃n,Ao u i (100+16*kk+j) y x v n E) z l y A aP aY aX (λb aP c' F aN i B G aQ q z J s aT=>?_) (AB f m0) (AB f m1) (AB f aR) ⟨o.st.2.1,Nl m f.size,λb i=>o.hi b (Nt f.size i),λh=>by rw[f.frozen m];exact o.st.frz h⟩ o.src.2 (.inr (.inr L)) (aO.kp Y (no _)) aS (λaN L w2 c2 aO aP q s aV aR aQ aS=>?_) bG W bF bE bD bC t bB H
 .refine Xhe (w0:=wr.drew) (c:=c) (100+16*kk+j) (.tmp p) (.tmp (p+5)) l y aW aY aX bK bJ bI F B z i G N M P E J (bH.below (JT.below f)) H (λb i=>o.hi b (Nt f.size i)) (λg h f c2 i l m=>aT g h f c2 ⟨_,i⟩ (l.mono (λd e=>e.elim) H) m)
 have C:=q.aft Y;let⟨S,V⟩:=aZ (λd=>d=100+16*kk+j) aN L w2 c2 [aO] [.q y x E] aP (kk+1) C s H (Xmh o.st.len aU (λd e=>⟨kk,H,e⟩)) aR aQ aS rfl (λk u f A t=>by
  match k,A,t with
  |0,A,t=>cases A;cases t;rw[bA];exact aV
  |k+1,A,t=>simp at A)
 exact o.go (T:=λd=>d=1\/d=20+j\/d=100+16*kk+j) S ((C.mono (λd e=>.inr (.inr e)) H).trans (V.mono (λd e=>by omega) H)) (λd e=>by omega)
def Xcf.rcz(a:Xcf w sb rb bo vs0 g c wr):Xcf w sb rb bo vs0 g (rcZ 15 16 c) wr:=
 ⟨⟨a.chg.os,a.chg.tape,a.chg.output,a.chg.size,a.chg.kp,λb d=>by rw[Mv d];exact Xe5 ((a.chg.old b d).trans (Mv d)) H,tn0⟩,Xpb a.st H,⟨a.src.1,Xd8 (.inr (.inr a.src.2))⟩,a.res.1,Xe5 a.res.2 H⟩
structure XbL(w:Ϣ)(c:A1)(xb:Nat)(xs:List ϒ):Prop where
 box:w.heap[xb]?=D (Z xs.toArray 62 (0,0))
 lab:c xb=14
def XbL.lt(a:XbL w c xb xs):xb<w:=(La a.box)
def XbL.go{T:Nat->Prop}(a:XbL w c xb xs)(b:AT T c c2 w w2)(d:¬T 14):XbL w2 c2 xb xs:=⟨by rw[b.kp xb a.lt (by rw[a.lab];exact d)];exact a.box,by rw[b.old xb a.lt];exact a.lab⟩
def XbL.put(a:XbL w c xb xs)(j:Nat)(v:ϒ):XbL (w.setCell (U xb j) v) c xb (xs.set j v):=⟨by rw[heap_setCell_same _ _ _ _ _ _ a.box,List.setIfInBounds_toArray],a.lab⟩
def XbL.cell(b:XbL w c xb xs):∀(j:Nat) z,xs[j]?=D z->w.cell? (U xb j)=D z:=λj z a=>by rw[cell_of_row _ _ _ _ _ _ b.box,List.getElem?_toArray];exact a
def XbL.puts9{k m n o p q r s t a b d e f g h i j:ϒ}{l:List ϒ}(u:XbL w c xb (k::m::n::o::p::q::r::s::t::l)):XbL (Xaa w xb 0 [a,b,d,e,f,g,h,i,j]) c xb (a::b::d::e::f::g::h::i::j::l):=
 ((((((((u.put 0 a).put 1 b).put 2 d).put 3 e).put 4 f).put 5 g).put 6 h).put 7 i).put 8 j
def Xcf.goX(a:Xcf w sb rb bo vs0 g c wr)(e:AT (λd=>d=14) c c wr wr'):Xcf w sb rb bo vs0 g c wr':=a.go (a.st.chg e (λb f=>a.hi b (Nt e.size f)) (λd a=>a)) e (λd a=>by omega)
def Xcf.at_{l:List ϒ}(a:Xcf w sb rb bo vs0 g c wr)(e:vs0=l)(j:Nat)(v:ϒ)(q:l[j]?=D v):wr.cell? (U sb j)=D v:=(ϵ a.src.1 j).trans (e▸q)
abbrev CqA(w:Ϣ)(vs:List ϒ)(s:Tra)(v:Xae)(a b c d e:Nat)(x:Xae)(k:A1)(W:Ϣ):Prop:=Xcf w (w:Nat) ((w:Nat)+1) ((w:Nat)+1+1) vs (cg s (cX0 s) (cX1 s) v (.r 62 13 ((s.q1.take a).flatMap Xaz)) (.r 65 1 ((s.A.take b).map λl=>.i (Xbz l))) (.r 127 1 ((s.results.take c).map Xg3)) (.r 22 1 ((s.Z.take d).map Xa3)) (.r 22 1 ((s.P.take e).map Xa3)) x) k W
def Xi8(s:Tra)(vs0:List ϒ)(c:A1)(w:Ϣ)(B:TraVs (w:Nat) w vs0 s)(i:Xk9 s)(pT:s.M.N.length<=4096)(pS:∀x∈s.q1,x.run.J.length<=1000)(a:s.A.length=s.q1.length/\s.results.length=s.q1.length/\s.Z.length=s.q1.length/\s.P.length=s.q1.length)(pR:∀b,(w:Nat)<=b->c b=0):ϙ prog 78 #[.agg vs0.toArray] w (ly s c w):=by
 obtain⟨_,_,_,_,_,_,_,_,_,rfl,pK,pL,B,pG,pH,pM,qR,pJ,pI⟩:=B;obtain⟨sO,sP,rfl⟩:=pK.u1;obtain⟨sM,sN,rfl⟩:=pL.u1;obtain⟨tI,wH,rfl⟩:=B.u1;obtain⟨tG,tJ,rfl⟩:=pG.u1;obtain⟨tF,xM,rfl⟩:=pH.u1;obtain⟨tE,xQ,rfl⟩:=pM.u1;obtain⟨tD,xR,rfl⟩:=qR.u1;obtain⟨tC,xS,rfl⟩:=pJ.u1;obtain⟨uF,dc,rfl⟩:=pI.u1;have xX:Hid (Lw w w (.agg (Bm sO sP sM sN s.M)) s.M):=Lh ⟨_,_,rfl,pK,pL⟩;have yC:=Lh (Xce (f:=λl=>l.map (Value.int .i64)) B (λl o ai wQ ci d=>⟨(Xav d (i.q6.2 l o)).1,(Xav d (i.q6.2 l o)).1▸(Xav d (i.q6.2 l o)).2.1⟩)).2;have yI:=Lh (Xce (f:=λl=>l.map (Value.int .i64)) qR (λl o ai wQ ci d=>⟨(Xav d (i.Z.2 l o)).1,(Xav d (i.Z.2 l o)).1▸(Xav d (i.Z.2 l o)).2.1⟩)).2;have yJ:=Lh (Xce (f:=λl=>l.map (Value.int .i64)) pJ (λl o ai wQ ci d=>⟨(Xav d (i.P.2 l o)).1,(Xav d (i.P.2 l o)).1▸(Xav d (i.P.2 l o)).2.1⟩)).2;have yH:=Lh (Xce (f:=Dk) pM (λl o ai wQ ci d=>Xk2 d (i.results.2 l o))).2;have xZ:=Lh (Xiv pI i.q7).2;have yG:=Lh pH;have rY:=Lh a;clear a;have yD:=Lh pG;let⟨W,z⟩:=ε ((w.alloc (Z #[X sO s.M.G sP,X sM s.M.N sN,X tI s.q6 wH,O s.q3,O s.Y,X tG s.q1 tJ,X tF s.A xM,X tE s.results xQ,X tD s.Z xR,X tC s.P xS,X uF s.q7 dc,O s.q5,O s.U] 39)).alloc (Z #[K,K,K,O 0,O 0,K,K,K,K,K,K,O 0,O 0] 39));have r:=bl2 z;have P:=sz2 z;have N:=Xct z;have pQ:=Xcm z;let⟨tZ,A⟩:=ε (W.alloc (Z #[X sO s.M.G sP,X sM s.M.N sN,X tI s.q6 wH,O s.q3,O s.Y,X tG s.q1 tJ,X tF s.A xM,X tE s.results xQ,X tD s.Z xR,X tC s.P xS,X uF s.q7 dc,O s.q5,O s.U] 39));have m:=bl1 A;have G:=Xao A;have pU:=sz1 A;rw[P]at G;let⟨qM,t⟩:=ε (λb=>if b=(w:Nat)+1 then 2 else if b=(w:Nat)+1+1 then 1 else EN w b:A1);have pP:qM ((w:Nat)+1+1)=1:=by rw[t];show(if(w:Nat)+1+1=(w:Nat)+1 then 2 else _)=1;rw[if_neg H,if_pos rfl]
 have pO:qM ((w:Nat)+1)=2:=by rw[t];exact if_pos rfl
 have pN:qM (w:Nat)=0:=by rw[t];show(if(w:Nat)=(w:Nat)+1 then 2 else if(w:Nat)=(w:Nat)+1+1 then 1 else EN w w)=0;rw[if_neg H,if_neg H];exact Ee _ (Nr _)
 have pF:AT Xa6 (EN w) qM w tZ:=⟨(r.th m).os,(r.th m).tape,(r.th m).output,(r.th m).size,λb qR _=>(r.th m).block b qR,λb qR=>by rw[t];show(if b=(w:Nat)+1 then 2 else if b=(w:Nat)+1+1 then 1 else EN w b)=_;rw[if_neg H,if_neg H],tn0⟩;have pE:∀b,(tZ:Nat)<=b->qM b=0:=λb qR=>by rw[t];show(if b=(w:Nat)+1 then 2 else if b=(w:Nat)+1+1 then 1 else EN w b)=0;rw[if_neg H,if_neg H];exact Ee b H
 have pC:=(m.block _ (show(w:Nat)<(W:Nat) by omega)).trans N;have oK:=(m.block _ (show(w:Nat)+1<(W:Nat) by omega)).trans pQ;let⟨vs,d⟩:=ε ([X sO s.M.G sP,X sM s.M.N sN,X tI s.q6 wH,O s.q3,O s.Y,X tG s.q1 tJ,X tF s.A xM,X tE s.results xQ,X tD s.Z xR,X tC s.P xS,X uF s.q7 dc,O s.q5,O s.U]:List ϒ);have wN:=Lh d;have qT:Hid (Xcf w (w:Nat) ((w:Nat)+1) ((w:Nat)+1+1) vs (cg s (.p (X sO s.M.G sP)) (.p (X sM s.M.N sN)) (.p (X tI s.q6 wH)) (.p (X tG s.q1 tJ)) (.p (X tF s.A xM)) (.p (X tE s.results xQ)) (.p (X tD s.Z xR)) (.p (X tC s.P xS)) (.p (X uF s.q7 dc))) qM tZ):=Lh (by rw[d];exact⟨pF,⟨pE,pP,_,G,by simp[cg],by simp[cg],λj o x h d=>by
  match j,h,d with
  |0,h,rK=>cases h;cases rK;rfl
  |1,h,rL=>cases h;cases rL;rfl
  |2,h,rM=>cases h;cases rM;rfl
  |3,h,rN=>cases h;cases rN;rfl
  |4,h,rO=>cases h;cases rO;rfl
  |5,h,rP=>cases h;cases rP;rfl
  |6,h,rQ=>cases h;cases rQ;rfl
  |7,h,rR=>cases h;cases rR;rfl
  |8,h,rS=>cases h;cases rS;rfl
  |9,h,rT=>cases h;cases rT;rfl
  |10,h,rU=>cases h;cases rU;rfl
  |11,h,rV=>cases h;cases rV;rfl
  |12,h,rW=>cases h;cases rW;rfl
  |j+13,h,d=>simp[cg]at d⟩,⟨pC,pN⟩,oK,pO⟩)
 have a:=row13 N;have pD:=a 0 _ rfl;have oL:=a 1 _ rfl;have Y:=a 2 _ rfl;have V:=a 3 _ rfl;have S:=a 4 _ rfl;have R:=a 5 _ rfl;have Q:=a 6 _ rfl;have M:=a 7 _ rfl;have L:=a 8 _ rfl;have J:=a 9 _ rfl;have F:=a 10 _ rfl;have E:=a 11 _ rfl;have C:=a 12 _ rfl;have sR:=Lh (ϟ i (ϟ pR (ϟ pT pS)));have y:=Lh A;have tY:=@Lh ((W:Nat)=(w:Nat)+1+1) P;have:=Lh r;clear pK pL B pG pH pM qR pJ pI r P N pQ t pP pO pN pF pE i pT pS pR m G pU pC oK A a;go_in;go_upto_region 1 with fail;rw[<-z];clear z;go_upto_region 2 with fail;rw[<-y.o,tY.o];clear y pD oL Y V S R Q M L J F E C;have pU:=qT.o.at_ wN.o 0 _ rfl;have pT:=qT.o.at_ wN.o 1 _ rfl;have pC:=Lh (Nq s.M (.agg (Bm sO sP sM sN s.M)) w tZ qT.o.old.size (xX.o.below qT.o.old) sR.o.1.G sR.o.2.2.1 sR.o.1.N.2);go_wp2_with fail;refine pC.o.mono ?_;rintro e w2 oL;obtain⟨vX,vY,tL,tM,c2,rfl,S,Y,V,oK⟩:=Xio oL qM;have m:=qT.o.goN S Y;have pS:=m.st.p0 (j:=0) rfl;have pR:=m.st.frz 0;have pQ:=m.st.p0 (j:=1) rfl;have pP:=m.st.frz 1;have pO:=m.st.p0 (j:=2) rfl;have pN:=m.st.frz 2;have pM:=m.st.p0 (j:=5) rfl;have pL:=m.st.frz 5;have pK:=m.st.p0 (j:=6) rfl;have pJ:=m.st.frz 6;have pI:=m.st.p0 (j:=7) rfl;have pH:=m.st.frz 7;have pG:=m.st.p0 (j:=8) rfl;have pF:=m.st.frz 8;have pE:=m.st.p0 (j:=9) rfl;have f9:=m.st.frz 9;let⟨pD,A⟩:=ε (w2.setCell (U (w+1+1) 0) (X vX s.M.G vY));have Q:=m.put0 (j:=0) (x:=cX0 s) V;rw[<-A]at Q;have R:Xay pD c2 1 (X tL s.M.N tM) (cX1 s):=by
  have L:AT (λB=>B=1) c2 c2 w2 pD:=by rw[A];exact AT.set m.st.2.1 H
  exact oK.kp L ⟨by show ¬21=1;omega,λo x d=>by cases x<;>first|exact trivial|(show ¬_=1;omega)⟩
 have N:=Q.put0 (j:=1) (x:=cX1 s) R;let⟨d,M⟩:=ε (pD.setCell (U (w+1+1) 1) (X tL s.M.N tM));rw[<-M]at N;have J:=N.put0 (j:=2) (u:=K) (x:=(.r 22 1 [])) (Xby _ _ _ _ _);let⟨o,G⟩:=ε (d.setCell (U (w+1+1) 2) K);rw[<-G]at J;have F:=J.put0 (j:=5) (u:=K) (x:=(.r 62 13 [])) (Xby _ _ _ _ _);let⟨d,E⟩:=ε (o.setCell (U (w+1+1) 5) K);rw[<-E]at F;have z:=F.put0 (j:=6) (u:=K) (x:=(.r 65 1 [])) (Xby _ _ _ _ _);let⟨o,y⟩:=ε (d.setCell (U (w+1+1) 6) K);rw[<-y]at z;have t:=z.put0 (j:=7) (u:=K) (x:=(.r 127 1 [])) (Xby _ _ _ _ _);let⟨V6,r⟩:=ε (o.setCell (U (w+1+1) 7) K);rw[<-r]at t;have o:=t.put0 (j:=8) (u:=K) (x:=(.r 22 1 [])) (Xby _ _ _ _ _);let⟨V7,i⟩:=ε (V6.setCell (U (w+1+1) 8) K);rw[<-i]at o;have d:=o.put0 (j:=9) (u:=K) (x:=(.r 22 1 [])) (Xby _ _ _ _ _);let⟨qS,a⟩:=ε (V7.setCell (U (w+1+1) 9) K);rw[<-a]at d;have P:=@Lh (CqA w vs s (.r 22 1 []) 0 0 0 0 0 (.p (X uF s.q7 dc)) c2 qS) d;have C:=@Lh (qS=(((((((w2.setCell (U (w+1+1) 0) (X vX s.M.G vY)).setCell (U (w+1+1) 1) (X tL s.M.N tM)).setCell (U (w+1+1) 2) K).setCell (U (w+1+1) 5) K).setCell (U (w+1+1) 6) K).setCell (U (w+1+1) 7) K).setCell (U (w+1+1) 8) K).setCell (U (w+1+1) 9) K) (by rw[a,i,r,y,E,G,M,A]);clear oL S Y V oK m R Q N J F z t o d A M G E y r i a pC pU pT;go_upto_region 4 with fail;rw[<-C.o];clear C pS pR pQ pP pO pN pM pL pK pJ pI pH pG pF pE f9;have a:=P.o.at_ wN.o 10 _ rfl;have y:(w:Nat)<qS:=Bl a;have R:=Lh (xZ.o.below (JT.below P.o.old));have Q:=Lh P.o.hi;go_upto_block 0 with (at_builtin;refine Xfr rfl 30 (.tmp 20) (.tmp 22) 37 85 rfl underlying37 Xca rfl δ δ (c:=c2) rfl rfl uF s.q7.length dc (s.q7.flatMap rdL) rfl R.o δ Q.o ?_;intro g rF sX tB r m L;have N:=Lh (ϟ r (ϟ m L));have A:=Lh (P.o.goN m L);have t:=A.o.st.p0 (j:=10) rfl;have i:=A.o.st.frz 10;clear r m L a y);let⟨o,d⟩:=ε (sX.setCell (U (w+1+1) 10) (X (D (U g 0)) s.q7 rF));rw[<-d];have a:=A.o.put0 (j:=10) (u:=X (D (U g 0)) s.q7 rF) (x:=Xbv s) (by have r:=Xfa (j:=10) N.o.1;rw[Xkx]at r;exact r);rw[<-d]at a;have M:=@Lh (CqA w vs s (.r 22 1 []) 0 0 0 0 0 (Xbv s) tB o) a;clear d a t i;go_cut[] (λo=>Hid (∃d,CqA w vs s (cX2 s) 0 0 0 0 0 (Xbv s) d o))
 .have:=sR.o.1.q6.1;go_wp2_with fail;go_loopw[4] (λd wr=>∃k:Nat,k<=s.q6.length/\d=O k/\Hid (∃kr,CqA w vs s (.r 22 1 ((s.q6.take k).map Xa3)) 0 0 0 0 0 (Xbv s) kr wr)) (λd _=>s.q6.length-(intOf d).toNat);exact⟨0,Nat.zero_le _,rfl,Lh ⟨tB,M.o⟩⟩
  obtain⟨k,uA,rfl,J⟩:=hrel;let⟨kr,a⟩:=J.o;have F:=Lh a;clear a;have x2:=F.o.at_ wN.o 2 _ rfl;by_cases yF:k<s.q6.length
  .obtain ⟨x,a⟩:=Ϡ s.q6 k yF
   let⟨qW,rA,y,o⟩:=yC.o.resolve_left (λe=>by rw[e]at a;simp at a);rw[y]at x2;let⟨vC,vD,d,i⟩:=o k x a;have z:=AB F.o.old d;have G:=Lh (i.below (JT.below F.o.old));have E:=Lh (Bl d);obtain⟨tP,tQ,_,t,-⟩:=X5.row1 F.o.st (j:=2) (n:=k) rfl (by simp[Nat.min_eq_left uA]) H;have:=In k;have:(k:Int)<(s.q6:Int):=H;have C:=Lh a;clear a o d i y;go_upto_region 8 with fail;refine wp_region_bel (λV h=>ϟ (AB h t) (ϟ (AB h x2) (AB h z))) [2,8,9,10,12] ϑ 13 rfl κ κ ?_;refine Xac ?_;refine Xic (p:=34) (j:=2) (srcb:=qW) (so:=rA+k) (kk:=k) 34 22 3 underlying34 Hj underlying22 Cx rfl δ δ F.o rfl (by simp[Nat.min_eq_left uA]) H t x2 z E.o G.o (λu0 u1 u2 u3 Vn rH a=>?_);simp only[Ap];have uR:=@Lh (CqA w vs s (.r 22 1 ((s.q6.take (k+1)).map Xa3)) 0 0 0 0 0 (Xbv s) rH Vn) (by
    have e:(s.q6.take k).map Xa3++[.q 3 1 (x.map (Value.int .i64))]=(s.q6.take (k+1)).map Xa3:=by rw[Xa2 C.o,List.map_append];rfl
    rw[<-e];exact a)
   clear a t z x2 J F C G E;go_wp2;go_roundw;exact⟨k+1,H,by go_num,Lh ⟨rH,uR.o⟩⟩;simp[intOf];omega
  have sD:k=s.q6.length:=H;subst sD;go_wp2;go_meet;have:=F.o;rw[List.take_length]at this;exact Lh ⟨kr,this⟩
 let⟨uC,L⟩:=hcut.o;have tX:=Lh L;clear L hcut A N R Q P M;go_wp2_with fail;go_loopw[5] (λd wr=>∃k:Nat,k<=s.q1.length/\d=O k/\Hid (∃kr,CqA w vs s (cX2 s) k k k k k (Xbv s) kr wr)) (λd _=>s.q1.length-(intOf d).toNat);exact⟨0,Nat.zero_le _,rfl,Lh ⟨uC,tX.o⟩⟩;obtain⟨k,yA,rfl,rZ⟩:=hrel;let⟨kr,a⟩:=rZ.o;have sY:=Lh a;clear a;have x5:=sY.o.at_ wN.o 5 _ rfl;by_cases yE:k<s.q1.length
 .obtain ⟨x,i⟩:=Ϡ s.q1 k yE
  obtain⟨sZ,ao,oK,-,⟨_,a,N,-⟩,Y,V,⟨_,S,M⟩,⟨_,Q,J⟩⟩:=yD.o.nth i;obtain⟨uV,uW,rfl⟩:=M.u1;obtain⟨uH,uI,rfl⟩:=J.u1;obtain⟨qP,qQ,rfl⟩:=N.u1;rw[oK]at x5;have pF:wr.cell? (U sZ (ao+k*13))=D (X qP x.run.J qQ):=AB sY.o.old (a 0 _ rfl);have pE:=Δ9 sY.o.old (a 1 _ rfl) (a 2 _ rfl) (a 3 _ rfl) (a 4 _ rfl) (a 5 _ rfl) (a 6 _ rfl) (a 7 _ rfl) (a 8 _ rfl) (Y);have pC:=Δ3 sY.o.old (V) (S) (Q);have:=In k;have:(k:Int)<(s.q1:Int):=H;have xO:=Lh i;let⟨xb,E⟩:=ε (wr:Nat);let⟨qH,y⟩:=ε (wr.alloc (Z #[X qP x.run.J qQ,O x.run.Q.K,O x.run.Q.O,O x.run.Q.D,O x.run.Q.V,O x.run.Q.X,O x.run.Y,O x.run.C,O x.run.I,O x.q8,O x.N,X uV x.q4 uW,X uH x.q2 uI] 62));have C:=bl1 y;let⟨G,A⟩:=ε (λb=>if b=xb then 14 else kr b:A1);have P:AT NO kr G wr qH:=by rw[A];exact AT.paint xb 14 C H
  have oL:=(Array.getElem?_eq_some_iff.1 (Xao y)).1;have z:=sY.o.goN P (λb qR=>by
   rw[A];show(if b=xb then 14 else kr b)=0;rw[if_neg H];exact sY.o.hi b (Nt C.size qR))
  have tA:=Lh z;have vP:Hid (XbL qH G xb [X qP x.run.J qQ,O x.run.Q.K,O x.run.Q.O,O x.run.Q.D,O x.run.Q.V,O x.run.Q.X,O x.run.Y,O x.run.C,O x.run.I,O x.q8,O x.N,X uV x.q4 uW,X uH x.q2 uI]):=Lh ⟨by rw[E];exact Xao y,by rw[A];exact if_pos rfl⟩;have wS:Hid (ϙ prog 114 #[.agg #[X qP x.run.J qQ,O x.run.Q.K,O x.run.Q.O,O x.run.Q.D,O x.run.Q.V,O x.run.Q.X,O x.run.Y,O x.run.C,O x.run.I]] qH (λe w'=>∃d o,e=.returned (.agg #[X d x.run.J o,O x.run.Q.K,O x.run.Q.O,O x.run.Q.D,O x.run.Q.V,O x.run.Q.X,O x.run.Y,O x.run.C,O x.run.I])/\CE qH (X d x.run.J o) x.run w')):=Lh ((Mc x.run (X qP x.run.J qQ) w qH z.old.size (N.ups Dx (Nr _) (JT.below z.old)) (sR.o.2.2.2 x (Lm i)) (sR.o.1.q1.2 x (Lm i)).2.2).mono (by
   rintro e w'⟨_,rfl,sG,R,sH,sI⟩;obtain⟨sB,sC,rfl⟩:=R.u1;exact⟨sB,sC,rfl,sG,R,sH,sI⟩))
  have xG:=Lh (Xiv M (sR.o.1.q1.2 x (Lm i)).1.1).2;have xP:=Lh (Xm6 J (sR.o.1.q1.2 x (Lm i)).1.2).2;have t:=Lh y;clear i oK a N Y V S Q M J C A P oL z y;go_upto_region 13 with fail;rw[<-E,<- t.o];clear t x5 pF pE pC E;have P:=Γ9 vP.o.cell;go_wp2_with fail;refine wS.o.mono ?_;rintro e S⟨pC,pE,rfl,z⟩;have y:=z.below;have t:AT NO G G qH S:=AT.ob y (no 0);have J:Xch x.run.J (mask S G) (X pC x.run.J pE):=by have r:=sR.o.2.2.2 x (Lm xO.o);have m:=(sR.o.1.q1.2 x (Lm xO.o)).2.2;have L:=z.fras (c:=G) tA.o.hi ⟨H,λf d=>by have:=m f d;omega⟩;unfold Xch;rw[Hk];exact L
  have E:=tA.o.goN t (λb qR=>tA.o.hi b (Nt y.size qR));have a:=vP.o.go t (no 14);have C:=a.cell 0 _ rfl;have N:=ϴ a.box;have M:=Γ9 a.cell;let⟨F,d⟩:=ε (Xaa S xb 0 [X pC x.run.J pE,O x.run.Q.K,O x.run.Q.O,O x.run.Q.D,O x.run.Q.V,O x.run.Q.X,O x.run.Y,O x.run.C,O x.run.I]);have o:AT (λB=>B=14) G G S F:=by rw[d];exact Xak a.lab H _ _ _
  have sQ:=Lh (E.goX o);have rX:=@Lh (XbL F G xb [X pC x.run.J pE,O x.run.Q.K,O x.run.Q.O,O x.run.Q.D,O x.run.Q.V,O x.run.Q.X,O x.run.Y,O x.run.C,O x.run.I,O x.q8,O x.N,X uV x.q4 uW,X uH x.q2 uI]) (by rw[d];exact a.puts9);have xB:=Lh (Xaj o ⟨Xan _,J⟩).2;have A:=Bl C;have i:=Lh d;clear z y t J E a d o P;go_upto_region 14 with fail;rw[puts9,<- i.o];clear i C M A N;have y:=rX.o.cell 11 _ rfl;have a:=rX.o.lt;have uD:=Lh (xG.o.below (JT.below sQ.o.old));have tN:=Lh sQ.o.hi;have tH:=@Lh (100+16*(k*13+11)+5≠0) H;go_upto_region 15 with (at_builtin;refine Xfr rfl (100+16*(k*13+11)+5) (.tmp 60) (.tmp 62) 37 85 rfl underlying37 Xca rfl δ δ (c:=G) rfl rfl uV x.q4.length uW (x.q4.flatMap rdL) rfl uD.o tH.o tN.o ?_;intro V Y C oK r m L;have wM:Hid (X6 C oK (100+16*(k*13+11)+5) (X (D (U V 0)) x.q4 Y) (rdQ x.q4)):=Lh ⟨_,r⟩;have sS:=Lh m;have uO:=Lh L;have t:=Lh (rX.o.go m (no 14));have A:=t.o.cell 11 _ rfl;have z:C.frozen? (U xb 11)=ϝ:=Fz t.o.box;have i:=t.o.lt;clear r m L y a);let⟨o,d⟩:=ε (C.setCell (U xb 11) (X (D (U V 0)) x.q4 Y));rw[<-d];have a:AT (λB=>B=14) oK oK C o:=by rw[d];exact AT.set t.o.lab H
  have sL:=Lh ((sQ.o.goN sS.o uO.o).goX a);have rJ:=@Lh (XbL o oK xb [X pC x.run.J pE,O x.run.Q.K,O x.run.Q.O,O x.run.Q.D,O x.run.Q.V,O x.run.Q.X,O x.run.Y,O x.run.C,O x.run.I,O x.q8,O x.N,X (D (U V 0)) x.q4 Y,X uH x.q2 uI]) (by rw[d];exact t.o.put 11 _);have wZ:=Lh (Xaj a (Xaj sS.o ⟨Xan _,xB.o⟩)).2;have xA:=Lh (wM.o.kp a (by show ¬_=14;omega));clear d a A z i;have i:=rJ.o.cell 12 _ rfl;have a:=rJ.o.lt;have uE:=Lh (xP.o.below (JT.below sL.o.old));have tO:=Lh sL.o.hi;have tK:=@Lh (100+16*(k*13+12)+5≠0) H;go_upto_region 16 with (at_builtin;refine Xfr rfl (100+16*(k*13+12)+5) (.tmp 65) (.tmp 67) 60 120 rfl underlying60 Xec rfl δ δ (c:=oK) rfl rfl uH x.q2.length uI (x.q2.flatMap wrL) rfl uE.o tK.o tO.o ?_;intro P Q E J r m L;have wO:Hid (X6 E J (100+16*(k*13+12)+5) (X (D (U P 0)) x.q2 Q) (wrQ x.q2)):=Lh ⟨_,r⟩;have rG:=Lh m;have uP:=Lh L;have y:=Lh (rJ.o.go m (no 14));have N:=y.o.cell 12 _ rfl;have A:E.frozen? (U xb 12)=ϝ:=Fz y.o.box;have z:=y.o.lt;clear r m L i a);let⟨M,i⟩:=ε (E.setCell (U xb 12) (X (D (U P 0)) x.q2 Q));rw[<-i];have a:AT (λB=>B=14) J J E M:=by rw[i];exact AT.set y.o.lab H
  have rC:=Lh ((sL.o.goN rG.o uP.o).goX a);have d:=@Lh (XbL M J xb [X pC x.run.J pE,O x.run.Q.K,O x.run.Q.O,O x.run.Q.D,O x.run.Q.V,O x.run.Q.X,O x.run.Y,O x.run.C,O x.run.I,O x.q8,O x.N,X (D (U V 0)) x.q4 Y,X (D (U P 0)) x.q2 Q]) (by rw[i];exact y.o.put 12 _);have xT:=Lh (Xaj a (Xaj rG.o ⟨Xan _,wZ.o⟩)).2;have xW:=Lh (wO.o.kp a (by show ¬_=14;omega));have xV:=Lh ((xA.o.kp rG.o (no _)).kp a (by show ¬_=14;omega));clear i a N A z;have oL:=Xj9 (f:=Xaz) (sz:=13) (l:=s.q1) (λ_=>rfl) yA;let⟨o,t,y,pF,E,C⟩:=rC.o.st.growG (j:=5) (n:=k) rfl oL H;have pU:=d.o.cell 0 _ rfl;have pT:=d.o.cell 1 _ rfl;have pS:=d.o.cell 2 _ rfl;have pR:=d.o.cell 3 _ rfl;have pQ:=d.o.cell 4 _ rfl;have pP:=d.o.cell 5 _ rfl;have pO:=d.o.cell 6 _ rfl;have pN:=d.o.cell 7 _ rfl;have pM:=d.o.cell 8 _ rfl;have pL:=d.o.cell 9 _ rfl;have pK:=d.o.cell 10 _ rfl;have pJ:=d.o.cell 11 _ rfl;have pI:=d.o.cell 12 _ rfl;have xL:=@Lh (Ao (M.alloc (Z #[X pC x.run.J pE,O x.run.Q.K,O x.run.Q.O,O x.run.Q.D,O x.run.Q.V,O x.run.Q.X,O x.run.Y,O x.run.C,O x.run.I,O x.q8,O x.N,X (D (U V 0)) x.q4 Y,X (D (U P 0)) x.q2 Q] 62)) J 25 62 13 (X o k t) k y) (E.kp (T:=NO) (AT.ob (AA _ _) (no 0)) (no _));have xK:=@Lh (∀(j:Nat) u,([X pC x.run.J pE,O x.run.Q.K,O x.run.Q.O,O x.run.Q.D,O x.run.Q.V,O x.run.Q.X,O x.run.Y,O x.run.C,O x.run.I,O x.q8,O x.N,X (D (U V 0)) x.q4 Y,X (D (U P 0)) x.q2 Q]:List ϒ)[j]?=D u->(M.alloc (Z #[X pC x.run.J pE,O x.run.Q.K,O x.run.Q.O,O x.run.Q.D,O x.run.Q.V,O x.run.Q.X,O x.run.Y,O x.run.C,O x.run.I,O x.q8,O x.N,X (D (U V 0)) x.q4 Y,X (D (U P 0)) x.q2 Q] 62)).cell? (U M j)=D u) (λj u a=>by rw[B6];simpa using a);have wY:=@Lh (∀b,(M.alloc (Z #[X pC x.run.J pE,O x.run.Q.K,O x.run.Q.O,O x.run.Q.D,O x.run.Q.V,O x.run.Q.X,O x.run.Y,O x.run.C,O x.run.I,O x.q8,O x.N,X (D (U V 0)) x.q4 Y,X (D (U P 0)) x.q2 Q] 62)).heap.size<=b->J b=0) (λb qR=>rC.o.hi b (by simp at qR;omega));have wP:=@Lh (∀u∈([X pC x.run.J pE,O x.run.Q.K,O x.run.Q.O,O x.run.Q.D,O x.run.Q.V,O x.run.Q.X,O x.run.Y,O x.run.C,O x.run.I,O x.q8,O x.N,X (D (U V 0)) x.q4 Y,X (D (U P 0)) x.q2 Q]:List ϒ),u.oneCell'=ϑ) (by simp[Value.oneCell']);have wL:=@Lh (k<=1000000) (by have:=sR.o.1.q1.1;omega);have vZ:=Lh pF;have i:=rC.o.st.2.1;have sW:=Lh i;have wR:=Lh C;have A:=rC.o.st.lt;have z:=d.o.lt;clear E C i;go_upto_block 4 with (at_builtin;refine Xi6 rfl 25 (.tmp 71) (.tmp 73) 35 62 rfl underlying35 Xef rfl δ δ (c:=J) rfl xL.o (M:Nat) [X pC x.run.J pE,O x.run.Q.K,O x.run.Q.O,O x.run.Q.D,O x.run.Q.V,O x.run.Q.X,O x.run.Y,O x.run.C,O x.run.I,O x.q8,O x.N,X (D (U V 0)) x.q4 Y,X (D (U P 0)) x.q2 Q] rfl rfl xK.o wP.o wL.o δ wY.o ?_;intro uY hF qI sU r m L;have wI:=Lh r;have rD:Hid (AT (λB=>B=25) J sU M qI):=Lh ((AT.ob (AA M _) H).trans m);have vW:=Lh L;have N:=rD.o.cell vZ.o (Ϟ sW.o ω);have pH:=rD.o.frozen rC.o.st.lt (rC.o.st.frz 5) (Ϟ sW.o ω);have pG:=Bl N;clear r m L pF pU pT pS pR pQ pP pO pN pM pL pK pJ pI A z);let⟨wW,A⟩:=ε (qI.setCell (U (w+1+1) 5) (X (D (U uY 0)) (k+1) hF));rw[<-A];let⟨z,i⟩:=wR.o NO M J qI sU [X pC x.run.J pE,O x.run.Q.K,O x.run.Q.O,O x.run.Q.D,O x.run.Q.V,O x.run.Q.X,O x.run.Y,O x.run.C,O x.run.I,O x.q8,O x.N,X (D (U V 0)) x.q4 Y,X (D (U P 0)) x.q2 Q] (Xaz x) _ (k+1) (AT.ob Br (no 0)) rC.o.hi (no _) (Xai λB _=>no B) rD.o vW.o wI.o rfl (λq u d a h=>by
   rw[oL]
   match q,a,h with
   |0,a,h=>cases a;cases h;exact⟨Xan _,xT.o⟩
   |1,a,h=>cases a;cases h;rfl
   |2,a,h=>cases a;cases h;rfl
   |3,a,h=>cases a;cases h;rfl
   |4,a,h=>cases a;cases h;rfl
   |5,a,h=>cases a;cases h;rfl
   |6,a,h=>cases a;cases h;rfl
   |7,a,h=>cases a;cases h;rfl
   |8,a,h=>cases a;cases h;rfl
   |9,a,h=>cases a;cases h;rfl
   |10,a,h=>cases a;cases h;rfl
   |11,a,h=>cases a;cases h;exact xV.o
   |12,a,h=>cases a;cases h;exact xW.o
   |q+13,a,h=>simp at a)
  rw[<-A]at z i;have wV:=@Lh (CqA w vs s (cX2 s) (k+1) k k k k (Xbv s) sU wW) (by
   have e:(s.q1.take k).flatMap Xaz++Xaz x=(s.q1.take (k+1)).flatMap Xaz:=by rw[Xa2 xO.o,List.flatMap_append];simp
   have r:=rC.o.go (T:=λB=>B=1\/B=25) z i (λB d=>by omega);rw[e]at r;exact r)
  clear A z i oL N pH pG;let⟨l,i⟩:=Ϡ s.A k (by have:=rY.o.1;omega);let⟨vN,vO,oL,N,_,A,z⟩:=yG.o.nth i;obtain⟨_,xE,rfl⟩:=z.u1;rw[Nat.mul_one]at A;let⟨wJ,xU,wK,wT,yB⟩:=Λ5 oL N A z i;have vR:=Lh (sR.o.1.A.2 l (Lm i));clear oL N A z i;go_cut[7] (λd t=>∃(lq:Option Addr)(o:Nat),d=X lq l o/\Hid (∃d,CqA w vs s (cX2 s) (k+1) k k k k (Xbv s) d t/\Xbz l (mask t d) (X lq l o)))
  .go_wp2_with fail;go_loopw[7,8] (λy i8 wr=>∃(d:Nat)(t:Option Addr)(o:Nat),d<=l.length/\y=X t d o/\i8=O d/\Hid (∃kq,CqA w vs s (cX2 s) (k+1) k k k k (Xbv s) kq wr/\Xf1 wr kq (X t d o) (l.take d))) (λ_ i8 _=>l.length-(intOf i8).toNat);exact⟨0,none,0,Nat.zero_le _,rfl,rfl,Lh ⟨sU,wV.o,Xf1.nil_ _ _⟩⟩
   obtain⟨N,xI,xH,xJ,rfl,rfl,z⟩:=hrel;let⟨kq,d,i⟩:=z.o;have qL:=Lh d;have xF:=Lh i;have x6:=d.at_ wN.o 6 _ rfl;rw[wJ.o]at x6;have A:=AB d.old wK.o;have:=In N;have:(k:Int)<(s.A:Int):=by have:=rY.o.1;omega
   clear d i z;by_cases xY:N<l.length
   .obtain ⟨x,i⟩:=Ϡ l N xY
    let⟨qN,qO,pK,pJ,pI,⟨_,pH,z⟩,pG⟩:=wT.o.nth i;obtain⟨uG,uJ,rfl⟩:=z.u1;rw[pK]at A;have pF:=AB qL.o.old pI;have oL:=AB qL.o.old pH;have:(N:Int)<(l:Int):=H;have:=vR.o.1;have uK:=Lh (Xav z (vR.o.2 x (Lm i))).2;have wU:=Lh pG;have wX:=Lh pJ;have xN:=Lh i;clear i pK pJ pI pH z pG;go_upto_region 21 with fail;refine wp_region_bel (λV h=>ϟ (AB h x6) (ϟ (AB h A) (ϟ (AB h pF) (AB h oL)))) [10,20,21,22,23,24] ϑ 25 rfl κ κ ?_;refine Xac ?_;have i:=Lh (ϟ x6 (ϟ A (ϟ pF oL)));clear x6 A pF oL;refine AH κ ?_;refine Xo0 rfl underlying22 Cx ?_;simp only[Ap];have z:Below wr wr (wr.drew.alloc (Z #[] 3)):=(AG Br 1).th (AA _ _);refine⟨.inl (Θ4 z i.o),?_⟩;refine AH κ ?_;refine Xhe (w0:=wr) 15 (.tmp 96) (.tmp 105) 22 3 rfl underlying22 Cx rfl δ δ (c:=kq) wr.drew.heap.size (Hn _ _) rfl z ψ uG x.args.length uJ (x.args.map (Value.int .i64)) rfl (uK.o.1.below (JT.below qL.o.old)) δ qL.o.hi (λE F y C r m L=>?_);simp only[Ap];let⟨ns,o,t⟩:=xF.o.add m wU.o (x:=x) ⟨r,uK.o.2⟩;rw[List.length_take,Nat.min_eq_left xJ]at o t;let⟨J,M,d,G⟩:=Λ4 o t m L;clear r m L o t z;refine⟨.inl ⟨d.o.cell i.o.1 (no _),d.o.cell i.o.2.1 (no _),d.o.cell i.o.2.2.1 (no _),d.o.cell i.o.2.2.2 (no _)⟩,?_⟩;refine AH κ ?_;go_simp;refine⟨⟨d.o.cell i.o.1 (no _),d.o.cell i.o.2.1 (no _),d.o.cell i.o.2.2.1 (no _),d.o.cell i.o.2.2.2 (no _)⟩,?_⟩;refine AH κ ?_;go_simp;have t:Below y y (y.alloc (Z #[.string x.proc,X (D (U E 0)) x.args F] 64)):=AA _ _;refine⟨⟨AB t (d.o.cell i.o.1 (no _)),AB t (d.o.cell i.o.2.1 (no _)),AB t (d.o.cell i.o.2.2.1 (no _)),AB t (d.o.cell i.o.2.2.2 (no _))⟩,?_⟩;refine AH κ ?_;refine Dz (λB=>B=16) (.tmp 86) (.tmp 108) 65 64 rfl underlying65 PX rfl δ δ (c:=C) (tag:=16) (v:=X xI N xH) (n:=N) (xs:=ns) rfl (J.o.kp (T:=NO) (AT.ob t (no 0)) (no _)) (U y 0) 1 1 [.string x.proc,X (D (U E 0)) x.args F] rfl rfl (λj u a=>by rw[GB,Nat.zero_add,B6];simpa using a) (by simp[Value.oneCell']) δ (by have:=vR.o.1;omega) rfl H (λb qR=>G.o b (by simp at qR;omega)) (λo y w2 c2 Q R S _=>?_);simp only[Ap];have o:=(AT.ob t H).trans R;have E:=M.o w2 c2 _ o Q;rw[<-Xa2 xN.o]at E;have z:=qL.o.goN d.o G.o;have P:=z.go (X5.kp o z.st S H (Xai λB y=>by omega)) o (λB y=>by omega);have y:∀b,b<(w:Nat)->C b≠16:=λb qR=>by rw[d.o.old b (Nl qR qL.o.old.size),qL.o.chg.old b qR,Mv qR];omega
    have M:C (w:Nat)≠16:=by rw[z.src.2];omega
    have J:=o.cell (d.o.cell i.o.1 (no _)) (by show ¬C _=16;exact M);have G:=o.cell (d.o.cell i.o.2.1 (no _)) (by show ¬C _=16;exact y _ xU.o);have F:=o.cell (d.o.cell i.o.2.2.1 (no _)) (by show ¬C _=16;exact y _ wX.o);have A:=o.cell (d.o.cell i.o.2.2.2 (no _)) (by show ¬C _=16;exact y _ wX.o);have uB:=Lh (ϟ P E);clear Q R S o E z P y M t;refine⟨.inl ⟨J,G,F,A⟩,?_⟩;clear J G F A;refine AH κ ?_;go_simp;refine BH ?_;clear i;go_wp2;go_roundw;exact⟨N+1,_,_,H,by go_num,by go_num,Lh ⟨c2,uB.o⟩⟩;simp[intOf];omega
   have sA:N=l.length:=H;subst sA;go_wp2;go_meet;have r:=xF.o;rw[List.take_length]at r;exact⟨xI,xH,ψ,Lh ⟨rcZ 15 16 kq,qL.o.rcz,r.done⟩⟩
  obtain⟨lq,A,rfl,oL⟩:=hcut;let⟨i,d,o⟩:=oL.o;have z:=Lh d;have xC:=Lh o;clear oL d o;let⟨t,y,C,oL,o,d⟩:=z.o.st.growG (j:=6) (n:=k) rfl (by have:=rY.o.1;simp;omega) H;have wE:=@Lh (Ao (wc.alloc (Z #[X lq l A] 65)) i 26 65 1 (X t k y) k C) (o.kp (T:=NO) (AT.ob (AA _ _) (no 0)) (no _));have vQ:=@Lh (∀(j:Nat) u,([X lq l A]:List ϒ)[j]?=D u->(wc.alloc (Z #[X lq l A] 65)).cell? (U wc j)=D u) (λj u a=>by rw[B6];simpa using a);have vB:=@Lh (∀b,(wc.alloc (Z #[X lq l A] 65)).heap.size<=b->i b=0) (λb qR=>z.o.hi b (by simp at qR;omega));have uQ:=@Lh (∀u∈([X lq l A]:List ϒ),u.oneCell'=ϑ) (by simp[Value.oneCell']);have sJ:=Lh z.o.st.2.1;have uZ:=Lh oL;have vV:=Lh d;have pF:=z.o.st.lt;clear o d;go_upto_region 23 with (at_builtin;refine Xi6 rfl 26 (.tmp 111) (.tmp 113) 29 65 rfl underlying29 Kl rfl δ δ (c:=i) rfl wE.o (wc:Nat) [X lq l A] rfl rfl vQ.o uQ.o wL.o δ vB.o ?_;intro uT uU pO rE r m L;have vJ:=Lh r;have qJ:Hid (AT (λB=>B=26) i rE wc pO):=Lh ((AT.ob (AA wc _) H).trans m);have uX:=Lh L;have pG:=qJ.o.cell uZ.o (Ϟ sJ.o ω);have pI:=qJ.o.frozen z.o.st.lt (z.o.st.frz 6) (Ϟ sJ.o ω);have pH:=Bl pG;clear r m L oL pF);let⟨vA,pF⟩:=ε (pO.setCell (U (w+1+1) 6) (X (D (U uT 0)) (k+1) uU));rw[<-pF];let⟨L,m⟩:=vV.o NO wc i pO rE [X lq l A] [.i (Xbz l)] _ (k+1) (AT.ob Br (no 0)) z.o.hi (no _) (Xai λB _=>no B) qJ.o uX.o vJ.o rfl (λq u d a h=>by
   match q,a,h with
   |0,a,h=>cases a;cases h;exact⟨Xeh _,xC.o⟩
   |q+1,a,h=>simp at a)
  rw[<-pF]at L m;have oL:=@Lh (CqA w vs s (cX2 s) (k+1) (k+1) k k k (Xbv s) rE vA) (by
   have e:((s.A.take k).map λl=>Xad.i (Xbz l))++[.i (Xbz l)]=(s.A.take (k+1)).map λl=>Xad.i (Xbz l):=by rw[Xa2 yB.o,List.map_append];rfl
   have r:=z.o.go (T:=λB=>B=1\/B=26) L m (λB a=>by omega);rw[e]at r;exact r)
  clear pF L m pG pI pH;have L:=oL.o.at_ wN.o 7 _ rfl;let⟨uL,a⟩:=Ϡ s.results k (by have:=rY.o.2.1;omega);let⟨qV,qZ,m,i⟩:=yH.o.resolve_left (λe=>by rw[e]at a;simp at a);let⟨vF,vI,d,h⟩:=i k _ a;rw[m]at L;have pG:=AB oL.o.old d;have wB:=Lh (h.below (JT.below oL.o.old));have vT:=Lh (Bl d);obtain⟨tR,tT,_,pF,-⟩:=X5.row1 oL.o.st (j:=7) (n:=k) rfl (by have:=rY.o.2.1;simp;omega) H;have pH:(k:Int)<(s.results:Int):=by have:=rY.o.2.1;omega
  have wD:=Lh a;clear a m i d h;go_upto_region 23 with fail;refine wp_region_bel (λV h=>ϟ (AB h pF) (ϟ (AB h L) (AB h pG))) [2,8,9,10,12] ϑ 13 rfl κ κ ?_;refine Xac ?_;refine Xic (p:=118) (j:=7) (srcb:=qV) (so:=qZ+k) (kk:=k) 36 127 114 underlying36 MU underlying127 JB rfl δ δ oL.o rfl (by have:=rY.o.2.1;simp;omega) (by have:=wL.o;omega) pF L pG vT.o wB.o (λu0 u1 u2 u3 d nE a=>?_);simp only[Ap];have m:=@Lh (CqA w vs s (cX2 s) (k+1) (k+1) (k+1) k k (Xbv s) nE d) (by
   have e:(s.results.take k).map Xg3++[.q 114 5 (Dk uL)]=(s.results.take (k+1)).map Xg3:=by rw[Xa2 wD.o,List.map_append];rfl
   unfold CqA;rw[<-e];exact a)
  clear a pF L pG pH;have pF:=m.o.at_ wN.o 8 _ rfl;let⟨uN,a⟩:=Ϡ s.Z k (by have:=rY.o.2.2.1;omega);let⟨qX,rB,o,i⟩:=yI.o.resolve_left (λe=>by rw[e]at a;simp at a);let⟨vH,vK,d,h⟩:=i k _ a;rw[o]at pF;have pH:=AB m.o.old d;have wC:=Lh (h.below (JT.below m.o.old));have vU:=Lh (Bl d);obtain⟨tU,tW,_,pG,-⟩:=X5.row1 m.o.st (j:=8) (n:=k) rfl (by have:=rY.o.2.2.1;simp;omega) H;have pI:(k:Int)<(s.Z:Int):=by have:=rY.o.2.2.1;omega
  have wG:=Lh a;clear a o i d h;go_upto_region 24 with fail;refine wp_region_bel (λV h=>ϟ (AB h pG) (ϟ (AB h pF) (AB h pH))) [2,8,9,10,12] ϑ 13 rfl κ κ ?_;refine Xac ?_;refine Xic (p:=130) (j:=8) (srcb:=qX) (so:=rB+k) (kk:=k) 34 22 3 underlying34 Hj underlying22 Cx rfl δ δ m.o rfl (by have:=rY.o.2.2.1;simp;omega) (by have:=wL.o;omega) pG pF pH vU.o wC.o (λu0 u1 u2 u3 h d a=>?_);simp only[Ap];have L:=@Lh (CqA w vs s (cX2 s) (k+1) (k+1) (k+1) (k+1) k (Xbv s) d h) (by
   have e:(s.Z.take k).map Xa3++[.q 3 1 ((List.map (Value.int .i64)) uN)]=(s.Z.take (k+1)).map Xa3:=by rw[Xa2 wG.o,List.map_append];rfl
   unfold CqA;rw[<-e];exact a)
  clear a pG pF pH pI;have pF:=L.o.at_ wN.o 9 _ rfl;let⟨uM,a⟩:=Ϡ s.P k (by have:=rY.o.2.2.2;omega);let⟨qU,qY,i,h⟩:=yJ.o.resolve_left (λe=>by rw[e]at a;simp at a);let⟨vE,vG,cQ,d⟩:=h k _ a;rw[i]at pF;have pH:=AB L.o.old cQ;have wA:=Lh (d.below (JT.below L.o.old));have vS:=Lh (Bl cQ);obtain⟨tS,tV,_,pG,-⟩:=X5.row1 L.o.st (j:=9) (n:=k) rfl (by have:=rY.o.2.2.2;simp;omega) H;have pI:(k:Int)<(s.P:Int):=by have:=rY.o.2.2.2;omega
  have wF:=Lh a;clear a i h cQ d;go_upto_region 25 with fail;refine wp_region_bel (λV h=>ϟ (AB h pG) (ϟ (AB h pF) (AB h pH))) [2,8,9,10,12] ϑ 13 rfl κ κ ?_;refine Xac ?_;refine Xic (p:=142) (j:=9) (srcb:=qU) (so:=qY+k) (kk:=k) 34 22 3 underlying34 Hj underlying22 Cx rfl δ δ L.o rfl (by have:=rY.o.2.2.2;simp;omega) (by have:=wL.o;omega) pG pF pH vS.o wA.o (λu0 u1 u2 u3 d rI a=>?_);simp only[Ap];have uS:=@Lh (CqA w vs s (cX2 s) (k+1) (k+1) (k+1) (k+1) (k+1) (Xbv s) rI d) (by
   have e:(s.P.take k).map Xa3++[.q 3 1 ((List.map (Value.int .i64)) uM)]=(s.P.take (k+1)).map Xa3:=by rw[Xa2 wF.o,List.map_append];rfl
   unfold CqA;rw[<-e];exact a)
  clear a pG pF pH pI;have:=wL.o;go_wp2;go_roundw;exact⟨k+1,H,by go_num,Lh ⟨rI,uS.o⟩⟩;simp[intOf];omega
 have sF:k=s.q1.length:=H;subst sF;have a:X5 wr kr 39 (w+1+1) (Xag s):=by have r:=sY.o.st;rw[List.take_length,List.take_of_length_le (by have:=rY.o.1;omega),List.take_of_length_le (by have:=rY.o.2.1;omega),List.take_of_length_le (by have:=rY.o.2.2.1;omega),List.take_of_length_le (by have:=rY.o.2.2.2;omega)]at r;exact r
 obtain⟨-,xD,_,vM,sV⟩:=a;obtain⟨pF,pG,pH,pI,pJ,pK,pL,pM,pN,pP,pQ,pR,pS,pT,pU,pV,pW,pX,pY,pZ,qA,qB,qC,qD,qE,qF,qG,rfl⟩:=sV.shape;have:=ϵ vM;have:=ϵ (show wr.heap[(w:Nat)+1]?=D (Z #[K,K,K,O 0,O 0,K,K,K,K,K,K,O 0,O 0] 39 (0,0))from sY.o.res.1);have:=ϴ sY.o.res.1;have o:=Xab (show wr.heap[(w:Nat)+1]?=D (Z #[K,K,K,O 0,O 0,K,K,K,K,K,K,O 0,O 0] 39 (0,0))from sY.o.res.1) (X pF pG pH) (X pI pJ pK) (X pL pM pN) (O s.q3) (O s.Y) (X pP pQ pR) (X pS pT pU) (X pV pW pX) (X pY pZ qA) (X qB qC qD) (X qE qF qG) (O s.q5) (O s.U);have d:AT (λB=>B=2) kr kr wr (Xaa wr ((w:Nat)+1) 0 [X pF pG pH,X pI pJ pK,X pL pM pN,O s.q3,O s.Y,X pP pQ pR,X pS pT pU,X pV pW pX,X pY pZ qA,X qB qC qD,X qE qF qG,O s.q5,O s.U]):=Xak sY.o.res.2 H _ _ _;let⟨WE,h⟩:=ε (Xaa wr ((w:Nat)+1) 0 [X pF pG pH,X pI pJ pK,X pL pM pN,O s.q3,O s.Y,X pP pQ pR,X pS pT pU,X pV pW pX,X pY pZ qA,X qB qC qD,X qE qF qG,O s.q5,O s.U]);rw[<-h]at o d;have m:=sV.kp d (Xai λB a=>by omega);have a:=sY.o.chg.trans (d.mono (λB i=>by unfold Xa6;omega) tn0);have i:=λb qR=>sY.o.hi b (Nt d.size qR);have vL:Hid (ly s c w (.returned (.agg #[X pF pG pH,X pI pJ pK,X pL pM pN,O s.q3,O s.Y,X pP pQ pR,X pS pT pU,X pV pW pX,X pY pZ qA,X qB qC qD,X qE qF qG,O s.q5,O s.U])) WE):=Lh ⟨[X pF pG pH,X pI pJ pK,X pL pM pN,O s.q3,O s.Y,X pP pQ pR,X pS pT pU,X pV pW pX,X pY pZ qA,X qB qC qD,X qE qF qG,O s.q5,O s.U],_,rfl,Xhj a m,Xd7 a Xg5,Xe6 a i⟩;have sT:=Lh o;have sK:=Lh h;clear xD vM sV o d m a i h;go_wp2_with fail;rw[Xaf,<- sK.o];exact ϖ (Xa7 (p:=2) rfl sT.o _ rfl) rfl vL.o