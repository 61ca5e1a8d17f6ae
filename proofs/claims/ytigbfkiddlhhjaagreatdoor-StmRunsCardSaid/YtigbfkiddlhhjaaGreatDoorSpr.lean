import Derived.Test.YtigbfkiddlhhjaaGreatDoorRu
import Derived.Test.YtigbfkiddlhhjaaGreatDoorSop
set_option maxHeartbeats 8000000
set_option maxRecDepth 100000
set_option linter.all false
open Go renaming World→Ϣ,Value→ϒ,Calls→ϙ,bodyPost_ret→ϖ,heap_setCell_same→ϡ
open Go.RowKit renaming Below→ϐ
open Option renaming some→D
open Bool renaming false→ϝ,true→ϑ
open And renaming intro→ϟ
open List renaming replicate→ϱ
open Go.Value renaming slice→U
open Go.Obj renaming cells→Z
namespace Go.Proofs.YtigbfkiddlhhjaaGreatDoor
open Go.RowKit Proofs.Tryz
open Go.RowKit renaming ι→X,π→H,ω→K,ν→I
variable{α:Type}{cd:AQ}{cv u v:ϒ}{B k bt i n ab cap n2 o b:Nat}{w0 w w' w1:Ϣ}{c c1:A1}{y:Int×Int×Int}{s:Tra}{x:Trx}{r:Rq}
def StartF(c:AQ)(x:Bi)(fuel:Int)(w:Ϣ)(e:Ending)(w':Ϣ):Prop:=∃m' fv,Cf c (CF c x fuel) m'/\e=.returned (.tuple #[AJ fv m',X 0])/\CE w fv m' w'
def startf_any(c:AQ)(x:Bi)(fuel:Int)(cv h:ϒ)(B:Nat)(w:Ϣ)(S:B<=w)(C:BF B w cv c)(eU:Gh B w h x)(hs:AU c)(gN:Bv c)(i:AS c x fuel=0) :
  ϙ prog 139 #[cv,h,X fuel] w (StartF c x fuel w):=by
 have eT:=Lh C;obtain⟨_,_,rfl,f,fV,g⟩:=C;obtain⟨gI,gJ,rfl⟩:=f.u1;obtain⟨fO,gA,rfl⟩:=fV.u1;obtain⟨_,rfl,a,_⟩:=eU;obtain⟨eP,fN,rfl⟩:=a.u1;have gF:=Lh fV;have fF:=Lh a;let⟨gH,e⟩:=ε c.H.length;let⟨gG,d⟩:=ε c.G;rw[<-e,<- d]at eT ⊢;clear f fV a e d g;let⟨q,_⟩:=OX i;let⟨k,fJ,y,o,e,l,m,_,cQ,fZ,d⟩:=PG hs i;have gE:=@Lh (x.args.any (λn=>!Af n)=ϝ) (List.any_eq_false.2 (λn h=>by simp[Aq.2 (d n (List.mem_append_left _ h))]));let⟨fU,fX,gO,fZ,gM⟩:=Λ5 o e cQ fZ d;have fB:=(Ll e);have gD:=Lh m;have fY:=Lh l.symm;let⟨G,a⟩:=ε (((w.alloc (Z #[U gI gH gJ,X gG,U fO c.q0 gA] 25)).alloc (Z #[.string x.proc,U eP x.args fN] 64)).alloc (Z #[I,X 0,X 0,X 0,X 0,X 0,X 0,X 0,X 0] 59));have j:=bl3 a;have h:=sz3 a;have g:=Xf2 a;have f:=Xhh a;have z:Kz G _:=Xbs a;have j:=Lh j;have h:=Lh h;have z:=Lh z;have fK:=Lh (eT.o.below (j.o.mono S));have:=θ (fuel<0);have:=θ (1048576<fuel);have eY:B<=G:=by have:=h.o;omega
 clear q o e l m cQ d i;go_in;go_upto_region 3 with fail;rw[<-a];have:=Lh a;clear a;let⟨d,eK,eL⟩:=Γ3 g;let⟨eI,eJ⟩:=Γ2 f;clear g f;go_wp2_with fail;refine(NL c _ x.proc B G eY fK.o).mono ?_;rintro h w1⟨rfl,a⟩;have d:=Δ5 a d eK eL eI eJ;have fT:=Lh (z.o.kp a);have eG:=Lh (j.o.th a);clear a;rw[show Dh c x.proc=k from fU.o];let⟨Y,eC,g,_,_,_,a⟩:=gF.o;obtain⟨rfl,rfl⟩:fO=Y/\gA=eC:=by simpa using g
 rcases a with eW|⟨gK,gL,rfl,eE,a⟩
 .rw [eW]at fB;simp at fB
 have e:=(a k y fX.o).below (eG.o.mono S) eE;let⟨dZ,eB,f,_,_,_,M⟩:=fF.o;obtain⟨rfl,rfl⟩:eP=dZ/\fN=eB:=by simpa using f
 have m:=e.2.1;have l:=e.2.2.1;have:=In k;have:(k:Int)<(c.q0:Int):=K;have:=θ ((k:Int)<0);clear g f a M e;have a:=fY.o;have:((x.args:Int) !=y.params)=ϝ:=by simp[a]
 rw[<-a]at m;clear a;go_wp2_with fail;go_quiet(fail);have i:=Lh (AG eG.o nq);have eH:=Lh (fF.o.ints (i.o.mono S));go_wp2_with fail;refine(BT 163 #[] (λn=>!Af n) x.args _ B _ L2 (Nt S i.o.size) eH.o (Su _)).mono ?_;rintro h eN⟨rfl,a⟩;have fR:=Lh ((show Kz (w1.drewN nq) _ from fT.o).kp a);have eR:=Lh (i.o.th a);have fS:=Lh (fF.o.ints (eR.o.mono S));rw[gE.o];let⟨n,e⟩:=ε (x.args.length+fJ:Nat);have eV:=Lh e;have z:=@Lh (y.L=(n:Int)) (by have:=gD.o;omega);have:n<=1000:=K;clear e;have i:(w1.drewN nq).cell? _=_:=d.2.2.1;have h:(w1.drewN nq).cell? _=_:=d.2.2.2.2;have g:(w1.drewN nq).cell? _=_:=l;have f:(w1.drewN nq).cell? _=_:=d.1;have e:(w1.drewN nq).cell? _=_:=d.2.1;let⟨fA,fE,N,F,j⟩:=Δ5 a f e i h g;rw[z.o]at j;have:=Bl N;have:=Bl F;clear d m l i h g f e a;have:=λh=>FK h n K;go_upto_region 11 with fail;let⟨eQ,l⟩:=ε (eN.alloc (Z (Ad (ϱ n 0)) 3));let⟨f,a⟩:=ε (eN:Nat);have eX:=Lh (bl1 l);have gC:=@Lh (eQ.heap[f]?=D (Z ((ϱ n 0).map (Value.int .i64)).toArray 3 (0,0))) (by rw[l,a];exact Hn _ _);have o:=fS.o.ints ((eX.o.mono (Nt S eR.o.size)));have gB:Hid (0<(x.args.map (Value.int .i64)).length->D ((H f 0):Addr)=D (H f 0)/\∃i,eP=D i/\∀h v,(x.args.map (Value.int .i64))[h]?=D v->eQ.cell? (i.add h)=D v):=Lh (λt=>by
  let⟨W,eA,eD,_,_,_,M⟩:=o;obtain⟨rfl,rfl⟩:eP=W/\fN=eA:=by simpa using eD
  rcases M with eW|⟨_,_,rfl,_,M⟩
  .rw [eW]at t;simp at t
  refine⟨rfl,_,rfl,λA v d=>?_⟩;rw[List.getElem?_map]at d;cases fM:x.args[A]? with
  |none=>rw[fM]at d;simp at d
  |some u=>
   rw[fM]at d;simp at d;subst d;have:=(M A u fM).1;rw[Nat.mul_one]at this;rw[Qt];exact this)
 rw[<-l,<- a];let⟨fA,fE,N,F⟩:=Δ4 eX.o fA fE N F;have:=Bl N;have:=Bl F;have P:(w:Nat)<f:=by rw[a];assumption
 have:(w:Nat)+1<f:=by rw[a];assumption
 have m:(x.args.map (Value.int .i64)).length=Nat.min x.args.length n:=by have:=eV.o;rw[List.length_map];exact(Nat.min_eq_left K).symm
 have g:0+(x.args.map (Value.int .i64)).length<=((ϱ n 0).map (Value.int .i64)).length:=by have:=eV.o;simp;omega
 have e:∀v∈x.args.map (Value.int .i64),v.oneCell'=ϑ:=λv s=>by rw[List.mem_map]at s;obtain⟨_,_,rfl⟩:=s;rfl
 let⟨fC,fH,fI,eS⟩:=Λ4 m g e a;clear l a o m g e;go_wp2_with(with_reducible refine wpList_copy_splice rfl (.tmp 50) (.tmp 52) 22 22 rfl 3 underlying22 Jh (D (H f 0)) eP n n x.args.length fN rfl rfl f 0 ((ϱ n 0).map (Value.int .i64)) 3 gC.o (x.args.map (Value.int .i64)) fC.o gB.o fH.o fI.o f eQ Br (Nr _) ?_;intro e eZ g;have m0:=(g.cell (p:=(H w 0)) P).trans fA;have:=(g.cell (p:=(H w 1)) P).trans fE;have:=(g.cell (p:=(H w 2)) P).trans N;have fL:=Lh g;have:=Bl m0;clear g);have h:Hid (e.heap[f]?=D (Z (Ad (x.args++ϱ fJ 0)) 3 (0,0))):=by
  have d:=eZ.o;have g:splice ((ϱ n 0).map (Value.int .i64)) 0 (x.args.map (Value.int .i64))=(x.args++ϱ fJ 0).map (Value.int .i64):=by unfold splice;rw[eV.o];simp
  rw[g]at d;exact Lh d
 have s:=Lh ((eR.o.th eX.o).trans (fL.o.mono (by rw[eS.o];exact eR.o.size)));let⟨j,a⟩:=ε ((e.alloc (Z #[X (k:Int),X 0,U (D (H f 0)) n n,I] 150)).alloc (Z #[U (D (H e 0)) 1 1,X 0,X 0,X 0,X 0,X 0,X fuel,X 0,X 0] 59));have g:=Lh (bl2 a);have i:(x.args++ϱ fJ 0).length=n:=by rw[List.length_append,List.length_replicate];exact eV.o.symm
 have d:=(La h.o);have t:=@Lh (Ak j (e+1) ⟨[⟨(k:Int),0,x.args++ϱ fJ 0,[]⟩],Eg,fuel,0,0⟩ [(e:Nat)+1,(e:Nat),f]) (Ab.2 ⟨_,[(e:Nat),f],Xcm a,UQ (Xct a) (by rw[g.o.block f d];exact h.o) i.symm K (λn d=>(gM.o n d).in64) ⟨K,K⟩ K,rfl,by simp;omega⟩);have d:∀b∈[(e:Nat)+1,(e:Nat),f],(w:Nat)<=b:=λb h=>by simp at h;omega
 have j:=Lh (λb h=>Nt S (d b h));have E:=Lh (s.o.th g.o);have h:=Lh (gF.o.funs (E.o.mono S));have Q:=Lh (Kz.kp (w:=e) ((fL.o.block _ (by rw[eS.o];exact(La fR.o))).trans (fR.o.kp eX.o)) g.o);have:(w:Nat)+1+1<f:=by have g:=(La fR.o);rw[eS.o];exact g
 have eF:(w:Nat)+1+1∉[(e:Nat)+1,(e:Nat),f]:=λf=>by simp at f;omega
 rw[<-a];have eM:=Lh d;clear a d i;refine(KW hs gN gI (D (H gK gL)) gH gJ gA gG fZ.o t.o B j.o h.o).mono ?_;rintro d J⟨rfl,a,_,fG,fD,o⟩;let⟨_,fQ,T,l,V,fW⟩:=Ab.1 fD;obtain⟨q,r,rfl⟩:=l.u1;let⟨m,d⟩:=ε a.J.length;rw[<-d]at T l;clear d;have d:=@Lh (Kz J (w+1+1)) ((o.block _ (La Q.o) eF).trans Q.o);have:=ϵ d.o;have rf:=ϴ d.o;have:=(La d.o);have:=ϵ (show J.heap[e.heap.size+1]?=D (Z #[U q m r,X a.Q.K,X a.Q.O,X a.Q.D,X a.Q.V,X a.Q.X,X a.Y,X a.C,X a.I] 59 (0,0))from T);have L:=Lh (AZ (R:=(w:Nat)+1+1) (fv0:=I) (m0:=AI) d.o (U q m r) a);have h:=o.notin (La Q.o) eF;have g:=o.ge eM.o E.o.size;have f:=E.o.trans (o.below eM.o E.o.size);have fP:Hid (CE w (U q m r) a (Ai J (w+1+1) (U q m r) a)):=Lh ⟨fQ,l.kp (λb d=>L.o.2.block b (l.lt b d) (λe=>h (by rw[List.mem_singleton]at e;rw[V];exact List.mem_cons_of_mem _ (e▸d)))),λb d=>g b (by rw[V];exact List.mem_cons_of_mem _ d),f.trans (L.o.2.below (λb d=>by simp at d;omega) f.size)⟩;have eO:=@Lh (Cf c (CF c x fuel) a) (by rw[gO.o];exact fG);clear T l fD o fG g f h eF V fW;go_wp2;exact ϖ (v:=.tuple #[AJ (U q m r) a,X 0]) (Bp (p:=6) (u:=7) rfl L.o.1 _ _ rfl rfl) rfl ⟨a,_,eO.o,rfl,fP.o⟩
def Startf_any(c:AQ)(x:Bi)(fuel:Int)(cv h:ϒ)(B:Nat)(w:Ϣ)(bH:C8 w)(t:B<=w)(m:BF B w cv c)(s:Gh B w h x)(hs:AU c)(bL:Bv c)(bK:AS c x fuel=0) :
  ϙ prog 105 #[cv,h,X fuel] w (StartF c x fuel w):=by
 have z:=Lh m;have bJ:=Lh s;obtain⟨_,_,rfl,C,E,_⟩:=m;obtain⟨aZ,bA,rfl⟩:=C.u1;obtain⟨Y,aY,rfl⟩:=E.u1;obtain⟨_,rfl,A,_⟩:=s;obtain⟨V,W,rfl⟩:=A.u1;let⟨m,d⟩:=ε c.H.length;let⟨h,a⟩:=ε c.G;rw[<-d,<- a]at z ⊢;clear d a;let⟨l,a⟩:=ε (((w.alloc (Z #[U aZ m bA,X h,U Y c.q0 aY] 25)).alloc (Z #[.string x.proc,U V x.args W] 64)).alloc (Z #[I,X 0,X 0,X 0,X 0,X 0,X 0,X 0,X 0] 59));have e:=bl3 a;have h:=sz3 a;have bD:=Xf2 a;have bE:=Xhh a;have i:Kz l _:=Xbs a;have e:=Lh e;have h:=Lh h;have i:=Lh i;have bC:=Lh (z.o.below (e.o.mono t));have aX:=Lh (bH.below e.o);have S:B<=l:=by have:=h.o;omega
 go_in;go_upto_region 1 with fail;rw[<-a];clear a;let⟨j,L,M⟩:=Γ3 bD;let⟨F,G⟩:=Γ2 bE;go_wp2_with fail;refine(Hc c _ B l aX.o S bC.o).mono ?_;rintro h w1⟨rfl,a⟩;have j:=Δ5 a j L M F G;have Q:=Lh (i.o.kp a);have d:=Lh (e.o.th a);have P:=Lh (z.o.below (d.o.mono t));have J:=Lh (bJ.o.below (d.o.mono t));rw[CZ hs];go_wp2_with fail;refine(startf_any c x fuel _ _ B w1 (Nt t d.o.size) P.o J.o hs bL bK).mono ?_;rintro bI T⟨g,_,N,rfl,bB,f,y,k⟩;obtain⟨q,r,rfl⟩:=f.u1;let⟨o,a⟩:=ε g.J.length;rw[<-a]at f ⊢;clear a;have:=(La Q.o);have bG:=Lh N;have bF:Hid (∀a,AW [(w:Nat)+1+1] [(w:Nat)+1+1] T a->CE w (U q o r) g a):=Lh λa e=>⟨bB,f.kp (λb a=>e.block b (f.lt b a) (λf=>by have:=y b a;rw[List.mem_singleton]at f;omega)),λb a=>Nt d.o.size (y b a),(d.o.th k).trans (e.below (λb a=>by simp at a;omega) (d.o.th k).size)⟩;have a:=Lh (Q.o.kp k);have:=ϵ a.o;have rf:=ϴ a.o;have:=(La a.o);have n:=Lh (AZ (R:=(w:Nat)+1+1) (fv0:=I) (m0:=AI) a.o (U q o r) g);unfold AJ AC;go_wp2;exact ϖ (v:=.tuple #[AJ (U q o r) g,X 0]) (Bp (p:=6) (u:=7) rfl n.o.1 _ _ rfl rfl) rfl ⟨g,_,bG.o,rfl,bF.o _ n.o.2⟩
structure Xbl(cd:AQ)(cv:ϒ)(B:Nat)(w0 w:Ϣ)(c:A1):Prop where
 l0:C8 w0
 b0:(w0:Nat)=B
 bel:ϐ B w0 w
 q9:BF B w cv cd
 low:∀b,b<B->¬NZ (c b)
def Xbl.go{c':A1}(a:Xbl cd cv B w0 w c)(e:AT NZ c c' w w'):Xbl cd cv B w0 w' c':=by
 have d:B<=w:=by rw[<-a.b0];have:=a.bel.size;omega
 have b:=e.belowN a.low d;exact⟨a.l0,a.b0,a.bel.trans b,a.q9.below b,e.lowN a.low d⟩
def Xbl.laid(a:Xbl cd cv B w0 w c):C8 w:=a.l0.below (by rw[a.b0];exact a.bel)
def Xbl.size(a:Xbl cd cv B w0 w c):B<=w:=by rw[<-a.b0];have:=a.bel.size;omega
def Xbl.grow(b:Xbl cd cv B w0 w c)(a:ϐ w w w'):Xbl cd cv B w0 w' c:=b.go (AT.ob a Qx)
def Xm0(c:A1)(bt:Nat)(s':Tra)(w w':Ϣ):Prop:=∃c',SAt w' c' bt s'/\AT NZ c c' w w'
def Xpq(cd:AQ)(s:Tra)(i bt:Nat)(c:A1)(w:Ϣ)(e:Ending)(w':Ϣ):Prop:=e=.returned (.tuple #[])/\∃y,Xg6 cd s i y/\Xm0 c bt {s with q1:=s.q1.set i y} w w'
def Xha(cd:AQ)(A E:Option Addr)(z C B:Nat)(s:Tra)(c:A1)(bt i:Nat)(x0:Trx)(x:Bi)(eZ:List Bi)(w0 w:Ϣ)(cV:Xbl cd (.agg (Bc A z E C cd)) B w0 w c)(v:Bv cd)(hs:AU cd)(cU:SAt w c bt s)(cT:s.q1[i]?=D x0)(hl:s.A[i]?=D (x::eZ))(u:AS cd x s.Y=0) :
  ϙ prog 73 #[.agg (Bc A z E C cd),.pointer (D (H bt 0)),X i] w (Xpq cd s i bt c w):=by
 let⟨e,a⟩:=ε (w.alloc (Z (Bc A z E C cd) 25));have eX:=Lh (bl1 a);have eS:=Lh (sz1 a);have cS:=Xao a;let⟨t,cP,cR⟩:=Ω3 cS;have dN:=Lh (cV.grow eX.o);have y:=Lh (cU.grow eX.o);let⟨dX,eW,_,f,q,cX⟩:=y.o.viewC hl;obtain⟨_,eY,rfl⟩:=q.u1;obtain⟨W,Y,rfl,cW,⟨n,⟨_,g,l⟩,cO⟩⟩:=q.nth (k:=0) rfl;rw[Nat.zero_mul,Nat.add_zero]at n g;obtain⟨dB,dC,rfl⟩:=l.u1;have u0:=JT.mask e c _ _ n;have u1:=JT.mask e c _ _ g;have V:=f.hd;have T:=f.el;have R:=y.o.p0 (j:=4) rfl;have eU:Hid (∀h,ϐ e e h->ϙ prog 105 #[.agg (Bc A z E C cd),.agg #[.string x.proc,U dB x.args dC],X s.Y] h (λJ w'=>∃d m r,Cf cd (CF cd x s.Y) d/\J=.returned (.tuple #[.agg #[U m d.J r,X d.Q.K,X d.Q.O,X d.Q.D,X d.Q.V,X d.Q.X,X d.Y,X d.C,X d.I],X 0])/\CE h (U m d.J r) d w')):=Lh (λh m=>by
  have r:=(JT.mask e c).trans (JT.below m);have d:=dN.o.grow m;refine(Startf_any cd x s.Y _ _ (h:Nat) h d.laid (Nr _) (d.q9.up d.size) ⟨_,rfl,l.ups B5 (by rw[Hk];exact m.size) r,cO⟩ hs v u).mono ?_;rintro h w'⟨N,_,P,Q,d⟩;let⟨L,o,M⟩:=d;obtain⟨F,G,rfl⟩:=o.u1;exact⟨N,F,G,P,Q,L,o,M⟩)
 have:=In i;have cY:(i:Int)<(s.A:Int):=K;have p:(w:Nat)<e:=Bl t;have S:=Lh (ϟ cT (ϟ hl (ϟ u (ϟ hs v))));have cN:=f.lt;have eV:=y;have fD:=eS;have fE:=Lh (y.o.lt);have cM:W<e:=Bl u0;clear cV v hs cU cT hl u cS f q cX cW n g l cO;go_in;go_upto_region 1 with fail;rw[<-a];clear a;have eR:=Lh (ϟ p (ϟ p cM));have fC:=Lh cN;go_cut[6] (λy o=>∃(h:Nat)(d:AV)(r:Option Addr)(m:Nat),y=.pointer (D (H h 0))/\Hid (Cf cd (CF cd x s.Y) d)/\Hid (CE e (U r d.J m) d o/\o.heap[h]?=D (Z (AC (U r d.J m) d) 59 (0,0))/\(e:Nat)<=h))
 .refine wp_region_bel (λh W=>ϟ (AB W t) (ϟ (AB W cP) (ϟ (AB W cR) (ϟ (AB W V) (ϟ (AB W T) (ϟ (AB W u0) (ϟ (AB W u1) (AB W R)))))))) [14,15,16,17,18,19,20] ϑ 21 rfl κ κ ?_;refine Xac ?_;have v:=Lh (ϟ t (ϟ cP (ϟ cR (ϟ V (ϟ T (ϟ u0 (ϟ u1 R)))))));clear t cP cR V T u0 u1 R p cM cN cY;refine GW [_,_,_] ?_;refine Dv κ κ ?_ ?_
  .go_simp
   refine(eU.o _ (AG Br 1)).mono ?_;rintro dU w1⟨dJ,dK,dL,f,rfl,a⟩;have d:=(AG Br 1).th a.below;have dF:=Lh f;have dI:=Lh a;have l:=Lh d;clear f a d;refine⟨Θ8 l.o v.o,?_⟩;refine De ?_
   (refine' Ae κ _ (λd a=>?_) ?_;rotate_left;(clear a;go_simp);(try with_reducible rfl);try simp only[Ap])
   refine De ?_
   (refine' Ae κ _ (λd a=>?_) ?_;rotate_left;(clear a;go_simp);(try with_reducible rfl);try simp only[Ap])
   refine De ?_
   (refine' Ae κ _ (λd a=>?_) ?_;rotate_left;(clear a;go_simp);(try with_reducible rfl);try simp only[Ap])
   refine AH κ ?_;go_simp;refine⟨Θ8 (l.o.th (AA _ _)) v.o,?_⟩;refine AH κ ?_;go_simp;refine⟨Θ8 (l.o.th (AA _ _)) v.o,?_⟩;refine AH κ ?_;go_simp;refine BH ?_;go_wp2;go_meet;refine⟨_,dJ,dK,dL,rfl,dF,Lh ⟨?_,Hn _ _,l.o.size⟩⟩;let⟨h,d,m,_⟩:=dI.o;exact⟨h,d.kp (λb h=>Ha _ _ _ (d.lt b h)),m,l.o.th (AA _ _)⟩
  go_simp;refine⟨Θ8 (AA _ _) v.o,?_⟩;let⟨h,d⟩:=ε ((e.alloc (Z #[I,X 0,X 0,X 0,X 0,X 0,X 0,X 0,X 0] 59)).drew);have V:=@Lh (ϐ e e h) (by rw[d];exact Cb _ _);have T:=@Lh (h.heap[(e:Nat)]?=D (Z #[I,X 0,X 0,X 0,X 0,X 0,X 0,X 0,X 0] 59 (0,0))) (by rw[d];exact Hn e _);rw[<-d];clear d;refine AH κ ?_;go_simp;refine(eU.o _ V.o).mono ?_;rintro dV w1⟨R,cN,cO,n,rfl,f⟩;have h:=V.o.th f.below;have eK:=Lh n;have eM:=Lh f;have u:=Lh h;have d:w1.heap[(e:Nat)]?=D (Z #[I,X 0,X 0,X 0,X 0,X 0,X 0,X 0,X 0] 59 (0,0)):=by rw[f.below.block _ (La T.o)];exact T.o
  have dR:=Lh d;clear n f h;refine⟨Θ8 u.o v.o,?_⟩
  (refine' Ae κ _ (λh a=>?_) ?_;rotate_left;(clear a;go_simp);(try with_reducible rfl);try simp only[Ap])
  (refine' Ae κ _ (λh a=>?_) ?_;rotate_left;(clear a;go_simp);(try with_reducible rfl);try simp only[Ap])
  (refine' Ae κ _ (λh a=>?_) ?_;rotate_left;(clear a;go_simp);(try with_reducible rfl);try simp only[Ap])
  have n:=Ω9 d;have m:=ϴ d;have l:(w:Nat)≠(e:Nat):=by have:=eR.o.1;have:=fD.o;omega
  have h:bt≠(e:Nat):=by have:=fE.o;omega
  have f:dX≠(e:Nat):=by have:=fC.o;omega
  have a:W≠(e:Nat):=by have:=eR.o.2.2;omega
  clear d;refine AH κ ?_;go_simp;clear n l h f a m;refine⟨Θ8 u.o v.o,?_⟩;refine AH κ ?_;go_simp;refine BH ?_;go_wp2;go_meet;let⟨h,m⟩:=AZ (m0:=AI) (fv0:=I) dR.o (U cN R.J cO) R;have v:=u.o.trans (m.below (λb d=>by simp at d;omega) u.o.size);refine⟨_,R,cN,cO,rfl,eK,Lh ⟨?_,h,Nr _⟩⟩;let⟨d,h,l,_⟩:=eM.o;have r:∀b∈d,b∉[e.heap.size]:=λb e o=>by
   have:=l b e;have:=(La T.o);simp at o;omega
  exact⟨d,h.kp (λb d=>m.block b (h.lt b d) (r b d)),λb d=>Nt V.o.size (l b d),v⟩
 obtain⟨f,a,p,q,rfl,cW,n⟩:=hcut;have r:=Jn S.o.2.2.2.1 S.o.2.2.1 cW.o;have l:=n.o.1.below;have fB:=Lh l;have cM:=Lh (eV.o.grow l);have o:=n.o.1.fras eV.o.hi (r.1.modest S.o.2.2.2.1 S.o.2.2.2.2);have fA:=@Lh (Xch a.J (mask wc c) (U p a.J q)) (by unfold Xch;rw[Hk];exact o);have h:=n.o.2.1;have dH:wc.cell? (H f 0)=D (U p a.J q):=AD h 0 _ rfl;have dG:wc.cell? (H f 1)=D (X a.Q.K):=AD h 1 _ rfl;have dE:wc.cell? (H f 2)=D (X a.Q.O):=AD h 2 _ rfl;have dD:wc.cell? (H f 3)=D (X a.Q.D):=AD h 3 _ rfl;have dA:wc.cell? (H f 4)=D (X a.Q.V):=AD h 4 _ rfl;have cZ:wc.cell? (H f 5)=D (X a.Q.X):=AD h 5 _ rfl;have cY:wc.cell? (H f 6)=D (X a.Y):=AD h 6 _ rfl;have cX:wc.cell? (H f 7)=D (X a.C):=AD h 7 _ rfl;have cV:wc.cell? (H f 8)=D (X a.I):=AD h 8 _ rfl;obtain⟨ab,eQ,_,_,_,t,m,u,e,d,-,-,-,n⟩:=cM.o.viewX S.o.1;have cT:=cM.o.p0 (j:=3) rfl;have cU:=Lh (ϟ t m);have t:=t;have:(i:Int)<(s.q1:Int):=K;have cP:=d 0 _ rfl;have cR:=e (i*13+0);have eO:=d 1 _ rfl;have eP:=e (i*13+1);have eL:=d 2 _ rfl;have eN:=e (i*13+2);have eI:=d 3 _ rfl;have eJ:=e (i*13+3);have eG:=d 4 _ rfl;have eH:=e (i*13+4);have eE:=d 5 _ rfl;have eF:=e (i*13+5);have eC:=d 6 _ rfl;have eD:=e (i*13+6);have eA:=d 7 _ rfl;have eB:=e (i*13+7);have dY:=d 8 _ rfl;have dZ:=e (i*13+8);have dW:=d 9 _ rfl;have f9:=e (i*13+9);have dS:=d 10 _ rfl;have dT:=e (i*13+10);have dP:=d 11 _ rfl;have dQ:=e (i*13+11);have dM:=d 12 _ rfl;have dO:=e (i*13+12);rw[Nat.add_zero]at cP cR;have cS:=Lh (ϟ S.o.2.1 cW.o);clear r l o h m u e d n;go_upto_region 2 with fail;refine wp_region_bel (λV h=>ϟ (AB h dH) (ϟ (AB h dG) (ϟ (AB h dE) (ϟ (AB h dD) (ϟ (AB h dA) (ϟ (AB h cZ) (ϟ (AB h cY) (ϟ (AB h cX) (ϟ (AB h cV) (ϟ (AB h t) (AB h cT))))))))))) [12] ϑ 13 rfl κ κ ?_;refine Xac ?_;refine AH κ ?_;go_simp;rw[Xaf];refine BH ?_;clear cP eO eL eI eG eE eC eA dY dW dS dP dM cR eP eN eJ eH eF eD eB dZ f9 dT dQ dO dH dG dE dD dA cZ cY cX cV cT t;let⟨d,cg⟩:=cM.o.setX ⟨a,s.q3,0,[],[]⟩ (U p a.J q) I I S.o.1 cU.o.1 cU.o.2 fA.o ⟨0,Ao.nil _ _ _ _ _⟩ ⟨0,Ao.nil _ _ _ _ _⟩;have g:Xa9 (U p a.J q) I I ⟨a,s.q3,0,[],[]⟩=[U p a.J q,X a.Q.K,X a.Q.O,X a.Q.D,X a.Q.V,X a.Q.X,X a.Y,X a.C,X a.I,X s.q3,X 0,I,I]:=rfl;rw[g]at d cg;let⟨_,f⟩:=ε (Xaa wc ab (i*13) [U p a.J q,X a.Q.K,X a.Q.O,X a.Q.D,X a.Q.V,X a.Q.X,X a.Y,X a.C,X a.I,X s.q3,X 0,I,I]);rw[<-f]at d cg ⊢;have e:=Lh (ϟ d cg);clear d cg f g;go_end0;refine⟨rfl,⟨a,s.q3,0,[],[]⟩,⟨x,eZ,a,cS.o.1,cS.o.2,rfl⟩,c,e.o.1.grow (AG Br 1),?_⟩;exact((AT.ob (eX.o.th fB.o) Qx).trans (e.o.2.mono (λd a=>by unfold NZ;omega) Qx)).trans (AT.ob (AG Br 1) Qx)
def Xmt(c:A1)(bt:Nat)(s':Tra)(ab n cap:Nat)(w w':Ϣ):Prop:=∃c',SAt w' c' bt s'/\AT NZ c c' w w'/\w'.cell? (H bt 5)=D (U (D (H ab 0)) n cap)
def Xop(cd:AQ)(s:Tra)(i:Nat)(x:Trx)(r:Rq)(bt ab cap:Nat)(c:A1)(w:Ϣ)(e:Ending)(w':Ϣ):Prop:=
 (s.M.N.length<4096/\e=.returned (X ((s.M.N:Int)+1))/\Xmt c bt {Xfu cd s r with q1:=s.q1.set i {x with N:=x.N+1}} ab s.q1.length cap w w')\/
 (¬s.M.N.length<4096/\e=.returned (X 0)/\Xmt c bt s ab s.q1.length cap w w')
def Xev:(prog.info? 72).map (λi=>(i.zero,i.size,i.bytes))=D (D (.agg #[X 0,I]),2,32):=by kernel_rfl
def Xa8:(prog.info? 22).map (λi=>(i.zero,i.size,i.bytes))=D (D I,1,24):=by kernel_rfl
def Xj7(cd:AQ)(A q:Option Addr)(z l B:Nat)(s:Tra)(c:A1)(bt i ab cap:Nat)(x:Trx)(r:Rq)(a f:Nat)(w0 w:Ϣ)(P:Xbl cd (.agg (Bc A z q l cd)) B w0 w c)(N:SAt w c bt s)(M:s.q1[i]?=D x)(L:w.cell? (H bt 5)=D (U (D (H ab 0)) s.q1 cap))
  (G:r.D=f) (h:cd.H[f]?=D (a:Int)) (dN:a<=12) (dN:s.q6.length<=4097) (dN:0<=x.N/\x.N<=1099511627776) :
  ϙ prog 75 #[.agg (Bc A z q l cd),.pointer (D (H bt 0)),.pointer (D (H ab (i*13))),X f] w (Xop cd s i x r bt ab cap c w):=by
 let⟨e,d⟩:=ε (w.alloc (Z (Bc A z q l cd) 25));have dH:=Lh (bl1 d);have t:=Xao d;have R:=Cw t 0 rfl;have dC:=Lh (P.grow dH.o);have g:=Lh (N.grow dH.o);have dP:=Lh (AB dH.o L);have dF:=Lh (ϟ M (ϟ G h));by_cases dG:s.M.N.length<4096;rotate_left
 .obtain ⟨_,_,_,-⟩:=g.o.nods
  have:=η ((4096:Int)<=(s.M.N:Int));have Q:=Lh dG;clear P N M L G h t R dG;go_in;go_upto_region 1 with fail;rw[<-d];clear d;go_wp2;go_ret;exact .inr ⟨Q.o,rfl,c,g.o,AT.ob dH.o Qx,dP.o⟩
 have:=θ ((4096:Int)<=(s.M.N:Int));obtain⟨J,_,j,E,-⟩:=dC.o.q9;obtain rfl:J=U A cd.H z:=by simp at j;exact j.1.symm
 obtain⟨_,_,rfl,_,p⟩:=E.nth h;have F:=p.1;rw[Nat.mul_one]at F;let⟨dL,dM,dT,m,l,o⟩:=g.o.growN;have Gt:=Lh l;have dU:=Lh o;have dV:=Lh dG;have C:Hid (c bt=1/\bt<e/\(∀b,(e:Nat)<=b->c b=0)/\e.frozen? (H bt 1)=ϝ):=Lh ⟨g.o.lab,g.o.lt,g.o.hi,g.o.frz 1⟩;have:=In f;have:(f:Int)<(cd.H:Int):=by have:=(Ll h);omega
 clear j P N M L G h t dG E p l o;go_in;go_upto_region 1 with fail;rw[<-d];clear d;go_upto_region 4 with fail;refine wp_region_bel (λV h=>AB h m) [8,9,10,11,15] ϑ 16 rfl κ κ ?_;refine Xac ?_;have M:=Lh m;clear m R F;have d:=λe=>FK e a K;refine AH κ ?_;go_simp;clear d;have j:ϐ e e (e.alloc (Z (Ad (ϱ a 0)) 3)).drew:=Cb e _;refine⟨AB (AA _ _) M.o,?_⟩;let⟨h,d⟩:=ε ((e.alloc (Z (Ad (ϱ a 0)) 3)).drew);rw[<-d];have l:=@Lh (ϐ e e h) (by rw[d];exact j);have z:Hid (∀g:A1,g e.heap.size=100+16*(s.M.N.length*2+1)+1->Dq h g (100+16*(s.M.N.length*2+1)+1) (U (D (H e 0)) a a) (ϱ a 0)):=Lh (λg q=>by
  have:=QB (w:=e) (c:=g) (k:=a) K q;rw[d];exact this.kp (T:=NO) (AT.ob (AG Br 1) (no 0)) (no _))
 have g:(h:Nat)=(e:Nat)+1:=by rw[d];simp
 have q:=Lh g;clear d j g;refine AH κ ?_;go_simp;refine⟨AB l.o M.o,?_⟩;refine AH κ ?_;go_simp;have A:ϐ h h (h.alloc (Z #[X (f:Int),U (D (H e 0)) a a] 72)):=AA _ _;refine⟨AB (l.o.th A) M.o,?_⟩;let⟨c1,t⟩:=ε (λb=>if b=(e:Nat)then 100+16*(s.M.N.length*2+1)+1 else c b:A1);have d:c1 (e:Nat)=100+16*(s.M.N.length*2+1)+1:=by rw[t];exact if_pos rfl
 have N:AT NO c c1 e (h.alloc (Z #[X (f:Int),U (D (H e 0)) a a] 72)):=by have g:=l.o.th A;exact⟨g.os,g.tape,g.output,g.size,λb l _=>g.block b l,λb l=>by rw[t];exact if_neg K,no 0⟩
 have P:∀b,(h.alloc (Z #[X (f:Int),U (D (H e 0)) a a] 72)).heap.size<=b->c1 b=0:=λb g=>by have:=q.o;simp at g;rw[t];show(if b=(e:Nat)then _ else _)=0;rw[if_neg K];exact C.o.2.2.1 b K
 have g:=Lh N;have q:=Lh ((z.o c1 d).kp (T:=NO) (AT.ob A (no 0)) (no _));clear d;refine AH κ ?_;refine Dz (λk=>k=21) (.tmp 27) (.tmp 32) 26 72 rfl underlying26 Xev rfl δ δ (c:=c1) (tag:=21) (v:=U dL s.M.N dM) (n:=s.M.N.length) (xs:=dT) rfl (Gt.o.kp N (no _)) (H h 0) 1 1 [X (f:Int),U (D (H e 0)) a a] rfl rfl (λh u dD=>by rw[GB,Nat.zero_add,B6];simpa using dD) (by simp[Value.oneCell']) δ (by have:=dV.o;omega) rfl K P (λz J l o L j F Q=>?_);let⟨p,cg⟩:=dU.o l o (U (D (H z 0)) (s.M.N.length+1) J) (U (D (H e 0)) a a) _ ⟨(f:Int),ϱ a 0⟩ (j.aft g.o) F L ⟨a,by
  have:=q.o.1.kp j K;simpa using this⟩
 have h:=j.aft g.o;have E:=h.cell M.o (Ϟ C.o.1 ω);have M:=h.frozen C.o.2.1 C.o.2.2.2 (Ϟ C.o.1 ω);have q:=h.cell dP.o (Ϟ C.o.1 ω);let⟨d,g⟩:=ε (l.setCell (H bt 1) (U (D (H z 0)) (s.M.N.length+1) J));have m:d.cell? (H bt 5)=D (U (D (H ab 0)) s.q1 cap):=by rw[g,World.cell?_setCell_other _ _ _ _ ψ];exact q
 rw[<-g]at p cg;have G:=Lh (ϟ p (ϟ cg m));have l:=Lh g;clear j F L Q p cg h t N P A q m g;refine⟨.inl E,?_⟩;refine AH κ ?_;go_simp;refine BH ?_;clear E M;rw[<-l.o];clear l;let⟨dI,dJ,dR,j,h,g⟩:=G.o.1.growV;dsimp only at j h g;have dQ:=Lh h;have dS:=Lh g;have t:Hid (o bt=1/\bt<d/\(∀b,(d:Nat)<=b->o b=0)/\d.frozen? (H bt 2)=ϝ):=Lh ⟨G.o.1.lab,G.o.1.lt,G.o.1.hi,G.o.1.frz 2⟩;clear h g;go_upto_region 5 with fail;refine wp_region_bel (λV h=>AB h j) [6,7,8,11] ϑ 12 rfl κ κ ?_;refine Xac ?_;have J:=Lh j;clear j;have g:=λe=>FK e a K;refine AH κ ?_;go_simp;clear g;have j:ϐ d d (d.alloc (Z (Ad (ϱ a 0)) 3)).drew:=Cb d _;refine⟨AB (AA _ _) J.o,?_⟩;let⟨g,h⟩:=ε ((d.alloc (Z (Ad (ϱ a 0)) 3)).drew);rw[<-h];have q:=@Lh (ϐ d d g) (by rw[h];exact j);have A:Hid (∀e:A1,e (d:Nat)=100+16*s.q6.length+2->Dq g e (100+16*s.q6.length+2) (U (D (H d 0)) a a) (ϱ a 0)):=Lh (λe l=>by
  have:=QB (w:=d) (c:=e) (k:=a) K l;rw[h];exact this.kp (T:=NO) (AT.ob (AG Br 1) (no 0)) (no _))
 have e:(g:Nat)=(d:Nat)+1:=by rw[h];simp
 have z:=Lh e;clear h j e;refine AH κ ?_;go_simp;have p:ϐ g g (g.alloc (Z #[U (D (H d 0)) a a] 22)):=AA _ _;refine⟨AB (q.o.th p) J.o,?_⟩;let⟨h,m⟩:=ε (λb=>if b=(d:Nat)then 100+16*s.q6.length+2 else o b:A1);have j:h (d:Nat)=100+16*s.q6.length+2:=by rw[m];exact if_pos rfl
 have E:AT NO o h d (g.alloc (Z #[U (D (H d 0)) a a] 22)):=by have e:=q.o.th p;exact⟨e.os,e.tape,e.output,e.size,λb l _=>e.block b l,λb l=>by rw[m];exact if_neg K,no 0⟩
 have F:∀b,(g.alloc (Z #[U (D (H d 0)) a a] 22)).heap.size<=b->h b=0:=λb e=>by have:=z.o;simp at e;rw[m];show(if b=(d:Nat)then _ else _)=0;rw[if_neg K];exact t.o.2.2.1 b K
 have l:=Lh E;have z:=Lh ((A.o h j).kp (T:=NO) (AT.ob p (no 0)) (no _));clear j;refine AH κ ?_;refine Dz (λk=>k=22) (.tmp 41) (.tmp 44) 34 22 rfl underlying34 Xa8 rfl δ δ (c:=h) (tag:=22) (v:=U dI s.q6 dJ) (n:=s.q6.length) (xs:=dR) rfl (dQ.o.kp E (no _)) (H g 0) 1 1 [U (D (H d 0)) a a] rfl rfl (λe u dD=>by rw[GB,Nat.zero_add,B6];simpa using dD) (by simp[Value.oneCell']) δ K rfl K F (λh q g dK C e A L=>?_);let⟨j,cg⟩:=dS.o g dK (U (D (H h 0)) (s.q6.length+1) q) (U (D (H d 0)) a a) _ (ϱ a 0) (e.aft l.o) A C ⟨a,by
  have:=z.o.1.kp e K;simpa using this⟩
 have d:=e.aft l.o;have z:=d.cell J.o (Ϟ t.o.1 ω);have J:=d.frozen t.o.2.1 t.o.2.2.2 (Ϟ t.o.1 ω);have l:=d.cell G.o.2.2 (Ϟ t.o.1 ω);let⟨dB,a⟩:=ε (g.setCell (H bt 2) (U (D (H h 0)) (s.q6.length+1) q));have h:dB.cell? (H bt 5)=D (U (D (H ab 0)) s.q1 cap):=by rw[a,World.cell?_setCell_other _ _ _ _ ψ];exact l
 rw[<-a]at j cg;have SV:=Lh (ϟ j (ϟ cg h));have g:=Lh a;clear e A C L j cg d m E F p l h a;refine⟨.inl z,?_⟩;refine AH κ ?_;go_simp;refine BH ?_;clear z J;rw[<-g.o];clear g;obtain⟨E,F,_,_,_,Y,-,-,W,V,-,-,-,-⟩:=SV.o.1.viewX dF.o.1;have m:=SV.o.2.2;obtain⟨rfl,rfl⟩:E=ab/\F=cap:=by have:=Y.symm.trans m;simpa using this
 have:=V 10 _ rfl;have:=W (i*13+10);have:IntKind.i64.wrap (x.N+1)=x.N+1:=by rw[IntKind.wrap_i64]<;>omega
 have a:=SV.o.1.viewX dF.o.1;obtain⟨j,L,_,_,_,R,S,cQ,-,-,-,-,-,-⟩:=a;obtain⟨rfl,rfl⟩:j=E/\L=F:=by have:=R.symm.trans m;simpa using this
 obtain⟨_,_,d,-⟩:=SV.o.1.nods;dsimp only at d;rw[List.length_append,List.length_singleton]at d;have dO:¬bt=j:=λe=>by have a:=SV.o.1.lab;rw[e,S]at a;omega
 have:=d;let⟨e,cg⟩:=SV.o.1.setF (k:=10) (u:=X (x.N+1)) (y:=.p (X (x.N+1))) (x:={x with N:=x.N+1}) dF.o.1 m K rfl rfl;let⟨h,a⟩:=ε (dB.setCell (H j (i*13+10)) (X (x.N+1)));rw[<-a]at e cg;have g:h.cell? (H bt 5)=D (U (D (H j 0)) s.q1 L):=by rw[a,World.cell?_setCell_other _ _ _ _ ψ];exact m
 have p:=Lh (ϟ e (ϟ cg g));have N:=Lh a;have P:=Lh dV.o;have:((s.M.N.length+1:Nat):Int)=(s.M.N:Int)+1:=K;clear R Y m W V d e cg g a S cQ;go_wp2_with fail;rw[<-N.o];go_ret;refine .inl ⟨P.o,?_,dK,?_,?_,p.o.2.2⟩
 .simp
 .have:=p.o.1
  unfold Xfu;rw[dF.o.2.1,Int.toNat_natCast,Xau dF.o.2.2];exact this
 exact(((AT.ob dH.o Qx).trans (G.o.2.1.mono (λd a=>by unfold NZ;omega) Qx)).trans (SV.o.2.1.mono (λd a=>by unfold NZ;omega) Qx)).trans (p.o.2.1.mono (λd a=>by unfold NZ;omega) Qx)
def Xh7(f:Nat)(n:Array ϒ)(p:(Int×Int×Int)->Bool)(l:List (Int×Int×Int))(v:ϒ)(B:Nat)(w:Ϣ)(L:An f)(s:B<=w)(e:AE B w 3 WrE v l)
  (J:∀(x:Int×Int×Int)(w1:Ϣ),ϐ w w w1->ϙ prog f (#[.agg #[X x.1,X x.2.1,X x.2.2]]++n) w1 (λs A=>s=.returned (.bool (p x))/\ϐ w1 w1 A)) :
  ϙ prog 107 #[v,.func (.func f) #[] n] w λf w'=>f=.returned (X (Cz p l))/\ϐ w w w':=by
 obtain⟨_,cap,rfl,_,_,_,e⟩:=e;have M:=Lh e;have N:=Lh J;unfold An at L;go_in;go_wp2;go_loopw[8] (λi wr=>∃k:Nat,k<=l.length/\i=X k/\ϐ w w wr/\Hid (∀e x,e<k->l[e]?=D x->p x=ϝ)) (λi _=>l.length-(intOf i).toNat);exact⟨0,Nat.zero_le _,rfl,Below.refl _ _,λf x e=>by omega⟩;obtain⟨k,_,rfl,d,q⟩:=hrel;by_cases F:k<l.length
 .obtain ⟨x,c⟩:=Ϡ l k F
  rcases M.o with z|⟨b,o,rfl,_,a⟩
  .subst z;simp at c
  have a:=Xdg B B w wr b (o+k*3) x (Nr _) (λf u e=>AB d e) (a k x c);let⟨_,_,_⟩:=a;have r:=Lh c;go_wp2_with fail;refine(N.o x wr d).mono ?_;rintro c e⟨rfl,a⟩;have t:=d.trans (a.mono d.size);cases j:p x with
  |true=>have C:=Lh (DO r.o j q);go_wp2;go_ret;exact⟨by rw[C.o];rfl,t⟩
  |false=>
   have G:Hid (∀a x,a<k+1->l[a]?=D x->p x=ϝ):=by
    intro h y a g;by_cases m:h=k
    .subst m;have:=r.o.symm.trans g;simp at this;rw[<-this];exact j
    exact q h y K g
   go_wp2;go_roundw;exact⟨k+1,K,by go_num,t,G⟩;simp[intOf];omega
 have E:=Lh (CR (p:=p) (l:=l) (λc y e a=>q c y K a));go_wp2;go_ret;exact⟨by rw[E.o];rfl,d⟩
def Xgd:An 108:=λ_ _=>by kernel_rfl
def Xi1(r:Rq)(x:Int×Int×Int)(br:Nat)(w:Ϣ)(i:w.cell? (H br 1)=D (X r.O))(h:w.cell? (H br 2)=D (X r.D)) :
  ϙ prog 108 #[.agg #[X x.1,X x.2.1,X x.2.2],.pointer (D (H br 0))] w λc e=>c=.returned (.bool (Xcv r x))/\ϐ w w e:=by
 let⟨_,a⟩:=ε (w.alloc (Z #[X x.1,X x.2.1,X x.2.2] 120));have b:=Lh (bl1 a);have c:=Xao a;have:=Ω2 c;have:=AB b.o i;have:=AB b.o h;have d:=@Lh (Xcv r x=((x.1==r.O)&&(x.2.1==r.D))) rfl;go_in;go_upto_region 1 with fail;rw[<-a];clear a;by_cases a:x.1=r.O
 .have c:=ζ x.1 r.O a
  have g:=@Lh (Xcv r x=(x.2.1==r.D)) (by rw[d.o,c,Bool.true_and]);go_wp2;go_ret;exact⟨by rw[g.o];rfl,b.o⟩
 have c:=ξ x.1 r.O a;have f:=@Lh (Xcv r x=ϝ) (by rw[d.o,c,Bool.false_and]);go_wp2;go_ret;exact⟨by rw[f.o];rfl,b.o⟩
def Xke(r:Rq)(br:Nat)(w:Ϣ)(d:w.cell? (H br 1)=D (X r.O))(c:w.cell? (H br 2)=D (X r.D)):∀(x:Int×Int×Int)(w1:Ϣ),ϐ w w w1->ϙ prog 108 (#[.agg #[X x.1,X x.2.1,X x.2.2]]++#[.pointer (D (H br 0))]) w1 (λa b=>a=.returned (.bool (Xcv r x))/\ϐ w1 w1 b):=
 λx w1 a=>Xi1 r x br w1 (AB a d) (AB a c)
def Xnk(a b c d:Int)(w:Ϣ):(Go.binOp .eql 85 (.agg #[X a,X b]) (.agg #[X c,X d])).run prog w=.ok (.bool (a==c&&b==d)) w:=by
 simp only[Go.binOp];simp[Xii a b c d w]
def Xn4(c d:Int)(l:List (Int×Int))(v:ϒ)(B:Nat)(w:Ϣ)(q:B<=w)(g:AE B w 2 RdE v l) :
  ϙ prog 140 #[v,.agg #[X c,X d]] w λq w'=>q=.returned (X (Cz (λr:Int×Int=>c==r.1&&d==r.2) l))/\ϐ w w w':=by
 obtain⟨_,cap,rfl,_,_,_,g⟩:=g;let⟨n,a⟩:=ε (w.alloc (Z #[X c,X d] 85));have A:=Lh (bl1 a);have q:=Xao a;have G:=Ω2 q;have N:=Lh g;go_in;go_upto_region 1 with fail;rw[<-a];clear a;go_wp2;go_loopw[8] (λi wr=>∃k:Nat,k<=l.length/\i=X k/\ϐ n n wr/\Hid (∀g x,g<k->l[g]?=D x->(c==x.1&&d==x.2)=ϝ)) (λi _=>l.length-(intOf i).toNat);exact⟨0,Nat.zero_le _,rfl,Below.refl _ _,λn x g=>by omega⟩;obtain⟨k,_,rfl,e,C⟩:=hrel;have E:=Lh (Below.trans A.o (e.mono A.o.size));by_cases L:k<l.length
 .obtain ⟨x,h⟩:=Ϡ l k L
  rcases N.o with s|⟨b,o,rfl,_,a⟩
  .subst s;simp at h
  have a:=Xb5 B B w _ b (o+k*2) x (Nr _) (λn u g=>AB E.o g) (a k x h);let⟨_,_⟩:=a;have:=AB e G.1;have:=AB e G.2;have z:=Lh h;have P:=Lh e;have PE:=Xnk c d x.1 x.2;cases f:(c==x.1&&d==x.2)with
  |true=>have J:=Lh (DO (p:=λr:Int×Int=>c==r.1&&d==r.2) z.o f C);rw[f]at PE;go_upto_region 4 with fail;go_quiet(fail);go_wp2;go_ret;exact⟨by rw[J.o];rfl,AG E.o _⟩
  |false=>
   have M:Hid (∀a x,a<k+1->l[a]?=D x->(c==x.1&&d==x.2)=ϝ):=by
    intro m y a j;by_cases t:m=k
    .subst t;have:=z.o.symm.trans j;simp only[Option.some.injEq]at this;rw[<-this];exact f
    exact C m y K j
   rw[f]at PE;go_upto_region 4 with fail;go_quiet(fail);go_wp2;go_roundw;exact⟨k+1,K,by go_num,AG P.o _,M⟩;simp[intOf];omega
 have F:=Lh (CR (p:=λr:Int×Int=>c==r.1&&d==r.2) (l:=l) (λc y d a=>C c y K a));go_wp2;go_ret;exact⟨by rw[F.o];rfl,E.o⟩
def Xno(r:Int×Int)(l:List (Int×Int)):decide (0<=Cz (λy:Int×Int=>r.1==y.1&&r.2==y.2) l)=decide (r∈l):=by
 rw[Ci,Bool.eq_iff_iff,decide_eq_true_iff,List.any_eq_true];constructor
 .rintro ⟨y,b,a⟩
  simp only[Bool.and_eq_true,beq_iff_eq]at a;have:y=r:=Prod.ext a.1.symm a.2.symm;exact this▸b
 intro a;exact⟨r,a,ψ⟩
def Xfz(a b:Int)(l:List (Int×Int))(v:ϒ)(B:Nat)(w:Ϣ)(j:B<=w)(g:AE B w 2 RdE v l) :
  ϙ prog 109 #[v,.agg #[X a,X b]] w λe w'=>e=.returned (.bool (decide ((a,b)∈l)))/\ϐ w w w':=by
 let⟨k,c⟩:=ε (w.alloc (Z #[X a,X b] 85));have d:=Lh (bl1 c);have e:=Xao c;have:=Ω2 e;have h:=Lh (g.ups (E:=λ_=>RdE) Xb5 (Nr _) (λg u e=>AB d.o e));have f:=Nt j d.o.size;have i:=Lh (Xno (a,b) l);go_in;go_upto_region 1 with fail;rw[<-c];clear c;go_wp2_with fail;refine(Xn4 a b l v B k f h.o).mono ?_;rintro b e⟨rfl,a⟩;have c:=Lh (d.o.trans (a.mono d.o.size));go_wp2;go_ret;exact⟨by rw[<-i.o];rfl,c.o⟩
def Xn9{l:List (Int×Int×Int)}(b:l[k]?=D y)(o:Int):(l.flatMap wrL).set (k*3+2) (X o)=(l.modify k (λw=>(w.1,w.2.1,o))).flatMap wrL:=by
 have d:l.modify k (λw=>(w.1,w.2.1,o))=l.set k (y.1,y.2.1,o):=by
  apply List.ext_getElem?;intro c;rw[List.getElem?_modify,List.getElem?_set];by_cases a:k=c
  .subst a;have:=(Ll b);rw[b,if_pos rfl,if_pos this];simp
  rw[if_neg a];cases l[c]?<;>simp[a]
 rw[d];exact Xcd (f:=wrL) (sz:=3) (x':=(y.1,y.2.1,o)) (λ_=>rfl) b 2 (X o) K rfl
def SAt.modW(l:SAt w c bt s){a b:Nat}(o:Int)(d:s.q1[i]?=D x)(m:x.q2[k]?=D y)(h:w.cell? (H bt 5)=D (U (D (H ab 0)) n cap))(g:w.cell? (H ab (i*13+12))=D (U (D (H a 0)) n2 b))
  (e:X6 w c (100+16*(i*13+12)+5) (U (D (H a 0)) n2 b) (wrQ x.q2)) :
  SAt (w.setCell (H a (k*3+2)) (X o)) c bt {s with q1:=s.q1.set i {x with q2:=x.q2.modify k (λw=>(w.1,w.2.1,o))}}/\AT (λb=>b=100+16*(i*13+12)+5) c c w (w.setCell (H a (k*3+2)) (X o)):=by
 let⟨a,b⟩:=X5.put2 l (j:=5) (k:=k*3+2) (u:=X o) rfl h g (Xaq (f:=Xaz) (sz:=13) (λ_=>rfl) d 12 (wrQ x.q2) rfl) e;rw[Xgb s i {x with q2:=x.q2.modify k (λw=>(w.1,w.2.1,o))}]at a
 .exact ⟨a,b⟩
 exact Xcd (f:=Xaz) (sz:=13) (λ_=>rfl) d 12 _ K (by rw[Xn9 m];rfl)
def SAt.addRd(p:SAt w c bt s){o:Int×Int}(d:s.q1[i]?=D x)(m:w.cell? (H bt 5)=D (U (D (H ab 0)) n cap))(k:w.cell? (H ab (i*13+11))=D u)
  (l:AT (λa=>a=100+16*(i*13+11)+5) c c1 w w1) (h:∀b,(w1:Nat)<=b->c1 b=0) (g:Ao w1 c1 (100+16*(i*13+11)+5) 85 2 v n2 (x.q4.flatMap rdL++rdL o)) :
  SAt (w1.setCell (H ab (i*13+11)) v) c1 bt {s with q1:=s.q1.set i {x with q4:=x.q4++[o]}}/\AT (λa=>20<=a) c c1 w (w1.setCell (H ab (i*13+11)) v):=by
 let⟨a,e⟩:=X5.app2 p (j:=5) rfl m k (Xaq (f:=Xaz) (sz:=13) (λ_=>rfl) d 11 (rdQ x.q4) rfl) l h g;rw[Xgb s i {x with q4:=x.q4++[o]}]at a
 .exact ⟨a,e⟩
 exact Xcd (f:=Xaz) (sz:=13) (λ_=>rfl) d 11 _ K (by simp[Xaz,Xcg])
def SAt.addWr(p:SAt w c bt s){o:Int×Int×Int}(d:s.q1[i]?=D x)(m:w.cell? (H bt 5)=D (U (D (H ab 0)) n cap))(k:w.cell? (H ab (i*13+12))=D u)
  (l:AT (λa=>a=100+16*(i*13+12)+5) c c1 w w1) (h:∀b,(w1:Nat)<=b->c1 b=0) (g:Ao w1 c1 (100+16*(i*13+12)+5) 120 3 v n2 (x.q2.flatMap wrL++wrL o)) :
  SAt (w1.setCell (H ab (i*13+12)) v) c1 bt {s with q1:=s.q1.set i {x with q2:=x.q2++[o]}}/\AT (λa=>20<=a) c c1 w (w1.setCell (H ab (i*13+12)) v):=by
 let⟨a,e⟩:=X5.app2 p (j:=5) rfl m k (Xaq (f:=Xaz) (sz:=13) (λ_=>rfl) d 12 (wrQ x.q2) rfl) l h g;rw[Xgb s i {x with q2:=x.q2++[o]}]at a
 .exact ⟨a,e⟩
 exact Xcd (f:=Xaz) (sz:=13) (λ_=>rfl) d 12 _ K (by simp[Xaz,Xcg])
def SAt.placeC(f:SAt w c bt s)(g:Wv w bt r b o)(l:0<=r.D)(hl:r.D<((Bd s.M r).length:Int)) :
  w.cell? (H b (o+r.D.toNat))=D (X ((Bd s.M r).getD r.D.toNat 0))/\(c b=20\/∃k,c b=100+16*k+1):=by
 obtain⟨rfl,h,-⟩:=f.place g l hl 0;refine⟨by rw[Nat.zero_add];exact h,?_⟩;rcases g with ⟨d,n,k,a⟩|⟨d,_,no,n,k,n2,_,a,j⟩
 .obtain ⟨_,_,x,v⟩:=f.globs
  rw[Gm d]at hl;have u:s.M.G[r.D.toNat]?=D (s.M.G[r.D.toNat]'K):=Lg K;obtain⟨_,rfl,_,i,_⟩:=v r.D.toNat _ u;rw[x]at a;cases a;exact .inl i
 obtain⟨_,_,A,m⟩:=f.nods;let⟨y,e⟩:=Jt d l hl;rw[IJ d e]at hl;obtain⟨_,_,_,rfl,z,_,q⟩:=m _ y e;have p:y.f[r.D.toNat]?=D (y.f[r.D.toNat]'K):=Lg K;obtain⟨_,rfl,_,t,_⟩:=q r.D.toNat _ p;rw[A]at a;cases a;rw[Nat.zero_add,z]at j;cases j;exact .inr ⟨_,t⟩
def Xm3(p:α->Bool)(l:List α):Cz p l=match l.findIdx? p with|some k=>(k:Int)|none=>-1:=rfl
def Xb0(r:Rq)(x:Trx):Trx:=if 0<r.O then {x with N:=x.N+1}else x
def Xei(w:Ϣ)(q:Nat):ϐ w w (w.drewN q):=AG Br q
def Xec:(prog.info? 120).map (λi=>(i.zero,i.size,i.bytes))=D (D (.agg #[X 0,X 0,X 0]),3,24):=by kernel_rfl
def Xca:(prog.info? 85).map (λi=>(i.zero,i.size,i.bytes))=D (D (.agg #[X 0,X 0]),2,16):=by kernel_rfl
def Xo1(s:Tra)(i:Nat)(x:Trx)(r:Rq)(bt ab cap:Nat)(c:A1)(w:Ϣ)(e:Ending)(w':Ϣ):Prop:=
 e=.returned (.tuple #[X (Xbn s x r).2,.bool ϑ])/\Xmt c bt {s with q1:=s.q1.set i (Xbn s x r).1} ab s.q1.length cap w w'
def Xjc(s:Tra)(c:A1)(bt i ab cap:Nat)(x:Trx)(r:Rq)(w:Ϣ)(h:SAt w c bt s)(p:s.q1[i]?=D x)(l:w.cell? (H bt 5)=D (U (D (H ab 0)) s.q1 cap))
  (fC:0<=r.O/\r.O<=1099511627776) (g:0<=r.D/\r.D<((Bd s.M r).length:Int)) (fR:0<=x.N/\x.N<=1099511627776) (fI:x.q4.length<=1000000000/\x.q2.length<=1000000000) :
  ϙ prog 76 #[.pointer (D (H bt 0)),.pointer (D (H ab (i*13))),.agg #[X r.K,X r.O,X r.D,X r.V,X r.X]] w (Xo1 s i x r bt ab cap c w):=by
 let⟨fR,d⟩:=ε (w.alloc (Z #[X r.K,X r.O,X r.D,X r.V,X r.X] 57));have eQ:=Lh (bl1 d);have a:=Xao d;have q:=Cw a 0 rfl;have c1:=Cw a 1 rfl;have o:=Cw a 2 rfl;have m:=Cw a 3 rfl;let⟨C,gO,fN,G⟩:=Λ4 (h.grow eQ.o) (AB eQ.o l) p g;have fQ:=Lh (Xdc s.M bt r.O r.D fR C.o.memRd fC.1 g.1 fC.2);have e:Bd s.M (Xaw r.O r.D)=Bd s.M r:=rfl;have fM:=Lh e;have hV:=Lh (h.hi _ (Nr _));clear a h l p g e;go_in;go_upto_region 1 with fail;rw[<-d];clear d;go_wp2_with fail;refine fQ.o.mono ?_;rintro M eP⟨a,(⟨e,rfl⟩|⟨e,gX,hZ,h,rfl⟩)⟩
 .exfalso
  rw[fM.o]at e;have:=G.o.2;have M:(Xaw r.O r.D).D=r.D:=rfl;omega
 have fF:=Lh (C.o.grow a);have gB:=Lh (AB a gO.o);let⟨p,t,z,A⟩:=Δ4 a q c1 o m;have d:=C.o.placeC (r:=r) h G.o.1 G.o.2;have hY:=Lh d;have g:eP.cell? (H gX (hZ+(Xaw r.O r.D).D.toNat))=D (X ((Bd s.M r).getD r.D.toNat 0)):=AB a d.1;have gW:=Lh g;have iB:=Lh (eQ.o.th a);clear a q c1 o m e h d g;go_upto_if 21 with fail;go_cut[] (λd=>Hid (SAt d c bt {s with q1:=s.q1.set i (Xb0 r x)}/\AT NZ c c eP d/\d.cell? (H bt 5)=D (U (D (H ab 0)) s.q1 cap)/\d.cell? (H gX (hZ+(Xaw r.O r.D).D.toNat))=D (X ((Bd s.M r).getD r.D.toNat 0))/\(∀j v,([Value.int .i64 r.K,X r.O,X r.D,X r.V]:List ϒ)[j]?=D v->d.cell? (H w j)=D v)))
 .by_cases gQ:0<r.O
  .have hD:=η (0<r.O) gQ
   have hG:=@Lh (Xb0 r x={x with N:=x.N+1}) (by unfold Xb0;rw[if_pos gQ]);have d:=fF.o.viewX fN.o;obtain⟨fD,eW,_,_,_,h,o,q,m,l,-,-,-,-⟩:=d;obtain⟨rfl,rfl⟩:fD=ab/\eW=cap:=by have:=h.symm.trans gB.o;simpa using this
   have:=l 10 _ rfl;have:=m (i*13+10);have:IntKind.i64.wrap (x.N+1)=x.N+1:=by rw[IntKind.wrap_i64]<;>omega
   let⟨g,cg⟩:=fF.o.setF (k:=10) (u:=X (x.N+1)) (y:=.p (X (x.N+1))) (x:={x with N:=x.N+1}) fN.o h K rfl rfl;have gU:Hid (∀j v,([Value.int .i64 r.K,X r.O,X r.D,X r.V]:List ϒ)[j]?=D v->eP.cell? (H w j)=D v):=Lh (λj v d=>by
    match j,d with
    |0,Q=>cases Q;exact p
    |1,R=>cases R;exact t
    |2,T=>cases T;exact z
    |3,V=>cases V;exact A
    |j+4,d=>simp at d)
   let⟨_,a⟩:=ε (eP.setCell (H fD (i*13+10)) (X (x.N+1)));rw[<-a]at g cg;have e:=Lh (ϟ g cg);have eZ:=Lh a;clear gQ h o q m l g cg a;rw[hD];go_wp2_with fail;rw[<-eZ.o];go_meet;refine Lh ⟨by rw[hG.o];exact e.o.1,e.o.2.mono (λC d=>by unfold NZ;omega) Qx,e.o.2.cell gB.o (Ϟ fF.o.lab ω),e.o.2.cell gW.o (by show ¬c gX=25;rcases hY.o.2 with M|⟨k,M⟩<;>(rw[M];omega)),λj v d=>e.o.2.cell (gU.o j v d) (Ϟ hV.o ω)⟩
  have fY:=θ (0<r.O) gQ;have gH:=@Lh (Xb0 r x=x) (by unfold Xb0;rw[if_neg gQ]);have fX:Hid (∀j v,([Value.int .i64 r.K,X r.O,X r.D,X r.V]:List ϒ)[j]?=D v->eP.cell? (H w j)=D v):=Lh (λj v d=>by
   match j,d with
   |0,W=>cases W;exact p
   |1,Y=>cases Y;exact t
   |2,dA=>cases dA;exact z
   |3,eO=>cases eO;exact A
   |j+4,d=>simp at d)
  clear gQ;rw[fY];go_wp2;go_meet;refine Lh ⟨?_,AT.ob Br Qx,gB.o,gW.o,fX.o⟩;rw[gH.o,Uu fN.o];exact fF.o
 have g:=Lh hcut.o;clear p t z A hcut;have d:=(Ll fN.o);have q:(s.q1.set i (Xb0 r x))[i]?=D (Xb0 r x):=by rw[List.getElem?_set_self d]
 obtain⟨o,hX,_,_,gC,J,B,F,z,p,-,m,a,-⟩:=g.o.1.viewX q;obtain⟨rfl,rfl⟩:o=ab/\hX=cap:=by have:=J.symm.trans g.o.2.2.1;simp at this;exact this
 have eS:(Xb0 r x).q2=x.q2:=by unfold Xb0;split<;>rfl
 have eR:(Xb0 r x).q4=x.q4:=by unfold Xb0;split<;>rfl
 rw[eS]at a;rw[eR]at m;have P:=p 12 _ rfl;have L:=p 11 _ rfl;let⟨t,h,l,A⟩:=Γ4 g.o.2.2.2.2;have fO:=Lh (Xh7 108 #[.pointer (D (H w 0))] (Xcv r) x.q2 gC (wc:Nat) wc Xgd (Nr _) (Xga a) (Xke r (w:Nat) wc h l));have hN:=Lh (ϟ m a);have N:=Lh (ϟ B (ϟ F z));have hT:=Lh q;clear J B F z p m a q;go_wp2_with fail;refine fO.o.mono ?_;rintro M m⟨rfl,a⟩;have fS:=Lh (g.o.1.grow a);have gS:=Lh (AB a g.o.2.2.1);have fH:=AB a g.o.2.2.2.1;have d:=Lh (g.o.2.1.trans (AT.ob a Qx));have hO:=Lh ((AT.ob iB.o Qx).trans d.o);have z:=Δ5 a P L t h l;have eX:=AB a A;clear t h l A P L;have fE:=Lh a;clear a;rw[Xm3];by_cases eT:r.K=2
 .have:=ζ r.K 2 eT
  cases gR:x.q2.findIdx? (Xcv r)with
  |none=>
   dsimp only;have h:=hN.o.2.kp (S:=NO) (AT.ob fE.o (no 0)) (no _);obtain⟨gA,gD,rfl,-,-,a,-⟩:=X6.at2 h (n:=x.q2.length) (by rw[Xbf]) K;have hL:=Lh a;have hJ:=@Lh (Xbn s x r=({Xb0 r x with q2:=(Xb0 r x).q2++[(r.O,r.D,r.V)]},0)) (by rw[eS];unfold Xbn Xb0;rw[gR];simp only[if_pos eT]);have hR:=Lh eS;have hK:=Lh fI.2;clear eT gR h a eS eR fI;go_upto_region 9 with fail;refine wp_region_bel (λV h=>ϟ (AB h z.1) (ϟ (AB h z.2.2.2.1) (ϟ (AB h z.2.2.2.2) (AB h eX)))) [12,13,16] ϑ 17 rfl κ κ ?_;refine Xac ?_;have e:=Lh (ϟ z.1 (ϟ z.2.2.2.1 (ϟ z.2.2.2.2 eX)));clear z eX fH;refine AH κ ?_;go_simp;have g:ϐ m m (m.alloc (Z #[X r.O,X r.D,X r.V] 120)):=AA _ _;refine⟨Θ4 g e.o,?_⟩;let⟨d,a⟩:=ε ((m.alloc (Z #[X r.O,X r.D,X r.V] 120)).drew);rw[<-a];have V:d.heap[(m:Nat)]?=D (Z #[X r.O,X r.D,X r.V] 120 (0,0)):=by rw[a];exact Hn _ _
   have l:AT NO c c m d:=AT.ob (by rw[a];exact Cb _ _) (no 0);have R:=Lh l;have T:=λb d=>fS.o.hi b (Nt l.size d);clear a g;refine AH κ ?_;refine Dz (λk=>k=100+16*(i*13+12)+5) (.tmp 44) (.tmp 52) 60 120 rfl underlying60 Xec rfl δ δ (c:=c) (tag:=100+16*(i*13+12)+5) (v:=U gA x.q2 gD) (n:=x.q2.length) (xs:=x.q2.flatMap wrL) rfl (hL.o.kp l (no _)) (H m 0) 1 1 [X r.O,X r.D,X r.V] rfl rfl (λj u hP=>by rw[GB,Nat.zero_add,cell_of_row _ _ _ _ _ _ V];simpa using hP) (by simp[Value.oneCell']) δ (by have:=hK.o;omega) rfl K T (λG Q C gG P L J Y=>?_);have a:=L.aft R.o;have d:Hid (c o=25/\c (w:Nat)=0):=Lh ⟨N.o.1,hV.o⟩;have R:=a.cell e.o.1 (Ϟ d.o.1 ω);have F:=a.cell e.o.2.1 (Ϟ d.o.2 ω);have B:=a.cell e.o.2.2.1 (Ϟ d.o.2 ω);have A:=a.cell e.o.2.2.2 (Ϟ d.o.2 ω);have t:m.frozen? (H o (i*13+12))=ϝ:=by rw[fE.o.frozen N.o.2.1];exact N.o.2.2 _
   have W:=a.frozen (Nl N.o.2.1 fE.o.size) t (Ϟ d.o.1 ω);have p:Ao C gG (100+16*(i*13+12)+5) 120 3 (U (D (H G 0)) (x.q2.length+1) Q) (x.q2.length+1) ((Xb0 r x).q2.flatMap wrL++wrL (r.O,r.D,r.V)):=by rw[hR.o];exact P
   let⟨g,cg⟩:=fS.o.addWr hT.o gS.o e.o.1 a J p;let⟨e,d⟩:=ε (C.setCell (H o (i*13+12)) (U (D (H G 0)) (x.q2.length+1) Q));rw[<-d]at g cg;have eY:=Lh (ϟ g cg);have h:e.cell? (H bt 5)=D (U (D (H o 0)) s.q1 hX):=by rw[d,World.cell?_setCell_other _ _ _ _ ψ];exact a.cell gS.o (Ϟ fS.o.lab ω)
   have fV:=Lh h;have e:=Lh d;clear L J P p Y g cg a V l T t h d;refine⟨.inl ⟨R,F,B,A⟩,?_⟩;refine AH κ ?_;go_simp;refine BH ?_;clear R F B A W;rw[<-e.o];clear e;go_wp2_with fail;go_ret2;refine⟨by rw[hJ.o];rfl,?_⟩;rw[hJ.o];exact⟨gG,by simpa using eY.o.1,hO.o.trans (eY.o.2.mono (λe d=>by unfold NZ;omega) Qx),fV.o⟩
  |some k=>
   dsimp only;have F:=(List.findIdx?_eq_some_iff_getElem.1 gR).1;let⟨y,p⟩:=Ϡ x.q2 k F;have l:=hN.o.2.kp (S:=NO) (AT.ob fE.o (no 0)) (no _);obtain⟨_,fJ,rfl,-,-,-,B⟩:=X6.at2 l (n:=x.q2.length) (by rw[Xbf]) K;obtain⟨hQ,rfl,J,P,t,A⟩:=B K;have d:(Xb0 r x).q2=x.q2:=by unfold Xb0;split<;>rfl
   have g:X6 m c (100+16*(i*13+12)+5) (U (D (H hQ 0)) x.q2 fJ) (wrQ (Xb0 r x).q2):=by rw[d];exact l
   let⟨e,cg⟩:=fS.o.modW (k:=k) r.V hT.o (by rw[d];exact p) gS.o z.1 g;let⟨L,a⟩:=ε (m.setCell (H hQ (k*3+2)) (X r.V));rw[<-a]at e cg;have fB:=@Lh (Xbn s x r=({Xb0 r x with q2:=(Xb0 r x).q2.modify k (λw=>(w.1,w.2.1,r.V))},0)) (by rw[d];unfold Xbn Xb0;rw[gR];simp only[if_pos eT]);have fA:=Lh (ϟ e cg);have h:=Lh a;have cQ:=Lh (cg.cell gS.o (by show ¬c bt=100+16*(i*13+12)+5;rw[fS.o.lab];omega));have:=t (k*3+2);have:=A _ _ (Xaq (f:=wrL) (sz:=3) (λ_=>rfl) p 2 _ rfl);have:=In k;have:(k:Int)<(x.q2:Int):=K;have:=θ ((k:Int)<0);clear eT gR p B J P t A l g e cg a F;go_upto_region 10 with fail;go_region;rw[<-h.o];clear h;go_wp2_with fail;go_ret2;have d:ϐ L L L.drew:=AG Br 1;refine⟨by rw[fB.o];rfl,?_⟩;rw[fB.o];exact⟨c,by simpa using fA.o.1.grow d,(hO.o.trans (fA.o.2.mono (λg e=>by unfold NZ;omega) Qx)).trans (AT.ob d Qx),AB d cQ.o⟩
 have:=ξ r.K 2 eT;cases fP:x.q2.findIdx? (Xcv r)with
 |none=>
  dsimp only;have a:=hN.o.1.kp (S:=NO) (AT.ob fE.o (no 0)) (no _);obtain⟨eU,eV,rfl,-,-,h,-⟩:=X6.at2 a (n:=x.q4.length) (by rw[Xg7]) K;have g:=Lh h;have C:=Lh (Xd3 a);have fG:=@Lh (Xbn s x r=(if(r.O,r.D)∈x.q4 then Xb0 r x else {Xb0 r x with q4:=(Xb0 r x).q4++[(r.O,r.D)]},(Bd s.M r).getD r.D.toNat 0)) (by rw[eR];unfold Xbn Xb0;rw[fP];simp only[if_neg eT]);have iD:=Lh eR;have iC:=Lh fI.1;clear eT fP a h eS eR fI;let⟨l,d⟩:=ε (m.alloc (Z #[X r.O,X r.D] 85));have a:=bl1 d;have e:=Xao d;have h:=Ω2 e;have t:=AB a z.2.1;have gZ:=AB a fH;have gY:=Lh (fS.o.grow a);have hA:=Lh (AB a gS.o);have hU:=Lh (g.o.kp (AT.ob a (no 0)) (no _));have gN:=Lh (C.o.ups (E:=λ_=>RdE) Xb5 a.size (JT.below a));have hS:=Lh (hO.o.trans (AT.ob a Qx));have fW:Hid (c o=25/\o<l/\∀k,l.frozen? (H o k)=ϝ):=Lh ⟨N.o.1,Nl N.o.2.1 (Nt fE.o.size a.size),λk=>by rw[a.frozen (Nl N.o.2.1 fE.o.size),fE.o.frozen N.o.2.1];exact N.o.2.2 k⟩;have p:=Lh d;have iA:=Lh (fS.o.hi _ (Nr _));clear a e d;go_upto_region 15 with fail;rw[<-p.o];clear p z eX fH;by_cases eX:(r.O,r.D)∈x.q4
  .have e:=Lh (λd=>by
    have:=Xfz r.O r.D x.q4 (U eU x.q4 eV) _ (l.drewN d) (Nr _) (gN.o.ups (E:=λ_=>RdE) Xb5 (Xei l d).size (JT.below (Xei l d)));rwa[decide_eq_true eX]at this)
   rw[if_pos eX]at fG;clear eX;refine wp_region_bel (λV W=>ϟ (AB W t) (ϟ (AB W h.1) (AB W h.2))) [5,6] ϝ 7 rfl κ κ ?_;refine Xac ?_;have d:=Lh (ϟ t (ϟ h.1 h.2));clear t h;refine AH κ ?_;go_simp;refine(e.o 1).mono ?_;rintro M e⟨rfl,g⟩;have e:=(Xei l 1).th g;have a:=Lh e;clear g e;refine⟨Θ3 a.o d.o,?_⟩;refine AH κ ?_;go_simp;refine⟨Θ3 a.o d.o,?_⟩;refine BH ?_;have:=Δ4 a.o d.o.1 d.o.2.1 d.o.2.2 gZ;go_wp2_with fail;go_ret2;refine⟨by rw[fG.o];rfl,?_⟩;rw[fG.o];exact⟨c,gY.o.grow a.o,hS.o.trans (AT.ob a.o Qx),AB a.o hA.o⟩
  have d:=Lh (λa=>by
   have:=Xfz r.O r.D x.q4 (U eU x.q4 eV) _ (l.drewN a) (Nr _) (gN.o.ups (E:=λ_=>RdE) Xb5 (Xei l a).size (JT.below (Xei l a)));rwa[decide_eq_false eX]at this)
  rw[if_neg eX]at fG;clear eX;refine wp_region_bel (λV W=>ϟ (AB W t) (ϟ (AB W h.1) (AB W h.2))) [5,6] ϝ 7 rfl κ κ ?_;refine Xac ?_;have a:=Lh (ϟ t (ϟ h.1 h.2));clear t h;refine AH κ ?_;go_simp;refine(d.o 1).mono ?_;rintro M t⟨rfl,e⟩;have d:=(Xei l 1).th e;have A:=Lh d;clear e d;refine⟨Θ3 A.o a.o,?_⟩;refine AH κ ?_;go_simp;refine⟨Θ3 A.o a.o,?_⟩;refine BH ?_;let⟨h,p,z,hI⟩:=Δ4 A.o a.o.1 a.o.2.1 a.o.2.2 gZ;have gF:=Lh (gY.o.grow A.o);have hB:=Lh (AB A.o hA.o);have hF:=Lh (hU.o.kp (AT.ob A.o (no 0)) (no _));go_upto_region 16 with fail;refine wp_region_bel (λV W=>ϟ (AB W h) (ϟ (AB W p) (AB W z))) [6,7,10] ϑ 11 rfl κ κ ?_;refine Xac ?_;have F:=Lh (ϟ h (ϟ p z));clear h p z;refine AH κ ?_;go_simp;have e:ϐ t t (t.alloc (Z #[X r.O,X r.D] 85)):=AA _ _;refine⟨Θ3 e F.o,?_⟩;let⟨d,a⟩:=ε ((t.alloc (Z #[X r.O,X r.D] 85)).drew);rw[<-a];have gV:d.heap[(t:Nat)]?=D (Z #[X r.O,X r.D] 85 (0,0)):=by rw[a];exact Hn _ _
  have J:AT NO c c t d:=AT.ob (by rw[a];exact Cb _ _) (no 0);have g:=Lh J;have gT:=λb d=>gF.o.hi b (Nt J.size d);clear a e;refine AH κ ?_;refine Dz (λk=>k=100+16*(i*13+11)+5) (.tmp 91) (.tmp 93) 37 85 rfl underlying37 Xca rfl δ δ (c:=c) (tag:=100+16*(i*13+11)+5) (v:=U eU x.q4 eV) (n:=x.q4.length) (xs:=x.q4.flatMap rdL) rfl (hF.o.kp J (no _)) (H t 0) 1 1 [X r.O,X r.D] rfl rfl (λj u hP=>by rw[GB,Nat.zero_add,cell_of_row _ _ _ _ _ _ gV];simpa using hP) (by simp[Value.oneCell']) δ (by have:=iC.o;omega) rfl K gT (λfI fL fH gP gL gK gJ hM=>?_);have h:=gK.aft g.o;have z:Hid (c o=25/\c (m:Nat)=0):=Lh ⟨fW.o.1,iA.o⟩;have gM:=h.cell F.o.1 (Ϟ z.o.1 ω);have gI:=h.cell F.o.2.1 (Ϟ z.o.2 ω);have gE:=h.cell F.o.2.2 (Ϟ z.o.2 ω);have fU:=h.cell hI (by show ¬c gX=_;rcases hY.o.2 with M|⟨k,M⟩<;>(rw[M];omega));have fT:t.frozen? (H o (i*13+11))=ϝ:=by rw[A.o.frozen fW.o.2.1];exact fW.o.2.2 _
  have hH:=h.frozen (Nl fW.o.2.1 A.o.size) fT (Ϟ z.o.1 ω);have fK:Ao fH gP (100+16*(i*13+11)+5) 85 2 (U (D (H fI 0)) (x.q4.length+1) fL) (x.q4.length+1) ((Xb0 r x).q4.flatMap rdL++rdL (r.O,r.D)):=by rw[iD.o];exact gL
  let⟨B,cg⟩:=gF.o.addRd hT.o hB.o F.o.1 h gJ fK;let⟨P,p⟩:=ε (fH.setCell (H o (i*13+11)) (U (D (H fI 0)) (x.q4.length+1) fL));have eS:gX≠o:=λM=>by rcases hY.o.2 with a|⟨k,a⟩<;>(rw[M,z.o.1]at a;omega)
  have:P.cell? (H gX (hZ+(Xaw r.O r.D).D.toNat))=D (X ((Bd s.M r).getD r.D.toNat 0)):=by rw[p,World.cell?_setCell_other _ _ _ _ (by simp;exact λM=>absurd M.symm eS)];exact fU
  have d:P.cell? (H bt 5)=D (U (D (H o 0)) s.q1 hX):=by rw[p,World.cell?_setCell_other _ _ _ _ ψ];exact h.cell hB.o (Ϟ gF.o.lab ω)
  rw[<-p]at B cg;have eR:=Lh (ϟ B cg);have fZ:=Lh d;have a:=Lh p;clear gK gJ gL fK hM B cg h gV J gT fT d p eS fU hI;refine⟨.inl ⟨gM,gI,gE⟩,?_⟩;refine AH κ ?_;go_simp;refine BH ?_;clear gM gI gE hH;rw[<-a.o];clear a;go_wp2_with fail;go_ret2;refine⟨by rw[fG.o];rfl,?_⟩;rw[fG.o];exact⟨gP,by simpa using eR.o.1,((hS.o.trans (AT.ob A.o Qx)).trans (eR.o.2.mono (λd a=>by unfold NZ;omega) Qx)),fZ.o⟩
 |some k=>
  dsimp only;have p:=(List.findIdx?_eq_some_iff_getElem.1 fP).1;let⟨y,B⟩:=Ϡ x.q2 k p;obtain⟨_,_,rfl,-,-,-,h⟩:=Xga hN.o.2;rcases h with eS|⟨hQ,_,rfl,-,h⟩
  .rw [eS]at p;simp at p
  have:=AB fE.o (h k y B).2.2;have J:=@Lh (Xbn s x r=(Xb0 r x,y.2.2)) (by unfold Xbn Xb0;rw[fP];simp only[if_neg eT,B];rfl);have:=In k;have:(k:Int)<(x.q2:Int):=K;clear eT fP B h;go_wp2_with fail;go_ret2;refine⟨by rw[J.o];rfl,?_⟩;rw[J.o];exact⟨c,fS.o,hO.o,gS.o⟩
def Xa4.at_{m:Mm}{vs:List (List Int)}{k a f:Int}(h:Xa4 m vs k)(g:Xas m a f):∃c,vs[a.toNat]?=D c/\f.toNat<c.length/\∀v∈c,0<=v/\v<=k:=by
 have d:f.toNat<(vs.getD a.toNat []).length:=by
  have j:=g.2.1;have e:=g.2.2;by_cases i:a=0
  .subst i
   rw[Gm rfl]at e;have:=h.zero;show f.toNat<(vs.getD 0 []).length;omega
  have c:1<=(Xaw a f).O:=by have:=g.1;show 1<=a;omega
  let⟨y,g⟩:=Jt c j e;rw[IJ c g]at e;have:=h.O _ y g;have g:((Xaw a f).O-1).toNat+1=a.toNat:=by show(a-1).toNat+1=a.toNat;have:1<=a:=c;omega
  rw[g]at this;omega
 rw[List.getD_eq_getElem?_getD]at d;cases b:vs[a.toNat]? with
 |none=>rw[b]at d;simp at d
 |some c=>rw[b]at d;exact⟨c,rfl,d,h.vals c (Lm b)⟩
def wrS(s:Tra)(ws:List (Int×Int×Int)):Tra:={s with q3:=s.q3+1,M:=(ws.foldl (Xf3 (s.q3+1)) (s.M,s.q6)).1,q6:=(ws.foldl (Xf3 (s.q3+1)) (s.M,s.q6)).2}
def Xia(s:Tra)(ws:List (Int×Int×Int))(w:Int×Int×Int):wrS s (ws++[w])={wrS s ws with M:=Xb9 (wrS s ws).M (Xaw w.1 w.2.1) w.2.2,q6:=(wrS s ws).q6.modify w.1.toNat (·.set w.2.1.toNat (s.q3+1))}:=by
 unfold wrS;rw[List.foldl_append];rfl
def Xa2{l:List α}{x:α}(a:l[k]?=D x):l.take (k+1)=l.take k++[x]:=by rw[List.take_add_one,a];rfl
def Xnu{c:AQ}(a:Xb1 c s i x)(k:Nat):Xa4 (wrS s (x.q2.take k)).M (wrS s (x.q2.take k)).q6 (s.q3+1)/\∀b d,(Bd (wrS s (x.q2.take k)).M (Xaw b d)).length=(Bd s.M (Xaw b d)).length:=by
 have:=Xd9 (c:=c) (k:=s.q3+1) (by have:=a.inv.q3.1;omega) (x.q2.take k) s.M s.q6 a.inv.M (a.inv.q6.mono K) (λw b=>(a.ok.writesP w (List.mem_of_mem_take b)).2);exact this.2
def Xjx{r:Int×Int}(b:x.q4[k]?=D r)(a:x.q8<Xds s r):stale s x=ϑ:=by
 unfold stale;rw[List.any_eq_true];exact⟨r,Lm b,by simpa using a⟩
def Xiy(c:∀(j:Nat) r,j<x.q4.length->x.q4[j]?=D r->¬x.q8<Xds s r):stale s x=ϝ:=by
 unfold stale;rw[List.any_eq_false];intro r b;let⟨j,a⟩:=List.mem_iff_getElem?.1 b;have:=c j r (Ll a) a;simpa using this
def Xj2{r:Int×Int}{l:List Int}{v:Int}(hl:s.q6[r.1.toNat]?=D l)(a:l[r.2.toNat]?=D v):Xds s r=v:=by
 unfold Xds;rw[Xau hl,Xau a]
def Xel.len{b:List (List Int)}{a:List (Int×Int)}{k:Int}(d:Xel b a)(c:0<=k)(g:∀c∈b,∀v∈c,v<k):(a:Int)<=k:=by
 have f:∀n:Nat,n<=a.length->(n:Int)-1<=Xbp b (a.take n):=by
  intro n;induction n with
  |zero=>intro _;show(0:Int)-1<=-1;omega
  |succ n e=>
   intro c;let⟨o,c⟩:=Ϡ a n;have:=(d.at_ n o c).2.2.2.2;have:=e K;have e:Xbp b (a.take (n+1))=(b.getD o.1.toNat []).getD o.2.toNat 0:=by unfold Xbp;rw[Xa2 c,List.getLast?_concat]
   rw[e];omega
 have b:=f a.length (Nr _);rw[List.take_length]at b;have:=Xhr d.M (k:=k) K g;omega
def Xnz(cd:AQ)(s:Tra)(i:Nat)(x:Trx)(f v:Int)(bt:Nat)(c:A1)(w:Ϣ)(e:Ending)(w':Ϣ):Prop:=e=.returned (.tuple #[])/\∃s',Xbc cd s i x f v s'/\Xm0 c bt s' w w'
def TWr(t:Nat):Prop:=t=1\/t=20\/(100<=t/\(t%16=5\/t%16=6))
def Xcw:¬TWr 0:=by unfold TWr;omega
def Xoy:¬TWr 14:=by unfold TWr;omega
structure CmL(w:Ϣ)(c:A1)(W:Ϣ)(c1:A1)(ob:Nat)(o:CD):Prop where
 chg:AT NZ c c1 w W
 box:W.heap[ob]?=D (Z (Dw o).toArray 114 (0,0))
 lab:c1 ob=14
def CmL.go{T:Nat->Prop}{W f:Ϣ}{e:A1}{b:Nat}{o:CD}(a:CmL w c W c1 b o)(d:AT T c1 e W f)(g:¬T 14):CmL w c f e b o:=
 have e:=(La a.box)
 ⟨a.chg.trans (d.nz g),by rw[d.kp b e (by rw[a.lab];exact g)];exact a.box,by rw[d.old b e];exact a.lab⟩
def Xma(d:ϐ w w w')(e:Wv w bt r b o):Wv w' bt r b o:=by
 rcases e with ⟨a,n,k,c⟩|⟨a,g,no,n,k,n2,f,c,h⟩
 .exact .inl ⟨a,n,k,AB d c⟩
 exact .inr ⟨a,g,no,n,k,n2,f,AB d c,AB d h⟩
def Xjh{l:List (List α)}{x:α}{xs:List α}(b:l[i]?=D (x::xs)):l.modify i List.tail=l.set i xs:=by
 apply List.ext_getElem?;intro k;rw[List.getElem?_modify,List.getElem?_set];by_cases a:i=k
 .subst a;have:=(Ll b);rw[b,if_pos rfl,if_pos this];simp
 rw[if_neg a];cases l[k]?<;>simp[a]
def Xkj:Xch [] w I:=⟨none,0,rfl,ψ,ψ,K,.inl rfl⟩
def Xoa{x0 d a g e:ϒ}{T:TypeId}(i:w.heap[b]?=D (Z #[x0,d,a,g,e] T (0,0)))(a c f:ϒ):(((w.setCell (H b 2) a).setCell (H b 3) c).setCell (H b 4) f).heap[b]?=D (Z #[x0,d,a,c,f] T (0,0)):=by
 have h:(w.setCell (H b 2) a).heap[b]?=D (Z #[x0,d,a,g,e] T (0,0)):=by rw[ϡ _ _ _ _ _ _ i];rfl
 have f:((w.setCell (H b 2) a).setCell (H b 3) c).heap[b]?=D (Z #[x0,d,a,c,e] T (0,0)):=by rw[ϡ _ _ _ _ _ _ h];rfl
 rw[ϡ _ _ _ _ _ _ f];rfl
def Xfw(cd:AQ)(nG nH:Option Addr)(nD nF B:Nat)(s:Tra)(c:A1)(bt i:Nat)(x:Trx)(f v:Int)(w0 w:Ϣ)(L:Xbl cd (.agg (Bc nG nD nH nF cd)) B w0 w c)(J:Bv cd)(d:SAt w c bt s)(h:Xb1 cd s i x)(G:s.U<=1048576)(F:in64 f)(E:in64 v) :
  ϙ prog 74 #[.agg (Bc nG nD nH nF cd),.pointer (D (H bt 0)),X i,.agg #[X f,X v,X 0,X 0,X 0]] w (Xnz cd s i x f v bt c w):=by
 let⟨mW,e⟩:=ε ((w.alloc (Z (Bc nG nD nH nF cd) 25)).alloc (Z #[X f,X v,X 0,X 0,X 0] 114));have S:=Lh (bl2 e);have qW:=Lh (Xct e);have qQ:=Lh (Xcm e);have qY:=Lh (L.grow S.o);have pZ:=Lh (d.grow S.o);have m:=Lh h;have qI:=Lh (ϟ G (ϟ F (ϟ E J)));have qR:Hid (c (w:Nat)=0/\c ((w:Nat)+1)=0/\∀b,(w:Nat)<=b->c b=0):=Lh ⟨d.hi _ (Nr _),d.hi _ K,d.hi⟩;obtain⟨ab,cap,_,_,nY,g,z,C,A,a,-,q,t,M⟩:=d.viewX h.hx;have:=AB S.o g;have rB:=Lh d;have:=In i;have:(i:Int)<(s.q1:Int):=K;obtain⟨_,_,rfl,-,-,-,p⟩:=Xd3 q;have qC:=Lh p;have rC:=Lh t;have qH:=Lh (ϟ z (ϟ C (ϟ g A)));have:=AB S.o (a 11 _ rfl);have oS:Hid (w.cell? (H ab (i*13+9))=D (X x.q8)/\w.cell? (H ab (i*13+7))=D (X x.run.C)/\w.cell? (H ab (i*13+10))=D (X x.N)/\w.cell? (H ab (i*13+12))=D nY):=Lh ⟨a 9 _ rfl,a 7 _ rfl,a 10 _ rfl,a 12 _ rfl⟩;have:x.q4.length<=1048576:=by have:=h.ok.count.1;omega
 clear L J d h G F E g z C A a q t M p;go_in;go_upto_region 1 with fail;rw[<-e];clear e;go_wp2_with fail;go_loopw[24] (λC wr=>∃k:Nat,k<=x.q4.length/\C=X k/\Hid (ϐ mW mW wr)/\Hid (∀(j:Nat) r,j<k->x.q4[j]?=D r->¬x.q8<Xds s r)) (λC _=>x.q4.length-(intOf C).toNat);exact⟨0,Nat.zero_le _,rfl,Lh Br,Lh (λj r C=>by omega)⟩;obtain⟨k,_,rfl,mL,qK⟩:=hrel;by_cases qX:k<x.q4.length
 .obtain ⟨⟨W,lR⟩,p⟩:=Ϡ x.q4 k qX
  have g:=m.o.ok.readsP _ (Lm p);let⟨l,e,q,Y⟩:=m.o.inv.q6.at_ g;dsimp only at g e q;obtain⟨h,rfl⟩:∃h:Nat,W=h:=⟨W.toNat,by have:=g.1;omega⟩;obtain⟨b,rfl⟩:∃b:Nat,lR=b:=⟨lR.toNat,by have:=g.2.1;omega⟩;rw[Int.toNat_natCast]at e q;let⟨u,mZ⟩:=Ϡ l b q;let⟨nO,qF,_,E,L,R⟩:=pZ.o.viewV e;obtain⟨_,qG,rfl,-,-,-,V⟩:=X6.at2 L (n:=l.length) ψ K;obtain⟨nM,rfl,-,-,-,V⟩:=V K;rcases qC.o with mF|⟨_,_,rfl,-,z⟩
  .rw [mF]at qX;simp at qX
  have J:=AB (S.o.th mL.o) (z k _ p).1;have G:=AB (S.o.th mL.o) (z k _ p).2;dsimp only at J G;let⟨pS,d⟩:=ε (wr.alloc (Z #[X (h:Int),X (b:Int)] 85));have F:=bl1 d;have C:=Xao d;have a:=mL.o.th F;have A:=Ω2 C;have Q:=AB a E.hd;have P:=AB a E.el;have N:=AB a (V b _ (by rw[List.getElem?_map,mZ];rfl));have M:=AB (S.o.th a) oS.o.1;have:=In h;have:(h:Int)<(s.q6:Int):=K;have:=In b;have:(b:Int)<(l:Int):=K;have:=In k;have:(k:Int)<(x.q4:Int):=K;have pV:=Lh a;have t:=Lh d;have nC:Hid (Xds s ((h:Int),(b:Int))=u/\x.q4[k]?=D ((h:Int),(b:Int))):=Lh ⟨Xj2 (by rw[Int.toNat_natCast];exact e) (by rw[Int.toNat_natCast];exact mZ),p⟩;clear p g e q Y mZ E L R V z F a d C;go_upto_region 5 with fail;rw[<-t.o];clear t J G;by_cases pX:x.q8<u
  .have L:=η (x.q8<u) pX
   have qM:=Lh (Xjx nC.o.2 (by rw[nC.o.1];exact pX));clear pX;refine wp_region_bel (λV h=>ϟ (AB h Q) (ϟ (AB h P) (ϟ (AB h N) (ϟ (AB h A.1) (ϟ (AB h A.2) (AB h M)))))) [16] ϝ 17 rfl κ κ ?_;refine Xac ?_;refine AH κ ?_;go_simp;refine BH ?_;let⟨W,z⟩:=ε pS.drew;rw[<-z];have g:ϐ mW mW W:=pV.o.th (by rw[z];exact AG Br 1);have p:=pZ.o.grow g;have J:=p.p0 (j:=11) rfl;have G:=p.frz 11;have:IntKind.i64.wrap (s.q5+1)=s.q5+1:=by have:=m.o.inv.q5;have:=qI.o.1;rw[IntKind.wrap_i64]<;>omega
   let⟨t,cg⟩:=p.num (j:=11) (n:=s.q5+1) (s':={s with q5:=s.q5+1}) rfl;let⟨nB,q⟩:=ε (W.setCell (H bt 11) (X (s.q5+1)));rw[<-q]at t cg;have E:∀(j:Nat) C,([U nG cd.H nD,X cd.G,U nH cd.q0 nF]:List ϒ)[j]?=D C->nB.cell? (H w j)=D C:=λj C lR=>cg.cell (AB g (by rw[cell_of_row _ _ _ _ _ _ qW.o,List.getElem?_toArray];exact lR)) (Ϟ qR.o.1 ω);have F:=Γ3 E;have oZ:=Lh (((AT.ob S.o Qx).trans (AT.ob g Qx)).trans (cg.mono (λlR C=>by unfold NZ;omega) Qx));have oB:=Lh (qY.o.go (((AT.ob g Qx):AT NZ c c mW W).trans (cg.mono (λW C=>by unfold NZ;omega) Qx)));let⟨lQ,_,_,_,a⟩:=m.o.inv.row m.o.hx;have oJ:=Lh (by
    have mC:=m.o.inv.all _ _ _ _ _ _ a;rcases mC.act with ⟨nL,_⟩|⟨_,lY,_⟩
    .exact absurd (by rw[nL];rfl) (Xdf m.o.ok.u2)
    obtain⟨nJ,mM,rfl⟩:∃nJ mM,lQ=nJ::mM:=by cases lQ with|nil=>exact absurd rfl lY|cons h b=>exact⟨h,b,rfl⟩
    exact Xha cd nG nH nD nF B {s with q5:=s.q5+1} c bt i x nJ mM w0 nB oB.o qI.o.2.2.2 m.o.inv.sound t a.x a.l (Xcc m.o.inv.Y (mC.right nJ (List.mem_cons_self ..))))
   have d:=Lh q;clear g p t cg E a z q Q P N A M L;go_upto_region 7 with fail;rw[<-d.o];clear d J G;go_wp2_with fail;refine oJ.o.mono ?_;rintro nL C⟨rfl,y,g,W,d,a⟩;have mU:Hid (Xnz cd s i x f v bt c w (.returned (.tuple #[])) C):=Lh ⟨rfl,_,.inl ⟨qM.o,y,g,rfl⟩,W,d,oZ.o.trans a⟩;clear g d a F;go_wp2_with fail;go_end0;exact mU.o
  have a:=θ (x.q8<u) pX;have oL:=@Lh (¬x.q8<Xds s ((h:Int),(b:Int))) (by rw[nC.o.1];exact pX);clear pX;refine wp_region_bel (λV h=>ϟ (AB h Q) (ϟ (AB h P) (ϟ (AB h N) (ϟ (AB h A.1) (ϟ (AB h A.2) (AB h M)))))) [16] ϝ 17 rfl κ κ ?_;refine Xac ?_;refine AH κ ?_;go_simp;refine BH ?_;clear Q P N A M a;go_wp2;go_roundw;exact⟨k+1,K,by go_num,Lh (pV.o.th (AG Br 1)),Lh (λj r C A=>by
   by_cases rE:j=k
   .subst rE;rw[nC.o.2]at A;cases A;exact oL.o
   exact qK.o j r K A)⟩
  simp[intOf];omega
 have rG:=Lh (Xiy (λj r C A=>qK.o j r K A));have mH:k=x.q4.length:=K;subst mH;go_upto_region 9 with fail;have E:=AB (S.o.th mL.o) oS.o.2.1;have z:=AB (S.o.th mL.o) oS.o.2.2.1;have a:=(mL.o.block _ (La qQ.o)).trans qQ.o;have P:=Ω5 a;have N:=ϴ a;have A:=Lh a;clear a;refine wp_region_bel (λV h=>ϟ (AB h E) (AB h z)) [11] ϑ 12 rfl κ κ ?_;refine Xac ?_;refine AH κ ?_;go_simp;refine BH ?_;let⟨M,C⟩:=ε ((w:Nat)+1);let⟨F,q⟩:=ε ((((wr.setCell (H (w+1) 2) (X x.run.C)).setCell (H (w+1) 3) (X x.N)).setCell (H (w+1) 4) (X 0)).drew);rw[<-q];have g:ϐ w w F:=by rw[q];exact((((S.o.th mL.o).setCell (by show _<=(w:Nat)+1;omega) _).setCell (by show _<=(w:Nat)+1;omega) _).setCell (by show _<=(w:Nat)+1;omega) _).trans (AG Br 1)
 have p:F.heap[M]?=D (Z (Dw ⟨f,v,x.run.C,x.N,0⟩).toArray 114 (0,0)):=by rw[q,C];exact Xoa A.o _ _ _
 have J:=(La p);have a:AT NO c (λb=>if b=M then 14 else c b) w F:=AT.paint M 14 g K;let⟨c1,d⟩:=ε (λb=>if b=M then 14 else c b:A1);rw[<-d]at a;have t:∀b,(F:Nat)<=b->c1 b=0:=λb A=>by rw[d];show(if b=M then 14 else c b)=0;rw[if_neg K];exact qR.o.2.2 b (Nt g.size A)
 have pH:=Lh (rB.o.chg a t (λS A=>A.elim));have qT:Hid (CmL w c F c1 M ⟨f,v,x.run.C,x.N,0⟩):=Lh ⟨a.nz,p,by rw[d];exact if_pos rfl⟩;have nP:=Lh (rC.o.kp a (no _));have Q:=AB g qH.o.2.2.1;have G:=AB g oS.o.2.2.2;have L:F.cell? (H (w+1) 0)=D (X f):=by rw[<-C,cell_of_row _ _ _ _ _ _ p];rfl
 have qE:=@Lh (c1 ab=25) (by rw[a.old ab qH.o.2.1];exact qH.o.1);have qZ:=Lh C;clear q g p J a d t E z P N;obtain⟨_,_,rfl,-,-,-,a⟩:=X6.at2 nP.o (n:=x.q2.length) (by rw[Xbf]) K;have qP:=Lh a;clear a;go_upto_region 10 with fail;go_cut[78] (λA C=>A=.bool (decide (f=0/\x.q2≠[]))/\C=F)
 .by_cases oW:f=0
  .have:=ζ f 0 oW
   have mS:=@Lh (decide (f=0/\x.q2≠[])=decide (0<x.q2.length)) (by simp[oW,List.length_pos_iff]);clear oW;go_wp2;go_meet;exact⟨by rw[mS.o],rfl⟩
  have:=ξ f 0 oW;have mQ:=@Lh (decide (f=0/\x.q2≠[])=ϝ) (by simp[oW]);clear oW;go_wp2;go_meet;exact⟨by rw[mQ.o],rfl⟩
 obtain⟨rfl,rfl⟩:=hcut;clear L;go_upto_if 78 with fail;go_cut[] (λA=>Hid (SAt A c1 bt (Xb2 s x f)/\CmL w c A c1 M ⟨f,v,x.run.C,x.N,0⟩))
 .by_cases oT:f=0/\x.q2≠[]
  .rw [decide_eq_true oT]
   have rA:=@Lh (Xb2 s x f=wrS s x.q2) (by unfold Xb2 wrS;rw[if_pos oT]);have t:=pH.o.p0 (j:=3) rfl;have q:=pH.o.frz 3;have:IntKind.i64.wrap (s.q3+1)=s.q3+1:=by have:=m.o.inv.q3;have:=qI.o.1;rw[IntKind.wrap_i64]<;>omega
   let⟨d,cg⟩:=pH.o.num (j:=3) (n:=s.q3+1) (s':=wrS s []) rfl;let⟨_,a⟩:=ε (wc.setCell (H bt 3) (X (s.q3+1)));rw[<-a]at d cg;have p:=cg.cell G (Ϟ qE.o ω);have oD:=Lh (ϟ d (cg.mono (T':=TWr) (λC A=>by unfold TWr;omega) Xcw));have g:=Lh a;have:x.q2.length<=1048576:=by have:=m.o.ok.count.2;have:=qI.o.1;omega
   clear oT d cg a G;go_upto_region 12 with fail;rw[<-g.o];clear g t q;go_wp2_with fail;clear p Q;go_loopw[91] (λA wr=>∃k:Nat,k<=x.q2.length/\A=X k/\Hid (SAt wr c1 bt (wrS s (x.q2.take k))/\AT TWr c1 c1 wc wr)) (λA _=>x.q2.length-(intOf A).toNat);exact⟨0,Nat.zero_le _,rfl,oD⟩;obtain⟨k,_,rfl,mD⟩:=hrel;by_cases rD:k<x.q2.length
   .obtain ⟨⟨q,t,o⟩,g⟩:=Ϡ x.q2 k rD
    have a:=(m.o.ok.writesP _ (Lm g)).1;have R:=Xnu m.o k;dsimp only at a;have z:Xas (wrS s (x.q2.take k)).M q t:=⟨a.1,a.2.1,by rw[R.2];exact a.2.2⟩;have dX:Xas (Xb9 (wrS s (x.q2.take k)).M (Xaw q t) o) q t:=⟨a.1,a.2.1,by rw[Xjy];exact z.2.2⟩;let⟨l,Q,P,lU⟩:=R.1.at_ z;obtain⟨h,rfl⟩:∃h:Nat,q=h:=⟨q.toNat,by have:=a.1;omega⟩;obtain⟨b,rfl⟩:∃b:Nat,t=b:=⟨t.toNat,by have:=a.2.1;omega⟩;rw[Int.toNat_natCast]at Q P;obtain⟨E,rfl,hF,lT,-,G⟩:=qP.o K;have qJ:¬TWr (c1 E):=by rw[hF];unfold TWr;omega
    have Y:wr.cell? (H E (k*3+0))=D (X (h:Int)):=mD.o.2.cell (G _ _ (Xaq (f:=wrL) (sz:=3) (λ_=>rfl) g 0 _ rfl)) qJ;have lS:wr.cell? (H E (k*3+1))=D (X (b:Int)):=mD.o.2.cell (G _ _ (Xaq (f:=wrL) (sz:=3) (λ_=>rfl) g 1 _ rfl)) qJ;have fV:wr.cell? (H E (k*3+2))=D (X o):=mD.o.2.cell (G _ _ (Xaq (f:=wrL) (sz:=3) (λ_=>rfl) g 2 _ rfl)) qJ;rw[Nat.add_zero]at Y;let⟨F,p⟩:=ε (wr.alloc (Z #[X (h:Int),X (b:Int),X o] 120));have t:=bl1 p;have C:=Xao p;let⟨J,L,N⟩:=Ω3 C;have:=In k;have:(k:Int)<(x.q2:Int):=K;have oC:=Lh (mD.o.1.grow t);have qO:=Lh (mD.o.2.trans (AT.ob t Xcw));have E:(wrS s (x.q2.take k)).M.N.length<=4096:=(Xd9 (c:=cd) (k:=s.q3+1) (by have:=m.o.inv.q3.1;omega) (x.q2.take k) s.M s.q6 m.o.inv.M (m.o.inv.q6.mono K) (λw q=>(m.o.ok.writesP w (List.mem_of_mem_take q)).2)).1.len;have A:(h:Int)<=1099511627776:=by
     have q:=z.2.2;unfold Bd at q;split at q
     .simp at q;omega
     have:¬((wrS s (x.q2.take k)).M.N.length:Int)<(h:Int):=by assumption
     omega
    have oN:=Lh (Xdc (wrS s (x.q2.take k)).M bt h b F.drew (oC.o.grow (AG Br 1)).memRd K K A);have oG:=Lh (mD.o.1.hi _ (Nr _));have lP:=Lh (ϟ z (ϟ dX (ϟ Q (ϟ P g))));have d:=Lh p;clear g a R z dX Q P lU hF lT G qJ t C p E A;go_upto_region 15 with fail;rw[<-d.o];clear d Y lS fV;refine wp_region_bel (λV h=>ϟ (AB h J) (ϟ (AB h L) (AB h N))) [5,8,9] ϑ 10 rfl κ κ ?_;refine Xac ?_;have lT:=Lh (ϟ J (ϟ L N));clear J L N;refine AH κ ?_;go_simp;refine oN.o.mono ?_;rintro nL lU⟨N,(⟨lS,rfl⟩|⟨lS,mV,_,fV,rfl⟩)⟩
    .exfalso
     have:=lP.o.1.2.2;have:(Xaw (h:Int) (b:Int)).D=(b:Int):=rfl;omega
    have z:=(AG Br 1).th N;have L:=Xma N fV;have J:=oC.o.grow z;have G:(0:Int)<=(Xaw (h:Int) (b:Int)).D:=by show(0:Int)<=(b:Int);omega
    have R:=(J.placeC L G lP.o.1.2.2).2;obtain⟨rfl,Y,dX,lX,p,-⟩:=J.place L G lP.o.1.2.2 o;have Q:0+(Xaw (h:Int) (b:Int)).D.toNat=b:=by simp[Xaw]
    have P:(Xaw (h:Int) (b:Int)).D.toNat=b:=by simp[Xaw]
    rw[Q];rw[P]at Y dX p;have a:=Δ3 z lT.o.1 lT.o.2.1 lT.o.2.2;have d:AT TWr c1 c1 lU (lU.setCell (H mV b) (X o)):=AT.set (by rcases R with nL|⟨_,nL⟩<;>(rw[nL];unfold TWr;omega)) Xcw;let⟨nX,g⟩:=ε (lU.setCell (H mV b) (X o));rw[<-g]at p d;have lW:=d.cell a.1 (by show ¬TWr (c1 (wr:Nat));rw[oG.o];exact Xcw);have lV:=d.cell a.2.1 (by show ¬TWr (c1 (wr:Nat));rw[oG.o];exact Xcw);have mG:=Lh p;have pK:=Lh ((qO.o.trans (AT.ob z Xcw)).trans d);have q:=Lh g;clear N z L J G R lX p Q P d g fV lS;refine⟨⟨a.1,a.2.1,a.2.2⟩,?_⟩;refine AH κ ?_;go_simp;refine AH κ ?_;go_simp;refine BH ?_;clear a Y dX;rw[<-q.o];clear q;let⟨nN,pF,_,g,p,L⟩:=mG.o.viewV (i:=h) (x:=l) lP.o.2.2.1;obtain⟨_,pD,rfl,-,-,-,V⟩:=X6.at2 p (n:=l.length) ψ K;have J:=lP.o.2.2.2.1;obtain⟨nA,rfl,-,-,G,V⟩:=V K;let⟨u,mZ⟩:=Ϡ l b J;have Q:=g.hd;have P:=g.el;have Y:=V b _ (by rw[List.getElem?_map,mZ];rfl);have R:=G b;have N:nX.cell? (H bt 3)=D (X (s.q3+1)):=mG.o.p0 (j:=3) rfl;have:=In h;have:(h:Int)<((wrS s (x.q2.take k)).q6.length:Int):=by have:h<(wrS s (x.q2.take k)).q6.length:=L;omega
    have:=In b;have:(b:Int)<(l:Int):=K;let⟨d,cg⟩:=mG.o.setV (k:=b) (o:=s.q3+1) (x:=l) lP.o.2.2.1 g p;let⟨_,a⟩:=ε (nX.setCell (H nA b) (X (s.q3+1)));rw[<-a]at d cg;have mT:=Lh (ϟ d (pK.o.trans (cg.mono (T':=TWr) (λt q=>by unfold TWr;omega) Xcw)));have z:=Lh a;clear g p L G V mZ J d cg a;go_upto_region 16 with fail;refine wp_region_bel (λV h=>ϟ (AB h Q) (ϟ (AB h P) (ϟ (AB h lW) (ϟ (AB h lV) (AB h N))))) [15] ϑ 16 rfl κ κ ?_;refine Xac ?_;refine AH κ ?_;go_simp;rw[<-z.o];refine BH ?_;clear Q P Y R lW lV N z;go_wp2;go_roundw;exact⟨k+1,K,by go_num,Lh ⟨by rw[Xa2 lP.o.2.2.2.2,Xia];exact mT.o.1.grow (AG Br 1),mT.o.2.trans (AT.ob (AG Br 1) Xcw)⟩⟩;simp[intOf];omega
   have mI:k=x.q2.length:=K;subst mI;go_wp2;go_meet;refine Lh ⟨?_,qT.o.go mD.o.2 Xoy⟩;have:=mD.o.1;rw[List.take_length]at this;rw[rA.o];exact this
  rw[decide_eq_false oT];have mP:=@Lh (Xb2 s x f=s) (by unfold Xb2;rw[if_neg oT]);clear oT;go_wp2;go_meet;exact Lh ⟨by rw[mP.o];exact pH.o,qT.o⟩
 have q:=Lh hcut.o;clear hcut;have d:=Xfb (c:=cd) (s:=s) (x:=x) m.o.inv.M m.o.inv.q6 m.o.inv.q3.1 (λw t=>(m.o.ok.writesP w t).2) f;let⟨a,G⟩:=ε (Xb2 s x f);rw[<-G]at d;have rF:=Lh G;have dX:=@Lh (SAt wc c1 bt a) (by rw[G];exact q.o.1);have qU:=Lh q.o.2;let⟨L,z,_,mB,g⟩:=m.o.inv.row m.o.hx;have p:=m.o.inv.all _ _ _ _ _ _ g;have Q:a.results[i]?=D z:=by rw[d.results];exact g.r
 have P:a.P[i]?=D mB:=by rw[d.P];exact g.e
 have N:a.A[i]?=D L:=by rw[d.A];exact g.l
 have J:a.q1[i]?=D x:=by rw[d.q1];exact m.o.hx
 have lY:L≠[]:=by
  rcases p.act with ⟨nL,_⟩|⟨_,lY,_⟩
  .exact absurd (by rw[nL];rfl) (Xdf m.o.ok.u2)
  exact lY
 obtain⟨nJ,mM,rfl⟩:∃nJ mM,L=nJ::mM:=by cases L with|nil=>exact absurd rfl lY|cons h b=>exact⟨h,b,rfl⟩
 have A:z.length<=2000:=by have:=p.ops;omega
 have t:mB.length<=2000:=by have:=p.P;omega
 have q:a.q7.length<=1048576:=by have:=m.o.inv.q7.len (k:=s.U) (by have:=m.o.inv.q3.1;have:=m.o.q3;omega) m.o.endsLt;have:=qI.o.1;rw[d.q7];omega
 have F:=(Ll Q);have E:=(Ll P);have C:=(Ll N);have m:=(Ll J);have:(i:Int)<(a.results:Int):=K;have:(i:Int)<(a.P:Int):=K;have:(i:Int)<(a.A:Int):=K;have:(i:Int)<(a.q1:Int):=K;have fV:=Lh (ϟ Q (ϟ P (ϟ N (ϟ J (ϟ A (ϟ t q))))));have mX:Hid (s.results.getD i []=z/\a.q7=s.q7/\a.U=s.U/\a.results=s.results/\a.P=s.P/\a.A=s.A/\a.q1=s.q1/\s.A[i]?=D (nJ::mM)):=Lh ⟨Xau g.r,d.q7,d.U,d.results,d.P,d.A,d.q1,g.l⟩;have oM:=dX;have mK:Hid (c1 bt=1/\bt<wc):=Lh ⟨dX.o.lab,dX.o.lt⟩;clear d G g p Q P N J lY A t q F E C m
    -- region 18: order
 let⟨nU,nV,pO,J,cQ,N⟩:=dX.o.growO;have oK:=Lh (ϟ cQ N);obtain⟨lZ,nS,_,d,G,-⟩:=dX.o.viewR fV.o.1;obtain⟨nQ,nR,rfl,-,-,P,-⟩:=X6.at2 G (n:=z.length) (Xap (f:=Dw) (sz:=5) (λ_=>rfl) z) K;have p:=d.hd;have g:=d.el;have qD:=Lh d;clear cQ N d G P;go_upto_region 18 with fail;refine wp_region_bel (λV h=>ϟ (AB h J) (ϟ (AB h p) (AB h g))) [15,16,19] ϑ 20 rfl κ κ ?_;refine Xac ?_;have q:=Lh (ϟ J (ϟ p g));clear J p g;refine AH κ ?_;go_simp;have g:ϐ wc wc (wc.alloc (Z #[X (i:Int),X (z:Int)] 85)):=AA _ _;refine⟨Θ3 g q.o,?_⟩;let⟨m,d⟩:=ε ((wc.alloc (Z #[X (i:Int),X (z:Int)] 85)).drew);rw[<-d];have Q:m.heap[(wc:Nat)]?=D (Z #[X (i:Int),X (z:Int)] 85 (0,0)):=by rw[d];exact Hn _ _
 have A:AT NO c1 c1 wc m:=AT.ob (by rw[d];exact Cb _ _) (no 0);have C:=Lh A;have P:=λb m=>oM.o.hi b (Nt A.size m);clear d g;refine AH κ ?_;refine Dz (λk=>k=30) (.tmp 124) (.tmp 135) 37 85 rfl underlying37 Xca rfl δ δ (c:=c1) (tag:=30) (v:=U nU a.q7 nV) (n:=a.q7.length) (xs:=pO) rfl (oK.o.1.kp A (no _)) (H wc 0) 1 1 [X (i:Int),X (z:Int)] rfl rfl (λj u mZ=>by rw[GB,Nat.zero_add,cell_of_row _ _ _ _ _ _ Q];simpa using mZ) (by simp[Value.oneCell']) δ (by have:=fV.o.2.2.2.2.2.2;omega) rfl K P (λqg t qw g L F G _=>?_);have d:=F.aft C.o;have N:=d.cell q.o.1 (Ϟ mK.o.1 ω);have M:=d.cell q.o.2.1 (Ϟ mK.o.1 ω);have E:=d.cell q.o.2.2 (Ϟ qD.o.lab ω);have R:=d.frozen mK.o.2 (oM.o.frz 10) (Ϟ mK.o.1 ω);let⟨q,p⟩:=oK.o.2 qw g _ _ ((i:Int),(z:Int)) d G L;let⟨J,m⟩:=ε (qw.setCell (H bt 10) (U (D (H qg 0)) (a.q7.length+1) t));rw[<-m]at q p;have C:=Lh (ϟ q p);have t:=Lh m;clear F G L q p d Q A P m;refine⟨.inl ⟨N,M,E⟩,?_⟩;refine AH κ ?_;go_simp;refine BH ?_;clear N M E R;rw[<-t.o];clear t;have oE:=Lh (qU.o.go C.o.2 K);have mE:=Lh C.o.1;have qL:Hid (g bt=1/\bt<J):=Lh ⟨mE.o.lab,mE.o.lt⟩;have mA:=@Lh (g ((w:Nat)+1)=14) (by rw[<-qZ.o];exact oE.o.lab)
    -- region 19: results
 obtain⟨mR,nW,_,d,lS,-⟩:=mE.o.viewR (x:=z) fV.o.1;obtain⟨nZ,oA,rfl,-,-,R,-⟩:=X6.at2 lS (n:=z.length) (Xap (f:=Dw) (sz:=5) (λ_=>rfl) z) K;have Y:=d.hd;have V:=d.el;have m:=oE.o.box;rw[qZ.o]at m;let⟨p,G,N,P,Q⟩:=Ω5 m;have H7:=Lh d;have pT:=Lh R;clear m d lS R;go_upto_region 19 with fail;refine wp_region_bel (λh W=>ϟ (AB W Y) (ϟ (AB W V) (ϟ (AB W p) (ϟ (AB W G) (ϟ (AB W N) (ϟ (AB W P) (AB W Q))))))) [13,14,16] ϑ 17 rfl κ κ ?_;refine Xac ?_;have m:=Lh (ϟ Y (ϟ V (ϟ p (ϟ G (ϟ N (ϟ P Q))))));clear Y V p G N P Q;refine AH κ ?_;go_simp;have p:ϐ J J (J.alloc (Z #[X f,X v,X x.run.C,X x.N,X 0] 114)):=AA _ _;refine⟨Θ7 p m.o,?_⟩;let⟨q,d⟩:=ε ((J.alloc (Z #[X f,X v,X x.run.C,X x.N,X 0] 114)).drew);rw[<-d];have Y:q.heap[(J:Nat)]?=D (Z #[X f,X v,X x.run.C,X x.N,X 0] 114 (0,0)):=by rw[d];exact Hn _ _
 have C:AT NO g g J q:=AT.ob (by rw[d];exact Cb _ _) (no 0);have t:=Lh C;have V:=λb q=>mE.o.hi b (Nt C.size q);clear d p;refine AH κ ?_;refine Dz (λk=>k=100+16*i+7) (.tmp 150) (.tmp 152) 127 114 rfl underlying127 JB rfl δ δ (c:=g) (tag:=100+16*i+7) (v:=U nZ z oA) (n:=z.length) (xs:=Dk z) rfl (pT.o.kp C (no _)) (H J 0) 1 1 [X f,X v,X x.run.C,X x.N,X 0] rfl rfl (λj u mZ=>by rw[GB,Nat.zero_add,cell_of_row _ _ _ _ _ _ Y];simpa using mZ) (by simp[Value.oneCell']) δ (by have:=fV.o.2.2.2.2.1;omega) rfl K V (λdX lP A N Q M P _=>?_);have d:=M.aft t.o;have S:=d.cell m.o.1 (Ϟ qL.o.1 ω);have R:=d.cell m.o.2.1 (Ϟ H7.o.lab ω);have L:=d.cell m.o.2.2.1 (Ϟ mA.o ω);have J:=d.cell m.o.2.2.2.1 (Ϟ mA.o ω);have G:=d.cell m.o.2.2.2.2.1 (Ϟ mA.o ω);have F:=d.cell m.o.2.2.2.2.2.1 (Ϟ mA.o ω);have E:=d.cell m.o.2.2.2.2.2.2 (Ϟ mA.o ω);have W:=d.frozen H7.o.lt (H7.o.frz i) (Ϟ H7.o.lab ω);let⟨q,m⟩:=mE.o.addR (x:=z) (o:=⟨f,v,x.run.C,x.N,0⟩) fV.o.1 H7.o d P Q;let⟨p,g⟩:=ε (A.setCell (H mR i) (U (D (H dX 0)) (z.length+1) lP));rw[<-g]at q m;have A:=Lh (ϟ q m);have t:=Lh g;clear M P Q q m d Y C V g;refine⟨.inl ⟨S,R,L,J,G,F,E⟩,?_⟩;refine AH κ ?_;go_simp;refine BH ?_;clear S R L J G F E W;rw[<-t.o];clear t;have qN:=Lh (oE.o.go A.o.2 K);have Q:=Lh A.o.1;have oI:Hid (N bt=1/\bt<p):=Lh ⟨Q.o.lab,Q.o.lt⟩
    -- region 20: ends
 obtain⟨mJ,nT,_,d,lS,-⟩:=Q.o.viewE (x:=mB) fV.o.2.1;obtain⟨nI,nK,rfl,-,-,Y,-⟩:=X6.at2 lS (n:=mB.length) ψ K;have R:=d.hd;have P:=d.el;have G:p.cell? (H bt 12)=D (X a.U):=Q.o.p0 (j:=12) rfl;have V:=Lh d;have oU:=Lh Y;clear d lS Y;go_upto_region 20 with fail;refine wp_region_bel (λV h=>ϟ (AB h R) (ϟ (AB h P) (AB h G))) [16,17,19] ϑ 20 rfl κ κ ?_;refine Xac ?_;have m:=Lh (ϟ R (ϟ P G));clear R P G;refine AH κ ?_;go_simp;have q:ϐ p p (p.alloc (Z #[X a.U] 3)):=AA _ _;refine⟨Θ3 q m.o,?_⟩;let⟨g,d⟩:=ε ((p.alloc (Z #[X a.U] 3)).drew);rw[<-d];have P:g.heap[(p:Nat)]?=D (Z #[X a.U] 3 (0,0)):=by rw[d];exact Hn _ _
 have t:AT NO N N p g:=AT.ob (by rw[d];exact Cb _ _) (no 0);have C:=Lh t;have M:=λb g=>Q.o.hi b (Nt t.size g);clear d q;refine AH κ ?_;refine Dz (λk=>k=100+16*i+9) (.tmp 166) (.tmp 171) 22 3 rfl underlying22 Cx rfl δ δ (c:=N) (tag:=100+16*i+9) (v:=U nI mB nK) (n:=mB.length) (xs:=mB.map (Value.int .i64)) rfl (oU.o.kp t (no _)) (H p 0) 1 1 [X a.U] rfl rfl (λj u mZ=>by rw[GB,Nat.zero_add,cell_of_row _ _ _ _ _ _ P];simpa using mZ) (by simp[Value.oneCell']) δ (by have:=fV.o.2.2.2.2.2.1;omega) rfl K M (λA S q qS G E F _=>?_);have d:=E.aft C.o;have L:=d.cell m.o.1 (Ϟ oI.o.1 ω);have J:=d.cell m.o.2.1 (Ϟ V.o.lab ω);have C:=d.cell m.o.2.2 (Ϟ oI.o.1 ω);have R:=d.frozen V.o.lt (V.o.frz i) (Ϟ V.o.lab ω);let⟨p,m⟩:=Q.o.addE (x:=mB) (o:=a.U) fV.o.2.1 V.o d F G;let⟨oP,g⟩:=ε (q.setCell (H mJ i) (U (D (H A 0)) (mB.length+1) S));rw[<-g]at p m;have A:=Lh (ϟ p m);have q:=Lh g;clear E F G p m d P t M g;refine⟨.inl ⟨L,J,C⟩,?_⟩;refine AH κ ?_;go_simp;refine BH ?_;clear L J C R;rw[<-q.o];clear q;have oO:=Lh (qN.o.go A.o.2 K);have lS:=Lh A.o.1
    -- region 21: calls
 obtain⟨lY,oR,_,G,P,-⟩:=lS.o.viewC (x:=nJ::mM) fV.o.2.2.1;obtain⟨_,R,rfl⟩:=P.u1;obtain⟨lV,lW,rfl,-⟩:=P.nth (k:=0) rfl;let⟨m,mY⟩:∃h,(if R=1 then D ((H lV lW):Addr)else D (H lV (lW+2)))=h:=⟨_,rfl⟩;have p:=P.tail mY;let⟨h,cg⟩:=lS.o.setC (x:=nJ::mM) (l:=mM) fV.o.2.2.1 G (v:=U m mM (R-1)) (by unfold Xbz;rw[Hk]at *;exact p);let⟨d,g⟩:=ε (oP.setCell (H lY i) (U m mM (R-1)));rw[<-g]at h cg;have mO:=G.hd;have mN:=G.el;have oH:=G.frz i;have oF:(1:Int)<=(mM:Int)+1:=K;have Y:=Lh (h.grow (AG (Below.refl (d:Nat) d) 1));have oQ:=Lh ((oO.o.go cg K).go (AT.ob (T:=NO) (AG (Below.refl (d:Nat) d) 1) (no 0)) (no 14));have lX:=Lh g;clear G P p h cg g;go_upto_region 21 with fail;refine wp_region_bel (λV h=>ϟ (AB h mO) (AB h mN)) [14] ϑ 15 rfl κ κ ?_;refine Xac ?_;refine AH κ ?_;go_simp;rw[<-lX.o];refine BH ?_;clear mO mN oH oF mY lX;let⟨m,e⟩:=ε (d.drew);rw[show d.drewN 1=m from e.symm]at Y oQ;rw[<-e];clear e
    -- region 22: the transaction is zero
 obtain⟨A,_,_,_,_,g,q,-,e,d,-,-,-,C⟩:=Y.o.viewX (x:=x) fV.o.2.2.2.1;let⟨h,cg⟩:=Y.o.setX Xat I I I (x0:=x) fV.o.2.2.2.1 g q Xkj ⟨0,Ao.nil _ _ _ _ _⟩ ⟨0,Ao.nil _ _ _ _ _⟩;have p:Xa9 I I I Xat=[I,X 0,X 0,X 0,X 0,X 0,X 0,X 0,X 0,X 0,X 0,I,I]:=rfl;rw[p]at h cg;have mN:=d 0 _ rfl;have lX:=e (i*13+0);have qB:=d 1 _ rfl;have qA:=e (i*13+1);have pY:=d 2 _ rfl;have pW:=e (i*13+2);have pU:=d 3 _ rfl;have pR:=e (i*13+3);have pQ:=d 4 _ rfl;have pP:=e (i*13+4);have pN:=d 5 _ rfl;have pM:=e (i*13+5);have pL:=d 6 _ rfl;have pJ:=e (i*13+6);have pI:=d 7 _ rfl;have pG:=e (i*13+7);have pE:=d 8 _ rfl;have pC:=e (i*13+8);have pA:=d 9 _ rfl;have oY:=e (i*13+9);have oX:=d 10 _ rfl;have oV:=e (i*13+10);have oH:=d 11 _ rfl;have oF:=e (i*13+11);have mY:=d 12 _ rfl;have mO:=e (i*13+12);rw[Nat.add_zero]at mN lX;let⟨t,g⟩:=ε (Xaa m A (i*13) [I,X 0,X 0,X 0,X 0,X 0,X 0,X 0,X 0,X 0,X 0,I,I]);rw[<-g]at h cg;have m:Xco s i x f v={a with q7:=a.q7++[((i:Int),(z:Int))],results:=a.results.modify i (·++[⟨f,v,x.run.C,x.N,0⟩]),P:=a.P.modify i (·++[a.U]),A:=a.A.set i mM,q1:=a.q1.set i Xat}:=by unfold Xco;rw[<-rF.o];dsimp only;rw[mX.o.1,mX.o.2.1,mX.o.2.2.1,mX.o.2.2.2.1,mX.o.2.2.2.2.1,mX.o.2.2.2.2.2.1,mX.o.2.2.2.2.2.2.1,Xjh mX.o.2.2.2.2.2.2.2]
 have P:Hid (Xnz cd s i x f v bt c w (.returned (.tuple #[])) t):=Lh ⟨rfl,_,.inr ⟨rG.o,rfl⟩,qS,by rw[m];exact h,oQ.o.chg.trans cg.nz⟩;have G:=Lh g;clear h cg p m g e d q C;go_upto_region 22 with fail;go_wp2_with fail;rw[Xaf,<- G.o];clear mN lX qB qA pY pW pU pR pQ pP pN pM pL pJ pI pG pE pC pA oY oX oV oH oF mY mO;go_end0;exact P.o