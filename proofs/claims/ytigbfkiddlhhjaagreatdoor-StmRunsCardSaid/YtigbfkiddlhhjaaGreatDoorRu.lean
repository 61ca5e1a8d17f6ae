import Derived.Test.YtigbfkiddlhhjaaGreatDoorRa
import Derived.BigRegion
set_option maxHeartbeats 4000000
set_option maxRecDepth 100000
set_option linter.all false
open Go renaming World→Ϣ,Value→ϒ,Calls→ϙ,bodyPost_ret→ϖ,heap_setCell_same→ϡ
open Go.RowKit renaming Below→ϐ
open Option renaming some→H
open Bool renaming false→ϝ,true→ϑ
open List renaming replicate→ϱ,mem_cons→ϰ
open Go.Value renaming slice→D
open Go.Obj renaming cells→K
namespace Go.Proofs.YtigbfkiddlhhjaaGreatDoor
open Go.RowKit Proofs.Tryz
open Go.RowKit renaming ι→O,ω→X,π→U,ν→Z
variable{W w w8 w' w9:Ϣ}{R bm n fb cap bl:Nat}{fn pc k fuel:Int}{lv sv fv:ϒ}{m1 m m':AV}{F Fi Fl Fs F9:List Nat}{l:List Int}{fs:List AY}{f:AY}{cur:Array ϒ}{cs:List ϒ}{r:Rq}{c:AQ}{x:Bi}
def MO(b o j:Nat):((U b o):Addr).add j=(U b (o+j)):=by unfold Addr.add;split<;>simp_all
def BM(fn pc:Int)(lv sv:ϒ):Array ϒ:=#[O fn,O pc,lv,sv]
def UK(e:W.heap[R]?=H (K (BM fn pc lv sv) 150 (0,0))):(loadVar 150 (U R 0)).run prog W=.ok (.agg (BM fn pc lv sv)) W:=by
 have a:∀(c:Nat)(b:ϒ),(BM fn pc lv sv)[c]?=H b->W.cell? (U R c)=H b:=λc b d=>by rw[cell_of_row _ _ _ _ _ _ e];exact d
 have e:=a 0 (O fn) rfl;have d:=a 1 (O pc) rfl;have c:=a 2 lv rfl;have b:=a 3 sv rfl;simp[go_sem,BM,e,d,c,b]
def O4{fn:Func}{p:Tmp}(c:fn.results=#[.cell p 150])(d:W.heap[R]?=H (K (BM k pc lv sv) 150 (0,0)))(a:Array ϒ)(b:a.getD p undef=.pointer (H (U R 0))) :
  (results fn a).run prog W=.ok (.agg (BM k pc lv sv)) W:=by
 simp only[results,c];rw[Array.getD_eq_getD_getElem?]at b;simp[b,asAddr,UK d,Result.andThen,Sem.run_bind]
def ML(k n:Nat)(l:List Int)(w:Ϣ)(e:Ending)(w':Ϣ):Prop:=
 ∃bl,e=.returned (.agg #[O (k:Int),O 0,D (H (U bl 0)) n n,Z])/\w'.heap[bl]?=H (K (Ad l) 3 (0,0))/\(w:Nat)<=bl/\ϐ w w w'
def P7{fn' pc':Int}{lv' sv':ϒ}(a:W.heap[R]?=H (K (BM fn pc lv sv) 150 (0,0))) :
  ((((W.setCell (U R 0) (O fn')).setCell (U R 1) (O pc')).setCell (U R 2) lv').setCell (U R 3) sv').heap[R]?=H (K (BM fn' pc' lv' sv') 150 (0,0))/\AW [R] [R] W ((((W.setCell (U R 0) (O fn')).setCell (U R 1) (O pc')).setCell (U R 2) lv').setCell (U R 3) sv'):=by
 have b:=ϡ _ R 0 _ _ (O fn') a;have a:=ϡ _ R 1 _ _ (O pc') b;have b:=ϡ _ R 2 _ _ lv' a;have a:=ϡ _ R 3 _ _ sv' b;exact⟨a,((BX.trans BX).trans BX).trans BX⟩
def Lc(T o xa:Option Addr)(fn S i xc:Nat)(g:Int)(B l:Nat)(w:Ϣ)(cB:B<=w)(c:List BK)(cB:AE B w 5 (CW B) (D o c i) c)(k:Nat)(y:BK)(e:c[k]?=H y)(args:List Int)(cD:l<=w)(M:AE l w 1 Aj (D xa args xc) args)(z:Nat)(cC:y.L=args.length+z)(l:args.length+z<=1000)(l:c.length<=1000000) :
  ϙ prog 150 #[.agg #[D T fn S,O g,D o c i],O (k:Int),D xa args xc] w (ML k (args.length+z) (args++ϱ z 0) w):=by
 let⟨n,b⟩:=ε (args.length+z);have cI:=Lh M;let⟨u,C,J,_,_,_,d⟩:=cB;obtain⟨rfl,rfl⟩:o=u/\i=C:=by simpa using J
 have:=(Ll e);rcases d with N|⟨V,Y,rfl,_,d⟩
 .rw [N]at e;simp at e
 have h:=(d k y e).2.2.1;rw[cC,<- Int.natCast_add,<- b]at h;let⟨t,A,G,_,_,_,q⟩:=M;obtain⟨rfl,rfl⟩:xa=t/\xc=A:=by simpa using G
 let⟨W,a⟩:=ε ((w.alloc (K #[D T fn S,O g,D (H (U V Y)) c i] 25)).alloc (K (BM 0 0 Z Z) 150));have d:=bl2 a;have cH:=Lh (sz2 a);have i:=Xdu a;have e:=Xcm a;have cP:=Lh e;have:=i 2 _ rfl;have h:=AB d h;have:=In k;have:(k:Int)<(c:Int):=X;have cM:=Lh d;have bX:=Lh b;have cA:=Lh (cI.o.ints (d.mono cD));have:=λW=>FK W n X;clear b;unfold BM at a;go_in;go_upto_region 1 with fail;rw[<-a];clear a;go_upto_region 2 with fail;let⟨r,b⟩:=ε (W.alloc (K (Ad (ϱ n 0)) 3));let⟨bl,L⟩:=ε W.heap.size;have bY:=Lh (bl1 b);have cO:=@Lh (r.heap[bl]?=H (K ((ϱ n 0).map (Value.int .i64)).toArray 3 (0,0))) (by rw[b,L];exact Hn _ _);have e:=cA.o.ints (bY.o.mono (Nt cD cM.o.size));have cN:Hid (0<(args.map (Value.int .i64)).length->H ((U bl 0):Addr)=H (U bl 0)/\∃d,xa=H d/\∀c v,(args.map (Value.int .i64))[c]?=H v->r.cell? (d.add c)=H v):=Lh (λj=>by
  let⟨s,x,E,_,_,_,q⟩:=e;obtain⟨rfl,rfl⟩:xa=s/\xc=x:=by simpa using E
  rcases q with N|⟨_,_,rfl,_,q⟩
  .rw [N]at j;simp at j
  refine⟨rfl,_,rfl,λm v a=>?_⟩;rw[List.getElem?_map]at a;cases Q:args[m]? with
  |none=>rw[Q]at a;simp at a
  |some F=>
   rw[Q]at a;simp at a;subst a;have:=(q m F Q).1;rw[Nat.mul_one]at this;rw[MO];exact this)
 rw[<-b,<- L];have bZ:(args.map (Value.int .i64)).length=Nat.min args.length n:=by have:=bX.o;rw[List.length_map];exact(Nat.min_eq_left X).symm
 have bW:0+(args.map (Value.int .i64)).length<=((ϱ n 0).map (Value.int .i64)).length:=by have:=bX.o;simp;omega
 have R:∀v∈args.map (Value.int .i64),v.oneCell'=ϑ:=λv f=>by rw[List.mem_map]at f;obtain⟨_,_,rfl⟩:=f;rfl
 have cG:=Lh bZ;have cF:=Lh bW;have cE:=Lh R;have cL:(w:Nat)+1<bl:=by have:=cH.o;omega
 have a:(w:Nat)+1<W:=by have:=cH.o;omega
 have cK:=@Lh (r.heap[(w:Nat)+1]?=H (K (BM 0 0 Z Z) 150 (0,0))) (by rw[bY.o.block _ a];exact cP.o);clear b L;go_upto_region 3 with (with_reducible refine wpList_copy_splice rfl (.tmp 15) (.tmp 16) 22 22 rfl 3 underlying22 Jh (H (U bl 0)) xa n n args.length xc rfl rfl bl 0 ((ϱ n 0).map (Value.int .i64)) 3 cO.o (args.map (Value.int .i64)) cG.o cN.o cF.o cE.o bl r Br (Nr _) ?_;intro b a c;have P:=Lh a;have L:=Lh c;clear a c);have f:Hid (b.heap[bl]?=H (K (Ad (args++ϱ z 0)) 3 (0,0))):=by
  have a:=P.o.o;have c:splice ((ϱ n 0).map (Value.int .i64)) 0 (args.map (Value.int .i64))=(args++ϱ z 0).map (Value.int .i64):=by unfold splice;rw[bX.o];simp
  rw[c]at a;exact Lh a
 have a:b.heap[(w:Nat)+1]?=H (K (BM 0 0 Z Z) 150 (0,0)):=by rw[L.o.block _ cL];exact cK.o
 let⟨c,d⟩:=P7 (fn':=k) (pc':=0) (lv':=D (H (U bl 0)) n n) (sv':=Z) a;have cJ:=Lh c;have c:=(cM.o.th bY.o).trans (L.o.mono X);have h:=Lh (c.trans (d.below (λi e=>by simp at e;omega) c.size));have e:=@Lh (_) ((d.block bl (La f.o) φ).trans f.o);obtain⟨-,_,_,_,_⟩:True/\b.frozen? (U (w+1) 0)=ϝ/\b.frozen? (U (w+1) 1)=ϝ/\b.frozen? (U (w+1) 2)=ϝ/\b.frozen? (U (w+1) 3)=ϝ:=⟨trivial,Fz a,Fz a,Fz a,Fz a⟩;have c:∀(d:Nat)(v:ϒ),(BM 0 0 Z Z)[d]?=H v->b.cell? (U (w+1) d)=H v:=λd v b=>by rw[cell_of_row _ _ _ _ _ _ a];exact b
 have:=c 0 (O 0) rfl;have:=c 1 (O 0) rfl;have:=c 2 Z rfl;have:=c 3 Z rfl;have bV:Hid (ML k (args.length+z) (args++ϱ z 0) w (.returned (.agg (BM k 0 (D (H (U bl 0)) n n) Z))) _):=Lh ⟨bl,by rw[<-bX.o];rfl,e.o,X,h.o⟩;go_wp2;exact ϖ (v:=.agg (BM k 0 (D (H (U bl 0)) n n) Z)) (O4 (p:=6) rfl cJ.o _ rfl) rfl bV.o
def EF{d:Ϣ}{F0 F2:List Nat}(f:ϐ w w W)(m:Cv d fv m1.J F0)(e:AW (bm::F) F2 W d)(o:∀c∈F0,c∈F2)(hF:∀c∈F,c<(w:Nat))(q:(w:Nat)<=bm)(q:(w:Nat)<=R)(i:R≠bm)(l:R<W)
  (p:W.heap[R]?=H (K (AC Z AI) 59 (0,0))) :
  d.heap[R]?=H (K (AC Z AI) 59 (0,0))/\(Ai d R fv m1).heap[R]?=H (K (AC fv m1) 59 (0,0))/\DK w F m1 (.returned (AJ fv m1)) (Ai d R fv m1):=by
 have j:R∉bm::F:=λa=>by
  rw[ϰ]at a;rcases a with a|a
  .exact i a
  have:=hF _ a;omega
 have q:=Cq e l j;have i:d.heap[R]?=H (K (AC Z AI) 59 (0,0)):=by rw[e.block R l j];exact p
 let⟨j,d⟩:=AZ i fv m1;refine⟨i,j,_,F0,rfl,m.kp (λc g=>d.block c (m.lt c g) (λa=>?_)),d.os.trans (e.os.trans f.os),d.tape.trans (e.tape.trans f.tape),d.output.trans (e.output.trans f.output),Nt f.size (Nt e.size d.size),λk h n=>?_,λc g=>?_⟩
 .rw [List.mem_singleton]at a
  exact q (a▸o c g)
 .rw [d.block k (Nl h (Nt f.size e.size)) φ,e.block k (Nl h f.size) (λa=>by rw[ϰ]at a;rcases a with a|a;omega;exact n a),f.block k h]
 rcases e.new c (o c g)with b|b
 .rw [ϰ]at b
  rcases b with b|b
  .right;omega
  exact .inl b
 right;exact Nt f.size b
def G2(h:Ak w bm m F)(i:w.cell? (U bm 0)=H fv):∃a,w.heap[bm]?=H (K (AC fv m) 59 (0,0))/\Cv w fv m.J a/\F=bm::a/\bm∉a:=by
 let⟨b,d,c,e,f,g⟩:=Ab.1 h;have:=AD c 0 b rfl;rw[i]at this;obtain rfl:fv=b:=by simpa using this
 exact⟨d,c,e,f,g⟩
def QC{b:Nat}(c:w.heap[b]?=H (K (Ad l) 3 (0,0)))(a:n=l.length)(hl:l.length<=1000000)(d:∀x∈l,in64 x):AE w w 1 Aj (D (H (U b 0)) n n) l:=
 ⟨_,n,by rw[a],X,X,X,.inr ⟨b,0,rfl,(La c),λe x a=>⟨by rw[Nat.zero_add,Nat.mul_one,cell_of_row _ _ _ _ _ _ c];exact DC a,d x (Lm a)⟩⟩⟩
def QR(h i:Option Addr)(fn b e c:Nat)(g k:Int)(d:Cv w fv m.J F)(j:m.J=fs++[f])(q:fs.length+1=200) :
  ϙ prog 193 #[.agg #[D h fn b,O g,D i e c],AJ fv m,O k] w (DK w F {m with Q:=Ah 19,J:=[]}):=by
 obtain⟨fb,cap,_,cs,lv,sv,Fi,Fl,Fs,rfl,rfl,l⟩:=d.top j;have hF:=Lh d.lt;let⟨W,a⟩:=ε (((w.alloc (K #[D h fn b,O g,D i e c] 25)).alloc (K (AC (D (H (U fb 0)) (fs.length+1) cap) m) 59)).alloc (K (AC Z AI) 59));have n:=Lh (bl3 a);have r:=Lh (sz3 a);have c:=Xcs a;have b:=Xbs a;have s:=AO c;have o:=Lh b;have:=ζ ((fs:Int)+1) 200;clear c b l d j q;unfold AJ;unfold AC AI at a;unfold AC;dsimp only at a ⊢;go_in;go_upto_region 1 with fail;rw[<-a];clear a;go_wp2_with fail;refine(DX _ _ _ m 19 _).mono ?_;rintro a w9⟨rfl,d⟩;let⟨a,b,c⟩:=EF (R:=(w:Nat)+1+1) (bm:=(w:Nat)+1) (F0:=[]) (F2:=[]) (m1:={m with Q:=Ah 19,J:=[]}) (fv:=Z) n.o (Ds w9) ((AW.ob d).wide (Fs:=[]) (Fs':=[]) ψ ψ) ψ hF.o X X X (by have:=r.o;omega) o.o;have j:=Lh b;have l:=Lh c;have:=AO a;have:=AX a;clear a b c d s;unfold AJ AC;go_wp2;exact ϖ (v:=AJ Z {m with Q:=Ah 19,J:=[]}) (AL (p:=6) rfl j.o _ rfl) rfl l.o
def Tq(b:AN W bm fb cap cur cs fs f lv sv m Fi Fl Fs)(a:ϐ W.drew.heap.size W.drew w8)(o:Obj) :
  (w8.alloc o).ownsRow 0 150 4 (D (H (U fb 0)) (fs.length+1) cap) (fs.length+1) (cs++[O f.fn,O f.pc,lv,sv]):=
 ((b.kp (AG Br 1)).kp a).rowOwn.alloc o
def P9{b:Option Nat}(a:w.grownBy w' b):w.drew.grownBy w' b:=⟨a.os,a.tape,a.output,a.size,a.block⟩
def Ua(fJ J:Option Addr)(fn fK dW:Nat)(g:Int)(B:Nat)(gB:B<=w)(S:∀C∈F,B<=C)(u:List BK)(gE:u.length<=1000000)(dV:AE B w 5 (CW B) (D J u dW) u)(k:Nat)(y:BK)(c:u[k]?=H y)
  (l args:List Int) (P:f.S=l++args) (N:y.params=args.length) (z:Nat) (M:y.L=args.length+z) (gD:args.length+z<=1000) (L:∀n∈f.S,in64 n) (t:Cv w fv m.J F) (G:m.J=fs++[f]) (eX:fs.length+1<200) :
  ϙ prog 193 #[.agg #[D fJ fn fK,O g,D J u dW],AJ fv m,O (k:Int)] w (DK w F {m with J:=fs++[{f with S:=l}]++[⟨k,0,args++ϱ z 0,[]⟩]}):=by
 let⟨_,b⟩:∃d:AV,d={m with J:=fs++[{f with S:=l}]++[⟨k,0,args++ϱ z 0,[]⟩]}:=⟨_,rfl⟩;rw[<-b];have gG:=Lh b;clear b;obtain⟨fb,cap,fQ,cs,lv,sv,Fi,Fl,Fs,rfl,rfl,E⟩:=t.top G;let⟨hF,fX,fY,fZ,gA,fO⟩:=Λ6 t.lt S dV c M P;have fU:=Lh L;let⟨T,V,A,_,_,_,h⟩:=dV;obtain⟨rfl,rfl⟩:J=T/\dW=V:=by simpa using A
 have:=(Ll c);rcases h with Q|⟨C,o,rfl,_,h⟩
 .rw [Q]at c;simp at c
 have j:=(h k y c).2.1;rw[N]at j;let⟨n,i⟩:=ε args.length;rw[<-i]at j;let⟨W,b⟩:=ε (((w.alloc (K #[D fJ fn fK,O g,D (H (U C o)) u dW] 25)).alloc (K (AC (D (H (U fb 0)) (fs.length+1) cap) m) 59)).alloc (K (AC Z AI) 59));have fA:=Lh (bl3 b);have eN:=Lh (sz3 b);have eH:=Lh (Xf2 b);have e:=Xcs b;have s:=Xbs b;have q:=E W ((w:Nat)+1) m fA.o e X;have fL:=Lh q;have dP:=AO e;have dO:=Γ3 eH.o;have j:=AB fA.o j;have gF:=Lh s;have:=ξ ((fs:Int)+1) 200;have:=In k;have:(k:Int)<(u:Int):=X;have:n<=1000:=X;have Y:=λW=>FK W n X;have eD:=Lh i;clear e s E q t G A h c M P N S L i;unfold AJ;unfold AC AI at b;unfold AC;dsimp only at b ⊢;go_in;go_upto_region 1 with fail;rw[<-b];clear b;go_wp2_with fail;let⟨P,i⟩:=ε (W.alloc (K (Ad (ϱ n 0)) 3));let⟨c,e⟩:=ε W.heap.size;have b:=bl1 i;have fI:Hid (P.heap[c]?=H (K (Ad (DF args 0 args.length)) 3 (0,0))):=by refine Lh ?_;rw[LQ,Nat.add_zero,i,e,<- eD.o];exact Hn _ _
 have fS:=Lh b;have A:∀x∈((w:Nat)+1)::fb::(Fi++(Fl++Fs)),x<c:=λx s=>by
  have:=eN.o;rw[ϰ]at s;rcases s with s|s
  .omega
  have:=hF.o x s;omega
 have t:c∉((w:Nat)+1)::fb::(Fi++(Fl++Fs)):=λh=>by have:=A _ h;omega
 have q:(w:Nat)∉c::((w:Nat)+1)::fb::(Fi++(Fl++Fs)):=λh=>by
  have:=eN.o;simp only[ϰ]at h;rcases h with h|h|h
  .omega
  .omega
  have:=hF.o (w:Nat) (by simpa using h);omega
 have eR:=Lh q;have J:Hid (JX P (w+1) fb cap cs fs {f with S:=l++args.take args.length} lv m Fi Fl (((w:Nat)+1)::fb::(Fi++(Fl++Fs))) c P):=by
  refine Lh ⟨fQ,sv,Fs,?_,AW.self,t⟩;have:({f with S:=l++args.take args.length}:AY)=f:=by rw[List.take_length,<- fO.o]
  rw[this];exact fL.o.kp b
 have eL:=Lh (eH.o.kp b);rw[<-i,<- e];have fR:=Lh e;clear i e Y j dP dO b A t q;rw[eD.o];go_loopg[8] (args.length+1) (λgk e wr=>∃r:Nat,r<gk/\r<=args.length/\e=O ((r:Int)-1)/\Hid (JX P (w+1) fb cap cs fs {f with S:=l++args.take r} lv m Fi Fl (((w:Nat)+1)::fb::(Fi++(Fl++Fs))) c wr)/\Hid (wr.heap[c]?=H (K (Ad (DF args 0 r)) 3 (0,0))));exact⟨args.length,X,Nr _,rfl,J,fI⟩;obtain⟨r,_,_,rfl,S,L⟩:=hrel;let⟨fP,eW,dX,E,j,dO⟩:=S.o;have Y:=(La L.o);by_cases gC:0<r
 .obtain ⟨d,rfl⟩:∃d,r=d+1:=⟨r-1,X⟩
  let⟨a,b⟩:=Ϡ args d;have dP:=AO E.u2;have i:=Lh E;have eZ:=Lh j;have dR:=Lh b;clear E j b;go_wp2_with fail;refine(BZ m i.o X (l++args.take d) a (by show l++args.take (d+1)=_;rw[Mf dR.o,List.append_assoc])).mono ?_;rintro h i⟨rfl,T,V,J,N,A⟩;have t:i.heap[c]?=H (K (Ad (DF args 0 (d+1))) 3 (0,0)):=by rw[A.block _ Y dO];exact L.o
  have Q:=A.notin Y dO;let⟨e,M⟩:=Ϡ (DF args 0 (d+1)) d (by rw[LR X];omega);have:i.cell? (U c d)=H (O e):=by rw[cell_of_row _ _ _ _ _ _ t];exact DC M
  have:=frozen_of_row _ _ d _ _ t;have eY:Hid ((i.setCell (U c d) (O a)).heap[c]?=H (K (Ad (DF args 0 d)) 3 (0,0))):=by refine Lh ?_;rw[ϡ _ _ _ _ _ _ t,D6,LS dR.o]
  have G:∀e,e≠c->(i.setCell (U c d) (O a)).heap[e]?=i.heap[e]?:=λe b=>heap_setCell_other _ _ _ _ b;have eQ:Hid (JX P (w+1) fb cap cs fs {f with S:=l++args.take d} lv m Fi Fl (((w:Nat)+1)::fb::(Fi++(Fl++Fs))) c (i.setCell (U c d) (O a))):=by
   refine Lh ⟨T,V,J,?_,(eZ.o.trans (A.wide (F:=c::((w:Nat)+1)::fb::(Fi++(Fl++dX))) (F':=c::((w:Nat)+1)::fb::(Fi++(Fl++J))) (λC b=>List.mem_cons_of_mem _ b) (λC b=>?_))).trans ⟨rfl,rfl,rfl,ψ,λk e hF=>G k (λh=>hF (by simp[h])),λ_ q=>.inl q⟩,Q⟩
   .exact N.sub (λC b=>G C (λh=>Q (h▸b)))
   rw[ϰ]at b;rcases b with b|b;right;simp[b];left;exact b
  clear N A M t G dP;go_wp2_with fail;go_roundg(gk-1);exact⟨d,X,X,by go_num,eQ,eY⟩;omega
 obtain rfl:r=0:=X;have A:Hid (AN wr (w+1) fb cap fP cs fs {f with S:=l} lv eW m Fi Fl dX):=by
  have h:({f with S:=l++args.take 0}:AY)={f with S:=l}:=by simp
  rw[h]at E;exact Lh E
 have eJ:=Lh ((j.drop fS.o (by have:=fR.o;omega)).wide (F:=((w:Nat)+1)::fb::(Fi++(Fl++Fs))) (F':=((w:Nat)+1)::fb::(Fi++(Fl++dX))) (λ_ q=>q) (λ_ q=>.inl (List.mem_cons_of_mem _ q)));have eI:=Lh (by
  have t:=L.o;rw[KB]at t;simp only[List.replicate_zero,List.append_nil]at t;exact QC t rfl X (λx s=>fU.o x (by rw[fO.o];simp[s])))
 have N:ϐ B W wr:=eJ.o.below (λx s=>by
  rw[ϰ]at s;rcases s with s|s
  .omega
  exact fX.o x s) (by have:=eN.o;omega)
 have eV:=@Lh (AE B wr.drew 5 (CW B) (D (H (U C o)) u dW) u) (((fY.o.funs (fA.o.mono gB)).funs N).funs ((AG Br 1)));have eO:=@Lh (AE wr wr.drew 1 Aj (D (H (U c 0)) args args.length) args) (eI.o.ints (AG Br 1));have eG:B<=wr:=by have t:=N.size;have:=eN.o;omega
 have fW:=j.cell (eL.o 0 _ rfl) eR.o;have fV:=j.cell (eL.o 1 _ rfl) eR.o;have fT:=j.cell (eL.o 2 _ rfl) eR.o;have fB:=A.o.cFrames;have eT:=A.o.frm 0;have dS:(w:Nat)+1<wr:=A.o.lt _ ψ;have eM:¬(w:Nat)+1=fb:=A.o.ne.1;let⟨fC,fD,fE,fG,fH⟩:=info_parts FT;clear E j S L;go_upto_region 8 with fail;go_region_law (first
  |(go_simp;go_at_call 150;refine(Lc fJ (H (U C o)) (H (U c 0)) fn fK dW args.length g B (wr:Nat) wr.drew eG u eV.o k y fZ.o args (Nr _) eO.o z gA.o gD gE).mono ?_;rintro h w8⟨bl,rfl,E,eS,j⟩;have eF:=AB j (show wr.drew.cell? (U (w+1) 0)=_ from fB);have fM:Hid (((w8.alloc (K #[O (k:Int),O 0,D (H (U bl 0)) (args.length+z) (args.length+z),Z] 150))).frozen? (U (w+1) 0)=ϝ):=Lh (by rw[World.frozen?_of_block (w:=wr) (a:=(U (w+1) 0)) (by rw[Ha _ _ _ (Nl dS j.size)];exact j.block _ dS)];exact eT);have:(w:Nat)+1<w8:=Bl eF;have fN:=Lh E;have eE:=Lh j;have eU:Hid ((w8.alloc (K #[O (k:Int),O 0,D (H (U bl 0)) (args.length+z) (args.length+z),Z] 150)).ownsRow 0 150 4 (D (H (U fb 0)) (fs.length+1) cap) (fs.length+1) (cs++[O f.fn,O f.pc,lv,eW])):=Lh (Tq A.o j _);have eK:Hid (∀b c,([O (k:Int),O 0,D (H (U bl 0)) (args.length+z) (args.length+z),Z]:List ϒ)[b]?=H c->(w8.alloc (K #[O (k:Int),O 0,D (H (U bl 0)) (args.length+z) (args.length+z),Z] 150)).cell? (((U w8 0):Addr).add b)=H c):=Lh (λb c S=>(by rw[add_zero,B6];simpa using S));clear E j)
  |(refine step_append_lies _ rfl (.tmp 35) (.tmp 40) 55 rfl 0 150 fC (.agg #[O 0,O 0,Z,Z]) 4 64 underlying55 fD fE fG fH rfl δ (D (H (U fb 0)) (fs.length+1) cap) (fs.length+1) (cs++[O f.fn,O f.pc,lv,eW]) rfl eU.o (U w8 0) 1 1 [O (k:Int),O 0,D (H (U bl 0)) (args.length+z) (args.length+z),Z] rfl rfl eK.o (by simp[Value.oneCell']) X (by unfold maxLen;omega) X (Nat.zero_le _) ((w8:Nat)+1) ψ ?_;intro dT dU w9 G b c cQ;have e:=Lh G;have d:=Lh b;have eP:=Lh c;have dQ:=(World.grownBy.cell_far b (U (w+1) 0) φ (by simp[Value.ownBlock];exact eM)).trans (AB (AA _ _) eF);have:=(World.grownBy.frozen_far b (U (w+1) 0) φ (by simp[Value.ownBlock];exact eM)).trans fM.o;have:=Bl dQ;clear G b c))
 all_goals
  have eA:=(A.o.kp (AG Br 1)).kp eE.o;have dY:=eJ.o.trans (AW.ob ((show ϐ wr wr wr.drew from AG Br 1).th eE.o));have:=eJ.o.size;let⟨F',M,L⟩:=OH (o:=K #[O (k:Int),O 0,D (H (U bl 0)) (args.length+z) (args.length+z),Z] 150) (locs:=args++ϱ z 0) eA dY ψ X (UL fO.o fU.o) X (by simp at eS;omega) (λh=>by have t:=A.o.lt _ h;simp at eS;omega) fN.o e.o (P9 d.o) (by rcases eP.o with t|t;exact .inl t;exact .inr (by rw[t];simp));let⟨b,j⟩:=ε (w9.setCell (U (w+1) 0) (D (H (U dT 0)) (fs.length+1+1) dU));rw[<-j]at M L ⊢;have dP:b.cell? (U (w+1) 0)=H (D (H (U dT 0)) (fs.length+1+1) dU):=by rw[j];exact World.cell?_setCell_same _ _ _ dQ
  obtain⟨_,G,E,rfl,eC⟩:=G2 M dP;let⟨b,c,d⟩:=EF (R:=(w:Nat)+1+1) (bm:=(w:Nat)+1) (m1:={m with J:=fs++[{f with S:=l}]++[⟨k,0,args++ϱ z 0,[]⟩]}) fA.o E L (λx s=>List.mem_cons_of_mem _ s) hF.o X X X (by have:=eN.o;omega) gF.o;have dZ:=Lh c;have eB:=Lh d;have:=AO G;have:=AO b;have:=AX b;clear b c d G E M L eC dP j eA dY fB eF dQ fW fV fT;go_wp2;exact ϖ (v:=AJ (D (H (U dT 0)) (fs.length+1+1) dU) {m with J:=fs++[{f with S:=l}]++[⟨k,0,args++ϱ z 0,[]⟩]}) (AL (p:=6) rfl dZ.o _ rfl) rfl (by rw[gG.o];exact eB.o)
def Nd(a:AN w bm fb cap cur cs fs f lv sv m Fi Fl Fs) :
  Cv w (D (H (U fb 0)) (fs.length+1) cap) (fs++[f]) (fb::(Fi++(Fl++Fs))):=by
 let⟨_,_,c,b,_⟩:=G2 ((a.reframe (fs++[f])).own rfl) a.cFrames;rw[(List.cons.inj b).2];exact c
def RL{b:List AY}{f':AY}(a:AN w bm fb cap cur cs fs f lv sv m Fi Fl Fs)(p:fs=b++[f']) :
  ∃k l n e g h,AN (w.setCell (U bm 0) (D (H (U fb 0)) fs cap)) bm fb cap cur k b f' l n m e g h/\AW (bm::fb::(Fi++(Fl++Fs))) (bm::fb::(e++(g++h))) w (w.setCell (U bm 0) (D (H (U fb 0)) fs cap)):=by
 let⟨e,B⟩:=RK a Br;have g:=a.u2;have s:=a.row;have q:=a.ne.1;let⟨i,j,r,x,y,z,t,u,v,d,A⟩:=e.top p;have a:=d.u2;rw[ϡ _ _ _ _ _ _ g]at a;simp only[Option.some.injEq,Obj.cells.injEq,AC]at a;have g:=congrArg (λe=>e[0]?) a.1;have o:(D (H (U fb 0)) fs cap:ϒ)=D (H (U i 0)) (b.length+1) j:=by simpa using g
 obtain⟨rfl,-,rfl⟩:fb=i/\fs.length=b.length+1/\cap=j:=by simpa using o
 have c:=d.row;rw[heap_setCell_other _ _ _ _ (λa=>q a.symm),s]at c;obtain rfl:cur=r:=by simpa using c
 refine⟨x,y,z,t,u,v,d.reframe m.J,?_⟩;have a:=(List.cons.inj (List.cons.inj A).2).2;rw[<-a];exact B
def Ho(cH o:Option Addr)(fn cF j:Nat)(g:Int)(B:Nat)(cN:B<=w)(i:List BK)(cM:AE B w 5 (CW B) (D o i j) i)(k:Nat)(L:f.fn=k)(y:BK)(h:i[k]?=H y)
  (C:Cv w fv m.J F) (J:m.J=fs++[f]) (cN:fs.length<=199) (m':AV) (a:(y.result=ϑ/\∃(v:Int),in64 v/\f.S=[v]/\fs=[]/\m'={m with Q:=EE v,J:=[]})\/(y.result=ϝ/\f.S=[]/\fs=[]/\m'={m with Q:=EE 0,J:=[]})\/(y.result=ϑ/\∃(v:Int),in64 v/\f.S=[v]/\∃(n:List AY)(c:AY),fs=n++[c]/\c.S.length<1000000/\m'={m with J:=n++[{c with S:=c.S++[v]}]})\/(y.result=ϝ/\f.S=[]/\∃(n:List AY)(c:AY),fs=n++[c]/\m'={m with J:=n++[c]})) :
  ϙ prog 194 #[.agg #[D cH fn cF,O g,D o i j],AJ fv m] w (DK w F m'):=by
 obtain⟨fb,cap,_,cs,lv,sv,Fi,Fl,Fs,rfl,rfl,G⟩:=C.top J;have hF:=Lh C.lt;have N:=Lh a;clear a;let⟨s,t,E,_,_,_,e⟩:=cM;obtain⟨rfl,rfl⟩:o=s/\j=t:=by simpa using E
 have:=(Ll h);rcases e with r|⟨z,A,rfl,_,e⟩
 .rw [r]at h;simp at h
 have l:=(e k y h).2.2.2.1;let⟨W,a⟩:=ε (((w.alloc (K #[D cH fn cF,O g,D (H (U z A)) i j] 25)).alloc (K (AC (D (H (U fb 0)) (fs.length+1) cap) m) 59)).alloc (K (AC Z AI) 59));have u:=Lh (bl3 a);have cJ:=Lh (sz3 a);have o:=Lh (Xf2 a);have d:=Xcs a;have j:=Xbs a;have b:=G W ((w:Nat)+1) m u.o d X;have cK:=Lh b;have P:=AO d;have M:=o.o 2 _ rfl;have l:=AB u.o l;have q:=b.cFn;rw[L]at q;have cI:=Lh j;have:=In k;have:(k:Int)<(i:Int):=X;have:=In fs;have:(fs:Int)<(fs:Int)+1:=X;have:=b.capl;clear d j G b C J E e h L;unfold AJ;unfold AC AI at a;unfold AC;dsimp only at a ⊢;go_in;go_upto_region 1 with fail;rw[<-a];clear a;go_upto_region 3 with fail;go_quiet(fail);let⟨cL,d⟩:=ε (W.drewN nq);have a:ϐ W W cL:=by rw[d];exact AG Br nq
 rw[<-d];have b:=Lh (cK.o.kp a);have cE:=@Lh (AW (((w:Nat)+1)::fb::(Fi++(Fl++Fs))) (((w:Nat)+1)::fb::(Fi++(Fl++Fs))) W cL) (AW.ob a);clear d a P M l q;rcases N.o with ⟨e,v,cO,d,a,rfl⟩|⟨e,d,a,rfl⟩|⟨e,v,cO,d,n,c,a,cP,rfl⟩|⟨e,d,n,c,a,rfl⟩
 .have P:=Lh d
  have:=Lh a;have:((fs:Int)==0)=ϑ:=by rw[a];rfl
  rw[e];clear d a e N;have q:=AO b.o.u2;have l:=AX b.o.u2;go_wp2_with fail;refine(BZ m b.o X [] v P.o).mono ?_;rintro j o⟨rfl,_,_,_,i,h⟩;have j:=Lh i;have cG:=Lh (cE.o.trans h);clear i h;clear q l;have C:=AO j.o.u2;have q:=AX j.o.u2;go_wp2_with fail;refine(Ib _ _ _ m (EE v) _).mono ?_;rintro i w9⟨rfl,l⟩;let⟨h,i,j⟩:=EF (R:=(w:Nat)+1+1) (bm:=(w:Nat)+1) (F0:=[]) (F2:=[]) (m1:={m with Q:=EE v,J:=[]}) (fv:=Z) u.o (Ds w9) (cG.o.trans ((AW.ob l).wide (Fs:=[]) (Fs':=[]) ψ ψ)) ψ hF.o X X X (by have:=cJ.o;omega) cI.o;have L:=Lh i;have E:=Lh j;have:=AO h;have:=AX h;clear h i j l;clear C q;unfold AJ AC;go_wp2;exact ϖ (v:=AJ Z {m with Q:=EE v,J:=[]}) (AL (p:=4) rfl L.o _ rfl) rfl E.o
 .have:=Lh d
  have:=Lh a;have:((fs:Int)==0)=ϑ:=by rw[a];rfl
  rw[e];clear d a e N;have C:=AO b.o.u2;have q:=AX b.o.u2;have:=b;have Y:=cE;go_wp2_with fail;refine(Ib _ _ _ m (EE 0) _).mono ?_;rintro i w9⟨rfl,l⟩;let⟨h,i,j⟩:=EF (R:=(w:Nat)+1+1) (bm:=(w:Nat)+1) (F0:=[]) (F2:=[]) (m1:={m with Q:=EE 0,J:=[]}) (fv:=Z) u.o (Ds w9) (Y.o.trans ((AW.ob l).wide (Fs:=[]) (Fs':=[]) ψ ψ)) ψ hF.o X X X (by have:=cJ.o;omega) cI.o;have M:=Lh i;have G:=Lh j;have:=AO h;have:=AX h;clear h i j l;clear C q;unfold AJ AC;go_wp2;exact ϖ (v:=AJ Z {m with Q:=EE 0,J:=[]}) (AL (p:=4) rfl M.o _ rfl) rfl G.o
 .have Q:=Lh d
  have C:=Lh a;have:((fs:Int)==0)=ϝ:=by rw[a];simp;omega
  rw[e];clear d a e N;have J:=AO b.o.u2;have q:=AX b.o.u2;go_wp2_with fail;refine(BZ m b.o X [] v Q.o).mono ?_;rintro j cB⟨rfl,_,_,_,i,h⟩;have l:=Lh i;have cD:=Lh (cE.o.trans h);clear i h;clear J q;have J:=AO l.o.u2;have q:=AX l.o.u2;go_upto_region 9 with fail;let⟨_,_,_,_,_,_,j,i⟩:=RL l.o C.o;let⟨_,l⟩:=ε (cB.setCell (U (w+1) 0) (D (H (U fb 0)) fs cap));rw[<-l]at j i ⊢;have h:=Lh j;have cC:=Lh (cD.o.trans i);clear j i l;clear J q;have J:=AO h.o.u2;have q:=AX h.o.u2;go_wp2_with fail;refine(DP m h.o (by have:=congrArg List.length C.o;simp at this;omega) v cO cP).mono ?_;rintro h l⟨rfl,_,_,_,j,i⟩;have h:=Lh j;have o:=Lh (cC.o.trans i);clear j i;clear J q;have:=AO h.o.u2;have:=AX h.o.u2;let⟨i,j,l⟩:=EF (R:=(w:Nat)+1+1) (bm:=(w:Nat)+1) (m1:={m with J:=n++[{c with S:=c.S++[v]}]}) u.o (Nd h.o) o.o (λx q=>List.mem_cons_of_mem _ q) hF.o X X X (by have:=cJ.o;omega) cI.o;have V:=Lh j;have T:=Lh l;have:=AO i;have:=AX i;clear i j l;go_wp2;exact ϖ (v:=AJ (D (H (U fb 0)) (n.length+1) cap) {m with J:=n++[{c with S:=c.S++[v]}]}) (AL (p:=4) rfl V.o _ rfl) rfl T.o
 have:=Lh d;have cA:=Lh a;have:((fs:Int)==0)=ϝ:=by rw[a];simp;omega
 rw[e];clear d a e N;have N:=AO b.o.u2;have J:=AX b.o.u2;have a:=b;have S:=cE;go_upto_region 9 with fail;let⟨_,_,_,_,_,_,d,b⟩:=RL a.o cA.o;let⟨_,e⟩:=ε (cL.setCell (U (w+1) 0) (D (H (U fb 0)) fs cap));rw[<-e]at d b ⊢;have a:=Lh d;have h:=Lh (S.o.trans b);clear d b e;clear N J;have:=AO a.o.u2;have:=AX a.o.u2;have i:=a;have e:=h;let⟨a,b,d⟩:=EF (R:=(w:Nat)+1+1) (bm:=(w:Nat)+1) (m1:={m with J:=n++[c]}) u.o (Nd i.o) e.o (λx q=>List.mem_cons_of_mem _ q) hF.o X X X (by have:=cJ.o;omega) cI.o;have N:=Lh b;have J:=Lh d;have:=AO a;have:=AX a;clear a b d;go_wp2;exact ϖ (v:=AJ (D (H (U fb 0)) (n.length+1) cap) {m with J:=n++[c]}) (AL (p:=4) rfl N.o _ rfl) rfl J.o
def Kk(a:AN w bm fb cap cur cs fs f lv sv m Fi Fl Fs) :
  Cv w (D (H (U fb 0)) (fs.length+1) cap) (fs++[f]) (fb::(Fi++(Fl++Fs))):=by
 let⟨_,_,c,b,_⟩:=G2 ((a.reframe (fs++[f])).own rfl) a.cFrames;rw[(List.cons.inj b).2];exact c
def Eb(a j k:Option Addr)(n d fn e h f:Nat)(g c xa:Int)(hF:∀i∈F,i<(w:Nat))(A:Hid (E0 c=ϑ))
  (i:∀W,ϐ w w W->ϙ prog 192 #[AJ (D a n d) m,.agg #[O c,O xa]] W (DK W F m')) :
  ϙ prog 170 #[.agg #[D j fn e,O g,D k h f],AJ (D a n d) m,.agg #[O c,O xa]] w (DK w F m'):=by
 have B:=Lh hF;have y:=Lh i;let⟨W,b⟩:=ε ((((w.alloc (K #[D j fn e,O g,D k h f] 25)).alloc (K (AC (D a n d) m) 59)).alloc (K #[O c,O xa] 96)).alloc (K (AC Z AI) 59));have l:=Lh (bl4 b);have z:=Lh (sz4 b);have:=Xmk b;have f:=Xko b;have e:=Lh (Xl6 b);have d:=Xkl b;have:=AO f;have:=Γ2 e.o;have x:=Lh d;unfold AJ;unfold AC AI at b;unfold AC;dsimp only at b ⊢;go_in;go_upto_region 1 with fail;rw[<-b];clear b;go_wp2_with fail;refine(Ea c _).mono ?_;rintro C w'⟨rfl,rfl⟩;rw[A.o];go_wp2_with fail;refine(y.o W l.o).mono ?_;rintro E w9⟨_,F9,rfl,b,o⟩;obtain⟨t,u,rfl⟩:=b.u1;let⟨f,d,e⟩:=EF (R:=(w:Nat)+1+1+1) (bm:=(w:Nat)+1) l.o b (o.wide (F:=((w:Nat)+1)::F) (F':=F9) (λc b=>List.mem_cons_of_mem _ b) (λc b=>.inl b)) (λc b=>b) B.o X X X (by have:=z.o;omega) x.o;let⟨s,b⟩:=ε m'.J.length;rw[<-b]at d e ⊢;have q:=Lh d;have r:=Lh e;have:=AO f;have:=AX f;clear b;unfold AJ AC;go_wp2;exact ϖ (v:=AJ (D t s u) m') (AL (p:=6) rfl q.o _ rfl) rfl r.o
def Qd(a h i:Option Addr)(n j fn d f e:Nat)(g c xa:Int)(hF:∀k∈F,k<(w:Nat))(A:Hid (E0 c=ϝ))(k:(c==9)=ϑ)
  (k:∀W,ϐ w w W->ϙ prog 193 #[.agg #[D h fn d,O g,D i f e],AJ (D a n j) m,O xa] W (DK W F m')) :
  ϙ prog 170 #[.agg #[D h fn d,O g,D i f e],AJ (D a n j) m,.agg #[O c,O xa]] w (DK w F m'):=by
 have B:=Lh hF;have y:=Lh k;let⟨W,b⟩:=ε ((((w.alloc (K #[D h fn d,O g,D i f e] 25)).alloc (K (AC (D a n j) m) 59)).alloc (K #[O c,O xa] 96)).alloc (K (AC Z AI) 59));have l:=Lh (bl4 b);have z:=Lh (sz4 b);have h:=Xmk b;have d:=Xko b;have f:=Lh (Xl6 b);have e:=Xkl b;have:=AO d;have:=Γ3 h;have:=Γ2 f.o;have x:=Lh e;unfold AJ;unfold AC AI at b;unfold AC;dsimp only at b ⊢;go_in;go_upto_region 1 with fail;rw[<-b];clear b;go_wp2_with fail;refine(Ea c _).mono ?_;rintro C w'⟨rfl,rfl⟩;rw[A.o];go_wp2_with fail;refine(y.o W l.o).mono ?_;rintro E w9⟨_,F9,rfl,b,o⟩;obtain⟨t,u,rfl⟩:=b.u1;let⟨f,d,e⟩:=EF (R:=(w:Nat)+1+1+1) (bm:=(w:Nat)+1) l.o b (o.wide (F:=((w:Nat)+1)::F) (F':=F9) (λc b=>List.mem_cons_of_mem _ b) (λc b=>.inl b)) (λc b=>b) B.o X X X (by have:=z.o;omega) x.o;let⟨s,b⟩:=ε m'.J.length;rw[<-b]at d e ⊢;have q:=Lh d;have r:=Lh e;have:=AO f;have:=AX f;clear b;unfold AJ AC;go_wp2;exact ϖ (v:=AJ (D t s u) m') (AL (p:=6) rfl q.o _ rfl) rfl r.o
def Qc(a h i:Option Addr)(n j fn d f e:Nat)(g c xa:Int)(hF:∀k∈F,k<(w:Nat))(A:Hid (E0 c=ϝ))(k:(c==9)=ϝ)(k:(c==10)=ϑ)
  (k:∀W,ϐ w w W->ϙ prog 194 #[.agg #[D h fn d,O g,D i f e],AJ (D a n j) m] W (DK W F m')) :
  ϙ prog 170 #[.agg #[D h fn d,O g,D i f e],AJ (D a n j) m,.agg #[O c,O xa]] w (DK w F m'):=by
 have B:=Lh hF;have y:=Lh k;let⟨W,b⟩:=ε ((((w.alloc (K #[D h fn d,O g,D i f e] 25)).alloc (K (AC (D a n j) m) 59)).alloc (K #[O c,O xa] 96)).alloc (K (AC Z AI) 59));have l:=Lh (bl4 b);have z:=Lh (sz4 b);have h:=Xmk b;have d:=Xko b;have e:=Lh (Xl6 b);have f:=Xkl b;have:=AO d;have:=Γ3 h;have:=e.o 0 _ rfl;have x:=Lh f;unfold AJ;unfold AC AI at b;unfold AC;dsimp only at b ⊢;go_in;go_upto_region 1 with fail;rw[<-b];clear b;go_wp2_with fail;refine(Ea c _).mono ?_;rintro C w'⟨rfl,rfl⟩;rw[A.o];go_wp2_with fail;refine(y.o W l.o).mono ?_;rintro E w9⟨_,F9,rfl,b,o⟩;obtain⟨t,u,rfl⟩:=b.u1;let⟨f,d,e⟩:=EF (R:=(w:Nat)+1+1+1) (bm:=(w:Nat)+1) l.o b (o.wide (F:=((w:Nat)+1)::F) (F':=F9) (λc b=>List.mem_cons_of_mem _ b) (λc b=>.inl b)) (λc b=>b) B.o X X X (by have:=z.o;omega) x.o;let⟨s,b⟩:=ε m'.J.length;rw[<-b]at d e ⊢;have q:=Lh d;have r:=Lh e;have:=AO f;have:=AX f;clear b;unfold AJ AC;go_wp2;exact ϖ (v:=AJ (D t s u) m') (AL (p:=6) rfl q.o _ rfl) rfl r.o
def BV(a j k:Option Addr)(n d fn f i h:Nat)(g c xa:Int)(hF:∀e∈F,e<(w:Nat))(A:Hid (E0 c=ϝ))(e:(c==9)=ϝ)(e:(c==10)=ϝ)(B:Hid (decide (BB c)=ϝ))
  (e:∀W,ϐ w w W->ϙ prog 196 #[AJ (D a n d) m,.agg #[O c,O xa]] W (DK W F m')) :
  ϙ prog 170 #[.agg #[D j fn f,O g,D k i h],AJ (D a n d) m,.agg #[O c,O xa]] w (DK w F m'):=by
 have J:=Lh hF;have y:=Lh e;let⟨W,b⟩:=ε ((((w.alloc (K #[D j fn f,O g,D k i h] 25)).alloc (K (AC (D a n d) m) 59)).alloc (K #[O c,O xa] 96)).alloc (K (AC Z AI) 59));have o:=Lh (bl4 b);have z:=Lh (sz4 b);have:=Xmk b;have f:=Xko b;have e:=Lh (Xl6 b);have d:=Xkl b;have:=AO f;have:=Γ2 e.o;have x:=Lh d;unfold AJ;unfold AC AI at b;unfold AC;dsimp only at b ⊢;go_in;go_upto_region 1 with fail;rw[<-b];clear b;go_wp2_with fail;refine(Ea c _).mono ?_;rintro C w'⟨rfl,rfl⟩;rw[A.o];go_wp2_with fail;refine(Lf c _).mono ?_;rintro E w'⟨rfl,rfl⟩;rw[B.o];go_wp2_with fail;refine(y.o W o.o).mono ?_;rintro G w9⟨_,F9,rfl,b,l⟩;obtain⟨t,u,rfl⟩:=b.u1;let⟨f,d,e⟩:=EF (R:=(w:Nat)+1+1+1) (bm:=(w:Nat)+1) o.o b (l.wide (F:=((w:Nat)+1)::F) (F':=F9) (λc b=>List.mem_cons_of_mem _ b) (λc b=>.inl b)) (λc b=>b) J.o X X X (by have:=z.o;omega) x.o;let⟨s,b⟩:=ε m'.J.length;rw[<-b]at d e ⊢;have q:=Lh d;have r:=Lh e;have:=AO f;have:=AX f;clear b;unfold AJ AC;go_wp2;exact ϖ (v:=AJ (D t s u) m') (AL (p:=6) rfl q.o _ rfl) rfl r.o
def Na(r t:Option Addr)(fn n q o:Nat)(g b xa:Int)(d:BB b)(l:List Int)(u v:Int)(C:f.S=l++[u]++[v])(bK:BP u)(z:BP v)(B:¬BG b u v=0)(k:Cv w fv m.J F)(A:m.J=fs++[f])(bB:fs.length<=199)(bB:f.S.length<1000000) :
  ϙ prog 170 #[.agg #[D r fn n,O g,D t q o],AJ fv m,.agg #[O b,O xa]] w (DK w F {m with Q:=Ah (BG b u v),J:=[]}):=by
 obtain⟨fb,cap,_,cs,lv,sv,Fi,Fl,Fs,rfl,rfl,J⟩:=k.top A;let⟨bG,bH,bJ,y⟩:=Λ4 k.lt C B d;have k:=d;unfold BB at k;have bD:=@Lh (E0 b=ϝ) (by unfold E0;simp;omega);have bF:=@Lh (decide (BB b)=ϑ) (by simp[d]);have:=ξ b 9;have:=ξ b 10;let⟨W,a⟩:=ε ((((w.alloc (K #[D r fn n,O g,D t q o] 25)).alloc (K (AC (D (H (U fb 0)) (fs.length+1) cap) m) 59)).alloc (K #[O b,O xa] 96)).alloc (K (AC Z AI) 59));have aZ:=Lh (bl4 a);have bA:=Lh (sz4 a);have:=Xmk a;have d:=Xko a;have k:=Lh (Xl6 a);have n:=Xkl a;have:=AO d;let⟨i,s⟩:=Γ2 k.o;have:=Bl i;have bI:=Lh n;have k:=J W ((w:Nat)+1) m aZ.o d X;have G:=Lh k;have j:(w:Nat)+1+1∉(((w:Nat)+1)::fb::(Fi++(Fl++Fs))):=λc=>by
  rw[ϰ]at c;rcases c with c|c
  .omega
  have:=bG.o _ c;omega
 unfold AJ;unfold AC AI at a;unfold AC;dsimp only at a ⊢;go_in;go_upto_region 1 with fail;rw[<-a];clear a;go_wp2_with fail;refine(Ea b _).mono ?_;rintro c w'⟨rfl,rfl⟩;rw[bD.o];go_wp2_with fail;refine(Lf b _).mono ?_;rintro c w'⟨rfl,rfl⟩;rw[bF.o];go_wp2_with fail;refine(BZ m G.o X (l++[u]) v bH.o).mono ?_;rintro c n⟨rfl,o,q,r,k,d⟩;have i:=d.cell i j;have s:=d.cell s j;have:=Bl i;have bE:=d.notin (by have:=bA.o;omega) j;let⟨L,M,N,P,Q,S,T,V,Y⟩:=AO k.u2;have aX:=@Lh (AN n.drew (w+1) fb cap o cs fs {f with S:=l++[u]} lv q m Fi Fl r) (k.kp (AG Br 1));have aY:=Lh d;go_upto_region 10 with fail;go_region_held3 (λa=>a.cell? (U (w+1) 0)=H (D (H (U fb 0)) (fs.length+1) cap)/\a.cell? (U (w+1) 1)=H (O m.Q.K)/\a.cell? (U (w+1) 2)=H (O m.Q.O)/\a.cell? (U (w+1) 3)=H (O m.Q.D)/\a.cell? (U (w+1) 4)=H (O m.Q.V)/\a.cell? (U (w+1) 5)=H (O m.Q.X)/\a.cell? (U (w+1) 6)=H (O m.Y)/\a.cell? (U (w+1) 7)=H (O m.C)/\a.cell? (U (w+1) 8)=H (O m.I)/\a.cell? (U (w+1+1) 0)=H (O b))
  (first|exact⟨L,M,N,P,Q,S,T,V,Y,i⟩|exact⟨j0,j1,j2,j3,j4,j5,j6,j7,j8,x⟩)
  (first|(go_at_call 197;refine(BZ m aX.o X l u rfl).mono ?_;rintro c bC⟨rfl,_,_,_,h,e⟩;let⟨j0,j1,j2,j3,j4,j5,j6,j7,j8⟩:=AO h.u2;have x:=e.cd i bE;have:=Lh h;have E:=Lh ((aY.o.trans (AW.ob (AG Br 1))).trans e);clear h e)|(go_at_call 198;refine(Mb b u v y.o bK z _).mono ?_;rintro c w3⟨rfl,rfl⟩))
 have:=τ (BG b u v) 0 bJ.o;go_wp2_with fail;refine(DX _ _ _ m (BG b u v) _).mono ?_;rintro c w9⟨rfl,d⟩;let⟨a,c,e⟩:=EF (R:=(w:Nat)+1+1+1) (bm:=(w:Nat)+1) (F0:=[]) (F2:=[]) (m1:={m with Q:=Ah (BG b u v),J:=[]}) (fv:=Z) aZ.o (Ds w9) (E.o.trans ((AW.ob d).wide (Fs:=[]) (Fs':=[]) ψ ψ)) ψ bG.o X X X (by have:=bA.o;omega) bI.o;have y:=Lh c;have z:=Lh e;have:=AO a;have:=AX a;unfold AJ AC;go_wp2;exact ϖ (v:=AJ Z {m with Q:=Ah (BG b u v),J:=[]}) (AL (p:=6) rfl y.o _ rfl) rfl z.o
def Sr(t y:Option Addr)(fn o s r:Nat)(g a xa:Int)(i:BB a)(l:List Int)(u v:Int)(q:f.S=l++[u]++[v])(bX:BP u)(bW:BP v)(E:BG a u v=0)(Y:-1<=m.C/\m.C<=4611686018427387904)(n:Cv w fv m.J F)(C:m.J=fs++[f])(Y:fs.length<=199)(Y:f.S.length<1000000) :
  ϙ prog 170 #[.agg #[D t fn o,O g,D y s r],AJ fv m,.agg #[O a,O xa]] w (DK w F {m with C:=m.C+DS a,J:=fs++[{f with S:=l++[Du a u v]}]}):=by
 obtain⟨fb,cap,_,cs,lv,sv,Fi,Fl,Fs,rfl,rfl,A⟩:=n.top C;let⟨bV,bR,S,bU⟩:=Λ4 n.lt q E i;have z:=i;unfold BB at z;have bO:=@Lh (E0 a=ϝ) (by unfold E0;simp;omega);have bP:=@Lh (decide (BB a)=ϑ) (by simp[i]);have:=ξ a 9;have:=ξ a 10;let⟨W,b⟩:=ε ((((w.alloc (K #[D t fn o,O g,D y s r] 25)).alloc (K (AC (D (H (U fb 0)) (fs.length+1) cap) m) 59)).alloc (K #[O a,O xa] 96)).alloc (K (AC Z AI) 59));have bS:=Lh (bl4 b);have bT:=Lh (sz4 b);have G:=Xmk b;have d:=Xko b;have o:=Lh (Xl6 b);have k:=Xkl b;let⟨_,_,_,_,_,_,_,_,_⟩:=AO d;let⟨h,B⟩:=Γ2 o.o;have:=Bl h;have bZ:=Lh k;have e:=A W ((w:Nat)+1) m bS.o d X;have N:=Lh e;have j:(w:Nat)+1+1∉(((w:Nat)+1)::fb::(Fi++(Fl++Fs))):=λc=>by
  rw[ϰ]at c;rcases c with c|c
  .omega
  have:=bV.o _ c;omega
 have bY:l.length<1000000:=by have:=congrArg List.length q;simp at this;omega
 clear G d k A e n C q E i z;unfold AJ;unfold AC AI at b;unfold AC;dsimp only at b ⊢;go_in;go_upto_region 1 with fail;rw[<-b];clear b;go_wp2_with fail;refine(Ea a _).mono ?_;rintro c w'⟨rfl,rfl⟩;rw[bO.o];go_wp2_with fail;refine(Lf a _).mono ?_;rintro c w'⟨rfl,rfl⟩;rw[bP.o];go_wp2_with fail;refine(BZ m N.o X (l++[u]) v bR.o).mono ?_;rintro c o⟨rfl,r,s,t,d,b⟩;have h:=b.cell h j;have B:=b.cell B j;have P:=Bl h;have bN:=b.notin (by have:=bT.o;omega) j;let⟨i,z,A,C,E,G,J,L,M⟩:=AO d.u2;have T:=@Lh (AN o.drew (w+1) fb cap r cs fs {f with S:=l++[u]} lv s m Fi Fl t) (d.kp (AG Br 1));have V:=Lh b;clear d b;go_upto_region 10 with fail;go_region_held3 (λb=>b.cell? (U (w+1) 0)=H (D (H (U fb 0)) (fs.length+1) cap)/\b.cell? (U (w+1) 1)=H (O m.Q.K)/\b.cell? (U (w+1) 2)=H (O m.Q.O)/\b.cell? (U (w+1) 3)=H (O m.Q.D)/\b.cell? (U (w+1) 4)=H (O m.Q.V)/\b.cell? (U (w+1) 5)=H (O m.Q.X)/\b.cell? (U (w+1) 6)=H (O m.Y)/\b.cell? (U (w+1) 7)=H (O m.C)/\b.cell? (U (w+1) 8)=H (O m.I)/\b.cell? (U (w+1+1) 0)=H (O a))
  (first|exact⟨i,z,A,C,E,G,J,L,M,h⟩|exact⟨j0,j1,j2,j3,j4,j5,j6,j7,j8,n⟩)
  (first|(go_at_call 197;refine(BZ m T.o X l u rfl).mono ?_;rintro c k⟨rfl,_,_,_,e,d⟩;let⟨j0,j1,j2,j3,j4,j5,j6,j7,j8⟩:=AO e.u2;have n:=d.cd h bN;have q:=Lh e;have bQ:=Lh ((V.o.trans (AW.ob (AG Br 1))).trans d);clear e d)|(go_at_call 198;refine(Mb a u v bU.o bX bW _).mono ?_;rintro c w3⟨rfl,rfl⟩))
 clear h B P i z A C E G J L M;have b:Bo a u v=Du a u v:=by unfold Bo;rw[if_pos S.o]
 rw[S.o,b];clear b;have C:=Bl n;have B:=q.o.frm 7;have z:D0 (decide (20<=a)&&decide (a<=23))=DS a:=by unfold D0 DS;simp
 have:=KV a;have A:IntKind.i64.wrap (m.C+DS a)=m.C+DS a:=by rw[IntKind.wrap_i64];omega
 go_upto_region 13 with fail;go_region_with (first|(go_at_call 200;refine(L8 a _).mono ?_;rintro c w'⟨rfl,rfl⟩)|(go_at_call 199;refine(Eo (decide (20<=a)&&decide (a<=23)) _).mono ?_;rintro c w'⟨rfl,rfl⟩;rw[z]));all_goals
  let⟨j,i⟩:=KD q.o Br (m':={m with C:=m.C+DS a}) 7 (O (m.C+DS a)) (by unfold AC;rfl);let⟨e,d⟩:=ε ((k.setCell (U (w+1) 7) (O (m.C+DS a))).drew);have b:ϐ (k.setCell (U (w+1) 7) (O (m.C+DS a))).heap.size (k.setCell (U (w+1) 7) (O (m.C+DS a))) e:=by rw[d];exact AG Br 1
  have h:=j.kp b;have e:=i.trans (AW.ob b);clear j i b A;rw[<-d];have i:=Lh h;have A:=Lh (bQ.o.trans e);clear h e d j0 j1 j2 j3 j4 j5 j6 j7 j8 n C B z;let⟨B,C,E,G,J,L,M,P,Q⟩:=AO i.o.u2;go_wp2_with fail;refine(DP {m with C:=m.C+DS a} i.o X (Du a u v) (K9 bU.o bX bW S.o).in64 bY).mono ?_;rintro c b⟨rfl,_,_,_,d,i⟩;let⟨b,c,e⟩:=EF (R:=(w:Nat)+1+1+1) (bm:=(w:Nat)+1) (m1:={m with C:=m.C+DS a,J:=fs++[{f with S:=l++[Du a u v]}]}) bS.o (Kk d) (A.o.trans i) (λx h=>List.mem_cons_of_mem _ h) bV.o X X X (by have:=bT.o;omega) bZ.o;have z:=Lh c;have n:=Lh e;let⟨_,_,_,_,_,_,_,_,_⟩:=AO b;let⟨_,_,_,_,_,_,_,_,_⟩:=AX b;clear b c e;clear B C E G J L M P Q;let⟨_,_,_,_,_,_,_,_,_⟩:=AO d.u2;clear d i;go_wp2;exact ϖ (v:=AJ (D (H (U fb 0)) (fs.length+1) cap) {m with C:=m.C+DS a,J:=fs++[{f with S:=l++[Du a u v]}]}) (AL (p:=6) rfl z.o _ rfl) rfl n.o
def outM:KM->AV
 |.go m=>m
 |.stop r m=>EG r m
def G6(a:r.K≠4)(a:r.K≠5):outM (.stop r m)={m with Q:=r}:=by
 show EG r m=_;unfold EG;rw[if_neg X]
def FE{e:Int}:outM (.stop (Ah e) m)={m with Q:=Ah e,J:=[]}:=by
 show EG _ m=_;unfold EG;rw[if_pos (.inr rfl)]
def MY{v:Int}:outM (.stop (EE v) m)={m with Q:=EE v,J:=[]}:=by
 show EG _ m=_;unfold EG;rw[if_pos (.inl rfl)]
inductive Ft(q:Rq):KM->Prop
 |go (m1:AV):m1.Q=q->Ft q (.go m1)
 |stop (r:Rq) (m1:AV):Ft q (.stop r m1)
def Ft.ite{q:Rq}{p:Prop}[Decidable p]{a b:KM}(c:Ft q a)(c:Ft q b):Ft q (if p then a else b):=by split<;>assumption
def Sw(c:AQ)(m:AV)(fs:List AY)(f:AY)(y:BK)(x:Cd):Ft m.Q (Df c m fs f y x):=by
 unfold Df;simp only[];repeat' apply Ft.ite
 all_goals first|exact .go _ rfl|exact .stop _ _|skip
 .cases Dt c x.a with
  |none=>exact .stop _ _
  |some a=>
   simp only[];apply Ft.ite
   .exact .go _ rfl
   exact .stop _ _
 cases fs.getLast? with
 |none=>exact .stop _ _
 |some a=>exact .go _ rfl
def Tw{c a b:Int}(d:¬BG c a b=0):DS c=0:=by
 unfold DS;rw[if_neg];intro c;refine d ?_;unfold BG;rw[if_neg X,if_neg X,if_neg X,if_neg X]
def Sq(hs:AU c)(bR:Bv c){y:BK}{x:Cd}(hg:Dr c m fs f)(bT:m.I<100000)(q:Gr c f y)(hr:Reach c y f.pc.toNat f.S.length)(J:y.q9[f.pc.toNat]?=H x)(s:AM c y x<=f.S.length)(aI:x.op=10->(f.S:Int)=AM c y x)
  (k i:Option Addr) (fn l j:Nat) (g:Int) (B:Nat) (hB:B<=w) (bQ:AE B w 5 (CW B) (D i c.q0 j) c.q0) (hV:Cv w fv (fs++[{f with pc:=f.pc+1}]) F) (bS:∀b∈F,B<=b) :
  ϙ prog 170 #[.agg #[D k fn l,O g,D i c.q0 j],AJ fv {m with I:=m.I+1,J:=fs++[{f with pc:=f.pc+1}]},.agg #[O x.op,O x.a]] w (DK w F (outM (Df c m fs f y x))):=by
 have hn:=hg.len;have L:=hg.nums;have bF:=(hs.wf q.fn).op x (Lm J);have bJ:=bR y (Lm q.fn);have bP:=DJ (hs.wf q.fn) (hs.snd q.fn) hr;have t:f.S.length<1000000-2:=X;have aX:f.S.length<1000000:=X;have bD:=hg.low.small hs bR;have aW:∀f∈fs,f.S.length<1000000:=λf hf=>by have:=bD f (List.mem_reverse.2 hf);omega
 have hk:=(Int.toNat_of_nonneg q.fn0).symm;have bH:=λn h=>(q.sv n h).in64;have bL:=hs.fok q.fn;unfold CX at bL;have u:1<=f.S.length->BP (f.S.getLastD 0):=λr=>q.sv _ (by rw[Bq r];simp);have hu:2<=f.S.length->BP (f.S.dropLast.getLastD 0):=λr=>q.sv _ (by rw[FL r];simp);have p:=hV.lt;obtain⟨a,cp,rfl⟩:=hV.u1;have o:∀W,ϐ w w W->Cv W (D a (fs++[{f with pc:=f.pc+1}]).length cp) (fs++[{f with pc:=f.pc+1}]) F:=λW d=>hV.kp (λb q=>d.block b (p b q));have aS:∀W,ϐ w w W->B<=W.heap.size:=λW d=>Nt hB d.size;have aT:∀W,ϐ w w W->AE B W 5 (CW B) (D i c.q0 j) c.q0:=λW d=>bQ.funs (d.mono hB);have aF:in64 x.a:=by
  obtain⟨a0,c0,r,-,-,-,v⟩:=bQ;rcases v with h0|⟨b0,o0,rfl,-,v⟩
  .have:=q.fn;rw[h0]at this;simp at this
  obtain⟨yv,-,yc⟩:=(v _ y q.fn).2.2.2.2.1;obtain⟨a1,c1,r,-,-,-,bB⟩:=yc;rcases bB with h0|⟨b1,o1,rfl,-,bB⟩
  .rw [h0]at J;simp at J
  exact(bB _ x J).2.2.2
 have bK:c.q0.length<=1000000:=by have:=hs.1.2.2.2.2.1;omega
 unfold Df;simp only[];by_cases e1:x.op=1
 .rw [if_pos e1,e1]
  exact BV a k i _ _ fn l _ j g 1 x.a p (Lh rfl) rfl rfl (Lh (by unfold BB;decide)) (λW d=>DG (m:={m with I:=m.I+1,J:=fs++[{f with pc:=f.pc+1}]}) (fs:=fs) (f:={f with pc:=f.pc+1}) 1 x.a _ (.inl ⟨rfl,aF,rfl⟩) (o W d) rfl X t)
 rw[if_neg e1];by_cases e2:x.op=2
 .rw [if_pos e2,e2]
  have aV:=hs.lim q.fn J (n:=y.L) (by rw[e2];rfl);have bC:=q.loc;have hi:f.L[x.a.toNat]?=H (f.L.getD x.a.toNat 0):=getD_some X;have aY:=(Int.toNat_of_nonneg aV.1).symm;refine BV a k i _ _ fn l _ j g 2 x.a p (Lh rfl) rfl rfl (Lh (by unfold BB;decide)) (λW d=>?_);exact DG (m:={m with I:=m.I+1,J:=fs++[{f with pc:=f.pc+1}]}) (fs:=fs) (f:={f with pc:=f.pc+1}) 2 x.a _ (.inr (.inl ⟨rfl,x.a.toNat,aY,(f.L.getD x.a.toNat 0),hi,(q.lv _ (Lm hi)).in64,rfl⟩)) (o W d) rfl X t
 rw[if_neg e2];by_cases E:x.op=3
 .rw [if_pos E]
  have e:=BN (c:=c) (y:=y) (x:=x) (by rw[E];decide);rw[E]at e;rw[e.1]at s;simp[Bk]at s;have aV:=hs.lim q.fn J (n:=y.L) (by rw[E];rfl);have bC:=q.loc;have aY:=(Int.toNat_of_nonneg aV.1).symm;rw[E];refine BV a k i _ _ fn l _ j g 3 x.a p (Lh rfl) rfl rfl (Lh (by unfold BB;decide)) (λW d=>?_);exact Gc (m:={m with I:=m.I+1,J:=fs++[{f with pc:=f.pc+1}]}) (fs:=fs) (f:={f with pc:=f.pc+1}) 3 x.a _ (.inl ⟨rfl,x.a.toNat,aY,(show x.a.toNat<f.L.length by omega),f.S.dropLast,(f.S.getLastD 0),(Bq (show 1<=f.S.length by omega)),(u X).in64,rfl⟩) (o W d) rfl X t
 rw[if_neg E];by_cases e4:x.op=4
 .rw [if_pos e4,e4,G6 ψ ψ]
  exact Eb a k i _ _ fn l _ j g 4 x.a p (Lh rfl) (λW d=>JM (m:={m with I:=m.I+1,J:=fs++[{f with pc:=f.pc+1}]}) (fs:=fs) (f:={f with pc:=f.pc+1}) 4 x.a _ (.inl ⟨rfl,rfl⟩) (o W d) rfl X t)
 rw[if_neg e4];by_cases e5:x.op=5
 .rw [if_pos e5,G6 ψ ψ]
  have e:=BN (c:=c) (y:=y) (x:=x) (by rw[e5];decide);rw[e5]at e;rw[e.1]at s;simp[Bk]at s;rw[e5];exact Eb a k i _ _ fn l _ j g 5 x.a p (Lh rfl) (λW d=>JM (m:={m with I:=m.I+1,J:=fs++[{f with pc:=f.pc+1}]}) (fs:=fs) (f:={f with pc:=f.pc+1}) 5 x.a _ (.inr (.inr (.inl ⟨rfl,f.S.dropLast,(f.S.getLastD 0),(Bq (show 1<=f.S.length by omega)),rfl⟩))) (o W d) rfl X t)
 rw[if_neg e5];by_cases e6:x.op=6
 .rw [if_pos e6]
  have e:=BN (c:=c) (y:=y) (x:=x) (by rw[e6];decide);rw[e6]at e;rw[e.1]at s;simp[Bk]at s;rw[e6];split
  .rename_i r
   rw[FE];exact Eb a k i _ _ fn l _ j g 6 x.a p (Lh rfl) (λW d=>JM (m:={m with I:=m.I+1,J:=fs++[{f with pc:=f.pc+1}]}) (fs:=fs) (f:={f with pc:=f.pc+1}) 6 x.a _ (.inr (.inr (.inr (.inr (⟨rfl,f.S.dropLast,(f.S.getLastD 0),(Bq (show 1<=f.S.length by omega)),r,rfl⟩))))) (o W d) rfl X t)
  rename_i r;rw[G6 ψ ψ];exact Eb a k i _ _ fn l _ j g 6 x.a p (Lh rfl) (λW d=>JM (m:={m with I:=m.I+1,J:=fs++[{f with pc:=f.pc+1}]}) (fs:=fs) (f:={f with pc:=f.pc+1}) 6 x.a _ (.inr (.inr (.inr (.inl ⟨rfl,f.S.dropLast,(f.S.getLastD 0),(Bq (show 1<=f.S.length by omega)),X,rfl⟩)))) (o W d) rfl X t)
 rw[if_neg e6];by_cases e7:x.op=7
 .rw [if_pos e7]
  have e:=BN (c:=c) (y:=y) (x:=x) (by rw[e7];decide);rw[e7]at e;rw[e.1]at s;simp[Bk]at s;rw[e7];split
  .rename_i r
   rw[FE];exact Eb a k i _ _ fn l _ j g 7 x.a p (Lh rfl) (λW d=>RU (m:={m with I:=m.I+1,J:=fs++[{f with pc:=f.pc+1}]}) (fs:=fs) (f:={f with pc:=f.pc+1}) 7 x.a _ (.inr (⟨rfl,f.S.dropLast.dropLast,(f.S.dropLast.getLastD 0),(f.S.getLastD 0),(FL (show 2<=f.S.length by omega)),r,rfl⟩)) (o W d) rfl X t)
  rename_i r;rw[G6 ψ ψ];exact Eb a k i _ _ fn l _ j g 7 x.a p (Lh rfl) (λW d=>RU (m:={m with I:=m.I+1,J:=fs++[{f with pc:=f.pc+1}]}) (fs:=fs) (f:={f with pc:=f.pc+1}) 7 x.a _ (.inl ⟨rfl,f.S.dropLast.dropLast,(f.S.dropLast.getLastD 0),(f.S.getLastD 0),(FL (show 2<=f.S.length by omega)),X,rfl⟩) (o W d) rfl X t)
 rw[if_neg e7];by_cases e8:x.op=8
 .rw [if_pos e8,e8,G6 ψ ψ]
  exact Eb a k i _ _ fn l _ j g 8 x.a p (Lh rfl) (λW d=>JM (m:={m with I:=m.I+1,J:=fs++[{f with pc:=f.pc+1}]}) (fs:=fs) (f:={f with pc:=f.pc+1}) 8 x.a _ (.inr (.inl ⟨rfl,rfl⟩)) (o W d) rfl X t)
 rw[if_neg e8];have HA:=@Lh (E0 x.op=ϝ) (by unfold E0;simp;omega);by_cases G:x.op=9
 .rw [if_pos G]
  have aV:=hs.lim q.fn J (n:=c.q0.length) (by rw[G];rfl);let⟨z,hz⟩:=Ϡ c.q0 x.a.toNat;have bG:Dt c x.a=H z:=hz;have e:AM c y x=z.params:=by unfold AM;rw[if_pos G,bG]
  rw[e]at s;have bN:=hs.fok hz;unfold CX at bN;rw[bG];simp only[];have bM:f.S=f.S.take (f.S.length-z.params.toNat)++f.S.drop (f.S.length-z.params.toNat):=(List.take_append_drop _ _).symm;have A:(f.S.drop (f.S.length-z.params.toNat)).length=z.params.toNat:=by rw[List.length_drop];omega
  have aY:=(Int.toNat_of_nonneg aV.1).symm;refine Qd a k i _ _ fn l _ j g x.op x.a p HA (by rw[G];rfl) (λW d=>?_);split
  .rename_i hd
   have:=Ua (m:={m with I:=m.I+1,J:=fs++[{f with pc:=f.pc+1}]}) (f:={f with pc:=f.pc+1}) k i fn l j g B (aS W d) bS c.q0 bK (aT W d) x.a.toNat z hz (f.S.take (f.S.length-z.params.toNat)) (f.S.drop (f.S.length-z.params.toNat)) bM (by rw[A];omega) (z.L-z.params).toNat (by rw[A];omega) (by rw[A];omega) bH (o W d) rfl hd;rw[<-aY]at this;exact this
  rename_i hd;rw[FE];exact QR (m:={m with I:=m.I+1,J:=fs++[{f with pc:=f.pc+1}]}) (fs:=fs) (f:={f with pc:=f.pc+1}) k i fn l _ j g x.a (o W d) rfl X
 rw[if_neg G];have E9:=ξ x.op 9 G;by_cases N:x.op=10
 .rw [if_pos N]
  have e:AM c y x=D0 y.result:=by unfold AM;rw[if_neg X,if_pos N]
  have C:=aI N;rw[e]at C;refine Qc a k i _ _ fn l _ j g x.op x.a p HA E9 (by rw[N];rfl) (λW d=>?_);cases M:y.result with
  |true=>
   rw[M]at C;simp[D0]at C;have r:=Bq (st:=f.S) X;have h2:f.S.dropLast=[]:=List.eq_nil_of_length_eq_zero (by rw[List.length_dropLast];omega);rw[h2]at r;have h3:f.S=[f.S.getLastD 0]:=by simpa using r
   cases aU:fs.getLast? with
   |none=>have aH:=List.getLast?_eq_none_iff.1 aU;simp only[if_true];rw[MY];exact Ho (m:={m with I:=m.I+1,J:=fs++[{f with pc:=f.pc+1}]}) (f:={f with pc:=f.pc+1}) k i fn l j g B (aS W d) c.q0 (aT W d) f.fn.toNat hk y q.fn (o W d) rfl X _ (.inl ⟨M,(f.S.getLastD 0),(u X).in64,h3,aH,rfl⟩)
   |some f'=>
    let⟨aR,Y⟩:=List.getLast?_eq_some_iff.1 aU;have A:fs.dropLast=aR:=by rw[Y];simp
    simp only[if_true];rw[A];exact Ho (m:={m with I:=m.I+1,J:=fs++[{f with pc:=f.pc+1}]}) (f:={f with pc:=f.pc+1}) k i fn l j g B (aS W d) c.q0 (aT W d) f.fn.toNat hk y q.fn (o W d) rfl X _ (.inr (.inr (.inl ⟨M,(f.S.getLastD 0),(u X).in64,h3,aR,f',Y,(aW f' (by rw[Y];simp)),rfl⟩)))
  |false=>
   rw[M]at C;simp[D0]at C;cases aU:fs.getLast? with
   |none=>have aH:=List.getLast?_eq_none_iff.1 aU;simp only[Bool.false_eq_true,if_false];rw[MY];exact Ho (m:={m with I:=m.I+1,J:=fs++[{f with pc:=f.pc+1}]}) (f:={f with pc:=f.pc+1}) k i fn l j g B (aS W d) c.q0 (aT W d) f.fn.toNat hk y q.fn (o W d) rfl X _ (.inr (.inl ⟨M,C,aH,rfl⟩))
   |some f'=>
    let⟨aR,Y⟩:=List.getLast?_eq_some_iff.1 aU;have A:fs.dropLast=aR:=by rw[Y];simp
    have aI:Sh f' ϝ 0=f':=by unfold Sh;simp
    simp only[Bool.false_eq_true,if_false];rw[A,aI];exact Ho (m:={m with I:=m.I+1,J:=fs++[{f with pc:=f.pc+1}]}) (f:={f with pc:=f.pc+1}) k i fn l j g B (aS W d) c.q0 (aT W d) f.fn.toNat hk y q.fn (o W d) rfl X _ (.inr (.inr (.inr (⟨M,C,aR,f',Y,rfl⟩))))
 rw[if_neg N];by_cases aZ:x.op=11
 .rw [if_pos aZ,aZ]
  exact BV a k i _ _ fn l _ j g 11 x.a p (Lh rfl) rfl rfl (Lh (by unfold BB;decide)) (λW d=>DG (m:={m with I:=m.I+1,J:=fs++[{f with pc:=f.pc+1}]}) (fs:=fs) (f:={f with pc:=f.pc+1}) 11 x.a _ (.inr (.inr (.inl ⟨rfl,aF,rfl⟩))) (o W d) rfl X t)
 rw[if_neg aZ];by_cases P:x.op=12
 .rw [if_pos P]
  have e:=BN (c:=c) (y:=y) (x:=x) (by rw[P];decide);rw[P]at e;rw[e.1]at s;simp[Bk]at s;rw[P];split
  .rename_i r
   exact BV a k i _ _ fn l _ j g 12 x.a p (Lh rfl) rfl rfl (Lh (by unfold BB;decide)) (λW d=>DG (m:={m with I:=m.I+1,J:=fs++[{f with pc:=f.pc+1}]}) (fs:=fs) (f:={f with pc:=f.pc+1}) 12 x.a _ (.inr (.inr (.inr (.inl ⟨rfl,aF,f.S.dropLast,(f.S.getLastD 0),(Bq (show 1<=f.S.length by omega)),r,rfl⟩)))) (o W d) rfl X t)
  rename_i r;exact BV a k i _ _ fn l _ j g 12 x.a p (Lh rfl) rfl rfl (Lh (by unfold BB;decide)) (λW d=>DG (m:={m with I:=m.I+1,J:=fs++[{f with pc:=f.pc+1}]}) (fs:=fs) (f:={f with pc:=f.pc+1}) 12 x.a _ (.inr (.inr (.inr (.inr (.inl ⟨rfl,f.S.dropLast,(f.S.getLastD 0),(Bq (show 1<=f.S.length by omega)),r,rfl⟩))))) (o W d) rfl X t)
 rw[if_neg P];by_cases bA:x.op=13
 .rw [if_pos bA,bA]
  split
  .rename_i r
   rw[FE];exact BV a k i _ _ fn l _ j g 13 x.a p (Lh rfl) rfl rfl (Lh (by unfold BB;decide)) (λW d=>DG (m:={m with I:=m.I+1,J:=fs++[{f with pc:=f.pc+1}]}) (fs:=fs) (f:={f with pc:=f.pc+1}) 13 x.a _ (.inr (.inr (.inr (.inr (.inr (.inl ⟨rfl,r,rfl⟩)))))) (o W d) rfl X t)
  rename_i r;have bE:=L.potle;have bI:=L.cmp0;unfold Co at bE;exact BV a k i _ _ fn l _ j g 13 x.a p (Lh rfl) rfl rfl (Lh (by unfold BB;decide)) (λW d=>DG (m:={m with I:=m.I+1,J:=fs++[{f with pc:=f.pc+1}]}) (fs:=fs) (f:={f with pc:=f.pc+1}) 13 x.a _ (.inr (.inr (.inr (.inr (.inr (.inr (.inl ⟨rfl,r,⟨L.Y,by show m.Y<=_;omega⟩,rfl⟩))))))) (o W d) rfl X t)
 rw[if_neg bA];by_cases Q:x.op=14
 .rw [if_pos Q]
  have e:=BN (c:=c) (y:=y) (x:=x) (by rw[Q];decide);rw[Q]at e;rw[e.1]at s;simp[Bk]at s;rw[Q];exact BV a k i _ _ fn l _ j g 14 x.a p (Lh rfl) rfl rfl (Lh (by unfold BB;decide)) (λW d=>Gc (m:={m with I:=m.I+1,J:=fs++[{f with pc:=f.pc+1}]}) (fs:=fs) (f:={f with pc:=f.pc+1}) 14 x.a _ (.inr (.inl ⟨rfl,f.S.dropLast,(f.S.getLastD 0),(Bq (show 1<=f.S.length by omega)),(u X),rfl⟩)) (o W d) rfl X t)
 rw[if_neg Q];by_cases R:x.op=26
 .rw [if_pos R]
  have e:=BN (c:=c) (y:=y) (x:=x) (by rw[R];decide);rw[R]at e;rw[e.1]at s;simp[Bk]at s;rw[R];exact BV a k i _ _ fn l _ j g 26 x.a p (Lh rfl) rfl rfl (Lh (by unfold BB;decide)) (λW d=>Gc (m:={m with I:=m.I+1,J:=fs++[{f with pc:=f.pc+1}]}) (fs:=fs) (f:={f with pc:=f.pc+1}) 26 x.a _ (.inr (.inr (.inl ⟨rfl,f.S.dropLast,(f.S.getLastD 0),(Bq (show 1<=f.S.length by omega)),(u X),rfl⟩))) (o W d) rfl X t)
 rw[if_neg R];by_cases S:x.op=29
 .rw [if_pos S]
  have e:=BN (c:=c) (y:=y) (x:=x) (by rw[S];decide);rw[S]at e;rw[e.1]at s;simp[Bk]at s;rw[S];exact BV a k i _ _ fn l _ j g 29 x.a p (Lh rfl) rfl rfl (Lh (by unfold BB;decide)) (λW d=>Gc (m:={m with I:=m.I+1,J:=fs++[{f with pc:=f.pc+1}]}) (fs:=fs) (f:={f with pc:=f.pc+1}) 29 x.a _ (.inr (.inr (.inr (⟨rfl,f.S.dropLast,(f.S.getLastD 0),(Bq (show 1<=f.S.length by omega)),(u X),rfl⟩)))) (o W d) rfl X t)
 rw[if_neg S];by_cases T:x.op=30
 .rw [if_pos T]
  have e:=BN (c:=c) (y:=y) (x:=x) (by rw[T];decide);rw[T]at e;rw[e.1]at s;simp[Bk]at s;rw[T];exact BV a k i _ _ fn l _ j g 30 x.a p (Lh rfl) rfl rfl (Lh (by unfold BB;decide)) (λW d=>DG (m:={m with I:=m.I+1,J:=fs++[{f with pc:=f.pc+1}]}) (fs:=fs) (f:={f with pc:=f.pc+1}) 30 x.a _ (.inr (.inr (.inr (.inr (.inr (.inr (.inr (.inl ⟨rfl,f.S.dropLast,(f.S.getLastD 0),(Bq (show 1<=f.S.length by omega)),rfl⟩)))))))) (o W d) rfl X t)
 rw[if_neg T];by_cases V:x.op=31
 .rw [if_pos V]
  have e:=BN (c:=c) (y:=y) (x:=x) (by rw[V];decide);rw[V]at e;rw[e.1]at s;simp[Bk]at s;rw[V];exact BV a k i _ _ fn l _ j g 31 x.a p (Lh rfl) rfl rfl (Lh (by unfold BB;decide)) (λW d=>DG (m:={m with I:=m.I+1,J:=fs++[{f with pc:=f.pc+1}]}) (fs:=fs) (f:={f with pc:=f.pc+1}) 31 x.a _ (.inr (.inr (.inr (.inr (.inr (.inr (.inr (.inr (⟨rfl,f.S.dropLast,(f.S.getLastD 0),(Bq (show 1<=f.S.length by omega)),(u X).in64,rfl⟩))))))))) (o W d) rfl X t)
 rw[if_neg V];have h2:=Qn bF.1 bF.2 ⟨e1,e2,E,e4,e5,e6,e7,e8,G,N,aZ,P,bA,Q,R,S,T,V⟩;have e:=JH (c:=c) (y:=y) h2;rw[e.1]at s;have bE:=L.potle;have bI:=L.cmp0;have bO:=L.Y;unfold Co at bE;split
 .rename_i v
  exact Sr (m:={m with I:=m.I+1,J:=fs++[{f with pc:=f.pc+1}]}) (fs:=fs) (f:={f with pc:=f.pc+1}) k i fn l _ j g x.op x.a h2 f.S.dropLast.dropLast (f.S.dropLast.getLastD 0) (f.S.getLastD 0) (FL (show 2<=f.S.length by omega)) (hu X) (u X) v ⟨by show -1<=m.C;omega,by show m.C<=_;omega⟩ (o w Br) rfl X aX
 rename_i v;rw[FE,Tw v];have:=Na (m:={m with I:=m.I+1,J:=fs++[{f with pc:=f.pc+1}]}) (f:={f with pc:=f.pc+1}) k i fn l c.q0.length j g x.op x.a h2 f.S.dropLast.dropLast (f.S.dropLast.getLastD 0) (f.S.getLastD 0) (FL (show 2<=f.S.length by omega)) (hu X) (u X) v (o w Br) rfl X aX;simpa using this
def Sx(h:stepP c m=.go m1):m1.Q=m.Q:=by
 unfold stepP at h;split at h
 .cases h
 split at h
 .cases h
 split at h
 .cases h
 split at h
 .cases h
 rename_i f _ y _ x _;have a:Ft m.Q (.go m1):=by rw[<-h];exact Sw c m _ _ _ _
 cases a with
 |go _ b=>exact b
def IW.kind0(a:IW c r m):r.K≠0:=by
 rcases a.2 with ⟨_,_,rfl⟩|⟨_,_,rfl,_⟩|⟨fs,f,b⟩
 .simp [Ah]
 .simp [EE]
 obtain⟨_,x,_,_,_,_,a,_⟩:=b.top;have:=EW a;omega
def Ti(c:AQ)(m0:AV)(w:Ϣ)(F:List Nat)(e:Ending)(w':Ϣ):Prop:=∃m',Cf c m0 m'/\DK w F m' e w'
def Pe(c:AQ)(m0:AV)(bm:Nat)(F:List Nat)(W:Ϣ)(gk:Nat)(wr:Ϣ):Prop:=
 ∃mr fvr Fr,wr.heap[bm]?=H (K (AC fvr mr) 59 (0,0))/\Cv wr fvr mr.J Fr/\bm∉Fr/\AW (bm::F) (bm::Fr) W wr/\
  ((∃fs f,Dr c mr fs f/\mr.Q=Eg/\(Co mr).toNat+1<gk/\∀m',Cf c mr m'->Cf c m0 m')\/(mr.Q.K≠0/\Cf c m0 mr/\0<gk))
def O9{m0 i:AV}{e:List Nat}{d g:ϒ}{gk:Nat}(n:w8.heap[bm]?=H (K (AC g i) 59 (0,0)))(m:bm∉e)(r:AW (bm::F) (bm::e) W w8)(o:Cv w9 d m1.J F9)(k:AW e F9 w8 w9)
  (q:(∃fs f,Dr c m1 fs f/\m1.Q=Eg/\(Co m1).toNat+1<gk/\∀m',Cf c m1 m'->Cf c m0 m')\/(m1.Q.K≠0/\Cf c m0 m1/\0<gk)) :
  w9.heap[bm]?=H (K (AC g i) 59 (0,0))/\Pe c m0 bm F W gk (Ai w9 bm d m1):=by
 have h:=(La n);have j:w9.heap[bm]?=H (K (AC g i) 59 (0,0)):=by rw[k.block bm h m];exact n
 have g:=k.notin h m;let⟨h,l⟩:=AZ j d m1;refine⟨j,m1,d,F9,h,o.kp (λb a=>l.block b (o.lt b a) (λd=>?_)),g,?_,q⟩
 .rw [List.mem_singleton]at d;exact g (d▸a)
 have p:AW (bm::e) (bm::F9) w8 w9:=k.wide (λb a=>List.mem_cons_of_mem _ a) (λb a=>by
  rw[ϰ]at a;rcases a with a|a
  .right;simp[a]
  left;exact a)
 exact(r.trans p).trans (l.wide (λb a=>by simp at a;simp[a]) (λb a=>.inr a))
def Kj(hs:AU c)(iD:Bv c)(gY G:Option Addr)(fn gX gC:Nat)(g:Int)(q:Dr c {m with Q:=Eg} fs f)
  (B:Nat) (iC:B<=w) (S:AE B w 5 (CW B) (D G c.q0 gC) c.q0) (j:Cv w fv m.J F) (fO:∀A∈F,B<=A) :
  ϙ prog 149 #[.agg #[D gY fn gX,O g,D G c.q0 gC],AJ fv m] w (Ti c {m with Q:=Eg} w F):=by
 obtain⟨gH,gJ,rfl⟩:=j.u1;let⟨gF,fN⟩:=ε m.J.length;rw[<-fN]at j ⊢;have fU:=Lh j.lt;have hC:=Lh fO;have iQ:=Lh S;have V:=q.top;obtain⟨_,d,-⟩:=V;let⟨Y,fC,b,_,_,_,a⟩:=S;obtain⟨rfl,rfl⟩:G=Y/\gC=fC:=by simpa using b
 rcases a with gU|⟨A,hA,rfl,iL,a⟩
 .have:=d.fn;rw[gU]at this;simp at this
 have iK:=Lh a;clear a b d;let⟨gZ,n⟩:=ε c.q0.length;have hZ:=Lh n;rw[<-n];let⟨W,b⟩:=ε (((w.alloc (K #[D gY fn gX,O g,D (H (U A hA)) gZ gC] 25)).alloc (K (AC (D gH gF gJ) m) 59)).alloc (K (AC Z AI) 59));have gQ:=Lh (bl3 b);have fI:=Lh (sz3 b);have fF:=Lh (Xf2 b);have e:=Xcs b;have o:=Xbs b;have iE:=Lh o;have S:∀x∈F,x<(w:Nat)+1:=λx d=>by have:=fU.o x d;omega
 let⟨l,i⟩:=EP e Eg;let⟨a,h⟩:=ε (BO W (w+1) Eg);rw[<-h]at l i;have fM:Hid (Pe c {m with Q:=Eg} ((w:Nat)+1) F W ((Co {m with Q:=Eg}).toNat+2) a):=Lh ⟨_,_,F,l,(j.kp (λA a=>by rw[i.block A (by have G:=fU.o A a;have:=fI.o;omega) (by have G:=fU.o A a;simp;omega)];exact gQ.o.block A (fU.o A a))),λJ=>by have:=S _ J;omega,i.wide (λA a=>by simp at a;simp[a]) (λA a=>.inr a),.inl ⟨fs,f,q,rfl,X,λ_ M=>M⟩⟩;let⟨y,T,fD,fE,fG,fH,fJ,fK,fL⟩:=AO e;let⟨t,E,u,z,C,L,N,P,Q⟩:=AX e;have s:=(La e);let⟨fX,a⟩:∃G,G=(Co {m with Q:=Eg}).toNat+2:=⟨_,rfl⟩;rw[<-a]at fM;clear e o j fN n q l i fO a;unfold AJ;unfold AC AI at b;unfold AC;unfold BO Eg at h;dsimp only at b h ⊢;go_in;go_upto_region 1 with fail;rw[<-b];clear b;go_wp2_with fail;rw[<-h];clear h y T fD fE fG fH fJ fK fL t E u z C L N P Q s;go_loopg[5] fX (λgk _ wr=>Hid (Pe c {m with Q:=Eg} ((w:Nat)+1) F W gk wr));exact fM;let⟨b,_,fN,gA,gB,gN,Q,fY⟩:=hrel.o;obtain⟨iR,iS,rfl⟩:=gB.u1;have i:(w:Nat)∉((w:Nat)+1)::F:=λJ=>by
  rw[ϰ]at J;rcases J with J|J
  .omega
  have:=fU.o _ J;omega
 have fK:=Q.cell (fF.o 0 _ rfl) i;have fJ:=Q.cell (fF.o 1 _ rfl) i;have T:=Q.cell (fF.o 2 _ rfl) i;have fG:=Lh (Cq Q (by have:=fI.o;omega) i);let⟨y,t,C,fD,fE,fH,fL,fQ,fR⟩:=AO gA;have fZ:=(La gA);rcases fY with ⟨h,E,e,u,P,s⟩|⟨iB,iA,_⟩
 .obtain ⟨hX,hY,iO,gP,_⟩:=Λ5 e s P Q gN
  have a:=e.nums;have:=a.idle0;have:=a.idle1;have fW:(b.Q.K==0)=ϑ:=by rw[u];rfl
  have iP:=Lh u;by_cases gM:b.I=100000
  .have n:=ζ b.I 100000 gM
   have gT:=@Lh (Cf c {m with Q:=Eg} {b with Q:=Ah 6,J:=[]}) (by
    have a:stepP c b=.stop (Ah 6) b:=by unfold stepP;rw[if_pos X]
    have:=s _ (.stop a);have a:EG (Ah 6) b={b with Q:=Ah 6,J:=[]}:=FE;rwa[a]at this)
   clear e s P gA Q gN hrel gM u gB;go_wp2_with fail;refine(DX _ _ _ b 6 _).mono ?_;rintro J w9⟨rfl,l⟩;let⟨a,i,j⟩:=EF (R:=(w:Nat)+1+1) (bm:=(w:Nat)+1) (F0:=[]) (F2:=[]) (m1:={b with Q:=Ah 6,J:=[]}) (fv:=Z) gQ.o (Ds w9) (gP.o.trans ((AW.ob l).wide (Fs:=[]) (Fs':=[]) ψ ψ)) ψ fU.o X X X (by have:=fI.o;omega) iE.o;have fO:=Lh i;have fP:=Lh j;let⟨_,_,_,_,_,_,_,_,_⟩:=AO a;let⟨_,_,_,_,_,_,_,_,_⟩:=AX a;clear a i j l y t C fD fE fH fL fQ fR fK fJ T fW n fZ;unfold AJ AC;go_wp2;exact ϖ (v:=AJ Z {b with Q:=Ah 6,J:=[]}) (AL (p:=4) rfl fO.o _ rfl) rfl ⟨_,gT.o,fP.o⟩
  have hD:b.I<100000:=X;have gD:=ξ b.I 100000 gM;let⟨z,x,n,a,d,i,N⟩:=e.at_ hs;have q:=e.stepP n.fn d hD;have o:=GA hs e;rw[q]at o;let⟨iN,iM,iG,iH,iI,iJ⟩:=Λ6 q o n a d N;have iF:=Lh i;let⟨fb,cap,_,cs,lv,sv,Fi,Fl,Fs,j,L⟩:=(Ab.2 ⟨_,fN,gA,gB,rfl,gN⟩:Ak wr (w+1) b (((w:Nat)+1)::fN)).top e.fr;obtain rfl:fN=fb::(Fi++(Fl++Fs)):=(List.cons.inj L).2;clear y t C fD fE fH fL fQ fR;let⟨y,fE,fH,fL,fQ,fR,fS,fT,fV⟩:=AO j.u2;have fD:=j.frm 8;let⟨i,a⟩:=KD j Br (m':={b with I:=b.I+1}) 8 (O (b.I+1)) (by unfold AC;rfl);let⟨C,l⟩:=ε (wr.setCell (U (w+1) 8) (O (b.I+1)));rw[<-l]at i a;have t:=Lh i;have gO:=Lh (Q.trans a);have fK:=a.cell fK fG.o;have fJ:=a.cell fJ fG.o;have cQ:=a.cell T fG.o;have gR:=Lh cQ;have hP:=Lh fK;have hQ:=Lh fJ;clear Q a i j gA gB gN hrel gM q o s P L e N fK fJ cQ u;go_upto_region 6 with fail;rw[<-l];clear l y fE fH fL fQ fR fS fT fV fD T fZ fW gD;have q:=(Int.toNat_of_nonneg n.fn0).symm;have l:=(Int.toNat_of_nonneg n.pc0).symm;let⟨k,o⟩:=ε E.fn.toNat;let⟨p,u⟩:=ε E.pc.toNat;rw[<-o]at q;rw[<-u]at l d;have e:=n.fn;rw[<-o]at e;have:=(Ll e);have:=(Ll d);have fL:ϐ B w C:=(gQ.o.mono iC).trans (gO.o.below (λx d=>by
   rw[ϰ]at d;rcases d with d|d
   .omega
   exact hC.o x d) (by have:=fI.o;omega))
  have s:=(iK.o k z e).below fL iL;let⟨_,fH,fD⟩:=s.2.2.2.2.1;obtain⟨_,_,rfl,_,_,_,j⟩:=fD;rcases j with gU|⟨_,_,rfl,_,j⟩
  .rw [gU]at d;simp at d
  let⟨T,fZ,_,_⟩:=j p x d;have L:=t.o.cFn;rw[q]at L;have P:=t.o.cPc;rw[l]at P;have fW:=t.o.frf (h.length*4+1);have N:=gR.o;have fV:=Bl N;have fT:=Bl L;have fS:=Bl fH;have fR:=Bl T;obtain⟨y,-⟩:=AO t.o.u2;have fQ:=(La t.o.u2);have:=In h;have:(h:Int)<(h:Int)+1:=X;have:(h:Int)<=200:=by have:=hX.o.len;omega
  have:=In k;have:(k:Int)<(gZ:Int):=by have:=hZ.o;omega
  have:=In p;have:(p:Int)<(z.q9:Int):=X;have gS:=Lh l;have gV:=Lh e;clear j s d n o u q l e;go_upto_region 7 with fail;go_region;let⟨n,l⟩:=ε ((C.alloc (K #[O x.op,O x.a] 96)).drew);let⟨a,u⟩:=ε (C:Nat);have e:ϐ C C n:=by rw[l];exact AG (AA _ _) 1
  have gL:=@Lh (AR n a [O x.op,O x.a]) (by rw[l,u];exact @AF C #[O x.op,O x.a] 96);have gI:=@Lh (a∉((w:Nat)+1)::fb::(Fi++(Fl++Fs))) (λJ=>by have:=t.o.lt _ J;omega);rw[<-l,<- u];have j:=Lh (t.o.kp e);have gW:=Lh (gO.o.trans (AW.ob e));have fE:Hid (AR n w [D gY fn gX,O g,D (H (U A hA)) gZ gC]):=Lh (λi v a=>by
   match i,a with
   |0,o=>simp at o;subst o;exact AB e hP.o
   |1,q=>simp at q;subst q;exact AB e hQ.o
   |2,s=>simp at s;subst s;exact AB e gR.o)
  clear l u e fL N L P fW fH T fZ fV fT fS fR y fQ;have l:=j.o.cPc;rw[gS.o]at l;have fH:=j.o.frf (h.length*4+1);have N:=Bl l;obtain⟨y,-⟩:=AO j.o.u2;have L:=(La j.o.u2);have:(p:Int)<=100000:=by have:=iD z (Lm gV.o);omega
  let⟨e,a⟩:=Jl j.o ((p:Int)+1) ⟨X,X⟩;have u:IntKind.i64.wrap ((p:Int)+1)=(p:Int)+1:=by rw[IntKind.wrap_i64];omega
  have fS:=Lh e;have fV:=Lh a;clear e a;go_upto_region 8 with fail;go_region;let⟨T,i⟩:=ε ((n.setCell (U fb (h.length*4+1)) (O ((p:Int)+1))).drew);have a:ϐ (n.setCell (U fb (h.length*4+1)) (O ((p:Int)+1))).heap.size (n.setCell (U fb (h.length*4+1)) (O ((p:Int)+1))) T:=by rw[i];exact AG Br 1
  have P:=Lh (fS.o.kp a);have e:=fV.o.trans (AW.ob a);have fR:=Lh (gW.o.trans e);rw[<-i];clear i a u l fH N y L;have fK:=e.cell (fE.o 0 _ rfl) fG.o;have fJ:=e.cell (fE.o 1 _ rfl) fG.o;have hU:=e.cell (fE.o 2 _ rfl) fG.o;have hS:=e.cell (gL.o 0 _ rfl) gI.o;have hR:=e.cell (gL.o 1 _ rfl) gI.o;let⟨y,hG,hH,hI,hJ,hK,hL,hN,hO⟩:=AO P.o.u2;have hF:=(La P.o.u2);have l:ϐ B W T:=fR.o.below (λx d=>by
   rw[ϰ]at d;rcases d with d|d
   .omega
   exact hC.o x d) (by have:=fI.o;omega)
  have gK:=Lh ((iQ.o.funs (gQ.o.mono iC)).funs l);have gD:=Lh (by
   have:=Nd P.o;rwa[<-gS.o]at this)
  have fZ:B<=T:=by have:=l.size;have:=fI.o;omega
  have fW:Hid (∀x∈fb::(Fi++(Fl++Fs)),B<=x):=Lh (λx d=>by
   rcases fR.o.new x (List.mem_cons_of_mem _ d)with M|M
   .rw [ϰ]at M
    rcases M with M|M
    .omega
    exact hC.o x M
   have:=fI.o;omega)
  clear e l;go_wp2_with fail;have a:=Sq hs iD hX.o hD iG.o iH.o iI.o iF.o iJ.o gY (H (U A hA)) fn gX gC g B fZ gK.o gD.o fW.o;rw[<-hZ.o]at a;refine a.mono ?_;clear a;rintro J w9⟨_,F9,rfl,L,fT⟩;have u:∃a,a<gk/\((∃fs f,Dr c (outM (Df c b h E z x)) fs f/\(outM (Df c b h E z x)).Q=Eg/\(Co (outM (Df c b h E z x))).toNat+1<a/\∀m',Cf c (outM (Df c b h E z x)) m'->Cf c {m with Q:=Eg} m')\/((outM (Df c b h E z x)).Q.K≠0/\Cf c {m with Q:=Eg} (outM (Df c b h E z x))/\0<a)):=by
   have:=iO.o;have l:=iM.o;have e:=iN.o;cases fH:Df c b h E z x with
   |go m1=>
    rw[fH]at l e;let⟨⟨i,j,a⟩,_⟩:=l;have:0<=Co m1:=by have:=a.nums.Y;have:=a.nums.idle1;unfold Co;omega
    refine⟨(Co m1).toNat+2,X,.inl ⟨i,j,a,(Sx e).trans iP.o,by show(Co m1).toNat+1<_;omega,λm' M=>hY.o m' (.go e M)⟩⟩
   |stop r m1=>rw[fH]at l e;exact⟨1,X,.inr ⟨IW.kind0 l,hY.o _ (.stop e),X⟩⟩
  let⟨fL,N⟩:=ε (outM (Df c b h E z x));rw[<-N]at u L ⊢;let⟨gE,gG,u⟩:=u;obtain⟨_,_,rfl⟩:=L.u1;have h:=(List.nodup_cons.1 P.o.nodup).1;let⟨a,e⟩:=O9 (W:=W) (F:=F) P.o.u2 h fR.o L fT u;let⟨_,h⟩:=ε fL.J.length;rw[<-h]at e ⊢;have fQ:=Lh e;clear h e L fT u N y hG hH hI hJ hK hL hN hO fK fJ hU hS hR hF;let⟨y,_,_,_,_,_,_,_,_⟩:=AO a;let⟨_,_,_,_,_,_,_,_,_⟩:=AX a;have:=(La a);clear a;unfold AJ AC;go_wp2_with fail;go_roundg gE;exact fQ;exact gG
 have fJ:=Lh iA;have:=ξ b.Q.K 0 iB;let⟨a,e,h⟩:=EF (R:=(w:Nat)+1+1) (bm:=(w:Nat)+1) gQ.o gB Q (λx d=>List.mem_cons_of_mem _ d) fU.o X X X (by have:=fI.o;omega) iE.o;let⟨N,d⟩:=ε b.J.length;rw[<-d]at e h y;have u:=Lh e;have L:=Lh h;let⟨_,_,_,_,_,_,_,_,_⟩:=AO a;let⟨_,_,_,_,_,_,_,_,_⟩:=AX a;clear a e h iA gA Q gN hrel gB iB d;go_wp2;exact ϖ (v:=AJ (D iR N iS) b) (AL (p:=4) rfl u.o _ rfl) rfl ⟨_,fJ.o,L.o⟩
def QO(a:w.heap[bl]?=H (K (Ad l) 3 (0,0)))(hl:l.length<=1000000)(b:∀n∈l,in64 n):Be w (D (H (U bl 0)) l l.length) l [bl]:=
 ⟨⟨ψ,.inr ⟨bl,l.length,_,rfl,Nat.zero_le _,a,Nr _,by unfold maxLen;omega,by simp[Ad],by simp only[Ad,Nat.mul_one];exact List.take_of_length_le ψ⟩⟩,rfl,b⟩
def UQ(e:w.heap[fb]?=H (K #[O k,O 0,D (H (U bl 0)) n n,Z] 150 (0,0)))
  (hl:w.heap[bl]?=H (K (Ad l) 3 (0,0))) (a:n=l.length) (d:l.length<=1000000) (b:∀n∈l,in64 n) (c:in64 k) (n3:fb≠bl):Cv w (D (H (U fb 0)) 1 1) [⟨k,0,l,[]⟩] [fb,bl]:=by
 subst a;refine⟨[O k,O 0,D (H (U bl 0)) l l.length,Z],[bl],?_,?_,rfl,by simp[n3]⟩
 .exact ⟨rfl,.inr ⟨fb,1,_,rfl,Nat.zero_le _,e,Nr _,by unfold maxLen;omega,rfl,rfl⟩⟩
 exact⟨_,_,[],[bl],[],[],rfl,QO hl d b,⟨World.ownsRow_nil _ _ _ _,rfl,ψ⟩,c,⟨by show(_:Int)<=0;omega,by show(0:Int)<=_;omega⟩,⟨rfl,rfl⟩,ψ⟩
def OX(h:AS c x fuel=0):(0<=fuel/\fuel<=1048576)/\∃(k:Nat)(y:BK),Dh c x.proc=k/\c.q0[k]?=H y/\(x.args:Int)=y.params/\∀n∈x.args,BP n:=by
 unfold AS at h;split at h
 .cases h
 rename_i g;refine⟨X,?_⟩;split at h
 .cases h
 rename_i y e;split at h
 .cases h
 rename_i f;split at h
 .cases h
 rename_i b;split at h
 .cases h
 rename_i a;refine⟨(Dh c x.proc).toNat,y,X,e,by simpa using b,λn d=>?_⟩;rw[Bool.not_eq_true,List.any_eq_false]at a;have:=a n d;simp at this;exact Aq.1 this
def PG(hs:AU c)(o:AS c x fuel=0):∃(k a:Nat)(e:BK),Dh c x.proc=k/\c.q0[k]?=H e/\e.params=x.args.length/\e.L=x.args.length+a/\x.args.length+a<=1000/\
  CF c x fuel=⟨[⟨k,0,x.args++ϱ a 0,[]⟩],Eg,fuel,0,0⟩/\Dr c ⟨[⟨k,0,x.args++ϱ a 0,[]⟩],Eg,fuel,0,0⟩ [] ⟨k,0,x.args++ϱ a 0,[]⟩/\∀n∈x.args++ϱ a 0,BP n:=by
 let⟨p,k,b,j,g,m,l⟩:=OX o;have a:=hs.fok g;unfold CX at a;let⟨h,q⟩:=ε ((b.L-b.params).toNat:Nat);have i:∀n∈x.args++ϱ h 0,BP n:=λn f=>by
  rw[List.mem_append,List.mem_replicate]at f;rcases f with d|d
  .exact l n d
  rw[d.2];unfold BP;omega
 refine⟨k,h,b,j,g,m.symm,X,X,?_,⟨rfl,⟨b,⟨by show(0:Int)<=(k:Int);omega,by show c.q0[(k:Int).toNat]?=H b;rw[Int.toNat_natCast];exact g,by show(0:Int)<=0;omega,by show((x.args++ϱ h 0).length:Int)=b.L;rw[List.length_append,List.length_replicate];omega,i,ψ⟩,Reach.zero c b⟩,trivial,ψ,⟨p.1,by show(0:Int)<=0;omega,by show(0:Int)<=100000;omega,by show(0:Int)<=0;omega,by show(0:Int)+(fuel*100001+(100000-0))<=_;omega⟩⟩,i⟩;unfold CF;rw[j];simp only[Int.toNat_natCast,g,Option.map_some,Option.getD_some];rw[<-q];rfl
def Kv(c:AQ)(x:Bi)(fuel:Int)(w:Ϣ)(e:Ending)(w':Ϣ):Prop:=∃m' fv,Cf c (CF c x fuel) m'/\e=.returned (AJ fv m')/\CE w fv m' w'
def LU{d:Ϣ}{e:List Nat}(a:ϐ W W d)(b:AW e F9 d w9)(g:∀d∈e,(W:Nat)<=d):AW [] F9 W w9:=
 ⟨b.os.trans a.os,b.tape.trans a.tape,b.output.trans a.output,Nt a.size b.size,λk d _=>by rw[b.block k (Nl d a.size) (λe=>by have:=g k e;omega),a.block k d],λf h=>by
  rcases b.new f h with c|c
  .exact .inr (g f c)
  exact .inr (Nt a.size c)⟩
def Qb(i:Cf c (CF c x fuel) m')(a:DK w [] m' (.returned (AJ fv m')) w'):Kv c x fuel w (.returned (AJ fv m')) w':=by
 let⟨d,F9,e,f,b⟩:=a;refine⟨m',d,i,e,F9,f,λg h=>?_,b.below ψ (Nr _)⟩;rcases b.new g h with a|a
 .simp at a
 exact a
def PY(c:AQ)(u:ϒ)(x:Bi)(t:ϒ)(fuel:Int)(B:Nat)(w:Ϣ)(s:B<=w)(bZ:BF B w u c)(cG:Gh B w t x)(hs:AU c)(eN:Bv c)(cJ:AS c x fuel=0) :
  ϙ prog 115 #[u,t,O fuel] w (Kv c x fuel w):=by
 obtain⟨fv,_,rfl,L,cD,_⟩:=id bZ;obtain⟨cA,cB,rfl⟩:=L.u1;obtain⟨y,z,rfl⟩:=cD.u1;obtain⟨_,rfl,P,_⟩:=cG;obtain⟨M,N,rfl⟩:=P.u1;let⟨k,b,eC,cW,cG,_,dA,eF,cZ,cX,cY⟩:=PG hs cJ;let⟨W,a⟩:=ε (((w.alloc (K (Bc cA cB y z c) 25)).alloc (K #[.string x.proc,D M x.args N] 64)).alloc (K (AC Z AI) 59));have cC:=Lh (bl3 a);have dX:=Lh (sz3 a);have u:=Xf2 a;have L:=Xhh a;have t:=Xbs a;have eM:=Lh t;let⟨dC,dD,dE⟩:=Γ3 u;let⟨dF,dG⟩:=Γ2 L;have r:=Nt s cC.o.size;have dR:=@Lh (BF B W.drew (.agg (Bc cA cB y z c)) c) ((bZ.below (cC.o.mono s)).below (AG Br 1));have dW:=@Lh (AE B W.drew 1 Aj (D M x.args N) x.args) ((P.ints (cC.o.mono s)).ints (AG Br 1));have dU:=@Lh (AE B W.drew 5 (CW B) (D y c.q0 z) c.q0) ((cD.funs (cC.o.mono s)).funs (AG Br 1));have dM:=@Lh (Cz (λf=>CM f.name x.proc) c.q0=(k:Int)) cW;let⟨dS,dV,eO,eG,eE⟩:=Λ5 cG dA cZ cX cY;have dT:c.q0.length<=1000000:=by have:=hs.1.2.2.2.2.1;omega
 have:=In k;have:=(Ll cG);have s:(x.args++ϱ b 0).length=x.args.length+b:=by simp
 have cS:=Lh s;have:(w:Nat)+1<W:=by have:=dX.o;omega
 unfold AC AI at a;dsimp only at a;go_in;go_upto_region 1 with fail;rw[<-a];clear a;go_region_held3 (λh=>h.cell? (U w 0)=H (D cA c.H cB)/\h.cell? (U w 1)=H (O c.G)/\h.cell? (U w 2)=H (D y c.q0 z)/\h.cell? (U (w+1) 0)=H (.string x.proc)/\h.cell? (U (w+1) 1)=H (D M x.args N))
  (first|with_reducible exact⟨dN,dP,dQ,u0,u1⟩|with_reducible exact⟨dY,dZ,eA,eB,eD⟩|with_reducible exact⟨cP,cR,cT,cV,dB⟩|with_reducible exact⟨Q,S,T,V,Y⟩|exact⟨eH,eI,eJ,eK,eL⟩|exact⟨dC,dD,dE,dF,dG⟩)
  (first
   |(go_at_call 66;refine(Ic c _ x.proc B W.drew r dR.o).mono ?_;rintro dH A⟨rfl,a⟩;rw[dM.o];have Q:=keepD a dC;have S:=keepD a dD;have T:=keepD a dE;have V:=keepD a dF;have Y:=keepD a dG;have l:Hid (ϐ W W A):=Lh ((AG Br 1).trans a);have cH:=Lh (dW.o.ints (a.mono r));have G:=Lh (dU.o.funs (a.mono r));clear a)
   |(go_at_call 150;refine(Lc cA y M _ cB z N c.G B B A (Nt r l.o.size) c.q0 G.o k eC dS.o x.args (Nt r l.o.size) cH.o b dV.o eF dT).mono ?_;rintro dI e⟨bl,rfl,bX,cI,j⟩;have cP:=AB j Q;have cR:=AB j S;have cT:=AB j T;have cV:=AB j V;have dB:=AB j Y;have C:=Lh (l.o.th j);have cO:=Lh bX;have cM:bl<e:=(La bX);have cU:=Lh (G.o.funs (j.mono (Nt r l.o.size)));have:(W:Nat)<=bl:=Nt l.o.size cI;have cN:Hid (ϐ W W (e.alloc (K #[O (k:Int),O 0,D (H (U bl 0)) (x.args.length+b) (x.args.length+b),Z] 150))):=Lh (C.o.th (AA _ _));have dO:Hid (Cv (e.alloc (K #[O (k:Int),O 0,D (H (U bl 0)) (x.args.length+b) (x.args.length+b),Z] 150)) (D (H (U e 0)) 1 1) [⟨k,0,x.args++ϱ b 0,[]⟩] [(e:Nat),bl]):=Lh (UQ (Hn _ _) (by rw[Ha _ _ _ cM];exact cO.o) cS.o.symm (by rw[cS.o];omega) (λn J=>(eE.o n J).in64) ⟨X,X⟩ X);have dK:Hid (AE B (e.alloc (K #[O (k:Int),O 0,D (H (U bl 0)) (x.args.length+b) (x.args.length+b),Z] 150)) 5 (CW B) (D y c.q0 z) c.q0):=Lh (cU.o.funs ((AA _ _).mono (Nt r C.o.size)));have:(W:Nat)<=e:=C.o.size;have dY:=AB (AA e (K #[O (k:Int),O 0,D (H (U bl 0)) (x.args.length+b) (x.args.length+b),Z] 150)) cP;have dZ:=AB (AA e (K #[O (k:Int),O 0,D (H (U bl 0)) (x.args.length+b) (x.args.length+b),Z] 150)) cR;have eA:=AB (AA e (K #[O (k:Int),O 0,D (H (U bl 0)) (x.args.length+b) (x.args.length+b),Z] 150)) cT;have eB:=AB (AA e (K #[O (k:Int),O 0,D (H (U bl 0)) (x.args.length+b) (x.args.length+b),Z] 150)) cV;have eD:=AB (AA e (K #[O (k:Int),O 0,D (H (U bl 0)) (x.args.length+b) (x.args.length+b),Z] 150)) dB;clear bX j)
   |(go_at_call 149;refine(Kj (m:=⟨[⟨k,0,x.args++ϱ b 0,[]⟩],Eg,fuel,0,0⟩) hs eN cA y _ cB z c.G eG.o B (Nt r cN.o.size) dK.o dO.o (λo g=>by simp at g;omega)).mono ?_;rintro dJ w9⟨m',cF,_,F9,rfl,q,cE⟩;obtain⟨a9,c9,rfl⟩:=q.u1;have dL:=Lh cF;have i:=LU cN.o cE (λo g=>by simp at g;omega);have:=Lh q;have bY:=i.wide (F:=[(w:Nat)+1]) (F':=F9) ψ (λo g=>.inl g);let⟨t1,t2,t3⟩:=EF (R:=(w:Nat)+1+1) (bm:=(w:Nat)+1) (F:=[]) cC.o q bY (λo g=>g) ψ X X X (by have:=dX.o;omega) eM.o;let⟨r0,r1,r2,r3,r4,r5,r6,r7,r8⟩:=AO t1;let⟨q0,q1,q2,q3,q4,q5,q6,q7,q8⟩:=AX t1;have:=(La t1);let⟨n9,hn9⟩:∃E,E=m'.J.length:=⟨_,rfl⟩;rw[<-hn9]at t2 t3 ⊢;have:=Lh hn9;have cK:=Lh t2;have cL:=Lh t3;have dN:=i.cell dC ψ;have dP:=i.cell dD ψ;have dQ:=i.cell dE ψ;have u0:=i.cell dF ψ;have u1:=i.cell dG ψ;have d:=(AZ t1 (D a9 n9 c9) m').2;have eH:=d.cell dN φ;have eI:=d.cell dP φ;have eJ:=d.cell dQ φ;have eK:=d.cell u0 ψ;have eL:=d.cell u1 ψ;clear d;clear cF q cE i bY t1 t2 t3 hn9;unfold AJ AC))
 all_goals
  go_wp2;exact ϖ (v:=AJ (D a9 n9 c9) m') (AL (p:=6) rfl cK.o _ rfl) rfl (Qb (by rw[eO.o];exact dL.o) cL.o)
