import Derived.Test.YtigbfkiddlhhjaaGreatDoorSpl
set_option maxHeartbeats 4000000
set_option maxRecDepth 100000
set_option linter.all false
open Go renaming World→Ϣ,Value→ϒ,Calls→ϙ
open Go.RowKit renaming Below→ϐ
open Option renaming some→O
open Bool renaming false→ϝ,true→ϑ
open And renaming intro→ϟ
open Go.Value renaming slice→K
open Go.Obj renaming cells→I
namespace Go.Proofs.YtigbfkiddlhhjaaGreatDoor
open Go.RowKit Proofs.Tryz
open Go.RowKit renaming ι→X,π→D,ω→H
variable{α:Type}{w w' w1:Ϣ}{c c1:A1}{bt j i n ab cap k b n2 B t mb:Nat}{s s':Tra}{x:List Int}{g:List Xae}{x0:Trx}{m:Mm}{u v:ϒ}{y:Xad}{o:Int}{a:Option Addr}{f:α->Xad}{l:List α}
def SAt(w:Ϣ)(c:A1)(bt:Nat)(s:Tra):Prop:=X5 w c 39 bt (Xag s)
def SAt.lt(a:SAt w c bt s):bt<w:=X5.lt a
def SAt.frz(a:SAt w c bt s)(j:Nat):w.frozen? (D bt j)=ϝ:=X5.frz a j
def SAt.p0(b:SAt w c bt s){x:ϒ}(a:(Xag s)[j]?=O (.p x)):w.cell? (D bt j)=O x:=X5.p0 b a
def SAt.of(a:X5 w c 39 bt g)(e:g=Xag s'):SAt w c bt s':=by subst e;exact a
def SAt.hi(a:SAt w c bt s):∀b,(w:Nat)<=b->c b=0:=by unfold SAt at a;exact a.1
def SAt.lab(a:SAt w c bt s):c bt=1:=by unfold SAt at a;exact a.2.1
def SAt.grow(b:SAt w c bt s)(a:ϐ w w w'):SAt w' c bt s:=X5.grow b a
def SAt.chg{S:Nat->Prop}{c':A1}(f:SAt w c bt s)(e:AT S c c' w w')(d:∀b,(w':Nat)<=b->c' b=0)(a:∀t,S t->t=14):SAt w' c' bt s:=X5.chg f e d a
def Xa9(fv rv wv:ϒ)(x:Trx):List ϒ:=FW fv x.run++[X x.q8,X x.N,rv,wv]
def rdQ(l:List (Int×Int)):Xad:=.q 85 2 (l.flatMap rdL)
def wrQ(l:List (Int×Int×Int)):Xad:=.q 120 3 (l.flatMap wrL)
def Xex(x:Trx):(Xaz x).length=13:=rfl
def SAt.viewX(V:SAt w c bt s){x:Trx}(N:s.q1[i]?=O x):∃ab cap h l m,w.cell? (D bt 5)=O (K (O (D ab 0)) s.q1 cap)/\c ab=25/\ab<w/\(∀k,w.frozen? (D ab k)=ϝ)/\
  (∀k v,(Xa9 h l m x)[k]?=O v->w.cell? (D ab (i*13+k))=O v)/\Xch x.run.J (mask w c) h/\X6 w c (100+16*(i*13+11)+5) l (rdQ x.q4)/\X6 w c (100+16*(i*13+12)+5) m (wrQ x.q2)/\i<s.q1.length:=by
 have W:=(Ll N);let⟨a,cap,g,_,_,P⟩:=X5.at1 V (j:=5) (n:=s.q1.length) rfl (Xap (f:=Xaz) (sz:=13) (λ_=>rfl) _) H;obtain⟨ab,rfl,R,S,T,L⟩:=P H;have e:=λk y h=>L _ _ (Xaq (f:=Xaz) (sz:=13) (λ_=>rfl) N k y h);have b:∀k d,(Xaz x)[k]?=O (.p d)->w.cell? (D ab (i*13+k))=O d:=λk d h=>by let⟨u,g,M⟩:=e k _ h;obtain rfl:u=d:=M;exact g
 let⟨m,Q,M⟩:=e 0 _ rfl;let⟨h,Y,L⟩:=e 11 _ rfl;let⟨d,w1,l⟩:=e 12 _ rfl;refine⟨ab,cap,m,h,d,g,R,S,T,λk v d=>?_,M.2,L,l,W⟩
 match k,d with
 |0,o=>cases o;exact Q
 |1,p=>cases p;exact b 1 _ rfl
 |2,q=>cases q;exact b 2 _ rfl
 |3,r=>cases r;exact b 3 _ rfl
 |4,t=>cases t;exact b 4 _ rfl
 |5,z=>cases z;exact b 5 _ rfl
 |6,A=>cases A;exact b 6 _ rfl
 |7,B=>cases B;exact b 7 _ rfl
 |8,C=>cases C;exact b 8 _ rfl
 |9,E=>cases E;exact b 9 _ rfl
 |10,F=>cases F;exact b 10 _ rfl
 |11,G=>cases G;exact Y
 |12,J=>cases J;exact w1
 |k+13,b=>simp[Xa9,FW]at b
def Xgb(s:Tra)(i:Nat)(x:Trx)(xs:List Xad)(a:xs=(s.q1.set i x).flatMap Xaz):(Xag s).set 5 (.r 62 13 xs)=Xag {s with q1:=s.q1.set i x}:=by subst a;rfl
def SAt.setX(h:SAt w c bt s)(x:Trx)(fv d e:ϒ)(p:s.q1[i]?=O x0)(b:w.cell? (D bt 5)=O (K (O (D ab 0)) n cap))(o:c ab=25)(g:Xch x.run.J (mask w c) fv)
  (m:X6 w c (100+16*(i*13+11)+5) d (rdQ x.q4)) (l:X6 w c (100+16*(i*13+12)+5) e (wrQ x.q2)):SAt (Xaa w ab (i*13) (Xa9 fv d e x)) c bt {s with q1:=s.q1.set i x}/\AT (λt=>t=25) c c w (Xaa w ab (i*13) (Xa9 fv d e x)):=by
 have:=X5.puts1 (j:=5) (Xa9 fv d e x) (Xaz x) (i*13) h rfl b rfl (λk u y b a=>by
  match k,b,a with
  |0,b,a=>cases b;cases a;exact⟨Xan _,g⟩
  |1,b,a=>cases b;cases a;rfl
  |2,b,a=>cases b;cases a;rfl
  |3,b,a=>cases b;cases a;rfl
  |4,b,a=>cases b;cases a;rfl
  |5,b,a=>cases b;cases a;rfl
  |6,b,a=>cases b;cases a;rfl
  |7,b,a=>cases b;cases a;rfl
  |8,b,a=>cases b;cases a;rfl
  |9,b,a=>cases b;cases a;rfl
  |10,b,a=>cases b;cases a;rfl
  |11,b,a=>cases b;cases a;exact m
  |12,b,a=>cases b;cases a;exact l
  |k+13,b,a=>simp[Xa9,FW]at b)
 rw[Xgb s i x]at this
 .exact ⟨this,Xak o H _ _ _⟩
 exact Xed (f:=Xaz) (sz:=13) (λ_=>rfl) p 0 (Xaz x) (by rw[Xex];omega) (by have:=Xf8 (Xaz x) (Xaz x0) [] rfl;simpa using this)
def SAt.setMac(e:SAt w c bt s){x:Trx}{m:AV}{fv:ϒ}(h:s.q1[i]?=O x)(b:w.cell? (D bt 5)=O (K (O (D ab 0)) n cap))(g:c ab=25)(d:Xch m.J (mask w c) fv) :
  SAt (Xaa w ab (i*13) (FW fv m)) c bt {s with q1:=s.q1.set i {x with run:=m}}/\AT (λt=>t=25) c c w (Xaa w ab (i*13) (FW fv m)):=by
 have:=X5.puts1 (j:=5) (FW fv m) (Xcg m) (i*13) e rfl b rfl (λk u y b a=>by
  match k,b,a with
  |0,b,a=>cases b;cases a;exact⟨Xan _,d⟩
  |1,b,a=>cases b;cases a;rfl
  |2,b,a=>cases b;cases a;rfl
  |3,b,a=>cases b;cases a;rfl
  |4,b,a=>cases b;cases a;rfl
  |5,b,a=>cases b;cases a;rfl
  |6,b,a=>cases b;cases a;rfl
  |7,b,a=>cases b;cases a;rfl
  |8,b,a=>cases b;cases a;rfl
  |k+9,b,a=>simp[FW]at b)
 rw[Xgb s i {x with run:=m}]at this
 .exact ⟨this,Xak g H _ _ _⟩
 exact Xed (f:=Xaz) (sz:=13) (λ_=>rfl) h 0 (Xcg m) (by show 0+9<=13;omega) (Xf8 (Xcg m) (Xcg x.run) _ rfl)
def SAt.setF(h:SAt w c bt s){x:Trx}(m:s.q1[i]?=O x0)(g:w.cell? (D bt 5)=O (K (O (D ab 0)) n cap))(l:k<13)(d:X6 w c (100+16*(i*13+k)+5) u y)(e:(Xaz x0).set k y=Xaz x) :
  SAt (w.setCell (D ab (i*13+k)) u) c bt {s with q1:=s.q1.set i x}/\AT (λt=>t=25) c c w (w.setCell (D ab (i*13+k)) u):=by
 let⟨a,b⟩:=X5.put1 h (j:=5) (i:=i*13+k) rfl g d;rw[Xgb s i x]at a
 .exact ⟨a,b⟩
 exact Xcd (f:=Xaz) (sz:=13) (λ_=>rfl) m k y l e
def Xdm{x':α}(a:y=f x'):(l.map f).set i y=(l.set i x').map f:=by subst a;rw[List.map_set]
def Xc5{x:α}(a:l[i]?=O x):(l.map f)[i]?=O (f x):=by rw[List.getElem?_map,a];rfl
structure Xdv(w:Ϣ)(c:A1)(bt:Nat)(j n i:Nat)(v:ϒ)(b cap:Nat):Prop where
 hd:w.cell? (D bt j)=O (K (O (D b 0)) n cap)
 lab:c b=20+j
 lt:b<w
 frz:∀k,w.frozen? (D b k)=ϝ
 el:w.cell? (D b i)=O v
def X5.viewL{T:TypeId}(t:X5 w c T bt g){e:TypeId}(m:g[j]?=O (.r e 1 (l.map f))){x:α}(d:l[i]?=O x) :
  ∃b cap v,Xdv w c bt j l.length i v b cap/\X6 w c (100+16*i+j) v (f x)/\i<l.length:=by
 have s:=(Ll d);let⟨a,cap,r,_,_,k⟩:=t.at1 m (n:=l.length) ψ H;obtain⟨b,rfl,o,p,q,h⟩:=k H;let⟨v,k,m⟩:=h i _ (Xc5 d);exact⟨b,cap,v,⟨r,o,p,q,k⟩,m,s⟩
def SAt.viewR(d:SAt w c bt s){x:List CD}(a:s.results[i]?=O x):∃b cap v,Xdv w c bt 7 s.results.length i v b cap/\X6 w c (100+16*i+7) v (Xg3 x)/\i<s.results.length:=X5.viewL d rfl a
def SAt.viewB(d:SAt w c bt s)(a:s.Z[i]?=O x):∃b cap v,Xdv w c bt 8 s.Z.length i v b cap/\X6 w c (100+16*i+8) v (Xa3 x)/\i<s.Z.length:=X5.viewL d rfl a
def SAt.viewE(d:SAt w c bt s)(a:s.P[i]?=O x):∃b cap v,Xdv w c bt 9 s.P.length i v b cap/\X6 w c (100+16*i+9) v (Xa3 x)/\i<s.P.length:=X5.viewL d rfl a
def SAt.viewV(d:SAt w c bt s)(a:s.q6[i]?=O x):∃b cap v,Xdv w c bt 2 s.q6.length i v b cap/\X6 w c (100+16*i+2) v (Xa3 x)/\i<s.q6.length:=X5.viewL d rfl a
def SAt.viewC(h:SAt w c bt s){x:List Bi}(k:s.A[i]?=O x):∃b cap v,Xdv w c bt 6 s.A.length i v b cap/\Xbz x (mask w c) v/\i<s.A.length:=by
 let⟨b,cap,v,a,d,g⟩:=X5.viewL h (j:=6) (e:=65) (f:=λl=>.i (Xbz l)) rfl k;exact⟨b,cap,v,a,d.2,g⟩
def SAt.addR(q:SAt w c bt s){x:List CD}{o:CD}(d:s.results[i]?=O x)(e:Xdv w c bt 7 s.results.length i u b cap)(p:AT (λt=>t=100+16*i+7) c c1 w w1)(n:∀b,(w1:Nat)<=b->c1 b=0)(l:Ao w1 c1 (100+16*i+7) 114 5 v n2 (Dk x++Dw o)) :
  SAt (w1.setCell (D b i) v) c1 bt {s with results:=s.results.modify i (·++[o])}/\AT (λt=>20<=t) c c1 w (w1.setCell (D b i) v):=by
 let⟨g,h⟩:=X5.app2 q (j:=7) rfl e.hd e.el (Xc5 d) p n l;refine⟨SAt.of g ?_,h⟩;have m:s.results.modify i (·++[o])=s.results.set i (x++[o]):=by
  apply List.ext_getElem?;intro k;rw[List.getElem?_modify,List.getElem?_set];by_cases a:i=k
  .subst a;have:=(Ll d);rw[d,if_pos rfl,if_pos this];simp
  rw[if_neg a];cases s.results[k]?<;>simp[a]
 rw[m,<- Sb,Xdm (f:=Xg3) (x':=x++[o]) (y:=.q 114 5 (Dk (x++[o]))) rfl];rfl
def Xk0{l:List (List Int)}(b:l[i]?=O x)(o:Int):l.modify i (·++[o])=l.set i (x++[o]):=by
 apply List.ext_getElem?;intro k;rw[List.getElem?_modify,List.getElem?_set];by_cases a:i=k
 .subst a;have:=(Ll b);rw[b,if_pos rfl,if_pos this];simp
 rw[if_neg a];cases l[k]?<;>simp[a]
def SAt.addB(m:SAt w c bt s)(d:s.Z[i]?=O x)(a:Xdv w c bt 8 s.Z.length i u b cap)(l:AT (λt=>t=100+16*i+8) c c1 w w1)(k:∀b,(w1:Nat)<=b->c1 b=0)(h:Ao w1 c1 (100+16*i+8) 3 1 v n2 (x.map (Value.int .i64)++[X o])) :
  SAt (w1.setCell (D b i) v) c1 bt {s with Z:=s.Z.modify i (·++[o])}/\AT (λt=>20<=t) c c1 w (w1.setCell (D b i) v):=by
 let⟨e,g⟩:=X5.app2 m (j:=8) rfl a.hd a.el (Xc5 d) l k h;refine⟨SAt.of e ?_,g⟩;rw[Xk0 d,Xdm (f:=Xa3) (x':=x++[o]) (by unfold Xa3;rw[List.map_append];rfl)];rfl
def SAt.addE(m:SAt w c bt s)(d:s.P[i]?=O x)(a:Xdv w c bt 9 s.P.length i u b cap)(l:AT (λt=>t=100+16*i+9) c c1 w w1)(k:∀b,(w1:Nat)<=b->c1 b=0)(h:Ao w1 c1 (100+16*i+9) 3 1 v n2 (x.map (Value.int .i64)++[X o])) :
  SAt (w1.setCell (D b i) v) c1 bt {s with P:=s.P.modify i (·++[o])}/\AT (λt=>20<=t) c c1 w (w1.setCell (D b i) v):=by
 let⟨e,g⟩:=X5.app2 m (j:=9) rfl a.hd a.el (Xc5 d) l k h;refine⟨SAt.of e ?_,g⟩;rw[Xk0 d,Xdm (f:=Xa3) (x':=x++[o]) (by unfold Xa3;rw[List.map_append];rfl)];rfl
def SAt.setC(g:SAt w c bt s){x l:List Bi}(a:s.A[i]?=O x)(e:Xdv w c bt 6 s.A.length i u b cap)(hl:Xbz l (mask w c) v) :
  SAt (w.setCell (D b i) v) c bt {s with A:=s.A.set i l}/\AT (λt=>t=26) c c w (w.setCell (D b i) v):=by
 let⟨a,d⟩:=X5.put1 g (j:=6) (i:=i) (x:=.i (Xbz l)) rfl e.hd ⟨Xeh l,hl⟩;refine⟨SAt.of a ?_,d⟩;rw[Xdm (f:=λl=>.i (Xbz l)) (x':=l) rfl];rfl
def SAt.num{n:Int}(d:SAt w c bt s)(e:(Xag s).set j (.p (X n))=Xag s'):SAt (w.setCell (D bt j) (X n)) c bt s'/\AT (λt=>t=1) c c w (w.setCell (D bt j) (X n)):=by
 let⟨a,b⟩:=X5.put0 d (j:=j) (x:=.p (X n)) rfl;exact⟨SAt.of a e,b⟩
def SAt.setV(n:SAt w c bt s){d e:Nat}(g:s.q6[i]?=O x)(h:Xdv w c bt 2 s.q6.length i (K (O (D d 0)) n2 e) b cap)(m:X6 w c (100+16*i+2) (K (O (D d 0)) n2 e) (Xa3 x)) :
  SAt (w.setCell (D d k) (X o)) c bt {s with q6:=s.q6.modify i (·.set k o)}/\AT (λt=>t=100+16*i+2) c c w (w.setCell (D d k) (X o)):=by
 let⟨d,e⟩:=X5.put2 n (j:=2) (k:=k) (u:=X o) rfl h.hd h.el (Xc5 g) m;refine⟨SAt.of d ?_,e⟩;have l:s.q6.modify i (·.set k o)=s.q6.set i (x.set k o):=by
  apply List.ext_getElem?;intro k;rw[List.getElem?_modify,List.getElem?_set];by_cases a:i=k
  .subst a;have:=(Ll g);rw[g,if_pos rfl,if_pos this];simp
  rw[if_neg a];cases s.q6[k]?<;>simp[a]
 rw[l,Xdm (f:=Xa3) (x':=x.set k o) (by unfold Xa3;rw[List.map_set])];rfl
def Xj3{l:List Int}{x:Int}(a:l[i]?=O x):l.getD i 0=x:=by rw[List.getD_eq_getElem?_getD,a];rfl
def SAt.globs(m:SAt w c bt s):∃d h,w.cell? (D bt 0)=O (K d s.M.G h)/\∀(j:Nat) v,s.M.G[j]?=O v->∃b,d=O (D b 0)/\w.cell? (D b j)=O (X v)/\c b=20/\w.frozen? (D b j)=ϝ:=by
 let⟨a,cap,d,_,_,l⟩:=X5.at1 m (j:=0) (n:=s.M.G.length) rfl ψ H;refine⟨a,cap,d,λj v e=>?_⟩;have:=(Ll e);obtain⟨b,rfl,k,_,i,g⟩:=l H;let⟨u,d,h⟩:=g j _ (Xc5 (f:=λn=>.p (X n)) e);exact⟨b,rfl,by rw[d,show u=_ from h],k,i j⟩
def SAt.nods(E:SAt w c bt s):∃g d,w.cell? (D bt 1)=O (K g s.M.N d)/\∀(i:Nat) x,s.M.N[i]?=O x->∃e d h,g=O (D e 0)/\w.cell? (D e (i*2+1))=O (K d x.f h)/\X6 w c (100+16*(i*2+1)+1) (K d x.f h) (Xa3 x.f)/\
  ∀(j:Nat) v,x.f[j]?=O v->∃b,d=O (D b 0)/\w.cell? (D b j)=O (X v)/\c b=100+16*(i*2+1)+1/\w.frozen? (D b j)=ϝ:=by
 let⟨a,cap,d,_,_,C⟩:=X5.at1 E (j:=1) (n:=s.M.N.length) rfl (Xap (f:=Xbw) (sz:=2) (λ_=>rfl) _) H;refine⟨a,cap,d,λi x l=>?_⟩;have:=(Ll l);obtain⟨B,rfl,_,_,_,p⟩:=C H;let⟨u,A,m⟩:=p _ _ (Xaq (f:=Xbw) (sz:=2) (λ_=>rfl) l 1 _ rfl);obtain⟨q,r,rfl,_,_,_,z⟩:=X6.at2 m (n:=x.f.length) ψ H;refine⟨B,q,r,rfl,A,m,λj v k=>?_⟩;have:=(Ll k);obtain⟨b,rfl,y,_,t,o⟩:=z H;exact⟨b,rfl,o j _ (by rw[List.getElem?_map,k];rfl),y,t j⟩
def SAt.memRd(a:SAt w c bt s):Kt w bt s.M:=by
 let⟨d,e,f,g⟩:=a.globs;let⟨k,l,h,m⟩:=a.nods;exact⟨⟨d,e,f,λj v d=>by
  let⟨b,a,_⟩:=g j v d;exact⟨b,0,a⟩⟩,k,l,h,λi x g=>by
  let⟨a,e,f,d,h,_,k⟩:=m i x g;exact⟨a,0,e,f,d,by rw[Nat.zero_add];exact h,λj v d=>by
   let⟨b,a,_⟩:=k j v d;exact⟨b,0,a⟩⟩⟩
def Xp1{l:List Gl}{x:Gl}(b:l[i]?=O x)(f:Gl->Gl):l.modify i f=l.set i (f x):=by
 apply List.ext_getElem?;intro k;rw[List.getElem?_modify,List.getElem?_set];by_cases a:i=k
 .subst a;have:=(Ll b);rw[b,if_pos rfl,if_pos this];simp
 rw[if_neg a];cases l[k]?<;>simp[a]
def SAt.place(h:SAt w c bt s){r:Rq}{o:Nat}(E:Wv w bt r b o)(M:0<=r.D)(hl:r.D<((Bd s.M r).length:Int))(x:Int) :
  o=0/\w.cell? (D b r.D.toNat)=O (X ((Bd s.M r).getD r.D.toNat 0))/\w.frozen? (D b r.D.toNat)=ϝ/\b<w/\
  SAt (w.setCell (D b r.D.toNat) (X x)) c bt {s with M:=Xb9 s.M r x}/\AT (λt=>20<=t) c c w (w.setCell (D b r.D.toNat) (X x)):=by
 rcases E with ⟨e,n,k,d⟩|⟨e,_,no,n,k,n2,_,d,G⟩
 .obtain ⟨_,_,m,C⟩:=h.globs
  rw[Gm e]at hl ⊢;have l:s.M.G[r.D.toNat]?=O (s.M.G[r.D.toNat]'H):=Lg H;obtain⟨_,rfl,g,_,F⟩:=C r.D.toNat _ l;rw[m]at d;cases d;let⟨C,E⟩:=X5.put1 h (j:=0) (i:=r.D.toNat) (u:=X x) (x:=.p (X x)) rfl m rfl;refine⟨rfl,by rw[g,Xj3 l],F,Bl g,SAt.of C ?_,E.mono (λt g=>by omega) H⟩;rw[Xdm (f:=λn=>.p (X n)) (x':=x) rfl];unfold Xb9;rw[if_neg H];rfl
 obtain⟨_,_,z,A⟩:=h.nods;let⟨y,a⟩:=Jt e M hl;rw[IJ e a]at hl ⊢;obtain⟨_,_,_,rfl,q,L,B⟩:=A _ y a;have v:y.f[r.D.toNat]?=O (y.f[r.D.toNat]'H):=Lg H;obtain⟨_,rfl,p,_,J⟩:=B r.D.toNat _ v;rw[z]at d;cases d;rw[Nat.zero_add,q]at G;cases G;let⟨d,e⟩:=X5.put2 h (j:=1) (i:=(r.O-1).toNat*2+1) (k:=r.D.toNat) (u:=X x) rfl z q (Xaq (f:=Xbw) (sz:=2) (λ_=>rfl) a 1 _ rfl) L;refine⟨rfl,by rw[p,Xj3 v],J,Bl p,SAt.of d ?_,e.mono (λt d=>by omega) H⟩;rw[Xcd (f:=Xbw) (sz:=2) (λ_=>rfl) a 1 _ (x':=Nm y r.D.toNat x) H (by unfold Xbw Xa3 Nm;simp[List.map_set])];unfold Xb9;rw[if_pos H,Xp1 a];rfl
def SAt.growN(o:SAt w c bt s):∃e g h,w.cell? (D bt 1)=O (K e s.M.N g)/\Ao w c 21 72 2 (K e s.M.N g) s.M.N.length h/\
  ∀(w1:Ϣ)(c1:A1)(v e:ϒ)(g:Nat)(x:Gl),AT (λt=>t=21) c c1 w w1->(∀b,(w1:Nat)<=b->c1 b=0)->Ao w1 c1 21 72 2 v g (h++[X x.type,e])->X6 w1 c1 (100+16*(s.M.N.length*2+1)+1) e (Xa3 x.f)->
   SAt (w1.setCell (D bt 1) v) c1 bt {s with M:={s.M with N:=s.M.N++[x]}}/\AT (λt=>t=1\/t=21) c c1 w (w1.setCell (D bt 1) v):=by
 have i:=Xap (f:=Xbw) (sz:=2) (λ_=>rfl) s.M.N;let⟨h,l,m,e,g,p,q⟩:=X5.row1 o (j:=1) (n:=s.M.N.length) rfl i H;refine⟨h,l,m,e,g,λw1 c1 v B C x l h m r=>?_⟩;let⟨z,A⟩:=X5.push1 o (Xbw x) (j:=1) rfl e g p q l h m rfl (λk u y a d=>by
  match k,a,d with
  |0,a,d=>cases a;cases d;rfl
  |1,a,d=>cases a;cases d;rw[i];exact r
  |k+2,a,d=>simp at a)
 refine⟨SAt.of z ?_,A⟩;rw[show s.M.N.flatMap Xbw++Xbw x=(s.M.N++[x]).flatMap Xbw by simp];rfl
def SAt.growV(l:SAt w c bt s):∃e f g,w.cell? (D bt 2)=O (K e s.q6 f)/\Ao w c 22 22 1 (K e s.q6 f) s.q6.length g/\
  ∀(w1:Ϣ)(c1:A1)(v e:ϒ)(f:Nat)(x:List Int),AT (λt=>t=22) c c1 w w1->(∀b,(w1:Nat)<=b->c1 b=0)->Ao w1 c1 22 22 1 v f (g++[e])->X6 w1 c1 (100+16*s.q6.length+2) e (Xa3 x)->
   SAt (w1.setCell (D bt 2) v) c1 bt {s with q6:=s.q6++[x]}/\AT (λt=>t=1\/t=22) c c1 w (w1.setCell (D bt 2) v):=by
 let⟨g,h,i,e,f,m,o⟩:=X5.row1 l (j:=2) (n:=s.q6.length) rfl ψ H;refine⟨g,h,i,e,f,λw1 c1 v z A x h g i p=>?_⟩;let⟨q,r⟩:=X5.push1 l ([Xa3 x]) (j:=2) rfl e f m o h g i rfl (λk u y a d=>by
  match k,a,d with
  |0,a,d=>cases a;cases d;rw[List.length_map];exact p
  |k+1,a,d=>simp at a)
 refine⟨SAt.of q ?_,r⟩;rw[show s.q6.map Xa3++[Xa3 x]=(s.q6++[x]).map Xa3 by simp];rfl
def SAt.growO(m:SAt w c bt s):∃e g h,w.cell? (D bt 10)=O (K e s.q7 g)/\Ao w c 30 85 2 (K e s.q7 g) s.q7.length h/\
  ∀(w1:Ϣ)(c1:A1)(v:ϒ)(e:Nat)(x:Int×Int),AT (λt=>t=30) c c1 w w1->(∀b,(w1:Nat)<=b->c1 b=0)->Ao w1 c1 30 85 2 v e (h++[X x.1,X x.2])->
   SAt (w1.setCell (D bt 10) v) c1 bt {s with q7:=s.q7++[x]}/\AT (λt=>t=1\/t=30) c c1 w (w1.setCell (D bt 10) v):=by
 have o:=Xap (f:=Xil) (sz:=2) (λ_=>rfl) s.q7;let⟨h,i,l,e,g,p,q⟩:=X5.row1 m (j:=10) (n:=s.q7.length) rfl o H;refine⟨h,i,l,e,g,λw1 c1 v o x i h l=>?_⟩;let⟨r,z⟩:=X5.push1 m (Xil x) (j:=10) rfl e g p q i h l rfl (λk u y a d=>by
  match k,a,d with
  |0,a,d=>cases a;cases d;rfl
  |1,a,d=>cases a;cases d;rfl
  |k+2,a,d=>simp at a)
 refine⟨SAt.of r ?_,z⟩;rw[show s.q7.flatMap Xil++Xil x=(s.q7++[x]).flatMap Xil by simp];rfl
def Xdc(m:Mm)(bt:Nat)(a f:Int)(w:Ϣ)(c:Kt w bt m)(L:0<=a)(L:0<=f)(L:a<=1099511627776) :
  ϙ prog 106 #[.pointer (O (D bt 0)),X a,X f] w (Pb w bt m (Xaw a f)):=by
 let⟨_,_,n,B⟩:=c.g;let⟨_,_,l,M⟩:=c.n;obtain⟨f,rfl⟩:∃c:Nat,f=c:=⟨f.toNat,H⟩;have:=θ ((f:Int)<0);have:=In f;have E:=Lh n;have P:=Lh l;by_cases J:a=0
 .subst J
  have:=θ ((m.N:Int)<0);have e:Bd m (Xaw 0 f)=m.G:=Gm rfl;by_cases N:m.G.length<=f
  .have q:=@Lh (((Bd m (Xaw 0 f)).length:Int)<=(f:Int)) (by rw[e];omega)
   have:=η (m.G.length<=f);go_in;go_wp2;go_ret;exact Gz Br q.o
  obtain⟨v,j⟩:=Ϡ m.G f;obtain⟨b,o,rfl⟩:=B f v j;have s:=@Lh ((f:Int)<((Bd m (Xaw 0 f)).length:Int)) (by rw[e];omega);have:=θ (m.G.length<=f);have:(f:Int)<(m.G:Int):=H;go_in;go_wp2;go_ret;exact J2 Br s.o (.inl ⟨rfl,_,_,E.o⟩) (by simp[Xaw])
 obtain⟨i,rfl⟩:∃i:Nat,a=(i:Int)+1:=⟨(a-1).toNat,H⟩;have:=η (0<(i:Int)+1);have:=θ ((i:Int)+1<0);have:=In i;have:IntKind.i64.wrap ((i:Int)+1-1)=(i:Int):=by rw[IntKind.wrap_i64]<;>omega
 have:IntKind.i64.wrap (i:Int)=(i:Int):=by rw[IntKind.wrap_i64]<;>omega
 have y:((i:Int)+1-1).toNat=i:=H;by_cases A:i<m.N.length;rotate_left
 .have u:=@Lh (((Bd m (Xaw ((i:Int)+1) f)).length:Int)<=(f:Int)) (by unfold Bd Xaw;rw[if_pos (by dsimp only;omega)];simp)
  have:=η ((m.N:Int)<(i:Int)+1);go_in;go_wp2;go_ret;exact Gz Br u.o
 let⟨x,d⟩:=Ϡ m.N i A;have k:Bd m (Xaw ((i:Int)+1) f)=x.f:=IJ (by show(1:Int)<=(i:Int)+1;omega) (by show m.N[((i:Int)+1-1).toNat]?=_;rw[y];exact d);obtain⟨F,no,_,_,rfl,g,z⟩:=M i x d;have G:=Lh g;have:=θ ((m.N:Int)<(i:Int)+1);have:(i:Int)<(m.N:Int):=H;by_cases C:x.f.length<=f
 .have p:=@Lh (((Bd m (Xaw ((i:Int)+1) f)).length:Int)<=(f:Int)) (by rw[k];omega)
  have:=η (x.f.length<=f);go_in;go_wp2;go_ret;exact Gz Br p.o
 obtain⟨v,h⟩:=Ϡ x.f f;obtain⟨b,o,rfl⟩:=z f v h;have t:=@Lh ((f:Int)<((Bd m (Xaw ((i:Int)+1) f)).length:Int)) (by rw[k];omega);have:=θ (x.f.length<=f);have:(f:Int)<(x.f:Int):=H;have r:=Lh y;go_in;go_wp2;go_ret;exact J2 Br t.o (.inr ⟨by show(1:Int)<=(i:Int)+1;omega,_,_,_,_,_,_,P.o,by show w.cell? ⟨F,no+((i:Int)+1-1).toNat*2+1,none⟩=_;rw[r.o];exact G.o⟩) (by simp[Xaw])
def Xdz(v0 v2 v3 v4 v5 v6 v7 v8 v9 a b c:ϒ)(k:Int)(w:Ϣ) :
  ϙ prog 72 #[.agg #[v0,X k,v2,v3,v4,v5,v6,v7,v8,v9,a,b,c]] w λa w'=>a=.returned (.bool (k !=0))/\ϐ w w w':=by
 go_in;go_wp2;go_ret;exact⟨rfl,AA _ _⟩
def Xms(a b d:Option Addr)(n k l:Nat)(w:Ϣ) :
  ϙ prog 102 #[.agg #[K a 0 n,X 0,X 0,X 0,X 0,X 0,X 0,X 0,X 0,X 0,X 0,K b 0 k,K d 0 l]] w λc w'=>c=.returned (.bool ϑ)/\ϐ w w w':=by
 go_in;go_wp2;go_ret;exact⟨rfl,(AA _ _).th (AA _ _)⟩
def Xc9(w:Ϣ)(bt:Nat)(s:Tra):Prop:=∃vs,TraVs (w:Nat) w vs s/\∀(j:Nat) v,vs[j]?=O v->w.cell? (D bt j)=O v
def Xc9.below(e:Xc9 w bt s)(a:ϐ w w w'):Xc9 w' bt s:=by
 let⟨c,b,d⟩:=e;exact⟨c,b.ups a.size (JT.below a),λj v b=>AB a (d j v b)⟩
structure Xp4(w:Ϣ)(bt:Nat)(s:Tra)(gv nv vv av cv ov bv ev dv:ϒ):Prop where
 g:AE w w 1 Aj gv s.M.G/\w.cell? (D bt 0)=O gv
 n:AE w w 2 (GP w) nv s.M.N/\w.cell? (D bt 1)=O nv
 v:AE w w 1 (Bg 1 Aj w) vv s.q6/\w.cell? (D bt 2)=O vv
 q3:w.cell? (D bt 3)=O (X s.q3)
 Y:w.cell? (D bt 4)=O (X s.Y)
 a:AE w w 13 (Xly (w:Nat)) av s.q1/\w.cell? (D bt 5)=O av
 c:AE w w 1 (Bg 2 (DA w) w) cv s.A/\w.cell? (D bt 6)=O cv
 o:AE w w 1 (Bg 5 FM w) ov s.results/\w.cell? (D bt 7)=O ov
 b:AE w w 1 (Bg 1 Aj w) bv s.Z/\w.cell? (D bt 8)=O bv
 e:AE w w 1 (Bg 1 Aj w) ev s.P/\w.cell? (D bt 9)=O ev
 d:AE w w 2 RdE dv s.q7/\w.cell? (D bt 10)=O dv
 q5:w.cell? (D bt 11)=O (X s.q5)
 U:w.cell? (D bt 12)=O (X s.U)
def Xc9.opened(B:Xc9 w bt s):∃g h j b d i c f e,Xp4 w bt s g h j b d i c f e:=by
 obtain⟨_,⟨q,r,u,l,n,t,m,p,o,rfl,k,v,x,y,z,A,C,E,F⟩,a⟩:=B;exact⟨q,r,u,l,n,t,m,p,o,⟨k,a 0 _ rfl⟩,⟨v,a 1 _ rfl⟩,⟨x,a 2 _ rfl⟩,a 3 _ rfl,a 4 _ rfl,⟨y,a 5 _ rfl⟩,⟨z,a 6 _ rfl⟩,⟨A,a 7 _ rfl⟩,⟨C,a 8 _ rfl⟩,⟨E,a 9 _ rfl⟩,⟨F,a 10 _ rfl⟩,a 11 _ rfl,a 12 _ rfl⟩
def Xbu{sz:Nat}{E:Ϣ->Nat->Nat->α->Prop}{d:List (List α)}(c:AE B w 1 (Bg sz E B) v d)(hl:d[i]?=O l) :
  ∃b o cap e f,v=K (O (D b o)) d cap/\w.cell? (D b (o+i))=O (K e l f)/\AE B w sz E (K e l f) l:=by
 obtain⟨a,cap,rfl,_,_,_,c⟩:=c;rcases c with rfl|⟨b,o,rfl,_,c⟩
 .simp at hl
 obtain⟨u,g,h⟩:=c i l hl;obtain⟨j,m,rfl,k⟩:=id h;rw[Nat.mul_one]at g;exact⟨b,o,cap,j,m,rfl,g,h⟩
def Xnj{d:Option Addr}{g:Nat}{l:List Int}(c:AE B w 1 Aj (K d n g) l){x:Int}(e:l[i]?=O x):∃b o,d=O (D b o)/\w.cell? (D b (o+i))=O (X x):=by
 obtain⟨a,cap,f,_,_,_,c⟩:=c;cases f;rcases c with rfl|⟨b,o,rfl,_,c⟩
 .simp at e
 have:=(c i x e).1;rw[Nat.mul_one]at this;exact⟨b,o,rfl,this⟩
def Xhy(s:Tra)(bt i:Nat)(b e:List Int)(w:Ϣ)(v:Xc9 w bt s)(n:s.Z[i]?=O b)(o:s.P[i]?=O e)(J:Xax b e (-1) s.U=ϑ)(hl:e.length<=b.length) :
  ϙ prog 103 #[.pointer (O (D bt 0)),X i] w λh w'=>h=.returned (.bool ϑ)/\ϐ w w w':=by
 let⟨_,_,_,_,_,_,_,_,_,a⟩:=v.opened;obtain⟨_,_,_,_,_,rfl,_,g⟩:=Xbu a.b.1 n;obtain⟨_,_,_,_,ed,rfl,_,A⟩:=Xbu a.e.1 o;have:=a.b.2;have:=a.e.2;have h:=a.U;have:=In i;have:(i:Int)<(s.Z:Int):=by have:=(Ll n);omega
 have:(i:Int)<(s.P:Int):=by have:=(Ll o);omega
 have:b.length<=140737488355328:=by let⟨_,_,_,a,_⟩:=g;exact a
 let⟨L,N,M,E⟩:=Λ4 g A h J;go_in;go_upto_region 1 with fail;go_quiet(fail);go_wp2_with fail;go_loopw[7,26] (λl i wr=>∃(k:Nat)(a:Int),k<=b.length/\i=X k/\l=X a/\ϐ w w wr/\Hid (Xax (b.drop k) (e.drop k) a s.U=ϑ)) (λ_ i _=>b.length-(intOf i).toNat);exact⟨0,-1,Nat.zero_le _,rfl,rfl,AG Br _,Lh E.o⟩;obtain⟨k,F,_,rfl,rfl,c,C⟩:=hrel;by_cases G:k<b.length;rotate_left
 .go_wp2
  go_ret;exact⟨rfl,c⟩
 let⟨x,d⟩:=Ϡ b k G;have z:b.drop k=x::b.drop (k+1):=by obtain⟨p,rfl⟩:=List.getElem?_eq_some_iff.1 d;exact List.drop_eq_getElem_cons p
 obtain⟨_,_,rfl,j⟩:=Xnj L.o d;have c1:=AB c j;have:=AB c M.o;have:=In k;have:(k:Int)<(b:Int):=H;by_cases B:k<e.length;rotate_left
 .have a:=C.o
  have d:e.drop k=[]:=List.drop_eq_nil_of_le H;have g:e.drop (k+1)=[]:=List.drop_eq_nil_of_le H;rw[z,d]at a;unfold Xax at a;simp only[Bool.and_eq_true,decide_eq_true_eq]at a;have:=θ (x<=F);have:=θ (s.U<=x);have t:=@Lh (Xax (b.drop (k+1)) (e.drop (k+1)) x s.U=ϑ) (by rw[g];exact a.2.2);go_wp2;go_roundw;exact⟨k+1,x,H,by go_num,rfl,c,t⟩;simp[intOf];omega
 let⟨y,f⟩:=Ϡ e k B;have u:e.drop k=y::e.drop (k+1):=by obtain⟨q,rfl⟩:=List.getElem?_eq_some_iff.1 f;exact List.drop_eq_getElem_cons q
 obtain⟨_,_,rfl,m⟩:=Xnj N.o f;have:=AB c m;have a:=C.o;rw[z,u]at a;unfold Xax at a;simp only[Bool.and_eq_true,decide_eq_true_eq]at a;have:=θ (x<=F);have:=θ (s.U<=x);have:=θ (y<x);have:=θ (s.U<=y);have:(k:Int)<(e:Int):=H;have r:=Lh a.2.2.2.2;go_wp2_with fail;go_quiet(fail);go_wp2;go_roundw;exact⟨k+1,y,H,by go_num,rfl,AG c _,r⟩;simp[intOf];omega
def Xf4(l:List (Int×Int))(k t:Nat):Nat:=(l.take k).countP λp=>p.1==(t:Int)
def Xet(l:List (Int×Int))(k n:Nat):List ϒ:=(List.range n).map λt=>X (Xf4 l k t)
def Xot(l:List (Int×Int))(k t:Nat):Xf4 l k t<=l.length:=Nt List.countP_le_length (by rw[List.length_take];omega)
def Xlf{l:List (Int×Int)}{o:Int×Int}(a:l[k]?=O o)(t:Nat):Xf4 l (k+1) t=Xf4 l k t+(if o.1=(t:Int)then 1 else 0):=by
 unfold Xf4;rw[List.take_add_one,a];simp[List.countP_append,List.countP_cons]
def Xf5{l:List (Int×Int)}(a:t<n):(Xet l k n)[t]?=O (X (Xf4 l k t)):=by
 unfold Xet;rw[List.getElem?_map,List.getElem?_range a];rfl
def Xmy{l:List (Int×Int)}{q:Int}(c:l[k]?=O ((t:Int),q))(d:t<n):(Xet l k n).set t (X ((Xf4 l k t:Nat)+1:Int))=Xet l (k+1) n:=by
 apply List.ext_getElem?;intro u;by_cases a:u<n
 .rw [Xf5 a,Xlf c]
  by_cases b:u=t
  .subst b
   rw[List.getElem?_set_self (by simp[Xet];exact a)];simp
  rw[List.getElem?_set_ne (Ne.symm b),Xf5 a,if_neg φ];simp
 rw[List.getElem?_eq_none (by simp[Xet];omega),List.getElem?_eq_none (by simp[Xet];omega)]
def Xlk(l:List (Int×Int))(n:Nat):(Xet l 0 n).toArray=Ad (List.replicate n 0):=by
 unfold Xet Ad Xf4;apply congrArg;apply List.ext_getElem?;intro t;by_cases a:t<n
 .rw [List.getElem?_map,List.getElem?_range a,List.getElem?_map,List.getElem?_replicate,if_pos a];simp
 rw[List.getElem?_eq_none φ,List.getElem?_eq_none φ]
def Xjr{a:List (List Int)}{l:List (Int×Int)}{o:Int×Int}(b:l[k]?=O o):Xbp a (l.take (k+1))=(a.getD o.1.toNat []).getD o.2.toNat 0:=by
 unfold Xbp;rw[List.take_add_one,b];simp
def Xjg(s:Tra)(bt:Nat)(w:Ϣ)(o:Xc9 w bt s)(r:s.q1.length<=8)(f:s.results.length=s.q1.length)(e:s.P.length=s.q1.length)(m:Xel s.P s.q7)(g:∀(t:Nat) h d,s.results[t]?=O h->s.P[t]?=O d->d.length=h.length) :
  ϙ prog 71 #[.pointer (O (D bt 0))] w λc w'=>c=.returned (.bool ϑ)/\ϐ w w w':=by
 let⟨_,_,_,_,_,_,_,_,_,a⟩:=o.opened;obtain⟨_,_,rfl⟩:=a.a.1.u1;obtain⟨_,dc,rfl⟩:=a.d.1.u1;obtain⟨_,_,rfl⟩:=a.o.1.u1;obtain⟨_,_,rfl⟩:=a.e.1.u1;have c:=a.a.2;have j:=a.d.2;have z:=Lh a;have W:=Lh m;have bJ:=Lh g;let⟨n,b⟩:=ε s.q1.length;rw[<-b]at r f e c;have c:s.q7.length<=140737488355328:=by let⟨_,_,_,r,_⟩:=a.d.1;exact r
 have q:=Lh (ϟ f (ϟ e (ϟ c b)));clear o a m g f e c b;have r:=FK w n H;let⟨c,a⟩:=ε (w.alloc (I (Ad (List.replicate n 0)) 3));rw[<-a]at r;have g:=@Lh (ϐ w w c/\c.heap[(w:Nat)]?=O (I (Xet s.q7 0 n).toArray 3 (0,0))) (by rw[a,Xlk];exact⟨AA _ _,Hn _ _⟩);clear a;have:=AB g.o.1 j;clear j;go_in;go_wp2_with fail;go_loopw[4,21] (λl i wr=>∃k:Nat,k<=s.q7.length/\i=X k/\l=X (Xbp s.P (s.q7.take k))/\ϐ w w wr/\Hid (wr.heap[(w:Nat)]?=O (I (Xet s.q7 k n).toArray 3 (0,0)))) (λ_ i _=>s.q7.length-(intOf i).toNat);exact⟨0,Nat.zero_le _,rfl,rfl,g.o.1,Lh g.o.2⟩;obtain⟨k,_,rfl,rfl,A,L⟩:=hrel;have:(s.q7:Int)<=140737488355328:=by have:=q.o.2.2.1;omega
 by_cases bH:k<s.q7.length;rotate_left
 .obtain rfl:k=s.q7.length:=H
  go_wp2_with fail;go_loopw[92] (λi c=>∃t:Nat,t<=n/\i=X t/\ϐ w w c/\Hid (c.heap[(w:Nat)]?=O (I (Xet s.q7 s.q7.length n).toArray 3 (0,0)))) (λi _=>n-(intOf i).toNat);exact⟨0,Nat.zero_le _,rfl,A,L⟩;obtain⟨t,_,rfl,e,G⟩:=hrel;by_cases Y:t<n;rotate_left
  .go_wp2
   go_ret;exact⟨rfl,e⟩
  let⟨h,b⟩:=Ϡ s.results t (by have:=q.o.1;omega);let⟨d,a⟩:=Ϡ s.P t (by have:=q.o.2.1;omega);obtain⟨_,_,_,_,_,v,f,-⟩:=Xbu z.o.o.1 b;cases v;have:=AB e z.o.o.2;have:=AB e f;have:wr.cell? (D w t)=O (X (h:Int)):=by
   rw[cell_of_row _ _ _ _ _ _ G.o];have r:=W.o.all t d a;have c:=bJ.o t h d b a;have g:(Xf4 s.q7 s.q7.length t:Int)=h.length:=by unfold Xf4;rw[List.take_length,r,c]
   rw[List.getElem?_toArray,Xf5 Y,g]
  have:=In t;have:(t:Int)<(n:Int):=H;have:(t:Int)<(s.results:Int):=by have:=q.o.1;omega
  clear b a f;go_wp2;go_roundw;exact⟨t+1,H,by go_num,e,G⟩;simp[intOf];omega
 let⟨⟨ot,oq⟩,j⟩:=Ϡ s.q7 k bH;have b:=W.o.at_ k _ j;obtain⟨t,rfl⟩:∃t:Nat,ot=t:=⟨ot.toNat,by have:=b.1;dsimp only at this;omega⟩;obtain⟨a,rfl⟩:∃a:Nat,oq=a:=⟨_,b.2.2.1⟩;simp only[Int.toNat_natCast]at b;obtain⟨-,T,bI,F,E⟩:=b;let⟨d,p⟩:=Ϡ s.P t T;rw[Xau p]at F E;let⟨y,o⟩:=Ϡ d a F;rw[Xau o]at E;have J:t<n:=by have:=q.o.2.1;omega
 have B:a=Xf4 s.q7 k t:=by unfold Xf4;omega
 obtain⟨_,dd,rfl,-,Q,R⟩:=z.o.d.1.nth j;let⟨_,_,_,_,_,u,P,N⟩:=Xbu z.o.e.1 p;cases u;obtain⟨_,_,rfl,ky⟩:=Xnj N o;let⟨m,c⟩:=ε (wr.alloc (I #[X (t:Int),X (a:Int)] 85));have g:=bl1 c;have e:=A.th g;have x0:=AB A Q;have M:=AB A R;dsimp only at x0 M;have:=Δ3 e z.o.e.2 P ky;have b:=(g.block _ (La L.o)).trans L.o;have:m.cell? (D w t)=O (X (a:Int)):=by rw[cell_of_row _ _ _ _ _ _ b,List.getElem?_toArray,Xf5 J,<- B]
 have:m.frozen? (D w t)=ϝ:=Fz b;have:m.cell? (D wr 1)=O (X (a:Int)):=by rw[c,B6];rfl
 have:=θ ((t:Int)<0);have:=θ (n<=t);have:=θ (d.length<=a);have:=θ (y<=Xbp s.P (s.q7.take k));have:=In t;have:(t:Int)<(n:Int):=H;have:(t:Int)<(s.P:Int):=H;have:=In a;have:(a:Int)<(d:Int):=H;have:=In k;have:(k:Int)<(s.q7:Int):=H;have:IntKind.i64.wrap ((a:Int)+1)=(a:Int)+1:=by have:=Xot s.q7 k t;rw[IntKind.wrap_i64]<;>omega
 have S:=Lh e;have V:=Lh b;have C:Hid (Xbp s.P (s.q7.take (k+1))=y/\(Xet s.q7 k n).set t (X ((a:Int)+1))=Xet s.q7 (k+1) n):=Lh ⟨by
  rw[Xjr j];simp only[Int.toNat_natCast];rw[Xau p,Xau o],by rw[B];exact Xmy j J⟩
 have f:=Lh c;clear g e b j bI F E p o B Q R P N ky L c T;go_upto_region 7 with fail;rw[<-f.o];clear f x0 M;go_quiet(fail);go_wp2_with fail;go_quiet(fail);go_wp2;go_roundw;refine⟨k+1,H,by go_num,by rw[C.o.1],Ay (AG S.o _) (Nr _),Lh ?_⟩;have b:∀a,(m.drewN a).heap[(w:Nat)]?=O (I (Xet s.q7 k n).toArray 3 (0,0)):=λ_=>V.o;rw[heap_setCell_same _ _ _ _ _ _ (b _)];simp only[List.setIfInBounds_toArray];rw[C.o.2];simp[intOf];omega
def Xiq:An 99:=λ_ _=>by kernel_rfl
def Xh8:An 100:=λ_ _=>by kernel_rfl
def Xn0(k:Int)(d bt:Nat)(w:Ϣ)(i:w.cell? (D d 0)=O (.pointer (O (D bt 0))))(h:w.cell? (D bt 3)=O (X k)) :
  ∀(x:Int)(w1:Ϣ)(c:ϒ),ϐ w w w1->Ny 0 w1 c x->ϙ prog 100 (#[c]++#[.pointer (O (D d 0))]) w1 (λc e=>c=.returned (.bool (decide (x<0)||decide (k<x)))/\ϐ w1 w1 e):=by
 rintro x w1 j b⟨rfl,_⟩;have:=AB b i;have:=AB b h;show ϙ prog 100 #[X x,.pointer (O (D d 0))] w1 _;by_cases a:x<0
 .have f:=η (x<0) a
  go_in;go_wp2;go_ret;exact⟨by simp[f],Below.refl _ _⟩
 have g:=θ (x<0) a;go_in;go_wp2;go_ret;exact⟨by simp[g],Below.refl _ _⟩
def Xod(k:Int)(b bt B:Nat)(w:Ϣ)(m:B<=w)(f:w.cell? (D b 0)=O (.pointer (O (D bt 0))))(l:w.cell? (D bt 3)=O (X k)) :
  ∀(x:List Int)(w1:Ϣ)(a:ϒ),ϐ w w w1->Q8 B w1 a x->ϙ prog 99 (#[a]++#[.pointer (O (D b 0))]) w1 (λa e=>a=.returned (.bool (x.any λn=>decide (n<0)||decide (k<n)))/\ϐ w1 w1 e):=by
 rintro x w1 c a e;have g:=AB a f;have f:=AB a l;have j:=Nt m a.size;show ϙ prog 99 #[c,.pointer (O (D b 0))] w1 _;have i:=Lh e;have h:=Lh (Xn0 k b bt w1 g f);go_in;go_wp2_with fail;refine(BT 100 #[.pointer (O (D b 0))] (λn=>decide (n<0)||decide (k<n)) x c B w1 Xh8 j i.o h.o).mono ?_;rintro a b⟨rfl,d⟩;go_wp2;go_ret;exact⟨rfl,d⟩
def Xis(s:Tra)(bt:Nat)(w:Ϣ)(M:Xc9 w bt s)(m:Xa4 s.M s.q6 s.q3) :
  ϙ prog 69 #[.pointer (O (D bt 0))] w λe w'=>e=.returned (.bool ϑ)/\ϐ w w w':=by
 let⟨B,b⟩:=ε (w.alloc (I #[.pointer (O (D bt 0))] 88));have C:=bl1 b;have aW:B.cell? (D w 0)=O (.pointer (O (D bt 0))):=by rw[b,B6];rfl
 have e:=M.below C;let⟨_,_,_,_,_,_,_,_,_,a⟩:=e.opened;obtain⟨_,_,rfl⟩:=a.g.1.u1;obtain⟨_,_,rfl⟩:=a.n.1.u1;obtain⟨_,_,rfl⟩:=a.v.1.u1;have:s.M.N.length<=140737488355328:=by let⟨_,_,_,e,_⟩:=a.n.1;exact e
 have Q:=a.g.2;have P:=a.n.2;have o:=a.v.2;have N:=a.q3;have G:=m.len;let⟨_,e⟩:=Ϡ s.q6 0;have f:=m.zero;rw[Xau e]at f;obtain⟨_,_,_,_,_,t,c,-⟩:=Xbu a.v.1 e;cases t;rw[Nat.add_zero]at c;rw[G]at o;rw[f]at c;have p:=Lh m;have J:=Lh a;have aX:=Lh C;have j:=Lh (ϟ aW (ϟ Q (ϟ P (ϟ o N))));have:IntKind.i64.wrap ((s.M.N:Int)+1)=(s.M.N:Int)+1:=by rw[IntKind.wrap_i64]<;>omega
 have:(0:Int)<(s.M.N:Int)+1:=H;have:((s.M.N.length+1:Nat):Int)=(s.M.N:Int)+1:=H;go_in;go_upto_region 1 with fail;rw[<-b];clear b;go_quiet(fail);go_wp2_with fail;go_loopw[40] (λi wr=>∃k:Nat,k<=s.M.N.length/\i=X k/\ϐ B B wr) (λi _=>s.M.N.length-(intOf i).toNat);exact⟨0,Nat.zero_le _,rfl,AG Br _⟩;obtain⟨k,_,rfl,b⟩:=hrel;by_cases Y:k<s.M.N.length;rotate_left
 .have a:=Δ3 b j.o.1 j.o.2.2.2.1 j.o.2.2.2.2
  have W:=Lh (Xod s.q3 (w:Nat) bt (wr:Nat) wr (Nr _) a.1 a.2.2);have V:=Lh (J.o.v.1.ups (Il (E:=λ_=>Aj) B5) b.size (JT.below b));have T:=@Lh ((s.q6.any λl=>l.any λn=>decide (n<0)||decide (s.q3<n))=ϝ) (by
   rw[List.any_eq_false];intro l c;rw[Bool.not_eq_true,List.any_eq_false];intro n a;have:=p.o.vals l c n a;simp;omega)
  have A:=Lh p.o.len;have L:=Lh (aX.o.th b);go_wp2_with fail;rw[<-A.o];refine(Fe 99 #[.pointer (O (D w 0))] (λl=>l.any λn=>decide (n<0)||decide (s.q3<n)) s.q6 _ (wr:Nat) wr Xiq (Nr _) V.o W.o).mono ?_;rintro a c⟨rfl,z⟩;rw[T.o];go_wp2;go_ret;exact⟨rfl,L.o.th z⟩
 let⟨x,g⟩:=Ϡ s.M.N k Y;obtain⟨_,no,rfl,-,R,⟨_,S,v⟩,-⟩:=J.o.n.1.nth g;obtain⟨q,r,rfl⟩:=v.u1;let⟨_,a⟩:=Ϡ s.q6 (k+1) (by have:=p.o.len;omega);have d:=p.o.O k x g;rw[Xau a]at d;obtain⟨_,_,_,_,ud,u,h,-⟩:=Xbu J.o.v.1 a;cases u;rw[d]at h;let⟨e,a⟩:=ε (wr.alloc (I #[X x.type,K q x.f r] 72));have d:=bl1 a;have c:=b.th d;have x0:=AB b R;have:=AB b S;have:=Δ3 c j.o.1 j.o.2.2.2.1 h;have:e.cell? (D wr 1)=O (K q x.f r):=by rw[a,B6];rfl
 have:IntKind.i64.wrap ((k:Int)+1)=(k:Int)+1:=by rw[IntKind.wrap_i64]<;>omega
 have:=In k;have:(k:Int)<(s.M.N:Int):=H;have:(k:Int)+1<(s.M.N:Int)+1:=H;have:(0:Int)<=(k:Int)+1:=H;have:((k:Int)+1).toNat=k+1:=H;have F:=Lh c;have y:=Lh a;clear a;go_upto_region 6 with fail;rw[<-y.o];go_quiet(fail);go_wp2;go_roundw;exact⟨k+1,H,by go_num,AG F.o _⟩;simp[intOf];omega
def Xe7(a:ϐ B w w')(c:B<=mb)(o:Obj):ϐ B w {w' with heap:=w'.heap.setIfInBounds mb o}:=
 ⟨a.os,a.tape,a.output,by simpa using a.size,λb c=>by
  rw[Array.getElem?_setIfInBounds,if_neg H];exact a.block b c⟩
def Xfy{o p:Obj}(a:w.heap[mb]?=O p):({w with heap:=w.heap.setIfInBounds mb o}:Ϣ).heap[mb]?=O o:=by
 have:=(La a);show(w.heap.setIfInBounds mb o)[mb]?=O o;rw[Array.getElem?_setIfInBounds,if_pos rfl,if_pos this]
def Xpm{l:List (Int×Int)}(g:AE B w 2 RdE (K a n cap) l){x:Int×Int}(f:l[k]?=O x):∃b o,a=O (D b o)/\w.cell? (D b (o+k*2))=O (X x.1)/\w.cell? (D b (o+k*2+1))=O (X x.2):=by
 let⟨b,o,e,_,c,d⟩:=g.nth f;exact⟨b,o,e,c,d⟩
def Xpj{l:List (Int×Int×Int)}(h:AE B w 3 WrE (K a n cap) l){x:Int×Int×Int}(g:l[k]?=O x):∃b o,a=O (D b o)/\w.cell? (D b (o+k*3))=O (X x.1)/\w.cell? (D b (o+k*3+1))=O (X x.2.1)/\w.cell? (D b (o+k*3+2))=O (X x.2.2):=by
 let⟨b,o,f,_,c,d,e⟩:=h.nth g;exact⟨b,o,f,c,d,e⟩
def Xc9.memRd(l:Xc9 w bt s):Kt w bt s.M:=by
 let⟨_,_,_,_,_,_,_,_,_,a⟩:=l.opened;obtain⟨h,k,rfl⟩:=a.g.1.u1;obtain⟨d,g,rfl⟩:=a.n.1.u1;refine⟨⟨h,k,a.g.2,λj v h=>?_⟩,d,g,a.n.2,λi x g=>?_⟩
 .obtain ⟨b,o,d,_⟩:=a.g.1.nth h
  exact⟨b,o,d⟩
 obtain⟨n,no,p,_,_,⟨_,m,c⟩,_⟩:=a.n.1.nth g;obtain⟨e,f,rfl⟩:=c.u1;exact⟨n,no,e,f,p,m,λj v d=>by
  let⟨b,o,a,_⟩:=c.nth d;exact⟨b,o,a⟩⟩
def Pb.there{a f:Int}{e:Ending}(j:Pb w bt m (Xaw a f) e w')(c:Xas m a f):ϐ w w w'/\∃b o,Wv w bt (Xaw a f) b o/\e=.returned (.pointer (O (D b (o+f.toNat)))):=by
 obtain⟨i,⟨d,_⟩|⟨_,b,o,g,h⟩⟩:=j
 .have:=c.2.2
  have c:(Xaw a f).D=f:=rfl;rw[c]at d;omega
 exact⟨i,b,o,g,h⟩
def Xix{c:AQ}(e:Dp c m){a f:Int}(d:Xas m a f):a<=1099511627776:=by
 have b:=d.2.2;have:=e.len;unfold Bd Xaw at b;dsimp only at b;split at b
 .simp at b;have:=d.2.1;omega
 omega
def Xgf(d:l.Nodup){x:α}(b:l[k]?=O x):x∉l.take k:=λc=>by
 let⟨j,a⟩:=List.mem_iff_getElem?.1 c;rw[List.getElem?_take]at a;split at a
 .have c:=(Ll b)
  have:=(List.getElem?_inj (Nat.lt_trans (by assumption) c) d).1 (a.trans b.symm);omega
 cases a
def Xh5{x:α}(a:l[k]?=O x):l.take (k+1)=l.take k++[x]:=by rw[List.take_add_one,a];rfl
def Xf0(cd:AQ)(s:Tra)(bt:Nat)(x:Trx)(cF cR:Option Addr)(bZ cP:Nat)(fv c e:ϒ)(w:Ϣ)(eP:C8 w)(eS:Bv cd)(hs:AU cd)(eQ:BF w w (.agg (Bc cF bZ cR cP cd)) cd)(dV:Xc9 w bt s)(eR:Dp cd s.M)
  (dR:AE w w 4 (CK w) fv x.run.J) (V:AE w w 2 RdE c x.q4) (bX:AE w w 3 WrE e x.q2) (F:Xcl cd s.M s.q3 s.U x) (M:s.U<=65536) :
  ϙ prog 101 #[.agg (Bc cF bZ cR cP cd),.pointer (O (D bt 0)),.agg (Xa9 fv c e x).toArray] w λc w'=>c=.returned (.bool ϑ)/\ϐ w w w':=by
 obtain⟨cY,dA,rfl⟩:=dR.u1;obtain⟨eE,eF,rfl⟩:=V.u1;obtain⟨cV,wc,rfl⟩:=bX.u1;have eO:w.cell? (D bt 3)=O (X s.q3):=by let⟨_,_,_,_,_,_,_,_,_,c⟩:=dV.opened;exact c.q3
 have:x.q4.length<=140737488355328:=by let⟨_,_,_,c,_⟩:=V;exact c
 have:x.q2.length<=140737488355328:=by let⟨_,_,_,c,_⟩:=bX;exact c
 unfold Xa9 FW;simp only[List.cons_append,List.nil_append];let⟨M,a⟩:=ε ((w.alloc (I (Bc cF bZ cR cP cd) 25)).alloc (I #[K cY x.run.J dA,X x.run.Q.K,X x.run.Q.O,X x.run.Q.D,X x.run.Q.V,X x.run.Q.X,X x.run.Y,X x.run.C,X x.run.I,X x.q8,X x.N,K eE x.q4 eF,K cV x.q2 wc] 62));have e:=bl2 a;have cV:=Lh (sz2 a);have eE:=Xct a;have c:=Xcm a;have eT:=Lh (Valid_yes cd _ x.run (K cY x.run.J dA) (w:Nat) M.drew (eP.below (AG e 1)) (by have:=cV.o;show(w:Nat)<=M;omega) (eQ.below (AG e 1)) (dR.fras (AG e 1)) eS (F.u2.valid hs));have eC:=Lh F;have eV:=Lh eR;have eU:=Lh (dV.below e);have eY:=Lh (V.ups (E:=λ_=>RdE) Xb5 (Nr _) (JT.below e));have eX:=Lh (bX.ups (E:=λ_=>WrE) Xdg (Nr _) (JT.below e));have eW:=Lh e;have dX:=AB e eO;have:=F.q8;have:=F.N;have:=θ (x.q8<0);have:=θ (s.q3<x.q8);have:=θ (x.N<0);have:=θ (1099511627776<x.N);have F:=Cw c 11 rfl;have e:=Cw c 12 rfl;have eJ:=Lh (ϟ F e);let⟨dJ,dL,dM⟩:=Ω3 eE;have dK:=Cw c 0 rfl;have dI:=Cw c 1 rfl;have dH:=Cw c 2 rfl;have dG:=Cw c 3 rfl;have dF:=Cw c 4 rfl;have dE:=Cw c 5 rfl;have dD:=Cw c 6 rfl;have dC:=Cw c 7 rfl;have dB:=Cw c 8 rfl;have cZ:=Cw c 9 rfl;have cX:=Cw c 10 rfl;go_in;go_upto_region 1 with fail;rw[<-a];clear a;go_region_held3 (λb=>b.cell? (D w 0)=O (K cF cd.H bZ)/\b.cell? (D w 1)=O (X cd.G)/\b.cell? (D w 2)=O (K cR cd.q0 cP)/\b.cell? (D (w+1) 0)=O (K cY x.run.J dA)/\b.cell? (D (w+1) 1)=O (X x.run.Q.K)/\b.cell? (D (w+1) 2)=O (X x.run.Q.O)/\b.cell? (D (w+1) 3)=O (X x.run.Q.D)/\b.cell? (D (w+1) 4)=O (X x.run.Q.V)/\b.cell? (D (w+1) 5)=O (X x.run.Q.X)/\b.cell? (D (w+1) 6)=O (X x.run.Y)/\b.cell? (D (w+1) 7)=O (X x.run.C)/\b.cell? (D (w+1) 8)=O (X x.run.I)/\b.cell? (D (w+1) 9)=O (X x.q8)/\b.cell? (D (w+1) 10)=O (X x.N)/\b.cell? (D bt 3)=O (X s.q3))
  (first|exact⟨dJ,dL,dM,dK,dI,dH,dG,dF,dE,dD,dC,dB,cZ,cX,dX⟩|exact⟨AB a dJ,AB a dL,AB a dM,AB a dK,AB a dI,AB a dH,AB a dG,AB a dF,AB a dE,AB a dD,AB a dC,AB a dB,AB a cZ,AB a cX,AB a dX⟩)
  (first|(go_at_call 110;refine eT.o.mono ?_;rintro eM d⟨rfl,a⟩))
 have c:=Lh ((AG Br 1).th a);let⟨a,b⟩:=ε (d.alloc (.map #[] 0));have:(Instr.makeMap 188 none).run prog d=.ok (.map (O (d:Nat))) a:=by rw[b];simp[Instr.makeMap]
 have z:=@Lh (ϐ d d a/\a.heap[(d:Nat)]?=O (.map #[] 0)) (by rw[b];exact⟨AA _ _,Hn _ _⟩);have dT:=c;have:=AB (c.o.th z.o.1) eJ.o.1;clear b;go_wp2_with fail;go_loopw[47] (λi wr=>∃k:Nat,k<=x.q4.length/\i=X k/\ϐ d d wr/\Hid (wr.heap[(d:Nat)]?=O (.map (Xdr (x.q4.take k)).toArray (x.q4.take k).length))) (λi _=>x.q4.length-(intOf i).toNat);exact⟨0,Nat.zero_le _,rfl,z.o.1,Lh z.o.2⟩;obtain⟨k,_,rfl,Y,R⟩:=hrel;have q:=dT.o.th Y;by_cases dP:k<x.q4.length;rotate_left
 .have c:=AB q eJ.o.2
  have cW:=Lh q;let⟨a,b⟩:=ε (wr.alloc (.map #[] 0));have d:(Instr.makeMap 188 none).run prog wr=.ok (.map (O (wr:Nat))) a:=by rw[b];simp[Instr.makeMap]
  have o:=@Lh (ϐ wr wr a/\a.heap[wr.heap.size]?=O (.map #[] 0)) (by rw[b];exact⟨AA _ _,Hn _ _⟩);have c:=AB o.o.1 c;let⟨p,a⟩:=ε wr;rw[<-a]at d o cW ⊢;clear b a;go_wp2_with fail;let⟨A,a⟩:=ε (x.q2.map λy=>(y.1,y.2.1));have cT:=Lh a;clear a;go_loopw[70] (λi wr=>∃k:Nat,k<=x.q2.length/\i=X k/\ϐ p p wr/\Hid (wr.heap[(p:Nat)]?=O (.map (Xdr (A.take k)).toArray (A.take k).length))) (λi _=>x.q2.length-(intOf i).toNat);exact⟨0,Nat.zero_le _,rfl,o.o.1,Lh o.o.2⟩;obtain⟨k,_,rfl,Y,R⟩:=hrel;have q:=cW.o.th Y;by_cases dP:k<x.q2.length;rotate_left
  .have N:=Lh (eW.o.th q)
   go_wp2;go_ret;exact⟨rfl,N.o⟩
  let⟨⟨n,rf,dW⟩,r⟩:=Ϡ x.q2 k dP;let⟨j,cS⟩:=eC.o.writesP _ (Lm r);have v:A[k]?=O (n,rf):=by rw[cT.o,List.getElem?_map,r];rfl
  have S:=Xgf (by rw[cT.o];exact eC.o.q2) v;dsimp only at j cS;obtain⟨_,_,rfl,x0,l,h⟩:=Xpj eX.o r;let⟨x0,l,h⟩:=Δ3 q x0 l h;dsimp only at x0 l h;let⟨e,a⟩:=ε ((wr.alloc (I #[X n,X rf,X dW] 120)).alloc (I #[X n,X rf] 85));have b:=bl2 a;have d:=Xct a;have c:=Xcm a;have eI:=Ω3 d;have cU:=Ω2 c;have c:=(b.block _ (La R.o)).trans R.o;have:=Xh0 S c;have dY:=Lh (Xdc s.M bt n rf e (eU.o.below (q.th b)).memRd j.1 j.2.1 (Xix eV.o j));let⟨cO,Q,eB,eL⟩:=Λ4 (ϟ j cS) c S (Xh5 v);have eK:=@Lh (min k A.length=k) (Nat.min_eq_left (by have:=(Ll v);omega));have eH:=@Lh ((A.take k++[(n,rf)]).length=k+1) (by have:=(Ll v);simp;omega);have dS:=Lh (Y.th b);have cG:=Lh a;have:=In k;have:(k:Int)<(x.q2:Int):=H;clear a;go_upto_region 16 with fail;rw[<-cG.o];go_wp2_with fail;refine dY.o.mono ?_;rintro a b L;obtain⟨m,_,_,-,rfl⟩:=L.there cO.o.1;have:=Δ3 m eI.2.2 cU.1 cU.2;have a:=(m.block _ (La Q.o)).trans Q.o;have:=Xgh eB.o a;have C:=Lh (ϟ (dS.o.th m) a);have T:=Aq.2 cO.o.2;go_wp2_with(go_at_call 50;refine(Xhc dW _).mono ?_;rintro eN w'⟨rfl,rfl⟩;rw[T]);go_roundw;exact⟨k+1,H,by go_num,Xe7 C.o.1 (Nr _) _,Lh (by rw[eL.o,eH.o,eK.o];exact Xfy C.o.2)⟩;simp[intOf];omega
 let⟨⟨u,rf⟩,t⟩:=Ϡ x.q4 k dP;have g:=eC.o.readsP _ (Lm t);have P:=Xgf eC.o.q4 t;dsimp only at g;obtain⟨_,_,rfl,x0,l⟩:=Xpm eY.o t;have x0:=AB q x0;have l:=AB q l;dsimp only at x0 l;let⟨b,a⟩:=ε (wr.alloc (I #[X u,X rf] 85));have c:=bl1 a;have eG:b.cell? (D wr 0)=O (X u):=by rw[a,B6];rfl
 have eD:b.cell? (D wr 1)=O (X rf):=by rw[a,B6];rfl
 have d:=(c.block _ (La R.o)).trans R.o;have:=Xh0 P d;have dO:=Lh (Xdc s.M bt u rf b (eU.o.below (q.th c)).memRd g.1 g.2.1 (Xix eV.o g));let⟨dN,G,dU,eA⟩:=Λ4 g d P (Xh5 t);have dZ:=@Lh ((x.q4.take k++[(u,rf)]).length=k+1) φ;have dQ:=Lh (Y.th c);have W:=Lh a;have:=In k;have:(k:Int)<(x.q4:Int):=H;clear a;go_upto_region 7 with fail;rw[<-W.o];go_wp2_with fail;refine dO.o.mono ?_;rintro a b J;obtain⟨f,_,_,-,rfl⟩:=J.there dN.o;have:=AB f eG;have:=AB f eD;have a:=(f.block _ (La G.o)).trans G.o;have:=Xgh dU.o a;have B:=Lh (ϟ (dQ.o.th f) a);go_wp2;go_roundw;exact⟨k+1,H,by go_num,Xe7 B.o.1 (Nr _) _,Lh (by rw[eA.o,dZ.o];exact Xfy B.o.2)⟩;simp[intOf];omega
def Xd0:An 104:=λ_ _=>by kernel_rfl
def Xgk(c:AQ)(g i:Option Addr)(d h a B:Nat)(w:Ϣ)(j:B<=w)(s:BF B w (.agg (Bc g d i h c)) c)
  (r:w.cell? (D a 0)=O (K g c.H d)) (q:w.cell? (D a 1)=O (X c.G)) (p:w.cell? (D a 2)=O (K i c.q0 h)) :
  ∀(x:Bi)(w1:Ϣ)(d:ϒ),ϐ w w w1->Gh B w1 d x->ϙ prog 104 (#[d]++#[.pointer (O (D a 0))]) w1 (λd g=>d=.returned (.bool (AS c x 0 !=0))/\ϐ w1 w1 g):=by
 rintro x w1 t l⟨_,rfl,k,o⟩;obtain⟨e,f,rfl⟩:=k.u1;show ϙ prog 104 #[.agg #[.string x.proc,K e x.args f],.pointer (O (D a 0))] w1 _;let⟨h,b⟩:=ε (w1.alloc (I #[.string x.proc,K e x.args f] 64));have d:=bl1 b;have a:=l.th d;have:=Δ3 a r q p;have g:=Xao b;have x0:=Ω2 g;have n:=Lh (Xgr c _ x (.agg #[.string x.proc,K e x.args f]) B h (Nt j a.size) (s.below (a.mono j)) ⟨_,rfl,k.ints (d.mono (Nt j l.size)),o⟩);have m:=Lh d;go_in;go_upto_region 1 with fail;rw[<-b];clear b;go_wp2_with fail;refine n.o.mono ?_;rintro d e⟨rfl,a⟩;have b:=Lh (m.o.th a);go_wp2;go_ret;exact⟨rfl,b.o⟩
def Xi2(cd:AQ)(s:Tra)(bt i:Nat)(l:List Bi)(r:List CD)(b e:List Int)(bV bW:Option Addr)(bT bU:Nat)(w:Ϣ)(dT:C8 w)(dS:Bv cd)(hs:AU cd)(dJ:BF w w (.agg (Bc bV bT bW bU cd)) cd)(cO:Xc9 w bt s)(dR:Dp cd s.M)(c:AtS s i Xat l r b e)
  (cN:b.length=r.length) (dI:∀y∈l,AS cd y 0=0) (cM:e.length=r.length) (dQ:l.length+r.length<=2000) (dH:Xax b e (-1) s.U=ϑ) (dP:s.U<=65536) :
  ϙ prog 70 #[.agg (Bc bV bT bW bU cd),.pointer (O (D bt 0)),X i] w λC w'=>C=.returned (.bool ϑ)/\ϐ w w w':=by
 let⟨_,_,_,_,_,_,_,_,_,d⟩:=cO.opened;obtain⟨_,_,rfl⟩:=d.a.1.u1;obtain⟨ab,ao,rfl,-,⟨_,g,dG,-⟩,dE,dD,⟨_,dC,dF⟩,⟨_,dA,dB⟩⟩:=d.a.1.nth c.x;obtain⟨cB,cC,rfl⟩:=dG.u1;obtain⟨bZ,cA,rfl⟩:=dF.u1;obtain⟨bY,wc,rfl⟩:=dB.u1;obtain⟨_,_,_,_,_,rfl,cZ,cY⟩:=Xbu d.c.1 c.l;obtain⟨_,_,_,_,_,rfl,cX,-⟩:=Xbu d.o.1 c.r;obtain⟨_,_,_,_,_,rfl,cG,-⟩:=Xbu d.b.1 c.b;obtain⟨_,_,_,_,_,rfl,cF,-⟩:=Xbu d.e.1 c.e;rw[cN]at cG;rw[cM]at cF;have cH:=d.a.2;have cW:=d.c.2;have cV:=d.o.2;have cU:=d.b.2;have cT:=d.e.2;have M:w.cell? (D ab (ao+i*13+0))=O (K cB 0 cC):=g 0 _ rfl;have cS:w.cell? (D ab (ao+i*13+1))=O (X 0):=g 1 _ rfl;have cR:w.cell? (D ab (ao+i*13+2))=O (X 0):=g 2 _ rfl;have cP:w.cell? (D ab (ao+i*13+3))=O (X 0):=g 3 _ rfl;have cL:w.cell? (D ab (ao+i*13+4))=O (X 0):=g 4 _ rfl;have cJ:w.cell? (D ab (ao+i*13+5))=O (X 0):=g 5 _ rfl;have cI:w.cell? (D ab (ao+i*13+6))=O (X 0):=g 6 _ rfl;have cE:w.cell? (D ab (ao+i*13+7))=O (X 0):=g 7 _ rfl;have R:w.cell? (D ab (ao+i*13+8))=O (X 0):=g 8 _ rfl;rw[Nat.add_zero]at M;have cD:w.cell? (D ab (ao+i*13+9))=O (X 0):=dE;have bX:w.cell? (D ab (ao+i*13+10))=O (X 0):=dD;have Y:w.cell? (D ab (ao+i*13+11))=O (K bZ 0 cA):=dC;have F:w.cell? (D ab (ao+i*13+12))=O (K bY 0 wc):=dA;let⟨C,j⟩:=ε (w.alloc (I (Bc bV bT bW bU cd) 25));have cH:=Δ9 (bl1 j) cH M cS cR cP cL cJ cI cE;have R:=Δ5 (bl1 j) R cD bX Y F;have f:=sz1 j;let⟨A,p⟩:=ε (C.alloc (I #[K cB 0 cC,X 0,X 0,X 0,X 0,X 0,X 0,X 0,X 0,X 0,X 0,K bZ 0 cA,K bY 0 wc] 62));have h:=(bl1 j).th (bl1 p);have cK:=@Lh ((A:Nat)=(w:Nat)+2) (by rw[sz1 p,f]);have EZ:=Lh f;have F:A.heap[(w:Nat)]?=O (I (Bc bV bT bW bU cd) 25 (0,0)):=by rw[(bl1 p).block _ H];exact Xao j
 have a:A.heap[(w:Nat)+1]?=O (I #[K cB 0 cC,X 0,X 0,X 0,X 0,X 0,X 0,X 0,X 0,X 0,X 0,K bZ 0 cA,K bY 0 wc] 62 (0,0)):=by rw[<-f];exact Xao p
 clear f;let⟨f,n,o⟩:=Ω3 F;have bS:=Cw a 0 rfl;have bR:=Cw a 1 rfl;have W:=Cw a 2 rfl;have V:=Cw a 3 rfl;have T:=Cw a 4 rfl;have S:=Cw a 5 rfl;have Q:=Cw a 6 rfl;have P:=Cw a 7 rfl;have N:=Cw a 8 rfl;have L:=Cw a 9 rfl;have J:=Cw a 10 rfl;have G:=Cw a 11 rfl;have E:=Cw a 12 rfl;let⟨m,k,x,u,z⟩:=Δ5 h cW cZ cV cX cU;let⟨q,t,v⟩:=Δ3 h cG cT cF;have dK:=Lh (cO.below h);have B:=Lh (ϟ c.b (ϟ c.e (ϟ dH (ϟ cM cN))));have dM:=Lh (cY.ups Hd (Nr _) (JT.below h));have dL:=Lh (dJ.below h);have dO:=Lh h;have dN:=@Lh (l.any (λy=>AS cd y 0 !=0)=ϝ) (by
  rw[List.any_eq_false];intro y C;rw[dI y C];simp)
 have:=In i;have:(i:Int)<(s.q1:Int):=by have:=(Ll c.x);omega
 have:(i:Int)<(s.A:Int):=by have:=(Ll c.l);omega
 have:(i:Int)<(s.results:Int):=by have:=(Ll c.r);omega
 have:(i:Int)<(s.Z:Int):=by have:=(Ll c.b);omega
 have:(i:Int)<(s.P:Int):=by have:=(Ll c.e);omega
 have:IntKind.i64.wrap ((l:Int)+(r:Int))=(l:Int)+(r:Int):=by rw[IntKind.wrap_i64]<;>omega
 have:=θ (2000<(l:Int)+(r:Int));clear dT dS hs dJ cO dR c cN dI cM dQ dH dP d g dE dD dC dA dG dF dB cY cZ cX cG cF cW cV cU cT F a h;go_in;go_upto_region 1 with fail;rw[<-j];clear j;go_upto_region 2 with fail;rw[<-p,EZ.o];clear p cH R;go_wp2_with fail;refine(Xdz _ _ _ _ _ _ _ _ _ _ _ _ _ A).mono ?_;rintro C w1⟨rfl,a⟩;let⟨f,n,o,bS,bR,W,V,T,S⟩:=Δ9 a f n o bS bR W V T S;let⟨Q,P,N,L,J,G,E,m,k⟩:=Δ9 a Q P N L J G E m k;let⟨x,u,z,q,t⟩:=Δ5 a x u z q t;have v:=AB a v;have R:=Lh a;clear a;go_wp2_with fail;refine(Xms cB bZ bY cC cA wc w1).mono ?_;rintro C c⟨rfl,a⟩;let⟨f,n,o,m,k,x,u,z,q⟩:=Δ9 a f n o m k x u z q;have t:=AB a t;have v:=AB a v;have p:=Lh (R.o.th a);clear a bS bR W V T S Q P N L J G E;go_wp2_with fail;go_quiet(fail);have g:=@Lh (ϐ A A (c.drewN nq)) (AG p.o _);let⟨h,d⟩:=ε (c.drewN nq);rw[<-d]at g ⊢;have a:ϐ c c h:=by rw[d];exact AG Br _
 let⟨f,n,o,m,k,x,u,z,q⟩:=Δ9 a f n o m k x u z q;have t:=AB a t;have v:=AB a v;clear d a;go_wp2_with fail;refine(Xhy s bt i b e h (dK.o.below g.o) B.o.1 B.o.2.1 B.o.2.2.1 (by rw[B.o.2.2.2.1,B.o.2.2.2.2];omega)).mono ?_;rintro h d⟨rfl,c⟩;have f:=Δ5 c f n o m k;have a:=Lh (g.o.th c);clear c;have G:=Lh (Xgk cd bV bW bT bU (w:Nat) (w:Nat) d (by have:=a.o.size;have:=cK.o;omega) (dL.o.below (a.o.mono (by have:=cK.o;omega))) f.1 f.2.1 f.2.2.1);have E:=Lh (dM.o.ups Hd (Nr _) (JT.below a.o));go_wp2_with fail;refine(Fb 104 #[.pointer (O (D w 0))] (λy=>AS cd y 0 !=0) l _ (w:Nat) d Xd0 (by have:=a.o.size;have:=cK.o;omega) E.o G.o).mono ?_;rintro d f⟨rfl,c⟩;rw[dN.o];have j:=Lh (a.o.th c);clear c;go_wp2;go_ret;exact⟨rfl,dO.o.th j.o⟩
def Xkg(cd:AQ)(s:Tra)(bt i:Nat)(x:Trx)(l:List Bi)(r:List CD)(b e:List Int)(P Q:Option Addr)(M N:Nat)(w:Ϣ)(dV:C8 w)(dU:Bv cd)(hs:AU cd)(cZ:BF w w (.agg (Bc P M Q N cd)) cd)(G:Xc9 w bt s)(dT:Dp cd s.M)(f:AtS s i x l r b e)
  (cY:Xcl cd s.M s.q3 s.U x) (dS:l≠[]) (cX:b.length=r.length+1) (dR:∀y∈l,AS cd y 0=0) (cW:e.length=r.length) (eB:l.length+r.length<=2000) (dQ:Xax b e (-1) s.U=ϑ) (dP:s.U<=65536) :
  ϙ prog 70 #[.agg (Bc P M Q N cd),.pointer (O (D bt 0)),X i] w λa w'=>a=.returned (.bool ϑ)/\ϐ w w w':=by
 let⟨_,_,_,_,_,_,_,_,_,g⟩:=G.opened;obtain⟨_,_,rfl⟩:=g.a.1.u1;obtain⟨ab,ao,rfl,-,⟨_,dO,cV,-⟩,dN,dM,⟨_,dL,cU⟩,⟨_,dK,cT⟩⟩:=g.a.1.nth f.x;obtain⟨cM,cO,rfl⟩:=cV.u1;obtain⟨cL,cN,rfl⟩:=cU.u1;obtain⟨cK,wc,rfl⟩:=cT.u1;obtain⟨_,_,_,_,_,rfl,dJ,dI⟩:=Xbu g.c.1 f.l;obtain⟨_,_,_,_,_,rfl,dH,-⟩:=Xbu g.o.1 f.r;obtain⟨_,_,_,_,_,rfl,cR,-⟩:=Xbu g.b.1 f.b;obtain⟨_,_,_,_,_,rfl,cP,-⟩:=Xbu g.e.1 f.e;rw[cX]at cR;rw[cW]at cP;have cS:=g.a.2;have dF:=g.c.2;have dE:=g.o.2;have dD:=g.b.2;have dC:=g.e.2;let⟨a,W,Y,bT,bU,bV,bW,bX,J⟩:=Γ9 dO;rw[Nat.add_zero]at a;have T:=dN;have R:=dM;have L:=dL;have j:=dK;let⟨S,o⟩:=ε (w.alloc (I (Bc P M Q N cd) 25));have cS:=Δ9 (bl1 o) cS a W Y bT bU bV bW bX;have J:=Δ5 (bl1 o) J T R L j;have a:=sz1 o;let⟨k,C⟩:=ε (S.alloc (I #[K cM x.run.J cO,X x.run.Q.K,X x.run.Q.O,X x.run.Q.D,X x.run.Q.V,X x.run.Q.X,X x.run.Y,X x.run.C,X x.run.I,X x.q8,X x.N,K cL x.q4 cN,K cK x.q2 wc] 62));have c:=(bl1 o).th (bl1 C);have dA:=@Lh ((k:Nat)=(w:Nat)+2) (by rw[sz1 C,a]);have EZ:=Lh a;have L:k.heap[(w:Nat)]?=O (I (Bc P M Q N cd) 25 (0,0)):=by rw[(bl1 C).block _ H];exact Xao o
 have d:k.heap[(w:Nat)+1]?=O (I #[K cM x.run.J cO,X x.run.Q.K,X x.run.Q.O,X x.run.Q.D,X x.run.Q.V,X x.run.Q.X,X x.run.Y,X x.run.C,X x.run.I,X x.q8,X x.N,K cL x.q4 cN,K cK x.q2 wc] 62 (0,0)):=by rw[<-a];exact Xao C
 clear a;let⟨h,p,q⟩:=Ω3 L;have cJ:=Cw d 0 rfl;have cI:=Cw d 1 rfl;have cH:=Cw d 2 rfl;have cG:=Cw d 3 rfl;have cF:=Cw d 4 rfl;have cE:=Cw d 5 rfl;have cD:=Cw d 6 rfl;have cC:=Cw d 7 rfl;have cB:=Cw d 8 rfl;have cA:=Cw d 9 rfl;have bZ:=Cw d 10 rfl;have bY:=Cw d 11 rfl;have V:=Cw d 12 rfl;let⟨n,m,A,v,B⟩:=Δ5 c dF dJ dE dH dD;let⟨t,u,z⟩:=Δ3 c cR dC cP;have dW:=Lh (G.below c);have F:=Lh (ϟ f.b (ϟ f.e (ϟ dQ (ϟ cW cX))));have dY:=Lh (dI.ups Hd (Nr _) (JT.below c));have dX:=Lh (cZ.below c);have eA:=Lh c;have dZ:=@Lh (l.any (λy=>AS cd y 0 !=0)=ϝ) (by
  rw[List.any_eq_false];intro y a;rw[dR y a];simp)
 have:=In i;have:(i:Int)<(s.q1:Int):=by have:=(Ll f.x);omega
 have:(i:Int)<(s.A:Int):=by have:=(Ll f.l);omega
 have:(i:Int)<(s.results:Int):=by have:=(Ll f.r);omega
 have:(i:Int)<(s.Z:Int):=by have:=(Ll f.b);omega
 have:(i:Int)<(s.P:Int):=by have:=(Ll f.e);omega
 have:IntKind.i64.wrap ((l:Int)+(r:Int))=(l:Int)+(r:Int):=by rw[IntKind.wrap_i64]<;>omega
 have:=θ (2000<(l:Int)+(r:Int));have:IntKind.i64.wrap ((r:Int)+1)=(r:Int)+1:=by rw[IntKind.wrap_i64]<;>omega
 have dG:(x.run.Q.K !=0)=ϑ:=by simp;exact Xdf cY.u2
 have:((l:Int)==0)=ϝ:=by have:=List.length_pos_iff.2 dS;simp;omega
 have dB:=Lh (λ(j:Ϣ)(a:ϐ k k j)=>Xf0 cd s bt x P Q M N (K cM x.run.J cO) (K cL x.q4 cN) (K cK x.q2 wc) j (dV.below (c.th a)) dU hs ((cZ.below (c.th a)).up (c.th a).size) (G.below (c.th a)) dT (cV.ups Dx (c.th a).size (JT.below (c.th a))) (cU.ups (E:=λ_=>RdE) Xb5 (c.th a).size (JT.below (c.th a))) (cT.ups (E:=λ_=>WrE) Xdg (c.th a).size (JT.below (c.th a))) cY dP);clear dV dU hs cZ G dT f cY dS cX dR cW eB dQ dP g dO dN dM dL dK cV cU cT dI dJ dH cR cP dF dE dD dC L d c;go_in;go_upto_region 1 with fail;rw[<-o];clear o;go_upto_region 2 with fail;rw[<-C,EZ.o];clear C cS J;go_wp2_with fail;refine(Xdz _ _ _ _ _ _ _ _ _ _ _ _ _ k).mono ?_;rintro j w1⟨rfl,a⟩;let⟨h,p,q,cJ,cI,cH,cG,cF,cE⟩:=Δ9 a h p q cJ cI cH cG cF cE;let⟨cD,cC,cB,cA,bZ,bY,V,n,m⟩:=Δ9 a cD cC cB cA bZ bY V n m;let⟨A,v,B,t,u⟩:=Δ5 a A v B t u;have z:=AB a z;have g:=Lh a;clear a;rw[dG];go_wp2_with fail;refine(dB.o w1 g.o).mono ?_;rintro j d⟨rfl,a⟩;let⟨h,p,q,n,m,A,v,B,t⟩:=Δ9 a h p q n m A v B t;have u:=AB a u;have z:=AB a z;have J:=Lh (g.o.th a);clear a cJ cI cH cG cF cE cD cC cB cA bZ bY V;go_wp2_with fail;go_quiet(fail);have f:=@Lh (ϐ k k (d.drewN nq)) (AG J.o _);let⟨o,c⟩:=ε (d.drewN nq);rw[<-c]at f ⊢;have a:ϐ d d o:=by rw[c];exact AG Br _
 let⟨h,p,q,n,m,A,v,B,t⟩:=Δ9 a h p q n m A v B t;have u:=AB a u;have z:=AB a z;clear c a;go_wp2_with fail;refine(Xhy s bt i b e o (dW.o.below f.o) F.o.1 F.o.2.1 F.o.2.2.1 (by rw[F.o.2.2.2.1,F.o.2.2.2.2];omega)).mono ?_;rintro d C⟨rfl,a⟩;have h:=Δ5 a h p q n m;have c:=Lh (f.o.th a);clear a;have bY:=Lh (Xgk cd P Q M N (w:Nat) (w:Nat) C (by have:=c.o.size;have:=dA.o;omega) (dX.o.below (c.o.mono (by have:=dA.o;omega))) h.1 h.2.1 h.2.2.1);have V:=Lh (dY.o.ups Hd (Nr _) (JT.below c.o));go_wp2_with fail;refine(Fb 104 #[.pointer (O (D w 0))] (λy=>AS cd y 0 !=0) l _ (w:Nat) C Xd0 (by have:=c.o.size;have:=dA.o;omega) V.o bY.o).mono ?_;rintro d f⟨rfl,a⟩;rw[dZ.o];have G:=Lh (c.o.th a);clear a;go_wp2;go_ret;exact⟨rfl,eA.o.th G.o⟩
def Xew(cd:AQ)(s:Tra)(bt:Nat)(N P:Option Addr)(L M:Nat)(w:Ϣ)(bX:C8 w)(cG:Bv cd)(bY:BF w w (.agg (Bc N L P M cd)) cd)(bH:Xc9 w bt s)(m:Xbh cd s)(cI:1<=s.q1.length)(cH:s.q1.length<=8)(cD:s.U<=65536) :
  ϙ prog 39 #[.agg (Bc N L P M cd),.pointer (O (D bt 0))] w λf w'=>f=.returned (.bool ϑ)/\ϐ w w w':=by
 let⟨_,_,_,_,_,_,_,_,_,d⟩:=bH.opened;obtain⟨bP,bQ,rfl⟩:=d.g.1.u1;obtain⟨bR,bS,rfl⟩:=d.n.1.u1;obtain⟨_,_,rfl⟩:=d.a.1.u1;obtain⟨_,_,rfl⟩:=d.c.1.u1;obtain⟨_,_,rfl⟩:=d.o.1.u1;obtain⟨_,_,rfl⟩:=d.b.1.u1;obtain⟨_,_,rfl⟩:=d.e.1.u1;let⟨j,c⟩:=ε (w.alloc (I (Bc N L P M cd) 25));have f:=bl1 c;have q:=Xao c;let⟨z,R,S⟩:=Ω3 q;let⟨bA,bB,bC,bD,cA,bM,bE,bN,bO⟩:=Δ9 f d.g.2 d.n.2 d.q3 d.Y d.a.2 d.c.2 d.o.2 d.b.2 d.e.2;have aZ:=AB f d.q5;have Y:=AB f d.U;rw[m.A]at bM;rw[m.results]at bE;rw[m.Z]at bN;rw[m.P]at bO;have bT:=Lh (λ(q:Ϣ)(u:ϐ j j q)=>bX.below (f.th u));have bJ:=Lh (λ(u:Ϣ)(q:ϐ j j u)=>(bY.below (f.th q)).up (f.th q).size);have bI:=Lh (λ(q:Ϣ)(u:ϐ j j q)=>bH.below (f.th u));have cL:=Lh (λ(u:Ϣ)(q:ϐ j j u)=>(show Lw u u (.agg (Bm bP bQ bR bS s.M)) s.M from⟨_,_,rfl,d.g.1.ups B5 (f.th q).size (JT.below (f.th q)),d.n.1.ups WU (f.th q).size (JT.below (f.th q))⟩));let⟨cJ,cK,r,cE,cM,cF⟩:=Λ6 (CZ m.sound) (Ik.2 m.M) m cG f cD;have dd:=m.q3;have de:=m.q5;have df:=m.Y;have:=θ (s.U<0);have:=θ (65536<s.U);have:=θ (s.q3<0);have:=θ (s.U<s.q3);have:=θ (s.q5<0);have:=θ (s.U<s.q5);have:=θ (s.Y<0);have:=θ (1048576<s.Y);let⟨n,a⟩:=ε s.q1.length;rw[<-a]at cI cH cA bM bE bN bO;have bZ:=Lh a;have:=θ ((n:Int)<1);have:=θ ((8:Int)<(n:Int));clear a;go_in;go_upto_region 1 with fail;rw[<-c];clear c;go_upto_region 2 with fail;simp only[List.append_eq,List.cons_append,List.nil_append];have cB:=Lh (Xgv cd (.agg (Bc N L P M cd)) j.drew.heap.size j.drew (bT.o _ (AG Br 1)) (Nr _) (bJ.o j.drew (AG Br 1)));go_region_held3 (λe=>e.cell? (D w 0)=O (K N cd.H L)/\e.cell? (D w 1)=O (X cd.G)/\e.cell? (D w 2)=O (K P cd.q0 M)/\e.cell? (D bt 0)=O (K bP s.M.G bQ)/\e.cell? (D bt 1)=O (K bR s.M.N bS)/\e.cell? (D bt 3)=O (X s.q3)/\e.cell? (D bt 4)=O (X s.Y)/\e.cell? (D bt 11)=O (X s.q5)/\e.cell? (D bt 12)=O (X s.U))
  (first|exact⟨z,R,S,bA,bB,bC,bD,aZ,Y⟩|exact⟨AB ((a.th c).th h) z,AB ((a.th c).th h) R,AB ((a.th c).th h) S,AB ((a.th c).th h) bA,AB ((a.th c).th h) bB,AB ((a.th c).th h) bC,AB ((a.th c).th h) bD,AB ((a.th c).th h) aZ,AB ((a.th c).th h) Y⟩|exact⟨AB (a.th c) z,AB (a.th c) R,AB (a.th c) S,AB (a.th c) bA,AB (a.th c) bB,AB (a.th c) bC,AB (a.th c) bD,AB (a.th c) aZ,AB (a.th c) Y⟩|exact⟨AB a z,AB a R,AB a S,AB a bA,AB a bB,AB a bC,AB a bD,AB a aZ,AB a Y⟩)
  (first
   |(go_at_call 25;refine cB.o.mono ?_;rintro bV p⟨rfl,a⟩;rw[cJ.o])
   |(go_at_call 26;refine(Xhk cd _ s.M _ (p:Nat) p (Nr _) (bJ.o p ((AG Br 1).th a)) (cL.o p ((AG Br 1).th a))).mono ?_;rintro bW C⟨rfl,c⟩;rw[cK.o])
   |(go_at_call 69;refine(Xis s bt C (bI.o C (((AG Br 1).th a).th c)) r.o.q6).mono ?_;rintro bU F⟨rfl,h⟩))
 have B:=Lh ((((AG Br 1).th a).th c).th h);have z:=Δ5 B.o z R S cA bM;have bE:=Δ3 B.o bE bN bO;go_wp2_with fail;go_loopw[136] (λi wr=>∃k:Nat,k<=n/\i=X k/\ϐ F F wr) (λi _=>n-(intOf i).toNat);exact⟨0,Nat.zero_le _,rfl,Below.refl _ _⟩;obtain⟨k,_,rfl,v⟩:=hrel;have o:=Lh (B.o.th v);have cC:=Lh v;have:=Δ3 v z.1 z.2.1 z.2.2.1;by_cases bK:k<n;rotate_left
 .go_wp2_with fail
  refine(Xjg s bt wr (bI.o wr o.o) (by rw[<-bZ.o];exact cH) r.o.results r.o.P r.o.q7 ?_).mono ?_
  .intro t a a d a
   let⟨x,c⟩:=Ϡ s.q1 t (by rw[<-r.o.P];exact(Ll a));let⟨l,_,b,_,y⟩:=Xb7.row r.o c;have V:=y.r.symm.trans d;have Q:=y.e.symm.trans a;cases V;cases Q;exact(r.o.all _ _ _ _ _ _ y).P
  rintro a c⟨rfl,T⟩;go_wp2;go_ret;exact⟨rfl,cM.o.th (o.o.th T)⟩
 let⟨x,a⟩:=Ϡ s.q1 k (by rw[<-bZ.o];exact bK);let⟨l,J,b,G,E⟩:=Xb7.row r.o a;have g:=r.o.all _ _ _ _ _ _ E;have bL:=Lh (by
  rcases g.act with ⟨rfl,A⟩|⟨bG,bF,A⟩
  .exact Xi2 cd s bt k l J b G N P L M wr (bT.o wr o.o) cE.o r.o.sound (bJ.o wr o.o) (bI.o wr o.o) r.o.M E A g.right g.P g.ops g.times cF.o
  exact Xkg cd s bt k x l J b G N P L M wr (bT.o wr o.o) cE.o r.o.sound (bJ.o wr o.o) (bI.o wr o.o) r.o.M E bG bF A g.right g.P g.ops g.times cF.o)
 go_wp2_with fail;refine bL.o.mono ?_;rintro c d⟨rfl,a⟩;have W:=Lh (cC.o.th a);go_wp2;go_roundw;exact⟨k+1,H,by go_num,W.o⟩;simp[intOf];omega