import Derived.Test.YtigbfkiddlhhjaaGreatDoorSps
set_option maxHeartbeats 4000000
set_option maxRecDepth 100000
set_option linter.all false
open Go renaming World→Ϣ,Value→ϒ,bodyPost_ret→ϖ,heap_setCell_same→ϡ
open Go.RowKit renaming Below→ϐ
open Option renaming some→ς
open Bool renaming false→ϝ,true→ϑ
open And renaming intro→ϟ
open Go.Value renaming slice→O
open Go.Obj renaming cells→χ
namespace Go.Proofs.YtigbfkiddlhhjaaGreatDoor
open Go.RowKit Proofs.Tryz
open Go.RowKit renaming ι→X,ω→D,ν→H
variable{α:Type}{e:TypeId}{sz k R n j i b tag B:Nat}{raw xs vs:List ϒ}{w wr wr' W:Ϣ}{c c':A1}{v u x0 x1 x2 x3 x4 x5 x6 x7 x8 x9 x10 x11 x12:ϒ}{g:List Xae}{T:Nat->Prop}{cs:List (List Bi×List ϒ)}{p:List Bi×List ϒ}{s s':Tra}{fn:Func}{f:α->List Xad}{l P S:List α}{x:α}
def Xci{α:Type}(f:α->List Xad)(sz:Nat)(l:List α)(raw:List ϒ)(k:Nat):List Xad:=(l.take k).flatMap f++(raw.drop (k*sz)).map .p
def Xfs(f:α->List Xad)(sz:Nat)(l:List α)(raw:List ϒ):Xci f sz l raw 0=raw.map .p:=by simp[Xci]
def Xji(a:raw.length=l.length*sz):Xci f sz l raw l.length=l.flatMap f:=by
 unfold Xci;rw[List.take_length,<- a,List.drop_length];simp
def Xg2(a:List ϒ)(g:l[k]?=ς x)(hs:a.length=sz)(d:∀(j:Nat) v,a[j]?=ς v->raw[k*sz+j]?=ς v):∃R,Xci f sz l raw k=(l.take k).flatMap f++(a.map .p++R)/\Xci f sz l raw (k+1)=(l.take k).flatMap f++(f x++R):=by
 refine⟨(raw.drop ((k+1)*sz)).map .p,?_,?_⟩
 .unfold Xci
  have e:raw.drop (k*sz)=a++raw.drop ((k+1)*sz):=by
   apply List.ext_getElem?;intro j;rw[List.getElem?_drop];by_cases b:j<a.length
   .rw [Al b]
    let⟨v,c⟩:=Ϡ a j b;rw[c];exact d j _ c
   rw[Ar D,List.getElem?_drop];congr 1;rw[Nat.add_mul,Nat.one_mul,hs]at *;omega
  rw[e,List.map_append]
 unfold Xci;rw[Xa2 g,List.flatMap_append];simp
def Xj9(a:∀x,(f x).length=sz)(b:k<=l.length):((l.take k).flatMap f).length=k*sz:=by
 rw[Xap a,List.length_take,Nat.min_eq_left b]
def Xie{R:List α}(a:P.length=n)(b:j<S.length):(P++(S++R)).set (n+j) x=P++(S.set j x++R):=by
 rw[List.set_append_right _ _ D,a,Nat.add_sub_cancel_left,List.set_append_left _ _ b]
def Xmx{R a:List α}(b:P.length=n)(c:a.length<=S.length):over (P++(S++R)) n a=P++(over S 0 a++R):=by
 have:=Xeq a P (S++R) 0;rw[Nat.add_zero,b]at this;rw[this,Xfi _ _ _ _ D]
def Xfa(b:Ao w c (20+j) e sz v n xs):Xam w c j v e sz (xs.map .p):=⟨n,xs,b,ψ,λi d x b a=>by
 rw[List.getElem?_map,b]at a;cases a;exact rfl⟩
def Xkx(l:List (Int×Int)):(l.flatMap rdL).map Xad.p=l.flatMap Xil:=by induction l<;>simp_all[rdL,Xil]
def cg(s:Tra)(x0 x1 x2 x5 x6 x7 x8 x9 x10:Xae):List Xae:=[x0,x1,x2,.p (X s.q3),.p (X s.Y),x5,x6,x7,x8,x9,x10,.p (X s.q5),.p (X s.U)]
def cX0(s:Tra):Xae:=.r 3 1 (s.M.G.map λn=>.p (X n))
def cX1(s:Tra):Xae:=.r 72 2 (s.M.N.flatMap Xbw)
def cX2(s:Tra):Xae:=.r 22 1 (s.q6.map Xa3)
def cX5(s:Tra):Xae:=.r 62 13 (s.q1.flatMap Xaz)
def cX6(s:Tra):Xae:=.r 65 1 (s.A.map λl=>.i (Xbz l))
def cX7(s:Tra):Xae:=.r 127 1 (s.results.map Xg3)
def cX8(s:Tra):Xae:=.r 22 1 (s.Z.map Xa3)
def cX9(s:Tra):Xae:=.r 22 1 (s.P.map Xa3)
def Xbv(s:Tra):Xae:=.r 85 2 (s.q7.flatMap Xil)
def Xpc(s:Tra):cg s (cX0 s) (cX1 s) (cX2 s) (cX5 s) (cX6 s) (cX7 s) (cX8 s) (cX9 s) (Xbv s)=Xag s:=rfl
def Xm4:Array ϒ:=#[H,H,H,X 0,X 0,H,H,H,H,H,H,X 0,X 0]
structure Ws(w:Ϣ)(g:List Xae)(c:A1)(wr:Ϣ):Prop where
 chg:AT Xa6 (EN w) c w wr
 st:X5 wr c 39 w g
 res:wr.heap[(w:Nat)+1]?=ς (χ Xm4 39 (0,0))/\c ((w:Nat)+1)=2
def Ws.hi(a:Ws w g c wr):∀b,(wr:Nat)<=b->c b=0:=a.st.1
def Ws.old(a:Ws w g c wr):ϐ w w wr:=a.chg.below0 Xg5
def Ws.chgN(a:Ws w g c wr)(d:AT NO c c' wr wr')(f:∀b,(wr':Nat)<=b->c' b=0):Ws w g c' wr':=
 have e:=(La a.res.1)
 ⟨a.chg.trans (d.mono (λh a=>a.elim) tn0),a.st.chg d f (λh f=>f.elim),by rw[d.kp _ e (no _)];exact a.res.1,by rw[d.old _ e];exact a.res.2⟩
def Ws.put{f:List Xae}(a:Ws w g c wr)(i:X5 wr' c 39 w f)(d:AT T c c wr wr')(h:∀b,T b->b≠99/\b≠2):Ws w f c wr':=
 have f:=(La a.res.1)
 ⟨a.chg.trans (d.mono (λb a=>⟨λe=>d.zero (e▸a),(h b a).1⟩) tn0),i,by rw[d.kp _ f (by rw[a.res.2];exact λe=>(h _ e).2 rfl)];exact a.res.1,a.res.2⟩
def Ws.put0(a:Ws w g c wr){x:Xae}(e:Xay wr c j u x):Ws w (g.set j x) c (wr.setCell (π w j) u):=by
 let⟨b,d⟩:=a.st.put0 e;exact a.put b d (λb a=>by omega)
def Xpd{T a:Prop}(b:T->a)(t:T):a:=b t
def ly(s:Tra)(c:A1)(w:Ϣ)(e:Ending)(w':Ϣ):Prop:=∃vs c',e=.returned (.agg vs.toArray)/\Xbb w' c' vs (Xag s)/\AT NO c c' w w'/\∀b,(w':Nat)<=b->c' b=0
structure Xk9(s:Tra):Prop where
 G:s.M.G.length<=1000000
 N:s.M.N.length<=1000000/\∀x∈s.M.N,x.f.length<=1000000
 q6:s.q6.length<=1000000/\∀l∈s.q6,l.length<=1000000
 Z:s.Z.length<=1000000/\∀l∈s.Z,l.length<=1000000
 P:s.P.length<=1000000/\∀l∈s.P,l.length<=1000000
 results:s.results.length<=1000000/\∀l∈s.results,l.length<=1000000
 q7:s.q7.length<=1000000
 A:s.A.length<=1000000/\∀l∈s.A,l.length<=1000000/\∀x∈l,x.args.length<=1000000
 q1:s.q1.length<=1000000/\∀x∈s.q1,(x.q4.length<=1000000/\x.q2.length<=1000000)/\x.run.J.length<=1000000/\∀f∈x.run.J,f.L.length<=1000000/\f.S.length<=1000000
def Xbo(w:Ϣ)(i k:Nat)(cs:List (List Bi×List ϒ))(c:A1)(wr:Ϣ):Prop:=∀i' p,cs[i']?=ς p->p.2.length=p.1.length*2/\∀k' x,p.1[k']?=ς x->p.2[k'*2]?=ς (.string x.proc)/\x.proc.size<=140737488355328/\∃av,p.2[k'*2+1]?=ς av/\((i'<i\/(i'=i/\k'<k))->Dq wr c 15 av x.args)/\(¬(i'<i\/(i'=i/\k'<k))->∃fa fc,av=O fa x.args fc/\Src w 1 fa x.args.length (x.args.map (Value.int .i64))/\∀q∈x.args,in64 q)
def Xbo.kp(e:Xbo w i k cs c wr)(n:AT T c c' wr wr')(m:¬T 15):Xbo w i k cs c' wr':=λd p b=>by
 let⟨a,l⟩:=e d p b;refine⟨a,λg x f=>?_⟩;let⟨b,d,a,e,h,j⟩:=l g x f;exact⟨b,d,a,e,λa=>(h a).kp n m,j⟩
def Xbo.q8(d:∀p∈cs,Xka w p):Xbo w 0 0 cs c wr:=λa p b=>by
 let⟨a,k⟩:=d p (Lm b);refine⟨a,λf x e=>?_⟩;let⟨b,d,g,h,a,i,j⟩:=k f x e;exact⟨b,d,_,a,λa=>by omega,λ_=>⟨g,h,rfl,i,j⟩⟩
def Xbo.next{x:Bi}{e:ϒ}(o:Xbo w i k cs c wr)(q:cs[i]?=ς p)(j:p.1[k]?=ς x)(v:Dq wr c 15 e x.args):Xbo w i (k+1) (cs.set i (p.1,p.2.set (k*2+1) e)) c wr:=λm y f=>by
 have:=(Ll j);rcases Xbt f with ⟨rfl,rfl,_⟩|⟨_,f⟩
 .obtain ⟨a,n⟩:=o m p q
  refine⟨by rw[List.length_set];exact a,λa b d=>?_⟩;let⟨g,h,r,s,t,u⟩:=n a b d;by_cases l:a=k
  .subst l
   obtain rfl:x=b:=by have:=j.symm.trans d;simpa using this
   exact⟨by rw[List.getElem?_set_ne D];exact g,h,e,by rw[List.getElem?_set_self D],λ_=>v,λa=>by omega⟩
  exact⟨by rw[List.getElem?_set_ne D];exact g,h,r,by rw[List.getElem?_set_ne D];exact s,λa=>t D,λa=>u D⟩
 obtain⟨a,n⟩:=o m y f;refine⟨a,λg h f=>?_⟩;let⟨b,d,a,e,j,m⟩:=n g h f;exact⟨b,d,a,e,λa=>j D,λa=>m D⟩
def Xbo.row(n:Xbo w i k cs c wr)(s:cs[i]?=ς p)(a:k=p.1.length):Xbo w (i+1) 0 cs c wr:=λb d e=>by
 let⟨a,q⟩:=n b d e;refine⟨a,λn o a=>?_⟩;let⟨h,j,g,l,m,r⟩:=q n o a;have:=(Ll a);by_cases f:b=i
 .subst f
  obtain rfl:p=d:=by have:=s.symm.trans e;simpa using this
  exact⟨h,j,g,l,λ_=>m (.inr ⟨rfl,D⟩),λa=>by omega⟩
 exact⟨h,j,g,l,λa=>m D,λa=>r D⟩
def cQ(cs:List (List Bi×List ϒ)):Xae:=.r 65 1 (cs.map λp=>.q 64 2 p.2)
def Ax.mil{c:AQ}(hs:AU c)(h:Bv c){m:AV}(b:Ax c m):m.J.length<=1000/\∀f∈m.J,f.L.length<=1000000/\f.S.length<=1000000:=by
 refine⟨by have:=b.len;omega,λf a=>?_⟩;rcases b.body with ⟨d,_⟩|⟨_,g⟩
 .rw [d]at a;cases a
 obtain⟨k,e,rfl⟩:=List.getElem_of_mem a;exact DL.mil hs h (g k _ (Lg e))
def Dp.fl{c:AQ}(hs:AU c){m:Mm}(b:Dp c m):∀x∈m.N,x.f.length<=12:=λx a=>by
 let⟨_,d,_⟩:=b.N x a;have a:=hs.1.2.1;rw[List.any_eq_false]at a;have:=a _ (Lm d);simp at this;omega
def Xbh.copyS{c:AQ}(a:Xbh c s)(Q:Bv c)(i:s.q1.length<=8)(i:s.U<=65536):Xk9 s:=by
 have y:=a.sound;have:=a.M.gl;have:=y.1.2.2.2.1;have P:=a.M.fl y;have:=a.M.len;have w:∀{t:Nat},t<s.q1.length->∃x l i b e,AtS s t x l i b e/\ThS c s.M s.q3 s.U x l i b e:=fun {t} A=>by let⟨l,z,b,e,i⟩:=Xb7.row a (Lg A);exact⟨_,l,z,b,e,i,a.all _ _ _ _ _ _ i⟩
 refine⟨D,⟨D,λx h=>by have:=P x h;omega⟩,⟨by rw[a.q6.len];omega,λl d=>?_⟩,⟨by rw[a.Z];omega,λl d=>?_⟩,⟨by rw[a.P];omega,λl d=>?_⟩,⟨by rw[a.results];omega,λl d=>?_⟩,?_,⟨by rw[a.A];omega,λl d=>?_⟩,⟨D,λx h=>?_⟩⟩
 .obtain ⟨k,g⟩:=List.mem_iff_getElem?.1 d
  have:=(Ll g);cases k with
  |zero=>have:=a.q6.zero;rw[Xau g]at this;omega
  |succ k=>
   have:=a.q6.len;let⟨x,h⟩:=Ϡ s.M.N k;have:=a.q6.O k x h;rw[Xau g]at this;have:=P x (Lm h);omega
 .obtain ⟨t,r⟩:=List.mem_iff_getElem?.1 d
  let⟨x,_,_,b,e,J,m⟩:=w (t:=t) (by rw[<-a.Z];exact(Ll r));obtain rfl:b=l:=by simpa using J.b.symm.trans r
  have:=m.ops;rcases m.act with ⟨_,g⟩|⟨_,_,g⟩<;>omega
 .obtain ⟨t,q⟩:=List.mem_iff_getElem?.1 d
  let⟨x,_,_,b,e,F,j⟩:=w (t:=t) (by rw[<-a.P];exact(Ll q));obtain rfl:e=l:=by simpa using F.e.symm.trans q
  have:=j.ops;have:=j.P;omega
 .obtain ⟨t,v⟩:=List.mem_iff_getElem?.1 d
  let⟨x,_,C,b,e,M,N⟩:=w (t:=t) (by rw[<-a.results];exact(Ll v));obtain rfl:C=l:=by simpa using M.r.symm.trans v
  have:=N.ops;omega
 .have:=a.q7.len (k:=s.U) (Int.le_trans a.q3.1 a.q3.2) a.endsLt
  omega
 .obtain ⟨t,u⟩:=List.mem_iff_getElem?.1 d
  let⟨x,E,_,b,e,L,p⟩:=w (t:=t) (by rw[<-a.A];exact(Ll u));obtain rfl:E=l:=by simpa using L.l.symm.trans u
  exact⟨by have:=p.ops;omega,λd a=>P8 y (p.right d a)⟩
 obtain⟨t,o⟩:=List.mem_iff_getElem?.1 h;let⟨x1,_,_,b,e,B,G⟩:=w (t:=t) (Ll o);obtain rfl:x1=x:=by simpa using B.x.symm.trans o
 rcases G.act with ⟨rfl,_⟩|⟨n,_⟩
 .exact ⟨⟨by simp[Xat],by simp[Xat]⟩,by simp[Xat,AI],λf a=>by simp[Xat,AI]at a⟩
 have:=n.count;have a:=(n.u2.valid y).mil y Q;exact⟨⟨D,D⟩,D,a.2⟩
def Xg9(s:Tra):Prop:=∀l∈s.results,∀o∈l,Q9 o
def Xbc.outs{c:AQ}{x:Trx}{f v:Int}(b:Xb1 c s i x)(g:Xg9 s)(o:s.U<=65536)(q:in64 f)(p:in64 v)(m:Xbc c s i x f v s'):Xg9 s':=by
 rcases m with ⟨_,_,_,rfl⟩|⟨_,rfl⟩
 .exact g
 intro l m e d;have o:l∈s.results.modify i (·++[⟨f,v,x.run.C,x.N,0⟩]):=m;let⟨_,n⟩:=List.mem_iff_getElem?.1 o;obtain⟨j,k,rfl⟩:=Xbm n;have h:=g j (Lm k);split at d
 .rcases List.mem_append.1 d with a|a
  .exact h e a
  obtain rfl:e=_:=by simpa using a
  have a:=RN b.inv.sound b.ok.u2.P b.ok.u2.Y;have:=b.ok.N;exact⟨q,p,a.2.2.1,by unfold in64;constructor<;>(dsimp only;omega),by unfold in64;constructor<;>(dsimp only;omega)⟩
 exact h e d
def GoS.outs{c:AQ}{x:Trx}{h:Bool}(b:Xb1 c s i x)(a:Xg9 s)(g:s.U<=65536)(j:GoS c s i x h s'):Xg9 s':=by
 have f:=RN b.inv.sound b.ok.u2.P b.ok.u2.Y;rcases j with ⟨_,_,rfl⟩|⟨_,_,d⟩|⟨_,⟨_,_,e,_,rfl⟩|⟨_,_,e,_,rfl⟩|⟨_,_,e,_,rfl⟩|⟨_,_,d⟩⟩
 .exact a
 .exact d.outs b a g f.1.2.2.2.2 f.1.2.2.2.1
 .exact a
 .exact a
 .exact a
 exact d.outs b a g (by unfold in64;omega) (by unfold in64;omega)
def gw.outs{c:AQ}(g:Xbh c s)(h:Xg9 s)(f:s.U<=65536)(hs:gw c s i s'):Xg9 s':=by
 obtain⟨x,d,e,rfl,⟨b,j,k,a⟩|⟨b,a⟩⟩:=hs
 .have:Xg9 d:=a.outs (s:=Xc8 s i j) (g.begins_ e b k) h f
  exact this
 have:Xg9 d:=a.outs (g.goes e b) h f;exact this
def Xho(m:Mm)(fuel:Int)(cs:List (List Bi)):Xg9 (ff m fuel cs):=λl b c a=>by
 have c:l∈List.replicate cs.length ([]:List CD):=b;rw[(List.mem_replicate.1 c).2]at a;cases a
def Xeo:∀{b e:List Int}{last k:Int},Xax b e last k=ϑ->-1<=last->e.length<=b.length->(∀v∈b,0<=v/\v<k)/\∀v∈e,0<=v/\v<k
 |[],[],_,_,_,_,_=>⟨λv a=>by simp at a,λv a=>by simp at a⟩
 |[],e::es,_,_,_,_,hl=>by simp at hl
 |b::bs,[],last,k,h,h1,_=>by
  unfold Xax at h;simp only[Bool.and_eq_true,decide_eq_true_eq]at h;have:=Xeo h.2.2 D (Nat.zero_le _);exact⟨λv a=>by
   rcases List.mem_cons.1 a with rfl|a
   .omega
   exact this.1 v a,λv a=>by simp at a⟩
 |b::bs,e::es,last,k,h,h1,hl=>by
  unfold Xax at h;simp only[Bool.and_eq_true,decide_eq_true_eq]at h;have:=Xeo h.2.2.2.2 D (by simpa using hl);exact⟨λv a=>by
   rcases List.mem_cons.1 a with rfl|a
   .omega
   .exact this.1 v a,λv a=>by
   rcases List.mem_cons.1 a with rfl|a
   .omega
   exact this.2 v a⟩
def Xbh.wf{c:AQ}(d:Xbh c s)(o:Xg9 s)(h:s.U<=65536):Xez s:=by
 have E:=d.sound;have in_of:∀n:Int,BP n->in64 n:=λn a=>by unfold BP at a;unfold in64;omega
 have B:∀{t:Nat},t<s.q1.length->∃x l h b e,AtS s t x l h b e/\ThS c s.M s.q3 s.U x l h b e:=fun {t} q=>by let⟨l,p,b,e,h⟩:=Xb7.row d (Lg q);exact⟨_,l,p,b,e,h,d.all _ _ _ _ _ _ h⟩
 have C:∀{t:Nat},t<s.q1.length->∃b e,s.Z[t]?=ς b/\s.P[t]?=ς e/\(∀v∈b,0<=v/\v<s.U)/\∀v∈e,0<=v/\v<s.U:=fun {t} h=>by let⟨x,_,_,b,e,i,f⟩:=B h;have:=Xeo f.times D (by rw[f.P];rcases f.act with ⟨_,f⟩|⟨_,_,f⟩<;>omega);exact⟨b,e,i.b,i.e,this⟩
 refine⟨λn a=>in_of n (d.M.gv n a),λx f=>?_,λl g n a=>?_,λx f=>?_,o,λl g n a=>?_,λl g n a=>?_⟩
 .obtain ⟨_,h,i⟩:=d.M.N x f
  have:=(Ll h);have:=E.1.1;exact⟨by unfold in64;omega,λn a=>in_of n (i n a)⟩
 .have:=d.q6.vals l g n a
  have:=d.q3;unfold in64;omega
 .obtain ⟨t,j⟩:=List.mem_iff_getElem?.1 f
  let⟨x1,_,_,b,e,r,u⟩:=B (t:=t) (Ll j);obtain rfl:x1=x:=by simpa using r.x.symm.trans j
  rcases u.act with ⟨rfl,_⟩|⟨o,_⟩
  .exact XL
  exact RN E o.u2.P o.u2.Y
 .obtain ⟨t,m⟩:=List.mem_iff_getElem?.1 g
  let⟨b,e,y,_,A,_⟩:=C (t:=t) (by rw[<-d.Z];exact(Ll m));obtain rfl:b=l:=by simpa using y.symm.trans m
  have:=A n a;unfold in64;omega
 obtain⟨t,k⟩:=List.mem_iff_getElem?.1 g;let⟨b,e,_,w,_,z⟩:=C (t:=t) (by rw[<-d.P];exact(Ll k));obtain rfl:e=l:=by simpa using w.symm.trans k
 have:=z n a;unfold in64;omega
def Xfc(c:A1):A1:=λb=>if c b=15\/(100<=c b/\c b%16=10)then 0 else c b
def Xhl(d:c b=tag)(a:¬(tag=15\/(100<=tag/\tag%16=10))):Xfc c b=tag:=by
 unfold Xfc;rw[d,if_neg a]
def Xeb(a:c b=tag)(d:tag=15\/(100<=tag/\tag%16=10)\/tag=0):Xfc c b=0:=by
 unfold Xfc;rw[a];split
 .rfl
 omega
def Xlt:JT (mask w c) (mask w (Xfc c)):=λa v b=>by
 rw[GJ]at b ⊢;split at b
 .rename_i d
  rw[if_pos (Xeb d (.inr (.inr rfl)))];exact b
 cases b
def Xfm(a:Ao w c tag e sz v n xs)(f:¬(tag=15\/(100<=tag/\tag%16=10))):Ao w (Xfc c) tag e sz v n xs:=⟨a.1,λb d=>Xhl (a.2.1 b d) f,a.2.2⟩
def Xnq{P:Ϣ->ϒ->Prop}(a:Xdq P/\P (mask w c) u):Xdq P/\P (mask w (Xfc c)) u:=⟨a.1,a.1 _ _ _ (by rw[Hk,Hk];exact Nr _) Xlt a.2⟩
def Xlz{x:Xad}(a:X6 w c tag u x)(b:¬(tag=15\/(100<=tag/\tag%16=10))):X6 w (Xfc c) tag u x:=by
 cases x with
 |p x=>exact a
 |q e sz xs=>let⟨n,a⟩:=a;exact⟨n,Xfm a b⟩
 |i P=>exact Xnq a
def Xle{x:Xae}(a:Xay w c j u x)(b:j<16)(b:j≠6):Xay w (Xfc c) j u x:=by
 cases x with
 |p x=>exact a
 |r e sz xs=>let⟨n,vs,b,d,g⟩:=a;exact⟨n,vs,Xfm b D,d,λi f x d b=>Xlz (g i f x d b) D⟩
 |i P=>exact Xnq a
def Ao.vis(a:Ao w c tag e sz v n xs)(f:∀b,c b=tag->c' b=0):Ao (mask w c') c tag e sz v n xs:=⟨JV a.1 (λb d=>Jj (f b (a.2.1 b d))),a.2⟩
def Xki(q:Xam wr c 6 u 65 1 (cs.map λp=>.q 64 2 p.2))(v:Xbo w n 0 cs c wr)(f:cs.length=n):Xam wr (Xfc c) 6 u 65 1 ((cs.map (·.1)).map λl=>.i (Xbz l)):=by
 let⟨m,vs,f,h,t⟩:=q;refine⟨m,vs,Xfm f D,by simpa using h,λi s x r a=>?_⟩;rw[List.map_map,List.getElem?_map]at a;cases d:cs[i]? with
 |none=>rw[d]at a;simp at a
 |some p=>
  rw[d]at a;obtain rfl:Xad.i (Xbz p.1)=x:=by simpa using a
  have:=(Ll d);let⟨o,j⟩:=v i p d;have a:=t i s _ r (by rw[List.getElem?_map,d];rfl);let⟨_,e⟩:=a;obtain rfl:=Xcj e (m:=p.1.length) o D;refine⟨Xeh _,?_⟩;have f:=e.vis (c':=Xfc c) (λb a=>Xeb a D);have:=f.q4 (l:=p.1) (E:=DA wr) (λk a e=>⟨_,(j k a e).1⟩) (λk a g e h=>?_)
  .unfold Xbz
   rw[Hk]at this ⊢;exact this
  obtain⟨q,s,f,r,o,-⟩:=j k a e;have e:=o (.inl D);have j:Dq (mask wr (Xfc c)) c 15 f a.args:=⟨e.1.vis (λb a=>Xeb a (.inl rfl)),e.2⟩;have a:=j.q4;rw[Hk]at a;exact⟨h _ _ q,⟨f,h _ _ r,a⟩,s⟩
def Xmm(l:Xbb wr c vs (cg s (cX0 s) (cX1 s) (cX2 s) (cX5 s) (cQ cs) (cX7 s) (cX8 s) (cX9 s) (Xbv s)))(f:cs.map (·.1)=s.A)(m:Xbo w s.A.length 0 cs c wr):Xbb wr (Xfc c) vs (Xag s):=by
 let⟨g,h,k⟩:=l;refine⟨g,h,λj e x i b=>?_⟩;by_cases a:j=6
 .subst a
  have g:Xam wr c 6 e 65 1 (cs.map λp=>.q 64 2 p.2):=k 6 e _ i rfl;have d:=Xki g m (by rw[<-f,List.length_map]);rw[f]at d;obtain rfl:cX6 s=x:=by have:ς (cX6 s)=ς x:=b;simpa using this
  exact d
 have f:=(Ll b);have d:(cg s (cX0 s) (cX1 s) (cX2 s) (cX5 s) (cQ cs) (cX7 s) (cX8 s) (cX9 s) (Xbv s))[j]?=ς x:=by
  rw[<-b,<- Xpc]
  match j,a with
  |0,_=>rfl
  |1,_=>rfl
  |2,_=>rfl
  |3,_=>rfl
  |4,_=>rfl
  |5,_=>rfl
  |6,a=>exact absurd rfl a
  |7,_=>rfl
  |8,_=>rfl
  |9,_=>rfl
  |10,_=>rfl
  |11,_=>rfl
  |12,_=>rfl
  |j+13,_=>rfl
 exact Xle (k j e x i d) (Nl f (show(Xag s).length<=16 from by show 13<=16;omega)) a
def Xhj{b:A1}{w':Ϣ}(d:AT T (EN w) b w w')(a:Xbb w' b vs g):Xbb w' (Xff (w:Nat) c b) vs g:=⟨a.1,a.2.1,λj h x f b=>by
 have k:=Nl (Ll b) a.2.1;have:=a.2.2 j h x f b;cases x with
 |p x=>exact this
 |r e sz xs=>exact Xdk d this k
 |i P=>exact Xof d this⟩
def Xam.form_{xs:List Xad}(f:Xam w c j u e sz xs):∃a n b,u=O a n b:=by
 let⟨n,vs,d,_⟩:=f;let⟨a,b,e,_⟩:=d.u1;exact⟨a,n,b,e⟩
def Xab{T:TypeId}(f:w.heap[b]?=ς (χ #[x0,x1,x2,x3,x4,x5,x6,x7,x8,x9,x10,x11,x12] T (0,0)))(v0 v1 v2 v3 v4 v5 v6 v7 v8 v9 a c d:ϒ):(Xaa w b 0 [v0,v1,v2,v3,v4,v5,v6,v7,v8,v9,a,c,d]).heap[b]?=ς (χ #[v0,v1,v2,v3,v4,v5,v6,v7,v8,v9,a,c,d] T (0,0)):=by
 have e:=ϡ w b 0 _ _ v0 f;have f:=ϡ _ b 1 _ _ v1 e;have e:=ϡ _ b 2 _ _ v2 f;have f:=ϡ _ b 3 _ _ v3 e;have e:=ϡ _ b 4 _ _ v4 f;have f:=ϡ _ b 5 _ _ v5 e;have e:=ϡ _ b 6 _ _ v6 f;have f:=ϡ _ b 7 _ _ v7 e;have e:=ϡ _ b 8 _ _ v8 f;have f:=ϡ _ b 9 _ _ v9 e;have e:=ϡ _ b 10 _ _ a f;have f:=ϡ _ b 11 _ _ c e;have e:=ϡ _ b 12 _ _ d f;refine(show(((((((((((((w.setCell (π b 0) v0).setCell (π b 1) v1).setCell (π b 2) v2).setCell (π b 3) v3).setCell (π b 4) v4).setCell (π b 5) v5).setCell (π b 6) v6).setCell (π b 7) v7).setCell (π b 8) v8).setCell (π b 9) v9).setCell (π b 10) a).setCell (π b 11) c).setCell (π b 12) d).heap[b]?=_ from ?_);exact e.trans (congrArg (λe=>ς (Obj.cells e T (0,0))) (show((((((((((((((#[x0,x1,x2,x3,x4,x5,x6,x7,x8,x9,x10,x11,x12]:Array ϒ).setIfInBounds 0 v0).setIfInBounds 1 v1).setIfInBounds 2 v2).setIfInBounds 3 v3).setIfInBounds 4 v4).setIfInBounds 5 v5).setIfInBounds 6 v6).setIfInBounds 7 v7).setIfInBounds 8 v8).setIfInBounds 9 v9).setIfInBounds 10 a).setIfInBounds 11 c).setIfInBounds 12 d)=#[v0,v1,v2,v3,v4,v5,v6,v7,v8,v9,a,c,d] by kernel_rfl))
def row13{T:TypeId}(b:W.heap[R]?=ς (χ #[x0,x1,x2,x3,x4,x5,x6,x7,x8,x9,x10,x11,x12] T (0,0))):∀(j:Nat) v,([x0,x1,x2,x3,x4,x5,x6,x7,x8,x9,x10,x11,x12]:List ϒ)[j]?=ς v->W.cell? (π R j)=ς v:=λj v a=>by
 rw[cell_of_row _ _ _ _ _ _ b,List.getElem?_toArray];exact a
def Xgp(b:W.heap[R]?=ς (χ #[x0,x1,x2,x3,x4,x5,x6,x7,x8,x9,x10,x11,x12] 39 (0,0))):(loadVar 39 (π R 0)).run prog W=.ok (.agg #[x0,x1,x2,x3,x4,x5,x6,x7,x8,x9,x10,x11,x12]) W:=by
 have a:=row13 b;have n:=a 0 _ rfl;have m:=a 1 _ rfl;have l:=a 2 _ rfl;have k:=a 3 _ rfl;have j:=a 4 _ rfl;have i:=a 5 _ rfl;have h:=a 6 _ rfl;have g:=a 7 _ rfl;have f:=a 8 _ rfl;have e:=a 9 _ rfl;have d:=a 10 _ rfl;have c:=a 11 _ rfl;have b:=a 12 _ rfl;simp[go_sem,n,m,l,k,j,i,h,g,f,e,d,c,b]
def Xa7{p:Tmp}(c:fn.results=#[.cell p 39])(d:W.heap[R]?=ς (χ #[x0,x1,x2,x3,x4,x5,x6,x7,x8,x9,x10,x11,x12] 39 (0,0)))(a:Array ϒ)(b:a.getD p undef=.pointer (ς (π R 0))) :
  (results fn a).run prog W=.ok (.agg #[x0,x1,x2,x3,x4,x5,x6,x7,x8,x9,x10,x11,x12]) W:=by
 simp only[results,c];rw[Array.getD_eq_getD_getElem?]at b;simp[b,asAddr,Xgp d,Result.andThen,Sem.run_bind]
def Xc7(s:Tra)(mC:List ϒ)(c:A1)(w:Ϣ)(Y:TraVs (w:Nat) w mC s)(V:Xk9 s)(hU:∀b,(w:Nat)<=b->c b=0):Calls prog 29 #[.agg mC.toArray] w (ly s c w):=by
 obtain⟨gv,nv,vv,av,cv,ov,bv,ev,dv,rfl,hg,hn,Y,ha,hc,ho,G,he,hd⟩:=Y;obtain⟨ga,gc,rfl⟩:=hg.u1;obtain⟨na,nc,rfl⟩:=hn.u1;obtain⟨va,vc,rfl⟩:=Y.u1;obtain⟨aa,ac,rfl⟩:=ha.u1;obtain⟨ca,cc,rfl⟩:=hc.u1;obtain⟨oa,oc,rfl⟩:=ho.u1;obtain⟨ba,bc,rfl⟩:=G.u1;obtain⟨ea,ec,rfl⟩:=he.u1;obtain⟨da,dc,rfl⟩:=hd.u1;have jH:=Lh (Xav hg V.G).2.1;obtain⟨-,aQ,iH,iI⟩:=Xnc hn V.N.1 V.N.2;have dS:=Lh (ϟ iH iI);have jJ:=Lh (Xce (f:=λl=>l.map (Value.int .i64)) Y (λl hl ai m ci h=>⟨(Xav h (V.q6.2 l hl)).1,(Xav h (V.q6.2 l hl)).1▸(Xav h (V.q6.2 l hl)).2.1⟩)).2;have jE:=Lh (Xce (f:=λl=>l.map (Value.int .i64)) G (λl hl ai m ci h=>⟨(Xav h (V.Z.2 l hl)).1,(Xav h (V.Z.2 l hl)).1▸(Xav h (V.Z.2 l hl)).2.1⟩)).2;have jG:=Lh (Xce (f:=λl=>l.map (Value.int .i64)) he (λl hl ai m ci h=>⟨(Xav h (V.P.2 l hl)).1,(Xav h (V.P.2 l hl)).1▸(Xav h (V.P.2 l hl)).2.1⟩)).2;have jI:=Lh (Xce (f:=Dk) ho (λl hl ai m ci h=>Xk2 h (V.results.2 l hl))).2;have jF:=Lh (Xiv hd V.q7).2;obtain⟨-,bL,iB,iC,eM⟩:=Xn5 hc V.A.2;have fA:=Lh (ϟ iB (ϟ iC eM));obtain⟨-,aN,iL,iM⟩:=Xoq ha V.q1.1 (λx o=>(V.q1.2 x o).1);have eZ:=Lh (ϟ iL iM);obtain⟨W,hW⟩:=ε ((w.alloc (χ #[O ga s.M.G gc,O na s.M.N nc,O va s.q6 vc,X s.q3,X s.Y,O aa s.q1 ac,O ca s.A cc,O oa s.results oc,O ba s.Z bc,O ea s.P ec,O da s.q7 dc,X s.q5,X s.U] 39)).alloc (χ #[H,H,H,X 0,X 0,H,H,H,H,H,H,X 0,X 0] 39));have cW:=bl2 hW;have jQ:=sz2 hW;have hJ:=Xct hW;have hK:=Xcm hW;obtain⟨c0,eD⟩:=ε (λb=>if b=(w:Nat)+1 then 2 else if b=(w:Nat)then 1 else EN w b:A1);have iP:c0 (w:Nat)=1:=by rw[eD];show(if(w:Nat)=(w:Nat)+1 then 2 else _)=1;rw[if_neg D,if_pos rfl]
 have iQ:c0 ((w:Nat)+1)=2:=by rw[eD];exact if_pos rfl
 have iR:AT Xa6 (EN w) c0 w W:=⟨cW.os,cW.tape,cW.output,cW.size,λb G _=>cW.block b G,λb G=>by rw[eD];show(if b=(w:Nat)+1 then 2 else if b=(w:Nat)then 1 else EN w b)=_;rw[if_neg D,if_neg D],tn0⟩;have iT:∀b,(W:Nat)<=b->c0 b=0:=λb G=>by rw[eD];show(if b=(w:Nat)+1 then 2 else if b=(w:Nat)then 1 else EN w b)=0;rw[if_neg D,if_neg D];exact Ee b D
 have H0:Hid (Ws w (cg s (.p (O ga s.M.G gc)) (.p (O na s.M.N nc)) (.p (O va s.q6 vc)) (.p (O aa s.q1 ac)) (.p (O ca s.A cc)) (.p (O oa s.results oc)) (.p (O ba s.Z bc)) (.p (O ea s.P ec)) (.p (O da s.q7 dc))) c0 W):=Lh ⟨iR,⟨iT,iP,_,hJ,by simp[cg],by simp[cg],λj y x d o=>by
  match j,d,o with
  |0,d,o=>cases d;cases o;rfl
  |1,d,o=>cases d;cases o;rfl
  |2,d,o=>cases d;cases o;rfl
  |3,d,o=>cases d;cases o;rfl
  |4,d,o=>cases d;cases o;rfl
  |5,d,o=>cases d;cases o;rfl
  |6,d,o=>cases d;cases o;rfl
  |7,d,o=>cases d;cases o;rfl
  |8,d,o=>cases d;cases o;rfl
  |9,d,o=>cases d;cases o;rfl
  |10,d,o=>cases d;cases o;rfl
  |11,d,o=>cases d;cases o;rfl
  |12,d,o=>cases d;cases o;rfl
  |j+13,d,o=>simp[cg]at o⟩,hK,iQ⟩
 have bB:=Lh (ϟ V hU);clear hg hn Y ha hc ho G he hd iH iI iB iC eM iL iM cW jQ hJ hK eD iP iQ iR iT V hU;go_in;go_upto_region 1 with fail;rw[<-hW];clear hW;have xa:=H0.o.st.p0 (j:=0) rfl;have aS:=Lh (Xcp (20+0) c0 ga s.M.G.length gc _ W (jH.o.below (JT.below H0.o.old)) D H0.o.hi);go_wp2_with fail;refine aS.o.mono ?_;rintro e F⟨aq,z,k1,rfl,B,r,A⟩;have g:=H0.o.chgN r A;have xb:=g.st.p0 (j:=0) rfl;have xf:=g.st.frz 0;have C:=g.put0 (j:=0) (u:=O aq s.M.G z) (x:=cX0 s) (by have:=Xfa (j:=0) B;rw[List.map_map]at this;exact this);obtain⟨V1,fT⟩:=ε (F.setCell (π w 0) (O aq s.M.G z));rw[<-fT]at C;have H1:=@Lh (Ws w (cg s (cX0 s) (.p (O na s.M.N nc)) (.p (O va s.q6 vc)) (.p (O aa s.q1 ac)) (.p (O ca s.A cc)) (.p (O oa s.results oc)) (.p (O ba s.Z bc)) (.p (O ea s.P ec)) (.p (O da s.q7 dc))) k1 V1) C;have aO:=Lh fT;clear B r A g C fT xa;go_upto_region 2 with fail;rw[<-aO.o];clear xb xf aO;have xa:=H1.o.st.p0 (j:=1) rfl;have aS:=Lh (Xmi (20+1) k1 na s.M.N.length nc aQ V1 (dS.o.1.below (JT.below H1.o.old)) D H1.o.hi);go_wp2_with fail;refine aS.o.mono ?_;rintro e F⟨aq,z,k2,rfl,B,r,A⟩;have g:=H1.o.chgN r A;have xb:=g.st.p0 (j:=1) rfl;have xf:=g.st.frz 1;have C:=g.put0 (j:=1) (u:=O aq s.M.N z) (x:=.r 72 2 (Xci Xbw 2 s.M.N aQ 0)) (by have:=Xfa (j:=1) B;rw[<-Xfs Xbw 2 s.M.N]at this;exact this);obtain⟨V2,fU⟩:=ε (F.setCell (π w 1) (O aq s.M.N z));rw[<-fU]at C;have H2:=@Lh (Ws w (cg s (cX0 s) (.r 72 2 (Xci Xbw 2 s.M.N aQ 0)) (.p (O va s.q6 vc)) (.p (O aa s.q1 ac)) (.p (O ca s.A cc)) (.p (O oa s.results oc)) (.p (O ba s.Z bc)) (.p (O ea s.P ec)) (.p (O da s.q7 dc))) k2 V2) C;have aO:=Lh fU;clear B r A g C fU xa;go_upto_region 3 with fail;rw[<-aO.o];clear xb xf aO;obtain⟨an,fQ,bW⟩:=X5.at1 (H2.o.st) (j:=1) (n:=s.M.N.length) rfl (by rw[Xfs,List.length_map];exact dS.o.1.len) D;have xn:=bW.1;clear bW;go_upto_block 0 with fail;go_cut[] (λwx=>Hid (∃k3,Ws w (cg s (cX0 s) (cX1 s) (.p (O va s.q6 vc)) (.p (O aa s.q1 ac)) (.p (O ca s.A cc)) (.p (O oa s.results oc)) (.p (O ba s.Z bc)) (.p (O ea s.P ec)) (.p (O da s.q7 dc))) k3 wx))
 .clear xn;have jO:=bB.o.1.N.1;go_wp2_with fail;go_loopw[25] (λgK wr=>∃k:Nat,k<=s.M.N.length/\gK=X k/\Hid (∃kr,Ws w (cg s (cX0 s) (.r 72 2 (Xci Xbw 2 s.M.N aQ k)) (.p (O va s.q6 vc)) (.p (O aa s.q1 ac)) (.p (O ca s.A cc)) (.p (O oa s.results oc)) (.p (O ba s.Z bc)) (.p (O ea s.P ec)) (.p (O da s.q7 dc))) kr wr)) (λgK _=>s.M.N.length-(intOf gK).toNat);exact⟨0,Nat.zero_le _,rfl,Lh ⟨k2,H2.o⟩⟩
  obtain⟨k,hk,rfl,bX⟩:=hrel;obtain⟨kr,hR⟩:=bX.o;have J:=Lh hR;clear hR;have bI:∀q,q<=s.M.N.length->(Xci Xbw 2 s.M.N aQ q).length=s.M.N.length*2:=λq g=>by have:=dS.o.1.len;unfold Xci;rw[List.length_append,Xap (f:=Xbw) (sz:=2) (λ_=>rfl),List.length_take,List.length_map,List.length_drop,this,Nat.min_eq_left g];omega
  by_cases fE:k<s.M.N.length
  .obtain ⟨x,o⟩:=Ϡ s.M.N k fE
   obtain⟨e0,fa,fc,e1,iJ⟩:=dS.o.2 k x o;obtain⟨R,m1,m2⟩:=Xg2 (f:=Xbw) (sz:=2) [X x.type,O fa x.f fc] o rfl (λj v Y=>by
    match j,Y with
    |0,Y=>cases Y;exact e0
    |1,Y=>cases Y;exact e1
    |j+2,Y=>simp at Y)
   have hP:=Xj9 (f:=Xbw) (sz:=2) (l:=s.M.N) (λ_=>rfl) hk;have hY:(Xci Xbw 2 s.M.N aQ k)[k*2+1]?=ς (.p (O fa x.f fc)):=by rw[m1,Ar D,hP,Nat.add_sub_cancel_left];rfl
   have eR:(Xci Xbw 2 s.M.N aQ k).set (k*2+1) (Xa3 x.f)=Xci Xbw 2 s.M.N aQ (k+1):=by rw[m1,m2,Xie hP ψ];rfl
   obtain⟨kT,bU,y1,-,-,aP⟩:=X5.at1 (J.o.st) (j:=1) (n:=s.M.N.length) rfl (bI k hk) D;obtain⟨nb,rfl,hN,iA,eH,aI⟩:=aP D;obtain⟨uo,fH,fI⟩:=aI _ _ hY;have jR:uo=O fa x.f fc:=fI;subst jR;have y2:=fH;have y3:=eH (k*2+1);have j0:=In k;have j1:(k:Int)<(s.M.N:Int):=D;have aS:=Lh (Xcp (100+16*(k*2+1)+1) kr fa x.f.length fc _ wr.drew (iJ.below (JT.below (J.o.old.trans (AG Br 1)))) D (λb G=>J.o.hi b (by simpa using G)));have M:=Lh (ϟ y1 (ϟ y2 (ϟ y3 (ϟ iA (ϟ eR hN)))));clear o e0 e1 iJ m1 m2 hP hY eR hN iA eH aI fH fI aP y3;go_upto_region 6 with fail;refine wp_region_bel (λV h=>ϟ (AB h y1) (AB h y2)) [11,14] ϑ 15 rfl κ κ ?_;refine Xac ?_;clear y1 y2;refine AH κ ?_;go_simp;refine aS.o.mono ?_;rintro e F⟨aq,z,kq,rfl,B,r,A⟩;have bO:=(AT.ob (AG Br 1) (no 0)).trans r;have g:=J.o.chgN bO A;have z1:=bO.cell M.o.1 (no _);have z2:=bO.cell M.o.2.1 (no _);have z3:=bO.frozen M.o.2.2.2.1 M.o.2.2.1 (no _);obtain⟨aW,aT⟩:=X5.put1 g.st (j:=1) (i:=k*2+1) (u:=O aq x.f z) (x:=Xa3 x.f) rfl z1 ⟨_,B⟩;rw[M.o.2.2.2.2.1]at aW;have aU:=g.put aW aT (λt ht=>by omega);obtain⟨Wn,cF⟩:=ε (F.setCell (π nb (k*2+1)) (O aq x.f z));rw[<-cF]at aU;have HN:=Lh aU;have dV:=Lh cF;clear B r A bO g aW aT aU cF;refine⟨⟨z1,z2⟩,?_⟩;refine AH κ ?_;go_simp;rw[<-dV.o];refine BH ?_;clear z1 z2 z3 dV bI;go_wp2;go_roundw;exact⟨k+1,D,by go_num,Lh ⟨kq,HN.o⟩⟩;simp[intOf];omega
  have cY:k=s.M.N.length:=D;subst cY;clear bI;go_wp2;go_meet;have:=J.o;rw[Xji dS.o.1.len]at this;exact Lh ⟨kr,this⟩
 obtain⟨k3,h3⟩:=hcut.o;have H3:=Lh h3;clear h3 hcut xn;have x2:=H3.o.st.p0 (j:=2) rfl;have x8:=H3.o.st.p0 (j:=8) rfl;have x9:=H3.o.st.p0 (j:=9) rfl;have HX:=Lh (ϟ x2 (ϟ x8 x9));have dQ:=Lh (Xfp 2 k3 s.q6 List.length (λl=>l.map (Value.int .i64)) va vc wc.drew (jJ.o.below (JT.below (H3.o.old.trans (AG Br 1)))) D (λb G=>H3.o.hi b (by simpa using G)) bB.o.1.q6.1);go_upto_region 8 with fail;refine wp_region_bel (λV h=>AB h x9) [1,2,4,5,8,10,12,14] ϑ 15 rfl κ κ ?_;refine Xac ?_;clear x2 x8 x9;refine' Xpd (λfP=>?_) ?_;rotate_left
 .have y2:=HX.o.1
  have y8:=HX.o.2.1;have y9:=HX.o.2.2;refine GW [_] ?_;refine Dv κ κ ?kx1 ?ky1
  case' kx1=>
   go_simp;refine Dv κ κ ?kx2 ?ky2
   case' kx2=>go_simp;refine AH κ ?_;go_simp;clear y2 y8 y9;refine dQ.o.mono ?_;rintro e F⟨aq,z,kq,rfl,B,r,A⟩;have aR:=Lh (ϟ B (ϟ ((AT.ob (AG Br 1) (no 0):AT NO k3 k3 wc wc.drew).trans r) A));clear B r A;refine⟨aR.o.2.1.cell HX.o.2.2 (no _),?_⟩
   case' ky2=>go_simp;clear y2 y8 y9;refine dQ.o.mono ?_;rintro e F⟨aq,z,kq,rfl,B,r,A⟩;have aR:=Lh (ϟ B (ϟ ((AT.ob (AG Br 1) (no 0):AT NO k3 k3 wc wc.drew).trans r) A));clear B r A;refine⟨aR.o.2.1.cell HX.o.2.2 (no _),?_⟩;have t8:=aR.o.2.1.cell HX.o.2.1 (no _);have t9:=aR.o.2.1.cell HX.o.2.2 (no _);refine AH κ ?_;go_simp;clear t8 t9
  case' ky1=>go_simp;refine AH κ ?_;go_simp;refine AH κ ?_;go_simp;clear y2 y8 y9;refine dQ.o.mono ?_;rintro e F⟨aq,z,kq,rfl,B,r,A⟩;have aR:=Lh (ϟ B (ϟ ((AT.ob (AG Br 1) (no 0):AT NO k3 k3 wc wc.drew).trans r) A));clear B r A;refine⟨aR.o.2.1.cell HX.o.2.2 (no _),?_⟩
  all_goals
   revert aR;revert kq;revert z;revert aq;revert F;exact fP
 intro F aq z kq aR;have fG:=H3.o.chgN aR.o.2.1 aR.o.2.2;have fL:=Lh (Xfp 8 kq s.Z List.length (λl=>l.map (Value.int .i64)) ba bc F (jE.o.below (JT.below fG.old)) D fG.hi bB.o.1.Z.1);have jC:=Lh fG;clear fG;refine AH κ ?_;go_simp;refine fL.o.mono ?_;rintro e w2⟨a2,bY,jT,rfl,eN,fS,hS⟩;have eL:=jC.o.chgN fS hS;have gW:=Lh (ϟ eN fS);have iZ:=Lh (Xfp 9 jT s.P List.length (λl=>l.map (Value.int .i64)) ea ec w2 (jG.o.below (JT.below eL.old)) D eL.hi bB.o.1.P.1);have jD:=Lh eL;have t9:=eL.st.p0 (j:=9) rfl;clear eN fS hS eL;refine⟨t9,?_⟩;clear t9;refine AH κ ?_;go_simp;refine iZ.o.mono ?_;rintro e w3⟨a3,bC,k8,rfl,iE,bE,hT⟩;have aV:=jD.o.chgN bE hT;have t2:=aV.st.p0 (j:=2) rfl;have t8:=aV.st.p0 (j:=8) rfl;have t9:=aV.st.p0 (j:=9) rfl;have f2:=aV.st.frz 2;have f8:=aV.st.frz 8;have f9:=aV.st.frz 9;have gH:=(aR.o.1.kp gW.o.2 (no _) (λi x _=>by cases x<;>first|exact trivial|exact no _)).kp bE (no _) (λi x _=>by cases x<;>first|exact trivial|exact no _);have eN:=gW.o.1.kp bE (no _) (λi x _=>by cases x<;>first|exact trivial|exact no _);have aW:=aV.put0 (j:=2) (u:=O aq s.q6 z) (x:=cX2 s) gH;obtain⟨-,fR⟩:=aV.st.put0 (j:=2) (u:=O aq s.q6 z) (x:=cX2 s) gH;have cK:=eN.kp fR D (Xa5 (S:=λt=>t=1) λi=>by omega);have eO:=iE.kp fR D (Xa5 (S:=λt=>t=1) λi=>by omega);have aT:=aW.put0 (j:=8) (u:=O a2 s.Z bY) (x:=cX8 s) cK;obtain⟨-,hB⟩:=aW.st.put0 (j:=8) (u:=O a2 s.Z bY) (x:=cX8 s) cK;have eP:=eO.kp hB D (Xa5 (S:=λt=>t=1) λi=>by omega);have aU:=aT.put0 (j:=9) (u:=O a3 s.P bC) (x:=cX9 s) eP;obtain⟨V8,fV⟩:=ε (((w3.setCell (π w 2) (O aq s.q6 z)).setCell (π w 8) (O a2 s.Z bY)).setCell (π w 9) (O a3 s.P bC));rw[<-fV]at aU;have H8:=@Lh (Ws w (cg s (cX0 s) (cX1 s) (cX2 s) (.p (O aa s.q1 ac)) (.p (O ca s.A cc)) (.p (O oa s.results oc)) (cX8 s) (cX9 s) (.p (O da s.q7 dc))) k8 V8) aU;have gY:=Lh fV;clear iE bE hT aV gH eN aW fR cK eO aT hB eP aU fV;refine⟨t9,?_⟩;refine AH κ ?_;go_simp;refine AH κ ?_;go_simp;refine AH κ ?_;go_simp;rw[<-gY.o];refine BH ?_;clear t2 t8 t9 f2 f8 f9 gY;have xa:=H8.o.st.p0 (j:=7) rfl;have aS:=Lh (Xml 7 k8 s.results List.length Dk oa oc V8 (jI.o.below (JT.below H8.o.old)) D H8.o.hi bB.o.1.results.1);go_wp2_with fail;refine aS.o.mono ?_;rintro e F⟨aq,z,k9,rfl,B,r,A⟩;have g:=H8.o.chgN r A;have xb:=g.st.p0 (j:=7) rfl;have xf:=g.st.frz 7;have C:=g.put0 (j:=7) (u:=O aq s.results z) (x:=cX7 s) (B);obtain⟨V9,fW⟩:=ε (F.setCell (π w 7) (O aq s.results z));rw[<-fW]at C;have H9:=@Lh (Ws w (cg s (cX0 s) (cX1 s) (cX2 s) (.p (O aa s.q1 ac)) (.p (O ca s.A cc)) (cX7 s) (cX8 s) (cX9 s) (.p (O da s.q7 dc))) k9 V9) C;have aO:=Lh fW;clear B r A g C fW xa;go_upto_region 10 with fail;rw[<-aO.o];clear xb xf aO;have xa:=H9.o.st.p0 (j:=10) rfl;have aS:=Lh (Xhi (20+10) k9 da s.q7.length dc _ V9 (jF.o.below (JT.below H9.o.old)) D H9.o.hi);go_wp2_with fail;refine aS.o.mono ?_;rintro e F⟨aq,z,iU,rfl,B,r,A⟩;have g:=H9.o.chgN r A;have xb:=g.st.p0 (j:=10) rfl;have xf:=g.st.frz 10;have C:=g.put0 (j:=10) (u:=O aq s.q7 z) (x:=Xbv s) (by have:=Xfa (j:=10) B;rw[Xkx]at this;exact this);obtain⟨gZ,cB⟩:=ε (F.setCell (π w 10) (O aq s.q7 z));rw[<-cB]at C;have eX:=@Lh (Ws w (cg s (cX0 s) (cX1 s) (cX2 s) (.p (O aa s.q1 ac)) (.p (O ca s.A cc)) (cX7 s) (cX8 s) (cX9 s) (Xbv s)) iU gZ) C;have aO:=Lh cB;clear B r A g C cB xa;go_upto_region 11 with fail;rw[<-aO.o];clear xb xf aO;have iF:bL.length=s.A.length:=by rw[<-fA.o.1,List.length_map]
 have fN:=Lh iF;clear iF;have xa:=eX.o.st.p0 (j:=6) rfl;have aS:=Lh (by have:=Xld 6 iU bL (λp=>p.1.length) (λp=>p.2) ca cc gZ (fA.o.2.1.below (JT.below eX.o.old)) D eX.o.hi (by rw[fN.o];exact bB.o.1.A.1);rw[fN.o]at this;exact this);go_wp2_with fail;refine aS.o.mono ?_;rintro e F⟨aq,z,iV,rfl,B,r,A⟩;have g:=eX.o.chgN r A;have xb:=g.st.p0 (j:=6) rfl;have xf:=g.st.frz 6;have C:=g.put0 (j:=6) (u:=O aq s.A z) (x:=cQ bL) (B);obtain⟨jM,cC⟩:=ε (F.setCell (π w 6) (O aq s.A z));rw[<-cC]at C;have gT:=@Lh (Ws w (cg s (cX0 s) (cX1 s) (cX2 s) (.p (O aa s.q1 ac)) (cQ bL) (cX7 s) (cX8 s) (cX9 s) (Xbv s)) iV jM) C;have aO:=Lh cC;clear B r A g C cC xa;go_upto_region 12 with fail;rw[<-aO.o];clear xb xf aO;obtain⟨ax,dX,bW⟩:=X5.at1 (gT.o.st) (j:=6) (n:=s.A.length) rfl (by rw[List.length_map,fN.o,Nat.mul_one]) D;have xn:=bW.1;clear bW;go_upto_block 2 with fail;go_cut[] (λwx=>Hid (∃cs kz,cs.map (·.1)=s.A/\Ws w (cg s (cX0 s) (cX1 s) (cX2 s) (.p (O aa s.q1 ac)) (cQ cs) (cX7 s) (cX8 s) (cX9 s) (Xbv s)) kz wx/\Xbo w s.A.length 0 cs kz wx))
 .have jL:=Lh xn;clear xn;have kU:=bB.o.1.A.1;go_wp2_with fail;go_loopw[70] (λgL wr=>∃i:Nat,i<=s.A.length/\gL=X i/\Hid (∃cs kr,cs.map (·.1)=s.A/\Ws w (cg s (cX0 s) (cX1 s) (cX2 s) (.p (O aa s.q1 ac)) (cQ cs) (cX7 s) (cX8 s) (cX9 s) (Xbv s)) kr wr/\Xbo w i 0 cs kr wr/\wr.cell? (π w 6)=ς (O ax s.A dX))) (λgL _=>s.A.length-(intOf gL).toNat);exact⟨0,Nat.zero_le _,rfl,Lh ⟨bL,iV,fA.o.1,gT.o,Xbo.q8 fA.o.2.2,jL.o⟩⟩
  obtain⟨i,hi,rfl,bX⟩:=hrel;obtain⟨cs,kr,cX,hR,dZ,fJ⟩:=bX.o;have bR:cs.length=s.A.length:=by rw[<-cX,List.length_map]
  have J:=Lh (ϟ cX (ϟ hR (ϟ dZ bR)));clear cX hR dZ;by_cases fE:i<s.A.length
  .obtain ⟨p,C⟩:=Ϡ cs i
   have fF:s.A[i]?=ς p.1:=by rw[<-J.o.1,List.getElem?_map,C];rfl
   obtain⟨cb,bD,vi,cA,cV,-⟩:=X5.viewL J.o.2.1.st (j:=6) (l:=cs) (f:=λp=>.q 64 2 p.2) rfl C;have cZ:=(J.o.2.2.1 i p C).1;obtain⟨la,lc,rfl,-⟩:=X6.at2 cV (n:=p.1.length) cZ D;have y1:=cA.hd;rw[bR]at y1;obtain⟨rfl,rfl⟩:ς ((π cb 0):Addr)=ax/\bD=dX:=by have:=y1.symm.trans fJ;simpa using this
   have y2:=cA.el;have i0:=In i;have i1:(i:Int)<(s.A:Int):=D;have kV:=(bB.o.1.A.2 _ (Lm fF)).1;have hX:=(bB.o.1.A.2 _ (Lm fF)).2;have HP:=Lh (ϟ C (ϟ fF (ϟ fJ (ϟ y2 hX))));clear cA cV C fF cZ bR hX y1 fJ;go_wp2_with fail;clear y2;go_loopw[76] (λgM wr=>∃k:Nat,k<=p.1.length/\gM=X k/\Hid (∃cs kr,cs.map (·.1)=s.A/\Ws w (cg s (cX0 s) (cX1 s) (cX2 s) (.p (O aa s.q1 ac)) (cQ cs) (cX7 s) (cX8 s) (cX9 s) (Xbv s)) kr wr/\Xbo w i k cs kr wr/\wr.cell? (π w 6)=ς (O (ς (π cb 0)) s.A bD)/\wr.cell? (π cb i)=ς (O la p.1.length lc))) (λgM _=>p.1.length-(intOf gM).toNat);exact⟨0,Nat.zero_le _,rfl,Lh ⟨cs,kr,J.o.1,J.o.2.1,J.o.2.2.1,HP.o.2.2.1,HP.o.2.2.2.1⟩⟩;obtain⟨k,hk,rfl,fO⟩:=hrel;obtain⟨bN,iW,eF,hH,eA,eU,eG⟩:=fO.o;have HI:=Lh (ϟ eF (ϟ hH (ϟ eA (ϟ eU eG))));clear eF hH eA eU eG;by_cases gD:k<p.1.length
   .obtain ⟨x,o⟩:=Ϡ p.1 k gD
    obtain⟨p2,aT,aY⟩:∃p2,bN[i]?=ς p2/\p2.1=p.1:=by
     have L:(bN.map (·.1))[i]?=ς p.1:=by rw[HI.o.1];exact HP.o.2.1
     rw[List.getElem?_map]at L;cases h2:bN[i]? with
     |none=>rw[h2]at L;simp at L
     |some p2=>rw[h2]at L;exact⟨p2,rfl,by simpa using L⟩
    have gI:=HI.o.2.2.1 i p2 aT;have gJ:p2.1[k]?=ς x:=by rw[aY];exact o
    obtain⟨-,-,av,hA,-,iK⟩:=gI.2 k x gJ;obtain⟨fa,fc,rfl,eS,hE⟩:=iK D;obtain⟨cU,dW,kQ,cA,cV,-⟩:=X5.viewL HI.o.2.1.st (j:=6) (l:=bN) (f:=λp=>.q 64 2 p.2) rfl aT;have cZ:=gI.1;rw[aY]at cZ;have e6:=cA.hd.symm.trans HI.o.2.2.2.1;obtain⟨rfl,-⟩:cU=cb/\dW=bD:=by simp at e6;exact⟨e6.1,e6.2.2⟩
    have e7:kQ=O la p.1.length lc:=by have:=cA.el.symm.trans HI.o.2.2.2.2;simpa using this
    subst e7;obtain⟨jU,jV,e8,-,-,-,aP⟩:=X6.at2 cV (n:=p.1.length) cZ D;obtain⟨rfl,rfl⟩:la=jU/\lc=jV:=by simpa using e8
    obtain⟨gb,rfl,hM,fD,eI,hO⟩:=aP D;have y3:=hO _ _ hA;have HG:=Lh (ϟ fD (ϟ (eI (k*2+1)) (ϟ y3 (ϟ aT (ϟ aY (ϟ gJ (ϟ cV (ϟ hE hM))))))));have k0:=In k;have k1:(k:Int)<(p.1.length:Int):=D;have aS:=Lh (Xcp 15 iW fa x.args.length fc _ wr (eS.below (JT.below HI.o.2.1.old)) D HI.o.2.1.hi);clear o aT aY gI gJ hA iK eS hE cA cV cZ e6 e8 aP hM fD eI hO;go_wp2_with fail;refine aS.o.mono ?_;rintro e F⟨aq,z,kq,rfl,B,r,A⟩;have g:=HI.o.2.1.chgN r A;have z3:=r.cell HG.o.2.2.1 (no _);have zf:=r.frozen HG.o.1 HG.o.2.1 (no _);have z6:=r.cell HI.o.2.2.2.1 (no _);have z7:=r.cell HI.o.2.2.2.2 (no _);have hG:=HG.o.2.2.2.2.2.2.1.kp r (no _);obtain⟨aW,bS⟩:=X5.put2 g.st (j:=6) (i:=i) (k:=k*2+1) (u:=O aq x.args z) rfl z6 z7 (Xc5 (f:=λp:List Bi×List ϒ=>Xad.q 64 2 p.2) HG.o.2.2.2.1) hG;rw[Xdm (f:=λp:List Bi×List ϒ=>Xad.q 64 2 p.2) (x':=(p2.1,p2.2.set (k*2+1) (O aq x.args z))) rfl]at aW;have aU:Ws w (cg s (cX0 s) (cX1 s) (cX2 s) (.p (O aa s.q1 ac)) (cQ (bN.set i (p2.1,p2.2.set (k*2+1) (O aq x.args z)))) (cX7 s) (cX8 s) (cX9 s) (Xbv s)) kq (F.setCell (π gb (k*2+1)) (O aq x.args z)):=g.put aW bS (λt ht=>by omega);have bZ:=((HI.o.2.2.1.kp r (no _)).next HG.o.2.2.2.1 HG.o.2.2.2.2.2.1 ⟨B,HG.o.2.2.2.2.2.2.2.1⟩).kp bS D;have w6:=bS.cell z6 (Ϟ g.st.2.1 ω);have hL:kq cU=26:=by
     obtain⟨q1,q2,q3,eB,-,-⟩:=X5.viewL g.st (j:=6) (l:=bN) (f:=λp=>.q 64 2 p.2) rfl HG.o.2.2.2.1;have e6:=eB.hd.symm.trans z6;obtain rfl:q1=cU:=by simp at e6;exact e6.1
     exact eB.lab
    have w7:=bS.cell z7 (Ϟ hL ω);obtain⟨Wn,cF⟩:=ε (F.setCell (π gb (k*2+1)) (O aq x.args z));rw[<-cF]at aU bZ w6 w7;have HN:Hid (∃cs kr,cs.map (·.1)=s.A/\Ws w (cg s (cX0 s) (cX1 s) (cX2 s) (.p (O aa s.q1 ac)) (cQ cs) (cX7 s) (cX8 s) (cX9 s) (Xbv s)) kr Wn/\Xbo w i (k+1) cs kr Wn/\Wn.cell? (π w 6)=ς (O (ς (π cU 0)) s.A bD)/\Wn.cell? (π cU i)=ς (O (ς (π gb 0)) p.1.length lc)):=Lh ⟨_,kq,by
     rw[List.map_set,<- HI.o.1];apply List.ext_getElem?;intro q;rw[List.getElem?_set];split
     .rename_i e
      subst e;rw[List.getElem?_map,HG.o.2.2.2.1];have:=(Ll HG.o.2.2.2.1);simp[this]
     rfl,aU,bZ,w6,w7⟩
    have dV:=Lh cF;clear B r A g z6 z7 hG aW bS aU bZ w6 w7 hL cF;go_upto_region 19 with fail;rw[<-dV.o];clear z3 zf y3 dV;go_wp2;go_roundw;exact⟨k+1,D,by go_num,HN⟩;simp[intOf];omega
   have cY:k=p.1.length:=D;have HN:=@Lh (∃cs kr,cs.map (·.1)=s.A/\Ws w (cg s (cX0 s) (cX1 s) (cX2 s) (.p (O aa s.q1 ac)) (cQ cs) (cX7 s) (cX8 s) (cX9 s) (Xbv s)) kr wr/\Xbo w (i+1) 0 cs kr wr/\wr.cell? (π w 6)=ς (O (ς (π cb 0)) s.A bD)) (by
    obtain⟨p2,aT,aY⟩:∃p2,bN[i]?=ς p2/\p2.1=p.1:=by
     have L:(bN.map (·.1))[i]?=ς p.1:=by rw[HI.o.1];exact HP.o.2.1
     rw[List.getElem?_map]at L;cases h2:bN[i]? with
     |none=>rw[h2]at L;simp at L
     |some p2=>rw[h2]at L;exact⟨p2,rfl,by simpa using L⟩
    exact⟨bN,iW,HI.o.1,HI.o.2.1,HI.o.2.2.1.row aT (by rw[aY];exact cY),HI.o.2.2.2.1⟩)
   clear cY;go_wp2;go_roundw;exact⟨i+1,D,by go_num,HN⟩;simp[intOf];omega
  have jN:i=s.A.length:=D;subst jN;clear bR fJ;go_wp2;go_meet;exact Lh ⟨cs,kr,J.o.1,J.o.2.1,J.o.2.2.1⟩
 obtain⟨cs,jS,cX,hC,dZ⟩:=hcut.o;have eY:=Lh hC;have gV:=Lh (ϟ cX dZ);clear hC hcut xn cX dZ;have aS:=Lh (Xlu (20+5) jS aa s.q1.length ac aN wc (eZ.o.1.below (JT.below eY.o.old)) D eY.o.hi);have xa:=eY.o.st.p0 (j:=5) rfl;go_wp2_with fail;refine aS.o.mono ?_;rintro e F⟨aq,z,gO,rfl,B,r,A⟩;have g:=eY.o.chgN r A;have xb:=g.st.p0 (j:=5) rfl;have xf:=g.st.frz 5;have bK:Xay F gO 5 (O aq s.q1 z) (.r 62 13 (Xci Xaz 13 s.q1 aN 0)):=by have:=Xfa (j:=5) B;rw[<-Xfs Xaz 13 s.q1]at this;exact this
 have C:Ws w (cg s (cX0 s) (cX1 s) (cX2 s) (.r 62 13 (Xci Xaz 13 s.q1 aN 0)) (cQ cs) (cX7 s) (cX8 s) (cX9 s) (Xbv s)) gO (F.setCell (π w 5) (O aq s.q1 z)):=g.put0 bK;obtain⟨-,gC⟩:=g.st.put0 bK;have bG:=(gV.o.2.kp r (no _)).kp gC D;obtain⟨kR,cD⟩:=ε (F.setCell (π w 5) (O aq s.q1 z));rw[<-cD]at C bG;have gU:=Lh C;have dR:=Lh bG;have aO:=Lh cD;clear B r A g bK C gC bG cD xa;go_upto_region 22 with fail;rw[<-aO.o];clear xb xf aO;have hZ:∀q,q<=s.q1.length->(Xci Xaz 13 s.q1 aN q).length=s.q1.length*13:=λq g=>by have:=eZ.o.1.len;unfold Xci;rw[List.length_append,Xap (f:=Xaz) (sz:=13) (λ_=>rfl),List.length_take,List.length_map,List.length_drop,this,Nat.min_eq_left g];omega
 have gX:=Lh hZ;clear hZ;obtain⟨an,fQ,bW⟩:=X5.at1 (gU.o.st) (j:=5) (n:=s.q1.length) rfl (gX.o 0 (Nat.zero_le _)) D;have xn:=bW.1;clear bW;go_upto_block 6 with fail;go_cut[] (λwx=>Hid (∃kz,Ws w (cg s (cX0 s) (cX1 s) (cX2 s) (cX5 s) (cQ cs) (cX7 s) (cX8 s) (cX9 s) (Xbv s)) kz wx/\Xbo w s.A.length 0 cs kz wx))
 .clear xn;have jO:=bB.o.1.q1.1;go_wp2_with fail;go_loopw[98] (λgN wr=>∃k:Nat,k<=s.q1.length/\gN=X k/\Hid (∃kr,Ws w (cg s (cX0 s) (cX1 s) (cX2 s) (.r 62 13 (Xci Xaz 13 s.q1 aN k)) (cQ cs) (cX7 s) (cX8 s) (cX9 s) (Xbv s)) kr wr/\Xbo w s.A.length 0 cs kr wr)) (λgN _=>s.q1.length-(intOf gN).toNat);exact⟨0,Nat.zero_le _,rfl,Lh ⟨gO,gU.o,dR.o⟩⟩
  obtain⟨k,hk,rfl,bX⟩:=hrel;obtain⟨kr,hR,hF⟩:=bX.o;have J:=Lh (ϟ hR hF);clear hR hF;by_cases fE:k<s.q1.length
  .obtain ⟨x,o⟩:=Ϡ s.q1 k fE
   obtain⟨fv,ra,rc,wa,eW,fZ,iG,iO,eQ⟩:=eZ.o.2 k x o;obtain⟨fa,fc,rfl⟩:=fZ.u1;obtain⟨R,m1,m2⟩:=Xg2 (f:=Xaz) (sz:=13) (Xa9 (O fa x.run.J fc) (O ra x.q4 rc) (O wa x.q2 eW) x) o rfl eQ;have hP:=Xj9 (f:=Xaz) (sz:=13) (l:=s.q1) (λ_=>rfl) hk;have eK:over (((Xci Xaz 13 s.q1 aN k).set (k*13+11) (rdQ x.q4)).set (k*13+12) (wrQ x.q2)) (k*13) (Xcg x.run)=Xci Xaz 13 s.q1 aN (k+1):=by rw[m1,m2,Xie hP (by show 11<13;omega),Xie hP (by show 12<13;omega),Xmx hP (by show 9<=13;omega)];rfl
   obtain⟨a5,bU,gB,-,-,aP⟩:=X5.at1 (J.o.1.st) (j:=5) (n:=s.q1.length) rfl (gX.o k hk) D;obtain⟨P,rfl,eE,hI,eH,aI⟩:=aP D;have y5:=gB;have fK:∀(q:Nat) v,(Xa9 (O fa x.run.J fc) (O ra x.q4 rc) (O wa x.q2 eW) x)[q]?=ς v->wr.cell? (π P (k*13+q))=ς v:=λq v Y=>by
    have L:(Xci Xaz 13 s.q1 aN k)[k*13+q]?=ς (.p v):=by
     have jP:=(Ll Y);rw[m1,Ar D,hP,Nat.add_sub_cancel_left,Al (by rw[List.length_map];exact jP),List.getElem?_map,Y];rfl
    obtain⟨u,fH,fI⟩:=aI _ _ L;obtain rfl:u=v:=fI;exact fH
   have M:=Lh (ϟ fK (ϟ eE (ϟ hI (ϟ eH (ϟ eK (ϟ gB (ϟ fZ o)))))));have jA:=Lh (ϟ m1 (ϟ hP iO));have jW:=fK 11 _ rfl;have iX:=fK 12 _ rfl;have j0:=In k;have j1:(k:Int)<(s.q1:Int):=D;have dQ:=Lh (Xhi (100+16*(k*13+11)+5) kr ra x.q4.length rc _ wr.drew (iG.below (JT.below (J.o.1.old.trans (AG Br 1)))) D (λb G=>J.o.1.hi b (by simpa using G)));clear o fZ iG iO eQ m1 m2 hP eK gB aP eE hI eH aI fK;go_upto_region 26 with fail;refine wp_region_bel (λV h=>AB h iX) [5,6,11,14,17] ϑ 18 rfl κ κ ?_;refine Xac ?_;refine AH κ ?_;go_simp;clear jW iX y5;refine AH κ ?_;go_simp;refine dQ.o.mono ?_;rintro e F⟨aq,z,kq,rfl,B,r,A⟩;have bO:=(AT.ob (AG Br 1) (no 0)).trans r;have g:=J.o.1.chgN bO A;have aR:=Lh (ϟ B (ϟ bO g));have fL:=Lh (Xln (100+16*(k*13+12)+5) kq wa x.q2.length eW _ F (jA.o.2.2.below (JT.below g.old)) D A);have eV:=bO.cell (M.o.1 12 _ rfl) (no _);clear B r A bO g;refine⟨eV,?_⟩;clear eV;refine AH κ ?_;go_simp;refine fL.o.mono ?_;rintro e w3⟨a3,bC,bP,rfl,eM,fB,hQ⟩;have aV:=aR.o.2.2.chgN fB hQ;have aK:=aR.o.2.1.trans fB;have kG:=aK.cell (M.o.1 11 _ rfl) (no _);have eV:=aK.cell (M.o.1 12 _ rfl) (no _);have t5:=aK.cell M.o.2.2.2.2.2.1 (no _);have gR:=aK.frozen M.o.2.2.1 (M.o.2.2.2.1 (k*13+11)) (no _);have gS:=aK.frozen M.o.2.2.1 (M.o.2.2.2.1 (k*13+12)) (no _);obtain⟨aW,bT⟩:=X5.put1 aV.st (j:=5) (i:=k*13+11) (u:=O aq x.q4 z) (x:=rdQ x.q4) rfl t5 ⟨_,aR.o.1.kp fB (no _)⟩;have gQ:=bT.cell t5 (Ϟ aV.st.2.1 ω);obtain⟨aT,cI⟩:=X5.put1 aW (j:=5) (i:=k*13+12) (u:=O a3 x.q2 bC) (x:=wrQ x.q2) rfl gQ ⟨_,eM.kp bT D⟩;have bS:=bT.trans cI;have aU:=aV.put aT bS (λt ht=>by omega);have cG:=(J.o.2.kp aK (no _)).kp bS D;have mA:=cI.cell gQ (Ϟ aV.st.2.1 ω);obtain⟨bM,bF⟩:=ε ((w3.setCell (π P (k*13+11)) (O aq x.q4 z)).setCell (π P (k*13+12)) (O a3 x.q2 bC));rw[<-bF]at aU cG mA;have iS:∀(q:Nat) v,q≠11->q≠12->(Xa9 (O fa x.run.J fc) (O ra x.q4 rc) (O wa x.q2 eW) x)[q]?=ς v->bM.cell? (π P (k*13+q))=ς v:=λq v L h2 Y=>by rw[bF,World.cell?_setCell_other _ _ _ _ φ,World.cell?_setCell_other _ _ _ _ φ];exact aK.cell (M.o.1 q v Y) (no _)
   have eI:∀q,bM.frozen? (π P q)=ϝ:=λq=>by rw[bF];simp only[World.frozen?_setCell];exact aK.frozen M.o.2.2.1 (M.o.2.2.2.1 q) (no _)
   have dY:bP P=25:=by rw[aK.old _ M.o.2.2.1];exact M.o.2.1
   have E:=Lh (ϟ aU (ϟ cG (ϟ mA (ϟ iS (ϟ eI dY)))));have dT:=Lh bF;clear eM fB hQ aV aK t5 aW bT gQ aT cI bS aU cG mA iS eI dY bF;refine⟨eV,?_⟩;refine AH κ ?_;go_simp;refine AH κ ?_;go_simp;rw[<-dT.o];refine BH ?_;clear kG eV gR gS dT;have z0:bM.cell? (π P (k*13))=ς (O fa x.run.J fc):=E.o.2.2.2.1 0 _ D D rfl;have z1:=E.o.2.2.2.1 1 _ D D rfl;have z2:=E.o.2.2.2.1 2 _ D D rfl;have z3:=E.o.2.2.2.1 3 _ D D rfl;have z4:=E.o.2.2.2.1 4 _ D D rfl;have z5:=E.o.2.2.2.1 5 _ D D rfl;have z6:=E.o.2.2.2.1 6 _ D D rfl;have z7:=E.o.2.2.2.1 7 _ D D rfl;have z8:=E.o.2.2.2.1 8 _ D D rfl;have jB:=@Lh (Calls prog 63 #[.agg #[O fa x.run.J fc,X x.run.Q.K,X x.run.Q.O,X x.run.Q.D,X x.run.Q.V,X x.run.Q.X,X x.run.Y,X x.run.C,X x.run.I]] bM (λe w'=>∃a mB,e=.returned (.agg #[O a x.run.J mB,X x.run.Q.K,X x.run.Q.O,X x.run.Q.D,X x.run.Q.V,X x.run.Q.X,X x.run.Y,X x.run.C,X x.run.I])/\ϐ bM bM w'/\∀c:A1,(∀b,(bM:Nat)<=b->c b=0)->Xch x.run.J (mask w' c) (O a x.run.J mB))) (by
    have o:=bB.o.1.q1.2 x (Lm M.o.2.2.2.2.2.2.2);refine(Xl7 x.run (O fa x.run.J fc) bM (M.o.2.2.2.2.2.2.1.ups Dx E.o.1.old.size (JT.below E.o.1.old)) o.2.1 o.2.2).mono ?_;rintro e w'⟨a,mB,L,h2,h3⟩;exact⟨a,mB,L,h2,h3⟩)
   go_wp2_with fail;refine jB.o.mono ?_;rintro e w5⟨a7,bQ,rfl,fY,iD⟩;have N:AT NO bP bP bM w5:=AT.ob fY (no 0);have gG:=E.o.1.chgN N (λb G=>E.o.1.hi b (Nt fY.size G));have t5:=N.cell E.o.2.2.1 (no _);have aL:P<bM:=Bl z1;have kH:=N.cell z0 (no _);have g0:w5.frozen? (π P (k*13))=ϝ:=N.frozen aL (E.o.2.2.2.2.1 _) (no _);have kI:=N.cell z1 (no _);have g1:w5.frozen? (π P (k*13+1))=ϝ:=N.frozen aL (E.o.2.2.2.2.1 _) (no _);have kJ:=N.cell z2 (no _);have g2:w5.frozen? (π P (k*13+2))=ϝ:=N.frozen aL (E.o.2.2.2.2.1 _) (no _);have kK:=N.cell z3 (no _);have g3:w5.frozen? (π P (k*13+3))=ϝ:=N.frozen aL (E.o.2.2.2.2.1 _) (no _);have kL:=N.cell z4 (no _);have g4:w5.frozen? (π P (k*13+4))=ϝ:=N.frozen aL (E.o.2.2.2.2.1 _) (no _);have kM:=N.cell z5 (no _);have g5:w5.frozen? (π P (k*13+5))=ϝ:=N.frozen aL (E.o.2.2.2.2.1 _) (no _);have kN:=N.cell z6 (no _);have g6:w5.frozen? (π P (k*13+6))=ϝ:=N.frozen aL (E.o.2.2.2.2.1 _) (no _);have kO:=N.cell z7 (no _);have g7:w5.frozen? (π P (k*13+7))=ϝ:=N.frozen aL (E.o.2.2.2.2.1 _) (no _);have kP:=N.cell z8 (no _);have g8:w5.frozen? (π P (k*13+8))=ϝ:=N.frozen aL (E.o.2.2.2.2.1 _) (no _);have gF:=X5.puts1 (j:=5) [O a7 x.run.J bQ,X x.run.Q.K,X x.run.Q.O,X x.run.Q.D,X x.run.Q.V,X x.run.Q.X,X x.run.Y,X x.run.C,X x.run.I] (Xcg x.run) (k*13) gG.st rfl t5 rfl (λq u y Q d=>by
    match q,Q,d with
    |0,Q,d=>cases Q;cases d;exact⟨Xan _,iD bP (λb G=>E.o.1.hi b G)⟩
    |1,Q,d=>cases Q;cases d;rfl
    |2,Q,d=>cases Q;cases d;rfl
    |3,Q,d=>cases Q;cases d;rfl
    |4,Q,d=>cases Q;cases d;rfl
    |5,Q,d=>cases Q;cases d;rfl
    |6,Q,d=>cases Q;cases d;rfl
    |7,Q,d=>cases Q;cases d;rfl
    |8,Q,d=>cases Q;cases d;rfl
    |q+9,Q,d=>simp at Q)
   have cJ:AT (λt=>t=25) bP bP w5 (Xaa w5 P (k*13) [O a7 x.run.J bQ,X x.run.Q.K,X x.run.Q.O,X x.run.Q.D,X x.run.Q.V,X x.run.Q.X,X x.run.Y,X x.run.C,X x.run.I]):=Xak E.o.2.2.2.2.2 D _ _ _;rw[M.o.2.2.2.2.1]at gF;have gE:Ws w (cg s (cX0 s) (cX1 s) (cX2 s) (.r 62 13 (Xci Xaz 13 s.q1 aN (k+1))) (cQ cs) (cX7 s) (cX8 s) (cX9 s) (Xbv s)) bP (Xaa w5 P (k*13) [O a7 x.run.J bQ,X x.run.Q.K,X x.run.Q.O,X x.run.Q.D,X x.run.Q.V,X x.run.Q.X,X x.run.Y,X x.run.C,X x.run.I]):=gG.put gF cJ (λt ht=>by omega);have cH:=(E.o.2.1.kp N (no _)).kp cJ D;obtain⟨kS,cE⟩:=ε (Xaa w5 P (k*13) [O a7 x.run.J bQ,X x.run.Q.K,X x.run.Q.O,X x.run.Q.D,X x.run.Q.V,X x.run.Q.X,X x.run.Y,X x.run.C,X x.run.I]);rw[<-cE]at gE cH;have iY:=Lh (ϟ gE cH);have dU:=Lh cE;clear fY iD N gG t5 gF cJ gE cH cE aL z0 z1 z2 z3 z4 z5 z6 z7 z8;go_upto_region 28 with fail;rw[puts9,<- dU.o];clear dU kH g0 kI g1 kJ g2 kK g3 kL g4 kM g5 kN g6 kO g7 kP g8;go_wp2;go_roundw;exact⟨k+1,D,by go_num,Lh ⟨bP,iY.o⟩⟩;simp[intOf];omega
  have cY:k=s.q1.length:=D;subst cY;go_wp2;go_meet;have:=J.o.1;rw[Xji eZ.o.1.len]at this;exact Lh ⟨kr,this,J.o.2⟩
 obtain⟨gP,hD,bV⟩:=hcut.o;have T:=Lh (ϟ hD bV);clear hD hcut xn bV;obtain⟨eT,eC,vs,bJ,bH⟩:=T.o.1.st;obtain⟨fD,gA,aE⟩:=id bH
 match vs,fD with
 |[w0,w1,w2,w3,w4,w5,w6,w7,w8,w9,w10,w11,w12],_=>
  obtain⟨cL,dA,dI,rfl⟩:=Xam.form_ (aE 0 _ _ rfl rfl);obtain⟨cM,dB,dJ,rfl⟩:=Xam.form_ (aE 1 _ _ rfl rfl);obtain⟨cN,dC,dK,rfl⟩:=Xam.form_ (aE 2 _ _ rfl rfl);obtain rfl:w3=X s.q3:=aE 3 _ _ rfl rfl;obtain rfl:w4=X s.Y:=aE 4 _ _ rfl rfl;obtain⟨cO,dD,dL,rfl⟩:=Xam.form_ (aE 5 _ _ rfl rfl);obtain⟨cP,dE,dM,rfl⟩:=Xam.form_ (aE 6 _ _ rfl rfl);obtain⟨cR,dF,dN,rfl⟩:=Xam.form_ (aE 7 _ _ rfl rfl);obtain⟨cS,dG,dO,rfl⟩:=Xam.form_ (aE 8 _ _ rfl rfl);obtain⟨cT,dH,dP,rfl⟩:=Xam.form_ (aE 9 _ _ rfl rfl);obtain⟨aX,aZ,bA,rfl⟩:=Xam.form_ (aE 10 _ _ rfl rfl);obtain rfl:w11=X s.q5:=aE 11 _ _ rfl rfl;obtain rfl:w12=X s.U:=aE 12 _ _ rfl rfl;have aF:=row13 bJ;have aG:=row13 (show wc.heap[(w:Nat)+1]?=ς (χ #[H,H,H,X 0,X 0,H,H,H,H,H,H,X 0,X 0] 39 (0,0))from T.o.1.res.1);have kW:=aF 0 _ rfl;have lQ:=aG 0 _ rfl;have lG:=Ψ 0 T.o.1.res.1;have kX:=aF 1 _ rfl;have lR:=aG 1 _ rfl;have lH:=Ψ 1 T.o.1.res.1;have kY:=aF 2 _ rfl;have lS:=aG 2 _ rfl;have lI:=Ψ 2 T.o.1.res.1;have kZ:=aF 3 _ rfl;have lT:=aG 3 _ rfl;have lJ:=Ψ 3 T.o.1.res.1;have lA:=aF 4 _ rfl;have lU:=aG 4 _ rfl;have lK:=Ψ 4 T.o.1.res.1;have lB:=aF 5 _ rfl;have lV:=aG 5 _ rfl;have lL:=Ψ 5 T.o.1.res.1;have lC:=aF 6 _ rfl;have lW:=aG 6 _ rfl;have lM:=Ψ 6 T.o.1.res.1;have lD:=aF 7 _ rfl;have lX:=aG 7 _ rfl;have lN:=Ψ 7 T.o.1.res.1;have lE:=aF 8 _ rfl;have lY:=aG 8 _ rfl;have lO:=Ψ 8 T.o.1.res.1;have lF:=aF 9 _ rfl;have lZ:=aG 9 _ rfl;have lP:=Ψ 9 T.o.1.res.1;have jX:=aF 10 _ rfl;have kD:=aG 10 _ rfl;have kA:=Ψ 10 T.o.1.res.1;have jY:=aF 11 _ rfl;have kE:=aG 11 _ rfl;have kB:=Ψ 11 T.o.1.res.1;have jZ:=aF 12 _ rfl;have kF:=aG 12 _ rfl;have kC:=Ψ 12 T.o.1.res.1;have hR:(Xaa wc ((w:Nat)+1) 0 [O cL dA dI,O cM dB dJ,O cN dC dK,X s.q3,X s.Y,O cO dD dL,O cP dE dM,O cR dF dN,O cS dG dO,O cT dH dP,O aX aZ bA,X s.q5,X s.U]).heap[(w:Nat)+1]?=_:=Xab (show wc.heap[(w:Nat)+1]?=ς (χ #[H,H,H,X 0,X 0,H,H,H,H,H,H,X 0,X 0] 39 (0,0))from T.o.1.res.1) (O cL dA dI) (O cM dB dJ) (O cN dC dK) (X s.q3) (X s.Y) (O cO dD dL) (O cP dE dM) (O cR dF dN) (O cS dG dO) (O cT dH dP) (O aX aZ bA) (X s.q5) (X s.U);have bE:AT (λt=>t=2) gP gP wc (Xaa wc ((w:Nat)+1) 0 [O cL dA dI,O cM dB dJ,O cN dC dK,X s.q3,X s.Y,O cO dD dL,O cP dE dM,O cR dF dN,O cS dG dO,O cT dH dP,O aX aZ bA,X s.q5,X s.U]):=Xak T.o.1.res.2 D _ _ _;obtain⟨WE,fX⟩:=ε (Xaa wc ((w:Nat)+1) 0 [O cL dA dI,O cM dB dJ,O cN dC dK,X s.q3,X s.Y,O cO dD dL,O cP dE dM,O cR dF dN,O cS dG dO,O cT dH dP,O aX aZ bA,X s.q5,X s.U]);rw[<-fX]at hR bE;have eJ:=bH.kp bE (λj x o=>by cases x<;>first|exact trivial|exact⟨by have:=(Ll o);omega,Xa5 λi=>by omega⟩);have iN:=Xmm eJ gV.o.1 (T.o.2.kp bE D);have fC:AT Xa6 (EN w) (Xfc gP) w WE:=by have L:=T.o.1.chg.trans (bE.mono (λt ht=>by unfold Xa6;omega) tn0);refine⟨L.os,L.tape,L.output,L.size,λb G hn=>L.kp b G hn,λb G=>?_,tn0⟩;have h2:=L.old b G;rw[Mv G]at h2;rw[Xhl h2 D,Mv G]
  have hV:=λb G=>Xeb (T.o.1.hi b (Nt bE.size G)) (.inr (.inr rfl));have fM:Hid (ly s c w (.returned (.agg #[O cL dA dI,O cM dB dJ,O cN dC dK,X s.q3,X s.Y,O cO dD dL,O cP dE dM,O cR dF dN,O cS dG dO,O cT dH dP,O aX aZ bA,X s.q5,X s.U])) WE):=Lh ⟨[O cL dA dI,O cM dB dJ,O cN dC dK,X s.q3,X s.Y,O cO dD dL,O cP dE dM,O cR dF dN,O cS dG dO,O cT dH dP,O aX aZ bA,X s.q5,X s.U],_,rfl,Xhj fC iN,Xd7 fC Xg5,Xe6 fC hV⟩;have bX:=Lh hR;have jK:=Lh fX;clear eT eC bJ bH gA aE aF aG hR bE eJ iN fC hV fX;go_wp2_with fail;rw[Xaf,<- jK.o];exact ϖ (Xa7 (p:=2) rfl bX.o _ rfl) rfl fM.o
def Xa0{p u:Tmp}(d:fn.results=#[.cell p 39,.tmp u])(e:W.heap[R]?=ς (χ #[x0,x1,x2,x3,x4,x5,x6,x7,x8,x9,x10,x11,x12] 39 (0,0)))(a:Array ϒ)(c:a.getD p undef=.pointer (ς (π R 0)))(b:a.getD u undef=v) :
  (results fn a).run prog W=.ok (.tuple #[.agg #[x0,x1,x2,x3,x4,x5,x6,x7,x8,x9,x10,x11,x12],v]) W:=by
 simp only[results,d];rw[Array.getD_eq_getD_getElem?]at c b;simp[c,b,asAddr,Xgp e,Result.andThen,Sem.run_bind]
def Xbb.shape(bG:Xbb w c vs (Xag s)):∃(P:Option Addr)(G J:Nat)(F:Option Addr)(C E:Nat)(A:Option Addr)(r t:Nat)(B:Option Addr)(u v:Nat)(q:Option Addr)(o p:Nat)(n:Option Addr)(l m:Nat)(k:Option Addr)(i j:Nat)(h:Option Addr)(f g:Nat)(e:Option Addr)(b d:Nat),vs=[O P G J,O F C E,O A r t,X s.q3,X s.Y,O B u v,O q o p,O n l m,O k i j,O h f g,O e b d,X s.q5,X s.U]:=by
 let⟨b,_,a⟩:=bG
 match vs,b with
 |[w0,w1,w2,w3,w4,w5,w6,w7,w8,w9,w10,w11,w12],_=>obtain⟨bN,bO,bP,rfl⟩:=Xam.form_ (a 0 _ _ rfl rfl);obtain⟨bK,bL,bM,rfl⟩:=Xam.form_ (a 1 _ _ rfl rfl);obtain⟨bH,bI,bJ,rfl⟩:=Xam.form_ (a 2 _ _ rfl rfl);obtain rfl:w3=X s.q3:=a 3 _ _ rfl rfl;obtain rfl:w4=X s.Y:=a 4 _ _ rfl rfl;obtain⟨bD,bE,bF,rfl⟩:=Xam.form_ (a 5 _ _ rfl rfl);obtain⟨Y,bB,bC,rfl⟩:=Xam.form_ (a 6 _ _ rfl rfl);obtain⟨T,V,W,rfl⟩:=Xam.form_ (a 7 _ _ rfl rfl);obtain⟨Q,R,S,rfl⟩:=Xam.form_ (a 8 _ _ rfl rfl);obtain⟨L,M,N,rfl⟩:=Xam.form_ (a 9 _ _ rfl rfl);obtain⟨x,y,z,rfl⟩:=Xam.form_ (a 10 _ _ rfl rfl);obtain rfl:w11=X s.q5:=a 11 _ _ rfl rfl;obtain rfl:w12=X s.U:=a 12 _ _ rfl rfl;exact⟨bN,bO,bP,bK,bL,bM,bH,bI,bJ,bD,bE,bF,Y,bB,bC,T,V,W,Q,R,S,L,M,N,x,y,z,rfl⟩
def Xbb.v9(l:Xbb w c vs (Xag s)):∃a b d g h i j k f:ϒ,vs=[a,b,d,X s.q3,X s.Y,g,h,i,j,k,f,X s.q5,X s.U]:=by
 let⟨_,_,_,_,_,_,_,_,_,_,_,_,_,_,_,_,_,_,_,_,_,_,_,_,_,_,_,e⟩:=l.shape;exact⟨_,_,_,_,_,_,_,_,_,e⟩
def Xbb.v13(p:Xbb w c vs (Xag s)):∃a b h i j k l m n o d f g:ϒ,vs=[a,b,h,i,j,k,l,m,n,o,d,f,g]:=by
 let⟨_,_,_,_,_,_,_,_,_,_,_,_,_,_,_,_,_,_,_,_,_,_,_,_,_,_,_,e⟩:=p.shape;exact⟨_,_,_,_,_,_,_,_,_,_,_,_,_,e⟩
def TraVs.v9(t:TraVs B w vs s):∃a b c n o p q r m:ϒ,vs=[a,b,c,X s.q3,X s.Y,n,o,p,q,r,m,X s.q5,X s.U]:=by
 obtain⟨i,j,l,d,f,k,e,h,g,rfl,_⟩:=t;exact⟨i,j,l,d,f,k,e,h,g,rfl⟩
def TraVs.v13(n:TraVs B w vs s):∃a b f g h i j k l m c d e:ϒ,vs=[a,b,f,g,h,i,j,k,l,m,c,d,e]:=by
 obtain⟨_,_,_,_,_,_,_,_,_,rfl,_⟩:=n;exact⟨_,_,_,_,_,_,_,_,_,_,_,_,_,rfl⟩
def TraVs.shape(aM:TraVs B w vs s):∃(aL:Option Addr)(aJ aK:Nat)(aI:Option Addr)(aG aH:Nat)(aD:Option Addr)(V W:Nat)(aE:Option Addr)(Y aA:Nat)(T:Option Addr)(N P:Nat)(M:Option Addr)(F G:Nat)(C:Option Addr)(x y:Nat)(v:Option Addr)(p q:Nat)(o:Option Addr)(m n:Nat),vs=[O aL aJ aK,O aI aG aH,O aD V W,X s.q3,X s.Y,O aE Y aA,O T N P,O M F G,O C x y,O v p q,O o m n,X s.q5,X s.U]:=by
 obtain⟨_,_,_,_,_,_,_,_,_,rfl,a,b,d,g,k,u,E,Q,aC⟩:=aM;obtain⟨aB,aF,rfl⟩:=a.u1;obtain⟨R,S,rfl⟩:=b.u1;obtain⟨J,L,rfl⟩:=d.u1;obtain⟨z,A,rfl⟩:=g.u1;obtain⟨r,t,rfl⟩:=k.u1;obtain⟨j,l,rfl⟩:=u.u1;obtain⟨h,i,rfl⟩:=E.u1;obtain⟨e,f,rfl⟩:=Q.u1;obtain⟨c,dc,rfl⟩:=aC.u1;exact⟨aB,_,aF,R,_,S,J,_,L,z,_,A,r,_,t,j,_,l,h,_,i,e,_,f,c,_,dc,rfl⟩
structure Xba(cd:AQ)(s:Tra):Prop where
 inv:Xbh cd s
 outs:Xg9 s
 one:1<=s.q1.length
 eight:s.q1.length<=8
 steps:s.U<=65536
def SAt.boxed(f:Xbb w c vs (Xag s))(g:∀b,(w:Nat)<=b->c b=0)(a:W=w.alloc (χ vs.toArray 39)):SAt W (λb=>if b=(w:Nat)then 1 else c b) (w:Nat) s/\AT NO c (λb=>if b=(w:Nat)then 1 else c b) w W:=by
 have e:ϐ w w W:=by rw[a];exact AA _ _
 have:(W:Nat)=(w:Nat)+1:=by rw[a];simp
 have d:AT NO c (λb=>if b=(w:Nat)then 1 else c b) w W:=AT.paint _ _ e (Nr _);refine⟨⟨λb e=>?_,if_pos rfl,vs,by rw[a];exact Hn _ _,f.kp d (Xai λa _=>no a)⟩,d⟩;show(if b=(w:Nat)then 1 else c b)=0;rw[if_neg D];exact g b D
def Xiu(n:Nat):A1:=λb=>if b<n then 14 else 0
def Xcn(a:b<n):Xiu n b=14:=if_pos a
def Xea(a:n<=b):Xiu n b=0:=if_neg D
def Xe2{t:Int}(h:Xa1 s t=0):∃i d l,t=((i:Nat):Int)/\s.A[i]?=ς (d::l)/\s.U<65536:=by
 unfold Xa1 at h;split at h
 .cases h
 rename_i e;split at h
 .cases h
 rename_i b;split at h
 .cases h
 rename_i f;let⟨l,c⟩:=Ϡ s.A t.toNat;rw[Xau c]at b;cases l with
 |nil=>exact absurd rfl b
 |cons a l=>exact⟨t.toNat,a,l,D,c,D⟩
def Xal{w0:Ϣ}(c:B<=b):∀(a:List ϒ){w:Ϣ}(o:Nat),ϐ B w0 w->ϐ B w0 (Xaa w b o a)
 |[],_,_,h=>h
 |u::a,w,o,h=>Xal c a (o+1) (h.setCell (p:=(π b o)) c u)
def Xor(w w':Ϣ)(vs:List ϒ)(s:Tra):Prop:=∃c,Xbb w' c vs (Xag s)/\(∀b,b<(w:Nat)->c b=14)/\∀b,(w':Nat)<=b->c b=0
def Xbd.snoc{c:AQ}{a b:Tra}(e:Xbd c s a)(d:∀u,u<i->a.A[u]?=ς [])(hs:gw c a i b):Xbd c s b:=by
 induction e with
 |nil s=>exact .step d hs (.nil _)
 |step b e _ a=>exact .step b e (a d hs)
def Xba.stepS{c:AQ}(a:Xba c s)(hs:gw c s i s')(b:s.U<65536):Xba c s'/\s'.q1.length=s.q1.length:=by
 have b:=gw.law a.inv hs;have d:=a.one;have e:=a.eight;exact⟨⟨a.inv.stepS hs,hs.outs a.inv a.outs a.steps,by rw[b.len.1];exact d,by rw[b.len.1];exact e,by rw[b.U];omega⟩,b.len.1⟩
def Xfl:∀{n:Nat}{v:Int}{l:List Int},enS s n=v::l->∃i:Nat,v=i/\i<n/\Xdp s i=ϑ/\∀u,u<i->Xdp s u=ϝ
 |0,v,l,e=>by simp[enS]at e
 |n+1,v,l,a=>by
  cases c:Xdp s n with
  |false=>rw[Xgi c]at a;let⟨i,f,_,e⟩:=Xfl a;exact⟨i,f,D,e⟩
  |true=>
   rw[Xe1 c]at a;cases b:enS s n with
   |nil=>
    rw[b]at a;simp at a;refine⟨n,a.1.symm,D,c,λu g=>?_⟩;cases d:Xdp s u with
    |false=>rfl
    |true=>
     have:(u:Int)∈enS s n:=by unfold enS;exact List.mem_map.2 ⟨u,List.mem_filter.2 ⟨List.mem_range.2 g,d⟩,rfl⟩
     rw[b]at this;cases this
   |cons e f=>rw[b]at a;simp at a;let⟨i,f,_,e⟩:=Xfl b;exact⟨i,by rw[<-a.1];exact f,D,e⟩
def Xjj{v:Int}{l:List Int}(f:enS s s.A.length=v::l):∃(i:Nat)(d:Bi)(c:List Bi),v=i/\s.A[i]?=ς (d::c)/\∀u,u<i->s.A[u]?=ς []:=by
 obtain⟨i,rfl,k,m,g⟩:=Xfl f;have at_:∀u,u<s.A.length->∃l,s.A[u]?=ς l/\(Xdp s u=decide (0<l.length)):=λu g=>by
  let⟨l,f⟩:=Ϡ s.A u g;exact⟨l,f,by unfold Xdp;rw[Xau f]⟩
 let⟨e,j,f⟩:=at_ i k;rw[m]at f;have h:0<e.length:=by simpa using f.symm
 obtain⟨d,c,rfl⟩:∃d c,e=d::c:=by cases e with|nil=>simp at h|cons a b=>exact⟨a,b,rfl⟩
 refine⟨i,d,c,rfl,j,λu e=>?_⟩;let⟨d,f,c⟩:=at_ u D;rw[g u e]at c;have:¬0<d.length:=by simpa using c.symm
 have c:d=[]:=List.eq_nil_of_length_eq_zero D;rw[f,c]
def Xht{b:Bi}{l:List Bi}(a:s.A[i]?=ς (b::l)):Xa1 s i=if 65536<=s.U then 6 else 0:=by
 have:=(Ll a);unfold Xa1;rw[if_neg D,Int.toNat_natCast,Xau a,if_neg ψ]
def Xnt(cd:AQ)(s:Tra)(w:Ϣ)(e:Ending)(w':Ϣ):Prop:=ϐ w w w'/\((∃s1,Xbd cd s s1/\Xba cd s1/\(65536<=s1.U/\enS s1 s1.A.length≠[])/\e=.returned (.tuple #[.agg #[H,H,H,X 0,X 0,H,H,H,H,H,H,X 0,X 0],X 6]))\/(∃s' vs',Xbd cd s s'/\Xba cd s'/\s'.q1.length=s.q1.length/\enS s' s'.A.length=[]/\e=.returned (.tuple #[.agg vs'.toArray,X 0])/\TraVs (w':Nat) w' vs' s'/\Xor w w' vs' s'))
def Xbr(cd:AQ)(hU hX:Option Addr)(hQ hR:Nat)(s:Tra)(vs:List ϒ)(w:Ϣ)(d:C8 w)(h:Bv cd)(g:BF w w (.agg (Bc hU hQ hX hR cd)) cd)(hs:TraVs (w:Nat) w vs s)(f:Xba cd s) :
  Calls prog 16 #[.agg (Bc hU hQ hX hR cd),.agg vs.toArray] w (Xnt cd s w):=by
 obtain⟨iG,iH,iI,iJ,iK,iL,iM,iN,iO,iQ,iR,iS,iT,iU,iV,iW,iX,iY,cQ,iZ,jA,jB,jC,jD,jE,jF,jG,rfl⟩:=hs.shape;let⟨W,a⟩:=ε (((w.alloc (χ (Bc hU hQ hX hR cd) 25)).alloc (χ #[O iG iH iI,O iJ iK iL,O iM iN iO,X s.q3,X s.Y,O iQ iR iS,O iT iU iV,O iW iX iY,O cQ iZ jA,O jB jC jD,O jE jF jG,X s.q5,X s.U] 39)).alloc (χ #[H,H,H,X 0,X 0,H,H,H,H,H,H,X 0,X 0] 39));let⟨hP,lW,lE,lS,lV⟩:=Λ5 (bl3 a) (sz3 a) (Xda a) (Xcs a) (Xbs a);have r:=Lh (ϟ f (ϟ h d));have y:Hid (∀c,ϐ W W c->BF w c (.agg (Bc hU hQ hX hR cd)) cd/\C8 c/\TraVs c.heap.size c [O iG iH iI,O iJ iK iL,O iM iN iO,X s.q3,X s.Y,O iQ iR iS,O iT iU iV,O iW iX iY,O cQ iZ jA,O jB jC jD,O jE jF jG,X s.q5,X s.U] s/\ϐ w w c/\(w:Nat)<=c.heap.size):=Lh (λc o=>by
  have c:=hP.o.th o;exact⟨g.below c,d.below c,hs.ups c.size (JT.below c),c,c.size⟩)
 have lH:Hid (∀c,ϐ W W c->Xc9 c ((w:Nat)+1) s/\c.heap[(w:Nat)]?=ς (χ (Bc hU hQ hX hR cd) 25 (0,0))/\c.heap[(w:Nat)+1]?=ς (χ #[O iG iH iI,O iJ iK iL,O iM iN iO,X s.q3,X s.Y,O iQ iR iS,O iT iU iV,O iW iX iY,O cQ iZ jA,O jB jC jD,O jE jF jG,X s.q5,X s.U] 39 (0,0))/\c.heap[(w:Nat)+1+1]?=ς (χ #[H,H,H,X 0,X 0,H,H,H,H,H,H,X 0,X 0] 39 (0,0))):=Lh (λc o=>by
  have:=lW.o;have hP:=(o.block ((w:Nat)+1) D).trans lS.o;exact⟨⟨_,(y.o c o).2.2.1,row13 hP⟩,(o.block (w:Nat) D).trans lE.o,hP,(o.block ((w:Nat)+1+1) D).trans lV.o⟩)
 clear d h g hs f;let⟨d,j,f⟩:=Ω3 lE.o;have lA:=Lh (Xew cd s ((w:Nat)+1) hU hX hQ hR W (y.o W Br).2.1 r.o.2.1 ((y.o W Br).1.up (y.o W Br).2.2.2.2) (lH.o W Br).1 r.o.1.inv r.o.1.one r.o.1.eight r.o.1.steps);go_in;go_upto_region 1 with fail;rw[<-a];clear a;go_wp2_with fail;refine lA.o.mono ?_;rintro e m⟨rfl,a⟩;have hY:=Lh a;clear d j f a;have C:=ϵ (lH.o m hY.o).2.2.1;have lB:=Lh (Xc7 s [O iG iH iI,O iJ iK iL,O iM iN iO,X s.q3,X s.Y,O iQ iR iS,O iT iU iV,O iW iX iY,O cQ iZ jA,O jB jC jD,O jE jF jG,X s.q5,X s.U] (Xiu (m:Nat)) m (y.o m hY.o).2.2.1 (r.o.1.inv.copyS r.o.2.1 r.o.1.eight r.o.1.steps) (λb c=>Xea c));go_wp2_with fail;refine lB.o.mono ?_;rintro e hZ⟨_,lI,rfl,q,a,A⟩;obtain⟨jP,jQ,jR,jS,jT,jU,jV,jW,jX,kB,kC,kD,kE,kF,kG,kH,kI,kJ,kK,kL,kM,kN,kO,kP,kQ,kR,kS,rfl⟩:=q.shape;let⟨hN,d⟩:=ε (hZ.alloc (χ #[O jP jQ jR,O jS jT jU,O jV jW jX,X s.q3,X s.Y,O kB kC kD,O kE kF kG,O kH kI kJ,O kK kL kM,O kN kO kP,O kQ kR kS,X s.q5,X s.U] 39));have g:=SAt.boxed q A d;have k:ϐ m m hZ:=⟨a.os,a.tape,a.output,a.size,λb c=>a.kp b c (no _)⟩;have f:=(hY.o.th k).th (bl1 d);let⟨z,x⟩:=ε (λb=>if b=(hZ:Nat)then 1 else lI b:A1);rw[<-x]at g;have h:∀b,b<(m:Nat)->z b=14:=λb c=>by rw[g.2.old b (Nl c a.size),a.old b c,Xcn c]
 have lU:=Lh h;have jY:Hid (Xbl cd (.agg (Bc hU hQ hX hR cd)) (w:Nat) w hN z):=Lh ⟨r.o.2.2,rfl,(y.o hN f).2.2.2.1,(y.o hN f).1,λb c=>by rw[h b (by have:=hY.o.size;have:=(y.o W Br).2.2.2.2;omega)];exact Io⟩;have o:=Lh f;have lF:=Lh g.1;have t:=Lh d;have mA:=@Lh ((w:Nat)+1+1<m/\(m:Nat)<=hN) (by have:=lW.o;have:=hY.o.size;have:=k.size;have:=sz1 d;omega)
  -- what stays where it was
 have lX:Hid (∀c j,AT NZ z j hN c->c.heap[(w:Nat)]?=ς (χ (Bc hU hQ hX hR cd) 25 (0,0))/\c.heap[(w:Nat)+1+1]?=ς (χ #[H,H,H,X 0,X 0,H,H,H,H,H,H,X 0,X 0] 39 (0,0))/\j ((w:Nat)+1+1)=14/\ϐ w w c):=Lh (λc j m=>by
  have c:=lH.o hN o.o;have:=mA.o;refine⟨(m.kp _ D (by rw[lU.o _ D];exact Io)).trans c.2.1,(m.kp _ D (by rw[lU.o _ D];exact Io)).trans c.2.2.2,by rw[m.old _ D];exact lU.o _ D,?_⟩;exact(y.o hN o.o).2.2.2.1.trans (m.belowN (B:=(w:Nat)) jY.o.low jY.o.size))
 let⟨m,o,c⟩:=lF.o.callsR;have kW:=Lh (Xdo s (hZ:Nat) m o hN c (by rw[r.o.1.inv.A];have:=r.o.1.eight;omega));clear c q a A g k f x h d C;go_upto_region 4 with fail;rw[<-t.o];clear t;go_wp2_with fail;refine kW.o.mono ?_;rintro e f⟨kT,kU,rfl,d,g⟩;have a:AT NZ z z hN f:=AT.ob d Qx;have hO:Hid (SAt f z (hZ:Nat) s/\AT NZ z z hN f/\Xbl cd (.agg (Bc hU hQ hX hR cd)) (w:Nat) w f z/\AE f f 1 Aj (O kT (enS s s.A.length).length kU) (enS s s.A.length)):=Lh ⟨lF.o.grow d,a,jY.o.go a,g⟩;have jL:=Lh (Int.le_trans r.o.1.inv.q3.1 r.o.1.inv.q3.2);clear d g a;go_wp2_with fail;go_loopg[7] 65540 (λgk f wr=>∃(x:Option Addr)(n c:Nat),f=O x n c/\Hid (∃a j,SAt wr j (hZ:Nat) a/\AT NZ z j hN wr/\Xbl cd (.agg (Bc hU hQ hX hR cd)) (w:Nat) w wr j/\Xbd cd s a/\Xba cd a/\a.q1.length=s.q1.length/\n=(enS a a.A.length).length/\AE wr wr 1 Aj (O x n c) (enS a a.A.length)/\65537-a.U<gk/\0<=a.U));exact⟨kT,_,kU,rfl,Lh ⟨s,z,hO.o.1,hO.o.2.1,hO.o.2.2.1,.nil s,r.o.1,rfl,rfl,hO.o.2.2.2,by have:=jL.o;omega,jL.o⟩⟩;obtain⟨x,n,_,rfl,iP⟩:=hrel;let⟨a,j,o,h,q,k,m,t,y,c,f,g⟩:=iP.o;have d:=Lh (ϟ o (ϟ h (ϟ q (ϟ k (ϟ m (ϟ t (ϟ f g)))))));have lP:=Lh (ϟ y c);clear o h q k m t y c f g;by_cases mE:0<n
 .obtain ⟨v,l,h⟩:∃v l,enS a a.A.length=v::l:=by
   cases mD:enS a a.A.length with
   |nil=>have:=lP.o.1;rw[mD]at this;simp at this;omega
   |cons x b=>exact⟨x,b,rfl⟩
  obtain⟨i,mB,mC,rfl,k,t⟩:=Xjj h;let⟨jM,jN,g⟩:∃jM jN,x=ς (π jM jN)/\wr.cell? (π jM jN)=ς (X (i:Int)):=by
   have c:=lP.o.2;rw[h]at c;let⟨_,_,e,_,_,_,q⟩:=c;rcases q with iE|⟨b,jH,jK,_,q⟩
   .cases iE
   have:=q 0 _ rfl;simp at e;exact⟨b,jH,by rw[e.1];exact jK,by have:=this.1;rw[Nat.zero_mul,Nat.add_zero]at this;exact this⟩
  obtain⟨rfl,g⟩:=g;let⟨f,m,c⟩:=d.o.1.callsR;have kV:=Lh (Xd4 a (hZ:Nat) i f m wr c);have jO:=Lh (ϟ k (ϟ t g));have lQ:=@Lh (enS a a.A.length≠[]) (by rw[h];simp);clear h k t c;go_wp2_with fail;refine kV.o.mono ?_;rintro e h⟨rfl,c⟩;have lG:=Lh c;have t:=AB c g;have f:=d.o.2.1.trans (AT.ob c Qx);have kZ:=Lh f;clear c g f;by_cases hs:65536<=a.U
  .have o:Xa1 a i=6:=by rw[Xht jO.o.1,if_pos hs]
   rw[o];have m:=lX.o h j kZ.o;have c:=m.2.1;have:=ϵ c;have:=ϴ c;have k:=Xab c H H H (X 0) (X 0) H H H H H H (X 0) (X 0);have g:ϐ w w (Xaa h ((w:Nat)+1+1) 0 [H,H,H,X 0,X 0,H,H,H,H,H,H,X 0,X 0]):=Xal D _ _ m.2.2.2;let⟨WE,f⟩:=ε (Xaa h ((w:Nat)+1+1) 0 [H,H,H,X 0,X 0,H,H,H,H,H,H,X 0,X 0]);rw[<-f]at k g;have lD:Hid (Xnt cd s w (.returned (.tuple #[.agg #[H,H,H,X 0,X 0,H,H,H,H,H,H,X 0,X 0],X 6])) WE):=Lh ⟨g,.inl ⟨a,d.o.2.2.2.1,d.o.2.2.2.2.1,⟨hs,lQ.o⟩,rfl⟩⟩;have jZ:=Lh k;have jI:=Lh f;clear o m c k g f hs t;go_wp2_with fail;rw[Xaf,<- jI.o];exact ϖ (Xa0 (p:=4) (u:=5) rfl jZ.o _ rfl rfl) rfl lD.o
  have k:Xa1 a i=0:=by rw[Xht jO.o.1,if_neg hs]
  rw[k];have lO:=Lh hs;have f:=(lX.o h j kZ.o).1;have g:=Ω3 f;have c:ϐ h h h.drew:=AG Br 1;have iA:=Lh ((AT.ob (lG.o.th c) Qx:AT NZ j j wr h.drew));have lJ:=Lh (Xft cd hU hX hQ hR (w:Nat) a j (hZ:Nat) i mB mC w h.drew (d.o.2.2.1.go iA.o) r.o.2.1 (d.o.1.grow (lG.o.th c)) d.o.2.2.2.2.1.inv jO.o.1 D);clear k f hs c;go_upto_region 10 with fail;refine wp_region_bel (λV h=>ϟ (AB h g.1) (ϟ (AB h g.2.1) (ϟ (AB h g.2.2) (AB h t)))) [4] ϑ 5 rfl κ κ ?_;refine Xac ?_;clear g t;refine AH κ ?_;go_simp;refine lJ.o.mono ?_;rintro e hO⟨rfl,t,f,lT,k,h⟩;have c:=Xba.stepS d.o.2.2.2.2.1 f (by have:=lO.o;omega);have r:=(d.o.2.1.trans iA.o).trans h;have q:=(d.o.2.2.1.go iA.o).go h;have o:=(gw.law d.o.2.2.2.2.1.inv f).U;let⟨x,y,m⟩:=k.callsR;have lC:=Lh (Xdo t (hZ:Nat) x y hO m (by rw[c.1.inv.A];have:=c.1.eight;omega));have g:=Lh (ϟ k (ϟ r (ϟ q (ϟ (Xbd.snoc d.o.2.2.2.1 jO.o.2.1 f) (ϟ c o)))));clear f k h c r q o m;refine BH ?_;go_wp2_with fail;refine lC.o.mono ?_;rintro e k⟨kX,kY,rfl,A,C⟩;have lR:Hid (∃a j,SAt k j (hZ:Nat) a/\AT NZ z j hN k/\Xbl cd (.agg (Bc hU hQ hX hR cd)) (w:Nat) w k j/\Xbd cd s a/\Xba cd a/\a.q1.length=s.q1.length/\(enS t t.A.length).length=(enS a a.A.length).length/\AE k k 1 Aj (O kX (enS t t.A.length).length kY) (enS a a.A.length)/\65537-a.U<(gk-1:Nat)/\0<=a.U):=Lh ⟨t,lT,g.o.1.grow A,g.o.2.1.trans (AT.ob A Qx),g.o.2.2.1.grow A,g.o.2.2.2.1,g.o.2.2.2.2.1.1,by rw[g.o.2.2.2.2.1.2];exact d.o.2.2.2.2.2.1,rfl,C,by have c:=g.o.2.2.2.2.2;have f:=d.o.2.2.2.2.2.2;have:=g.o.2.2.2.2.1.1.steps;omega,by have c:=g.o.2.2.2.2.2;have f:=d.o.2.2.2.2.2.2;omega⟩;have:0<gk:=by have:=d.o.2.2.2.2.2.2;have:=d.o.2.2.2.2.1.steps;omega
  clear A C;go_wp2_with fail;go_roundg(gk-1);exact⟨kX,_,kY,rfl,lR⟩;omega
 have iC:n=0:=D;subst iC;have lM:=List.eq_nil_of_length_eq_zero lP.o.1.symm;have lY:=Lh lM;have iF:=lX.o wr j d.o.2.1;have iD:=iF.2.1;have:=ϵ iD;have:=ϴ iD;let⟨lL,lZ,_,lK,iB⟩:=(show X5 wr j _ (hZ:Nat) (Xag a)from d.o.1);obtain⟨A,C,E,F,G,J,L,M,N,P,Q,R,S,T,V,Y,gY,gZ,hA,hB,hD,hF,hG,hH,hJ,hK,hM,rfl⟩:=iB.shape;have:=ϵ lK;have k:=Xab iD (O A C E) (O F G J) (O L M N) (X a.q3) (X a.Y) (O P Q R) (O S T V) (O Y gY gZ) (O hA hB hD) (O hF hG hH) (O hJ hK hM) (X a.q5) (X a.U);have f:AT (λc=>c=14) j j wr (Xaa wr ((w:Nat)+1+1) 0 [O A C E,O F G J,O L M N,X a.q3,X a.Y,O P Q R,O S T V,O Y gY gZ,O hA hB hD,O hF hG hH,O hJ hK hM,X a.q5,X a.U]):=Xak iF.2.2.1 D _ _ _;have g:ϐ w w (Xaa wr ((w:Nat)+1+1) 0 [O A C E,O F G J,O L M N,X a.q3,X a.Y,O P Q R,O S T V,O Y gY gZ,O hA hB hD,O hF hG hH,O hJ hK hM,X a.q5,X a.U]):=Xal D _ _ iF.2.2.2;let⟨WE,c⟩:=ε (Xaa wr ((w:Nat)+1+1) 0 [O A C E,O F G J,O L M N,X a.q3,X a.Y,O P Q R,O S T V,O Y gY gZ,O hA hB hD,O hF hG hH,O hJ hK hM,X a.q5,X a.U]);rw[<-c]at k f g;have lN:Hid (Xnt cd s w (.returned (.tuple #[.agg #[O A C E,O F G J,O L M N,X a.q3,X a.Y,O P Q R,O S T V,O Y gY gZ,O hA hB hD,O hF hG hH,O hJ hK hM,X a.q5,X a.U],X 0])) WE):=Lh ⟨g,.inr ⟨a,_,d.o.2.2.2.1,d.o.2.2.2.2.1,d.o.2.2.2.2.2.1,lY.o,rfl,(iB.kp f (Xai λh a=>by omega)).q4 (Xbh.wf d.o.2.2.2.2.1.inv d.o.2.2.2.2.1.outs d.o.2.2.2.2.1.steps),⟨j,iB.kp f (Xai λh a=>by omega),λb a=>by rw[d.o.2.1.old b (by have:=mA.o;omega)];exact lU.o b (by have:=mA.o;omega),λb a=>lL b (by rw[c,Xbe]at a;exact a)⟩⟩⟩;have kA:=Lh k;have jJ:=Lh c;clear lM iF iD lL lZ lK iB k f g c;go_wp2_with fail;rw[Xaf,<- jJ.o];exact ϖ (Xa0 (p:=4) (u:=5) rfl kA.o _ rfl rfl) rfl lN.o