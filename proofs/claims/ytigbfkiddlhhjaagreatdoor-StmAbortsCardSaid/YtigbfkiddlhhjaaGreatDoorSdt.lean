import Derived.Test.YtigbfkiddlhhjaaGreatDoorThu
set_option linter.all false
open Go renaming World→Ϣ,Value→ϒ
open Option renaming some→ς
open Go.Value renaming slice→σ
open Go.Obj renaming cells→χ
namespace Go.Proofs.YtigbfkiddlhhjaaGreatDoor
open Go.RowKit
variable {e T e2:TypeId} {α β:Type} {S:Nat->Prop} {c c' c1:A1} {w w' w1:Ϣ} {P:Ϣ->ϒ->Prop} {u v:ϒ} {tag j sz bt n k b cap i n2 sz2 o:Nat} {vs:List ϒ} {l:List α} {f:α->List β} {E:Ϣ->Nat->Nat->α->Prop}
inductive LeafK where
 | p (x:ϒ)
 | q (e:TypeId) (sz:Nat) (xs:List ϒ)
 | i (P:Ϣ->ϒ->Prop)
inductive CellK where
 | p (x:ϒ)
 | r (e:TypeId) (sz:Nat) (xs:List LeafK)
 | i (P:Ϣ->ϒ->Prop)
def MonoP (P:Ϣ->ϒ->Prop):Prop:=∀ w w' v,w.heap.size<=w'.heap.size->JT w w'->P w v->P w' v
def LeafAt (w:Ϣ) (c:A1) (tag:Nat) (u:ϒ):LeafK->Prop
 | .p x=>u=x
 | .q e sz xs=>∃ n,Ao w c tag e sz u n xs
 | .i P=>MonoP P/\P (mask w c) u
def okLeaf (S:Nat->Prop) (tag:Nat):LeafK->Prop
 | .q _ _ _=>¬S tag
 | _=>True
def mono_keep (a:AT S c c' w w') (h:MonoP P/\P (mask w c) u):MonoP P/\P (mask w' c') u:=
 ⟨h.1,h.1 _ _ _ (by rw [Hk,Hk];exact a.size) a.sub h.2⟩
def LeafAt.kp (a:AT S c c' w w') {x:LeafK} (h:LeafAt w c tag u x) (b:okLeaf S tag x):LeafAt w' c' tag u x:=by
 cases x with
 | p x=>exact h
 | q e sz xs=>obtain ⟨n,h⟩:=h;exact ⟨n,h.kp a b⟩
 | i P=>exact mono_keep a h
def RowLf (w:Ϣ) (c:A1) (j:Nat) (u:ϒ) (e:TypeId) (sz:Nat) (xs:List LeafK):Prop:=
 ∃ n vs,Ao w c (20+j) e sz u n vs/\vs.length=xs.length/\∀ i y x,vs[i]?=ς y->xs[i]?=ς x->LeafAt w c (100+16*i+j) y x
def CellAt (w:Ϣ) (c:A1) (j:Nat) (u:ϒ):CellK->Prop
 | .p x=>u=x
 | .r e sz xs=>RowLf w c j u e sz xs
 | .i P=>MonoP P/\P (mask w c) u
def okRow (S:Nat->Prop) (j:Nat) (xs:List LeafK):Prop:=∀ i x,xs[i]?=ς x->okLeaf S (100+16*i+j) x
def okCell (S:Nat->Prop) (j:Nat):CellK->Prop
 | .r _ _ xs=>¬S (20+j)/\okRow S j xs
 | _=>True
variable {xs:List LeafK}
def RowLf.kp (b:AT S c c' w w') (h:RowLf w c j u e sz xs) (d:¬S (20+j)) (f:okRow S j xs):RowLf w' c' j u e sz xs:=by
 obtain ⟨n,vs,h,g,k⟩:=h;exact ⟨n,vs,h.kp b d,g,λi y x l a=>(k i y x l a).kp b (f i x a)⟩
variable {x:CellK}
def CellAt.kp (a:AT S c c' w w') (h:CellAt w c j u x) (b:okCell S j x):CellAt w' c' j u x:=by
 cases x with
 | p x=>exact h
 | r e sz xs=>exact RowLf.kp a h b.1 b.2
 | i P=>exact mono_keep a h
def GVals (w:Ϣ) (c:A1) (vs:List ϒ) (g:List CellK):Prop:=vs.length=g.length/\g.length<=16/\∀ j y x,vs[j]?=ς y->g[j]?=ς x->CellAt w c j y x
def GStAt (w:Ϣ) (c:A1) (T:TypeId) (bt:Nat) (g:List CellK):Prop:=(∀ b,(w:Nat)<=b->c b=0)/\c bt=1/\∃ vs,w.heap[bt]?=ς (χ vs.toArray T (0,0))/\GVals w c vs g
def okAll (S:Nat->Prop) (g:List CellK):Prop:=∀ j x,g[j]?=ς x->okCell S j x
variable {g:List CellK}
def GVals.kp (b:AT S c c' w w') (h:GVals w c vs g) (d:okAll S g):GVals w' c' vs g:=
 ⟨h.1,h.2.1,λj y x e a=>(h.2.2 j y x e a).kp b (d j x a)⟩
def GStAt.lt (h:GStAt w c T bt g):bt<w:=by
 obtain ⟨_,_,vs,h,_⟩:=h;exact (La h)
def GStAt.frz (h:GStAt w c T bt g) (j:Nat):w.frozen? (π bt j)=false:=by
 obtain ⟨_,_,vs,h,_⟩:=h;exact Fz h
def GStAt.kp (a:AT S c c' w w') (h:GStAt w c T bt g) (d:∀ b,(w':Nat)<=b->c' b=0) (f:¬S 1) (j:okAll S g):GStAt w' c' T bt g:=by
 have e:=h.lt;obtain ⟨_,k,vs,i,l⟩:=h;exact ⟨d,by rw [a.old _ e];exact k,vs,by rw [a.kp _ e (by rw [k];exact f)];exact i,l.kp a j⟩
def okAll_of (h:∀ t,20<=t->¬S t):okAll S g:=λj x _=>by
 cases x with
 | p x=>exact trivial
 | r e sz xs=>exact ⟨h _ ω,λi x _=>by cases x<;>first|exact trivial|exact h _ ω⟩
 | i P=>exact trivial
def GStAt.chg (h:GStAt w c T bt g) (f:AT S c c' w w') (a:∀ b,(w':Nat)<=b->c' b=0) (d:∀ t,S t->t=14):GStAt w' c' T bt g:=
 h.kp f a (λe=>absurd (d _ e) ω) (okAll_of λt i e=>by have:=d _ e;omega)
def GStAt.grow (h:GStAt w c T bt g) (a:Below w w w'):GStAt w' c T bt g:=
 h.chg (AT.ob (T:=NO) a (no 0)) (λb d=>h.1 b (Nt a.size d)) (λt e=>e.elim)
def GStAt.len (h:GStAt w c T bt g):g.length<=16:=by
 obtain ⟨_,_,vs,_,h⟩:=h;exact h.2.1
def GStAt.at0 (h:GStAt w c T bt g) (a:g[j]?=ς x):∃ u,w.cell? (π bt j)=ς u/\CellAt w c j u x:=by
 obtain ⟨_,_,vs,d,i,_,e⟩:=h;obtain ⟨f,_⟩:=List.getElem?_eq_some_iff.1 a;have b:vs[j]?=ς (vs[j]'ω):=Lg ω;exact ⟨_,by rw [cell_of_row _ _ _ _ _ _ d];simpa using b,e j _ x b a⟩
def GStAt.p0 (h:GStAt w c T bt g) {x:ϒ} (b:g[j]?=ς (.p x)):w.cell? (π bt j)=ς x:=by
 obtain ⟨u,a,rfl⟩:=h.at0 b;exact a
def len_of {m:Nat} (h:Ao w c tag e sz u n vs) (b:vs.length=m*sz) (a:0<sz):n=m:=
 Nat.eq_of_mul_eq_mul_right a (h.1.1.symm.trans b)
def GStAt.at1 (h:GStAt w c T bt g) (d:g[j]?=ς (.r e sz xs)) (m:xs.length=n*sz) (k:0<sz) :
  ∃ a cap,w.cell? (π bt j)=ς (σ a n cap)/\n<=cap/\cap<=9223372036854775807/\(0<n->∃ b,a=ς (π b 0)/\c b=20+j/\b<(w:Nat)/\(∀ i,w.frozen? (π b i)=false)/\∀ i x,xs[i]?=ς x->∃ u,w.cell? (π b i)=ς u/\LeafAt w c (100+16*i+j) u x):=by
 obtain ⟨u,q,C,vs,f,l,r⟩:=h.at0 d;obtain rfl:=len_of f (by rw [l,m]) k;obtain ⟨a,cap,rfl,t,v⟩:=f.form;refine ⟨a,cap,q,t,v,λs=>?_⟩;have p:0<vs.length:=by rw [l,m];exact Nat.mul_pos s k
 obtain ⟨b,rfl,y,z,A,B⟩:=f.pos (Lg p);refine ⟨b,rfl,y,z,B,λi x d=>?_⟩;have o:vs[i]?=ς (vs[i]'(by have:=(Ll d);omega)):=Lg _;exact ⟨_,A _ _ o,r i _ x o d⟩
def LeafAt.at2 {xs:List ϒ} (h:LeafAt w c tag u (.q e sz xs)) (g:xs.length=n*sz) (f:0<sz) :
  ∃ a cap,u=σ a n cap/\n<=cap/\cap<=9223372036854775807/\Ao w c tag e sz (σ a n cap) n xs/\(0<n->∃ b,a=ς (π b 0)/\c b=tag/\b<(w:Nat)/\(∀ i,w.frozen? (π b i)=false)/\∀ i x,xs[i]?=ς x->w.cell? (π b i)=ς x):=by
 obtain ⟨s,d⟩:=h;obtain rfl:=len_of d g f;obtain ⟨a,cap,rfl,l,m⟩:=d.form;refine ⟨a,cap,rfl,l,m,d,λk=>?_⟩;have j:0<xs.length:=by rw [g];exact Nat.mul_pos k f
 obtain ⟨b,rfl,o,p,q,r⟩:=d.pos (Lg j);exact ⟨b,rfl,o,p,r,q⟩
def get_set {x y:α} (h:(l.set j x)[k]?=ς y):(k=j/\y=x/\j<l.length)\/(k≠j/\l[k]?=ς y):=by
 by_cases b:k=j
 .subst b
  have a:=(Ll h)
  rw [List.length_set] at a;rw [List.getElem?_set_self a] at h;exact .inl ⟨rfl,by simpa using h.symm,a⟩
 .rw [List.getElem?_set_ne (Ne.symm b)] at h
  exact .inr ⟨b,h⟩
def okAll_set (c:∀ k y,k≠j->g[k]?=ς y->okCell S k y) (d:okCell S j x):okAll S (g.set j x):=λk y a=>by
 rcases get_set a with ⟨rfl,rfl,_⟩|⟨b,a⟩
 .exact d
 .exact c k y b a
def GStAt.weak0 (h:GStAt w c T bt g) (a:w.cell? (π bt j)=ς u) (o:CellAt w c j u x):GStAt w c T bt (g.set j x):=by
 obtain ⟨i,l,vs,d,m,f,n⟩:=h;refine ⟨i,l,vs,d,by rw [List.length_set];exact m,by rw [List.length_set];exact f,λk y z e b=>?_⟩;rcases get_set b with ⟨rfl,rfl,_⟩|⟨p,b⟩
 .rw [cell_of_row _ _ _ _ _ _ d] at a
  rw [List.getElem?_toArray] at a;have:y=u:=Option.some.inj (e.symm.trans a);rw [this];exact o
 .exact n k y z e b
def GStAt.put0 (h:GStAt w c T bt g) (A:CellAt w c j u x):GStAt (w.setCell (π bt j) u) c T bt (g.set j x)/\AT (λt=>t=1) c c w (w.setCell (π bt j) u):=by
 obtain ⟨q,m,vs,f,s,o,v⟩:=h;have d:AT (λt=>t=1) c c w (w.setCell (π bt j) u):=AT.set m ω;have n:∀ (k:Nat) (x:CellK),okCell (λt=>t=1) k x:=λk x=>by
  cases x with
  | p x=>exact trivial
  | r e sz xs=>exact ⟨ω,λi x _=>by cases x<;>first|exact trivial|(show ¬_=1;omega)⟩
  | i P=>exact trivial
 refine ⟨⟨λb f=>q b (by simpa using f),m,vs.set j u,?_,by simpa using s,by simpa using o,λk y z a l=>?_⟩,d⟩
 .rw [heap_setCell_same _ _ _ _ _ _ f];simp
 .rcases get_set l with ⟨rfl,rfl,aC⟩|⟨aB,l⟩
  .rw [List.getElem?_set_self ω] at a
   cases a;exact A.kp d (n _ _)
  .rw [List.getElem?_set_ne (Ne.symm aB)] at a
   exact (v k y z a l).kp d (n _ _)
def okLeaf_lt (a:∀ i,¬S (100+16*i+j)):okRow S j xs:=λi x _=>by cases x<;>first|exact trivial|exact a i
def GStAt.put1 (h:GStAt w c T bt g) {x:LeafK} (B:g[j]?=ς (.r e sz xs)) (s:w.cell? (π bt j)=ς (σ (ς (π b 0)) n cap)) (G:LeafAt w c (100+16*i+j) u x) :
  GStAt (w.setCell (π b i) u) c T bt (g.set j (.r e sz (xs.set i x)))/\AT (λt=>t=20+j) c c w (w.setCell (π b i) u):=by
 have O:=(Ll B)
 have M:=h.len;obtain ⟨L,E,K,vs,q,J,D⟩:=h.at0 B;obtain rfl:L=σ (ς (π b 0)) n cap:=by simpa using E.symm.trans s
 obtain ⟨a,C,I,-,-⟩:=q.form;obtain ⟨-,rfl,-⟩:ς ((π b 0):Addr)=a/\n=K/\cap=C:=by simpa using I
 have l:c b=20+j:=q.2.1 b (by simp [Value.ownBlock]);have m:b≠bt:=λe=>by have:=h.2.1;rw [<-e,l] at this;omega
 have f:AT (λt=>t=20+j) c c w (w.setCell (π b i) u):=AT.set l ω;have F:=(h.weak0 (x:=.p _) s rfl).kp f (λb l=>h.1 b (by simpa using l)) ω (okAll_set (λk y o d=>by
  have:=(Ll d)
  cases y with
  | p x=>exact trivial
  | r e sz xs=>exact ⟨ω,okLeaf_lt λi=>by omega⟩
  | i P=>exact trivial) trivial)
 have H:CellAt (w.setCell (π b i) u) c j (σ (ς (π b 0)) n cap) (.r e sz (xs.set i x)):=by
  refine ⟨n,vs.set i u,q.put i u,by simpa using J,λk y z d v=>?_⟩;have o:∀ (z:LeafK),okLeaf (λt=>t=20+j) (100+16*k+j) z:=λz=>by cases z<;>first|exact trivial|(show ¬_=20+j;omega)
  rcases get_set v with ⟨rfl,rfl,N⟩|⟨m,v⟩
  .rw [List.getElem?_set_self ω] at d
   cases d;exact G.kp f (o _)
  .rw [List.getElem?_set_ne (Ne.symm m)] at d
   exact (D k y z d v).kp f (o _)
 have A:=F.weak0 (x:=.r e sz (xs.set i x)) (by rw [World.cell?_setCell_other _ _ _ _ (by simp;exact λe=>absurd e m)];exact s) H;rw [List.set_set] at A;exact ⟨A,f⟩
def GStAt.weak1 (h:GStAt w c T bt g) {x:LeafK} (B:g[j]?=ς (.r e sz xs)) (m:w.cell? (π bt j)=ς (σ (ς (π b 0)) n cap)) (v:w.cell? (π b i)=ς u) (s:LeafAt w c (100+16*i+j) u x) :
  GStAt w c T bt (g.set j (.r e sz (xs.set i x))):=by
 obtain ⟨C,r,o,vs,d,A,p⟩:=h.at0 B;obtain rfl:C=σ (ς (π b 0)) n cap:=by simpa using r.symm.trans m
 refine h.weak0 m ⟨o,vs,d,by simpa using A,λk y z f l=>?_⟩;rcases get_set l with ⟨rfl,rfl,D⟩|⟨E,l⟩
 .obtain ⟨a,aA,he,-,-⟩:=d.form
  obtain ⟨-,rfl,rfl⟩:ς ((π b 0):Addr)=a/\n=o/\cap=aA:=by simpa using he
  obtain ⟨F,q,_,_,t,_⟩:=d.pos f;cases q;have:y=u:=by simpa using (t _ _ f).symm.trans v
  rw [this];exact s
 .exact p k y z f l
variable {y:LeafK}
def GStAt.but2 (h:GStAt w c T bt g) (m:g[j]?=ς (.r e sz xs)) (l:w.cell? (π bt j)=ς (σ (ς (π b 0)) n cap)) (o:w.cell? (π b i)=ς u) (a:xs[i]?=ς y)
  (d:AT (λt=>t=100+16*i+j) c c' w w') (f:∀ b,(w':Nat)<=b->c' b=0) :
  GStAt w' c' T bt (g.set j (.r e sz (xs.set i (.p u))))/\w'.cell? (π bt j)=ς (σ (ς (π b 0)) n cap)/\w'.cell? (π b i)=ς u:=by
 have C:=(Ll m)
 have A:=h.len;obtain ⟨z,q,F,vs,v,E,B⟩:=h.at0 m;obtain rfl:z=σ (ς (π b 0)) n cap:=by simpa using q.symm.trans l
 have s:c b=20+j:=v.2.1 b (by simp [Value.ownBlock]);refine ⟨(h.weak1 (x:=.p u) m l o rfl).kp d f ω (okAll_set (λk y D a=>?_) ⟨ω,λk y a=>?_⟩),d.cell l (by rw [show c ((π bt j):Addr).block=1 from h.2.1];omega),d.cell o (by rw [show c ((π b i):Addr).block=20+j from s];omega)⟩
 .have:=(Ll a)
  cases y with
  | p x=>exact trivial
  | r e sz xs=>exact ⟨ω,okLeaf_lt λi=>by omega⟩
  | i P=>exact trivial
 .rcases get_set a with ⟨rfl,rfl,aD⟩|⟨aE,hz⟩
  .exact trivial
  .cases y<;>first|exact trivial|(show ¬_=100+16*i+j;omega)
def GStAt.put2 (h:GStAt w c T bt g) {f d:Nat} {l:List ϒ} (r:g[j]?=ς (.r e sz xs)) (E:w.cell? (π bt j)=ς (σ (ς (π b 0)) n cap)) (C:w.cell? (π b i)=ς (σ (ς (π f 0)) n2 d)) (F:xs[i]?=ς (.q e2 sz2 l))
  (A:LeafAt w c (100+16*i+j) (σ (ς (π f 0)) n2 d) (.q e2 sz2 l)) :
  GStAt (w.setCell (π f k) u) c T bt (g.set j (.r e sz (xs.set i (.q e2 sz2 (l.set k u)))))/\AT (λt=>t=100+16*i+j) c c w (w.setCell (π f k) u):=by
 have D:=(Ll r)
 obtain ⟨G,o⟩:=A;obtain ⟨a,s,B,-,-⟩:=o.form;obtain ⟨-,rfl,-⟩:ς ((π f 0):Addr)=a/\n2=G/\d=s:=by simpa using B
 have m:c f=100+16*i+j:=o.2.1 f (by simp [Value.ownBlock]);have q:AT (λt=>t=100+16*i+j) c c w (w.setCell (π f k) u):=AT.set m ω;obtain ⟨v,y,z⟩:=h.but2 r E C F q (λb m=>h.1 b (by simpa using m));have p:=v.weak1 (x:=.q e2 sz2 (l.set k u)) (List.getElem?_set_self D) y z ⟨n2,o.put k u⟩;rw [List.set_set,List.set_set] at p;exact ⟨p,q⟩
def GStAt.but1 (h:GStAt w c T bt g) (a:g[j]?=ς (.r e sz xs)) (o:w.cell? (π bt j)=ς u)
  (m:AT (λt=>t=20+j) c c' w w') (d:∀ b,(w':Nat)<=b->c' b=0) :
  GStAt w' c' T bt (g.set j (.p u))/\∃ n vs,Ao w c (20+j) e sz u n vs/\vs.length=xs.length/\(∀ i y x,vs[i]?=ς y->xs[i]?=ς x->LeafAt w c (100+16*i+j) y x)/\∀ i y x,vs[i]?=ς y->xs[i]?=ς x->LeafAt w' c' (100+16*i+j) y x:=by
 have C:=(Ll a)
 have B:=h.len;obtain ⟨q,s,A,vs,z,v,l⟩:=h.at0 a;obtain rfl:q=u:=by simpa using s.symm.trans o
 refine ⟨(h.weak0 (x:=.p q) o rfl).kp m d ω (okAll_set (λk y D f=>?_) trivial),A,vs,z,v,l,λi y x f a=>(l i y x f a).kp m ?_⟩
 .have:=(Ll f)
  cases y with
  | p x=>exact trivial
  | r e sz xs=>exact ⟨ω,okLeaf_lt λi=>by omega⟩
  | i P=>exact trivial
 .cases x<;>first|exact trivial|(show ¬_=20+j;omega)
def flat_at :∀ {l:List α} {i:Nat} {x:α} (_:∀ x,(f x).length=sz) (_:l[i]?=ς x) (j:Nat) (v:β),(f x)[j]?=ς v->(l.flatMap f)[i*sz+j]?=ς v
 | [],_,_,_,h,_,_,_=>by simp at h
 | y::l,0,x,hf,h,j,v,hv=>by simp at h;subst h;rw [List.flatMap_cons,Nat.zero_mul,Nat.zero_add,Al ((Ll hv))];exact hv
 | y::l,i+1,x,hf,h,j,v,hv=>by
  rw [List.flatMap_cons,Ar (by rw [hf,Nat.add_mul];omega),hf];have e:(i+1)*sz+j - sz=i*sz+j:=by rw [Nat.add_mul];omega
  rw [e];exact flat_at hf (by simpa using h) j v hv
def flat_len (a:∀ x,(f x).length=sz):∀ l:List α,(l.flatMap f).length=l.length*sz
 | []=>by simp
 | y::l=>by rw [List.flatMap_cons,List.length_append,a,flat_len a l,List.length_cons,Nat.add_mul];omega
def flat_set :∀ {l:List α} {i:Nat} {x x':α} (_:∀ x,(f x).length=sz) (_:l[i]?=ς x) (j:Nat) (v:β),j<sz->(f x).set j v=f x'->(l.flatMap f).set (i*sz+j) v=(l.set i x').flatMap f
 | [],_,_,_,_,h,_,_,_,_=>by simp at h
 | y::l,0,x,x',hf,h,j,v,hj,hv=>by simp at h;subst h;rw [List.flatMap_cons,Nat.zero_mul,Nat.zero_add,List.set_append_left _ _ (by rw [hf];exact hj),hv];rfl
 | y::l,i+1,x,x',hf,h,j,v,hj,hv=>by
  rw [List.flatMap_cons,List.set_append_right _ _ (by rw [hf,Nat.add_mul];omega),hf];have e:(i+1)*sz+j - sz=i*sz+j:=by rw [Nat.add_mul];omega
  rw [e,flat_set hf (by simpa using h) j v hj hv];rfl
def over {α:Type} (xs:List α) (o:Nat):List α->List α
 | []=>xs
 | y::ys=>over (xs.set o y) (o+1) ys
def over_left :∀ (c a b:List α) (o:Nat),o+c.length<=a.length->over (a++b) o c=over a o c++b
 | [],_,_,_,_=>rfl
 | y::c,a,b,o,h=>by unfold over;simp only [List.length_cons] at h;rw [List.set_append_left _ _ ω,over_left c _ _ _ (by rw [List.length_set];omega)]
def over_right :∀ (c a b:List α) (o:Nat),over (a++b) (a.length+o) c=a++over b o c
 | [],_,_,_=>rfl
 | y::c,a,b,o=>by unfold over;rw [List.set_append_right _ _ ω,show a.length+o - a.length=o by omega,Nat.add_assoc,over_right c]
def over_all :∀ (c a b:List α),a.length=c.length->over (a++b) 0 c=c++b:=by
 have d:∀ (c p a b:List α),a.length=c.length->over (p++(a++b)) p.length c=p++(c++b):=by
  intro c;induction c with
  | nil=>intro p a b h;obtain rfl:=List.eq_nil_of_length_eq_zero h;rfl
  | cons y c f=>
   intro p a b h;cases a with
   | nil=>simp at h
   | cons a e=>unfold over;rw [List.set_append_right _ _ (Nr _),Nat.sub_self];have:=f (p++[y]) e b (by simpa using h);simp only [List.append_assoc,List.cons_append,List.nil_append,List.length_append,List.length_singleton] at this;exact this
 intro c a b h;exact d c [] a b h
def flat_over :∀ {l:List α} {i:Nat} {x x':α} (_:∀ x,(f x).length=sz) (_:l[i]?=ς x) (k:Nat) (ys:List β),k+ys.length<=sz->over (f x) k ys=f x'->over (l.flatMap f) (i*sz+k) ys=(l.set i x').flatMap f
 | [],_,_,_,_,h,_,_,_,_=>by simp at h
 | y::l,0,x,x',hf,h,k,ys,hk,hv=>by simp at h;subst h;rw [List.flatMap_cons,Nat.zero_mul,Nat.zero_add,over_left _ _ _ _ (by rw [hf];exact hk),hv];rfl
 | y::l,i+1,x,x',hf,h,k,ys,hk,hv=>by
  have e:(i+1)*sz+k=(f y).length+(i*sz+k):=by rw [hf,Nat.add_mul];omega
  rw [List.flatMap_cons,e,over_right,flat_over hf (by simpa using h) k ys hk hv];rfl
def putsW (w:Ϣ) (b o:Nat):List ϒ->Ϣ
 | []=>w
 | u::us=>putsW (w.setCell (π b o) u) b (o+1) us
def puts13 (w:Ϣ) (b o:Nat) (v0 v1 v2 v3 v4 v5 v6 v7 v8 v9 a c d:ϒ):(((((((((((((w.setCell (π b o) v0).setCell (π b (o+1)) v1).setCell (π b (o+2)) v2).setCell (π b (o+3)) v3).setCell (π b (o+4)) v4).setCell (π b (o+5)) v5).setCell (π b (o+6)) v6).setCell (π b (o+7)) v7).setCell (π b (o+8)) v8).setCell (π b (o+9)) v9).setCell (π b (o+10)) a).setCell (π b (o+11)) c).setCell (π b (o+12)) d)=putsW w b o [v0,v1,v2,v3,v4,v5,v6,v7,v8,v9,a,c,d]:=rfl
def puts9 (w:Ϣ) (b o:Nat) (v0 v1 v2 v3 v4 v5 v6 v7 v8:ϒ):(((((((((w.setCell (π b o) v0).setCell (π b (o+1)) v1).setCell (π b (o+2)) v2).setCell (π b (o+3)) v3).setCell (π b (o+4)) v4).setCell (π b (o+5)) v5).setCell (π b (o+6)) v6).setCell (π b (o+7)) v7).setCell (π b (o+8)) v8)=putsW w b o [v0,v1,v2,v3,v4,v5,v6,v7,v8]:=rfl
def putsW_size:∀ (a:List ϒ) (w:Ϣ) (b o:Nat),(putsW w b o a).heap.size=(w:Nat)
 | [],_,_,_=>rfl
 | u::a,w,b,o=>by unfold putsW;rw [putsW_size a];simp
def puts_chg (h:S (c b)) (a:¬S 0):∀ (d:List ϒ) (w:Ϣ) (o:Nat),AT S c c w (putsW w b o d)
 | [],w,_=>AT.mono (AT.ob (T:=NO) (Below.refl _ w) (no 0)) (λ_ h=>h.elim) a
 | u::d,w,o=>(AT.set h a).trans (puts_chg h a d _ (o+1))
def GStAt.puts1 :∀ (d:List ϒ) (a:List LeafK) {w:Ϣ} {g:List CellK} {xs:List LeafK} (o:Nat),GStAt w c T bt g->g[j]?=ς (.r e sz xs)->w.cell? (π bt j)=ς (σ (ς (π b 0)) n cap)->d.length=a.length->
  (∀ k u y,d[k]?=ς u->a[k]?=ς y->LeafAt w c (100+16*(o+k)+j) u y)->GStAt (putsW w b o d) c T bt (g.set j (.r e sz (over xs o a)))
 | [],a,w,g,xs,o,h,hx,f,hl,hL=>by
  obtain rfl:a=[]:=List.eq_nil_of_length_eq_zero hl.symm;have l:=(Ll hx)
  have:g.set j (.r e sz xs)=g:=by
   apply List.ext_getElem?;intro k;by_cases q:k=j
   .subst q;rw [List.getElem?_set_self l,hx]
   .rw [List.getElem?_set_ne (Ne.symm q)]
  show GStAt w c T bt (g.set j (.r e sz xs));rw [this];exact h
 | u::d,[],_,_,_,_,_,_,_,hl,_=>by simp at hl
 | u::d,y::a,w,g,xs,o,h,hx,f,hl,hL=>by
  have l:=(Ll hx)
  have m:=hL 0 u y rfl rfl;rw [Nat.add_zero] at m;obtain ⟨r,p⟩:=h.put1 (i:=o) hx f m;have s:c ((π bt j):Addr).block=1:=h.2.1;have:=GStAt.puts1 d a (o+1) r (List.getElem?_set_self l) (p.cell f (by rw [s];omega)) (by simpa using hl) (λk u y f t=>by
   have:=hL (k+1) u y (by simpa using f) (by simpa using t);rw [show o+(k+1)=o+1+k by omega] at this;exact this.kp p (by cases y<;>first|exact trivial|(show ¬_=20+j;have:=h.len;omega)))
  rw [List.set_set] at this;exact this
def GStAt.app2 (h:GStAt w c T bt g) {d:List ϒ} (l:g[j]?=ς (.r e sz xs)) (A:w.cell? (π bt j)=ς (σ (ς (π b 0)) n cap)) (q:w.cell? (π b i)=ς u) (B:xs[i]?=ς y)
  (k:AT (λt=>t=100+16*i+j) c c1 w w1) (a:∀ b,(w1:Nat)<=b->c1 b=0) (s:Ao w1 c1 (100+16*i+j) e2 sz2 v n2 d) :
  GStAt (w1.setCell (π b i) v) c1 T bt (g.set j (.r e sz (xs.set i (.q e2 sz2 d))))/\AT (λt=>20<=t) c c1 w (w1.setCell (π b i) v):=by
 have r:=(Ll l)
 obtain ⟨m,o,C⟩:=h.but2 l A q B k a;obtain ⟨f,p⟩:=m.put1 (i:=i) (x:=.q e2 sz2 d) (List.getElem?_set_self r) o ⟨n2,s⟩;rw [List.set_set,List.set_set] at f;exact ⟨f,(k.mono (λt z=>by omega) ω).trans (p.mono (λt z=>by omega) ω)⟩
def GStAt.push1 (h:GStAt w c T bt g) (m:List LeafK) {z:Nat} {l:List ϒ} (a:g[j]?=ς (.r e sz xs)) (H:w.cell? (π bt j)=ς u) (G:Ao w c (20+j) e sz u n vs)
  (d:vs.length=xs.length) (p:∀ i y x,vs[i]?=ς y->xs[i]?=ς x->LeafAt w c (100+16*i+j) y x) (o:AT (λt=>t=20+j) c c1 w w1) (q:∀ b,(w1:Nat)<=b->c1 b=0) (F:Ao w1 c1 (20+j) e sz v z (vs++l)) (hl:l.length=m.length) (C:∀ k u y,l[k]?=ς u->m[k]?=ς y->LeafAt w1 c1 (100+16*(xs.length+k)+j) u y) :
  GStAt (w1.setCell (π bt j) v) c1 T bt (g.set j (.r e sz (xs++m)))/\AT (λt=>t=1\/t=20+j) c c1 w (w1.setCell (π bt j) v):=by
 have I:=Nl (Ll a) h.len;obtain ⟨A,_⟩:=h.but1 a H o q;have D:CellAt w1 c1 j v (.r e sz (xs++m)):=by
  refine ⟨z,vs++l,F,by simp [d,hl],λi y x f a=>?_⟩;by_cases E:i<vs.length
  .rw [Al E] at f
   rw [Al ω] at a;exact (p i y x f a).kp o (by cases x<;>first|exact trivial|(show ¬_=20+j;omega))
  .rw [Ar ω] at f
   rw [Ar ω] at a;have:=C (i - vs.length) y x f (by rw [d];exact a);rw [show xs.length+(i - vs.length)=i by omega] at this;exact this
 obtain ⟨s,B⟩:=A.put0 D;rw [List.set_set] at s;exact ⟨s,(o.mono (λt r=>.inr r) ω).trans (B.mono (λt r=>.inl r) ω)⟩
def GStAt.row1 (h:GStAt w c T bt g) (o:g[j]?=ς (.r e sz xs)) (m:xs.length=n*sz) (f:0<sz) :
  ∃ a cap vs,w.cell? (π bt j)=ς (σ a n cap)/\Ao w c (20+j) e sz (σ a n cap) n vs/\vs.length=xs.length/\∀ i y x,vs[i]?=ς y->xs[i]?=ς x->LeafAt w c (100+16*i+j) y x:=by
 obtain ⟨u,k,r,vs,b,d,l⟩:=h.at0 o;obtain rfl:=len_of b (by rw [d,m]) f;obtain ⟨a,cap,rfl,p,q⟩:=b.form;exact ⟨a,cap,vs,k,b,d,l⟩
structure Trx where
 run:AV
 start:Int
 N:Int
 reads:List (Int×Int)
 writes:List (Int×Int×Int)
structure Tra where
 M:Mm
 vers:List (List Int)
 clock:Int
 Y:Int
 active:List Trx
 A:List (List Bi)
 results:List (List CD)
 Z:List (List Int)
 P:List (List Int)
 order:List (Int×Int)
 aborts:Int
 U:Int
def zeroX:Trx:=⟨AI,0,0,[],[]⟩
def rdL (r:Int×Int):List ϒ:=[ι r.1,ι r.2]
def wrL (r:Int×Int×Int):List ϒ:=[ι r.1,ι r.2.1,ι r.2.2]
def fraP (l:List AY) (w:Ϣ) (v:ϒ):Prop:=AE w w 4 (CK w) v l
def calP (l:List Bi) (w:Ϣ) (v:ϒ):Prop:=AE w w 2 (DA w) v l
def fraP_mono (l:List AY):MonoP (fraP l):=λ_ _ _ a b h=>h.ups Dx a b
def calP_mono (l:List Bi):MonoP (calP l):=λ_ _ _ a b h=>h.ups Hd a b
def intQ (l:List Int):LeafK:=.q 3 1 (l.map (Value.int .i64))
def outQ (l:List CD):LeafK:=.q 114 5 (Dk l)
def machLf (m:AV):List LeafK:=[.i (fraP m.J),.p (ι m.Q.K),.p (ι m.Q.O),.p (ι m.Q.D),.p (ι m.Q.V),.p (ι m.Q.X),.p (ι m.Y),.p (ι m.C),.p (ι m.I)]
def trxL (x:Trx):List LeafK:=machLf x.run++[.p (ι x.start),.p (ι x.N),.q 85 2 (x.reads.flatMap rdL),.q 120 3 (x.writes.flatMap wrL)]
def nodL (x:Gl):List LeafK:=[.p (ι x.type),intQ x.f]
def ordL (o:Int×Int):List LeafK:=[.p (ι o.1),.p (ι o.2)]
def traG (s:Tra):List CellK:=[.r 3 1 (s.M.G.map λn=>.p (ι n)),.r 72 2 (s.M.N.flatMap nodL),.r 22 1 (s.vers.map intQ),.p (ι s.clock),.p (ι s.Y),
 .r 62 13 (s.active.flatMap trxL),.r 65 1 (s.A.map λl=>.i (calP l)),.r 127 1 (s.results.map outQ),.r 22 1 (s.Z.map intQ),.r 22 1 (s.P.map intQ),.r 85 2 (s.order.flatMap ordL),.p (ι s.aborts),.p (ι s.U)]
def RdE (w:Ϣ) (b o:Nat) (r:Int×Int):Prop:=w.cell? (π b o)=ς (ι r.1)/\w.cell? (π b (o+1))=ς (ι r.2)
def WrE (w:Ϣ) (b o:Nat) (r:Int×Int×Int):Prop:=w.cell? (π b o)=ς (ι r.1)/\w.cell? (π b (o+1))=ς (ι r.2.1)/\w.cell? (π b (o+2))=ς (ι r.2.2)
def TrxE (B:Nat) (w:Ϣ) (b o:Nat) (x:Trx):Prop:=
 Ht B w b o x.run/\w.cell? (π b (o+9))=ς (ι x.start)/\w.cell? (π b (o+10))=ς (ι x.N)/\Bg 2 RdE B w b (o+11) x.reads/\Bg 3 WrE B w b (o+12) x.writes
def ups_rd:Tl (λ_=>RdE):=λ_ _ _ _ _ _ _ _ a h=>⟨a _ _ h.1,a _ _ h.2⟩
def ups_wr:Tl (λ_=>WrE):=λ_ _ _ _ _ _ _ _ a h=>⟨a _ _ h.1,a _ _ h.2.1,a _ _ h.2.2⟩
def ups_trx:Tl TrxE:=λB d w w' b o x c a h=>
 ⟨WT _ _ _ _ _ _ _ c a h.1,a _ _ h.2.1,a _ _ h.2.2.1,Il (E:=λ_=>RdE) ups_rd _ _ _ _ _ _ _ c a h.2.2.2.1,Il (E:=λ_=>WrE) ups_wr _ _ _ _ _ _ _ c a h.2.2.2.2⟩
def TraVs (B:Nat) (w:Ϣ) (vs:List ϒ) (s:Tra):Prop:=
 ∃ gv nv vv av cv ov bv ev dv,vs=[gv,nv,vv,ι s.clock,ι s.Y,av,cv,ov,bv,ev,dv,ι s.aborts,ι s.U]/\AE B w 1 Aj gv s.M.G/\AE B w 2 (GP B) nv s.M.N/\AE B w 1 (Bg 1 Aj B) vv s.vers/\
  AE B w 13 (TrxE B) av s.active/\AE B w 1 (Bg 2 (DA B) B) cv s.A/\AE B w 1 (Bg 5 FM B) ov s.results/\AE B w 1 (Bg 1 Aj B) bv s.Z/\AE B w 1 (Bg 1 Aj B) ev s.P/\AE B w 2 RdE dv s.order
variable {s:Tra}
def TraVs.ups {B c:Nat} (a:B<=c) (b:JT w w') (h:TraVs B w vs s):TraVs c w' vs s:=by
 obtain ⟨k,v,y,e,g,x,f,j,i,l,m,n,o,p,q,r,t,u,d⟩:=h;exact ⟨k,v,y,e,g,x,f,j,i,l,m.ups B5 a b,n.ups WU a b,o.ups (Il (E:=λ_=>Aj) B5) a b,p.ups ups_trx a b,q.ups (Il Hd) a b,r.ups (Il (E:=λ_=>FM) WV) a b,t.ups (Il (E:=λ_=>Aj) B5) a b,u.ups (Il (E:=λ_=>Aj) B5) a b,d.ups (E:=λ_=>RdE) ups_rd a b⟩
structure TraWf (s:Tra):Prop where
 G:∀ n∈s.M.G,in64 n
 N:∀ x∈s.M.N,in64 x.type/\∀ n∈x.f,in64 n
 vers:∀ l∈s.vers,∀ n∈l,in64 n
 active:∀ x∈s.active,GC x.run
 results:∀ l∈s.results,∀ x∈l,Q9 x
 Z:∀ l∈s.Z,∀ n∈l,in64 n
 P:∀ l∈s.P,∀ n∈l,in64 n
def leafInts {l:List Int} (h:LeafAt w c tag u (intQ l)) (a:∀ n∈l,in64 n):AE w w 1 Aj u l:=by
 obtain ⟨n,h⟩:=h;obtain rfl:=len_of h (m:=l.length) ψ ω;exact Dq.reads ⟨h,a⟩
def leafOuts {l:List CD} (h:LeafAt w c tag u (outQ l)) (a:∀ x∈l,Q9 x):AE w w 5 FM u l:=by
 obtain ⟨n,h⟩:=h;obtain rfl:=len_of h (m:=l.length) (flat_len (f:=Dw) (sz:=5) (λ_=>rfl) l) ω;exact Hz.reads ⟨h,a⟩
def rowReads {f:α->List LeafK} (h:RowLf w c j u e sz (l.flatMap f)) (d:∀ x,(f x).length=sz) (q:0<sz)
  (t:∀ i x g,l[i]?=ς x->(∀ k y,(f x)[k]?=ς y->∃ u,w.cell? (π g (i*sz+k))=ς u/\LeafAt w c (100+16*(i*sz+k)+j) u y)->E w g (i*sz) x):AE w w sz E u l:=by
 obtain ⟨n,vs,s,z,A⟩:=h;obtain rfl:=len_of s (by rw [z,flat_len d]) q;have p:∀ (i:Nat) x k y,l[i]?=ς x->(f x)[k]?=ς y->∃ u,vs[i*sz+k]?=ς u/\LeafAt w c (100+16*(i*sz+k)+j) u y:=λi x k y a o=>by
  have b:=flat_at d a k y o;have B:=(Ll b)
  have r:vs[i*sz+k]?=ς (vs[i*sz+k]'ω):=Lg _;exact ⟨_,r,A _ _ _ r b⟩
 refine s.reads (λi x a=>?_) (λi x g a v=>t i x g a λk y o=>?_)
 .have b:0<(f x).length:=by rw [d];exact q
  obtain ⟨u,m,_⟩:=p i x 0 _ a (Lg b);exact ⟨u,m⟩
 .obtain ⟨u,m,hL⟩:=p i x k y a o
  exact ⟨u,v _ _ m,hL⟩
def map_flat (l:List α) (f:α->LeafK):l.map f=l.flatMap λx=>[f x]:=by induction l<;>simp_all
def rowReads1 {f:α->LeafK} (h:RowLf w c j u e 1 (l.map f))
  (d:∀ i x g u,l[i]?=ς x->w.cell? (π g i)=ς u->LeafAt w c (100+16*i+j) u (f x)->E w g i x):AE w w 1 E u l:=by
 rw [map_flat] at h;refine rowReads h (λ_=>rfl) ω λi x g m k=>?_;obtain ⟨u,a,b⟩:=k 0 _ rfl;rw [Nat.mul_one] at *
 exact d i x g u m a b
def LeafAt.i_reads (h:LeafAt w c tag u (.i P)):P w u:=h.1 _ _ _ (by rw [Hk];exact Nr _) (JT.mask w c) h.2
def flat_sz2 (l:List (Int×Int)):(l.flatMap rdL).length=l.length*2:=flat_len (f:=rdL) (λ_=>rfl) l
def flat_sz3 (l:List (Int×Int×Int)):(l.flatMap wrL).length=l.length*3:=flat_len (f:=wrL) (λ_=>rfl) l
def leafRd {l:List (Int×Int)} (h:LeafAt w c tag u (.q e 2 (l.flatMap rdL))):AE w w 2 RdE u l:=by
 obtain ⟨n,h⟩:=h;obtain rfl:=len_of h (flat_sz2 l) ω;exact h.reads (λi x a=>⟨_,flat_at (f:=rdL) (sz:=2) (λ_=>rfl) a 0 _ rfl⟩) (λi x g a b=>⟨b _ _ (flat_at (f:=rdL) (sz:=2) (λ_=>rfl) a 0 _ rfl),b _ _ (flat_at (f:=rdL) (sz:=2) (λ_=>rfl) a 1 _ rfl)⟩)
def leafWr {l:List (Int×Int×Int)} (h:LeafAt w c tag u (.q e 3 (l.flatMap wrL))):AE w w 3 WrE u l:=by
 obtain ⟨n,h⟩:=h;obtain rfl:=len_of h (flat_sz3 l) ω;exact h.reads (λi x a=>⟨_,flat_at (f:=wrL) (sz:=3) (λ_=>rfl) a 0 _ rfl⟩) (λi x g a b=>⟨b _ _ (flat_at (f:=wrL) (sz:=3) (λ_=>rfl) a 0 _ rfl),b _ _ (flat_at (f:=wrL) (sz:=3) (λ_=>rfl) a 1 _ rfl),b _ _ (flat_at (f:=wrL) (sz:=3) (λ_=>rfl) a 2 _ rfl)⟩)
def machReads {g:Nat} {tg:Nat->Nat} {m:AV} {t:List LeafK} (h:∀ k y,(machLf m++t)[k]?=ς y->∃ u,w.cell? (π g (o+k))=ς u/\LeafAt w c (tg k) u y) (n:GC m):Ht w w g o m:=by
 obtain ⟨d,e,l⟩:=h 0 _ rfl;have b:∀ k x,(machLf m++t)[k]?=ς (.p x)->w.cell? (π g (o+k))=ς x:=λk x p=>by obtain ⟨u,f,i⟩:=h k _ p;obtain rfl:u=x:=i;exact f
 refine ⟨d,λj v a=>?_,l.i_reads,n⟩
 match j,a with
 | 0,a=>cases a;exact e
 | 1,a=>cases a;exact b 1 _ rfl
 | 2,a=>cases a;exact b 2 _ rfl
 | 3,a=>cases a;exact b 3 _ rfl
 | 4,a=>cases a;exact b 4 _ rfl
 | 5,a=>cases a;exact b 5 _ rfl
 | 6,a=>cases a;exact b 6 _ rfl
 | 7,a=>cases a;exact b 7 _ rfl
 | 8,a=>cases a;exact b 8 _ rfl
 | k+9,a=>simp [FW] at a
def trxReads {g:Nat} {x:Trx} (h:∀ k y,(trxL x)[k]?=ς y->∃ u,w.cell? (π g (o+k))=ς u/\LeafAt w c (100+16*(o+k)+j) u y) (i:GC x.run):TrxE (w:Nat) w g o x:=by
 have d:∀ k z,(trxL x)[k]?=ς (.p z)->w.cell? (π g (o+k))=ς z:=λk z l=>by obtain ⟨u,a,b⟩:=h k _ l;obtain rfl:u=z:=b;exact a
 obtain ⟨u,a,b⟩:=h 11 _ rfl;obtain ⟨v,e,f⟩:=h 12 _ rfl;exact ⟨machReads h i,d 9 _ rfl,d 10 _ rfl,⟨u,a,leafRd b⟩,⟨v,e,leafWr f⟩⟩
def GVals.reads (h:GVals w c vs (traG s)) (j:TraWf s):TraVs (w:Nat) w vs s:=by
 obtain ⟨r,_,e⟩:=h
 match vs,r with
 | [v0,v1,v2,v3,v4,v5,v6,v7,v8,v9,v10,v11,v12],_=>
  have p:v3=ι s.clock:=e 3 _ _ rfl rfl;have q:v4=ι s.Y:=e 4 _ _ rfl rfl;have n:v11=ι s.aborts:=e 11 _ _ rfl rfl;have o:v12=ι s.U:=e 12 _ _ rfl rfl;refine ⟨v0,v1,v2,v5,v6,v7,v8,v9,v10,by rw [p,q,n,o],?_,?_,?_,?_,?_,?_,?_,?_,?_⟩
  .exact rowReads1 (e 0 _ _ rfl rfl) λi x g u d a b=>⟨by rw [a,show u=_ from b],j.G x (Lm d)⟩
  .refine rowReads (e 1 _ _ rfl rfl) (λ_=>rfl) ω λi x g d f=>?_
   obtain ⟨u,a,b⟩:=f 0 _ rfl;obtain ⟨v,k,l⟩:=f 1 _ rfl;have m:=j.N x (Lm d);exact ⟨by rw [<-show u=_ from b];exact a,⟨v,k,leafInts l m.2⟩,m.1⟩
  .exact rowReads1 (e 2 _ _ rfl rfl) λi x g u d a b=>⟨u,a,leafInts b (j.vers x (Lm d))⟩
  .exact rowReads (e 5 _ _ rfl rfl) (λ_=>rfl) ω λi x g d f=>trxReads f (j.active x (Lm d))
  .exact rowReads1 (e 6 _ _ rfl rfl) λi x g u d a b=>⟨u,a,b.i_reads⟩
  .exact rowReads1 (e 7 _ _ rfl rfl) λi x g u d a b=>⟨u,a,leafOuts b (j.results x (Lm d))⟩
  .exact rowReads1 (e 8 _ _ rfl rfl) λi x g u d a b=>⟨u,a,leafInts b (j.Z x (Lm d))⟩
  .exact rowReads1 (e 9 _ _ rfl rfl) λi x g u d a b=>⟨u,a,leafInts b (j.P x (Lm d))⟩
  .refine rowReads (e 10 _ _ rfl rfl) (λ_=>rfl) ω λi x g d f=>?_
   obtain ⟨u,a,b⟩:=f 0 _ rfl;obtain ⟨v,k,l⟩:=f 1 _ rfl;exact ⟨by rw [<-show u=_ from b];exact a,by rw [<-show v=_ from l];exact k⟩
