import Derived.Test.YtigbfkiddlhhjaaGreatDoorSdt
import Derived.Test.YtigbfkiddlhhjaaGreatDoorThp
set_option linter.all false
open Go renaming World→Ϣ,Value→ϒ
open Option renaming some→ς
open Go.Value renaming slice→σ
open Go.Obj renaming cells→χ
namespace Go.Proofs.YtigbfkiddlhhjaaGreatDoor
open Go.RowKit
variable {α:Type} {w w' w1:Ϣ} {c c1:A1} {bt i n ab cap k j b n2:Nat} {s s':Tra} {g:List CellK} {x:List Int} {x0:Trx} {u v:ϒ} {y:LeafK} {o:Int} {f:α->LeafK} {l:List α}
def SAt (w:Ϣ) (c:A1) (bt:Nat) (s:Tra):Prop:=GStAt w c 39 bt (traG s)
def SAt.of (h:GStAt w c 39 bt g) (e:g=traG s'):SAt w c bt s':=by subst e;exact h
def SAt.hi (h:SAt w c bt s):∀ b,(w:Nat)<=b->c b=0:=by unfold SAt at h;exact h.1
def SAt.lab (h:SAt w c bt s):c bt=1:=by unfold SAt at h;exact h.2.1
def SAt.grow (h:SAt w c bt s) (a:Below w w w'):SAt w' c bt s:=GStAt.grow h a
def SAt.chg {S:Nat->Prop} {c':A1} (h:SAt w c bt s) (d:AT S c c' w w') (a:∀ b,(w':Nat)<=b->c' b=0) (e:∀ t,S t->t=14):SAt w' c' bt s:=GStAt.chg h d a e
def trxC (fv rv wv:ϒ) (x:Trx):List ϒ:=FW fv x.run++[ι x.start,ι x.N,rv,wv]
def rdQ (l:List (Int×Int)):LeafK:=.q 85 2 (l.flatMap rdL)
def wrQ (l:List (Int×Int×Int)):LeafK:=.q 120 3 (l.flatMap wrL)
def trxL_len (x:Trx):(trxL x).length=13:=rfl
def SAt.viewX (h:SAt w c bt s) {x:Trx} (l:s.active[i]?=ς x):∃ ab cap e m o,w.cell? (π bt 5)=ς (σ (ς (π ab 0)) s.active cap)/\c ab=25/\ab<w/\(∀ k,w.frozen? (π ab k)=false)/\
  (∀ k v,(trxC e m o x)[k]?=ς v->w.cell? (π ab (i*13+k))=ς v)/\fraP x.run.J (mask w c) e/\LeafAt w c (100+16*(i*13+11)+5) m (rdQ x.reads)/\LeafAt w c (100+16*(i*13+12)+5) o (wrQ x.writes)/\i<s.active.length:=by
 have r:=(Ll l)
 obtain ⟨a,cap,p,_,_,q⟩:=GStAt.at1 h (j:=5) (n:=s.active.length) rfl (flat_len (f:=trxL) (sz:=13) (λ_=>rfl) _) ω;obtain ⟨ab,rfl,B,C,D,E⟩:=q ω;have g:∀ k y,(trxL x)[k]?=ς y->∃ u,w.cell? (π ab (i*13+k))=ς u/\LeafAt w c (100+16*(i*13+k)+5) u y:=λk y F=>E _ _ (flat_at (f:=trxL) (sz:=13) (λ_=>rfl) l k y F);have d:∀ k z,(trxL x)[k]?=ς (.p z)->w.cell? (π ab (i*13+k))=ς z:=λk z l=>by obtain ⟨u,p,q⟩:=g k _ l;obtain rfl:u=z:=q;exact p
 obtain ⟨e,t,A⟩:=g 0 _ rfl;obtain ⟨m,G,H⟩:=g 11 _ rfl;obtain ⟨o,w1,I⟩:=g 12 _ rfl;refine ⟨ab,cap,e,m,o,p,B,C,D,λk v b=>?_,A.2,H,I,r⟩
 match k,b with
 | 0,b=>cases b;exact t
 | 1,b=>cases b;exact d 1 _ rfl
 | 2,b=>cases b;exact d 2 _ rfl
 | 3,b=>cases b;exact d 3 _ rfl
 | 4,b=>cases b;exact d 4 _ rfl
 | 5,b=>cases b;exact d 5 _ rfl
 | 6,b=>cases b;exact d 6 _ rfl
 | 7,b=>cases b;exact d 7 _ rfl
 | 8,b=>cases b;exact d 8 _ rfl
 | 9,b=>cases b;exact d 9 _ rfl
 | 10,b=>cases b;exact d 10 _ rfl
 | 11,b=>cases b;exact G
 | 12,b=>cases b;exact w1
 | k+13,b=>simp [trxC,FW] at b
def flat5 (s:Tra) (i:Nat) (x:Trx) (xs:List LeafK) (h:xs=(s.active.set i x).flatMap trxL):(traG s).set 5 (.r 62 13 xs)=traG { s with active:=s.active.set i x }:=by subst h;rfl
def SAt.setX (h:SAt w c bt s) (x:Trx) (fv d e:ϒ) (p:s.active[i]?=ς x0) (a:w.cell? (π bt 5)=ς (σ (ς (π ab 0)) n cap)) (g:c ab=25) (l:fraP x.run.J (mask w c) fv)
  (m:LeafAt w c (100+16*(i*13+11)+5) d (rdQ x.reads)) (o:LeafAt w c (100+16*(i*13+12)+5) e (wrQ x.writes)):SAt (putsW w ab (i*13) (trxC fv d e x)) c bt { s with active:=s.active.set i x }/\AT (λt=>t=25) c c w (putsW w ab (i*13) (trxC fv d e x)):=by
 have:=GStAt.puts1 (j:=5) (trxC fv d e x) (trxL x) (i*13) h rfl a rfl (λk u y a b=>by
  match k,a,b with
  | 0,a,b=>cases a;cases b;exact ⟨fraP_mono _,l⟩
  | 1,a,b=>cases a;cases b;rfl
  | 2,a,b=>cases a;cases b;rfl
  | 3,a,b=>cases a;cases b;rfl
  | 4,a,b=>cases a;cases b;rfl
  | 5,a,b=>cases a;cases b;rfl
  | 6,a,b=>cases a;cases b;rfl
  | 7,a,b=>cases a;cases b;rfl
  | 8,a,b=>cases a;cases b;rfl
  | 9,a,b=>cases a;cases b;rfl
  | 10,a,b=>cases a;cases b;rfl
  | 11,a,b=>cases a;cases b;exact m
  | 12,a,b=>cases a;cases b;exact o
  | k+13,a,b=>simp [trxC,FW] at a)
 rw [flat5 s i x] at this
 .exact ⟨this,puts_chg g ω _ _ _⟩
 .exact flat_over (f:=trxL) (sz:=13) (λ_=>rfl) p 0 (trxL x) (by rw [trxL_len];omega) (by have:=over_all (trxL x) (trxL x0) [] rfl;simpa using this)
def SAt.setMac (h:SAt w c bt s) {x:Trx} {m:AV} {fv:ϒ} (g:s.active[i]?=ς x) (a:w.cell? (π bt 5)=ς (σ (ς (π ab 0)) n cap)) (d:c ab=25) (e:fraP m.J (mask w c) fv) :
  SAt (putsW w ab (i*13) (FW fv m)) c bt { s with active:=s.active.set i { x with run:=m } }/\AT (λt=>t=25) c c w (putsW w ab (i*13) (FW fv m)):=by
 have:=GStAt.puts1 (j:=5) (FW fv m) (machLf m) (i*13) h rfl a rfl (λk u y a b=>by
  match k,a,b with
  | 0,a,b=>cases a;cases b;exact ⟨fraP_mono _,e⟩
  | 1,a,b=>cases a;cases b;rfl
  | 2,a,b=>cases a;cases b;rfl
  | 3,a,b=>cases a;cases b;rfl
  | 4,a,b=>cases a;cases b;rfl
  | 5,a,b=>cases a;cases b;rfl
  | 6,a,b=>cases a;cases b;rfl
  | 7,a,b=>cases a;cases b;rfl
  | 8,a,b=>cases a;cases b;rfl
  | k+9,a,b=>simp [FW] at a)
 rw [flat5 s i { x with run:=m }] at this
 .exact ⟨this,puts_chg d ω _ _ _⟩
 .exact flat_over (f:=trxL) (sz:=13) (λ_=>rfl) g 0 (machLf m) (by show 0+9<=13;omega) (over_all (machLf m) (machLf x.run) _ rfl)
def SAt.setF (h:SAt w c bt s) {x:Trx} (m:s.active[i]?=ς x0) (l:w.cell? (π bt 5)=ς (σ (ς (π ab 0)) n cap)) (g:k<13) (d:LeafAt w c (100+16*(i*13+k)+5) u y) (e:(trxL x0).set k y=trxL x) :
  SAt (w.setCell (π ab (i*13+k)) u) c bt { s with active:=s.active.set i x }/\AT (λt=>t=25) c c w (w.setCell (π ab (i*13+k)) u):=by
 obtain ⟨a,b⟩:=GStAt.put1 h (j:=5) (i:=i*13+k) rfl l d;rw [flat5 s i x] at a
 .exact ⟨a,b⟩
 .exact flat_set (f:=trxL) (sz:=13) (λ_=>rfl) m k y g e
def map_put {x':α} (h:y=f x'):(l.map f).set i y=(l.set i x').map f:=by subst h;rw [List.map_set]
def map_get {x:α} (h:l[i]?=ς x):(l.map f)[i]?=ς (f x):=by rw [List.getElem?_map,h];rfl
structure RowAt (w:Ϣ) (c:A1) (bt:Nat) (j n i:Nat) (v:ϒ) (b cap:Nat):Prop where
 hd:w.cell? (π bt j)=ς (σ (ς (π b 0)) n cap)
 lab:c b=20+j
 lt:b<w
 frz:∀ k,w.frozen? (π b k)=false
 el:w.cell? (π b i)=ς v
def GStAt.viewL {T:TypeId} (h:GStAt w c T bt g) {e:TypeId} (y:g[j]?=ς (.r e 1 (l.map f))) {x:α} (d:l[i]?=ς x) :
  ∃ b cap v,RowAt w c bt j l.length i v b cap/\LeafAt w c (100+16*i+j) v (f x)/\i<l.length:=by
 have k:=(Ll d)
 obtain ⟨a,cap,m,_,_,o⟩:=h.at1 y (n:=l.length) ψ ω;obtain ⟨b,rfl,p,q,r,s⟩:=o ω;obtain ⟨v,t,u⟩:=s i _ (map_get d);exact ⟨b,cap,v,⟨m,p,q,r,t⟩,u,k⟩
def SAt.viewR (h:SAt w c bt s) {x:List CD} (a:s.results[i]?=ς x):∃ b cap v,RowAt w c bt 7 s.results.length i v b cap/\LeafAt w c (100+16*i+7) v (outQ x)/\i<s.results.length:=GStAt.viewL h rfl a
def SAt.viewB (h:SAt w c bt s) (a:s.Z[i]?=ς x):∃ b cap v,RowAt w c bt 8 s.Z.length i v b cap/\LeafAt w c (100+16*i+8) v (intQ x)/\i<s.Z.length:=GStAt.viewL h rfl a
def SAt.viewE (h:SAt w c bt s) (a:s.P[i]?=ς x):∃ b cap v,RowAt w c bt 9 s.P.length i v b cap/\LeafAt w c (100+16*i+9) v (intQ x)/\i<s.P.length:=GStAt.viewL h rfl a
def SAt.viewV (h:SAt w c bt s) (a:s.vers[i]?=ς x):∃ b cap v,RowAt w c bt 2 s.vers.length i v b cap/\LeafAt w c (100+16*i+2) v (intQ x)/\i<s.vers.length:=GStAt.viewL h rfl a
def SAt.viewC (h:SAt w c bt s) {x:List Bi} (k:s.A[i]?=ς x):∃ b cap v,RowAt w c bt 6 s.A.length i v b cap/\calP x (mask w c) v/\i<s.A.length:=by
 obtain ⟨b,cap,v,a,d,g⟩:=GStAt.viewL h (j:=6) (e:=65) (f:=λl=>.i (calP l)) rfl k;exact ⟨b,cap,v,a,d.2,g⟩
def SAt.addR (h:SAt w c bt s) {x:List CD} {o:CD} (g:s.results[i]?=ς x) (l:RowAt w c bt 7 s.results.length i u b cap) (p:AT (λt=>t=100+16*i+7) c c1 w w1) (a:∀ b,(w1:Nat)<=b->c1 b=0) (q:Ao w1 c1 (100+16*i+7) 114 5 v n2 (Dk x++Dw o)) :
  SAt (w1.setCell (π b i) v) c1 bt { s with results:=s.results.modify i (·++[o]) }/\AT (λt=>20<=t) c c1 w (w1.setCell (π b i) v):=by
 obtain ⟨m,n⟩:=GStAt.app2 h (j:=7) rfl l.hd l.el (map_get g) p a q;refine ⟨SAt.of m ?_,n⟩;have e:s.results.modify i (·++[o])=s.results.set i (x++[o]):=by
  apply List.ext_getElem?;intro k;rw [List.getElem?_modify,List.getElem?_set];by_cases d:i=k
  .subst d;have:=(Ll g);rw [g,if_pos rfl,if_pos this];simp
  .rw [if_neg d];cases s.results[k]?<;>simp [d]
 rw [e,<- Sb,map_put (f:=outQ) (x':=x++[o]) (y:=.q 114 5 (Dk (x++[o]))) rfl];rfl
def mod_set {l:List (List Int)} (b:l[i]?=ς x) (o:Int):l.modify i (·++[o])=l.set i (x++[o]):=by
 apply List.ext_getElem?;intro k;rw [List.getElem?_modify,List.getElem?_set];by_cases a:i=k
 .subst a;have:=(Ll b);rw [b,if_pos rfl,if_pos this];simp
 .rw [if_neg a];cases l[k]?<;>simp [a]
def SAt.addB (h:SAt w c bt s) (e:s.Z[i]?=ς x) (d:RowAt w c bt 8 s.Z.length i u b cap) (l:AT (λt=>t=100+16*i+8) c c1 w w1) (a:∀ b,(w1:Nat)<=b->c1 b=0) (m:Ao w1 c1 (100+16*i+8) 3 1 v n2 (x.map (Value.int .i64)++[ι o])) :
  SAt (w1.setCell (π b i) v) c1 bt { s with Z:=s.Z.modify i (·++[o]) }/\AT (λt=>20<=t) c c1 w (w1.setCell (π b i) v):=by
 obtain ⟨g,k⟩:=GStAt.app2 h (j:=8) rfl d.hd d.el (map_get e) l a m;refine ⟨SAt.of g ?_,k⟩;rw [mod_set e,map_put (f:=intQ) (x':=x++[o]) (by unfold intQ;rw [List.map_append];rfl)];rfl
def SAt.addE (h:SAt w c bt s) (e:s.P[i]?=ς x) (d:RowAt w c bt 9 s.P.length i u b cap) (l:AT (λt=>t=100+16*i+9) c c1 w w1) (a:∀ b,(w1:Nat)<=b->c1 b=0) (m:Ao w1 c1 (100+16*i+9) 3 1 v n2 (x.map (Value.int .i64)++[ι o])) :
  SAt (w1.setCell (π b i) v) c1 bt { s with P:=s.P.modify i (·++[o]) }/\AT (λt=>20<=t) c c1 w (w1.setCell (π b i) v):=by
 obtain ⟨g,k⟩:=GStAt.app2 h (j:=9) rfl d.hd d.el (map_get e) l a m;refine ⟨SAt.of g ?_,k⟩;rw [mod_set e,map_put (f:=intQ) (x':=x++[o]) (by unfold intQ;rw [List.map_append];rfl)];rfl
def SAt.setC (h:SAt w c bt s) {x l:List Bi} (g:s.A[i]?=ς x) (e:RowAt w c bt 6 s.A.length i u b cap) (hl:calP l (mask w c) v) :
  SAt (w.setCell (π b i) v) c bt { s with A:=s.A.set i l }/\AT (λt=>t=26) c c w (w.setCell (π b i) v):=by
 obtain ⟨a,d⟩:=GStAt.put1 h (j:=6) (i:=i) (x:=.i (calP l)) rfl e.hd ⟨calP_mono l,hl⟩;refine ⟨SAt.of a ?_,d⟩;rw [map_put (f:=λl=>.i (calP l)) (x':=l) rfl];rfl
def SAt.num {n:Int} (h:SAt w c bt s) (e:(traG s).set j (.p (ι n))=traG s'):SAt (w.setCell (π bt j) (ι n)) c bt s'/\AT (λt=>t=1) c c w (w.setCell (π bt j) (ι n)):=by
 obtain ⟨a,b⟩:=GStAt.put0 h (j:=j) (x:=.p (ι n)) rfl;exact ⟨SAt.of a e,b⟩
def SAt.setV (h:SAt w c bt s) {d a:Nat} (l:s.vers[i]?=ς x) (m:RowAt w c bt 2 s.vers.length i (σ (ς (π d 0)) n2 a) b cap) (q:LeafAt w c (100+16*i+2) (σ (ς (π d 0)) n2 a) (intQ x)) :
  SAt (w.setCell (π d k) (ι o)) c bt { s with vers:=s.vers.modify i (·.set k o) }/\AT (λt=>t=100+16*i+2) c c w (w.setCell (π d k) (ι o)):=by
 obtain ⟨n,p⟩:=GStAt.put2 h (j:=2) (k:=k) (u:=ι o) rfl m.hd m.el (map_get l) q;refine ⟨SAt.of n ?_,p⟩;have e:s.vers.modify i (·.set k o)=s.vers.set i (x.set k o):=by
  apply List.ext_getElem?;intro k;rw [List.getElem?_modify,List.getElem?_set];by_cases g:i=k
  .subst g;have:=(Ll l);rw [l,if_pos rfl,if_pos this];simp
  .rw [if_neg g];cases s.vers[k]?<;>simp [g]
 rw [e,map_put (f:=intQ) (x':=x.set k o) (by unfold intQ;rw [List.map_set])];rfl
def getD_at' {l:List Int} {x:Int} (h:l[i]?=ς x):l.getD i 0=x:=by rw [List.getD_eq_getElem?_getD,h];rfl
def SAt.globs (h:SAt w c bt s):∃ d g,w.cell? (π bt 0)=ς (σ d s.M.G g)/\∀ (j:Nat) v,s.M.G[j]?=ς v->∃ b,d=ς (π b 0)/\w.cell? (π b j)=ς (ι v)/\c b=20/\w.frozen? (π b j)=false:=by
 obtain ⟨a,cap,i,_,_,k⟩:=GStAt.at1 h (j:=0) (n:=s.M.G.length) rfl ψ ω;refine ⟨a,cap,i,λj v e=>?_⟩;have r:=(Ll e)
 obtain ⟨b,rfl,l,t,m,o⟩:=k ω;obtain ⟨u,p,q⟩:=o j _ (map_get (f:=λn=>.p (ι n)) e);exact ⟨b,rfl,by rw [p,show u=_ from q],l,m j⟩
def SAt.nods (h:SAt w c bt s):∃ o C,w.cell? (π bt 1)=ς (σ o s.M.N C)/\∀ (i:Nat) x,s.M.N[i]?=ς x->∃ g d e,o=ς (π g 0)/\w.cell? (π g (i*2+1))=ς (σ d x.f e)/\LeafAt w c (100+16*(i*2+1)+1) (σ d x.f e) (intQ x.f)/\
  ∀ (j:Nat) v,x.f[j]?=ς v->∃ b,d=ς (π b 0)/\w.cell? (π b j)=ς (ι v)/\c b=100+16*(i*2+1)+1/\w.frozen? (π b j)=false:=by
 obtain ⟨a,cap,p,_,_,q⟩:=GStAt.at1 h (j:=1) (n:=s.M.N.length) rfl (flat_len (f:=nodL) (sz:=2) (λ_=>rfl) _) ω;refine ⟨a,cap,p,λi x m=>?_⟩;have E:=(Ll m)
 obtain ⟨g,rfl,F,G,H,r⟩:=q ω;obtain ⟨u,t,k⟩:=r _ _ (flat_at (f:=nodL) (sz:=2) (λ_=>rfl) m 1 _ rfl);obtain ⟨d,e,rfl,_,_,_,y⟩:=LeafAt.at2 k (n:=x.f.length) ψ ω;refine ⟨g,d,e,rfl,t,k,λj v l=>?_⟩;have D:=(Ll l)
 obtain ⟨b,rfl,z,I,A,B⟩:=y ω;exact ⟨b,rfl,B j _ (by rw [List.getElem?_map,l];rfl),z,A j⟩
def SAt.memRd (h:SAt w c bt s):Kt w bt s.M:=by
 obtain ⟨d,f,g,k⟩:=h.globs;obtain ⟨t,y,l,m⟩:=h.nods;exact ⟨⟨d,f,g,λj v a=>by
  obtain ⟨b,e,_⟩:=k j v a;exact ⟨b,0,e⟩⟩,t,y,l,λi x n=>by
  obtain ⟨u,q,r,e,o,_,p⟩:=m i x n;exact ⟨u,0,q,r,e,by rw [Nat.zero_add];exact o,λj v a=>by
   obtain ⟨b,e,_⟩:=p j v a;exact ⟨b,0,e⟩⟩⟩
def modN {l:List Gl} {x:Gl} (b:l[i]?=ς x) (f:Gl->Gl):l.modify i f=l.set i (f x):=by
 apply List.ext_getElem?;intro k;rw [List.getElem?_modify,List.getElem?_set];by_cases a:i=k
 .subst a;have:=(Ll b);rw [b,if_pos rfl,if_pos this];simp
 .rw [if_neg a];cases l[k]?<;>simp [a]
def SAt.place (h:SAt w c bt s) {r:Rq} {o:Nat} (F:Wv w bt r b o) (E:0<=r.D) (hl:r.D<((Bd s.M r).length:Int)) (x:Int) :
  o=0/\w.cell? (π b r.D.toNat)=ς (ι ((Bd s.M r).getD r.D.toNat 0))/\w.frozen? (π b r.D.toNat)=false/\b<w/\
  SAt (w.setCell (π b r.D.toNat) (ι x)) c bt { s with M:=setM s.M r x }/\AT (λt=>20<=t) c c w (w.setCell (π b r.D.toNat) (ι x)):=by
 rcases F with ⟨l,n,k,d⟩|⟨l,K,no,n,k,n2,m,d,v⟩
 .obtain ⟨ga,gc,b0,hg⟩:=h.globs
  rw [Gm l] at hl ⊢;have e:s.M.G[r.D.toNat]?=ς (s.M.G[r.D.toNat]'ω):=Lg ω;obtain ⟨C,rfl,a,D,p⟩:=hg r.D.toNat _ e;rw [b0] at d;cases d;obtain ⟨q,m⟩:=GStAt.put1 h (j:=0) (i:=r.D.toNat) (u:=ι x) (x:=.p (ι x)) rfl b0 rfl;refine ⟨rfl,by rw [a,getD_at' e],p,Bl a,SAt.of q ?_,m.mono (λt G=>by omega) ω⟩;rw [map_put (f:=λn=>.p (ι n)) (x':=x) rfl];unfold setM;rw [if_neg ω];rfl
 .obtain ⟨na,nc,b1,hN⟩:=h.nods
  obtain ⟨y,g⟩:=Jt l E hl;rw [IJ l g] at hl ⊢;obtain ⟨H,I,J,rfl,z,B,A⟩:=hN _ y g;have e:y.f[r.D.toNat]?=ς (y.f[r.D.toNat]'ω):=Lg ω;obtain ⟨C,rfl,a,D,p⟩:=A r.D.toNat _ e;rw [b1] at d;cases d;rw [Nat.zero_add,z] at v;cases v;obtain ⟨q,m⟩:=GStAt.put2 h (j:=1) (i:=(r.O - 1).toNat*2+1) (k:=r.D.toNat) (u:=ι x) rfl b1 z (flat_at (f:=nodL) (sz:=2) (λ_=>rfl) g 1 _ rfl) B;refine ⟨rfl,by rw [a,getD_at' e],p,Bl a,SAt.of q ?_,m.mono (λt G=>by omega) ω⟩;rw [flat_set (f:=nodL) (sz:=2) (λ_=>rfl) g 1 _ (x':=Nm y r.D.toNat x) ω (by unfold nodL intQ Nm;simp [List.map_set])];unfold setM;rw [if_pos ω,modN g];rfl
def SAt.growN (h:SAt w c bt s):∃ e g i,w.cell? (π bt 1)=ς (σ e s.M.N g)/\Ao w c 21 72 2 (σ e s.M.N g) s.M.N.length i/\
  ∀ (w1:Ϣ) (c1:A1) (v l:ϒ) (q:Nat) (x:Gl),AT (λt=>t=21) c c1 w w1->(∀ b,(w1:Nat)<=b->c1 b=0)->Ao w1 c1 21 72 2 v q (i++[ι x.type,l])->LeafAt w1 c1 (100+16*(s.M.N.length*2+1)+1) l (intQ x.f)->
   SAt (w1.setCell (π bt 1) v) c1 bt { s with M:={ s.M with N:=s.M.N++[x] } }/\AT (λt=>t=1\/t=21) c c1 w (w1.setCell (π bt 1) v):=by
 have p:=flat_len (f:=nodL) (sz:=2) (λ_=>rfl) s.M.N;obtain ⟨e,g,i,m,o,z,A⟩:=GStAt.row1 h (j:=1) (n:=s.M.N.length) rfl p ω;refine ⟨e,g,i,m,o,λw1 c1 v l q x B r D C=>?_⟩;obtain ⟨E,F⟩:=GStAt.push1 h (nodL x) (j:=1) rfl m o z A B r D rfl (λk u y a d=>by
  match k,a,d with
  | 0,a,d=>cases a;cases d;rfl
  | 1,a,d=>cases a;cases d;rw [p];exact C
  | k+2,a,d=>simp at a)
 refine ⟨SAt.of E ?_,F⟩;rw [show s.M.N.flatMap nodL++nodL x=(s.M.N++[x]).flatMap nodL by simp];rfl
def SAt.growV (h:SAt w c bt s):∃ e f g,w.cell? (π bt 2)=ς (σ e s.vers f)/\Ao w c 22 22 1 (σ e s.vers f) s.vers.length g/\
  ∀ (w1:Ϣ) (c1:A1) (v i:ϒ) (o:Nat) (x:List Int),AT (λt=>t=22) c c1 w w1->(∀ b,(w1:Nat)<=b->c1 b=0)->Ao w1 c1 22 22 1 v o (g++[i])->LeafAt w1 c1 (100+16*s.vers.length+2) i (intQ x)->
   SAt (w1.setCell (π bt 2) v) c1 bt { s with vers:=s.vers++[x] }/\AT (λt=>t=1\/t=22) c c1 w (w1.setCell (π bt 2) v):=by
 obtain ⟨e,f,g,l,m,q,r⟩:=GStAt.row1 h (j:=2) (n:=s.vers.length) rfl ψ ω;refine ⟨e,f,g,l,m,λw1 c1 v i o x z p B A=>?_⟩;obtain ⟨C,D⟩:=GStAt.push1 h ([intQ x]) (j:=2) rfl l m q r z p B rfl (λk u y a d=>by
  match k,a,d with
  | 0,a,d=>cases a;cases d;rw [List.length_map];exact A
  | k+1,a,d=>simp at a)
 refine ⟨SAt.of C ?_,D⟩;rw [show s.vers.map intQ++[intQ x]=(s.vers++[x]).map intQ by simp];rfl
def SAt.growO (h:SAt w c bt s):∃ e g i,w.cell? (π bt 10)=ς (σ e s.order g)/\Ao w c 30 85 2 (σ e s.order g) s.order.length i/\
  ∀ (w1:Ϣ) (c1:A1) (v:ϒ) (o:Nat) (x:Int×Int),AT (λt=>t=30) c c1 w w1->(∀ b,(w1:Nat)<=b->c1 b=0)->Ao w1 c1 30 85 2 v o (i++[ι x.1,ι x.2])->
   SAt (w1.setCell (π bt 10) v) c1 bt { s with order:=s.order++[x] }/\AT (λt=>t=1\/t=30) c c1 w (w1.setCell (π bt 10) v):=by
 have A:=flat_len (f:=ordL) (sz:=2) (λ_=>rfl) s.order;obtain ⟨e,g,i,l,m,q,r⟩:=GStAt.row1 h (j:=10) (n:=s.order.length) rfl A ω;refine ⟨e,g,i,l,m,λw1 c1 v o x z p B=>?_⟩;obtain ⟨C,D⟩:=GStAt.push1 h (ordL x) (j:=10) rfl l m q r z p B rfl (λk u y a d=>by
  match k,a,d with
  | 0,a,d=>cases a;cases d;rfl
  | 1,a,d=>cases a;cases d;rfl
  | k+2,a,d=>simp at a)
 refine ⟨SAt.of C ?_,D⟩;rw [show s.order.flatMap ordL++ordL x=(s.order++[x]).flatMap ordL by simp];rfl
