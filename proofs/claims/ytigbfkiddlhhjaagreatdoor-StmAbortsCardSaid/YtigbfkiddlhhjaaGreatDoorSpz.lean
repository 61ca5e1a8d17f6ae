import Derived.Test.YtigbfkiddlhhjaaGreatDoorSpx
set_option linter.all false
open Go renaming World→Ϣ,Value→ϒ,heap_setCell_same→ϡ
open Option renaming some→ς
open Go.Value renaming slice→σ
open Go.Obj renaming cells→χ
namespace Go.Proofs.YtigbfkiddlhhjaaGreatDoor
open Go.RowKit Proofs.Tryz
variable {α:Type} {e:TypeId} {w wr wr' W:Ϣ} {sz n cap k R j i b tag:Nat} {a:Option Addr} {raw xs vs:List ϒ} {c c':A1} {v u x0 x1 x2 x3 x4 x5 x6 x7 x8 x9 x10 x11 x12:ϒ} {g:List CellK} {T:Nat->Prop} {cs:List (List Bi×List ϒ)} {p:List Bi×List ϒ} {E:Ϣ->Nat->Nat->α->Prop} {l P S:List α} {f:α->List LeafK} {x:α}
def srcOf (h:AE w w sz E (σ a n cap) l) (y:0<sz) (t:∀ b o x,E w b o x->∀ j,j<sz->∃ u,w.cell? (π b (o+j))=ς u/\u.oneCell'=true) (hl:l.length<=1000000) :
  n=l.length/\∃ raw,Src w sz a l.length raw/\∀ i x,l[i]?=ς x->∃ b o,E w b o x/\∀ j,j<sz->raw[i*sz+j]?=w.cell? (π b (o+j)):=by
 obtain ⟨q,r,e,z,A,B,g⟩:=h;obtain ⟨rfl,rfl,rfl⟩:a=q/\n=l.length/\cap=r:=by simpa using e
 refine ⟨rfl,?_⟩;rcases g with s|⟨b,o,rfl,C,g⟩
 .subst s
  exact ⟨[],⟨ψ,.inl rfl,ψ,ψ⟩,λi x k=>by simp at k⟩
 .have aD:∀ j,j<l.length*sz->∃ u,w.cell? (π b (o+j))=ς u/\u.oneCell'=true:=λj c=>by
   have v:j / sz<l.length:=Nat.div_lt_of_lt_mul (by rw [Nat.mul_comm];exact c);obtain ⟨u,d,m⟩:=t b _ _ (g (j / sz) _ (Lg v)) (j % sz) (Nat.mod_lt _ y);have e:o+j / sz*sz+j % sz=o+j:=by rw [Nat.add_assoc,Nat.mul_comm,Nat.div_add_mod]
   rw [e] at d;exact ⟨u,d,m⟩
  have p:∀ j,j<l.length*sz->((List.range (l.length*sz)).map λj=>(w.cell? (π b (o+j))).getD undef)[j]?=w.cell? (π b (o+j)):=λj c=>by obtain ⟨u,d,_⟩:=aD j c;rw [List.getElem?_map,List.getElem?_range c,Option.map_some,d];rfl
  refine ⟨(List.range (l.length*sz)).map λj=>(w.cell? (π b (o+j))).getD undef,⟨ψ,.inr ⟨_,rfl,λj u f=>?_⟩,λu f=>?_,hl⟩,λi x k=>⟨b,o+i*sz,g i x k,λj c=>?_⟩⟩
  .have aB:=(Ll f)
   rw [List.length_map,List.length_range] at aB;rw [p j aB] at f;rw [GB];exact f
  .obtain ⟨j,c,rfl⟩:=List.mem_map.1 f
   obtain ⟨u,d,m⟩:=aD j (List.mem_range.1 c);rw [d];exact m
  .have aB:=(Ll k)
   have:i*sz+j<l.length*sz:=by have:(i+1)*sz<=l.length*sz:=Nat.mul_le_mul_right _ aB;rw [Nat.add_mul] at this;omega
   rw [p _ this,Nat.add_assoc]
def srcFlat {f:α->List ϒ} (h:AE w w sz E (σ a n cap) l) (d:∀ x,(f x).length=sz) (z:0<sz) (y:∀ b o x,E w b o x->∀ j u,(f x)[j]?=ς u->w.cell? (π b (o+j))=ς u) (t:∀ x,∀ u∈f x,u.oneCell'=true) (hl:l.length<=1000000):n=l.length/\Src w sz a l.length (l.flatMap f):=by
 obtain ⟨r,s,e,A,B,C,g⟩:=h;obtain ⟨rfl,rfl,rfl⟩:a=r/\n=l.length/\cap=s:=by simpa using e
 refine ⟨rfl,flat_len d l,?_,λu c=>?_,hl⟩
 .rcases g with h0|⟨b,o,rfl,hb,g⟩
  .left;rw [h0];rfl
  .refine .inr ⟨_,rfl,λj u c=>?_⟩
   have i:=(Ll c)
   rw [flat_len d l] at i;obtain ⟨x,p⟩:∃ x,l[j / sz]?=ς x:=⟨_,Lg (Nat.div_lt_of_lt_mul (by rw [Nat.mul_comm];exact i))⟩
   obtain ⟨v,q⟩:∃ v,(f x)[j % sz]?=ς v:=⟨_,Lg (by rw [d];exact Nat.mod_lt _ z)⟩
   have k:=flat_at d p _ _ q;have e:j / sz*sz+j % sz=j:=by rw [Nat.mul_comm];exact Nat.div_add_mod _ _
   rw [e,c] at k;have m:=y _ _ _ (g _ _ p) _ _ q;rw [Nat.add_assoc,e,<- k] at m;rw [GB];exact m
 .obtain ⟨x,_,c⟩:=List.mem_flatMap.1 c
  exact t x u c
def srcOuts {l:List CD} (h:AE w w 5 FM (σ a n cap) l) (hl:l.length<=1000000):n=l.length/\Src w 5 a l.length (Dk l):=by
 refine srcFlat (f:=Dw) h (λ_=>rfl) ω (λb o x d j u c=>?_) (λx u c=>?_) hl
 .obtain ⟨e0,e1,e2,e3,e4,-⟩:=d
  match j,c with
  | 0,c=>cases c;exact e0
  | 1,c=>cases c;exact e1
  | 2,c=>cases c;exact e2
  | 3,c=>cases c;exact e3
  | 4,c=>cases c;exact e4
  | j+5,c=>simp [Dw] at c
 .simp only [Dw,List.mem_cons,List.not_mem_nil,or_false] at c
  rcases c with rfl|rfl|rfl|rfl|rfl<;>rfl
def srcRds {l:List (Int×Int)} (h:AE w w 2 RdE (σ a n cap) l) (hl:l.length<=1000000):n=l.length/\Src w 2 a l.length (l.flatMap rdL):=by
 refine srcFlat (f:=rdL) h (λ_=>rfl) ω (λb o x d j u c=>?_) (λx u c=>?_) hl
 .match j,c with
  | 0,c=>cases c;exact d.1
  | 1,c=>cases c;exact d.2
  | j+2,c=>simp [rdL] at c
 .simp only [rdL,List.mem_cons,List.not_mem_nil,or_false] at c
  rcases c with rfl|rfl<;>rfl
def srcWrs {l:List (Int×Int×Int)} (h:AE w w 3 WrE (σ a n cap) l) (hl:l.length<=1000000):n=l.length/\Src w 3 a l.length (l.flatMap wrL):=by
 refine srcFlat (f:=wrL) h (λ_=>rfl) ω (λb o x d j u c=>?_) (λx u c=>?_) hl
 .match j,c with
  | 0,c=>cases c;exact d.1
  | 1,c=>cases c;exact d.2.1
  | 2,c=>cases c;exact d.2.2
  | j+3,c=>simp [wrL] at c
 .simp only [wrL,List.mem_cons,List.not_mem_nil,or_false] at c
  rcases c with rfl|rfl|rfl<;>rfl
def srcLists {c:List (List α)} {f:List α->List ϒ} (h:AE w w 1 (Bg sz E w) (σ a n cap) c) (hl:∀ l∈c,∀ ai m ci,AE w w sz E (σ ai m ci) l->m=l.length/\Src w sz ai l.length (f l)):n=c.length/\SrcL w sz a c List.length f:=by
 obtain ⟨p,q,e,s,t,u,d⟩:=h;obtain ⟨rfl,rfl,rfl⟩:a=p/\n=c.length/\cap=q:=by simpa using e
 refine ⟨rfl,d.imp id (λ⟨b,o,e,r,d⟩=>⟨b,o,e,λi x k=>?_⟩)⟩;obtain ⟨v,g,j⟩:=d i x k;obtain ⟨ai,ci,rfl⟩:=j.form;rw [Nat.mul_one] at g;exact ⟨ai,ci,g,(hl x (Lm k) _ _ _ j).2⟩
def srcNodes {l:List Gl} (h:AE w w 2 (GP w) (σ a n cap) l) (hl:l.length<=1000000) (t:∀ x∈l,x.f.length<=1000000) :
  n=l.length/\∃ c,Src w 2 a l.length c/\∀ i x,l[i]?=ς x->c[i*2]?=ς (ι x.type)/\∃ d f,c[i*2+1]?=ς (σ d x.f f)/\Src w 1 d x.f.length (x.f.map (Value.int .i64)):=by
 obtain ⟨e,c,r,s⟩:=srcOf h ω (λb o x g j u=>by
  obtain ⟨m,⟨v,p,k⟩,-⟩:=g;obtain ⟨d,f,rfl⟩:=k.form
  match j,u with
  | 0,_=>exact ⟨_,m,rfl⟩
  | 1,_=>exact ⟨_,p,rfl⟩) hl
 refine ⟨e,c,r,λi x g=>?_⟩;obtain ⟨b,o,⟨m,⟨v,p,k⟩,-⟩,q⟩:=s i x g;obtain ⟨d,f,rfl⟩:=k.form;refine ⟨?_,d,f,by rw [q 1 ω];exact p,(srcInts k (t x (Lm g))).2.1⟩;have:=q 0 ω;rw [Nat.add_zero] at this;rw [this];exact m
def exList {β:Type}:∀ {l:List α} {P:Nat->α->β->Prop} (_:∀ i x,l[i]?=ς x->∃ y,P i x y),∃ c:List β,c.length=l.length/\∀ i x y,l[i]?=ς x->c[i]?=ς y->P i x y
 | [],_,_=>⟨[],rfl,λi x y b=>by simp at b⟩
 | a::l,P,h=>by
  obtain ⟨y,g⟩:=h 0 a rfl;obtain ⟨c,e,f⟩:=exList (l:=l) (P:=λi=>P (i+1)) (λi x b=>h (i+1) x (by simpa using b));refine ⟨y::c,by simp [e],λi x z b d=>?_⟩;cases i with
  | zero=>simp at b d;subst b d;exact g
  | succ i=>exact f i x z (by simpa using b) (by simpa using d)
def CalRaw (w:Ϣ) (p:List Bi×List ϒ):Prop:=p.2.length=p.1.length*2/\∀ k x,p.1[k]?=ς x->p.2[k*2]?=ς (.string x.proc)/\x.proc.size<=140737488355328/\∃ fa fc,p.2[k*2+1]?=ς (σ fa x.args fc)/\Src w 1 fa x.args.length (x.args.map (Value.int .i64))/\∀ q∈x.args,in64 q
def srcCalls {d:List (List Bi)} (h:AE w w 1 (Bg 2 (DA w) w) (σ a n cap) d) (hl:∀ l∈d,l.length<=1000000/\∀ x∈l,x.args.length<=1000000) :
  n=d.length/\∃ c:List (List Bi×List ϒ),c.map (·.1)=d/\SrcL w 2 a c (·.1.length) (·.2)/\∀ p∈c,CalRaw w p:=by
 obtain ⟨J,K,e,f,g,r,B⟩:=h;obtain ⟨rfl,rfl,rfl⟩:a=J/\n=d.length/\cap=K:=by simpa using e
 refine ⟨rfl,?_⟩;rcases B with L|⟨b,o,rfl,R,B⟩
 .subst L
  exact ⟨[],rfl,.inl rfl,ψ⟩
 .obtain ⟨ys,z,q⟩:=exList (l:=d) (P:=λi x s=>∃ ai ci,w.cell? (π b (o+i))=ς (σ ai x ci)/\Src w 2 ai x.length s/\CalRaw w (x,s)) (λi x H=>by
   obtain ⟨v,z,q⟩:=B i x H;obtain ⟨ai,ci,rfl⟩:=q.form;rw [Nat.mul_one] at z;have C:=hl x (Lm H);obtain ⟨-,s,t,A⟩:=srcOf q ω (λb o y u j N=>by
    obtain ⟨f,⟨v,g,r⟩,-⟩:=u;obtain ⟨D,E,rfl⟩:=r.form
    match j,N with
    | 0,_=>exact ⟨_,f,rfl⟩
    | 1,_=>exact ⟨_,g,rfl⟩) C.1
   refine ⟨s,ai,ci,z,t,t.len,λk y u=>?_⟩;obtain ⟨Q,S,⟨f,⟨v,g,r⟩,O⟩,F⟩:=A k y u;obtain ⟨D,E,rfl⟩:=r.form;have G:=srcInts r (C.2 y (Lm u));refine ⟨?_,O,D,E,by rw [F 1 ω];exact g,G.2.1,G.2.2⟩;have:=F 0 ω;rw [Nat.add_zero] at this;rw [this];exact f)
  have I:∀ (i:Nat) (p:List Bi×List ϒ),(d.zip ys)[i]?=ς p->d[i]?=ς p.1/\ys[i]?=ς p.2:=λi p m=>by rw [List.getElem?_zip_eq_some] at m;exact m
  refine ⟨d.zip ys,List.map_fst_zip ω,.inr ⟨b,o,rfl,λi p m=>?_⟩,λp m=>?_⟩
  .obtain ⟨f,g⟩:=I i p m
   obtain ⟨ai,ci,t,A,-⟩:=q i _ _ f g;exact ⟨ai,ci,t,A⟩
  .obtain ⟨i,hi⟩:=List.mem_iff_getElem?.1 m
   obtain ⟨f,g⟩:=I i p hi;obtain ⟨ai,ci,-,-,M⟩:=q i _ _ f g;exact M
def srcTrxs {l:List Trx} (h:AE w w 13 (TrxE (w:Nat)) (σ a n cap) l) (hl:l.length<=1000000) (r:∀ x∈l,x.reads.length<=1000000/\x.writes.length<=1000000) :
  n=l.length/\∃ s,Src w 13 a l.length s/\∀ i x,l[i]?=ς x->∃ p g q m wc,AE w w 4 (CK w) p x.run.J/\Src w 2 g x.reads.length (x.reads.flatMap rdL)/\Src w 3 m x.writes.length (x.writes.flatMap wrL)/\∀ k v,(trxC p (σ g x.reads q) (σ m x.writes wc) x)[k]?=ς v->s[i*13+k]?=ς v:=by
 have E:∀ b o (x:Trx),TrxE (w:Nat) w b o x->∃ p g t q m u wc,AE w w 4 (CK w) p x.run.J/\AE w w 2 RdE (σ g t q) x.reads/\AE w w 3 WrE (σ m u wc) x.writes/\∀ k v,(trxC p (σ g t q) (σ m u wc) x)[k]?=ς v->w.cell? (π b (o+k))=ς v:=λb o x r=>by
  obtain ⟨⟨p,f,y,-⟩,z,A,⟨S,M,F⟩,⟨T,N,G⟩⟩:=r;obtain ⟨g,q,rfl⟩:=F.form;obtain ⟨m,wc,rfl⟩:=G.form;refine ⟨p,g,_,q,m,_,wc,y,F,G,λk v c=>?_⟩
  match k,c with
  | 0,c=>exact f 0 v c
  | 1,c=>exact f 1 v c
  | 2,c=>exact f 2 v c
  | 3,c=>exact f 3 v c
  | 4,c=>exact f 4 v c
  | 5,c=>exact f 5 v c
  | 6,c=>exact f 6 v c
  | 7,c=>exact f 7 v c
  | 8,c=>exact f 8 v c
  | 9,c=>cases c;exact z
  | 10,c=>cases c;exact A
  | 11,c=>cases c;exact M
  | 12,c=>cases c;exact N
  | k+13,c=>simp [trxC,FW] at c
 obtain ⟨e,s,f,y⟩:=srcOf h ω (λb o x r j I=>by
  obtain ⟨p,g,t,q,m,u,wc,B,C,P,d⟩:=E b o x r;obtain ⟨Q,R,rfl⟩:=B.form;have g:=C.form;have m:=P.form
  match j,I with
  | 0,_=>exact ⟨_,d 0 _ rfl,rfl⟩
  | 1,_=>exact ⟨_,d 1 _ rfl,rfl⟩
  | 2,_=>exact ⟨_,d 2 _ rfl,rfl⟩
  | 3,_=>exact ⟨_,d 3 _ rfl,rfl⟩
  | 4,_=>exact ⟨_,d 4 _ rfl,rfl⟩
  | 5,_=>exact ⟨_,d 5 _ rfl,rfl⟩
  | 6,_=>exact ⟨_,d 6 _ rfl,rfl⟩
  | 7,_=>exact ⟨_,d 7 _ rfl,rfl⟩
  | 8,_=>exact ⟨_,d 8 _ rfl,rfl⟩
  | 9,_=>exact ⟨_,d 9 _ rfl,rfl⟩
  | 10,_=>exact ⟨_,d 10 _ rfl,rfl⟩
  | 11,_=>exact ⟨_,d 11 _ rfl,rfl⟩
  | 12,_=>exact ⟨_,d 12 _ rfl,rfl⟩
  | j+13,I=>omega) hl
 refine ⟨e,s,f,λi x D=>?_⟩;obtain ⟨b,o,O,C⟩:=y i x D;obtain ⟨p,g,t,q,m,u,wc,B,K,L,d⟩:=E b o x O;have H:=r x (Lm D);obtain ⟨rfl,z⟩:=srcRds K H.1;obtain ⟨rfl,A⟩:=srcWrs L H.2;refine ⟨p,g,q,m,wc,B,z,A,λk v c=>?_⟩;have J:=(Ll c)
 rw [C k (by simpa [trxC,FW] using J)];exact d k v c
def mixK {α:Type} (f:α->List LeafK) (sz:Nat) (l:List α) (raw:List ϒ) (k:Nat):List LeafK:=(l.take k).flatMap f++(raw.drop (k*sz)).map .p
def mixK_zero (f:α->List LeafK) (sz:Nat) (l:List α) (raw:List ϒ):mixK f sz l raw 0=raw.map .p:=by simp [mixK]
def mixK_all (h:raw.length=l.length*sz):mixK f sz l raw l.length=l.flatMap f:=by
 unfold mixK;rw [List.take_length,<- h,List.drop_length];simp
def mixK_split (a:List ϒ) (g:l[k]?=ς x) (hs:a.length=sz) (b:∀ (j:Nat) v,a[j]?=ς v->raw[k*sz+j]?=ς v):∃ R,mixK f sz l raw k=(l.take k).flatMap f++(a.map .p++R)/\mixK f sz l raw (k+1)=(l.take k).flatMap f++(f x++R):=by
 refine ⟨(raw.drop ((k+1)*sz)).map .p,?_,?_⟩
 .unfold mixK
  have e:raw.drop (k*sz)=a++raw.drop ((k+1)*sz):=by
   apply List.ext_getElem?;intro j;rw [List.getElem?_drop];by_cases c:j<a.length
   .rw [Al c]
    obtain ⟨v,d⟩:∃ v,a[j]?=ς v:=⟨_,Lg c⟩
    rw [d];exact b j _ d
   .rw [Ar ω,List.getElem?_drop]
    congr 1
    rw [Nat.add_mul,Nat.one_mul,hs] at *
    omega
  rw [e,List.map_append]
 .unfold mixK
  rw [take_add g,List.flatMap_append];simp
def mixK_P (a:∀ x,(f x).length=sz) (b:k<=l.length):((l.take k).flatMap f).length=k*sz:=by
 rw [flat_len a,List.length_take,Nat.min_eq_left b]
def set_mid {R:List α} (a:P.length=n) (b:j<S.length):(P++(S++R)).set (n+j) x=P++(S.set j x++R):=by
 rw [List.set_append_right _ _ ω,a,Nat.add_sub_cancel_left,List.set_append_left _ _ b]
def over_mid {R a:List α} (b:P.length=n) (c:a.length<=S.length):over (P++(S++R)) n a=P++(over S 0 a++R):=by
 have:=over_right a P (S++R) 0;rw [Nat.add_zero,b] at this;rw [this,over_left _ _ _ _ ω]
def rowLf_p (h:Ao w c (20+j) e sz v n xs):RowLf w c j v e sz (xs.map .p):=⟨n,xs,h,ψ,λi y x b a=>by
 rw [List.getElem?_map,b] at a;cases a;exact rfl⟩
def order_p (l:List (Int×Int)):(l.flatMap rdL).map LeafK.p=l.flatMap ordL:=by induction l<;>simp_all [rdL,ordL]
def cg (s:Tra) (x0 x1 x2 x5 x6 x7 x8 x9 x10:CellK):List CellK:=[x0,x1,x2,.p (ι s.clock),.p (ι s.Y),x5,x6,x7,x8,x9,x10,.p (ι s.aborts),.p (ι s.U)]
def cX0 (s:Tra):CellK:=.r 3 1 (s.M.G.map λn=>.p (ι n))
def cX1 (s:Tra):CellK:=.r 72 2 (s.M.N.flatMap nodL)
def cX2 (s:Tra):CellK:=.r 22 1 (s.vers.map intQ)
def cX5 (s:Tra):CellK:=.r 62 13 (s.active.flatMap trxL)
def cX6 (s:Tra):CellK:=.r 65 1 (s.A.map λl=>.i (calP l))
def cX7 (s:Tra):CellK:=.r 127 1 (s.results.map outQ)
def cX8 (s:Tra):CellK:=.r 22 1 (s.Z.map intQ)
def cX9 (s:Tra):CellK:=.r 22 1 (s.P.map intQ)
def cX10 (s:Tra):CellK:=.r 85 2 (s.order.flatMap ordL)
def cg_all (s:Tra):cg s (cX0 s) (cX1 s) (cX2 s) (cX5 s) (cX6 s) (cX7 s) (cX8 s) (cX9 s) (cX10 s)=traG s:=rfl
def zero13:Array ϒ:=#[ν,ν,ν,ι 0,ι 0,ν,ν,ν,ν,ν,ν,ι 0,ι 0]
structure Ws (w:Ϣ) (g:List CellK) (c:A1) (wr:Ϣ):Prop where
 chg:AT TagNN (EN w) c w wr
 st:GStAt wr c 39 (w:Nat) g
 res:wr.heap[(w:Nat)+1]?=ς (χ zero13 39 (0,0))/\c ((w:Nat)+1)=2
def Ws.hi (h:Ws w g c wr):∀ b,(wr:Nat)<=b->c b=0:=h.st.1
def Ws.old (h:Ws w g c wr):Below w w wr:=h.chg.below0 tn99
def Ws.chgN (h:Ws w g c wr) (a:AT NO c c' wr wr') (d:∀ b,(wr':Nat)<=b->c' b=0):Ws w g c' wr':=
 have e:=(La h.res.1)
 ⟨h.chg.trans (a.mono (λt h=>h.elim) tn0),h.st.chg a d (λt f=>f.elim),by rw [a.kp _ e (no _)];exact h.res.1,by rw [a.old _ e];exact h.res.2⟩
def Ws.put {b:List CellK} (h:Ws w g c wr) (f:GStAt wr' c 39 (w:Nat) b) (a:AT T c c wr wr') (d:∀ t,T t->t≠99/\t≠2):Ws w b c wr':=
 have i:=(La h.res.1)
 ⟨h.chg.trans (a.mono (λt h=>⟨λe=>a.zero (e▸h),(d t h).1⟩) tn0),f,by rw [a.kp _ i (by rw [h.res.2];exact λe=>(d _ e).2 rfl)];exact h.res.1,h.res.2⟩
def Ws.put0 (h:Ws w g c wr) {x:CellK} (d:CellAt wr c j u x):Ws w (g.set j x) c (wr.setCell (π w j) u):=by
 obtain ⟨a,b⟩:=h.st.put0 d;exact h.put a b (λt e=>by omega)
def shareS {T G:Prop} (h:T->G) (t:T):G:=h t
def ly (s:Tra) (c:A1) (w:Ϣ) (e:Ending) (w':Ϣ):Prop:=∃ vs c',e=.returned (.agg vs.toArray)/\GVals w' c' vs (traG s)/\AT NO c c' w w'/\∀ b,(w':Nat)<=b->c' b=0
structure CopyS (s:Tra):Prop where
 G:s.M.G.length<=1000000
 N:s.M.N.length<=1000000/\∀ x∈s.M.N,x.f.length<=1000000
 vers:s.vers.length<=1000000/\∀ l∈s.vers,l.length<=1000000
 Z:s.Z.length<=1000000/\∀ l∈s.Z,l.length<=1000000
 P:s.P.length<=1000000/\∀ l∈s.P,l.length<=1000000
 results:s.results.length<=1000000/\∀ l∈s.results,l.length<=1000000
 order:s.order.length<=1000000
 A:s.A.length<=1000000/\∀ l∈s.A,l.length<=1000000/\∀ x∈l,x.args.length<=1000000
 active:s.active.length<=1000000/\∀ x∈s.active,(x.reads.length<=1000000/\x.writes.length<=1000000)/\x.run.J.length<=1000000/\∀ f∈x.run.J,f.L.length<=1000000/\f.S.length<=1000000
def CalSt (w:Ϣ) (i k:Nat) (cs:List (List Bi×List ϒ)) (c:A1) (wr:Ϣ):Prop:=∀ i' p,cs[i']?=ς p->p.2.length=p.1.length*2/\∀ k' x,p.1[k']?=ς x->p.2[k'*2]?=ς (.string x.proc)/\x.proc.size<=140737488355328/\∃ av,p.2[k'*2+1]?=ς av/\((i'<i\/(i'=i/\k'<k))->Dq wr c 15 av x.args)/\(¬(i'<i\/(i'=i/\k'<k))->∃ fa fc,av=σ fa x.args fc/\Src w 1 fa x.args.length (x.args.map (Value.int .i64))/\∀ q∈x.args,in64 q)
def CalSt.kp (h:CalSt w i k cs c wr) (m:AT T c c' wr wr') (n:¬T 15):CalSt w i k cs c' wr':=λs p q=>by
 obtain ⟨b,d⟩:=h s p q;refine ⟨b,λt x r=>?_⟩;obtain ⟨e,f,a,g,j,l⟩:=d t x r;exact ⟨e,f,a,g,λo=>(j o).kp m n,l⟩
def CalSt.start (h:∀ p∈cs,CalRaw w p):CalSt w 0 0 cs c wr:=λq p l=>by
 obtain ⟨d,e⟩:=h p (Lm l);refine ⟨d,λn x m=>?_⟩;obtain ⟨f,g,a,b,i,j,k⟩:=e n x m;exact ⟨f,g,_,i,λo=>by omega,λ_=>⟨a,b,rfl,j,k⟩⟩
def CalSt.next {x:Bi} {g:ϒ} (h:CalSt w i k cs c wr) (v:cs[i]?=ς p) (r:p.1[k]?=ς x) (u:Dq wr c 15 g x.args):CalSt w i (k+1) (cs.set i (p.1,p.2.set (k*2+1) g)) c wr:=λs q o=>by
 have A:=(Ll r)
 rcases get_set o with ⟨rfl,rfl,_⟩|⟨z,o⟩
 .obtain ⟨h1,h2⟩:=h s p v
  refine ⟨by rw [List.length_set];exact h1,λe y d=>?_⟩;obtain ⟨a,b,f,j,l,m⟩:=h2 e y d;by_cases t:e=k
  .subst t
   obtain rfl:x=y:=by have:=r.symm.trans d;simpa using this
   exact ⟨by rw [List.getElem?_set_ne ω];exact a,b,g,by rw [List.getElem?_set_self ω],λ_=>u,λB=>by omega⟩
  .exact ⟨by rw [List.getElem?_set_ne ω];exact a,b,f,by rw [List.getElem?_set_ne ω];exact j,λn=>l ω,λn=>m ω⟩
 .obtain ⟨h1,h2⟩:=h s q o
  refine ⟨h1,λe y d=>?_⟩;obtain ⟨a,b,f,j,l,m⟩:=h2 e y d;exact ⟨a,b,f,j,λn=>l ω,λn=>m ω⟩
def CalSt.row (h:CalSt w i k cs c wr) (t:cs[i]?=ς p) (x:k=p.1.length):CalSt w (i+1) 0 cs c wr:=λm q j=>by
 obtain ⟨n,o⟩:=h m q j;refine ⟨n,λu y l=>?_⟩;obtain ⟨b,d,a,e,f,r⟩:=o u y l;have v:=(Ll l)
 by_cases s:m=i
 .subst s
  obtain rfl:p=q:=by have:=t.symm.trans j;simpa using this
  exact ⟨b,d,a,e,λ_=>f (.inr ⟨rfl,ω⟩),λg=>by omega⟩
 .exact ⟨b,d,a,e,λg=>f ω,λg=>r ω⟩
def cQ (cs:List (List Bi×List ϒ)):CellK:=.r 65 1 (cs.map λp=>.q 64 2 p.2)
def rc15 (c:A1):A1:=λb=>if c b=15\/(100<=c b/\c b % 16=10) then 0 else c b
def rc15_keep (h:c b=tag) (a:¬(tag=15\/(100<=tag/\tag % 16=10))):rc15 c b=tag:=by
 unfold rc15;rw [h,if_neg a]
def rc15_zero (h:c b=tag) (a:tag=15\/(100<=tag/\tag % 16=10)\/tag=0):rc15 c b=0:=by
 unfold rc15;rw [h];split
 .rfl
 .omega
def rc15_mask :JT (mask w c) (mask w (rc15 c)):=λa v b=>by
 rw [GJ] at b ⊢;split at b
 .rename_i h1
  rw [if_pos (rc15_zero h1 (.inr (.inr rfl)))];exact b
 .cases b
def rc15_rowC (h:Ao w c tag e sz v n xs) (d:¬(tag=15\/(100<=tag/\tag % 16=10))):Ao w (rc15 c) tag e sz v n xs:=⟨h.1,λb a=>rc15_keep (h.2.1 b a) d,h.2.2⟩
def rc15_i {P:Ϣ->ϒ->Prop} (h:MonoP P/\P (mask w c) u):MonoP P/\P (mask w (rc15 c)) u:=⟨h.1,h.1 _ _ _ (by rw [Hk,Hk];exact Nr _) rc15_mask h.2⟩
def rc15_leaf {x:LeafK} (h:LeafAt w c tag u x) (a:¬(tag=15\/(100<=tag/\tag % 16=10))):LeafAt w (rc15 c) tag u x:=by
 cases x with
 | p x=>exact h
 | q e sz xs=>obtain ⟨n,h⟩:=h;exact ⟨n,rc15_rowC h a⟩
 | i P=>exact rc15_i h
def rc15_cell {x:CellK} (h:CellAt w c j u x) (l:j<16) (k:j≠6):CellAt w (rc15 c) j u x:=by
 cases x with
 | p x=>exact h
 | r e sz xs=>obtain ⟨n,vs,a,b,d⟩:=h;exact ⟨n,vs,rc15_rowC a ω,b,λi y x g f=>rc15_leaf (d i y x g f) ω⟩
 | i P=>exact rc15_i h
def Ao.vis (h:Ao w c tag e sz v n xs) (d:∀ b,c b=tag->c' b=0):Ao (mask w c') c tag e sz v n xs:=⟨JV h.1 (λb a=>Jj (d b (h.2.1 b a))),h.2⟩
def rc15_calls (h:RowLf wr c 6 u 65 1 (cs.map λp=>.q 64 2 p.2)) (C:CalSt w n 0 cs c wr) (I:cs.length=n):RowLf wr (rc15 c) 6 u 65 1 ((cs.map (·.1)).map λl=>.i (calP l)):=by
 obtain ⟨m,vs,s,t,v⟩:=h;refine ⟨m,vs,rc15_rowC s ω,by simpa using t,λi y x F e=>?_⟩;rw [List.map_map,List.getElem?_map] at e;cases a:cs[i]? with
 | none=>rw [a] at e;simp at e
 | some p=>
  rw [a] at e;obtain rfl:LeafK.i (calP p.1)=x:=by simpa using e
  have H:=(Ll a)
  obtain ⟨G,r⟩:=C i p a;have B:=v i y _ F (by rw [List.getElem?_map,a];rfl);obtain ⟨J,d⟩:=B;obtain rfl:=len_of d (m:=p.1.length) G ω;refine ⟨calP_mono _,?_⟩;have D:=d.vis (c':=rc15 c) (λb f=>rc15_zero f ω);have:=D.reads (l:=p.1) (E:=DA wr) (λk z j=>⟨_,(r k z j).1⟩) (λk z g j q=>?_)
  .unfold calP
   rw [Hk] at this ⊢;exact this
  .obtain ⟨e1,e2,av,e3,e4,-⟩:=r k z j
   have o:=e4 (.inl ω);have A:Dq (mask wr (rc15 c)) c 15 av z.args:=⟨o.1.vis (λb f=>rc15_zero f (.inl rfl)),o.2⟩
   have d:=A.reads;rw [Hk] at d;exact ⟨q _ _ e1,⟨av,q _ _ e3,d⟩,e2⟩
def rc15_vals {s:Tra} (n:GVals wr c vs (cg s (cX0 s) (cX1 s) (cX2 s) (cX5 s) (cQ cs) (cX7 s) (cX8 s) (cX9 s) (cX10 s))) (a:cs.map (·.1)=s.A) (m:CalSt w s.A.length 0 cs c wr):GVals wr (rc15 c) vs (traG s):=by
 obtain ⟨i,k,e⟩:=n;refine ⟨i,k,λj y x g d=>?_⟩;by_cases b:j=6
 .subst b
  have l:RowLf wr c 6 y 65 1 (cs.map λp=>.q 64 2 p.2):=e 6 y _ g rfl;have f:=rc15_calls l m (by rw [<-a,List.length_map]);rw [a] at f;obtain rfl:cX6 s=x:=by have:ς (cX6 s)=ς x:=d;simpa using this
  exact f
 .have aA:=(Ll d)
  have h:(cg s (cX0 s) (cX1 s) (cX2 s) (cX5 s) (cQ cs) (cX7 s) (cX8 s) (cX9 s) (cX10 s))[j]?=ς x:=by
   rw [<-d,<- cg_all]
   match j,b with
   | 0,_=>rfl
   | 1,_=>rfl
   | 2,_=>rfl
   | 3,_=>rfl
   | 4,_=>rfl
   | 5,_=>rfl
   | 6,b=>exact absurd rfl b
   | 7,_=>rfl
   | 8,_=>rfl
   | 9,_=>rfl
   | 10,_=>rfl
   | 11,_=>rfl
   | 12,_=>rfl
   | j+13,_=>rfl
  exact rc15_cell (e j y x g h) (Nl aA (show (traG s).length<=16 from by show 13<=16;omega)) b
def glue_vals {b:A1} {w':Ϣ} (h:AT T (EN w) b w w') (a:GVals w' b vs g):GVals w' (glue (w:Nat) c b) vs g:=⟨a.1,a.2.1,λj y x k d=>by
 have f:=Nl (Ll d) a.2.1;have:=a.2.2 j y x k d;cases x with
 | p x=>exact this
 | r e sz xs=>exact glue_rowLf h this f
 | i P=>exact glue_i h this⟩
def RowLf.form_ {xs:List LeafK} (h:RowLf w c j u e sz xs):∃ a n cap,u=σ a n cap:=by
 obtain ⟨n,vs,b,_⟩:=h;obtain ⟨a,cap,e,_⟩:=b.form;exact ⟨a,n,cap,e⟩
def puts13_row {T:TypeId} (h:w.heap[b]?=ς (χ #[x0,x1,x2,x3,x4,x5,x6,x7,x8,x9,x10,x11,x12] T (0,0))) (v0 v1 v2 v3 v4 v5 v6 v7 v8 v9 a c d:ϒ):(putsW w b 0 [v0,v1,v2,v3,v4,v5,v6,v7,v8,v9,a,c,d]).heap[b]?=ς (χ #[v0,v1,v2,v3,v4,v5,v6,v7,v8,v9,a,c,d] T (0,0)):=by
 have i:=ϡ w b 0 _ _ v0 h;have j:=ϡ _ b 1 _ _ v1 i;have k:=ϡ _ b 2 _ _ v2 j;have l:=ϡ _ b 3 _ _ v3 k;have m:=ϡ _ b 4 _ _ v4 l;have n:=ϡ _ b 5 _ _ v5 m;have o:=ϡ _ b 6 _ _ v6 n;have p:=ϡ _ b 7 _ _ v7 o;have r:=ϡ _ b 8 _ _ v8 p;have s:=ϡ _ b 9 _ _ v9 r;have e:=ϡ _ b 10 _ _ a s;have f:=ϡ _ b 11 _ _ c e;have g:=ϡ _ b 12 _ _ d f;refine (show (((((((((((((w.setCell (π b 0) v0).setCell (π b 1) v1).setCell (π b 2) v2).setCell (π b 3) v3).setCell (π b 4) v4).setCell (π b 5) v5).setCell (π b 6) v6).setCell (π b 7) v7).setCell (π b 8) v8).setCell (π b 9) v9).setCell (π b 10) a).setCell (π b 11) c).setCell (π b 12) d).heap[b]?=_ from ?_);exact g.trans (congrArg (λq=>ς (Obj.cells q T (0,0))) (show ((((((((((((((#[x0,x1,x2,x3,x4,x5,x6,x7,x8,x9,x10,x11,x12]:Array ϒ).setIfInBounds 0 v0).setIfInBounds 1 v1).setIfInBounds 2 v2).setIfInBounds 3 v3).setIfInBounds 4 v4).setIfInBounds 5 v5).setIfInBounds 6 v6).setIfInBounds 7 v7).setIfInBounds 8 v8).setIfInBounds 9 v9).setIfInBounds 10 a).setIfInBounds 11 c).setIfInBounds 12 d)=#[v0,v1,v2,v3,v4,v5,v6,v7,v8,v9,a,c,d] by kernel_rfl))
def row13 {T:TypeId} (h:W.heap[R]?=ς (χ #[x0,x1,x2,x3,x4,x5,x6,x7,x8,x9,x10,x11,x12] T (0,0))):∀ (j:Nat) v,([x0,x1,x2,x3,x4,x5,x6,x7,x8,x9,x10,x11,x12]:List ϒ)[j]?=ς v->W.cell? (π R j)=ς v:=λj v a=>by
 rw [cell_of_row _ _ _ _ _ _ h,List.getElem?_toArray];exact a
def load_tra (h:W.heap[R]?=ς (χ #[x0,x1,x2,x3,x4,x5,x6,x7,x8,x9,x10,x11,x12] 39 (0,0))):(loadVar 39 (π R 0)).run prog W=.ok (.agg #[x0,x1,x2,x3,x4,x5,x6,x7,x8,x9,x10,x11,x12]) W:=by
 have a:=row13 h;have e:=a 0 _ rfl;have f:=a 1 _ rfl;have g:=a 2 _ rfl;have i:=a 3 _ rfl;have j:=a 4 _ rfl;have k:=a 5 _ rfl;have l:=a 6 _ rfl;have m:=a 7 _ rfl;have n:=a 8 _ rfl;have o:=a 9 _ rfl;have b:=a 10 _ rfl;have c:=a 11 _ rfl;have d:=a 12 _ rfl;simp [go_sem,e,f,g,i,j,k,l,m,n,o,b,c,d]
def results_tra {b:Func} {p:Tmp} (d:b.results=#[.cell p 39]) (h:W.heap[R]?=ς (χ #[x0,x1,x2,x3,x4,x5,x6,x7,x8,x9,x10,x11,x12] 39 (0,0))) (a:Array ϒ) (c:a.getD p undef=.pointer (ς (π R 0))) :
  (results b a).run prog W=.ok (.agg #[x0,x1,x2,x3,x4,x5,x6,x7,x8,x9,x10,x11,x12]) W:=by
 simp only [results,d];rw [Array.getD_eq_getD_getElem?] at c;simp [c,asAddr,load_tra h,Result.andThen,Sem.run_bind]
