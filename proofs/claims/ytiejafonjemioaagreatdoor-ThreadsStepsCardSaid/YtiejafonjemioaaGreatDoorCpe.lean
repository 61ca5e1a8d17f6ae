import Derived.Test.YtiejafonjemioaaGreatDoorCpm
set_option maxHeartbeats 4000000
set_option maxRecDepth 100000
set_option linter.all false
open Go renaming World→Ϣ,Value→ϒ,heap_setCell_same→ϡ
open Option renaming some→ς
open Bool renaming false→ϝ,true→ϑ
open Go.Value renaming slice→σ
open Go.Obj renaming cells→χ
namespace Go.Proofs.YtiejafonjemioaaGreatDoor
open Go.RowKit Proofs.Tryz
variable {o:Oper} {a:Act} {Q:Exit->Act->Ϣ->Prop} {w w' wr W:Ϣ} {c c':A1} {v gv nv x0 x1 x2 x3 x4 x5 x6 x7 x8 x9:ϒ} {n bi br bo k R bt:Nat} {xs nx:List ϒ} {m:Mm} {iv:Array ϒ} {fn:Func} {p:Tmp} {s:A3} {T:Nat->Prop}
def RZ {r:Array Oper} {f:List Oper} (y:o.guard=none) (tag:Nat) (s x:Operand) (M:o.op=.call { callee:=.builtin .append,args:=#[s,x],argTypes:=#[22,22] })
  (t:Nat) (K:w.heap[t]?=ς (χ #[] 3 (0,0))) (hs:a.eval s=σ (ς (π t 0)) 0 0) (xa:Option Addr) (n xc:Nat) (l:List Int) (B:Nat) (N:a.eval x=σ xa n xc) (hl:AE B w 1 Aj (σ xa n xc) l) (L:l.length<=1000000) (J:c t=tag) (p:tag≠0) (z:∀ b,(w:Nat)<=b->c b=0)
  (h:∀ g d w' c',Dq w' c' tag (σ (ς (π g 0)) n d) l->AT (λk=>k=tag) c c' w w'->(∀ b,w'.heap.size<=b->c' b=0)->wpList prog r Q f (a.put o.dst (σ (ς (π g 0)) n d)) w'):wpList prog r Q (o::f) a w:=by
 refine wpList_plain y λ_ I=>?_;obtain ⟨D,E,C,O,P,R,m⟩:=hl;obtain ⟨rfl,rfl,rfl⟩:xa=D/\n=l.length/\xc=E:=by simpa using C
 refine Nj tag s x 22 3 M underlying22 Cx rfl δ δ t K hs xa l.length xc (l.map (Value.int .i64)) N ψ ?_ (λu e=>?_) L J p z (λg d w' c' F G H=>I _ _ (h g d w' c' ⟨F,λq A=>?_⟩ G H))
 .rcases m with p|⟨b,oo,rfl,aA,m⟩
  .left;rw [p];rfl
  .exact .inr ⟨_,rfl,λj u e=>by
    rw [List.getElem?_map] at e;cases v:l[j]? with
    | none=>rw [v] at e;simp at e
    | some q=>
     rw [v] at e;simp at e;subst e;have:=(m j q v).1;rw [Nat.mul_one] at this;rw [GB];exact this⟩
 .obtain ⟨_,_,rfl⟩:=List.mem_map.1 e;rfl
 .rcases m with p|⟨b,oo,rfl,aA,m⟩
  .subst p;cases A
  .obtain ⟨i,hi,rfl⟩:=List.getElem_of_mem A
   exact (m i _ (Lg hi)).2
def Ex {K:Act->Ϣ->Prop} (tag:Nat) (s x:Operand) (I:o.op=.call { callee:=.builtin .append,args:=#[s,x],argTypes:=#[22,22] })
  (p:Nat) (G:w.heap[p]?=ς (χ #[] 3 (0,0))) (hs:a.eval s=σ (ς (π p 0)) 0 0) (xa:Option Addr) (n xc:Nat) (l:List Int) (B:Nat) (J:a.eval x=σ xa n xc) (hl:AE B w 1 Aj (σ xa n xc) l) (H:l.length<=1000000) (F:c p=tag) (m:tag≠0) (t:∀ b,(w:Nat)<=b->c b=0)
  (h:∀ g d w' c',Dq w' c' tag (σ (ς (π g 0)) n d) l->AT (λk=>k=tag) c c' w w'->(∀ b,w'.heap.size<=b->c' b=0)->K (a.put o.dst (σ (ς (π g 0)) n d)) w'):o.wp prog a w K Q:=by
 obtain ⟨z,A,y,L,M,N,f⟩:=hl;obtain ⟨rfl,rfl,rfl⟩:xa=z/\n=l.length/\xc=A:=by simpa using y
 refine Nj tag s x 22 3 I underlying22 Cx rfl δ δ p G hs xa l.length xc (l.map (Value.int .i64)) J ψ ?_ (λu e=>?_) H F m t (λg d w' c' C D E=>h g d w' c' ⟨C,λq v=>?_⟩ D E)
 .rcases f with m|⟨b,oo,rfl,aA,f⟩
  .left;rw [m];rfl
  .exact .inr ⟨_,rfl,λj u e=>by
    rw [List.getElem?_map] at e;cases r:l[j]? with
    | none=>rw [r] at e;simp at e
    | some q=>
     rw [r] at e;simp at e;subst e;have:=(f j q r).1;rw [Nat.mul_one] at this;rw [GB];exact this⟩
 .obtain ⟨_,_,rfl⟩:=List.mem_map.1 e;rfl
 .rcases f with m|⟨b,oo,rfl,aA,f⟩
  .subst m;cases v
  .obtain ⟨i,hi,rfl⟩:=List.getElem_of_mem v
   exact (f i _ (Lg hi)).2
def TM (t:Nat):Prop:=t≠0/\t≠99
def YK:¬TM 0:=λh=>h.1 rfl
def WP:¬TM 99:=λh=>h.2 rfl
def AT.tm {t:Nat} (h:AT (λk=>k=t) c c' w w') (a:t≠0) (b:t≠99):AT TM c c' w w':=h.mono (λk d=>by subst d;exact ⟨a,b⟩) YK
def AT.ntm (h:AT NO c c' w w'):AT TM c c' w w':=h.mono (λk a=>a.elim) YK
structure Mz (m:Mm) (w:Ϣ) (bi br bo k:Nat) (iv:Array ϒ) (gv v:ϒ) (c:A1) (xs:List ϒ) (wr:Ϣ):Prop where
 g:Dq wr c 2 gv m.G
 row:Ao wr c 3 74 2 v k xs
 chg:AT TM (EN w) c w wr
 hi:∀ b,(wr:Nat)<=b->c b=0
 box:wr.heap[bo]?=ς (χ #[gv,v] 28 (0,0))
 cbo:c bo=4
 res:wr.heap[br]?=ς (χ #[ν,ν] 28 (0,0))
 cbr:c br=5
 inp:wr.heap[bi]?=ς (χ iv 28 (0,0))
 cbi:c bi=0
 elem:∀ (i:Nat) x,i<k->m.N[i]?=ς x->∃ lv,xs[i*2]?=ς (ι x.type)/\xs[i*2+1]?=ς lv/\in64 x.type/\Dq wr c (10+5*i) lv x.f
 len:xs.length=k*2
structure Mq (w:Ϣ) (c:A1) (m:Mm) (gv nv:ϒ) (nx:List ϒ):Prop where
 hi:∀ b,(w:Nat)<=b->c b=0
 g:Dq w c 2 gv m.G
 n:Ao w c 3 74 2 nv m.N.length nx
 nn:∀ (i:Nat) x,m.N[i]?=ς x->∃ lv,nx[i*2]?=ς (ι x.type)/\nx[i*2+1]?=ς lv/\in64 x.type/\Dq w c (10+5*i) lv x.f
def IU (m:Mm) (w:Ϣ) (e:Ending) (w':Ϣ):Prop:=∃ ga gc na nc,e=.returned (.agg (Bm ga gc na nc m))/\Below w w w'/\∀ c:A1,(∀ b,(w:Nat)<=b->c b=0)->∃ c' nx,AT NO c c' w w'/\Mq w' c' m (σ ga m.G gc) (σ na m.N nc) nx
def Ao.recol {tag:Nat} {e:TypeId} {sz:Nat} (h:Ao w c tag e sz v n xs) (d:∀ b,c b=tag->c' b=tag):Ao w c' tag e sz v n xs:=⟨h.1,λb a=>d b (h.2.1 b a),h.2.2⟩
def Mz.post {f na:Option Addr} {g nc:Nat} (h:Mz m w bi br bo m.N.length iv (σ f m.G g) (σ na m.N nc) c xs wr):IU m w (.returned (.agg (Bm f g na nc m))) ((wr.setCell (π br 0) (σ f m.G g)).setCell (π br 1) (σ na m.N nc)):=by
 obtain ⟨o,n⟩:=ε ((wr.setCell (π br 0) (σ f m.G g)).setCell (π br 1) (σ na m.N nc));have j:AT (λt=>t=5) c c wr o:=by rw [n];exact (AT.set (T:=λt=>t=5) h.cbr ω).trans (AT.set h.cbr ω)
 have l:=h.chg.trans (j.tm δ δ);have q:(o:Nat)=(wr:Nat):=by rw [n];simp
 rw [<-n];refine ⟨f,g,na,nc,rfl,l.below0 WP,λc' s=>?_⟩;have k:∀ a,a≠99->∀ b,c b=a->(if b<(w:Nat) then c' b else c b)=a:=λa r b d=>by rw [if_neg (Nat.not_lt.2 (l.fresh d r))];exact d
 have e:=l.below0 WP;refine ⟨λb=>if b<(w:Nat) then c' b else c b,xs,⟨e.os,e.tape,e.output,e.size,λb d _=>e.block b d,λb d=>if_pos d,no 0⟩,λb d=>?_,⟨(h.g.1.kp j ω).recol (k 2 δ),h.g.2⟩,(h.row.kp j ω).recol (k 3 δ),λi x p=>?_⟩
 .show (if _ then _ else _)=_
  rw [if_neg (by have:=e.size;omega)];exact h.hi b (by rw [<-q];exact d)
 .obtain ⟨lv,h1,h2,h4,h5⟩:=h.elem i x (Ll p) p
  exact ⟨lv,h1,h2,h4,⟨(h5.1.kp j ω).recol (k _ ω),h5.2⟩⟩
def Mz.next {s a:Ϣ} {g f:Nat} {v':ϒ} {j d:A1} {x:Gl} (h:Mz m w bi br bo k iv gv v c xs wr) (I:m.N[k]?=ς x) (l:in64 x.type) (o:AT (λt=>t=10+5*k) c j wr s) (hl:Dq s j (10+5*k) (σ (ς (π g 0)) x.f f) x.f)
  (G:AT (λt=>t=3) j d (s.alloc (χ #[ι x.type,σ (ς (π g 0)) x.f f] 74)) a) (p:∀ b,(a:Nat)<=b->d b=0) (H:Ao a d 3 74 2 v' (k+1) (xs++[ι x.type,σ (ς (π g 0)) x.f f])) :
  Mz m w bi br bo (k+1) iv gv v' d (xs++[ι x.type,σ (ς (π g 0)) x.f f]) (a.setCell (π bo 1) v'):=by
 have A:=(AT.ob (AA _ _) δ).trans G;have n:AT (λt=>t=10+5*k\/t=3) c d wr a:=(o.mono (λt h=>.inl h) ω).trans (A.mono (λt h=>.inr h) ω);have D:=(La h.box)
 have z:d bo=4:=by rw [n.old _ D];exact h.cbo
 have q:AT (λt=>t=4) d d a (a.setCell (π bo 1) v'):=AT.set z ω;have e:AT (λt=>(t=10+5*k\/t=3)\/t=4) c d wr (a.setCell (π bo 1) v'):=(n.mono (λt h=>.inl h) ω).trans (q.mono (λt h=>.inr h) ω);have E:a.heap[bo]?=ς (χ #[gv,v] 28 (0,0)):=by rw [n.kp _ D (by rw [h.cbo];omega)];exact h.box
 have C:=(La h.res)
 have B:=(La h.inp)
 have u:=h.len;have F:(a:Nat)=(a.setCell (π bo 1) v').heap.size:=by simp
 refine ⟨h.g.kp e ω,H.kp q ω,h.chg.trans (e.mono (λt h=>by unfold TM;omega) YK),λb o=>p b (by rw [F];exact o),?_,z,?_,by rw [e.old _ C];exact h.cbr,?_,by rw [e.old _ B];exact h.cbi,λi y J r=>?_,by simp [h.len];omega⟩
 .rw [ϡ _ _ _ _ _ _ E];rfl
 .rw [e.kp _ C (by rw [h.cbr];omega)];exact h.res
 .rw [e.kp _ B (by rw [h.cbi];omega)];exact h.inp
 .by_cases aH:i<k
  .obtain ⟨lv,e1,e2,e3,e4⟩:=h.elem i y aH r
   exact ⟨lv,by rw [Al ω];exact e1,by rw [Al ω];exact e2,e3,e4.kp e ω⟩
  .obtain rfl:i=k:=ω
   rw [I] at r;cases r;exact ⟨_,by rw [Ar ω,u,Nat.sub_self];rfl,by rw [Ar ω,u,show i*2+1 - i*2=1 by omega];rfl,l,(hl.kp A ω).kp q ω⟩
def SQ (h:W.heap[R]?=ς (χ #[gv,nv] 28 (0,0))):(loadVar 28 (π R 0)).run prog W=.ok (.agg #[gv,nv]) W:=by
 have a:=Ω2 h;simp [go_sem,a.1,a.2]
def JK (c:fn.results=#[.cell p 28]) (h:W.heap[R]?=ς (χ #[gv,nv] 28 (0,0))) (a:Array ϒ) (b:a.getD p undef=.pointer (ς (π R 0))) :
  (results fn a).run prog W=.ok (.agg #[gv,nv]) W:=by
 simp only [results,c];rw [Array.getD_eq_getD_getElem?] at b;simp [b,asAddr,SQ h,Result.andThen,Sem.run_bind]
def PL (m:Mm) (mv:ϒ) (B:Nat) (w:Ϣ) (hB:B<=w) (hm:Lw B w mv m) (Q:m.G.length<=1000000) (cR:m.N.length<=4096) (P:∀ x∈m.N,x.f.length<=1000000) :
  Calls prog 50 #[mv] w (IU m w):=by
 obtain ⟨gv,nv,rfl,hg,hn⟩:=hm;obtain ⟨T,U,rfl⟩:=hg.form;obtain ⟨R,nc,rfl⟩:=hn.form;obtain ⟨g,Z⟩:=ε m.G.length;obtain ⟨s,bH⟩:=ε m.N.length;rw [<-Z] at hg Q ⊢;rw [<-bH] at hn cR ⊢;obtain ⟨HN,bX,aW,bU,HB⟩:=Λ5 hn Z bH P hB;obtain ⟨W,E⟩:=ε ((w.alloc (χ #[σ T g U,σ R s nc] 28)).alloc (χ #[ν,ν] 28));have bB:=Lh (bl2 E);have bI:=Lh (sz2 E);have b0:=ro21 E;have b1:=ro22 E;have B0:=Lh b0;have B1:=Lh b1;have i0:=Cw b0 0 rfl;have zi:=Bl i0;have bT:=@Lh ((W.alloc (χ #[] 3)).heap[(W:Nat)]?=ς (χ #[] 3 (0,0))) (Hn _ _);have bW:=@Lh (AE B (W.alloc (χ #[] 3)) 1 Aj (σ T g U) m.G) ((hg.ints (bB.o.mono hB)).ints ((AA _ _).mono (Nt hB bB.o.size)));have cI:m.G.length<=1000000:=by rw [<-Z];exact Q
 have bR:=@Lh (AT NO (EN w) (λx=>if x=(W:Nat) then 2 else if x=(w:Nat)+1 then 5 else EN w x) w (W.alloc (χ #[] 3))) (by
  have e:=bB.o.th (AA W (χ #[] 3));exact ⟨e.os,e.tape,e.output,e.size,λx l _=>e.block x l,λx l=>by have:=bI.o;show (if _ then _ else if _ then _ else _)=_;rw [if_neg ω,if_neg ω],no 0⟩)
 have aU:Hid (∀ x,(W.alloc (χ #[] 3)).heap.size<=x->(λx=>if x=(W:Nat) then 2 else if x=(w:Nat)+1 then 5 else EN w x) x=0):=Lh (λx l=>by
  have:=bI.o;simp at l;show (if _ then _ else if _ then _ else _)=_;rw [if_neg ω,if_neg ω];exact Ee x ω)
 clear b0 b1 hg hn Z bH P hB;go_enter func50,ntmps50;go_upto_region 1 with fail;rw [<-E];have HW:=Lh E;clear E;go_upto_region 2 with (with_reducible refine RZ rfl 2 (.tmp 6) (.tmp 8) rfl (c:=λx=>if x=(W:Nat) then 2 else if x=(w:Nat)+1 then 5 else EN w x) W bT.o rfl T g U m.G B rfl bW.o cI (if_pos rfl) δ aU.o ?_;intro r o C c2 N f A;have HI:=Lh N;have X:=Lh f;have HH:=Lh A;clear N f A)
 obtain ⟨W3,L⟩:=ε (C.alloc (χ #[σ (ς (π r 0)) g o,ν] 28));have aH:=@Lh (Mz m w w (w+1) C 0 #[σ T g U,σ R s nc] (σ (ς (π r 0)) g o) ν (λx=>if x=(C:Nat) then 4 else c2 x) [] W3) (by
  have hz:=bI.o;have hP:AT NO c2 (λx=>if x=(C:Nat) then 4 else c2 x) C W3:=AT.paint _ _ (by rw [L];exact AA _ _) (Nr _);have h2:=X.o.size;have hE:(W.alloc (χ #[] 3)).heap.size=(W:Nat)+1:=by simp
  have aO:∀ b v,b<(W:Nat)->(if b=(w:Nat)+1 then 5 else EN w b)≠2->W.heap[b]?=v->W3.heap[b]?=v:=λb v e hc hv=>by rw [hP.kp b ω (no _),X.o.kp b ω (by rw [if_neg ω];exact hc),Ha _ _ _ e];exact hv
  have cl:∀ b,b<(W:Nat)->(if b=(C:Nat) then 4 else c2 b)=(if b=(w:Nat)+1 then 5 else EN w b):=λb e=>by rw [if_neg ω,X.o.old b ω,if_neg ω]
  refine ⟨HI.o.kp hP (no _),Ao.nil _ _ _ _ _,(bR.o.ntm.trans (X.o.tm δ δ)).trans hP.ntm,λb e=>?_,by rw [L];exact Hn _ _,if_pos rfl,aO _ _ ω (by rw [if_pos rfl];decide) B1.o,?_,aO _ _ ω (by rw [if_neg ω,Ee _ (Nr _)];decide) B0.o,?_,λi x hi=>by omega,rfl⟩
  .have cN:(C:Nat)+1<=b:=by rw [L] at e;simpa using e
   show (if _ then _ else _)=_;rw [if_neg ω];exact HH.o b ω
  .exact (cl _ ω).trans (if_pos rfl)
  .exact (cl _ ω).trans (by rw [if_neg ω];exact Ee _ (Nr _)))
 obtain ⟨bo,bC⟩:=ε (C:Nat);rw [<-L,<- bC];rw [<-bC] at aH;clear L bC i0 zi;have i1:=Cw aH.o.inp 1 rfl;have zi:=Bl i1;go_wp2_with fail;clear i1 zi;go_loopw [14] (λi wr=>∃ k:Nat,k<=s/\i=ι k/\Hid (∃ a cQ c xs,Mz m w w (w+1) bo k #[σ T g U,σ R s nc] (σ (ς (π r 0)) g o) (σ a k cQ) c xs wr)) (λi _=>s - (intOf i).toNat)
 case atStart=>exact ⟨0,Nat.zero_le _,rfl,Lh ⟨_,_,_,_,aH.o⟩⟩
 case round=>
  obtain ⟨k,hk,rfl,aR⟩:=hrel;obtain ⟨z,q,c,xs,aR⟩:=aR.o;have d:=Lh aR;clear aR;by_cases cO:k<s
  .obtain ⟨x,l⟩:∃ y,m.N[k]?=ς y:=⟨_,Lg (by have:=aW.o;omega)⟩
   have HX:=Lh l;have bL:=(d.o.chg.below0 WP).mono HB.o;obtain ⟨H,no_,cL,cM,cE⟩:∃ H no,R=ς (π H no)/\H<B/\GP B wr H (no+k*2) x:=by
    obtain ⟨a0,aX,cH,_,_,_,hE⟩:=HN.o;obtain ⟨rfl,_,rfl⟩:R=a0/\s=m.N.length/\nc=aX:=by have:=aW.o;simpa [this] using cH
    rcases hE with h0|⟨H,no,rfl,e,hE⟩
    .rw [h0] at l;simp at l
    .exact ⟨H,no,rfl,e,(hE k x l).below bL e⟩
   subst cL;obtain ⟨n0,⟨lv,n1,bG⟩,bK⟩:=cE;obtain ⟨la,lc,rfl⟩:=bG.form;have bO:=bU.o x (Lm l);obtain ⟨V,O⟩:=ε (wr.alloc (χ #[ι x.type,σ la x.f lc] 74));have J:=Lh (bl1 O);have bA:=ro11 O;have S:=Ω2 bA;have v2:V.cell? (π bo 1)=ς (σ z k q):=AB J.o (Cr d.o.box rfl);have cJ:=In k;have cK:(k:Int)<(s:Int):=ω;have bQ:=Lh bK;have bV:=Lh bO;have aZ:=Nt HB.o d.o.chg.size;have bS:=@Lh ((V.alloc (χ #[] 3)).drew.heap[(V:Nat)]?=ς (χ #[] 3 (0,0))) (Hn V _);have G:=@Lh (Below V V (V.alloc (χ #[] 3)).drew) (Cb V _);have cB:=Lh ((bG.ints (J.o.mono aZ)).ints (G.o.mono (Nt aZ J.o.size)));have K:=Lh (sz1 O);have HP:=@Lh (AT NO c (λy=>if y=(V:Nat) then 10+5*k else c y) wr (V.alloc (χ #[] 3)).drew) (AT.paint _ _ (J.o.th G.o) J.o.size);have bZ:Hid (∀ y,(V.alloc (χ #[] 3)).drew.heap.size<=y->(λy=>if y=(V:Nat) then 10+5*k else c y) y=0):=Lh (λy hy=>by
    have cP:(V:Nat)+1<=y:=by simpa using hy
    show (if _ then _ else _)=_;rw [if_neg ω];exact d.o.hi y (by have:=K.o;omega))
   clear l bL bG bK bO bA aZ;go_upto_region 5 with fail;rw [<-O];clear O n0 n1 cJ cK;refine Ac (λVs=>Vs.cell? (π wr 0)=ς (ι x.type)/\Vs.cell? (π wr 1)=ς (σ la x.f lc)/\Vs.cell? (π bo 1)=ς (σ z k q)) [4,7,8,9,10,12] ϑ 13 rfl κ κ ⟨S.1,S.2,v2⟩ ?_;refine softA ?_;have Y:=Lh (And.intro S.1 (And.intro S.2 (v2)));clear S v2;refine AH κ ?_;go_simp;refine ⟨Θ3 (AA _ _) Y.o,?_⟩;refine AH κ ?_;refine Ex (10+5*k) (.tmp 22) (.tmp 24) rfl (c:=λy=>if y=(V:Nat) then 10+5*k else c y) V bS.o rfl la x.f.length lc x.f B rfl cB.o bV.o (if_pos rfl) ω bZ.o (λg1 c1 w8 M N f A=>?_);have cA:=Lh N;have bJ:=Lh f;have bY:=Lh A;have bE:¬(λy=>if y=(V:Nat) then 10+5*k else c y) (wr:Nat)=10+5*k:=by show ¬(if _ then _ else _)=_;rw [if_neg (by have:=K.o;omega),d.o.hi _ (Nr _)];omega
   have bN:¬(λy=>if y=(V:Nat) then 10+5*k else c y) bo=10+5*k:=by
    have:=(La d.o.box)
    show ¬(if _ then _ else _)=_;rw [if_neg (by have:=K.o;omega),d.o.cbo];omega
   have e0:=f.cell (AB G.o Y.o.1) bE;have e1:=f.cell (AB G.o Y.o.2.1) bE;have e2:=f.cell (AB G.o Y.o.2.2) bN;have D:=Lh (And.intro e0 (And.intro e1 e2));clear N f A bE bN e0 e1 e2;refine ⟨.inl ⟨D.o.1,D.o.2.1,D.o.2.2⟩,?_⟩
   (refine' Ae κ _ (λwV cF=>?_) ?_;rotate_left;(clear cF;go_simp);(try with_reducible rfl);try simp only [Ap])
   refine AH κ ?_;go_simp;refine ⟨Θ3 (AA _ _) D.o,?_⟩;have aS:=Lh ((HP.o.mono (λt h=>h.elim) ω).trans bJ.o);have aT:=@Lh (AT (λt=>t=10+5*k) c M wr (w8.alloc (χ #[ι x.type,σ (ς (π g1 0)) x.f c1] 74))) (aS.o.trans (AT.ob (AA _ _) ω));have aV:=@Lh (∀ b,(w8.alloc (χ #[ι x.type,σ (ς (π g1 0)) x.f c1] 74)).heap.size<=b->M b=0) (λb e=>bY.o b (by simp at e;omega));refine AH κ ?_;refine Dz (λt=>t=3) (.tmp 19) (.tmp 27) 26 74 rfl underlying26 IZ rfl δ δ (c:=M) (tag:=3) (v:=σ z k q) (n:=k) (xs:=xs) rfl (d.o.row.kp aT.o ω) (π w8 0) 1 1 [ι x.type,σ (ς (π g1 0)) x.f c1] rfl rfl (λj u hu=>(Cy w8 _ _ j).trans (by simpa using hu)) (by simp [Value.oneCell']) δ ω rfl δ aV.o (λg3 aY w9 c9 aN f A cG=>?_);have bP:=d.o.next HX.o bQ.o aS.o cA.o f A aN;have aQ:=(La d.o.box)
   have F:¬M (wr:Nat)=3:=by rw [bJ.o.old _ (Nl (by have:=K.o;omega) G.o.size),if_neg (by have:=K.o;omega),d.o.hi _ (Nr _)];decide
   have bD:¬M bo=3:=by rw [aS.o.old _ aQ,d.o.cbo];decide
   have q0:=f.cell (AB (AA _ _) D.o.1) F;have q1:=f.cell (AB (AA _ _) D.o.2.1) F;have q2:=f.cell (AB (AA _ _) D.o.2.2) bD;have qf:w9.frozen? (π bo 1)=ϝ:=f.frozen (Nl aQ aT.o.size) (aT.o.frozen aQ (Fz d.o.box) (by show ¬c bo=_;rw [d.o.cbo];omega)) bD;refine ⟨.inl ⟨q0,q1,q2⟩,?_⟩;have cD:=Lh bP;clear aN f A cG bP F bD q0 q1 aQ;refine AH κ ?_;go_simp;refine BH ?_;obtain ⟨W9,bM⟩:=ε (w9.setCell (π bo 1) (σ (ς (π g3 0)) (k+1) aY));have aF:=cD.o;rw [<-bM] at aF ⊢;have cC:=Lh aF;clear aF bM q2 qf;go_wp2;go_roundw
   case rel=>exact ⟨k+1,ω,by go_num,Lh ⟨_,_,_,_,cC.o⟩⟩
   case measure=>simp [intOf];omega
  .obtain rfl:k=s:=ω
   have bF:=@Lh (IU m w (.returned (.agg #[σ (ς (π r 0)) g o,σ z k q])) ((wr.setCell (π (w+1) 0) (σ (ς (π r 0)) g o)).setCell (π (w+1) 1) (σ z k q))) (by
    have h:=d.o;rw [aW.o,bX.o] at h ⊢;exact h.post)
   have F:=d.o.box;have I:=d.o.res;have k0:=Ω2 F;have r0:=Ω2 I;have q0:=Ψ 0 I;have q1:=Ψ 1 I;have Q1:=@Lh (((wr.setCell (π (w+1) 0) (σ (ς (π r 0)) g o)).setCell (π (w+1) 1) (σ z k q)).heap[(w:Nat)+1]?=ς (χ #[σ (ς (π r 0)) g o,σ z k q] 28 (0,0))) (by
    have h1:=ϡ wr ((w:Nat)+1) 0 _ _ (σ (ς (π r 0)) g o) I;exact ϡ _ ((w:Nat)+1) 1 _ _ (σ z k q) h1)
   clear F I;go_wp2;exact bodyPost_ret (v:=.agg #[σ (ς (π r 0)) g o,σ z k q]) (JK (p:=2) rfl Q1.o _ rfl) rfl bF.o
def ET {a b d e:Nat} (h:a≠b) (k:a≠d) (l:a≠e):¬(((NO a\/a=b)\/a=d)\/a=e):=λx=>by
 rcases x with ((x|x)|x)|x
 .exact x
 .exact h x
 .exact k x
 .exact l x
def Au.pushR (h:Au w c bt s):∃ N O nx,w.cell? (π bt 3)=ς (σ N s.R O)/\Ao w c 4 51 9 (σ N s.R O) s.R.length nx/\
  ∀ g o d a p (m:AV) f,AT (λk=>k=19) c o w g->(∀ b,(g:Nat)<=b->o b=0)->AE g (mask g o) 4 (CK g) p m.J->GC m->AT (λk=>k=4) o a g d->(∀ b,(d:Nat)<=b->a b=0)->Ao d a 4 51 9 f (s.R.length+1) (nx++FW p m)->
   Au (d.setCell (π bt 3) f) a bt { s with R:=s.R++[m] }/\AT NZ c a w (d.setCell (π bt 3) f):=by
 obtain ⟨V,h,n⟩:=h;have B:=h.r (no _);obtain ⟨Z,oc,U,-⟩:=B.form;have M:=n.cell 3 (v:=V.rv) rfl;have T:=B.1.1;rw [U] at B M;refine ⟨Z,oc,V.rx,M,B,λg o d a p m f I R P Q A L W=>?_⟩;have D:AT (λk=>k=19\/k=4) c a w d:=(I.mono (λk E=>.inl E) ω).trans (A.mono (λk E=>.inr E) ω);have J:a bt=1:=by rw [D.old bt n.lt];exact n.lab
 have x:AT (λk=>k=1) a a d (d.setCell (π bt 3) f):=AT.set J ω;have S:∀ b,(d.setCell (π bt 3) f).heap.size<=b->a b=0:=λb X=>L b (by simpa using X);have K:=((h.kept I R).kept A L).kept x S;refine ⟨⟨{ V with rv:=f,rx:=V.rx++FW p m },⟨K.hi,
  λ_=>K.g (ET ω ω ω),
  λ_=>K.n (ET ω ω ω),
  λi y e=>by obtain ⟨q,F,G,H,q4⟩:=K.nn i y e;exact ⟨q,F,G,H,λ_=>q4 (ET ω ω ω)⟩,
  λ_=>by rw [List.length_append];exact W.kp x ω,
  λi y e=>by
   by_cases Y:i<s.R.length
   .rw [Al Y] at e
    obtain ⟨q,F,G,H⟩:=K.rr i y e;exact ⟨q,λj v C=>by rw [Al (by have:=NT C;omega)];exact F j v C,G,H⟩
   .obtain ⟨rfl,rfl⟩:i=s.R.length/\y=m:=by
     rw [Ar ω] at e;have:i - s.R.length=0:=by have:=(Ll e);simp at this;omega
     rw [this] at e;simp at e;exact ⟨ω,e.symm⟩
    exact ⟨p,λj v C=>by rw [Ar ω,T,Nat.add_sub_cancel_left];exact C,P.ups Dx (Nt A.size x.size) (A.sub.trans x.sub),Q⟩,
  λ_=>K.k (ET ω ω ω),
  λ_=>K.cr (ET ω ω ω),
  K.cl,
  λ_=>K.o (ET ω ω ω),
  λu l z=>by obtain ⟨v,r,t⟩:=K.ol u l z;exact ⟨v,r,λ_=>t (ET ω ω ω)⟩,
  λ_=>K.b (ET ω ω ω),
  λu l z=>by obtain ⟨v,r,t⟩:=K.bl u l z;exact ⟨v,r,λ_=>t (ET ω ω ω)⟩,
  λ_=>K.e (ET ω ω ω),
  λu l z=>by obtain ⟨v,r,t⟩:=K.el u l z;exact ⟨v,r,λ_=>t (ET ω ω ω)⟩,
  K.f64,
  K.s64⟩,
  ⟨by rw [ϡ _ _ _ _ _ _ (by rw [D.kp bt n.lt (by rw [n.lab];omega)];exact n.row)];rfl,J⟩⟩,(D.nz ω).trans (x.nz ω)⟩
def Au.pushC (h:Au w c bt s):∃ I J nx,w.cell? (π bt 5)=ς (σ I s.A J)/\Ao w c 6 54 1 (σ I s.A J) s.A.length nx/\
  ∀ g m d a t (l:List Bi) f,AT (λk=>k=19) c m w g->(∀ b,(g:Nat)<=b->m b=0)->AE g (mask g m) 2 (DA g) t l->AT (λk=>k=6) m a g d->(∀ b,(d:Nat)<=b->a b=0)->Ao d a 6 54 1 f (s.A.length+1) (nx++[t])->
   Au (d.setCell (π bt 5) f) a bt { s with A:=s.A++[l] }/\AT NZ c a w (d.setCell (π bt 5) f):=by
 obtain ⟨V,h,j⟩:=h;have z:=h.cr (no _);obtain ⟨T,U,P,-⟩:=z.form;have H:=j.cell 5 (v:=V.cv) rfl;have O:=z.1.1;rw [P] at z H;refine ⟨T,U,V.cx,H,z,λg m d a t l f E M L x G Q=>?_⟩;have A:AT (λk=>k=19\/k=6) c a w d:=(E.mono (λk B=>.inl B) ω).trans (x.mono (λk B=>.inr B) ω);have F:a bt=1:=by rw [A.old bt j.lt];exact j.lab
 have p:AT (λk=>k=1) a a d (d.setCell (π bt 5) f):=AT.set F ω;have N:∀ b,(d.setCell (π bt 5) f).heap.size<=b->a b=0:=λb R=>G b (by simpa using R);have K:=((h.kept E M).kept x G).kept p N;refine ⟨⟨{ V with cv:=f,cx:=V.cx++[t] },⟨K.hi,
  λ_=>K.g (ET ω ω ω),
  λ_=>K.n (ET ω ω ω),
  λi y e=>by obtain ⟨q,C,D,W,X⟩:=K.nn i y e;exact ⟨q,C,D,W,λ_=>X (ET ω ω ω)⟩,
  λ_=>K.r (ET ω ω ω),
  K.rr,
  λ_=>K.k (ET ω ω ω),
  λ_=>by rw [List.length_append];exact Q.kp p ω,
  λi y e=>by
   by_cases S:i<s.A.length
   .rw [Al S] at e
    obtain ⟨q,C,D⟩:=K.cl i y e;exact ⟨q,by rw [Al ω];exact C,D⟩
   .obtain ⟨rfl,rfl⟩:i=s.A.length/\y=l:=by
     rw [Ar ω] at e;have:i - s.A.length=0:=by have:=(Ll e);simp at this;omega
     rw [this] at e;simp at e;exact ⟨ω,e.symm⟩
    exact ⟨t,by rw [Ar ω,O,Nat.mul_one,Nat.sub_self];rfl,L.ups Hd (Nt x.size p.size) (x.sub.trans p.sub)⟩,
  λ_=>K.o (ET ω ω ω),
  λu l r=>by obtain ⟨v,n,o⟩:=K.ol u l r;exact ⟨v,n,λ_=>o (ET ω ω ω)⟩,
  λ_=>K.b (ET ω ω ω),
  λu l r=>by obtain ⟨v,n,o⟩:=K.bl u l r;exact ⟨v,n,λ_=>o (ET ω ω ω)⟩,
  λ_=>K.e (ET ω ω ω),
  λu l r=>by obtain ⟨v,n,o⟩:=K.el u l r;exact ⟨v,n,λ_=>o (ET ω ω ω)⟩,
  K.f64,
  K.s64⟩,
  ⟨by rw [ϡ _ _ _ _ _ _ (by rw [A.kp bt j.lt (by rw [j.lab];omega)];exact j.row)];rfl,F⟩⟩,(A.nz ω).trans (p.nz ω)⟩
def Au.pushO (h:Au w c bt s):∃ I J nx,w.cell? (π bt 6)=ς (σ I s.results J)/\Ao w c 7 78 1 (σ I s.results J) s.results.length nx/\
  ∀ n j d a m (l:List CD) f,AT (λk=>k=(11+5*s.results.length)) c j w n->(∀ b,(n:Nat)<=b->j b=0)->Hz n j (11+5*s.results.length) m l->AT (λk=>k=7) j a n d->(∀ b,(d:Nat)<=b->a b=0)->Ao d a 7 78 1 f (s.results.length+1) (nx++[m])->
   Au (d.setCell (π bt 6) f) a bt { s with results:=s.results++[l] }/\AT NZ c a w (d.setCell (π bt 6) f):=by
 obtain ⟨V,h,g⟩:=h;have p:=h.o (no _);obtain ⟨T,U,P,-⟩:=p.form;have H:=g.cell 6 (v:=V.ov) rfl;have O:=p.1.1;rw [P] at p H;refine ⟨T,U,V.ox,H,p,λn j d a m l f E M L r G Q=>?_⟩;have z:AT (λk=>k=(11+5*s.results.length)\/k=7) c a w d:=(E.mono (λk A=>.inl A) ω).trans (r.mono (λk A=>.inr A) ω);have F:a bt=1:=by rw [z.old bt g.lt];exact g.lab
 have o:AT (λk=>k=1) a a d (d.setCell (π bt 6) f):=AT.set F ω;have N:∀ b,(d.setCell (π bt 6) f).heap.size<=b->a b=0:=λb R=>G b (by simpa using R);have K:=((h.kept E M).kept r G).kept o N;refine ⟨⟨{ V with ov:=f,ox:=V.ox++[m] },⟨K.hi,
  λ_=>K.g (ET ω ω ω),
  λ_=>K.n (ET ω ω ω),
  λi y e=>by obtain ⟨q,C,D,W,X⟩:=K.nn i y e;exact ⟨q,C,D,W,λ_=>X (ET ω ω ω)⟩,
  λ_=>K.r (ET ω ω ω),
  K.rr,
  λ_=>K.k (ET ω ω ω),
  λ_=>K.cr (ET ω ω ω),
  K.cl,
  λ_=>by rw [List.length_append];exact Q.kp o ω,
  λi y e=>by
   by_cases S:i<s.results.length
   .rw [Al S] at e
    obtain ⟨q,C,D⟩:=K.ol i y e;exact ⟨q,by rw [Al ω];exact C,λ_=>D (ET ω ω ω)⟩
   .obtain ⟨rfl,rfl⟩:i=s.results.length/\y=l:=by
     rw [Ar ω] at e;have:i - s.results.length=0:=by have:=(Ll e);simp at this;omega
     rw [this] at e;simp at e;exact ⟨ω,e.symm⟩
    exact ⟨m,by rw [Ar ω,O,Nat.mul_one,Nat.sub_self];rfl,λ_=>(L.kp r ω).kp o ω⟩,
  λ_=>K.b (ET ω ω ω),
  λu l B=>by obtain ⟨v,t,x⟩:=K.bl u l B;exact ⟨v,t,λ_=>x (ET ω ω ω)⟩,
  λ_=>K.e (ET ω ω ω),
  λu l B=>by obtain ⟨v,t,x⟩:=K.el u l B;exact ⟨v,t,λ_=>x (ET ω ω ω)⟩,
  K.f64,
  K.s64⟩,
  ⟨by rw [ϡ _ _ _ _ _ _ (by rw [z.kp bt g.lt (by rw [g.lab];omega)];exact g.row)];rfl,F⟩⟩,(z.nz ω).trans (o.nz ω)⟩
def Au.pushB (h:Au w c bt s):∃ I J nx,w.cell? (π bt 7)=ς (σ I s.Z J)/\Ao w c 8 22 1 (σ I s.Z J) s.Z.length nx/\
  ∀ n j d a m (l:List Int) f,AT (λk=>k=(12+5*s.Z.length)) c j w n->(∀ b,(n:Nat)<=b->j b=0)->Dq n j (12+5*s.Z.length) m l->AT (λk=>k=8) j a n d->(∀ b,(d:Nat)<=b->a b=0)->Ao d a 8 22 1 f (s.Z.length+1) (nx++[m])->
   Au (d.setCell (π bt 7) f) a bt { s with Z:=s.Z++[l] }/\AT NZ c a w (d.setCell (π bt 7) f):=by
 obtain ⟨V,h,g⟩:=h;have p:=h.b (no _);obtain ⟨T,U,P,-⟩:=p.form;have H:=g.cell 7 (v:=V.bv) rfl;have O:=p.1.1;rw [P] at p H;refine ⟨T,U,V.bx,H,p,λn j d a m l f E M L r G Q=>?_⟩;have z:AT (λk=>k=(12+5*s.Z.length)\/k=8) c a w d:=(E.mono (λk A=>.inl A) ω).trans (r.mono (λk A=>.inr A) ω);have F:a bt=1:=by rw [z.old bt g.lt];exact g.lab
 have o:AT (λk=>k=1) a a d (d.setCell (π bt 7) f):=AT.set F ω;have N:∀ b,(d.setCell (π bt 7) f).heap.size<=b->a b=0:=λb R=>G b (by simpa using R);have K:=((h.kept E M).kept r G).kept o N;refine ⟨⟨{ V with bv:=f,bx:=V.bx++[m] },⟨K.hi,
  λ_=>K.g (ET ω ω ω),
  λ_=>K.n (ET ω ω ω),
  λi y e=>by obtain ⟨q,C,D,W,X⟩:=K.nn i y e;exact ⟨q,C,D,W,λ_=>X (ET ω ω ω)⟩,
  λ_=>K.r (ET ω ω ω),
  K.rr,
  λ_=>K.k (ET ω ω ω),
  λ_=>K.cr (ET ω ω ω),
  K.cl,
  λ_=>K.o (ET ω ω ω),
  λu l B=>by obtain ⟨v,t,x⟩:=K.ol u l B;exact ⟨v,t,λ_=>x (ET ω ω ω)⟩,
  λ_=>by rw [List.length_append];exact Q.kp o ω,
  λi y e=>by
   by_cases S:i<s.Z.length
   .rw [Al S] at e
    obtain ⟨q,C,D⟩:=K.bl i y e;exact ⟨q,by rw [Al ω];exact C,λ_=>D (ET ω ω ω)⟩
   .obtain ⟨rfl,rfl⟩:i=s.Z.length/\y=l:=by
     rw [Ar ω] at e;have:i - s.Z.length=0:=by have:=(Ll e);simp at this;omega
     rw [this] at e;simp at e;exact ⟨ω,e.symm⟩
    exact ⟨m,by rw [Ar ω,O,Nat.mul_one,Nat.sub_self];rfl,λ_=>(L.kp r ω).kp o ω⟩,
  λ_=>K.e (ET ω ω ω),
  λu l B=>by obtain ⟨v,t,x⟩:=K.el u l B;exact ⟨v,t,λ_=>x (ET ω ω ω)⟩,
  K.f64,
  K.s64⟩,
  ⟨by rw [ϡ _ _ _ _ _ _ (by rw [z.kp bt g.lt (by rw [g.lab];omega)];exact g.row)];rfl,F⟩⟩,(z.nz ω).trans (o.nz ω)⟩
def Au.pushE (h:Au w c bt s):∃ I J nx,w.cell? (π bt 8)=ς (σ I s.P J)/\Ao w c 9 22 1 (σ I s.P J) s.P.length nx/\
  ∀ n j d a m (l:List Int) f,AT (λk=>k=(13+5*s.P.length)) c j w n->(∀ b,(n:Nat)<=b->j b=0)->Dq n j (13+5*s.P.length) m l->AT (λk=>k=9) j a n d->(∀ b,(d:Nat)<=b->a b=0)->Ao d a 9 22 1 f (s.P.length+1) (nx++[m])->
   Au (d.setCell (π bt 8) f) a bt { s with P:=s.P++[l] }/\AT NZ c a w (d.setCell (π bt 8) f):=by
 obtain ⟨V,h,g⟩:=h;have p:=h.e (no _);obtain ⟨T,U,P,-⟩:=p.form;have H:=g.cell 8 (v:=V.ev) rfl;have O:=p.1.1;rw [P] at p H;refine ⟨T,U,V.ex,H,p,λn j d a m l f E M L r G Q=>?_⟩;have z:AT (λk=>k=(13+5*s.P.length)\/k=9) c a w d:=(E.mono (λk A=>.inl A) ω).trans (r.mono (λk A=>.inr A) ω);have F:a bt=1:=by rw [z.old bt g.lt];exact g.lab
 have o:AT (λk=>k=1) a a d (d.setCell (π bt 8) f):=AT.set F ω;have N:∀ b,(d.setCell (π bt 8) f).heap.size<=b->a b=0:=λb R=>G b (by simpa using R);have K:=((h.kept E M).kept r G).kept o N;refine ⟨⟨{ V with ev:=f,ex:=V.ex++[m] },⟨K.hi,
  λ_=>K.g (ET ω ω ω),
  λ_=>K.n (ET ω ω ω),
  λi y e=>by obtain ⟨q,C,D,W,X⟩:=K.nn i y e;exact ⟨q,C,D,W,λ_=>X (ET ω ω ω)⟩,
  λ_=>K.r (ET ω ω ω),
  K.rr,
  λ_=>K.k (ET ω ω ω),
  λ_=>K.cr (ET ω ω ω),
  K.cl,
  λ_=>K.o (ET ω ω ω),
  λu l B=>by obtain ⟨v,t,x⟩:=K.ol u l B;exact ⟨v,t,λ_=>x (ET ω ω ω)⟩,
  λ_=>K.b (ET ω ω ω),
  λu l B=>by obtain ⟨v,t,x⟩:=K.bl u l B;exact ⟨v,t,λ_=>x (ET ω ω ω)⟩,
  λ_=>by rw [List.length_append];exact Q.kp o ω,
  λi y e=>by
   by_cases S:i<s.P.length
   .rw [Al S] at e
    obtain ⟨q,C,D⟩:=K.el i y e;exact ⟨q,by rw [Al ω];exact C,λ_=>D (ET ω ω ω)⟩
   .obtain ⟨rfl,rfl⟩:i=s.P.length/\y=l:=by
     rw [Ar ω] at e;have:i - s.P.length=0:=by have:=(Ll e);simp at this;omega
     rw [this] at e;simp at e;exact ⟨ω,e.symm⟩
    exact ⟨m,by rw [Ar ω,O,Nat.mul_one,Nat.sub_self];rfl,λ_=>(L.kp r ω).kp o ω⟩,
  K.f64,
  K.s64⟩,
  ⟨by rw [ϡ _ _ _ _ _ _ (by rw [z.kp bt g.lt (by rw [g.lab];omega)];exact g.row)];rfl,F⟩⟩,(z.nz ω).trans (o.nz ω)⟩
def QA {P:Program} {S:Ϣ->Prop} {c:Bool} {i j:Nat} {u v:Oper} {b:List (Nat×Oper)} (l:(i != j && i != k && j != k)=ϑ) (q:(b.all λr=>r.1 != i && r.1 != j && r.1 != k && ((i,o)::(j,u)::(k,v)::b).any (waits r))=ϑ)
  (h:o.wp P a w (λd w'=>(S w'\/(c && i+1 == n)=ϑ)/\Dm P n Q S c ((j,u)::(k,v)::b) d w') (NoPanic Q)) (B:u.wp P a w (λd w'=>(S w'\/(c && j+1 == n)=ϑ)/\Dm P n Q S c ((i,o)::(k,v)::b) d w') (NoPanic Q)) (C:v.wp P a w (λd w'=>(S w'\/(c && k+1 == n)=ϑ)/\Dm P n Q S c ((i,o)::(j,u)::b) d w') (NoPanic Q)):Dm P n Q S c ((i,o)::(j,u)::(k,v)::b) a w:=by
 rw [List.all_eq_true] at q;simp only [Bool.and_eq_true,bne_iff_ne] at l;obtain ⟨⟨s,t⟩,y⟩:=l;have m:∀ r∈b,r.1≠i/\r.1≠j/\r.1≠k:=λr f=>by have:=q r f;simp only [Bool.and_eq_true,bne_iff_ne] at this;exact ⟨this.1.1.1,this.1.1.2,this.1.2⟩
 refine ⟨.inr ⟨λh=>(by cases h),λx g p=>?_⟩⟩;rcases List.mem_cons.1 g with rfl|g
 .have e:((i,o)::(j,u)::(k,v)::b).filter (λr=>r.1 != i)=(j,u)::(k,v)::b:=by rw [List.filter_cons,if_neg ψ,List.filter_cons,if_pos (by simpa using Ne.symm s),List.filter_cons,if_pos (by simpa using Ne.symm t)];exact congrArg _ (congrArg _ (List.filter_eq_self.2 (λr f=>by simpa using (m r f).1)))
  rw [e];exact Oper.wp_mono (λd w' h=>⟨h.1,h.2.1⟩) h
 rcases List.mem_cons.1 g with rfl|g
 .have e:((i,o)::(j,u)::(k,v)::b).filter (λr=>r.1 != j)=(i,o)::(k,v)::b:=by rw [List.filter_cons,if_pos (by simpa using s),List.filter_cons,if_neg ψ,List.filter_cons,if_pos (by simpa using Ne.symm y)];exact congrArg _ (congrArg _ (List.filter_eq_self.2 (λr f=>by simpa using (m r f).2.1)))
  rw [e];exact Oper.wp_mono (λd w' h=>⟨h.1,h.2.1⟩) B
 rcases List.mem_cons.1 g with rfl|g
 .have e:((i,o)::(j,u)::(k,v)::b).filter (λr=>r.1 != k)=(i,o)::(j,u)::b:=by rw [List.filter_cons,if_pos (by simpa using t),List.filter_cons,if_pos (by simpa using y),List.filter_cons,if_neg ψ];exact congrArg _ (congrArg _ (List.filter_eq_self.2 (λr f=>by simpa using (m r f).2.2)))
  rw [e];exact Oper.wp_mono (λd w' h=>⟨h.1,h.2.1⟩) C
 .have:=q x g
  rw [Bool.and_eq_true] at this;obtain ⟨r,z,A⟩:=List.any_eq_true.1 this.2;unfold DE at p;rw [List.all_eq_true] at p;have:=p r z;rw [A] at this;cases this
def Mq.kp (h:Mq w c m gv nv nx) (a:AT T c c' w w') (e:∀ b,(w':Nat)<=b->c' b=0) (d:∀ t,T t->t=5):Mq w' c' m gv nv nx:=
 ⟨e,h.g.kp a (λh=>by have:=d _ h;omega),h.n.kp a (λh=>by have:=d _ h;omega),λi x l=>by
  obtain ⟨n,f,g,j,k⟩:=h.nn i x l;exact ⟨n,f,g,j,k.kp a (λh=>by
   have:=d _ h;omega)⟩⟩
def B7 (W:Ϣ) (R:Nat) (v0 v1 v2 v3 v4 v5 v6 v7 v8 v9:ϒ):Ϣ:=((((((((((W.setCell (π R 0) v0).setCell (π R 1) v1).setCell (π R 2) v2).setCell (π R 3) v3).setCell (π R 4) v4).setCell (π R 5) v5).setCell (π R 6) v6).setCell (π R 7) v7).setCell (π R 8) v8).setCell (π R 9) v9)
def Gk {T:TypeId} (h:W.heap[R]?=ς (χ #[x0,x1,x2,x3,x4,x5,x6,x7,x8,x9] T (0,0))):(W.cell? (π R 0)=ς x0/\W.cell? (π R 1)=ς x1/\W.cell? (π R 2)=ς x2/\W.cell? (π R 3)=ς x3/\W.cell? (π R 4)=ς x4/\W.cell? (π R 5)=ς x5/\W.cell? (π R 6)=ς x6/\W.cell? (π R 7)=ς x7/\W.cell? (π R 8)=ς x8/\W.cell? (π R 9)=ς x9)/\(W.frozen? (π R 0)=ϝ/\W.frozen? (π R 1)=ϝ/\W.frozen? (π R 2)=ϝ/\W.frozen? (π R 3)=ϝ/\W.frozen? (π R 4)=ϝ/\W.frozen? (π R 5)=ϝ/\W.frozen? (π R 6)=ϝ/\W.frozen? (π R 7)=ϝ/\W.frozen? (π R 8)=ϝ/\W.frozen? (π R 9)=ϝ)/\R<W:=
 ⟨⟨Cr h rfl,Cr h rfl,Cr h rfl,Cr h rfl,Cr h rfl,Cr h rfl,Cr h rfl,Cr h rfl,Cr h rfl,Cr h rfl⟩,⟨Fz h,Fz h,Fz h,Fz h,Fz h,Fz h,Fz h,Fz h,Fz h,Fz h⟩,(La h)⟩
def CB {T:TypeId} (h:W.heap[R]?=ς (χ #[x0,x1,x2,x3,x4,x5,x6,x7,x8,x9] T (0,0))) (v0 v1 v2 v3 v4 v5 v6 v7 v8 v9:ϒ):(B7 W R v0 v1 v2 v3 v4 v5 v6 v7 v8 v9).heap[R]?=ς (χ #[v0,v1,v2,v3,v4,v5,v6,v7,v8,v9] T (0,0)):=by
 unfold B7;have a:=ϡ W R 0 _ _ v0 h;have b:=ϡ _ R 1 _ _ v1 a;have c:=ϡ _ R 2 _ _ v2 b;have d:=ϡ _ R 3 _ _ v3 c;have e:=ϡ _ R 4 _ _ v4 d;have f:=ϡ _ R 5 _ _ v5 e;have g:=ϡ _ R 6 _ _ v6 f;have i:=ϡ _ R 7 _ _ v7 g;have j:=ϡ _ R 8 _ _ v8 i;have k:=ϡ _ R 9 _ _ v9 j;exact k.trans (congrArg (λq=>ς (Obj.cells q T (0,0))) (show (((((((((((#[x0,x1,x2,x3,x4,x5,x6,x7,x8,x9]:Array ϒ).setIfInBounds 0 v0).setIfInBounds 1 v1).setIfInBounds 2 v2).setIfInBounds 3 v3).setIfInBounds 4 v4).setIfInBounds 5 v5).setIfInBounds 6 v6).setIfInBounds 7 v7).setIfInBounds 8 v8).setIfInBounds 9 v9)=#[v0,v1,v2,v3,v4,v5,v6,v7,v8,v9] by kernel_rfl))
def D7 {v0 v1 v2 v3 v4 v5 v6 v7 v8 v9:ϒ} (h:T (c R)) (a:¬T 0):AT T c c W (B7 W R v0 v1 v2 v3 v4 v5 v6 v7 v8 v9):=
 ((((((((((AT.set (T:=T) h a).trans (AT.set h a)).trans (AT.set h a)).trans (AT.set h a)).trans (AT.set h a)).trans (AT.set h a)).trans (AT.set h a)).trans (AT.set h a)).trans (AT.set h a)).trans (AT.set h a))
def FH (W:Ϣ) (R:Nat) (v0 v1 v2 v3 v4 v5 v6 v7 v8 v9:ϒ):(B7 W R v0 v1 v2 v3 v4 v5 v6 v7 v8 v9).heap.size=(W:Nat):=by simp [B7]
def LP (h:W.heap[R]?=ς (χ #[x0,x1,x2,x3,x4,x5,x6,x7,x8,x9] 34 (0,0))):(loadVar 34 (π R 0)).run prog W=.ok (.agg #[x0,x1,x2,x3,x4,x5,x6,x7,x8,x9]) W:=by
 obtain ⟨⟨a,b,c,d,e,f,g,i,j,k⟩,-⟩:=Gk h;simp [go_sem,a,b,c,d,e,f,g,i,j,k]
def O5 (c:fn.results=#[.cell p 34]) (h:W.heap[R]?=ς (χ #[x0,x1,x2,x3,x4,x5,x6,x7,x8,x9] 34 (0,0))) (a:Array ϒ) (b:a.getD p undef=.pointer (ς (π R 0))) :
  (results fn a).run prog W=.ok (.agg #[x0,x1,x2,x3,x4,x5,x6,x7,x8,x9]) W:=by
 simp only [results,c];rw [Array.getD_eq_getD_getElem?] at b;simp [b,asAddr,LP h,Result.andThen,Sem.run_bind]
def E4 (s:A3) (a b c d e:Nat):A3:=⟨s.M,s.Y,s.R.take a,s.N,s.A.take b,s.results.take c,s.Z.take d,s.P.take e,s.U⟩
structure Kr (s:A3):Prop where
 g:s.M.G.length<=1000000
 n:s.M.N.length<=4096
 f:∀ x∈s.M.N,x.f.length<=1000000
 rl:s.R.length<=1000000
 r:∀ m∈s.R,m.J.length<=1000/\∀ f∈m.J,f.L.length<=1000000/\f.S.length<=1000000
 kl:s.N.length<=1000000
 cl:s.A.length=s.R.length
 c:∀ l∈s.A,l.length<=1000000/\∀ x∈l,x.args.length<=1000000
 ol:s.results.length=s.R.length
 o:∀ l∈s.results,l.length<=1000000
 bl:s.Z.length=s.R.length
 b:∀ l∈s.Z,l.length<=1000000
 el:s.P.length=s.R.length
 e:∀ l∈s.P,l.length<=1000000
def Kr.all (h:Kr s) (a:n=s.R.length):E4 s n n n n n=s:=by
 subst a;unfold E4;rw [List.take_length,<- h.cl,List.take_length,h.cl,<- h.ol,List.take_length,h.ol,<- h.bl,List.take_length,h.bl,<- h.el,List.take_length]
def XM (n:Nat):A1:=λb=>if b<n then 14 else 0
def Mx (s:A3) (w:Ϣ) (e:Ending) (w':Ϣ):Prop:=∃ V c',e=.returned (.agg (Wq V s))/\TK NO w' c' s V/\AT NO (XM w) c' w w'
def Mx.own {V:TV} (h:TK NO w' c' s V) (g:AT NO (XM w) c' w w') (A:∀ b,(w:Nat)<=b->c b=0):∃ o,TK NO w' o s V/\AT NO c o w w':=by
 have q:∀ b,b<(w:Nat)->c' b=14:=λb e=>by rw [g.old b e];exact if_pos e
 have d:∀ f,f≠14->∀ b,c' b=f->(if b<(w:Nat) then c b else c' b)=f:=λf y b e=>by rw [if_neg (λr=>y (by rw [<-e,q b r]))];exact e
 have p:JT (mask w' c') (mask w' (λb=>if b<(w:Nat) then c b else c' b)):=λa v k=>by
  rw [GJ] at k ⊢;split at k
  .rename_i h1
   rw [if_pos (d 0 δ _ h1)];exact k
  .cases k
 refine ⟨λb=>if b<(w:Nat) then c b else c' b,⟨λb e=>?_,λn=>⟨(h.g n).1.recol (d _ δ),(h.g n).2⟩,λn=>(h.n n).recol (d _ δ),λi x z=>?_,λn=>(h.r n).recol (d _ δ),λt m u=>?_,λn=>⟨(h.k n).1.recol (d _ δ),(h.k n).2⟩,λn=>(h.cr n).recol (d _ δ),λt l j=>?_,λn=>(h.o n).recol (d _ δ),λt l j=>?_,λn=>(h.b n).recol (d _ δ),λt l j=>?_,λn=>(h.e n).recol (d _ δ),λt l j=>?_,h.f64,h.s64⟩,⟨g.os,g.tape,g.output,g.size,λb e _=>g.kp b e (no _),λb e=>if_pos e,no 0⟩⟩
 .show (if _ then _ else _)=_
  rw [if_neg (by have:=g.size;omega)];exact h.hi b e
 .obtain ⟨lv,h1,h2,h3,h4⟩:=h.nn i x z
  exact ⟨lv,h1,h2,h3,λn=>⟨(h4 n).1.recol (d _ ω),(h4 n).2⟩⟩
 .obtain ⟨fv,h1,h2,h3⟩:=h.rr t m u
  exact ⟨fv,h1,h2.ups Dx (Nr _) p,h3⟩
 .obtain ⟨v,h1,h2⟩:=h.cl t l j
  exact ⟨v,h1,h2.ups Hd (Nr _) p⟩
 .obtain ⟨v,h1,h2⟩:=h.ol t l j
  exact ⟨v,h1,λn=>⟨(h2 n).1.recol (d _ ω),(h2 n).2⟩⟩
 .obtain ⟨v,h1,h2⟩:=h.bl t l j
  exact ⟨v,h1,λn=>⟨(h2 n).1.recol (d _ ω),(h2 n).2⟩⟩
 .obtain ⟨v,h1,h2⟩:=h.el t l j
  exact ⟨v,h1,λn=>⟨(h2 n).1.recol (d _ ω),(h2 n).2⟩⟩
def Ux {f:ϒ} (d:Mq w c s.M gv nv nx) (n:Dq w c 5 f s.N) (b:w.heap[bo]?=ς (χ #[gv,nv,ι s.Y,ν,f,ν,ν,ν,ν,ι s.U] 34 (0,0))) (o:c bo=1) (e:in64 s.Y) (g:in64 s.U):Au w c bo (E4 s 0 0 0 0 0):=
 ⟨⟨gv,nv,ν,f,ν,ν,ν,ν,nx,[],[],[],[],[]⟩,⟨d.hi,λ_=>d.g,λ_=>d.n,λi x p=>by
  obtain ⟨q,h,j,k,l⟩:=d.nn i x p;exact ⟨q,h,j,k,λ_=>l⟩,λ_=>Ao.nil _ _ _ _ _,λt m a=>by simp [E4] at a,λ_=>n,λ_=>Ao.nil _ _ _ _ _,λt m a=>by simp [E4] at a,λ_=>Ao.nil _ _ _ _ _,λt m a=>by simp [E4] at a,λ_=>Ao.nil _ _ _ _ _,λt m a=>by simp [E4] at a,λ_=>Ao.nil _ _ _ _ _,λt m a=>by simp [E4] at a,e,g⟩,⟨b,o⟩⟩
structure VR (s:A3) (W:Ϣ) (c0:A1) (bo k:Nat) (wr:Ϣ) (c:A1):Prop where
 st:Au wr c bo (E4 s k k k k k)
 chg:AT NZ c0 c W wr
def VR.post (ok:Kr s) (hn:n=s.R.length) (L:Below w w W) (aH:(w:Nat)<=br) (D:W.heap[br]?=ς (χ Bz 34 (0,0))) (h:VR s W (λb=>if b<w\/b=br then 14 else 0) bo n wr c) :
  ∃ o p u y B C q r g j z A e f k m,wr.heap[bo]?=ς (χ (Bt o p u y B C q r g j z A e f k m s) 34 (0,0))/\
   wr.heap[br]?=ς (χ Bz 34 (0,0))/\
   Mx s w (.returned (.agg (Bt o p u y B C q r g j z A e f k m s))) (B7 wr br (σ o s.M.G p) (σ u s.M.N y) (ι s.Y) (σ B s.R C) (σ q s.N r) (σ g s.A j) (σ z s.results A) (σ e s.Z f) (σ k s.P m) (ι s.U)):=by
 have N:=h.st;rw [ok.all hn] at N;obtain ⟨V,d,hB⟩:=N;obtain ⟨gv,nv,rv,kv,cv,ov,bv,ev,nx,rx,cx,ox,bx,ex⟩:=V;obtain ⟨o,p,O,-⟩:=(d.g (no _)).1.form;obtain ⟨u,y,P,-⟩:=(d.n (no _)).form;obtain ⟨B,C,Q,-⟩:=(d.r (no _)).form;obtain ⟨q,r,S,-⟩:=(d.k (no _)).1.form;obtain ⟨g,j,U,-⟩:=(d.cr (no _)).form;obtain ⟨z,A,X,-⟩:=(d.o (no _)).form;obtain ⟨e,f,Y,-⟩:=(d.b (no _)).form;obtain ⟨k,m,Z,-⟩:=(d.e (no _)).form;dsimp only at O P Q S U X Y Z;subst O P Q S U X Y Z;have M:=(La D)
 have aG:c br=14:=by rw [h.chg.old _ M];exact if_pos (.inr rfl)
 refine ⟨o,p,u,y,B,C,q,r,g,j,z,A,e,f,k,m,hB.row,by rw [h.chg.kp br M (by rw [if_pos (.inr rfl)];exact Io)];exact D,⟨σ o s.M.G p,σ u s.M.N y,σ B s.R C,σ q s.N r,σ g s.A j,σ z s.results A,σ e s.Z f,σ k s.P m,nx,rx,cx,ox,bx,ex⟩,c,rfl,?_,?_⟩
 .have hS:=D7 (T:=λt=>t=14) (c:=c) (W:=wr) (R:=br) (v0:=σ o s.M.G p) (v1:=σ u s.M.N y) (v2:=ι s.Y) (v3:=σ B s.R C) (v4:=σ q s.N r) (v5:=σ g s.A j) (v6:=σ z s.results A) (v7:=σ e s.Z f) (v8:=σ k s.P m) (v9:=ι s.U) aG ω
  have K:=d.kept hS (λb a=>d.hi b (by rw [FH] at a;exact a));have n:∀ t,t≠14->¬(NO t\/t=14):=λt ht I=>by
   rcases I with I|I
   .exact I
   .exact ht I
  exact ⟨K.hi,λ_=>K.g (n _ ω),λ_=>K.n (n _ ω),λi x hx=>by
   obtain ⟨lv,E,F,h3,h4⟩:=K.nn i x hx;exact ⟨lv,E,F,h3,λ_=>h4 (n _ ω)⟩,λ_=>K.r (n _ ω),K.rr,λ_=>K.k (n _ ω),λ_=>K.cr (n _ ω),K.cl,λ_=>K.o (n _ ω),λt l J=>by
   obtain ⟨v,E,F⟩:=K.ol t l J;exact ⟨v,E,λ_=>F (n _ ω)⟩,λ_=>K.b (n _ ω),λt l J=>by
   obtain ⟨v,E,F⟩:=K.bl t l J;exact ⟨v,E,λ_=>F (n _ ω)⟩,λ_=>K.e (n _ ω),λt l J=>by
   obtain ⟨v,E,F⟩:=K.el t l J;exact ⟨v,E,λ_=>F (n _ ω)⟩,K.f64,K.s64⟩
 .have aB:∀ b,b<(w:Nat)->c b=14:=λb a=>by rw [h.chg.old b (Nl a L.size)];exact if_pos (.inl a)
  have aF:Below w W wr:=⟨h.chg.os,h.chg.tape,h.chg.output,h.chg.size,λb a=>h.chg.kp b (Nl a L.size) (by rw [if_pos (.inl a)];exact Io)⟩
  have G:=L.trans aF;have H:=D7 (T:=λt=>t=1) (c:=λx=>if x=br then 1 else 0) (W:=wr) (R:=br) (v0:=σ o s.M.G p) (v1:=σ u s.M.N y) (v2:=ι s.Y) (v3:=σ B s.R C) (v4:=σ q s.N r) (v5:=σ g s.A j) (v6:=σ z s.results A) (v7:=σ e s.Z f) (v8:=σ k s.P m) (v9:=ι s.U) (if_pos rfl) ω;obtain ⟨WF,aE⟩:=ε (B7 wr br (σ o s.M.G p) (σ u s.M.N y) (ι s.Y) (σ B s.R C) (σ q s.N r) (σ g s.A j) (σ z s.results A) (σ e s.Z f) (σ k s.P m) (ι s.U));rw [<-aE] at H ⊢;exact ⟨H.os.trans G.os,H.tape.trans G.tape,H.output.trans G.output,Nt G.size H.size,λb a _=>(H.kp b (Nl a G.size) (by rw [if_neg ω];omega)).trans (G.block b a),λb a=>by rw [aB b a];exact (if_pos a).symm,no 0⟩
