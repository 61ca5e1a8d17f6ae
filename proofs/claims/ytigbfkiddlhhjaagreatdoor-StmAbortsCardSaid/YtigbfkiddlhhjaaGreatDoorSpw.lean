import Derived.Test.YtigbfkiddlhhjaaGreatDoorSpv
set_option maxHeartbeats 2000000
set_option maxRecDepth 100000
set_option linter.all false
open Go renaming World→Ϣ,Value→ϒ
open Option renaming some→ς
open And renaming intro→ϟ
open List renaming replicate→ϱ
open Go.Value renaming slice→σ
open Go.Obj renaming cells→χ
namespace Go.Proofs.YtigbfkiddlhhjaaGreatDoor
open Go.RowKit Proofs.Tryz
variable {e te:TypeId} {α:Type} {z u:ϒ} {w w':Ϣ} {c c1:A1} {tag n j b cap sz k:Nat} {xs:List LeafK} {x:LeafK} {a:Option Addr} {T:Nat->Prop} {l:List α} {f:α->List ϒ}
def make_one {t:TypeId} (o:prog.underlying t=ς (.slice e)) {bytes:Nat} (a:(prog.info? e).map (λi=>(i.zero,i.size,i.bytes))=ς (ς z,1,bytes)) (p:z.cells=#[z]) (l:bytes<=100) (W:Ϣ) (n:Nat) (m:n<=1048576):(Instr.makeSlice t (ι (n:Int)) (ι (n:Int))).run prog W=.ok (σ (ς (π W 0)) n n) (W.alloc (χ (Array.replicate n z) e)):=by
 obtain ⟨i,a,d,f,g⟩:=info_parts a;have c:(bytes:Int)*(n:Int)<=281474976710656:=by have:bytes*n<=100*1048576:=Nat.mul_le_mul l m;have k:((bytes*n:Nat):Int)<=104857600:=ω;rw [Int.natCast_mul] at k;omega
 have h:=run_make W t e i z o a d .i64 .i64 (n:Int) (n:Int) ω ω (by rw [g];exact c) ω;rw [h,f];have:madeCells z.cells ((n:Int).toNat*1)=Array.replicate n z:=by
  rw [p];apply Array.ext_getElem?;intro j;simp [madeCells,Nat.mod_one];rw [Array.getElem?_replicate];by_cases b:j<n
  .rw [if_pos b,Array.getElem?_eq_getElem (by simpa using b)];simp
  .rw [if_neg b,Array.getElem?_eq_none φ];rfl
 rw [this];simp
def rowC_rep (f:n<=1048576) (d:c (w:Nat)=tag):Ao (w.alloc (χ (Array.replicate n z) e)) c tag e 1 (σ (ς (π w 0)) n n) n (ϱ n z):=by
 refine ⟨⟨?_,.inr ⟨(w:Nat),n,Array.replicate n z,ψ,Nat.zero_le _,Hn w _,ψ,by unfold maxLen;omega,ψ,?_⟩⟩,λb a=>?_,ω⟩
 .simp
 .simp
 .simp [Value.ownBlock] at a;subst a;exact d
def RowLf.put {i:Nat} (E:j<16) (h:RowLf w c j (σ (ς (π b 0)) n cap) e sz xs) (r:LeafAt w c (100+16*i+j) u x) :
  RowLf (w.setCell (π b i) u) c j (σ (ς (π b 0)) n cap) e sz (xs.set i x)/\AT (λt=>t=20+j) c c w (w.setCell (π b i) u):=by
 obtain ⟨B,C,g,A,p⟩:=h;obtain ⟨a,o,v,-,-⟩:=g.form;obtain ⟨-,rfl,-⟩:ς ((π b 0):Addr)=a/\n=B/\cap=o:=by simpa using v
 have s:c b=20+j:=g.2.1 b (by simp [Value.ownBlock]);have f:AT (λt=>t=20+j) c c w (w.setCell (π b i) u):=AT.set s ω;refine ⟨⟨n,C.set i u,g.put i u,by simpa using A,λk y z d l=>?_⟩,f⟩;have m:∀ (z:LeafK),okLeaf (λt=>t=20+j) (100+16*k+j) z:=λz=>by cases z<;>first|exact trivial|(show ¬_=20+j;omega)
 rcases get_set l with ⟨rfl,rfl,D⟩|⟨q,l⟩
 .rw [List.getElem?_set_self ω] at d
  cases d;exact r.kp f (m _)
 .rw [List.getElem?_set_ne (Ne.symm q)] at d
  exact (p k y z d l).kp f (m _)
def SrcL {α:Type} (w:Ϣ) (sz:Nat) (a:Option Addr) (l:List α) (m:α->Nat) (f:α->List ϒ):Prop:=l=[]\/∃ b o,a=ς (π b o)/\∀ (i:Nat) x,l[i]?=ς x->∃ ai ci,w.cell? (π b (o+i))=ς (σ ai (m x) ci)/\Src w sz ai (m x) (f x)
def SrcL.below {m:α->Nat} (h:SrcL w sz a l m f) (c:JT w w'):SrcL w' sz a l m f:=h.imp id (λ⟨b,o,e,k⟩=>⟨b,o,e,λi x j=>by obtain ⟨ai,ci,d,g⟩:=k i x j;exact ⟨ai,ci,c _ _ d,g.below c⟩⟩)
def lsK {α:Type} (te:TypeId) (sz:Nat) (f:α->List ϒ) (l:List α) (k:Nat):List LeafK:=(l.take k).map (λx=>.q te sz (f x))++ϱ (l.length - k) (.p ν)
def lsK_zero (te:TypeId) (sz:Nat) (f:α->List ϒ) (l:List α):lsK te sz f l 0=(ϱ l.length (Value.slice none 0 0)).map .p:=by simp [lsK]
def lsK_all (te:TypeId) (sz:Nat) (f:α->List ϒ) (l:List α):lsK te sz f l l.length=l.map (λx=>.q te sz (f x)):=by simp [lsK]
def lsK_len (h:k<=l.length):(lsK te sz f l k).length=l.length:=by
 unfold lsK;rw [List.length_append,List.length_map,List.length_take,List.length_replicate];omega
def lsK_at (h:k<l.length):(lsK te sz f l k)[k]?=ς (.p ν):=by
 unfold lsK;have e:((l.take k).map (λx=>LeafK.q te sz (f x))).length=k:=by rw [List.length_map,List.length_take];omega
 rw [Ar ω,e,Nat.sub_self,List.getElem?_replicate,if_pos ω]
def lsK_next {x:α} (h:l[k]?=ς x):(lsK te sz f l k).set k (.q te sz (f x))=lsK te sz f l (k+1):=by
 have a:=(Ll h)
 unfold lsK;rw [take_add h,List.map_append,List.set_append_right _ _ φ,List.append_assoc]
 congr 1
 have e:l.length - k=(l.length - (k+1))+1:=ω;rw [e,List.replicate_succ];simp [Nat.min_eq_left (Nat.le_of_lt a)]
def RowLf.at_ (h:RowLf w c j (σ a n cap) e sz xs) (B:0<xs.length):∃ b,a=ς (π b 0)/\c b=20+j/\b<(w:Nat)/\(∀ i,w.frozen? (π b i)=false)/\∀ i x,xs[i]?=ς x->∃ u,w.cell? (π b i)=ς u/\LeafAt w c (100+16*i+j) u x:=by
 obtain ⟨z,d,f,A,q⟩:=h;have o:0<d.length:=ω;obtain ⟨l,m,r,-,-⟩:=f.form;obtain ⟨rfl,rfl,rfl⟩:a=l/\n=z/\cap=m:=by simpa using r
 obtain ⟨b,p,s,t,v,y⟩:=f.pos (Lg o);refine ⟨b,p,s,t,y,λi x g=>?_⟩;have k:d[i]?=ς (d[i]'(by have:=(Ll g);omega)):=Lg _;exact ⟨_,v _ _ k,q i _ x k g⟩
def TagNN (t:Nat):Prop:=t≠0/\t≠99
def tn0:¬TagNN 0:=λh=>h.1 rfl
def tn99:¬TagNN 99:=λh=>h.2 rfl
def glue (n:Nat) (c c1:A1):A1:=λb=>if b<n then c b else c1 b
def glue_new (h:n<=b):glue n c c1 b=c1 b:=if_neg ω
def glue_old (h:b<n):glue n c c1 b=c b:=if_pos h
def glue_chg (h:AT T (EN w) c1 w w') (e:¬T 99):AT NO c (glue (w:Nat) c c1) w w':=by
 have a:=h.below0 e;exact ⟨a.os,a.tape,a.output,a.size,λb d _=>a.block b d,λb d=>glue_old d,no 0⟩
def glue_hi (h:AT T (EN w) c1 w w') (a:∀ b,(w':Nat)<=b->c1 b=0):∀ b,(w':Nat)<=b->glue (w:Nat) c c1 b=0:=λb d=>by
 rw [glue_new (Nt h.size d)];exact a b d
def glue_rowC (h:AT T (EN w) c1 w w') {v:ϒ} {xs:List ϒ} (a:Ao w' c1 tag e sz v n xs) (g:tag≠99):Ao w' (glue (w:Nat) c c1) tag e sz v n xs:=
 ⟨a.1,λb f=>by
  have d:=a.2.1 b f;rw [glue_new (h.fresh d g)];exact d,a.2.2⟩
def glue_mask (h:AT T (EN w) c1 w w'):JT (mask w' c1) (mask w' (glue (w:Nat) c c1)):=λa v b=>by
 rw [GJ] at b ⊢;split at b
 .rename_i h1
  rw [if_pos (by rw [glue_new (h.fresh h1 δ)];exact h1)];exact b
 .cases b
def glue_i (h:AT T (EN w) c1 w w') {P:Ϣ->ϒ->Prop} (a:MonoP P/\P (mask w' c1) u):MonoP P/\P (mask w' (glue (w:Nat) c c1)) u:=⟨a.1,a.1 _ _ _ (by rw [Hk,Hk];exact Nr _) (glue_mask h) a.2⟩
def glue_leaf (h:AT T (EN w) c1 w w') (a:LeafAt w' c1 tag u x) (b:tag≠99):LeafAt w' (glue (w:Nat) c c1) tag u x:=by
 cases x with
 | p x=>exact a
 | q e sz xs=>obtain ⟨n,a⟩:=a;exact ⟨n,glue_rowC h a b⟩
 | i P=>exact glue_i h a
def glue_rowLf (h:AT T (EN w) c1 w w') (a:RowLf w' c1 j u e sz xs) (l:j<16):RowLf w' (glue (w:Nat) c c1) j u e sz xs:=by
 obtain ⟨n,k,a,d,f⟩:=a;exact ⟨n,k,glue_rowC h a ω,d,λi y x g b=>glue_leaf h (f i y x g b) ω⟩
def LstPost (j:Nat) (te1:TypeId) (L:List LeafK) (n:Nat) (c:A1) (w:Ϣ) (en:Ending) (w':Ϣ):Prop:=∃ a cap c',en=.returned (σ a n cap)/\RowLf w' c' j (σ a n cap) te1 1 L/\AT NO c c' w w'/\∀ b,(w':Nat)<=b->c' b=0
def info_souts:(prog.info? 127).map (λi=>(i.zero,i.size,i.bytes))=ς (ς ν,1,24):=by kernel_rfl
def info_scals:(prog.info? 65).map (λi=>(i.zero,i.size,i.bytes))=ς (ς ν,1,24):=by kernel_rfl
def lists_Int (j:Nat) (c:A1) (l:List α) (m:α->Nat) (f:α->List ϒ) (a:Option Addr) (cap:Nat) (w:Ϣ) (hS:SrcL w 1 a l m f) (hj:j<16) (p:∀ b,(w:Nat)<=b->c b=0) (hl:l.length<=1000000):Calls prog 57 #[σ a l cap] w (LstPost j 22 (l.map λx=>.q 3 1 (f x)) l.length c w):=by
 have HS:=Lh hS;have HH:=Lh p;have bG:=λW=>make_one (t:=34) underlying34 info_sints rfl δ W l.length ω;obtain ⟨W,n⟩:=ε (w.alloc (χ (Array.replicate l.length (Value.slice none 0 0)) 22));have S:=bl1 n;obtain ⟨c1,s⟩:=ε (λb=>if b=(w:Nat) then 20+j else EN w b:A1);have T:c1 (w:Nat)=20+j:=by rw [s];exact if_pos rfl
 have J:RowLf W c1 j (σ (ς (π w 0)) l l.length) 22 1 (lsK 3 1 f l 0):=by rw [lsK_zero];refine ⟨l.length,ϱ l.length ν,by rw [n];exact rowC_rep ω T,ψ,λi y z hy hz=>?_⟩;rw [List.getElem?_map,hy] at hz;cases hz;exact rfl
 have Q:AT TagNN (EN w) c1 w W:=by have:=AT.paint (c:=EN w) (w:Nat) (20+j) S (Nr _);rw [s];exact this.mono (λt h=>h.elim) tn0
 have L:∀ b,(W:Nat)<=b->c1 b=0:=λb hb=>by have:=sz1 n;rw [s];show (if b=(w:Nat) then 20+j else EN w b)=0;rw [if_neg ω];exact Ee b ω
 have H0:=Lh (ϟ J (ϟ Q L));have bH:=Lh S;clear hS p J Q L T s;go_enter func57,ntmps57;go_upto_region 2 with fail;rw [<-n];clear n bG;go_wp2_with fail;go_loopw [11] (λG wr=>∃ k:Nat,k<=l.length/\G=ι k/\Hid (∃ g,RowLf wr g j (σ (ς (π w 0)) l l.length) 22 1 (lsK 3 1 f l k)/\AT TagNN (EN w) g w wr/\(∀ b,wr.heap.size<=b->g b=0))) (λG _=>l.length - (intOf G).toNat)
 case atStart=>exact ⟨0,Nat.zero_le _,rfl,Lh ⟨c1,H0.o⟩⟩
 case round=>
  obtain ⟨k,hk,rfl,HR⟩:=hrel;obtain ⟨g,Y,R,M⟩:=HR.o;have d:=Lh (ϟ Y (ϟ R M));clear Y R M;by_cases v:k<l.length
  .obtain ⟨x,hx⟩:∃ x,l[k]?=ς x:=⟨_,Lg v⟩
   have C:Below w w wr:=d.o.2.1.below0 tn99;rcases HS.o with h0|⟨b,o,rfl,hE⟩
   .rw [h0] at v;simp at v
   obtain ⟨ai,ci,y0,O⟩:=hE k x hx;have y1:=AB C y0;have i0:=In k;have i1:(k:Int)<(l:Int):=ω;have V:100+16*k+j≠0:=ω;have bD:=Lh (clone_Int (100+16*k+j) g ai (m x) ci (f x) wr (O.below (JT.below C)) V d.o.2.2);have HX:=Lh hx;clear C y0 O hx hE V;go_wp2_with fail;refine bD.o.mono ?_;rintro e w3 ⟨H,K,A,rfl,Z,D,N⟩;have F:=d.o.1.kp D (no _) (λi x _=>by cases x<;>first|exact trivial|exact no _);obtain ⟨b4,e4,bE,aQ,U,I⟩:=F.at_ (by rw [lsK_len hk];omega);cases e4;obtain ⟨uo,X⟩:=I k (.p ν) (lsK_at v);have q0:=X.1;have qf:=U k;obtain ⟨q,E⟩:=F.put (i:=k) (u:=σ H (m x) K) (x:=.q 3 1 (f x)) hj ⟨m x,Z⟩;rw [lsK_next HX.o] at q;obtain ⟨B,r⟩:=ε (w3.setCell (π w k) (σ H (m x) K));rw [<-r] at q E;have aN:Hid (RowLf B A j (σ (ς (π w 0)) l l.length) 22 1 (lsK 3 1 f l (k+1))/\AT TagNN (EN w) A w B/\(∀ b,(B:Nat)<=b->A b=0)):=Lh ⟨q,(d.o.2.1.trans (D.mono (λt h=>h.elim) tn0)).trans (E.mono (λt h=>by unfold TagNN;omega) tn0),λb hb=>N b (Nt (by rw [r];simp) hb)⟩;have P:=Lh r;clear Z D N F bE aQ U I q E r y1 X;go_upto_region 6 with fail;rw [<-P.o];clear q0 qf P;go_wp2;go_roundw
   case rel=>exact ⟨k+1,ω,by go_num,Lh ⟨A,aN.o⟩⟩
   case measure=>simp [intOf];omega
  .have bF:k=l.length:=ω
   subst bF;rw [lsK_all] at d;go_wp2;go_ret;exact ⟨_,_,glue (w:Nat) c g,rfl,glue_rowLf d.o.2.1 d.o.1 hj,glue_chg d.o.2.1 tn99,glue_hi d.o.2.1 d.o.2.2⟩
def lists_Out (j:Nat) (c:A1) (l:List α) (m:α->Nat) (f:α->List ϒ) (a:Option Addr) (cap:Nat) (w:Ϣ) (hS:SrcL w 5 a l m f) (hj:j<16) (p:∀ b,(w:Nat)<=b->c b=0) (hl:l.length<=1000000):Calls prog 58 #[σ a l cap] w (LstPost j 127 (l.map λx=>.q 114 5 (f x)) l.length c w):=by
 have HS:=Lh hS;have HH:=Lh p;have bG:=λW=>make_one (t:=36) underlying36 info_souts rfl δ W l.length ω;obtain ⟨W,n⟩:=ε (w.alloc (χ (Array.replicate l.length (Value.slice none 0 0)) 127));have S:=bl1 n;obtain ⟨c1,s⟩:=ε (λb=>if b=(w:Nat) then 20+j else EN w b:A1);have T:c1 (w:Nat)=20+j:=by rw [s];exact if_pos rfl
 have J:RowLf W c1 j (σ (ς (π w 0)) l l.length) 127 1 (lsK 114 5 f l 0):=by rw [lsK_zero];refine ⟨l.length,ϱ l.length ν,by rw [n];exact rowC_rep ω T,ψ,λi y z hy hz=>?_⟩;rw [List.getElem?_map,hy] at hz;cases hz;exact rfl
 have Q:AT TagNN (EN w) c1 w W:=by have:=AT.paint (c:=EN w) (w:Nat) (20+j) S (Nr _);rw [s];exact this.mono (λt h=>h.elim) tn0
 have L:∀ b,(W:Nat)<=b->c1 b=0:=λb hb=>by have:=sz1 n;rw [s];show (if b=(w:Nat) then 20+j else EN w b)=0;rw [if_neg ω];exact Ee b ω
 have H0:=Lh (ϟ J (ϟ Q L));have bH:=Lh S;clear hS p J Q L T s;go_enter func58,ntmps58;go_upto_region 2 with fail;rw [<-n];clear n bG;go_wp2_with fail;go_loopw [11] (λG wr=>∃ k:Nat,k<=l.length/\G=ι k/\Hid (∃ g,RowLf wr g j (σ (ς (π w 0)) l l.length) 127 1 (lsK 114 5 f l k)/\AT TagNN (EN w) g w wr/\(∀ b,wr.heap.size<=b->g b=0))) (λG _=>l.length - (intOf G).toNat)
 case atStart=>exact ⟨0,Nat.zero_le _,rfl,Lh ⟨c1,H0.o⟩⟩
 case round=>
  obtain ⟨k,hk,rfl,HR⟩:=hrel;obtain ⟨g,Y,R,M⟩:=HR.o;have d:=Lh (ϟ Y (ϟ R M));clear Y R M;by_cases v:k<l.length
  .obtain ⟨x,hx⟩:∃ x,l[k]?=ς x:=⟨_,Lg v⟩
   have C:Below w w wr:=d.o.2.1.below0 tn99;rcases HS.o with h0|⟨b,o,rfl,hE⟩
   .rw [h0] at v;simp at v
   obtain ⟨ai,ci,y0,O⟩:=hE k x hx;have y1:=AB C y0;have i0:=In k;have i1:(k:Int)<(l:Int):=ω;have V:100+16*k+j≠0:=ω;have bD:=Lh (clone_Out (100+16*k+j) g ai (m x) ci (f x) wr (O.below (JT.below C)) V d.o.2.2);have HX:=Lh hx;clear C y0 O hx hE V;go_wp2_with fail;refine bD.o.mono ?_;rintro e w3 ⟨H,K,A,rfl,Z,D,N⟩;have F:=d.o.1.kp D (no _) (λi x _=>by cases x<;>first|exact trivial|exact no _);obtain ⟨b4,e4,bE,aQ,U,I⟩:=F.at_ (by rw [lsK_len hk];omega);cases e4;obtain ⟨uo,X⟩:=I k (.p ν) (lsK_at v);have q0:=X.1;have qf:=U k;obtain ⟨q,E⟩:=F.put (i:=k) (u:=σ H (m x) K) (x:=.q 114 5 (f x)) hj ⟨m x,Z⟩;rw [lsK_next HX.o] at q;obtain ⟨B,r⟩:=ε (w3.setCell (π w k) (σ H (m x) K));rw [<-r] at q E;have aN:Hid (RowLf B A j (σ (ς (π w 0)) l l.length) 127 1 (lsK 114 5 f l (k+1))/\AT TagNN (EN w) A w B/\(∀ b,(B:Nat)<=b->A b=0)):=Lh ⟨q,(d.o.2.1.trans (D.mono (λt h=>h.elim) tn0)).trans (E.mono (λt h=>by unfold TagNN;omega) tn0),λb hb=>N b (Nt (by rw [r];simp) hb)⟩;have P:=Lh r;clear Z D N F bE aQ U I q E r y1 X;go_upto_region 6 with fail;rw [<-P.o];clear q0 qf P;go_wp2;go_roundw
   case rel=>exact ⟨k+1,ω,by go_num,Lh ⟨A,aN.o⟩⟩
   case measure=>simp [intOf];omega
  .have bF:k=l.length:=ω
   subst bF;rw [lsK_all] at d;go_wp2;go_ret;exact ⟨_,_,glue (w:Nat) c g,rfl,glue_rowLf d.o.2.1 d.o.1 hj,glue_chg d.o.2.1 tn99,glue_hi d.o.2.1 d.o.2.2⟩
def lists_Cal (j:Nat) (c:A1) (l:List α) (m:α->Nat) (f:α->List ϒ) (a:Option Addr) (cap:Nat) (w:Ϣ) (hS:SrcL w 2 a l m f) (hj:j<16) (p:∀ b,(w:Nat)<=b->c b=0) (hl:l.length<=1000000):Calls prog 60 #[σ a l cap] w (LstPost j 65 (l.map λx=>.q 64 2 (f x)) l.length c w):=by
 have HS:=Lh hS;have HH:=Lh p;have bG:=λW=>make_one (t:=29) underlying29 info_scals rfl δ W l.length ω;obtain ⟨W,n⟩:=ε (w.alloc (χ (Array.replicate l.length (Value.slice none 0 0)) 65));have S:=bl1 n;obtain ⟨c1,s⟩:=ε (λb=>if b=(w:Nat) then 20+j else EN w b:A1);have T:c1 (w:Nat)=20+j:=by rw [s];exact if_pos rfl
 have J:RowLf W c1 j (σ (ς (π w 0)) l l.length) 65 1 (lsK 64 2 f l 0):=by rw [lsK_zero];refine ⟨l.length,ϱ l.length ν,by rw [n];exact rowC_rep ω T,ψ,λi y z hy hz=>?_⟩;rw [List.getElem?_map,hy] at hz;cases hz;exact rfl
 have Q:AT TagNN (EN w) c1 w W:=by have:=AT.paint (c:=EN w) (w:Nat) (20+j) S (Nr _);rw [s];exact this.mono (λt h=>h.elim) tn0
 have L:∀ b,(W:Nat)<=b->c1 b=0:=λb hb=>by have:=sz1 n;rw [s];show (if b=(w:Nat) then 20+j else EN w b)=0;rw [if_neg ω];exact Ee b ω
 have H0:=Lh (ϟ J (ϟ Q L));have bH:=Lh S;clear hS p J Q L T s;go_enter func60,ntmps60;go_upto_region 2 with fail;rw [<-n];clear n bG;go_wp2_with fail;go_loopw [11] (λG wr=>∃ k:Nat,k<=l.length/\G=ι k/\Hid (∃ g,RowLf wr g j (σ (ς (π w 0)) l l.length) 65 1 (lsK 64 2 f l k)/\AT TagNN (EN w) g w wr/\(∀ b,wr.heap.size<=b->g b=0))) (λG _=>l.length - (intOf G).toNat)
 case atStart=>exact ⟨0,Nat.zero_le _,rfl,Lh ⟨c1,H0.o⟩⟩
 case round=>
  obtain ⟨k,hk,rfl,HR⟩:=hrel;obtain ⟨g,Y,R,M⟩:=HR.o;have d:=Lh (ϟ Y (ϟ R M));clear Y R M;by_cases v:k<l.length
  .obtain ⟨x,hx⟩:∃ x,l[k]?=ς x:=⟨_,Lg v⟩
   have C:Below w w wr:=d.o.2.1.below0 tn99;rcases HS.o with h0|⟨b,o,rfl,hE⟩
   .rw [h0] at v;simp at v
   obtain ⟨ai,ci,y0,O⟩:=hE k x hx;have y1:=AB C y0;have i0:=In k;have i1:(k:Int)<(l:Int):=ω;have V:100+16*k+j≠0:=ω;have bD:=Lh (clone_Cal (100+16*k+j) g ai (m x) ci (f x) wr (O.below (JT.below C)) V d.o.2.2);have HX:=Lh hx;clear C y0 O hx hE V;go_wp2_with fail;refine bD.o.mono ?_;rintro e w3 ⟨H,K,A,rfl,Z,D,N⟩;have F:=d.o.1.kp D (no _) (λi x _=>by cases x<;>first|exact trivial|exact no _);obtain ⟨b4,e4,bE,aQ,U,I⟩:=F.at_ (by rw [lsK_len hk];omega);cases e4;obtain ⟨uo,X⟩:=I k (.p ν) (lsK_at v);have q0:=X.1;have qf:=U k;obtain ⟨q,E⟩:=F.put (i:=k) (u:=σ H (m x) K) (x:=.q 64 2 (f x)) hj ⟨m x,Z⟩;rw [lsK_next HX.o] at q;obtain ⟨B,r⟩:=ε (w3.setCell (π w k) (σ H (m x) K));rw [<-r] at q E;have aN:Hid (RowLf B A j (σ (ς (π w 0)) l l.length) 65 1 (lsK 64 2 f l (k+1))/\AT TagNN (EN w) A w B/\(∀ b,(B:Nat)<=b->A b=0)):=Lh ⟨q,(d.o.2.1.trans (D.mono (λt h=>h.elim) tn0)).trans (E.mono (λt h=>by unfold TagNN;omega) tn0),λb hb=>N b (Nt (by rw [r];simp) hb)⟩;have P:=Lh r;clear Z D N F bE aQ U I q E r y1 X;go_upto_region 6 with fail;rw [<-P.o];clear q0 qf P;go_wp2;go_roundw
   case rel=>exact ⟨k+1,ω,by go_num,Lh ⟨A,aN.o⟩⟩
   case measure=>simp [intOf];omega
  .have bF:k=l.length:=ω
   subst bF;rw [lsK_all] at d;go_wp2;go_ret;exact ⟨_,_,glue (w:Nat) c g,rfl,glue_rowLf d.o.2.1 d.o.1 hj,glue_chg d.o.2.1 tn99,glue_hi d.o.2.1 d.o.2.2⟩
