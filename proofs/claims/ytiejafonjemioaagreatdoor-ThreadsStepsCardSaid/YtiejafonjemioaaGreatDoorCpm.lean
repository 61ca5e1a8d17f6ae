import Derived.Test.YtiejafonjemioaaGreatDoorThp
import Derived.Test.YtiejafonjemioaaGreatDoorTh6
set_option maxHeartbeats 4000000
set_option maxRecDepth 100000
set_option linter.all false
open Go renaming World→Ϣ,Value→ϒ,bodyPost_ret→ϖ,heap_setCell_same→ϡ
open Go.RowKit renaming Below→ϐ
open Option renaming some→ς
open And renaming intro→ϟ
open Go.Value renaming slice→σ
open Go.Obj renaming cells→χ
namespace Go.Proofs.YtiejafonjemioaaGreatDoor
open Go.RowKit Proofs.Tryz
variable {e:TypeId} {w w' wr w8 w9 W:Ϣ} {c c1 c9:A1} {tag sz n b cap k g1 R bi br bo:Nat} {o:Oper} {a:Act} {K:Act->Ϣ->Prop} {Q:Exit->Act->Ϣ->Prop} {T:Nat->Prop} {v v' fv fv0:ϒ} {xs:List ϒ} {l:List Bi} {m:AV}
def PB {t:TypeId} (f:TypeInfo) (d:prog.underlying t=ς (.slice e)) (a:prog.info? e=ς f) (g:TypeId) (b c:Nat) (w:Ϣ):(Builtin.append_ #[t,t] g #[σ (ς (π b 0)) 0 0,σ none 0 c]).run prog w=.ok (σ (ς (π b 0)) 0 0) w:=by
 simp [Builtin.append_,run_underlying d,sizeOf,typeInfo,a,Builtin.lenOf,Builtin.firstCells,storeCells]
def WK {a:Nat} (g:w.heap[a]?=ς (χ #[] e (0,0))) (f:c a=tag):Ao w c tag e sz (σ (ς (π a 0)) 0 0) 0 []:=
 ⟨⟨ψ,.inr ⟨a,0,#[],rfl,Nat.zero_le _,g,Nr _,by unfold maxLen;omega,ψ,ψ⟩⟩,λb d=>by simp [Value.ownBlock] at d;subst d;exact f,ω⟩
def Nj (tag:Nat) (s x:Operand) (t e:TypeId) (D:o.op=.call { callee:=.builtin .append,args:=#[s,x],argTypes:=#[t,t] }) (F:prog.underlying t=ς (.slice e)) {z:ϒ} {bytes:Nat} (L:(prog.info? e).map (λi=>(i.zero,i.size,i.bytes))=ς (ς z,sz,bytes)) (V:z.cells.size=sz) (E:0<sz) (r:bytes<=128)
  (f:Nat) (S:w.heap[f]?=ς (χ #[] e (0,0))) (hs:a.eval s=σ (ς (π f 0)) 0 0) (xa:Option Addr) (n xc:Nat) (d:List ϒ) (G:a.eval x=σ xa n xc) (hl:d.length=n*sz) (U:n=0\/∃ m,xa=ς m/\∀ (j:Nat) u,d[j]?=ς u->w.cell? (m.add j)=ς u) (v:∀ u∈d,u.oneCell'=true) (Z:n<=1000000) (J:c f=tag) (B:tag≠0) (l:∀ b,(w:Nat)<=b->c b=0)
  (h:∀ g cap w' q,Ao w' q tag e sz (σ (ς (π g 0)) n cap) n d->AT (λk=>k=tag) c q w w'->(∀ b,w'.heap.size<=b->q b=0)->K (a.put o.dst (σ (ς (π g 0)) n cap)) w'):o.wp prog a w K Q:=by
 have y:=WK (sz:=sz) S J;by_cases H:n=0
 .subst H
  obtain rfl:d=[]:=List.eq_nil_of_length_eq_zero ω;obtain ⟨M,I,X,N,Y⟩:=info_parts L;cases xa with
  | none=>have A:=PB M F I o.type f xc w;unfold Oper.wp;simp [execOp,D,resolve,invoke,builtin,hs,G,A,Result.andThen];exact h f 0 w c y (AT.ob Br (λe=>B e.symm)) l
  | some m=>obtain ⟨w',A,W,p⟩:=run_append_fits (P:=prog) w 0 t o.type e M sz F I N f 0 0 [] y.1 m 0 xc [] ψ ψ ψ (Nr _);unfold Oper.wp;simp [execOp,D,resolve,invoke,builtin,hs,G,A,Result.andThen];exact h f 0 w' c ⟨by simpa using W,y.2⟩ ⟨p.os,p.tape,p.output,p.size,λb r T=>p.block b r (λe=>T (by simp at e;subst e;exact J)),λ_ _=>rfl,λe=>B e.symm⟩ (λb r=>l b (Nt p.size r))
 .obtain ⟨m,rfl,aC⟩:=U.resolve_left H
  refine Dz (λk=>k=tag) s x t e D F L V E r hs y m n xc d G hl aC v ω ω rfl (λe=>B e.symm) l (λg cap w' q C O R _=>?_);rw [Nat.zero_add] at C ⊢;rw [List.nil_append] at C;exact h g cap w' q C O R
def AT.paint (b tag:Nat) (h:ϐ w w w') (d:(w:Nat)<=b):AT NO c (λx=>if x=b then tag else c x) w w':=
 ⟨h.os,h.tape,h.output,h.size,λx a _=>h.block x a,λx a=>if_neg ω,no 0⟩
def EN (n:Nat):A1:=λb=>if b<n then 99 else 0
def Ee :∀ b,n<=b->EN n b=0:=λb a=>if_neg ω
def Mv (h:b<n):EN n b=99:=if_pos h
def AT.seen (h:AT T (EN w) c1 w w') (f:∀ b,(w:Nat)<=b->c b=0):JT (mask w' c1) (mask w' c):=λa v d=>by
 rw [GJ] at d ⊢;split at d
 .rename_i h1
  rw [if_pos (f _ (Nat.le_of_not_lt λe=>by rw [h.old _ e,Mv e] at h1;cases h1))];exact d
 .cases d
def AT.fresh (h:AT T (EN w) c1 w w') (c:c1 b=tag) (d:tag≠99:=by decide):(w:Nat)<=b:=Nat.le_of_not_lt λa=>by
 rw [h.old _ a,Mv a] at c;exact d c.symm
def AT.below0 (h:AT T (EN w) c1 w w') (c:¬T 99):ϐ w w w':=
 ⟨h.os,h.tape,h.output,h.size,λb a=>h.kp b a (by rw [Mv a];exact c)⟩
def Ao.seen (h:AT T (EN w) c1 w w') (f:∀ b,(w:Nat)<=b->c b=0) (a:Ao w' c1 tag e sz v n xs) (g:tag≠99:=by decide):Ao (mask w' c) c1 tag e sz v n xs:=
 ⟨JV a.1 (λb d=>Jj (f b (h.fresh (a.2.1 b d) g))),a.2⟩
def IT {w0:Ϣ} (s x:Operand) (V:o.op=.call { callee:=.builtin .append,args:=#[s,x],argTypes:=#[22,22] })
  (f:Nat) (D:w.heap[f]?=ς (χ #[] 3 (0,0))) (hs:a.eval s=σ (ς (π f 0)) 0 0) (d:ϐ w0 w0 w) (H:(w0:Nat)<=f) (xa:Option Addr) (n xc:Nat) (l:List Int) (B:Nat) (W:a.eval x=σ xa n xc) (hl:AE B w 1 Aj (σ xa n xc) l) (F:l.length<=1000000) (E:∀ b,(w0:Nat)<=b->c b=0)
  (h:∀ g cap w',AE w'.heap.size (mask w' c) 1 Aj (σ (ς (π g 0)) n cap) l->ϐ w0 w0 w'->((∀ b,b<(w:Nat)->b≠f->w'.heap[b]?=w.heap[b]?)/\JT w w'/\(w:Nat)<=w'.heap.size)->K (a.put o.dst (σ (ς (π g 0)) n cap)) w'):o.wp prog a w K Q:=by
 have Y:=(La D)
 obtain ⟨R,S,P,Z,aL,aM,t⟩:=hl;obtain ⟨rfl,rfl,rfl⟩:xa=R/\n=l.length/\xc=S:=by simpa using P
 have M:∀ q∈l,in64 q:=λq J=>by
  rcases t with C|⟨b,X,rfl,N,t⟩
  .subst C;cases J
  .obtain ⟨i,hi,rfl⟩:=List.getElem_of_mem J
   exact (t i _ (Lg hi)).2
 refine Nj 1 s x 22 3 V underlying22 (z:=ι 0) (sz:=1) (bytes:=8) Cx rfl δ δ (c:=λb=>if b=f then 1 else 0) f D hs xa l.length xc (l.map (Value.int .i64)) W ψ ?_ (λu m=>?_) F (if_pos rfl) δ (λb k=>if_neg ω) (λg cap w' T G p _=>?_)
 .rcases t with C|⟨b,X,rfl,N,t⟩
  .left;rw [C];rfl
  .refine .inr ⟨_,rfl,λj u m=>?_⟩
   rw [List.getElem?_map] at m;cases r:l[j]? with
   | none=>rw [r] at m;simp at m
   | some q=>rw [r] at m;simp at m;subst m;have:=(t j q r).1;rw [Nat.mul_one] at this;rw [GB];exact this
 .obtain ⟨_,_,rfl⟩:=List.mem_map.1 m;rfl
 .have aE:(w0:Nat)<=g:=by
   have r:=G.2.1 g (by simp [Value.ownBlock]);by_cases O:g<w
   .rw [p.old g O] at r
    by_cases e:g=f
    .omega
    .rw [if_neg e] at r;cases r
   .have:=d.size;omega
  have I:∀ b,b<(w:Nat)->b≠f->w'.heap[b]?=w.heap[b]?:=λb k A=>p.kp b k (by rw [if_neg A];decide);have L:JT w w':=λq v y=>by
   have A:q.block≠f:=λe=>by unfold World.cell? at y;rw [e,D] at y;simp at y
   rw [World.cell?_of_block (w:=w) (I _ (World.block_lt_of_cell? w q y) A)];exact y
  refine (λH U=>h g cap w' H U ⟨I,L,p.size⟩) ?_ ⟨p.os.trans d.os,p.tape.trans d.tape,p.output.trans d.output,Nt d.size p.size,λb k=>?_⟩
  .have hR:Dq (mask w' c) T 1 (σ (ς (π g 0)) l cap) l:=⟨⟨JV G.1 (λb k=>by
    simp [Value.ownBlock] at k;subst k;exact Jj (E _ aE)),G.2⟩,M⟩
   have:=hR.reads;rw [Hk] at this;exact this
  .rw [p.kp b (Nl k d.size) (by rw [if_neg ω];decide)]
   exact d.block b k
def Jo (h:JT w w'):JT (mask w c) (mask w' c):=λa v b=>by
 rw [GJ] at b ⊢;split at b
 .rename_i h1
  rw [if_pos h1];exact h _ _ b
 .cases b
structure Pa (l:List Bi) (w:Ϣ) (k:Nat) (v:ϒ) (c:A1) (xs:List ϒ) (wr:Ϣ):Prop where
 row:Ao wr c 1 80 2 v k xs
 chg:AT (λt=>t=1) (EN w) c w wr
 hi:∀ b,(wr:Nat)<=b->c b=0
 elem:∀ (i:Nat) x,i<k->l[i]?=ς x->∃ av,xs[i*2]?=ς (.string x.proc)/\xs[i*2+1]?=ς av/\AE wr (mask wr c) 1 Aj av x.args/\x.proc.size<=140737488355328
 len:xs.length=k*2
def PX:(prog.info? 80).map (λi=>(i.zero,i.size,i.bytes))=ς (ς (.agg #[.string ⟨#[]⟩,ν]),2,40):=by kernel_rfl
def Kp (l:List Bi) (w:Ϣ) (e:Ending) (w':Ϣ):Prop:=∃ a cap,e=.returned (σ a l cap)/\ϐ w w w'/\∀ c:A1,(∀ b,(w:Nat)<=b->c b=0)->AE w' (mask w' c) 2 (DA w') (σ a l cap) l
def Pa.post {a:Option Addr} (h:Pa l w l.length (σ a l cap) c xs wr):Kp l w (.returned (σ a l cap)) wr:=by
 refine ⟨a,cap,rfl,h.chg.below0 δ,λj d=>?_⟩;have f:=h.row.seen h.chg d δ;have:=f.reads (l:=l) (E:=DA wr) (λi x b=>?_) (λi x g b e=>?_)
 .rw [Hk] at this;exact this
 .obtain ⟨av,h1,_⟩:=h.elem i x (Ll b) b
  exact ⟨_,h1⟩
 .obtain ⟨av,h1,h2,h3,h4⟩:=h.elem i x (Ll b) b
  exact ⟨e _ _ h1,⟨av,e _ _ h2,h3.ups B5 (Nr _) (h.chg.seen d)⟩,h4⟩
def Pa.next {c1:Nat} {x:Bi} (h:Pa l w k v c xs wr) (o:l[k]?=ς x) (hs:x.proc.size<=140737488355328) (m:ϐ wr wr w8) (hl:AE w8 (mask w8 c) 1 Aj (σ (ς (π g1 0)) x.args c1) x.args)
  (j:AT (λt=>t=1) c c9 (w8.alloc (χ #[.string x.proc,σ (ς (π g1 0)) x.args c1] 80)) w9) (e:∀ b,(w9:Nat)<=b->c9 b=0) (n:Ao w9 c9 1 80 2 v' (k+1) (xs++[.string x.proc,σ (ς (π g1 0)) x.args c1])):Pa l w (k+1) v' c9 (xs++[.string x.proc,σ (ς (π g1 0)) x.args c1]) w9:=by
 have d:AT (λt=>t=1) c c wr w8:=AT.ob m δ;have a:=(AT.ob (AA _ _) δ).trans j;refine ⟨n,(h.chg.trans d).trans a,e,λi y p f=>?_,by simp [h.len];omega⟩;by_cases g:i<k
 .obtain ⟨av,e1,e2,e3,e4⟩:=h.elem i y g f
  exact ⟨av,by rw [Al (by rw [h.len];omega)];exact e1,by rw [Al (by rw [h.len];omega)];exact e2,e3.ups B5 (d.trans a).size (d.trans a).sub,e4⟩
 .obtain rfl:i=k:=ω
  rw [o] at f;cases f;exact ⟨_,by rw [Ar (by rw [h.len];omega),h.len,Nat.sub_self];rfl,by rw [Ar (by rw [h.len];omega),h.len,show i*2+1 - i*2=1 by omega];rfl,hl.ups B5 a.size a.sub,hs⟩
def Lq (l:List Bi) (v:ϒ) (B:Nat) (w:Ϣ) (Z:B<=w) (H:AE B w 2 (DA B) v l) (hn:l.length<=1000000) (ha:∀ x∈l,x.args.length<=1000000) :
  Calls prog 51 #[v] w (Kp l w):=by
 obtain ⟨va,vc,rfl⟩:=H.form;have HV:=Lh H;have HA:=Lh ha;have z:=Lh Z;obtain ⟨n,F⟩:=ε l.length;rw [<-F] at hn ⊢;have A:=Lh F;have aM:Hid (Pa l w 0 ν (EN w) [] w):=Lh ⟨Ao.nil _ _ _ _ _,AT.ob Br δ,Ee,λi x hi=>by omega,rfl⟩;clear H ha Z F;go_enter func51,ntmps51;go_wp2_with fail;go_loopw [3,8] (λv i wr=>∃ (k:Nat) (a:Option Addr) (cap:Nat),k<=n/\v=σ a k cap/\i=ι k/\Hid (∃ c xs,Pa l w k (σ a k cap) c xs wr)) (λ_ i _=>n - (intOf i).toNat)
 case atStart=>exact ⟨0,none,0,Nat.zero_le _,rfl,rfl,Lh ⟨_,_,aM.o⟩⟩
 case round=>
  obtain ⟨k,K,C,hk,rfl,rfl,r⟩:=hrel;obtain ⟨c,xs,r⟩:=r.o;have d:=Lh r;clear r;by_cases bK:k<n
  .obtain ⟨x,hx⟩:∃ y,l[k]?=ς y:=⟨_,Lg (by have:=A.o;omega)⟩
   have HX:=Lh hx;have Q:=(d.o.chg.below0 δ).mono z.o;obtain ⟨m,no,bI,bJ,bC⟩:∃ m no,va=ς (π m no)/\m<B/\DA B wr m (no+k*2) x:=by
    obtain ⟨a0,aH,bF,_,_,_,G⟩:=HV.o;obtain ⟨rfl,_,rfl⟩:va=a0/\n=l.length/\vc=aH:=by have:=A.o;simpa [this] using bF
    rcases G with h0|⟨m,no,rfl,g,G⟩
    .rw [h0] at hx;simp at hx
    .exact ⟨m,no,rfl,g,(G k x hx).below Q g⟩
   subst bI;obtain ⟨n0,⟨lv,n1,E⟩,W⟩:=bC;obtain ⟨I,J,rfl⟩:=E.form;have Y:=HA.o x (Lm hx);obtain ⟨V,p⟩:=ε (wr.alloc (χ #[.string x.proc,σ I x.args J] 80));have o:=Lh (bl1 p);have N:=ro11 p;have q:=Ω2 N;have zn:=Bl n0;have bG:=In k;have bH:(k:Int)<(n:Int):=ω;have aY:=Lh W;have bA:=Lh Y;have bL:=@Lh ((wr:Nat)<V) (by rw [p];simp);have HE:=@Lh ((V.alloc (χ #[] 3)).drew.heap[(V:Nat)]?=ς (χ #[] 3 (0,0))) (Hn V _);have O:=@Lh (ϐ V V (V.alloc (χ #[] 3)).drew) (Cb V _);have HL:=Lh ((E.ints (o.o.mono (Nt z.o d.o.chg.size))).ints (O.o.mono (Nt z.o (Nt d.o.chg.size o.o.size))));have aW:=Lh (λb g=>d.o.hi b (Nt o.o.size g));clear hx Q E W N Y;go_upto_region 5 with fail;rw [<-p];clear p n0 n1 zn bG bH;refine Ac (λL=>L.cell? (π wr 0)=ς (.string x.proc)/\L.cell? (π wr 1)=ς (σ I x.args J)) [3,6,7,8,9,10] true 11 rfl κ κ ⟨q.1,q.2⟩ ?_;refine softA ?_;have f:=Lh (ϟ q.1 q.2);clear q;refine AH κ ?_;go_simp;refine ⟨Θ2 (AA _ _) f.o,?_⟩;refine AH κ ?_;refine IT (w0:=V) (.tmp 15) (.tmp 17) rfl (c:=c) V HE.o rfl O.o (Nr _) I x.args.length J x.args B rfl HL.o bA.o aW.o (λg1 c1 w8 X R _=>?_);have aZ:=Lh X;have e:=Lh R;clear X R;refine ⟨.inl (Θ2 e.o f.o),?_⟩
   (refine' Ae κ _ (λwV bD=>?_) ?_;rotate_left;(clear bD;go_simp);(try with_reducible rfl);try simp only [Ap])
   refine AH κ ?_;go_simp;refine ⟨⟨AB (AA _ _) (AB e.o f.o.1),AB (AA _ _) (AB e.o f.o.2)⟩,?_⟩;have P:=@Lh (ϐ wr wr (w8.alloc (χ #[.string x.proc,σ (ς (π g1 0)) x.args c1] 80))) ((o.o.th e.o).th (AA _ _));have aG:=Lh (λb g=>d.o.hi b (Nt P.o.size g));refine AH κ ?_;refine Dz (λt=>t=1) (.tmp 12) (.tmp 20) 54 80 rfl underlying54 PX rfl δ δ (c:=c) (tag:=1) (v:=σ K k C) (n:=k) (xs:=xs) rfl (d.o.row.kp (T:=NO) (AT.ob (c:=c) P.o (λh=>h)) (λh=>h)) (π w8 0) 1 1 [.string x.proc,σ (ς (π g1 0)) x.args c1] rfl rfl (λj u hu=>(Cy w8 _ _ j).trans (by simpa using hu)) (by simp [Value.oneCell']) δ ω rfl δ aG.o (λg2 bB w9 c9 M s S bE=>?_);have U:=d.o.next HX.o aY.o (o.o.th e.o) aZ.o s S M;have aX:=Lh U;have D:¬c (wr:Nat)=1:=by rw [d.o.hi _ (Nr _)];decide
   have q0:=s.cell (AB (AA _ _) (AB e.o f.o.1)) D;have q1:=s.cell (AB (AA _ _) (AB e.o f.o.2)) D;refine ⟨.inl ⟨q0,q1⟩,?_⟩;clear M s S bE U D q0 q1;refine AH κ ?_;go_simp;refine BH ?_;go_wp2;go_roundw
   case rel=>exact ⟨k+1,_,_,ω,rfl,by go_num,Lh ⟨_,_,aX.o⟩⟩
   case measure=>simp [intOf];omega
  .obtain rfl:k=n:=ω
   have hp:Kp l w (.returned (σ K k C)) wr:=by have h:=d.o;rw [A.o] at h ⊢;exact h.post
   have HP:=Lh hp;clear hp;go_wp2;exact ϖ (v:=σ K k C) (by simp [results,results51,go_sem]) rfl HP.o
def T3 (t:Nat):Prop:=t=1\/t=2\/t=3
def Qj:¬T3 0:=by unfold T3;omega
def We:¬T3 99:=by unfold T3;omega
def KQ (h:W.heap[R]?=ς (χ (AC fv m) 51 (0,0))) :
  W.cell? (π R 0)=ς fv/\W.cell? (π R 1)=ς (ι m.Q.K)/\W.cell? (π R 2)=ς (ι m.Q.O)/\W.cell? (π R 3)=ς (ι m.Q.D)/\W.cell? (π R 4)=ς (ι m.Q.V)/\W.cell? (π R 5)=ς (ι m.Q.X)/\W.cell? (π R 6)=ς (ι m.Y)/\W.cell? (π R 7)=ς (ι m.C)/\W.cell? (π R 8)=ς (ι m.I):=
 ⟨AD h 0 _ rfl,AD h 1 _ rfl,AD h 2 _ rfl,AD h 3 _ rfl,AD h 4 _ rfl,AD h 5 _ rfl,AD h 6 _ rfl,AD h 7 _ rfl,AD h 8 _ rfl⟩
def Vp {c:Array ϒ} {T:TypeId} (h:W.heap[R]?=ς (χ c T (0,0))) :
  W.frozen? (π R 0)=false/\W.frozen? (π R 1)=false/\W.frozen? (π R 2)=false/\W.frozen? (π R 3)=false/\W.frozen? (π R 4)=false/\W.frozen? (π R 5)=false/\W.frozen? (π R 6)=false/\W.frozen? (π R 7)=false/\W.frozen? (π R 8)=false:=
 ⟨Fz h,Fz h,Fz h,Fz h,Fz h,Fz h,Fz h,Fz h,Fz h⟩
def Vi {M:Nat} (h:T (c M)) (a:¬T 0):AT T c c w (Ai w M fv m):=
 ((((((((AT.set (T:=T) h a).trans (AT.set h a)).trans (AT.set h a)).trans (AT.set h a)).trans (AT.set h a)).trans (AT.set h a)).trans (AT.set h a)).trans (AT.set h a)).trans (AT.set h a)
structure Pd (m:AV) (w:Ϣ) (bi br bo k:Nat) (fv0 v:ϒ) (c:A1) (xs:List ϒ) (wr:Ϣ):Prop where
 row:Ao wr c 1 129 4 v k xs
 chg:AT T3 (EN w) c w wr
 hi:∀ b,(wr:Nat)<=b->c b=0
 box:wr.heap[bo]?=ς (χ (AC v m) 51 (0,0))
 cbo:c bo=2
 res:wr.heap[br]?=ς (χ (AC ν AI) 51 (0,0))
 cbr:c br=3
 inp:wr.heap[bi]?=ς (χ (AC fv0 m) 51 (0,0))
 cbi:c bi=0
 elem:∀ (i:Nat) f,i<k->m.J[i]?=ς f->∃ lv sv,xs[i*4]?=ς (ι f.fn)/\xs[i*4+1]?=ς (ι f.pc)/\xs[i*4+2]?=ς lv/\xs[i*4+3]?=ς sv/\AE wr (mask wr c) 1 Aj lv f.L/\AE wr (mask wr c) 1 Aj sv f.S/\in64 f.fn/\in64 f.pc
 len:xs.length=k*4
def Pc (m:AV) (w:Ϣ) (e:Ending) (w':Ϣ):Prop:=∃ a cap,e=.returned (AJ (σ a m.J cap) m)/\ϐ w w w'/\∀ c:A1,(∀ b,(w:Nat)<=b->c b=0)->AE w' (mask w' c) 4 (CK w') (σ a m.J cap) m.J
def Pd.post {a:Option Addr} (h:Pd m w bi br bo m.J.length fv0 (σ a m.J cap) c xs wr):Pc m w (.returned (AJ (σ a m.J cap) m)) (Ai wr br (σ a m.J cap) m):=by
 obtain ⟨j,n⟩:=ε (Ai wr br (σ a m.J cap) m);have b:AT (λt=>t=3) c c wr j:=by rw [n];exact Vi h.cbr ω
 have f:=h.chg.trans (b.mono (λt q=>.inr (.inr q)) Qj);rw [<-n];refine ⟨a,cap,rfl,f.below0 We,λr k=>?_⟩;have p:=(h.row.kp b ω).seen f k δ;have:=p.reads (l:=m.J) (E:=CK j) (λi x d=>?_) (λi x g d e=>?_)
 .rw [Hk] at this;exact this
 .obtain ⟨lv,sv,h1,_⟩:=h.elem i x (Ll d) d
  exact ⟨_,h1⟩
 .obtain ⟨lv,sv,h1,h2,h4,h5,h6,h7,h8⟩:=h.elem i x (Ll d) d
  have o:=b.sub.trans (f.seen k);exact ⟨e _ _ h1,e _ _ h2,⟨lv,e _ _ h4,h6.ups B5 b.size o⟩,⟨sv,e _ _ h5,h7.ups B5 b.size o⟩,h8⟩
def Pd.next {c1 n l:Nat} {f:AY} (h:Pd m w bi br bo k fv0 v c xs wr) (L:m.J[k]?=ς f) (q:in64 f.fn/\in64 f.pc) (r:ϐ wr wr w8) (hl:AE w8 (mask w8 c) 1 Aj (σ (ς (π g1 0)) f.L c1) f.L) (u:AE w8 (mask w8 c) 1 Aj (σ (ς (π n 0)) f.S l) f.S)
  (J:AT (λt=>t=1) c c9 (w8.alloc (χ #[ι f.fn,ι f.pc,σ (ς (π g1 0)) f.L c1,σ (ς (π n 0)) f.S l] 129)) w9) (s:∀ b,(w9:Nat)<=b->c9 b=0) (K:Ao w9 c9 1 129 4 v' (k+1) (xs++[ι f.fn,ι f.pc,σ (ς (π g1 0)) f.L c1,σ (ς (π n 0)) f.S l])) :
  Pd m w bi br bo (k+1) fv0 v' c9 (xs++[ι f.fn,ι f.pc,σ (ς (π g1 0)) f.L c1,σ (ς (π n 0)) f.S l]) (w9.setCell (π bo 0) v'):=by
 have I:AT (λt=>t=1) c c wr w8:=AT.ob r δ;have E:=(AT.ob (AA _ _) δ).trans J;have a:=I.trans E;have F:=(La h.box)
 have A:c9 bo=2:=by rw [a.old _ F];exact h.cbo
 have e:AT (λt=>t=2) c9 c9 w9 (w9.setCell (π bo 0) v'):=AT.set A ω;have C:∀ t,t=1->T3 t:=λt h=>.inl h;have D:∀ t,t=2->T3 t:=λt h=>.inr (.inl h);have d:=(a.mono C Qj).trans (e.mono D Qj);have G:w9.heap[bo]?=ς (χ (AC v m) 51 (0,0)):=by rw [a.kp _ F (by rw [h.cbo];omega)];exact h.box
 have p:=(La h.res)
 have o:=(La h.inp)
 have B:c9 br=3:=by rw [a.old _ p];exact h.cbr
 have z:c9 bi=0:=by rw [a.old _ o];exact h.cbi
 have g:=h.len;have H:(w9:Nat)=(w9.setCell (π bo 0) v').heap.size:=by simp
 refine ⟨K.kp e ω,h.chg.trans d,λb r=>s b (by rw [H];exact r),?_,A,?_,B,?_,z,λi y M x=>?_,by simp [h.len];omega⟩
 .rw [ϡ _ _ _ _ _ _ G,CY]
 .rw [e.kp _ (Nl p a.size) (by rw [B];omega),a.kp _ p (by rw [h.cbr];omega)];exact h.res
 .rw [e.kp _ (Nl o a.size) (by rw [z];omega),a.kp _ o (by rw [h.cbi];omega)];exact h.inp
 .by_cases aM:i<k
  .obtain ⟨lv,sv,e1,e2,e3,e4,e5,e6,e7⟩:=h.elem i y aM x
   exact ⟨lv,sv,by rw [Al ω];exact e1,by rw [Al ω];exact e2,by rw [Al ω];exact e3,by rw [Al ω];exact e4,e5.ups B5 d.size d.sub,e6.ups B5 d.size d.sub,e7⟩
  .obtain rfl:i=k:=ω
   rw [L] at x;cases x;have j:=(E.mono C Qj).trans (e.mono D Qj);exact ⟨_,_,by rw [Ar ω,g,Nat.sub_self];rfl,by rw [Ar ω,g,show i*4+1 - i*4=1 by omega];rfl,by rw [Ar ω,g,show i*4+2 - i*4=2 by omega];rfl,by rw [Ar ω,g,show i*4+3 - i*4=3 by omega];rfl,hl.ups B5 j.size j.sub,u.ups B5 j.size j.sub,q⟩
def TB (m:AV) (fv:ϒ) (B:Nat) (w:Ϣ) (hB:B<=w) (hm:AE B w 4 (CK B) fv m.J) (cQ:m.J.length<=1000) (L:∀ f∈m.J,f.L.length<=1000000/\f.S.length<=1000000) :
  Calls prog 101 #[AJ fv m] w (Pc m w):=by
 obtain ⟨S,mc,rfl⟩:=hm.form;have cC:=Lh hm;have cB:=Lh L;have HB:=Lh hB;obtain ⟨n,hn⟩:=ε m.J.length;rw [<-hn] at cQ ⊢;have HN:=Lh hn;obtain ⟨W2,C⟩:=ε (((w.alloc (χ (AC (σ S n mc) m) 51)).alloc (χ (AC ν AI) 51)).alloc (χ (AC (σ S n mc) m) 51));have N:=bl3 C;have bY:=sz3 C;have b0:=ro31 C;have b1:=ro32 C;have b2:=ro33 C;obtain ⟨W,hW⟩:=ε (W2.setCell (π (w+1+1) 0) ν);have aZ:=@Lh (Pd m w w (w+1) ((w:Nat)+1+1) 0 (σ S n mc) ν (λb=>if b=(w:Nat)+1+1 then 2 else if b=(w:Nat)+1 then 3 else EN w b) [] W) (by
  have D:AT T3 (EN w) (λb=>if b=(w:Nat)+1+1 then 2 else if b=(w:Nat)+1 then 3 else EN w b) w W2:=⟨N.os,N.tape,N.output,N.size,λb E _=>N.block b E,λb E=>by show (if _ then _ else if _ then _ else _)=_;rw [if_neg ω,if_neg ω],Qj⟩
  have hS:AT (λt=>t=2) (λb=>if b=(w:Nat)+1+1 then 2 else if b=(w:Nat)+1 then 3 else EN w b) (λb=>if b=(w:Nat)+1+1 then 2 else if b=(w:Nat)+1 then 3 else EN w b) W2 W:=by rw [hW];exact AT.set (if_pos rfl) ω
  have hz:(W:Nat)=(w:Nat)+3:=by rw [hW];simpa using bY
  refine ⟨Ao.nil _ _ _ _ _,D.trans (hS.mono (λt ht=>.inr (.inl ht)) Qj),λb E=>?_,by rw [hW,ϡ _ _ _ _ _ _ b2,CY],if_pos rfl,?_,?_,?_,?_,λi x hi=>by omega,rfl⟩
  .show (if _ then _ else if _ then _ else _)=_
   rw [if_neg ω,if_neg ω];exact Ee b ω
  .rw [hS.kp _ ω (by rw [if_neg ω,if_pos rfl];omega)];exact b1
  .show (if _ then _ else if _ then _ else _)=_
   rw [if_neg ω,if_pos rfl]
  .rw [hS.kp _ ω (by rw [if_neg ω,if_neg ω];rw [Ee _ (Nr _)];omega)];exact b0
  .show (if _ then _ else if _ then _ else _)=_
   rw [if_neg ω,if_neg ω];exact Ee _ (Nr _))
 have k0:=KQ b0;have j0:=KQ b2;have g0:=Vp b2;clear b0 b1 b2 N hn hm L bY hB;unfold AJ;unfold AC AI at C;unfold AC;dsimp only at C ⊢;go_enter func101,ntmps101;have HW:=Lh hW;clear hW;go_upto_region 2 with fail;rw [<-C];have cO:=Lh C;clear C;go_upto_region 3 with fail;rw [<-HW.o];have cL:=(KQ aZ.o.inp).1;clear k0 j0 g0;go_wp2_with fail;clear cL;go_loopw [11] (λi wr=>∃ (k:Nat),k<=n/\i=ι k/\Hid (∃ a cap c xs,Pd m w w (w+1) ((w:Nat)+1+1) k (σ S n mc) (σ a k cap) c xs wr)) (λi _=>n - (intOf i).toNat)
 case atStart=>exact ⟨0,Nat.zero_le _,rfl,Lh ⟨_,_,_,_,aZ.o⟩⟩
 case round=>
  obtain ⟨k,hk,rfl,bD⟩:=hrel;obtain ⟨X,O,c,xs,bD⟩:=bD.o;have r:=Lh bD;clear bD;by_cases cP:k<n
  .obtain ⟨f,hf⟩:∃ y,m.J[k]?=ς y:=⟨_,Lg (by have:=HN.o;omega)⟩
   have HF:=Lh hf;have bR:=(r.o.chg.below0 We).mono HB.o;obtain ⟨U,no,cM,cN,cF⟩:∃ U no,S=ς (π U no)/\U<B/\CK B wr U (no+k*4) f:=by
    obtain ⟨a0,bI,cI,_,_,_,hE⟩:=cC.o;obtain ⟨rfl,_,rfl⟩:S=a0/\n=m.J.length/\mc=bI:=by have:=HN.o;simpa [this] using cI
    rcases hE with h0|⟨U,no,rfl,E,hE⟩
    .rw [h0] at hf;simp at hf
    .exact ⟨U,no,rfl,E,(hE k f hf).below bR E⟩
   subst cM;obtain ⟨n0,n1,⟨lv,n2,bM⟩,⟨sv,n3,bN⟩,bQ⟩:=cF;obtain ⟨la,lc,rfl⟩:=bM.form;obtain ⟨sa,sc,rfl⟩:=bN.form;have bU:=cB.o f (Lm hf);have bT:=r.o.box;have i0:=(KQ r.o.inp).1;obtain ⟨V,hV⟩:=ε (wr.alloc (χ #[ι f.fn,ι f.pc,σ la f.L lc,σ sa f.S sc] 129));have M:=Lh (bl1 hV);have Z:=ro11 hV;have v0:=Cw Z 0 rfl;have v1:=Cw Z 1 rfl;have v2:=Cw Z 2 rfl;have v3:=Cw Z 3 rfl;have v4:=AB M.o (KQ bT).1;have cJ:=In k;have cK:(k:Int)<(n:Int):=ω;have bZ:=Lh bQ;have Q:=Lh bU;have bC:=Nt HB.o r.o.chg.size;have bF:=Lh (bM.ints (M.o.mono bC));have bH:=Lh (bN.ints (M.o.mono bC));have P:=Lh (Nt bC M.o.size);have R:=Lh (λb E=>r.o.hi b (Nt M.o.size E));clear hf bR bM bN bQ bU bT Z bC;go_upto_region 6 with fail;rw [<-hV];clear hV n0 n1 n2 n3 i0 cJ cK;refine Ac (λY=>Y.cell? (π wr 0)=ς (ι f.fn)/\Y.cell? (π wr 1)=ς (ι f.pc)/\Y.cell? (π wr 2)=ς (σ la f.L lc)/\Y.cell? (π wr 3)=ς (σ sa f.S sc)/\Y.cell? (π (w+1+1) 0)=ς (σ X k O)) [6,9,10,13,14,15,16,18] true 19 rfl κ κ ⟨v0,v1,v2,v3,v4⟩ ?_;refine softA ?_;have d:=Lh (ϟ v0 (ϟ v1 (ϟ v2 (ϟ v3 (v4)))));clear v0 v1 v2 v3 v4;have cA:=@Lh ((V.alloc (χ #[] 3)).drew.heap[(V:Nat)]?=ς (χ #[] 3 (0,0))) (Hn V _);have bO:=@Lh (((V.alloc (χ #[] 3)).alloc (χ #[] 3)).drew.heap[(V:Nat)]?=ς (χ #[] 3 (0,0))) ((Ha (V.alloc (χ #[] 3)) _ _ ψ).trans (Hn V _));have bP:=@Lh (((V.alloc (χ #[] 3)).alloc (χ #[] 3)).drew.heap[(V:Nat)+1]?=ς (χ #[] 3 (0,0))) (by
    have:=Hn (V.alloc (χ #[] 3)) (χ #[] 3);rw [show (V.alloc (χ #[] 3)).heap.size=(V:Nat)+1 by simp] at this;exact this)
   have o:=@Lh (ϐ V V (V.alloc (χ #[] 3)).drew) (Cb V _);have g:=@Lh (ϐ V V ((V.alloc (χ #[] 3)).alloc (χ #[] 3)).drew) (AG ((AA V _).th (AA _ _)) 1);refine GW [_] ?_;refine Dv κ κ ?_ ?_;all_goals (go_simp;refine ⟨⟨AB o.o d.o.1,AB o.o d.o.2.1,AB o.o d.o.2.2.1,AB o.o d.o.2.2.2.1,AB o.o d.o.2.2.2.2⟩,?_⟩)
   rotate_left;refine AH κ ?_;go_simp;refine ⟨⟨AB g.o d.o.1,AB g.o d.o.2.1,AB g.o d.o.2.2.1,AB g.o d.o.2.2.2.1,AB g.o d.o.2.2.2.2⟩,?_⟩;refine AH κ ?_;refine IT (w0:=V) (.tmp 21) (.tmp 23) rfl (c:=c) (V+1) bP.o rfl g.o (Nat.le_succ _) la f.L.length lc f.L B rfl (bF.o.ints (g.o.mono P.o)) Q.o.1 R.o (λg1 c1 q J s H=>?_);have F:=Lh J;have A:=Lh s;have e:=Lh H;clear J s H;refine ⟨.inl ⟨e.o.2.1 _ _ (AB g.o d.o.1),e.o.2.1 _ _ (AB g.o d.o.2.1),e.o.2.1 _ _ (AB g.o d.o.2.2.1),e.o.2.1 _ _ (AB g.o d.o.2.2.2.1),e.o.2.1 _ _ (AB g.o d.o.2.2.2.2)⟩,?_⟩;refine AH κ ?_;refine IT (w0:=V) (.tmp 25) (.tmp 27) rfl (c:=c) ((V:Nat)) ((e.o.1 _ φ ω).trans bO.o) rfl A.o (Nr _) sa f.S.length sc f.S B rfl (bH.o.ints (A.o.mono P.o)) Q.o.2 R.o (λg2 c2 w2 K G I=>?_);have bG:=Lh K;have bA:=Lh G;have l:=Lh I;clear K G I;refine ⟨.inl ⟨l.o.2.1 _ _ (e.o.2.1 _ _ (AB g.o d.o.1)),l.o.2.1 _ _ (e.o.2.1 _ _ (AB g.o d.o.2.1)),l.o.2.1 _ _ (e.o.2.1 _ _ (AB g.o d.o.2.2.1)),l.o.2.1 _ _ (e.o.2.1 _ _ (AB g.o d.o.2.2.2.1)),l.o.2.1 _ _ (e.o.2.1 _ _ (AB g.o d.o.2.2.2.2))⟩,?_⟩;have F1:=Lh (F.o.ups B5 (l.o.2.2) (Jo (l.o.2.1)));have z:=@Lh (_) (ϟ (l.o.2.1 _ _ (e.o.2.1 _ _ (AB g.o d.o.1))) (ϟ (l.o.2.1 _ _ (e.o.2.1 _ _ (AB g.o d.o.2.1))) (ϟ (l.o.2.1 _ _ (e.o.2.1 _ _ (AB g.o d.o.2.2.1))) (ϟ (l.o.2.1 _ _ (e.o.2.1 _ _ (AB g.o d.o.2.2.2.1))) ((l.o.2.1 _ _ (e.o.2.1 _ _ (AB g.o d.o.2.2.2.2))))))));clear e l F A;rotate_left;refine Dv κ κ ?_ ?_;go_simp;refine ⟨⟨AB g.o d.o.1,AB g.o d.o.2.1,AB g.o d.o.2.2.1,AB g.o d.o.2.2.2.1,AB g.o d.o.2.2.2.2⟩,?_⟩;refine AH κ ?_;refine IT (w0:=V) (.tmp 21) (.tmp 23) rfl (c:=c) ((V:Nat)) bO.o rfl g.o (Nr _) la f.L.length lc f.L B rfl (bF.o.ints (g.o.mono P.o)) Q.o.1 R.o (λg1 c1 q J s H=>?_);have F:=Lh J;have A:=Lh s;have e:=Lh H;clear J s H;refine ⟨.inl ⟨e.o.2.1 _ _ (AB g.o d.o.1),e.o.2.1 _ _ (AB g.o d.o.2.1),e.o.2.1 _ _ (AB g.o d.o.2.2.1),e.o.2.1 _ _ (AB g.o d.o.2.2.2.1),e.o.2.1 _ _ (AB g.o d.o.2.2.2.2)⟩,?_⟩;refine AH κ ?_;refine IT (w0:=V) (.tmp 25) (.tmp 27) rfl (c:=c) (V+1) ((e.o.1 _ ψ ω).trans bP.o) rfl A.o (Nat.le_succ _) sa f.S.length sc f.S B rfl (bH.o.ints (A.o.mono P.o)) Q.o.2 R.o (λg2 c2 w2 K G I=>?_);have bG:=Lh K;have bA:=Lh G;have l:=Lh I;clear K G I;refine ⟨.inl ⟨l.o.2.1 _ _ (e.o.2.1 _ _ (AB g.o d.o.1)),l.o.2.1 _ _ (e.o.2.1 _ _ (AB g.o d.o.2.1)),l.o.2.1 _ _ (e.o.2.1 _ _ (AB g.o d.o.2.2.1)),l.o.2.1 _ _ (e.o.2.1 _ _ (AB g.o d.o.2.2.2.1)),l.o.2.1 _ _ (e.o.2.1 _ _ (AB g.o d.o.2.2.2.2))⟩,?_⟩;have F1:=Lh (F.o.ups B5 (l.o.2.2) (Jo (l.o.2.1)));have z:=@Lh (_) (ϟ (l.o.2.1 _ _ (e.o.2.1 _ _ (AB g.o d.o.1))) (ϟ (l.o.2.1 _ _ (e.o.2.1 _ _ (AB g.o d.o.2.1))) (ϟ (l.o.2.1 _ _ (e.o.2.1 _ _ (AB g.o d.o.2.2.1))) (ϟ (l.o.2.1 _ _ (e.o.2.1 _ _ (AB g.o d.o.2.2.2.1))) ((l.o.2.1 _ _ (e.o.2.1 _ _ (AB g.o d.o.2.2.2.2))))))));clear e l F A;rotate_left;refine IT (w0:=V) (.tmp 21) (.tmp 23) rfl (c:=c) ((V:Nat)) cA.o rfl o.o (Nr _) la f.L.length lc f.L B rfl (bF.o.ints (o.o.mono P.o)) Q.o.1 R.o (λg1 c1 q J s H=>?_);have F:=Lh J;have A:=Lh s;have e:=Lh H;clear J s H;refine ⟨.inl ⟨e.o.2.1 _ _ (AB o.o d.o.1),e.o.2.1 _ _ (AB o.o d.o.2.1),e.o.2.1 _ _ (AB o.o d.o.2.2.1),e.o.2.1 _ _ (AB o.o d.o.2.2.2.1),e.o.2.1 _ _ (AB o.o d.o.2.2.2.2)⟩,?_⟩;refine AH κ ?_;go_simp;refine ⟨⟨AB (AA q _) (e.o.2.1 _ _ (AB o.o d.o.1)),AB (AA q _) (e.o.2.1 _ _ (AB o.o d.o.2.1)),AB (AA q _) (e.o.2.1 _ _ (AB o.o d.o.2.2.1)),AB (AA q _) (e.o.2.1 _ _ (AB o.o d.o.2.2.2.1)),AB (AA q _) (e.o.2.1 _ _ (AB o.o d.o.2.2.2.2))⟩,?_⟩;have aQ:=@Lh (ϐ V V (q.alloc (χ #[] 3))) (A.o.th (AA _ _));refine AH κ ?_;refine IT (w0:=V) (.tmp 25) (.tmp 27) rfl (c:=c) (q.heap.size) (Hn q _) rfl aQ.o (A.o.size) sa f.S.length sc f.S B rfl (bH.o.ints (aQ.o.mono P.o)) Q.o.2 R.o (λg2 c2 w2 K G I=>?_);have bG:=Lh K;have bA:=Lh G;have l:=Lh I;clear K G I;refine ⟨.inl ⟨l.o.2.1 _ _ (AB (AA q _) (e.o.2.1 _ _ (AB o.o d.o.1))),l.o.2.1 _ _ (AB (AA q _) (e.o.2.1 _ _ (AB o.o d.o.2.1))),l.o.2.1 _ _ (AB (AA q _) (e.o.2.1 _ _ (AB o.o d.o.2.2.1))),l.o.2.1 _ _ (AB (AA q _) (e.o.2.1 _ _ (AB o.o d.o.2.2.2.1))),l.o.2.1 _ _ (AB (AA q _) (e.o.2.1 _ _ (AB o.o d.o.2.2.2.2)))⟩,?_⟩;have F1:=Lh (F.o.ups B5 (Nt (AA q _).size l.o.2.2) (Jo ((JT.below (AA q _)).trans l.o.2.1)));have z:=@Lh (_) (ϟ (l.o.2.1 _ _ (AB (AA q _) (e.o.2.1 _ _ (AB o.o d.o.1)))) (ϟ (l.o.2.1 _ _ (AB (AA q _) (e.o.2.1 _ _ (AB o.o d.o.2.1)))) (ϟ (l.o.2.1 _ _ (AB (AA q _) (e.o.2.1 _ _ (AB o.o d.o.2.2.1)))) (ϟ (l.o.2.1 _ _ (AB (AA q _) (e.o.2.1 _ _ (AB o.o d.o.2.2.2.1)))) ((l.o.2.1 _ _ (AB (AA q _) (e.o.2.1 _ _ (AB o.o d.o.2.2.2.2)))))))));clear e l F A;clear aQ;all_goals
    (refine' Ae κ _ (λwV cG=>?_) ?_;rotate_left;(clear cG;go_simp);(try with_reducible rfl);try simp only [Ap])
    refine AH κ ?_;go_simp;refine ⟨⟨AB (AA _ _) z.o.1,AB (AA _ _) z.o.2.1,AB (AA _ _) z.o.2.2.1,AB (AA _ _) z.o.2.2.2.1,AB (AA _ _) z.o.2.2.2.2⟩,?_⟩;have bB:=@Lh (ϐ wr wr (w2.alloc (χ #[ι f.fn,ι f.pc,σ (ς (π g1 0)) f.L c1,σ (ς (π g2 0)) f.S c2] 129))) ((M.o.th bA.o).th (AA _ _));have bE:=Lh (λb E=>r.o.hi b (Nt bB.o.size E));refine AH κ ?_;refine Dz (λt=>t=1) (.tmp 16) (.tmp 30) 47 129 rfl underlying47 FT rfl δ δ (c:=c) (tag:=1) (v:=σ X k O) (n:=k) (xs:=xs) rfl (r.o.row.kp (T:=NO) (AT.ob (c:=c) bB.o (λh=>h)) (λh=>h)) (π w2 0) 1 1 [ι f.fn,ι f.pc,σ (ς (π g1 0)) f.L c1,σ (ς (π g2 0)) f.S c2] rfl rfl (λj u hu=>(Cy w2 _ _ j).trans (by simpa using hu)) (by simp [Value.oneCell']) δ ω rfl δ bE.o (λg3 bJ w9 c9 aY D bV cH=>?_);have bX:=r.o.next HF.o bZ.o (M.o.th bA.o) F1.o bG.o D bV aY;have aX:¬c (wr:Nat)=1:=by rw [r.o.hi _ (Nr _)];decide
    have bK:¬c ((w:Nat)+1+1)=1:=by rw [r.o.cbo];decide
    have q0:=D.cell (AB (AA _ _) z.o.1) aX;have q1:=D.cell (AB (AA _ _) z.o.2.1) aX;have q2:=D.cell (AB (AA _ _) z.o.2.2.1) aX;have q3:=D.cell (AB (AA _ _) z.o.2.2.2.1) aX;have q4:=D.cell (AB (AA _ _) z.o.2.2.2.2) bK;have qf:w9.frozen? (π (w+1+1) 0)=false:=by
     have bW:=(La r.o.box)
     exact D.frozen (Nl bW bB.o.size) (((AT.ob bB.o (λh=>h):AT NO c c _ _)).frozen bW (Fz r.o.box) (λh=>h)) bK
    refine ⟨.inl ⟨q0,q1,q2,q3,q4⟩,?_⟩;have cE:=Lh bX;clear aY D bV cH bX aX bK q0 q1 q2 q3;refine AH κ ?_;go_simp;refine BH ?_;obtain ⟨W9,bS⟩:=ε (w9.setCell (π (w+1+1) 0) (σ (ς (π g3 0)) (k+1) bJ));have aR:=cE.o;rw [<-bS] at aR ⊢;have cD:=Lh aR;clear aR bS q4 qf;go_wp2;go_roundw
    case rel=>exact ⟨k+1,ω,by go_num,Lh ⟨_,_,_,_,cD.o⟩⟩
    case measure=>simp [intOf];omega
  .obtain rfl:k=n:=ω
   have bL:=@Lh (Pc m w (.returned (AJ (σ X k O) m)) (Ai wr (w+1) (σ X k O) m)) (by
    have h:=r.o;rw [HN.o] at h ⊢;exact h.post)
   have k0:=KQ r.o.box;have s:=r.o.res;obtain ⟨p1,-⟩:=AZ s (σ X k O) m;have Q1:=Lh p1;have r0:=KQ s;have q0:=Vp s;clear s p1;go_wp2;exact ϖ (v:=AJ (σ X k O) m) (AL (p:=2) rfl Q1.o _ rfl) rfl bL.o
