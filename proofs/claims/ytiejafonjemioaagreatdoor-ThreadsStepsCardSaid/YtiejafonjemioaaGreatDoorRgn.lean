import Derived.Test.YtiejafonjemioaaGreatDoorCpe
import Derived.Great.BuildSlice
set_option maxHeartbeats 4000000
set_option maxRecDepth 100000
set_option linter.all false
open Go renaming World→Ϣ,Value→ϒ,heap_setCell_same→ϡ
open Option renaming some→ς
open And renaming intro→ϟ
open Go.Value renaming slice→σ
open Go.Obj renaming cells→χ
namespace Go.Proofs.YtiejafonjemioaaGreatDoor
open Go.RowKit Proofs.Tryz
variable {w:Ϣ} {b x bo fld kk tag nc:Nat} {o o9 o10 o12:Oper} {a:Act} {K:Act->Ϣ->Prop} {Q:Exit->Act->Ϣ->Prop} {c:A1} {na:Option Addr} {nx:List ϒ}
def JA:(prog.info? 51).map (λi=>(i.zero,i.size,i.bytes))=ς (ς (.agg #[ν,ι 0,ι 0,ι 0,ι 0,ι 0,ι 0,ι 0,ι 0]),9,88):=by kernel_rfl
def Kl:(prog.info? 54).map (λi=>(i.zero,i.size,i.bytes))=ς (ς ν,1,24):=by kernel_rfl
def MU:(prog.info? 78).map (λi=>(i.zero,i.size,i.bytes))=ς (ς ν,1,24):=by kernel_rfl
def Hj:(prog.info? 22).map (λi=>(i.zero,i.size,i.bytes))=ς (ς ν,1,24):=by kernel_rfl
def Jk:∀ {l:List CD} {j:Nat} {u:ϒ},(Dk l)[j]?=ς u->∃ i x r,l[i]?=ς x/\(Dw x)[r]?=ς u/\j=i*5+r
 | [],_,_,h=>by simp [Dk] at h
 | y::l,j,u,h=>by
  have e:Dk (y::l)=Dw y++Dk l:=rfl;rw [e] at h;by_cases d:j<5
  .rw [Al (by simpa [Dw] using d)] at h
   exact ⟨0,y,j,rfl,h,ω⟩
  .rw [Ar (by simp [Dw];omega)] at h
   obtain ⟨i,x,r,a,b,c⟩:=Jk h;refine ⟨i+1,x,r,by simpa using a,b,?_⟩;simp [Dw] at c;omega
def Ox:∀ l:List CD,(Dk l).length=l.length*5
 | []=>rfl
 | y::l=>by have e:Dk (y::l)=Dw y++Dk l:=rfl;rw [e,List.length_append,Ox l];simp [Dw];omega
def UR:∀ l:List CD,∀ u∈Dk l,u.oneCell'=true:=λl u d=>by
 obtain ⟨j,c,rfl⟩:=List.getElem_of_mem d;obtain ⟨i,x,r,e,b,f⟩:=Jk (Lg c);have a:=Lm b;simp only [Dw,List.mem_cons,List.not_mem_nil,or_false] at a;rcases a with h|h|h|h|h<;>rw [h]<;>rfl
def Vz {o:Nat} {x:CD} (h:FM w b o x) {r:Nat} {u:ϒ} (a:(Dw x)[r]?=ς u):w.cell? (π b (o+r))=ς u:=by
 obtain ⟨c,d,e,f,g,-⟩:=h;have i:r<5:=by have:=(Ll a);simpa [Dw] using this
 match r,i,a with
 | 0,_,a=>simp [Dw] at a;subst a;exact c
 | 1,_,a=>simp [Dw] at a;subst a;exact d
 | 2,_,a=>simp [Dw] at a;subst a;exact e
 | 3,_,a=>simp [Dw] at a;subst a;exact f
 | 4,_,a=>simp [Dw] at a;subst a;exact g
def XY (tag:Nat) (s x:Operand) (L:o.op=.call { callee:=.builtin .append,args:=#[s,x],argTypes:=#[78,78] })
  (t:Nat) (I:w.heap[t]?=ς (χ #[] 84 (0,0))) (hs:a.eval s=σ (ς (π t 0)) 0 0) (xa:Option Addr) (n xc:Nat) (l:List CD) (B:Nat) (N:a.eval x=σ xa n xc) (hl:AE B w 5 FM (σ xa n xc) l) (J:l.length<=1000000) (H:c t=tag) (p:tag≠0) (A:∀ b,(w:Nat)<=b->c b=0)
  (h:∀ g d f m,Hz f m tag (σ (ς (π g 0)) n d) l->AT (λk=>k=tag) c m w f->(∀ b,f.heap.size<=b->m b=0)->K (a.put o.dst (σ (ς (π g 0)) n d)) f):o.wp prog a w K Q:=by
 obtain ⟨E,F,D,O,P,R,e⟩:=hl;obtain ⟨rfl,rfl,rfl⟩:xa=E/\n=l.length/\xc=F:=by simpa using D
 refine Nj tag s x 78 84 L underlying78 JB rfl δ δ t I hs xa l.length xc (Dk l) N (Ox l) ?_ (UR l) J H p A (λg d f m v z G=>h g d f m ⟨v,λq C=>?_⟩ z G)
 .rcases e with p|⟨b,oo,rfl,aA,e⟩
  .left;rw [p];rfl
  .refine .inr ⟨_,rfl,λj u M=>?_⟩
   obtain ⟨i,y,r,v,z,rfl⟩:=Jk M;have:=Vz (e i y v) z;rw [GB,show oo+(i*5+r)=oo+i*5+r by omega];exact this
 .rcases e with p|⟨b,oo,rfl,aA,e⟩
  .subst p;cases C
  .obtain ⟨i,hi,rfl⟩:=List.getElem_of_mem C
   exact (e i _ (Lg hi)).2.2.2.2.2
def put_at {d:Nat} {v:ϒ}:(a.put (ς d) v).eval (.tmp x)=if x=d/\d<a.tmps.size then v else a.eval (.tmp x):=by
 unfold Act.put Act.eval;simp only [Array.getD_eq_getD_getElem?];by_cases h:x=d
 .subst h
  by_cases b:x<a.tmps.size
  .simp [b]
  .simp [b]
 .rw [if_neg (λe=>h e.1)]
  simp [Array.getElem?_setIfInBounds,Ne.symm h]
def row_push {n i j k y z d1 d2:Nat} {S:Ϣ->Prop} {u:Ϣ} {cu:A1} {xa:Option Addr} {xn xc:Nat} (h q:TypeId)
  (L:[(o9.op,o9.dst),(o10.op,o10.dst),(o12.op,o12.dst)]=[(.buildSlice h 1 #[(0,.tmp x)],ς d1),(.call { callee:=.builtin .append,args:=#[.tmp y,.tmp d1],argTypes:=#[h,h] },ς d2),(.store h (.tmp z) (.tmp d2),none)])
  (I:([(j,o10),(k,o12)].all λr=>r.1 != i && [(i,o9),(j,o10),(k,o12)].any (waits r))=true) (J:([(k,o12)].all λr=>r.1 != j && [(j,o10),(k,o12)].any (waits r))=true) (hk:k+1=n)
  (N:prog.underlying h=ς (.slice q)) (M:(prog.info? q).map (λi=>(i.zero,i.size,i.bytes))=ς (ς ν,1,24)) (F:(prog.info? h).map (λi=>(i.zero,i.size,i.bytes))=ς (ς ν,1,24))
  (hd:d1<a.tmps.size/\d2<a.tmps.size/\y≠d1/\z≠d1/\z≠d2) (O:a.eval (.tmp x)=σ xa xn xc) (P:a.eval (.tmp y)=σ na kk nc) (R:a.eval (.tmp z)=.pointer (ς (π bo fld)))
  (o:Ao u cu tag q 1 (σ na kk nc) kk nx) (aL:kk<=1000000) (p:tag≠0) (w:∀ b,(u:Nat)<=b->cu b=0) (E:∀ V f,AT (λt=>t=tag) cu f u V->S V)
  (s:∀ V f,AT (λt=>t=tag) cu f u V->∃ A,V.cell? (π bo fld)=ς A/\V.frozen? (π bo fld)=false)
  (m:∀ v1 g d V f,Ao V f tag q 1 (σ (ς (π g 0)) (kk+1) d) (kk+1) (nx++[σ xa xn xc])->AT (λt=>t=tag) cu f u V->(∀ b,V.heap.size<=b->f b=0)->Q .normal ((a.put (ς d1) v1).put (ς d2) (σ (ς (π g 0)) (kk+1) d)) (V.setCell (π bo fld) (σ (ς (π g 0)) (kk+1) d))) :
  Dm prog n Q S true [(i,o9),(j,o10),(k,o12)] a u:=by
 simp only [List.cons.injEq,Prod.mk.injEq,and_true] at L;obtain ⟨⟨e9,d9⟩,⟨Z,Y⟩,aI,aH⟩:=L;obtain ⟨ti,aE,aG,C,aK⟩:=info_parts M;obtain ⟨q1,q2,q3,q4,q5⟩:=hd;have D:AT (λt=>t=tag) cu cu u (u.alloc (χ #[σ xa xn xc] q)):=AT.ob (AA _ _) (λe=>p e.symm);refine AH I ?_;refine wp_buildSlice h q 1 _ e9 #[σ xa xn xc] ti ν N aE aG (by rw [C];decide) (by rw [C];decide) (by rw [C];simp [O,Instr.fill,Value.cells];apply Array.ext';simp [List.range,List.range.loop]) ?_;rw [d9];refine ⟨.inl (E _ cu D),?_⟩;refine AH J ?_;refine Dz (λt=>t=tag) (.tmp y) (.tmp d1) h q Z N M rfl δ δ (c:=cu) (tag:=tag) (v:=σ na kk nc) (n:=kk) (xs:=nx) (by rw [put_at,if_neg (λe=>q3 e.1)];exact P) ((o.recol (λb l=>l)).kp (T:=NO) (AT.ob (AA _ _) (no 0)) (no _)) (π u 0) 1 1 [σ xa xn xc] (by rw [put_at,if_pos ⟨rfl,q1⟩]) rfl (λj v hv=>by rw [GB,Nat.zero_add,B6];simpa using hv) (by simp [Value.oneCell']) δ ω rfl (λe=>p e.symm) (λb l=>w b (by simp at l;omega)) (λg d V f U W X _=>?_);rw [Y];have B:=D.trans W;refine ⟨.inl (E V f B),?_⟩;obtain ⟨A,m1,m2⟩:=s V f B;have K:=Lh (m (σ (ς (π u 0)) 1 1) g d V f U B X);obtain ⟨b,l⟩:=ε (((a.put (ς d1) (σ (ς (π u 0)) 1 1)).put (ς d2) (σ (ς (π g 0)) (kk+1) d)));have G:b.eval (.tmp z)=.pointer (ς (π bo fld)):=by rw [l,put_at,if_neg (λe=>q5 e.1),put_at,if_neg (λe=>q4 e.1)];exact R
 have H:b.eval (.tmp d2)=σ (ς (π g 0)) (kk+1) d:=by rw [l,put_at,if_pos ⟨rfl,by rw [BQ];exact q2⟩]
 rw [<-l] at K ⊢;refine AH rfl ?_;have b3:b.tmps[z]?.getD undef=.pointer (ς (π bo fld)):=by rw [<-Array.getD_eq_getD_getElem?];exact G
 have b4:b.tmps[d2]?.getD undef=σ (ς (π g 0)) (kk+1) d:=by rw [<-Array.getD_eq_getD_getElem?];exact H
 obtain ⟨tj,aF,-,aD,-⟩:=info_parts F;have aJ:∀ V:Ϣ,Sem.run prog (sizeOf h) V=.ok 1 V:=λV=>by simp [sizeOf,typeInfo,aF,aD]
 clear l m s E D U W X B I J O P R o w G H;go_simp;exact BH K.o
def wp_mt {t e:TypeId} (f:o.op=.buildSlice t 0 #[]) (g:prog.underlying t=ς (.slice e)) {z:ϒ} {sz bytes:Nat} (d:(prog.info? e).map (λi=>(i.zero,i.size,i.bytes))=ς (ς z,sz,bytes)) (h:K (a.put o.dst (σ (ς (π w 0)) 0 0)) (w.alloc (χ #[] e))):o.wp prog a w K Q:=by
 obtain ⟨l,b,c,j,k⟩:=info_parts d;unfold Oper.wp execOp;simp [f,Instr.buildSlice,run_underlying g,sizeOf,typeInfo,zeroValue,b,c,Instr.fill,newRow];have:(Array.map (λ_=>default) (Array.range 0):Array ϒ)=#[]:=by apply Array.ext';simp
 rw [this];exact h
def row_cp {p U sb so tagI:Nat} {X s:Oper} {J:Option Addr} {q L:Nat} {v1:ϒ} {R:Ϣ->A1->Prop} (D:Ϣ->A1->ϒ->Prop) (B m E:TypeId) {z0:ϒ} {aS n0:Nat}
  (hu:prog.underlying B=ς (.slice m)) (hi:(prog.info? m).map (λi=>(i.zero,i.size,i.bytes))=ς (ς ν,1,24)) (aQ:prog.underlying m=ς (.slice E)) (aN:(prog.info? E).map (λi=>(i.zero,i.size,i.bytes))=ς (ς z0,aS,n0))
  (aL:∀ (b:Act) (W:Ϣ) (d:A1) (T:Nat) (K:Act->Ϣ->Prop),Below w w W->W.heap[T]?=ς (χ #[] E (0,0))->(w:Nat)<=T->d T=tagI->AT (λt=>t=tagI) c d w W->b.eval (.tmp p)=σ (ς (π T 0)) 0 0->b.eval (.tmp (p+5))=σ J q L->(∀ b,(W:Nat)<=b->d b=0)->(∀ g A M f,D M f (σ (ς (π g 0)) q A)->AT (λt=>t=tagI) c f w M->(∀ b,M.heap.size<=b->f b=0)->K (b.put s.dst (σ (ς (π g 0)) q A)) M)->s.wp prog b W K (NoPanic Q))
  (m0:w.cell? (π bo fld)=ς (σ na kk nc)) (m1:w.cell? (π U fld)=ς v1) (m2:w.cell? (π sb so)=ς (σ J q L)) (l:c bo=1/\bo<w/\(∀ b,(w:Nat)<=b->c b=0)/\∀ j,w.frozen? (π bo j)=false) (ci:c U=0) (cs:c sb=0\/c sb=14)
  (H:Ao w c tag m 1 (σ na kk nc) kk nx) (aP:kk<=1000000)
  (aM:∀ Y P Z S lv v',AT (λk=>k=tagI) c P w Y->(∀ b,Y.heap.size<=b->P b=0)->D Y P lv->AT (λk=>k=tag) P S Y Z->(∀ b,Z.heap.size<=b->S b=0)->Ao Z S tag m 1 v' (kk+1) (nx++[lv])->R (Z.setCell (π bo fld) v') S)
  (G:∀ u0 u1 u2 u3 V d,R V d->Q .normal ((((a.put (ς p) u0).put (ς (p+6)) u1).put (ς (p+7)) u2).put (ς (p+8)) u3) V)
  (he:[(X.op,X.dst),(s.op,s.dst),(o9.op,o9.dst),(o10.op,o10.dst),(o12.op,o12.dst)]=[(.buildSlice m 0 #[],ς p),(.call { callee:=.builtin .append,args:=#[.tmp p,.tmp (p+5)],argTypes:=#[m,m] },ς (p+6)),(.buildSlice B 1 #[(0,.tmp (p+6))],ς (p+7)),(.call { callee:=.builtin .append,args:=#[.tmp (p - 1),.tmp (p+7)],argTypes:=#[B,B] },ς (p+8)),(.store B (.tmp (p+9)) (.tmp (p+8)),none)]:=by rfl)
  (I:[([(8,s),(9,o9),(10,o10),(12,o12)].all λr=>r.1 != 2 && [(2,X),(8,s),(9,o9),(10,o10),(12,o12)].any (waits r)),([(9,o9),(10,o10),(12,o12)].all λr=>r.1 != 8 && [(8,s),(9,o9),(10,o10),(12,o12)].any (waits r)),([(10,o10),(12,o12)].all λr=>r.1 != 9 && [(9,o9),(10,o10),(12,o12)].any (waits r)),([(12,o12)].all λr=>r.1 != 10 && [(10,o10),(12,o12)].any (waits r))]=[true,true,true,true]:=by kernel_rfl) (aO:(prog.info? B).map (λi=>(i.zero,i.size,i.bytes))=ς (ς ν,1,24):=by kernel_rfl)
  (hp:0<p/\p+9<a.tmps.size:=by simp) (aR:a.eval (.tmp (p+5))=σ J q L:=by rfl) (hy:a.eval (.tmp (p - 1))=σ na kk nc:=by rfl) (hz:a.eval (.tmp (p+9))=.pointer (ς (π bo fld)):=by rfl) (n:tagI≠tag/\tag≠0/\tagI≠0/\tag≠1/\tagI≠1/\tag≠14/\tagI≠14:=by omega) :
  Dm prog 13 Q (λV=>V.cell? (π bo fld)=ς (σ na kk nc)/\V.cell? (π U fld)=ς v1/\V.cell? (π sb so)=ς (σ J q L)) true [(2,X),(8,s),(9,o9),(10,o10),(12,o12)] a w:=by
 simp only [List.cons.injEq,Prod.mk.injEq,and_true] at he I;obtain ⟨⟨e2,aI⟩,⟨e8,d8⟩,⟨e9,d9⟩,⟨aJ,aG⟩,aK,aH⟩:=he;have C:c bo≠tagI/\c bo≠tag:=by rw [l.1];omega
 have N:∀ {V d b o v},AT (λt=>t=tagI\/t=tag) c d w V->w.cell? (π b o)=ς v->c b≠tagI/\c b≠tag->V.cell? (π b o)=ς v:=λh hc hn=>h.cell hc (λk=>k.elim hn.1 hn.2);have hS:∀ V d,AT (λt=>t=tagI\/t=tag) c d w V->V.cell? (π bo fld)=ς (σ na kk nc)/\V.cell? (π U fld)=ς v1/\V.cell? (π sb so)=ς (σ J q L):=λV d h=>⟨N h m0 C,N h m1 (by rw [ci];omega),N h m2 ω⟩
 have O:∀ {d f:A1} {V V':Ϣ},AT (λt=>t=tagI) d f V V'->AT (λt=>t=tagI\/t=tag) d f V V':=λh=>h.mono (λt h=>.inl h) ω;have aC:∀ {d f:A1} {V V':Ϣ},AT (λt=>t=tag) d f V V'->AT (λt=>t=tagI\/t=tag) d f V V':=λh=>h.mono (λt h=>.inr h) ω;have hA:=AT.paint (c:=c) (w:Nat) tagI (AA w (χ #[] E)) (Nr _);obtain ⟨cA,aE⟩:=ε (λx=>if x=(w:Nat) then tagI else c x:A1);rw [<-aE] at hA;have aF:AT (λt=>t=tagI) c cA w (w.alloc (χ #[] E)):=hA.mono (λt h=>h.elim) ω;refine AH I.1 ?_;refine wp_mt e2 aQ aN ?_;rw [aI];refine ⟨.inl (hS _ cA (O aF)),?_⟩;refine AH I.2.1 ?_;refine aL _ _ cA (w:Nat) _ (AA _ _) (Hn _ _) (Nr _) (by rw [aE];exact if_pos rfl) aF (by rw [put_at,if_pos ⟨rfl,ω⟩]) (by rw [put_at,if_neg ω];exact aR) (λb C=>by rw [aE];simp at C;show (if _ then _ else _)=_;rw [if_neg ω];exact l.2.2.1 b ω) (λxg aD u cu hI F hh=>?_);rw [d8];refine ⟨.inl (hS u cu (O F)),?_⟩;refine row_push (x:=p+6) (y:=p - 1) (z:=p+9) (d1:=p+7) (d2:=p+8) (bo:=bo) (fld:=fld) (kk:=kk) (tag:=tag) (cu:=cu) (na:=na) (nc:=nc) (xa:=ς (π xg 0)) (xn:=q) (xc:=aD) (nx:=nx) B m (by rw [e9,d9,aJ,aG,aK,aH]) I.2.2.1 I.2.2.2 rfl hu hi aO ⟨by rw [BQ,BQ];omega,by rw [BQ,BQ];omega,ω,ω,ω⟩ (by rw [put_at,if_pos ⟨rfl,by rw [BQ];omega⟩]) (by rw [put_at,if_neg ω,put_at,if_neg ω];exact hy) (by rw [put_at,if_neg ω,put_at,if_neg ω];exact hz) (H.kp F (λe=>n.1 e.symm)) aP n.2.1 hh (λV d h=>hS V d ((O F).trans (aC h))) (λV d h=>have h:=(O F).trans (aC h);⟨_,N h m0 C,h.frozen l.2.1 (l.2.2.2 fld) (λk=>k.elim C.1 C.2)⟩) (λv1 g A V d r1 r2 r3=>G _ _ v1 _ _ _ (aM u cu V d _ _ F hh hI r2 r3 r1))
def cal_vals {B:Nat} :∀ {l:List Bi} {o:Nat},(∀ (i:Nat) x,l[i]?=ς x->DA B w b (o+i*2) x)->∃ ns:List ϒ,ns.length=l.length*2/\(∀ (j:Nat) u,ns[j]?=ς u->w.cell? (π b (o+j))=ς u/\u.oneCell'=true)/\∀ (i:Nat) x,l[i]?=ς x->∃ e,ns[i*2]?=ς (.string x.proc)/\ns[i*2+1]?=ς e/\AE B w 1 Aj e x.args/\x.proc.size<=140737488355328
 | [],o,_=>⟨[],rfl,ψ,ψ⟩
 | y::l,o,h=>by
  obtain ⟨f,⟨v,g,k⟩,s⟩:=h 0 y rfl;rw [Nat.zero_mul,Nat.add_zero] at f g;obtain ⟨ns,t,z,A⟩:=cal_vals (l:=l) (o:=o+2) (λi x d=>by
   have:=h (i+1) x d;rwa [show o+(i+1)*2=o+2+i*2 by omega] at this)
  refine ⟨.string y.proc::v::ns,by simp [t];omega,λj u c=>?_,λi x d=>?_⟩
  .match j,c with
   | 0,c=>cases c;exact ⟨f,rfl⟩
   | 1,c=>cases c;obtain ⟨a,r,rfl,-⟩:=k;exact ⟨g,rfl⟩
   | j+2,c=>have:=z j u (by simpa using c);rwa [show o+2+j=o+(j+2) by omega] at this
  .match i,d with
   | 0,d=>cases d;exact ⟨v,rfl,rfl,k,s⟩
   | i+1,d=>obtain ⟨e,m,n,p,q⟩:=A i x (by simpa using d);exact ⟨e,by rw [show (i+1)*2=i*2+2 by omega];simpa using m,by rw [show (i+1)*2+1=i*2+1+2 by omega];simpa using n,p,q⟩
def wp_cpc {w0:Ϣ} (s x:Operand) (ho:o.op=.call { callee:=.builtin .append,args:=#[s,x],argTypes:=#[54,54] })
  (q:Nat) (L:w.heap[q]?=ς (χ #[] 80 (0,0))) (hs:a.eval s=σ (ς (π q 0)) 0 0) (d:Below w0 w0 w) (h1:(w0:Nat)<=q) (xa:Option Addr) (n xc:Nat) (l:List Bi) (B:Nat) (hB:B<=w0) (t:a.eval x=σ xa n xc) (hl:AE B w 2 (DA B) (σ xa n xc) l) (r:∀ b,b<B->c b=0) (C:l.length<=1000000) (A:∀ b,(w0:Nat)<=b->c b=0)
  (h:∀ g k m,AE m.heap.size (mask m c) 2 (DA m.heap.size) (σ (ς (π g 0)) n k) l->Below w0 w0 m->K (a.put o.dst (σ (ς (π g 0)) n k)) m):o.wp prog a w K Q:=by
 have aH:=(La L)
 obtain ⟨V,W,U,aI,aJ,aK,y⟩:=hl;obtain ⟨rfl,rfl,rfl⟩:xa=V/\n=l.length/\xc=W:=by simpa using U
 obtain ⟨ns,n1,n2,F⟩:∃ ns:List ϒ,ns.length=l.length*2/\(l.length=0\/∃ I,xa=ς I/\∀ (j:Nat) u,ns[j]?=ς u->w.cell? (I.add j)=ς u)/\(∀ u∈ns,u.oneCell'=true)/\∀ (i:Nat) x,l[i]?=ς x->∃ v,ns[i*2]?=ς (.string x.proc)/\ns[i*2+1]?=ς v/\AE B w 1 Aj v x.args/\x.proc.size<=140737488355328:=by
  rcases y with Y|⟨b,oo,rfl,H,y⟩
  .subst Y;exact ⟨[],rfl,.inl rfl,ψ,ψ⟩
  .obtain ⟨ns,k1,k2,k3⟩:=cal_vals y
   exact ⟨ns,k1,.inr ⟨_,rfl,λj u D=>by rw [GB];exact (k2 j u D).1⟩,λu D=>by
    obtain ⟨j,hj,rfl⟩:=List.getElem_of_mem D;exact (k2 j _ (Lg hj)).2,k3⟩
 refine Nj 1 s x 54 80 ho underlying54 PX rfl δ δ (c:=λb=>if b=q then 1 else 0) q L hs xa l.length xc ns t n1 n2 F.1 C (if_pos rfl) δ (λb p=>if_neg ω) (λg k m X G f _=>?_);have S:(w0:Nat)<=g:=by
  have z:=G.2.1 g (by simp [Value.ownBlock]);by_cases T:g<w
  .rw [f.old g T] at z
   by_cases e:g=q
   .omega
   .rw [if_neg e] at z;cases z
  .have:=d.size;omega
 have R:Below w0 w0 m:=⟨f.os.trans d.os,f.tape.trans d.tape,f.output.trans d.output,Nt d.size f.size,λb p=>by
  rw [f.kp b (Nl p d.size) (by rw [if_neg ω];decide)];exact d.block b p⟩
 have H:Below B w (mask m c):=⟨f.os,f.tape,f.output,by rw [Hk];have:=d.size;have:=f.size;omega,λb p=>by
  rw [Jj (r b p)];exact f.kp b (by have:=d.size;omega) (by rw [if_neg ω];decide)⟩
 refine h g k m ?_ R;have Z:Ao (mask m c) X 1 80 2 (σ (ς (π g 0)) l k) l.length ns:=⟨JV G.1 (λb p=>by
  simp [Value.ownBlock] at p;subst p;exact Jj (A _ S)),G.2⟩
 have:=Z.reads (E:=DA m) (λi x t=>⟨_,(F.2 i x t).choose_spec.1⟩) (λi x g t J=>by
  obtain ⟨v,M,N,O,P⟩:=F.2 i x t;exact ⟨J _ _ M,⟨v,J _ _ N,(O.ints H).ups B5 (by have:=d.size;have:=f.size;omega) (λ_ _ h=>h)⟩,P⟩)
 rw [Hk] at this;exact this
def Nq (m:Mm) (mv:ϒ) (B:Nat) (w:Ϣ) (hB:B<=w) (hm:Lw B w mv m) (T:m.G.length<=1000000) (cT:m.N.length<=4096) (S:∀ x∈m.N,x.f.length<=1000000) :
  Calls prog 29 #[mv] w (IU m w):=by
 obtain ⟨gv,nv,rfl,hg,hn⟩:=hm;obtain ⟨U,V,rfl⟩:=hg.form;obtain ⟨na,nc,rfl⟩:=hn.form;obtain ⟨l,aR⟩:=ε m.G.length;obtain ⟨q,bH⟩:=ε m.N.length;rw [<-aR] at hg T ⊢;rw [<-bH] at hn cT ⊢;obtain ⟨HN,cA,aX,bX,X⟩:=Λ5 hn aR bH S hB;obtain ⟨W,F⟩:=ε ((w.alloc (χ #[σ U l V,σ na q nc] 28)).alloc (χ #[ν,ν] 28));have bA:=Lh (bl2 F);have bI:=Lh (sz2 F);have b0:=ro21 F;have b1:=ro22 F;have B0:=Lh b0;have B1:=Lh b1;have i0:=Cw b0 0 rfl;have L:=Bl i0;have bW:=@Lh ((W.alloc (χ #[] 3)).heap[(W:Nat)]?=ς (χ #[] 3 (0,0))) (Hn _ _);have bZ:=@Lh (AE B (W.alloc (χ #[] 3)) 1 Aj (σ U l V) m.G) ((hg.ints (bA.o.mono hB)).ints ((AA _ _).mono (Nt hB bA.o.size)));have cL:m.G.length<=1000000:=by rw [<-aR];exact T
 have bU:=@Lh (AT NO (EN w) (λx=>if x=(W:Nat) then 2 else if x=(w:Nat)+1 then 5 else EN w x) w (W.alloc (χ #[] 3))) (by
  have f:=bA.o.th (AA W (χ #[] 3));exact ⟨f.os,f.tape,f.output,f.size,λx o _=>f.block x o,λx o=>by have:=bI.o;show (if _ then _ else if _ then _ else _)=_;rw [if_neg ω,if_neg ω],no 0⟩)
 have aV:Hid (∀ x,(W.alloc (χ #[] 3)).heap.size<=x->(λx=>if x=(W:Nat) then 2 else if x=(w:Nat)+1 then 5 else EN w x) x=0):=Lh (λx o=>by
  have:=bI.o;simp at o;show (if _ then _ else if _ then _ else _)=_;rw [if_neg ω,if_neg ω];exact Ee x ω)
 clear b0 b1 hg hn aR bH S hB;go_enter func29,ntmps29;go_upto_region 1 with fail;rw [<-F];have HW:=Lh F;clear F;go_upto_region 2 with (with_reducible refine RZ rfl 2 (.tmp 5) (.tmp 7) rfl (c:=λx=>if x=(W:Nat) then 2 else if x=(w:Nat)+1 then 5 else EN w x) W bW.o rfl U l V m.G B rfl bZ.o cL (if_pos rfl) δ aV.o ?_;intro z s E c2 R e C;have HI:=Lh R;have Y:=Lh e;have HH:=Lh C;clear R e C)
 obtain ⟨W3,O⟩:=ε (E.alloc (χ #[σ (ς (π z 0)) l s,ν] 28));have aH:=@Lh (Mz m w w (w+1) E 0 #[σ U l V,σ na q nc] (σ (ς (π z 0)) l s) ν (λx=>if x=(E:Nat) then 4 else c2 x) [] W3) (by
  have hz:=bI.o;have hP:AT NO c2 (λx=>if x=(E:Nat) then 4 else c2 x) E W3:=AT.paint _ _ (by rw [O];exact AA _ _) (Nr _);have h2:=Y.o.size;have hE:(W.alloc (χ #[] 3)).heap.size=(W:Nat)+1:=by simp
  have aQ:∀ b v,b<(W:Nat)->(if b=(w:Nat)+1 then 5 else EN w b)≠2->W.heap[b]?=v->W3.heap[b]?=v:=λb v f hc hv=>by rw [hP.kp b ω (no _),Y.o.kp b ω (by rw [if_neg ω];exact hc),Ha _ _ _ f];exact hv
  have cl:∀ b,b<(W:Nat)->(if b=(E:Nat) then 4 else c2 b)=(if b=(w:Nat)+1 then 5 else EN w b):=λb f=>by rw [if_neg ω,Y.o.old b ω,if_neg ω]
  refine ⟨HI.o.kp hP (no _),Ao.nil _ _ _ _ _,(bU.o.ntm.trans (Y.o.tm δ δ)).trans hP.ntm,λb f=>?_,by rw [O];exact Hn _ _,if_pos rfl,aQ _ _ ω (by rw [if_pos rfl];decide) B1.o,?_,aQ _ _ ω (by rw [if_neg ω,Ee _ (Nr _)];decide) B0.o,?_,λi x hi=>by omega,rfl⟩
  .have cP:(E:Nat)+1<=b:=by rw [O] at f;simpa using f
   show (if _ then _ else _)=_;rw [if_neg ω];exact HH.o b ω
  .exact (cl _ ω).trans (if_pos rfl)
  .exact (cl _ ω).trans (by rw [if_neg ω];exact Ee _ (Nr _)))
 obtain ⟨bo,bB⟩:=ε (E:Nat);rw [<-O,<- bB];rw [<-bB] at aH;clear O bB i0 L;have i1:=Cw aH.o.inp 1 rfl;have L:=Bl i1;go_wp2_with fail;clear i1 L;go_loopw [4] (λi wr=>∃ k:Nat,k<=q/\i=ι k/\Hid (∃ a cS c xs,Mz m w w (w+1) bo k #[σ U l V,σ na q nc] (σ (ς (π z 0)) l s) (σ a k cS) c xs wr)) (λi _=>q - (intOf i).toNat)
 case atStart=>exact ⟨0,Nat.zero_le _,rfl,Lh ⟨_,_,_,_,aH.o⟩⟩
 case round=>
  obtain ⟨k,hk,rfl,aT⟩:=hrel;obtain ⟨D,A,c,xs,aT⟩:=aT.o;have d:=Lh aT;clear aT;by_cases cQ:k<q
  .obtain ⟨x,o⟩:∃ y,m.N[k]?=ς y:=⟨_,Lg (by have:=aX.o;omega)⟩
   have HX:=Lh o;have bK:=(d.o.chg.below0 WP).mono X.o;obtain ⟨g,no_,cO,aN,cH⟩:∃ g no,na=ς (π g no)/\g<B/\GP B wr g (no+k*2) x:=by
    obtain ⟨a0,aY,cK,_,_,_,hE⟩:=HN.o;obtain ⟨rfl,_,rfl⟩:na=a0/\q=m.N.length/\nc=aY:=by have:=aX.o;simpa [this] using cK
    rcases hE with h0|⟨g,no,rfl,f,hE⟩
    .rw [h0] at o;simp at o
    .exact ⟨g,no,rfl,f,(hE k x o).below bK f⟩
   subst cO;obtain ⟨n0,⟨lv,n1,bG⟩,bJ⟩:=cH;obtain ⟨la,lc,rfl⟩:=bG.form;have bQ:=bX.o x (Lm o);have v2:=Cw d.o.box 1 rfl;have K:=Cw d.o.inp 1 rfl;have L:=Bl K;have CN:=@Lh (c g=99) (by rw [d.o.chg.old g (Nl aN X.o)];exact if_pos (Nl aN X.o));have cM:=In k;have cN:(k:Int)<(q:Int):=ω;have bS:=Lh bJ;have bY:=Lh bQ;have bL:=Nt X.o d.o.chg.size;have bV:=@Lh ((wr.alloc (χ #[] 3)).drew.heap[(wr:Nat)]?=ς (χ #[] 3 (0,0))) (Hn wr _);have I:=@Lh (Below wr wr (wr.alloc (χ #[] 3)).drew) (Cb wr _);have cE:=Lh (bG.ints (I.o.mono bL));have HP:=@Lh (AT NO c (λy=>if y=(wr:Nat) then 10+5*k else c y) wr (wr.alloc (χ #[] 3)).drew) (AT.paint _ _ I.o (Nr _));have cC:Hid (∀ y,(wr.alloc (χ #[] 3)).drew.heap.size<=y->(λy=>if y=(wr:Nat) then 10+5*k else c y) y=0):=Lh (λy hy=>by
    have cR:(wr:Nat)+1<=y:=by simpa using hy
    show (if _ then _ else _)=_;rw [if_neg ω];exact d.o.hi y ω)
   clear o bK bG bJ bQ bL;go_upto_region 5 with fail;refine Ac (λZ=>Z.cell? (π g (no_+k*2))=ς (ι x.type)/\Z.cell? (π g (no_+k*2+1))=ς (σ la x.f lc)/\Z.cell? (π bo 1)=ς (σ D k A)/\Z.cell? (π w 1)=ς (σ (ς (π g no_)) q nc)) [8,15,16,17,18,20] true 21 rfl κ κ ⟨n0,n1,v2,K⟩ ?_;refine softA ?_;have r:=Lh (ϟ n0 (ϟ n1 (ϟ v2 K)));clear n0 n1 v2 K cM cN L;refine AH κ ?_;go_simp;refine ⟨Θ4 (AA _ _) r.o,?_⟩;refine AH κ ?_;refine Ex (10+5*k) (.tmp 25) (.tmp 31) rfl (c:=λy=>if y=(wr:Nat) then 10+5*k else c y) wr bV.o rfl la x.f.length lc x.f B rfl cE.o bY.o (if_pos rfl) ω cC.o (λg1 c1 w8 J R e C=>?_);have cD:=Lh R;have bT:=Lh e;have cB:=Lh C;have bE:∀ y,y<(wr:Nat)->(if y=(wr:Nat) then 10+5*k else c y)=c y:=λy hy=>if_neg ω;have Q:=Bl r.o.1;have P:=Bl r.o.2.2.2;have bD:¬(if g=(wr:Nat) then 10+5*k else c g)=10+5*k:=by rw [bE g Q,CN.o];omega
   have bP:¬(if (w:Nat)=(wr:Nat) then 10+5*k else c (w:Nat))=10+5*k:=by rw [bE _ P,d.o.cbi];omega
   have bO:¬(λy=>if y=(wr:Nat) then 10+5*k else c y) bo=10+5*k:=by
    have:=(La d.o.box)
    show ¬(if _ then _ else _)=_;rw [if_neg ω,d.o.cbo];omega
   have e0:=e.cell (AB I.o r.o.1) bD;have e1:=e.cell (AB I.o r.o.2.1) bD;have e2:=e.cell (AB I.o r.o.2.2.1) bO;have e3:=e.cell (AB I.o r.o.2.2.2) bP;have G:=Lh (ϟ e0 (ϟ e1 (ϟ e2 e3)));clear R e C bD bO bP bE Q P e0 e1 e2 e3;refine ⟨.inl G.o,?_⟩
   (refine' Ae κ _ (λwV cI=>?_) ?_;rotate_left;(clear cI;go_simp);(try with_reducible rfl);try simp only [Ap])
   refine AH κ ?_;go_simp;refine ⟨Θ4 (AA _ _) G.o,?_⟩;have N:=Lh ((HP.o.mono (λt h=>h.elim) ω).trans bT.o);have aU:=@Lh (AT (λt=>t=10+5*k) c J wr (w8.alloc (χ #[ι x.type,σ (ς (π g1 0)) x.f c1] 74))) (N.o.trans (AT.ob (AA _ _) ω));have aW:=@Lh (∀ b,(w8.alloc (χ #[ι x.type,σ (ς (π g1 0)) x.f c1] 74)).heap.size<=b->J b=0) (λb f=>cB.o b (by simp at f;omega));refine AH κ ?_;refine Dz (λt=>t=3) (.tmp 18) (.tmp 34) 26 74 rfl underlying26 IZ rfl δ δ (c:=J) (tag:=3) (v:=σ D k A) (n:=k) (xs:=xs) rfl (d.o.row.kp aU.o ω) (π w8 0) 1 1 [ι x.type,σ (ς (π g1 0)) x.f c1] rfl rfl (λj u hu=>(Cy w8 _ _ j).trans (by simpa using hu)) (by simp [Value.oneCell']) δ ω rfl δ aW.o (λg3 aZ w9 c9 aP e C cJ=>?_);have bR:=d.o.next HX.o bS.o N.o cD.o e C aP;have aS:=(La d.o.box)
   have Q:=Bl r.o.1;have P:=Bl r.o.2.2.2;have H:¬J g=3:=by rw [N.o.old _ Q,CN.o];decide
   have bN:¬J (w:Nat)=3:=by rw [N.o.old _ P,d.o.cbi];decide
   have bC:¬J bo=3:=by rw [N.o.old _ aS,d.o.cbo];decide
   have q0:=e.cell (AB (AA _ _) G.o.1) H;have q1:=e.cell (AB (AA _ _) G.o.2.1) H;have q2:=e.cell (AB (AA _ _) G.o.2.2.1) bC;have q3:=e.cell (AB (AA _ _) G.o.2.2.2) bN;have qf:w9.frozen? (π bo 1)=false:=e.frozen (Nl aS aU.o.size) (aU.o.frozen aS (Fz d.o.box) (by show ¬c bo=_;rw [d.o.cbo];omega)) bC;refine ⟨.inl ⟨q0,q1,q2,q3⟩,?_⟩;have cG:=Lh bR;clear aP e C cJ bR H bC bN Q P q0 q1 q3 aS;refine AH κ ?_;go_simp;refine BH ?_;obtain ⟨W9,bM⟩:=ε (w9.setCell (π bo 1) (σ (ς (π g3 0)) (k+1) aZ));have aF:=cG.o;rw [<-bM] at aF ⊢;have cF:=Lh aF;clear aF bM q2 qf;go_wp2;go_roundw
   case rel=>exact ⟨k+1,ω,by go_num,Lh ⟨_,_,_,_,cF.o⟩⟩
   case measure=>simp [intOf];omega
  .obtain rfl:k=q:=ω
   have bF:=@Lh (IU m w (.returned (.agg #[σ (ς (π z 0)) l s,σ D k A])) ((wr.setCell (π (w+1) 0) (σ (ς (π z 0)) l s)).setCell (π (w+1) 1) (σ D k A))) (by
    have h:=d.o;rw [aX.o,cA.o] at h ⊢;exact h.post)
   have H:=d.o.box;have M:=d.o.res;have K:=Cw d.o.inp 1 rfl;have L:=Bl K;have k0:=Ω2 H;have r0:=Ω2 M;have q0:=Ψ 0 M;have q1:=Ψ 1 M;have Q1:=@Lh (((wr.setCell (π (w+1) 0) (σ (ς (π z 0)) l s)).setCell (π (w+1) 1) (σ D k A)).heap[(w:Nat)+1]?=ς (χ #[σ (ς (π z 0)) l s,σ D k A] 28 (0,0))) (by
    have h1:=ϡ wr ((w:Nat)+1) 0 _ _ (σ (ς (π z 0)) l s) M;exact ϡ _ ((w:Nat)+1) 1 _ _ (σ D k A) h1)
   clear H M;go_wp2;exact bodyPost_ret (v:=.agg #[σ (ς (π z 0)) l s,σ D k A]) (JK (p:=2) rfl Q1.o _ rfl) rfl bF.o
