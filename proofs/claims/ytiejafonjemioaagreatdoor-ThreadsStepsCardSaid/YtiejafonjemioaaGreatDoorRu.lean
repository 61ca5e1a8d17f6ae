import Derived.Test.YtiejafonjemioaaGreatDoorRe
set_option maxHeartbeats 4000000
set_option maxRecDepth 100000
set_option linter.all false
open Go renaming World→Ϣ,Value→ϒ,Calls→ϙ,bodyPost_ret→ϖ,heap_setCell_same→ϡ
open Option renaming some→ς
open Bool renaming false→ϝ,true→ϑ
open List renaming replicate→ϱ,mem_cons→ϰ
open Go.Value renaming slice→σ
open Go.Obj renaming cells→χ
namespace Go.Proofs.YtiejafonjemioaaGreatDoor
open Go.RowKit Proofs.Tryz
variable {W w:Ϣ} {R bm fb cap:Nat} {fn pc:Int} {lv sv fv:ϒ} {F Fi Fl Fs:List Nat} {m m':AV} {fs:List AY} {f:AY} {cur:Array ϒ} {cs:List ϒ}
def MO (b o j:Nat):((π b o):Addr).add j=(π b (o+j)):=by unfold Addr.add;split<;>simp_all
def BM (fn pc:Int) (lv sv:ϒ):Array ϒ:=#[ι fn,ι pc,lv,sv]
def UK (h:W.heap[R]?=ς (χ (BM fn pc lv sv) 129 (0,0))):(loadVar 129 (π R 0)).run prog W=.ok (.agg (BM fn pc lv sv)) W:=by
 have a:∀ (j:Nat) (v:ϒ),(BM fn pc lv sv)[j]?=ς v->W.cell? (π R j)=ς v:=λj v f=>by rw [cell_of_row _ _ _ _ _ _ h];exact f
 have b:=a 0 (ι fn) rfl;have c:=a 1 (ι pc) rfl;have d:=a 2 lv rfl;have e:=a 3 sv rfl;clear a;simp [go_sem,BM,b,c,d,e]
def O4 {fn:Func} {p:Tmp} (c:fn.results=#[.cell p 129]) {k:Int} (h:W.heap[R]?=ς (χ (BM k pc lv sv) 129 (0,0))) (a:Array ϒ) (b:a.getD p undef=.pointer (ς (π R 0))) :
  (results fn a).run prog W=.ok (.agg (BM k pc lv sv)) W:=by
 simp only [results,c];rw [Array.getD_eq_getD_getElem?] at b;simp [b,asAddr,UK h,Result.andThen,Sem.run_bind]
def ML (k n:Nat) (l:List Int) (w:Ϣ) (e:Ending) (w':Ϣ):Prop:=
 ∃ bl,e=.returned (.agg #[ι (k:Int),ι 0,σ (ς (π bl 0)) n n,ν])/\w'.heap[bl]?=ς (χ (Ad l) 3 (0,0))/\(w:Nat)<=bl/\Below w w w'
def P7 {fn' pc':Int} {lv' sv':ϒ} (h:W.heap[R]?=ς (χ (BM fn pc lv sv) 129 (0,0))) :
  ((((W.setCell (π R 0) (ι fn')).setCell (π R 1) (ι pc')).setCell (π R 2) lv').setCell (π R 3) sv').heap[R]?=ς (χ (BM fn' pc' lv' sv') 129 (0,0))/\AW [R] [R] W ((((W.setCell (π R 0) (ι fn')).setCell (π R 1) (ι pc')).setCell (π R 2) lv').setCell (π R 3) sv'):=by
 have a:=ϡ _ R 0 _ _ (ι fn') h;have b:=ϡ _ R 1 _ _ (ι pc') a;have c:=ϡ _ R 2 _ _ lv' b;have d:=ϡ _ R 3 _ _ sv' c;exact ⟨d,((BX.trans BX).trans BX).trans BX⟩
def Lc (fa I xa:Option Addr) (fn fc A xc:Nat) (g:Int) (B O:Nat) (w:Ϣ) (hB:B<=w) (a:List BK) (K:AE B w 5 (CW B) (σ I a A) a) (k:Nat) (y:BK) (q:a[k]?=ς y) (args:List Int) (m:O<=w) (hx:AE O w 1 Aj (σ xa args xc) args) (z:Nat) (hq:y.L=args.length+z) (bW:args.length+z<=1000) (bV:a.length<=1000000) :
  ϙ prog 141 #[.agg #[σ fa fn fc,ι g,σ I a A],ι (k:Int),σ xa args xc] w (ML k (args.length+z) (args++ϱ z 0) w):=by
 obtain ⟨n,M⟩:=ε (args.length+z);have bG:=Lh hx;obtain ⟨a0,aP,Z,bS,bT,bU,C⟩:=K;obtain ⟨rfl,rfl⟩:I=a0/\A=aP:=by simpa using Z
 have bR:=(Ll q)
 rcases C with J|⟨b,o,rfl,bO,C⟩
 .rw [J] at q;simp at q
 have E:=(C k y q).2.2.1;rw [hq,<- Int.natCast_add,<- M] at E;obtain ⟨bN,aI,bC,bK,bL,bM,i⟩:=hx;obtain ⟨rfl,rfl⟩:xa=bN/\xc=aI:=by simpa using bC
 obtain ⟨W,d⟩:=ε ((w.alloc (χ #[σ fa fn fc,ι g,σ (ς (π b o)) a A] 25)).alloc (χ (BM 0 0 ν ν) 129));have x:=bl2 d;have bA:=Lh (sz2 d);have b0:=ce21 d;have r0:=ro22 d;have bF:=Lh r0;have i2:=b0 2 _ rfl;have E:=AB x E;have bP:=In k;have bQ:(k:Int)<(a:Int):=ω;have X:=Lh x;have r:=Lh M;have bH:=Lh (bG.o.ints (x.mono m));have bJ:=λW=>FK W n ω;clear C i bC Z q hq x b0 r0 M;unfold BM at d;go_enter func141,ntmps141;go_upto_region 1 with fail;rw [<-d];clear d;go_upto_region 2 with fail;obtain ⟨s,t⟩:=ε (W.alloc (χ (Ad (ϱ n 0)) 3));obtain ⟨c,H⟩:=ε W.heap.size;have G:=Lh (bl1 t);have g3:=@Lh (s.heap[c]?=ς (χ ((ϱ n 0).map (Value.int .i64)).toArray 3 (0,0))) (by rw [t,H];exact Hn _ _);have bB:=bH.o.ints (G.o.mono (Nt m X.o.size));have aV:Hid (0<(args.map (Value.int .i64)).length->ς ((π c 0):Addr)=ς (π c 0)/\∃ ad,xa=ς ad/\∀ j v,(args.map (Value.int .i64))[j]?=ς v->s.cell? (ad.add j)=ς v):=Lh (λU=>by
  obtain ⟨a1,aQ,bI,_,_,_,i⟩:=bB;obtain ⟨rfl,rfl⟩:xa=a1/\xc=aQ:=by simpa using bI
  rcases i with J|⟨xb,xo,rfl,_,i⟩
  .rw [J] at U;simp at U
  .refine ⟨rfl,_,rfl,λj v h=>?_⟩
   rw [List.getElem?_map] at h;cases L:args[j]? with
   | none=>rw [L] at h;simp at h
   | some u=>
    rw [L] at h;simp at h;subst h;have:=(i j u L).1;rw [Nat.mul_one] at this;rw [MO];exact this)
 rw [<-t,<- H];have S:(args.map (Value.int .i64)).length=Nat.min args.length n:=by have:=r.o;rw [List.length_map];exact (Nat.min_eq_left ω).symm
 have R:0+(args.map (Value.int .i64)).length<=((ϱ n 0).map (Value.int .i64)).length:=by have:=r.o;simp;omega
 have T:∀ v∈args.map (Value.int .i64),v.oneCell'=ϑ:=λv D=>by rw [List.mem_map] at D;obtain ⟨_,_,rfl⟩:=D;rfl
 have aN:=Lh S;have aM:=Lh R;have aO:=Lh T;have aT:(w:Nat)+1<c:=by have:=bA.o;omega
 have z1:(w:Nat)+1<W:=by have:=bA.o;omega
 have R3:=@Lh (s.heap[(w:Nat)+1]?=ς (χ (BM 0 0 ν ν) 129 (0,0))) (by rw [G.o.block _ z1];exact bF.o);clear t H bB S R T bJ i2 E;go_upto_region 3 with (with_reducible refine wpList_copy_splice rfl (.tmp 15) (.tmp 16) 22 22 rfl 3 underlying22 Jh (ς (π c 0)) xa n n args.length xc rfl rfl c 0 ((ϱ n 0).map (Value.int .i64)) 3 g3.o (args.map (Value.int .i64)) aN.o aV.o aM.o aO.o c s Br (Nr _) ?_;intro f Q Y;have aL:=Lh Q;have V:=Lh Y;clear Q Y)
 have P:Hid (f.heap[c]?=ς (χ (Ad (args++ϱ z 0)) 3 (0,0))):=by
  have h1:=aL.o.o;have h2:splice ((ϱ n 0).map (Value.int .i64)) 0 (args.map (Value.int .i64))=(args++ϱ z 0).map (Value.int .i64):=by unfold splice;rw [r.o];simp
  rw [h2] at h1;exact Lh h1
 have e:f.heap[(w:Nat)+1]?=ς (χ (BM 0 0 ν ν) 129 (0,0)):=by rw [V.o.block _ aT];exact R3.o
 obtain ⟨s1,N⟩:=P7 (fn':=k) (pc':=0) (lv':=σ (ς (π c 0)) n n) (sv':=ν) e;have S1:=Lh s1;have F:=(X.o.th G.o).trans (V.o.mono ω);have bD:=Lh (F.trans (N.below (λb hb=>by simp at hb;omega) F.size));have bE:=@Lh (_) ((N.block c (La P.o) φ).trans P.o);obtain ⟨-,f0,f1,f2,f3⟩:True/\f.frozen? (π (w+1) 0)=ϝ/\f.frozen? (π (w+1) 1)=ϝ/\f.frozen? (π (w+1) 2)=ϝ/\f.frozen? (π (w+1) 3)=ϝ:=⟨trivial,Fz e,Fz e,Fz e,Fz e⟩
 have l:∀ (j:Nat) (v:ϒ),(BM 0 0 ν ν)[j]?=ς v->f.cell? (π (w+1) j)=ς v:=λj v D=>by rw [cell_of_row _ _ _ _ _ _ e];exact D
 have c0:=l 0 (ι 0) rfl;have c1:=l 1 (ι 0) rfl;have c2:=l 2 ν rfl;have c3:=l 3 ν rfl;have aU:Hid (ML k (args.length+z) (args++ϱ z 0) w (.returned (.agg (BM k 0 (σ (ς (π c 0)) n n) ν))) _):=Lh ⟨c,by rw [<-r.o];rfl,bE.o,ω,bD.o⟩;clear l s1 N e F;go_wp2;exact ϖ (v:=.agg (BM k 0 (σ (ς (π c 0)) n n) ν)) (O4 (p:=6) rfl S1.o _ rfl) rfl aU.o
def EF {f:Ϣ} {m1:AV} {F0 F2:List Nat} (a:Below w w W) (p:Cv f fv m1.J F0) (c:AW (bm::F) F2 W f) (g:∀ b∈F0,b∈F2) (hF:∀ b∈F,b<(w:Nat)) (t:(w:Nat)<=bm) (v:(w:Nat)<=R) (i:R≠bm) (j:R<W)
  (s:W.heap[R]?=ς (χ (AC ν AI) 51 (0,0))) :
  f.heap[R]?=ς (χ (AC ν AI) 51 (0,0))/\(Ai f R fv m1).heap[R]?=ς (χ (AC fv m1) 51 (0,0))/\DK w F m1 (.returned (AJ fv m1)) (Ai f R fv m1):=by
 have n:R∉bm::F:=λe=>by
  rw [ϰ] at e;rcases e with e|e
  .exact i e
  .have:=hF _ e;omega
 have q:=Cq c j n;have o:f.heap[R]?=ς (χ (AC ν AI) 51 (0,0)):=by rw [c.block R j n];exact s
 obtain ⟨u,d⟩:=AZ o fv m1;refine ⟨o,u,_,F0,rfl,p.kp (λb l=>d.block b (p.lt b l) (λe=>?_)),d.os.trans (c.os.trans a.os),d.tape.trans (c.tape.trans a.tape),d.output.trans (c.output.trans a.output),Nt a.size (Nt c.size d.size),λk m r=>?_,λb l=>?_⟩
 .rw [List.mem_singleton] at e
  exact q (e▸g b l)
 .rw [d.block k (Nl m (Nt a.size c.size)) φ,c.block k (Nl m a.size) (λe=>by rw [ϰ] at e;rcases e with e|e;omega;exact r e),a.block k m]
 .rcases c.new b (g b l) with h|h
  .rw [ϰ] at h
   rcases h with h|h
   .right;omega
   .exact .inl h
  .right;exact Nt a.size h
def G2 (h:Ak w bm m F) (g:w.cell? (π bm 0)=ς fv):∃ a,w.heap[bm]?=ς (χ (AC fv m) 51 (0,0))/\Cv w fv m.J a/\F=bm::a/\bm∉a:=by
 obtain ⟨b,a,c,d,e,f⟩:=Ab.1 h;have:=AD c 0 b rfl;rw [g] at this;obtain rfl:fv=b:=by simpa using this
 exact ⟨a,c,d,e,f⟩
def QC {b n:Nat} {l:List Int} (h:w.heap[b]?=ς (χ (Ad l) 3 (0,0))) (d:n=l.length) (hl:l.length<=1000000) (a:∀ x∈l,in64 x):AE w w 1 Aj (σ (ς (π b 0)) n n) l:=
 ⟨_,n,by rw [d],ω,ω,ω,.inr ⟨b,0,rfl,(La h),λi x c=>⟨by rw [Nat.zero_add,Nat.mul_one,cell_of_row _ _ _ _ _ _ h];exact DC c,a x (Lm c)⟩⟩⟩
def QR (j n:Option Addr) (fn l q o:Nat) (g k:Int) (b:Cv w fv m.J F) (r:m.J=fs++[f]) (C:fs.length+1=200) :
  ϙ prog 199 #[.agg #[σ j fn l,ι g,σ n q o],AJ fv m,ι k] w (DK w F { m with Q:=Ah 19,J:=[] }):=by
 obtain ⟨fb,cap,H,cs,lv,sv,Fi,Fl,Fs,rfl,rfl,B⟩:=b.top r;have hF:=Lh b.lt;obtain ⟨W,a⟩:=ε (((w.alloc (χ #[σ j fn l,ι g,σ n q o] 25)).alloc (χ (AC (σ (ς (π fb 0)) (fs.length+1) cap) m) 51)).alloc (χ (AC ν AI) 51));have z:=Lh (bl3 a);have A:=Lh (sz3 a);have h:=ro32 a;have i:=ro33 a;have D:=AO h;have u:=Lh i;have G:=ζ ((fs:Int)+1) 200;clear h i B b r C;unfold AJ;unfold AC AI at a;unfold AC;dsimp only at a ⊢;go_enter func199,ntmps199;go_upto_region 1 with fail;rw [<-a];clear a;go_wp2_with fail;refine (DX _ _ _ m 19 _).mono ?_;rintro e E ⟨rfl,d⟩;obtain ⟨c,s,t⟩:=EF (R:=(w:Nat)+1+1) (bm:=(w:Nat)+1) (F0:=[]) (F2:=[]) (m1:={ m with Q:=Ah 19,J:=[] }) (fv:=ν) z.o (Ds E) ((AW.ob d).wide (Fs:=[]) (Fs':=[]) ψ ψ) ψ hF.o ω ω ω (by have:=A.o;omega) u.o;have x:=Lh s;have y:=Lh t;have J:=AO c;have I:=AX c;clear c s t d D;unfold AJ AC;go_wp2;exact ϖ (v:=AJ ν { m with Q:=Ah 19,J:=[] }) (AL (p:=6) rfl x.o _ rfl) rfl y.o
def Tq {a:Ϣ} (h:AN W bm fb cap cur cs fs f lv sv m Fi Fl Fs) (b:Below W.drew.heap.size W.drew a) (o:Obj) :
  (a.alloc o).ownsRow 0 129 4 (σ (ς (π fb 0)) (fs.length+1) cap) (fs.length+1) (cs++[ι f.fn,ι f.pc,lv,sv]):=
 ((h.kp (AG Br 1)).kp b).rowOwn.alloc o
def P9 {w':Ϣ} {a:Option Nat} (h:w.grownBy w' a):w.drew.grownBy w' a:=⟨h.os,h.tape,h.output,h.size,h.block⟩
def Ua (fa ga:Option Addr) (fn fc N:Nat) (g:Int) (B:Nat) (hB:B<=w) (X:∀ b∈F,B<=b) (c:List BK) (dO:c.length<=1000000) (Y:AE B w 5 (CW B) (σ ga c N) c) (k:Nat) (y:BK) (P:c[k]?=ς y)
  (l args:List Int) (T:f.S=l++args) (hp:y.params=args.length) (z:Nat) (hq:y.L=args.length+z) (dP:args.length+z<=1000) (V:∀ n∈f.S,in64 n) (hv:Cv w fv m.J F) (hm:m.J=fs++[f]) (hn:fs.length+1<200) :
  ϙ prog 199 #[.agg #[σ fa fn fc,ι g,σ ga c N],AJ fv m,ι (k:Int)] w (DK w F { m with J:=fs++[{ f with S:=l }]++[⟨k,0,args++ϱ z 0,[]⟩] }):=by
 obtain ⟨mR,bM⟩:∃ q:AV,q={ m with J:=fs++[{ f with S:=l }]++[⟨k,0,args++ϱ z 0,[]⟩] }:=⟨_,rfl⟩
 rw [<-bM];have cL:=Lh bM;clear bM;obtain ⟨fb,cap,cN,cs,lv,sv,Fi,Fl,Fs,rfl,rfl,C⟩:=hv.top hm;obtain ⟨hF,cH,cI,HY,HQ,HS⟩:=Λ6 hv.lt X Y P hq T;have bS:=Lh V;obtain ⟨a0,bD,cC,dF,dG,dH,hE⟩:=Y;obtain ⟨rfl,rfl⟩:ga=a0/\N=bD:=by simpa using cC
 have dE:=(Ll P)
 rcases hE with h0|⟨b,o,rfl,dB,hE⟩
 .rw [h0] at P;simp at P
 have Z:=(hE k y P).2.1;rw [hp] at Z;obtain ⟨n,bO⟩:=ε args.length;rw [<-bO] at Z;obtain ⟨W,D⟩:=ε (((w.alloc (χ #[σ fa fn fc,ι g,σ (ς (π b o)) c N] 25)).alloc (χ (AC (σ (ς (π fb 0)) (fs.length+1) cap) m) 51)).alloc (χ (AC ν AI) 51));have aW:=Lh (bl3 D);have U:=Lh (sz3 D);have b0:=Lh (ce31 D);have b1:=ro32 D;have b2:=ro33 D;have bY:=C W ((w:Nat)+1) m aW.o b1 ω;have H:=Lh bY;have k0:=AO b1;have i0:=Γ3 b0.o;have Z:=AB aW.o Z;have B2:=Lh b2;have cR:=ξ ((fs:Int)+1) 200;have dC:=In k;have dD:(k:Int)<(c:Int):=ω;have dI:n<=1000:=ω;have cS:=λW=>FK W n ω;have bU:=Lh bO;clear b1 b2 C bY hv hm cC hE P hq T hp X V bO;unfold AJ;unfold AC AI at D;unfold AC;dsimp only at D ⊢;go_enter func199,ntmps199;go_upto_region 1 with fail;rw [<-D];clear D;go_wp2_with fail;obtain ⟨S,aV⟩:=ε (W.alloc (χ (Ad (ϱ n 0)) 3));obtain ⟨d,aX⟩:=ε W.heap.size;have aA:=bl1 aV;have cP:Hid (S.heap[d]?=ς (χ (Ad (DF args 0 args.length)) 3 (0,0))):=by refine Lh ?_;rw [LQ,Nat.add_zero,aV,aX,<- bU.o];exact Hn _ _
 have bA:=Lh aA;have cA:∀ x∈((w:Nat)+1)::fb::(Fi++(Fl++Fs)),x<d:=λx i=>by
  have:=U.o;rw [ϰ] at i;rcases i with i|i
  .omega
  .have:=hF.o x i;omega
 have aP:d∉((w:Nat)+1)::fb::(Fi++(Fl++Fs)):=λe=>by have:=cA _ e;omega
 have aN:(w:Nat)∉d::((w:Nat)+1)::fb::(Fi++(Fl++Fs)):=λe=>by
  have:=U.o;simp only [ϰ] at e;rcases e with e|e|e
  .omega
  .omega
  .have:=hF.o (w:Nat) (by simpa using e);omega
 have aC:=Lh aN;have bP:Hid (JX S (w+1) fb cap cs fs { f with S:=l++args.take args.length } lv m Fi Fl (((w:Nat)+1)::fb::(Fi++(Fl++Fs))) d S):=by
  refine Lh ⟨cN,sv,Fs,?_,AW.self,aP⟩;have:({ f with S:=l++args.take args.length }:AY)=f:=by rw [List.take_length,<- HS.o]
  rw [this];exact H.o.kp aA
 have aF:=Lh (b0.o.kp aA);rw [<-aV,<- aX];have cG:=Lh aX;clear aV aX cS Z k0 i0 aA cA aP aN;rw [bU.o];go_loopg [8] (args.length+1) (λgk ix wr=>∃ r:Nat,r<gk/\r<=args.length/\ix=ι ((r:Int) - 1)/\Hid (JX S (w+1) fb cap cs fs { f with S:=l++args.take r } lv m Fi Fl (((w:Nat)+1)::fb::(Fi++(Fl++Fs))) d wr)/\Hid (wr.heap[d]?=ς (χ (Ad (DF args 0 r)) 3 (0,0))))
 case atStart=>exact ⟨args.length,ω,Nr _,rfl,bP,cP⟩
 case round=>
  obtain ⟨r,dK,dL,rfl,T,hh⟩:=hrel;obtain ⟨bE,J,E,C,G,cD⟩:=T.o;have aI:=(La hh.o)
  by_cases dJ:0<r
  .obtain ⟨q,rfl⟩:∃ q,r=q+1:=⟨r - 1,ω⟩
   obtain ⟨a,ha⟩:∃ a,args[q]?=ς a:=⟨_,Lg ω⟩
   have k0:=AO C.mach;have t:=Lh C;have HM:=Lh G;have HA:=Lh ha;clear C G ha;go_wp2_with fail;refine (BZ m t.o ω (l++args.take q) a (by show l++args.take (q+1)=_;rw [Mf HA.o,List.append_assoc])).mono ?_;rintro e Q ⟨rfl,bF,cY,bR,bZ,aU⟩;have aY:Q.heap[d]?=ς (χ (Ad (DF args 0 (q+1))) 3 (0,0)):=by rw [aU.block _ aI cD];exact hh.o
   have aO:=aU.notin aI cD;obtain ⟨I,aQ⟩:∃ I,(DF args 0 (q+1))[q]?=ς I:=⟨_,Lg (by rw [LR ω];omega)⟩
   have cl:Q.cell? (π d q)=ς (ι I):=by rw [cell_of_row _ _ _ _ _ _ aY];exact DC aQ
   have fr:=frozen_of_row _ _ q _ _ aY;have bN:Hid ((Q.setCell (π d q) (ι a)).heap[d]?=ς (χ (Ad (DF args 0 q)) 3 (0,0))):=by refine Lh ?_;rw [ϡ _ _ _ _ _ _ aY,D6,LS HA.o]
   have O:∀ bb,bb≠d->(Q.setCell (π d q) (ι a)).heap[bb]?=Q.heap[bb]?:=λbb s=>heap_setCell_other _ _ _ _ s;have bQ:Hid (JX S (w+1) fb cap cs fs { f with S:=l++args.take q } lv m Fi Fl (((w:Nat)+1)::fb::(Fi++(Fl++Fs))) d (Q.setCell (π d q) (ι a))):=by
    refine Lh ⟨bF,cY,bR,?_,(HM.o.trans (aU.wide (F:=d::((w:Nat)+1)::fb::(Fi++(Fl++E))) (F':=d::((w:Nat)+1)::fb::(Fi++(Fl++bR))) (λb s=>List.mem_cons_of_mem _ s) (λb s=>?_))).trans ⟨rfl,rfl,rfl,ψ,λk hk hF=>O k (λe=>hF (by simp [e])),λ_ h=>.inl h⟩,aO⟩
    .exact bZ.sub (λb s=>O b (λe=>aO (e▸s)))
    .rw [ϰ] at s;rcases s with s|s;right;simp [s];left;exact s
   clear bZ aU aQ aY O k0;go_wp2_with fail
   go_roundg (gk - 1)
   case measure=>omega
   case rel=>exact ⟨q,ω,ω,by go_num,bQ,bN⟩
  .obtain rfl:r=0:=ω
   have t:Hid (AN wr (w+1) fb cap bE cs fs { f with S:=l } lv J m Fi Fl E):=by
    have e:({ f with S:=l++args.take 0 }:AY)={ f with S:=l }:=by simp
    rw [e] at C;exact Lh C
   have bI:=Lh ((G.drop bA.o (by have:=cG.o;omega)).wide (F:=((w:Nat)+1)::fb::(Fi++(Fl++Fs))) (F':=((w:Nat)+1)::fb::(Fi++(Fl++E))) (λ_ h=>h) (λ_ h=>.inl (List.mem_cons_of_mem _ h)));have aJ:=Lh (by
    have A:=hh.o;rw [KB] at A;simp only [List.replicate_zero,List.append_nil] at A;exact QC A rfl ω (λx i=>bS.o x (by rw [HS.o];simp [i])))
   have bW:Below B W wr:=bI.o.below (λx i=>by
    rw [ϰ] at i;rcases i with i|i
    .omega
    .exact cH.o x i) (by have:=U.o;omega)
   have bL:=@Lh (AE B wr.drew 5 (CW B) (σ (ς (π b o)) c N) c) (((cI.o.funs (aW.o.mono hB)).funs bW).funs ((AG Br 1)));have aE:=@Lh (AE wr wr.drew 1 Aj (σ (ς (π d 0)) args args.length) args) (aJ.o.ints (AG Br 1));have bG:B<=wr:=by have A:=bW.size;have h2:=U.o;omega
   have i0:=G.cell (aF.o 0 _ rfl) aC.o;have i1:=G.cell (aF.o 1 _ rfl) aC.o;have i2:=G.cell (aF.o 2 _ rfl) aC.o;have cF:=t.o.cFrames;have fF:=t.o.frm 0;have zm:(w:Nat)+1<wr:=t.o.lt _ ψ;have aM:¬(w:Nat)+1=fb:=t.o.ne.1;obtain ⟨ti,cU,cV,cW,cX⟩:=info_parts FT;clear C G T hh;go_upto_region 8 with fail
   go_region_law (first
    | (go_simp;go_at_call 141;refine (Lc fa (ς (π b o)) (ς (π d 0)) fn fc N args.length g B (wr:Nat) wr.drew bG c bL.o k y HY.o args (Nr _) aE.o z HQ.o dP dO).mono ?_;rintro e K ⟨M,rfl,aK,aL,L⟩;have bB:=AB L (show wr.drew.cell? (π (w+1) 0)=_ from cF);have cO:Hid (((K.alloc (χ #[ι (k:Int),ι 0,σ (ς (π M 0)) (args.length+z) (args.length+z),ν] 129))).frozen? (π (w+1) 0)=ϝ):=Lh (by rw [World.frozen?_of_block (w:=wr) (a:=(π (w+1) 0)) (by rw [Ha _ _ _ (Nl zm L.size)];exact L.block _ zm)];exact fF);have dM:(w:Nat)+1<K:=Bl bB;have aZ:=Lh aK;have bT:=Lh L;have aR:Hid ((K.alloc (χ #[ι (k:Int),ι 0,σ (ς (π M 0)) (args.length+z) (args.length+z),ν] 129)).ownsRow 0 129 4 (σ (ς (π fb 0)) (fs.length+1) cap) (fs.length+1) (cs++[ι f.fn,ι f.pc,lv,J])):=Lh (Tq t.o L _);have aG:Hid (∀ j u,([ι (k:Int),ι 0,σ (ς (π M 0)) (args.length+z) (args.length+z),ν]:List ϒ)[j]?=ς u->(K.alloc (χ #[ι (k:Int),ι 0,σ (ς (π M 0)) (args.length+z) (args.length+z),ν] 129)).cell? (((π K 0):Addr).add j)=ς u):=Lh (λj u hu=>(by rw [add_zero,B6];simpa using hu));clear aK L)
    | (refine step_append_lies _ rfl (.tmp 35) (.tmp 40) 47 rfl 0 129 ti (.agg #[ι 0,ι 0,ν,ν]) 4 64 underlying47 cU cV cW cX rfl δ (σ (ς (π fb 0)) (fs.length+1) cap) (fs.length+1) (cs++[ι f.fn,ι f.pc,lv,J]) rfl aR.o (π K 0) 1 1 [ι (k:Int),ι 0,σ (ς (π M 0)) (args.length+z) (args.length+z),ν] rfl rfl aG.o (by simp [Value.oneCell']) ω (by unfold maxLen;omega) ω (Nat.zero_le _) ((K:Nat)+1) ψ ?_;intro g2 aD w9 O hg aB cQ;have cM:=Lh O;have cJ:=Lh hg;have cK:=Lh aB;have bC:=(World.grownBy.cell_far hg (π (w+1) 0) φ (by simp [Value.ownBlock];exact aM)).trans (AB (AA _ _) bB);have cZ:=(World.grownBy.frozen_far hg (π (w+1) 0) φ (by simp [Value.ownBlock];exact aM)).trans cO.o;have dN:=Bl bC;clear O hg aB))
   all_goals
    have bV:=(t.o.kp (AG Br 1)).kp bT.o;have bX:=bI.o.trans (AW.ob ((show Below wr wr wr.drew from AG Br 1).th bT.o));have dA:=bI.o.size;obtain ⟨F',bJ,bH⟩:=OH (o:=χ #[ι (k:Int),ι 0,σ (ς (π M 0)) (args.length+z) (args.length+z),ν] 129) (locs:=args++ϱ z 0) bV bX ψ ω (UL HS.o bS.o) ω (by simp at aL;omega) (λe=>by have A:=t.o.lt _ e;simp at aL;omega) aZ.o cM.o (P9 cJ.o) (by rcases cK.o with A|A;exact .inl A;exact .inr (by rw [A];simp));obtain ⟨W9,bK⟩:=ε (w9.setCell (π (w+1) 0) (σ (ς (π g2 0)) (fs.length+1+1) aD));rw [<-bK] at bJ bH ⊢;have cB:W9.cell? (π (w+1) 0)=ς (σ (ς (π g2 0)) (fs.length+1+1) aD):=by rw [bK];exact World.cell?_setCell_same _ _ _ bC
    obtain ⟨F0,h9,cE,rfl,cT⟩:=G2 bJ cB;obtain ⟨t1,t2,t3⟩:=EF (R:=(w:Nat)+1+1) (bm:=(w:Nat)+1) (m1:={ m with J:=fs++[{ f with S:=l }]++[⟨k,0,args++ϱ z 0,[]⟩] }) aW.o cE bH (λx i=>List.mem_cons_of_mem _ i) hF.o ω ω ω (by have:=U.o;omega) B2.o;have Q2:=Lh t2;have Q3:=Lh t3;have k0:=AO h9;have r0:=AO t1;have q0:=AX t1;clear t1 t2 t3 h9 cE bJ bH cT cB bK bV bX cF bB bC i0 i1 i2;go_wp2;exact ϖ (v:=AJ (σ (ς (π g2 0)) (fs.length+1+1) aD) { m with J:=fs++[{ f with S:=l }]++[⟨k,0,args++ϱ z 0,[]⟩] }) (AL (p:=6) rfl Q2.o _ rfl) rfl (by rw [cL.o];exact Q3.o)
def Nd (h:AN w bm fb cap cur cs fs f lv sv m Fi Fl Fs) :
  Cv w (σ (ς (π fb 0)) (fs.length+1) cap) (fs++[f]) (fb::(Fi++(Fl++Fs))):=by
 obtain ⟨b,c,a,e,d⟩:=G2 ((h.reframe (fs++[f])).own rfl) h.cFrames;rw [(List.cons.inj e).2];exact a
def RL {b:List AY} {f':AY} (h:AN w bm fb cap cur cs fs f lv sv m Fi Fl Fs) (I:fs=b++[f']) :
  ∃ j l n c d g,AN (w.setCell (π bm 0) (σ (ς (π fb 0)) fs cap)) bm fb cap cur j b f' l n m c d g/\AW (bm::fb::(Fi++(Fl++Fs))) (bm::fb::(c++(d++g))) w (w.setCell (π bm 0) (σ (ς (π fb 0)) fs cap)):=by
 obtain ⟨H,G⟩:=RK h Br;have z:=h.mach;have s:=h.row;have A:=h.ne.1;obtain ⟨p,o,r,x,B,C,t,u,v,i,y⟩:=H.top I;have k:=i.mach;rw [ϡ _ _ _ _ _ _ z] at k;simp only [Option.some.injEq,Obj.cells.injEq,AC] at k;have D:=congrArg (λa=>a[0]?) k.1;have E:(σ (ς (π fb 0)) fs cap:ϒ)=σ (ς (π p 0)) (b.length+1) o:=by simpa using D
 obtain ⟨rfl,-,rfl⟩:fb=p/\fs.length=b.length+1/\cap=o:=by simpa using E
 have q:=i.row;rw [heap_setCell_other _ _ _ _ (λe=>A e.symm),s] at q;obtain rfl:cur=r:=by simpa using q
 refine ⟨x,B,C,t,u,v,i.reframe m.J,?_⟩;have F:=(List.cons.inj (List.cons.inj y).2).2;rw [<-F];exact G
def Ho (fa ga:Option Addr) (fn fc gc:Nat) (g:Int) (B:Nat) (hB:B<=w) (a:List BK) (cA:AE B w 5 (CW B) (σ ga a gc) a) (k:Nat) (hk:f.fn=k) (y:BK) (T:a[k]?=ς y)
  (hv:Cv w fv m.J F) (hm:m.J=fs++[f]) (hn:fs.length<=199) (m':AV) (S:(y.result=ϑ/\∃ (v:Int),in64 v/\f.S=[v]/\fs=[]/\m'={ m with Q:=EE v,J:=[] })\/(y.result=ϝ/\f.S=[]/\fs=[]/\m'={ m with Q:=EE 0,J:=[] })\/(y.result=ϑ/\∃ (v:Int),in64 v/\f.S=[v]/\∃ (l:List AY) (d:AY),fs=l++[d]/\d.S.length<1000000/\m'={ m with J:=l++[{ d with S:=d.S++[v] }] })\/(y.result=ϝ/\f.S=[]/\∃ (l:List AY) (d:AY),fs=l++[d]/\m'={ m with J:=l++[d] })) :
  ϙ prog 200 #[.agg #[σ fa fn fc,ι g,σ ga a gc],AJ fv m] w (DK w F m'):=by
 obtain ⟨fb,cap,bP,cs,lv,sv,Fi,Fl,Fs,rfl,rfl,hT⟩:=hv.top hm;have hF:=Lh hv.lt;have L:=Lh S;clear S;obtain ⟨a0,aV,bD,bU,bV,bW,hE⟩:=cA;obtain ⟨rfl,rfl⟩:ga=a0/\gc=aV:=by simpa using bD
 have bT:=(Ll T)
 rcases hE with h0|⟨b,o,rfl,bQ,hE⟩
 .rw [h0] at T;simp at T
 have q3:=(hE k y T).2.2.2.1;obtain ⟨W,z⟩:=ε (((w.alloc (χ #[σ fa fn fc,ι g,σ (ς (π b o)) a gc] 25)).alloc (χ (AC (σ (ς (π fb 0)) (fs.length+1) cap) m) 51)).alloc (χ (AC ν AI) 51));have K:=Lh (bl3 z);have Z:=Lh (sz3 z);have b0:=Lh (ce31 z);have b1:=ro32 z;have b2:=ro33 z;have Y:=hT W ((w:Nat)+1) m K.o b1 ω;have H:=Lh Y;have c:=AO b1;have i2:=b0.o 2 _ rfl;have q3:=AB K.o q3;have aY:=Y.cFn;rw [hk] at aY;have U:=Lh b2;have bR:=In k;have bS:(k:Int)<(a:Int):=ω;have bX:=In fs;have bY:(fs:Int)<(fs:Int)+1:=ω;have bC:=Y.capl;clear b1 b2 hT Y hv hm bD hE T hk;unfold AJ;unfold AC AI at z;unfold AC;dsimp only at z ⊢;go_enter func200,ntmps200;go_upto_region 1 with fail;rw [<-z];clear z;go_upto_region 3 with fail;go_quiet (fail);obtain ⟨V,hV⟩:=ε (W.drewN nq);have aX:Below W W V:=by rw [hV];exact AG Br nq
 rw [<-hV];have n:=Lh (H.o.kp aX);have X:=@Lh (AW (((w:Nat)+1)::fb::(Fi++(Fl++Fs))) (((w:Nat)+1)::fb::(Fi++(Fl++Fs))) W V) (AW.ob aX);clear hV aX c i2 q3 aY;rcases L.o with ⟨q,v,aZ,r,i,rfl⟩|⟨q,r,i,rfl⟩|⟨q,v,aZ,r,l,d,i,bK,rfl⟩|⟨q,r,l,d,i,rfl⟩
 .have HS:=Lh r
  have J:=Lh i;have e1:((fs:Int) == 0)=ϑ:=by rw [i];rfl
  rw [q];clear r i q L;have c:=AO n.o.mach;have h:=AX n.o.mach;go_wp2_with fail;refine (BZ m n.o ω [] v HS.o).mono ?_;rintro e w2 ⟨rfl,aW,bM,bG,O,N⟩;have u:=Lh O;have D:=Lh (X.o.trans N);clear O N;clear c h;have c:=AO u.o.mach;have h:=AX u.o.mach;go_wp2_with fail;refine (Ib _ _ _ m (EE v) _).mono ?_;rintro e w9 ⟨rfl,P⟩;obtain ⟨j,s,t⟩:=EF (R:=(w:Nat)+1+1) (bm:=(w:Nat)+1) (F0:=[]) (F2:=[]) (m1:={ m with Q:=EE v,J:=[] }) (fv:=ν) K.o (Ds w9) (D.o.trans ((AW.ob P).wide (Fs:=[]) (Fs':=[]) ψ ψ)) ψ hF.o ω ω ω (by have:=Z.o;omega) U.o;have A:=Lh s;have C:=Lh t;have r0:=AO j;have q0:=AX j;clear j s t P;clear c h;unfold AJ AC;go_wp2;exact ϖ (v:=AJ ν { m with Q:=EE v,J:=[] }) (AL (p:=4) rfl A.o _ rfl) rfl C.o
 .have HS:=Lh r
  have J:=Lh i;have e1:((fs:Int) == 0)=ϑ:=by rw [i];rfl
  rw [q];clear r i q L;have c:=AO n.o.mach;have h:=AX n.o.mach;have u:=n;have D:=X;go_wp2_with fail;refine (Ib _ _ _ m (EE 0) _).mono ?_;rintro e w9 ⟨rfl,P⟩;obtain ⟨j,s,t⟩:=EF (R:=(w:Nat)+1+1) (bm:=(w:Nat)+1) (F0:=[]) (F2:=[]) (m1:={ m with Q:=EE 0,J:=[] }) (fv:=ν) K.o (Ds w9) (D.o.trans ((AW.ob P).wide (Fs:=[]) (Fs':=[]) ψ ψ)) ψ hF.o ω ω ω (by have:=Z.o;omega) U.o;have A:=Lh s;have C:=Lh t;have r0:=AO j;have q0:=AX j;clear j s t P;clear c h;unfold AJ AC;go_wp2;exact ϖ (v:=AJ ν { m with Q:=EE 0,J:=[] }) (AL (p:=4) rfl A.o _ rfl) rfl C.o
 .have HS:=Lh r
  have J:=Lh i;have e1:((fs:Int) == 0)=ϝ:=by rw [i];simp;omega
  rw [q];clear r i q L;have c:=AO n.o.mach;have h:=AX n.o.mach;go_wp2_with fail;refine (BZ m n.o ω [] v HS.o).mono ?_;rintro e w2 ⟨rfl,aW,bM,bG,O,N⟩;have u:=Lh O;have D:=Lh (X.o.trans N);clear O N;clear c h;have c:=AO u.o.mach;have h:=AX u.o.mach;go_upto_region 9 with fail;obtain ⟨bI,bL,bN,bE,bF,bH,I,G⟩:=RL u.o J.o;obtain ⟨w3,Q⟩:=ε (w2.setCell (π (w+1) 0) (σ (ς (π fb 0)) fs cap));rw [<-Q] at I G ⊢;have E:=Lh I;have aT:=Lh (D.o.trans G);clear I G Q;clear c h;have c:=AO E.o.mach;have h:=AX E.o.mach;go_wp2_with fail;refine (DP m E.o (by have:=congrArg List.length J.o;simp at this;omega) v aZ bK).mono ?_;rintro e w4 ⟨rfl,bJ,bZ,bO,bB,bA⟩;have M:=Lh bB;have aU:=Lh (aT.o.trans bA);clear bB bA;clear c h;have c:=AO M.o.mach;have h:=AX M.o.mach;obtain ⟨j,s,t⟩:=EF (R:=(w:Nat)+1+1) (bm:=(w:Nat)+1) (m1:={ m with J:=l++[{ d with S:=d.S++[v] }] }) K.o (Nd M.o) aU.o (λx hx=>List.mem_cons_of_mem _ hx) hF.o ω ω ω (by have:=Z.o;omega) U.o;have A:=Lh s;have C:=Lh t;have r0:=AO j;have q0:=AX j;clear j s t;go_wp2;exact ϖ (v:=AJ (σ (ς (π fb 0)) (l.length+1) cap) { m with J:=l++[{ d with S:=d.S++[v] }] }) (AL (p:=4) rfl A.o _ rfl) rfl C.o
 .have HS:=Lh r
  have J:=Lh i;have e1:((fs:Int) == 0)=ϝ:=by rw [i];simp;omega
  rw [q];clear r i q L;have c:=AO n.o.mach;have h:=AX n.o.mach;have u:=n;have D:=X;go_upto_region 9 with fail;obtain ⟨bI,bL,bN,bE,bF,bH,I,G⟩:=RL u.o J.o;obtain ⟨w3,Q⟩:=ε (V.setCell (π (w+1) 0) (σ (ς (π fb 0)) fs cap));rw [<-Q] at I G ⊢;have E:=Lh I;have aT:=Lh (D.o.trans G);clear I G Q;clear c h;have c:=AO E.o.mach;have h:=AX E.o.mach;have M:=E;have aU:=aT;obtain ⟨j,s,t⟩:=EF (R:=(w:Nat)+1+1) (bm:=(w:Nat)+1) (m1:={ m with J:=l++[d] }) K.o (Nd M.o) aU.o (λx hx=>List.mem_cons_of_mem _ hx) hF.o ω ω ω (by have:=Z.o;omega) U.o;have A:=Lh s;have C:=Lh t;have r0:=AO j;have q0:=AX j;clear j s t;go_wp2;exact ϖ (v:=AJ (σ (ς (π fb 0)) (l.length+1) cap) { m with J:=l++[d] }) (AL (p:=4) rfl A.o _ rfl) rfl C.o
def Kk (h:AN w bm fb cap cur cs fs f lv sv m Fi Fl Fs) :
  Cv w (σ (ς (π fb 0)) (fs.length+1) cap) (fs++[f]) (fb::(Fi++(Fl++Fs))):=by
 obtain ⟨b,c,a,e,d⟩:=G2 ((h.reframe (fs++[f])).own rfl) h.cFrames;rw [(List.cons.inj e).2];exact a
def Eb (a y A:Option Addr) (n f fn z C B:Nat) (g i xa:Int) (hF:∀ b∈F,b<(w:Nat)) (G:Hid (E0 i=ϑ))
  (c:∀ W,Below w w W->ϙ prog 198 #[AJ (σ a n f) m,.agg #[ι i,ι xa]] W (DK W F m')) :
  ϙ prog 173 #[.agg #[σ y fn z,ι g,σ A C B],AJ (σ a n f) m,.agg #[ι i,ι xa]] w (DK w F m'):=by
 have I:=Lh hF;have H:=Lh c;obtain ⟨W,d⟩:=ε ((((w.alloc (χ #[σ y fn z,ι g,σ A C B] 25)).alloc (χ (AC (σ a n f) m) 51)).alloc (χ #[ι i,ι xa] 124)).alloc (χ (AC ν AI) 51));have s:=Lh (bl4 d);have M:=Lh (sz4 d);have t:=ce41 d;have u:=ro42 d;have O:=Lh (ce43 d);have x:=ro44 d;have T:=AO u;have P:=t 0 _ rfl;have S:=Γ2 O.o;have D:=Lh x;clear t u x hF c;unfold AJ;unfold AC AI at d;unfold AC;dsimp only at d ⊢;go_enter func173,ntmps173;go_upto_region 1 with fail;rw [<-d];clear d;go_wp2_with fail;refine (Ea i _).mono ?_;rintro e Y ⟨rfl,rfl⟩;rw [G.o];go_wp2_with fail;refine (H.o W s.o).mono ?_;rintro e Z ⟨U,E,rfl,j,r⟩;obtain ⟨L,Q,rfl⟩:=j.form;obtain ⟨k,l,o⟩:=EF (R:=(w:Nat)+1+1+1) (bm:=(w:Nat)+1) s.o j (r.wide (F:=((w:Nat)+1)::F) (F':=E) (λb h=>List.mem_cons_of_mem _ h) (λb h=>.inl h)) (λb h=>h) I.o ω ω ω (by have:=M.o;omega) D.o;obtain ⟨N,q⟩:=ε m'.J.length;rw [<-q] at l o ⊢;have J:=Lh l;have K:=Lh o;have X:=AO k;have V:=AX k;clear k l o;clear j r q;clear T P S;unfold AJ AC;go_wp2;exact ϖ (v:=AJ (σ L N Q) m') (AL (p:=6) rfl J.o _ rfl) rfl K.o
def Qd (a k o:Option Addr) (n f fn l r q:Nat) (g i xa:Int) (hF:∀ b∈F,b<(w:Nat)) (G:Hid (E0 i=ϝ)) (V:(i == 9)=ϑ)
  (c:∀ W,Below w w W->ϙ prog 199 #[.agg #[σ k fn l,ι g,σ o r q],AJ (σ a n f) m,ι xa] W (DK W F m')) :
  ϙ prog 173 #[.agg #[σ k fn l,ι g,σ o r q],AJ (σ a n f) m,.agg #[ι i,ι xa]] w (DK w F m'):=by
 have I:=Lh hF;have H:=Lh c;obtain ⟨W,d⟩:=ε ((((w.alloc (χ #[σ k fn l,ι g,σ o r q] 25)).alloc (χ (AC (σ a n f) m) 51)).alloc (χ #[ι i,ι xa] 124)).alloc (χ (AC ν AI) 51));have z:=Lh (bl4 d);have M:=Lh (sz4 d);have A:=ce41 d;have B:=ro42 d;have O:=Lh (ce43 d);have C:=ro44 d;have T:=AO B;have P:=Γ3 A;have S:=Γ2 O.o;have D:=Lh C;clear A B C hF c;unfold AJ;unfold AC AI at d;unfold AC;dsimp only at d ⊢;go_enter func173,ntmps173;go_upto_region 1 with fail;rw [<-d];clear d;go_wp2_with fail;refine (Ea i _).mono ?_;rintro e Z ⟨rfl,rfl⟩;rw [G.o];go_wp2_with fail;refine (H.o W z.o).mono ?_;rintro e w9 ⟨U,E,rfl,j,y⟩;obtain ⟨L,Q,rfl⟩:=j.form;obtain ⟨s,t,u⟩:=EF (R:=(w:Nat)+1+1+1) (bm:=(w:Nat)+1) z.o j (y.wide (F:=((w:Nat)+1)::F) (F':=E) (λb h=>List.mem_cons_of_mem _ h) (λb h=>.inl h)) (λb h=>h) I.o ω ω ω (by have:=M.o;omega) D.o;obtain ⟨N,x⟩:=ε m'.J.length;rw [<-x] at t u ⊢;have J:=Lh t;have K:=Lh u;have Y:=AO s;have X:=AX s;clear s t u;clear j y x;clear T P S;unfold AJ AC;go_wp2;exact ϖ (v:=AJ (σ L N Q) m') (AL (p:=6) rfl J.o _ rfl) rfl K.o
def Qc (a k o:Option Addr) (n f fn l r q:Nat) (g h xa:Int) (hF:∀ b∈F,b<(w:Nat)) (G:Hid (E0 h=ϝ)) (X:(h == 9)=ϝ) (S:(h == 10)=ϑ)
  (c:∀ W,Below w w W->ϙ prog 200 #[.agg #[σ k fn l,ι g,σ o r q],AJ (σ a n f) m] W (DK W F m')) :
  ϙ prog 173 #[.agg #[σ k fn l,ι g,σ o r q],AJ (σ a n f) m,.agg #[ι h,ι xa]] w (DK w F m'):=by
 have I:=Lh hF;have H:=Lh c;obtain ⟨W,d⟩:=ε ((((w.alloc (χ #[σ k fn l,ι g,σ o r q] 25)).alloc (χ (AC (σ a n f) m) 51)).alloc (χ #[ι h,ι xa] 124)).alloc (χ (AC ν AI) 51));have z:=Lh (bl4 d);have M:=Lh (sz4 d);have A:=ce41 d;have B:=ro42 d;have O:=Lh (ce43 d);have C:=ro44 d;have U:=AO B;have P:=Γ3 A;have T:=O.o 0 _ rfl;have D:=Lh C;clear A B C hF c;unfold AJ;unfold AC AI at d;unfold AC;dsimp only at d ⊢;go_enter func173,ntmps173;go_upto_region 1 with fail;rw [<-d];clear d;go_wp2_with fail;refine (Ea h _).mono ?_;rintro e w' ⟨rfl,rfl⟩;rw [G.o];go_wp2_with fail;refine (H.o W z.o).mono ?_;rintro e w9 ⟨V,E,rfl,j,y⟩;obtain ⟨L,Q,rfl⟩:=j.form;obtain ⟨s,t,u⟩:=EF (R:=(w:Nat)+1+1+1) (bm:=(w:Nat)+1) z.o j (y.wide (F:=((w:Nat)+1)::F) (F':=E) (λb i=>List.mem_cons_of_mem _ i) (λb i=>.inl i)) (λb i=>i) I.o ω ω ω (by have:=M.o;omega) D.o;obtain ⟨N,x⟩:=ε m'.J.length;rw [<-x] at t u ⊢;have J:=Lh t;have K:=Lh u;have Z:=AO s;have Y:=AX s;clear s t u;clear j y x;clear U P T;unfold AJ AC;go_wp2;exact ϖ (v:=AJ (σ L N Q) m') (AL (p:=6) rfl J.o _ rfl) rfl K.o
def BV (a y A:Option Addr) (n h fn z C B:Nat) (g f xa:Int) (hF:∀ b∈F,b<(w:Nat)) (G:Hid (E0 f=ϝ)) (Z:(f == 9)=ϝ) (T:(f == 10)=ϝ) (J:Hid (decide (BB f)=ϝ))
  (c:∀ W,Below w w W->ϙ prog 202 #[AJ (σ a n h) m,.agg #[ι f,ι xa]] W (DK W F m')) :
  ϙ prog 173 #[.agg #[σ y fn z,ι g,σ A C B],AJ (σ a n h) m,.agg #[ι f,ι xa]] w (DK w F m'):=by
 have I:=Lh hF;have H:=Lh c;obtain ⟨W,d⟩:=ε ((((w.alloc (χ #[σ y fn z,ι g,σ A C B] 25)).alloc (χ (AC (σ a n h) m) 51)).alloc (χ #[ι f,ι xa] 124)).alloc (χ (AC ν AI) 51));have s:=Lh (bl4 d);have N:=Lh (sz4 d);have t:=ce41 d;have u:=ro42 d;have P:=Lh (ce43 d);have x:=ro44 d;have V:=AO u;have Q:=t 0 _ rfl;have U:=Γ2 P.o;have D:=Lh x;clear t u x hF c;unfold AJ;unfold AC AI at d;unfold AC;dsimp only at d ⊢;go_enter func173,ntmps173;go_upto_region 1 with fail;rw [<-d];clear d;go_wp2_with fail;refine (Ea f _).mono ?_;rintro e X ⟨rfl,rfl⟩;rw [G.o];go_wp2_with fail;refine (Lf f _).mono ?_;rintro e X ⟨rfl,rfl⟩;rw [J.o];go_wp2_with fail;refine (H.o W s.o).mono ?_;rintro e w9 ⟨Y,E,rfl,j,r⟩;obtain ⟨M,S,rfl⟩:=j.form;obtain ⟨k,l,o⟩:=EF (R:=(w:Nat)+1+1+1) (bm:=(w:Nat)+1) s.o j (r.wide (F:=((w:Nat)+1)::F) (F':=E) (λb i=>List.mem_cons_of_mem _ i) (λb i=>.inl i)) (λb i=>i) I.o ω ω ω (by have:=N.o;omega) D.o;obtain ⟨O,q⟩:=ε m'.J.length;rw [<-q] at l o ⊢;have K:=Lh l;have L:=Lh o;have r0:=AO k;have q0:=AX k;clear k l o;clear j r q;clear V Q U;unfold AJ AC;go_wp2;exact ϖ (v:=AJ (σ M O S) m') (AL (p:=6) rfl K.o _ rfl) rfl L.o
def Na (J L:Option Addr) (fn K N M:Nat) (g a xa:Int) (i:BB a) (l:List Int) (u v:Int) (h:f.S=l++[u]++[v]) (hu:BP u) (s:BP v) (O:¬BG a u v=0) (r:Cv w fv m.J F) (Q:m.J=fs++[f]) (hn:fs.length<=199) (aX:f.S.length<1000000) :
  ϙ prog 173 #[.agg #[σ J fn K,ι g,σ L N M],AJ fv m,.agg #[ι a,ι xa]] w (DK w F { m with Q:=Ah (BG a u v),J:=[] }):=by
 obtain ⟨fb,cap,aU,cs,lv,sv,Fi,Fl,Fs,rfl,rfl,P⟩:=r.top Q;obtain ⟨z,HS,HE,H2⟩:=Λ4 r.lt h O i;have D:=i;unfold BB at D;have HA:=@Lh (E0 a=ϝ) (by unfold E0;simp;omega);have HT:=@Lh (decide (BB a)=ϑ) (by simp [i]);have e9:=ξ a 9;have aV:=ξ a 10;obtain ⟨W,b⟩:=ε ((((w.alloc (χ #[σ J fn K,ι g,σ L N M] 25)).alloc (χ (AC (σ (ς (π fb 0)) (fs.length+1) cap) m) 51)).alloc (χ #[ι a,ι xa] 124)).alloc (χ (AC ν AI) 51));have B:=Lh (bl4 b);have E:=Lh (sz4 b);have G:=ce41 b;have q:=ro42 b;have b2:=Lh (ce43 b);have I:=ro44 b;have x:=AO q;have c0:=G 0 _ rfl;obtain ⟨c,t⟩:=Γ2 b2.o;have z2:=Bl c;have B3:=Lh I;have A:=P W ((w:Nat)+1) m B.o q ω;have H:=Lh A;have j:(w:Nat)+1+1∉(((w:Nat)+1)::fb::(Fi++(Fl++Fs))):=λe=>by
  rw [ϰ] at e;rcases e with e|e
  .omega
  .have:=z.o _ e;omega
 clear G q I P A r Q h O i D;unfold AJ;unfold AC AI at b;unfold AC;dsimp only at b ⊢;go_enter func173,ntmps173;go_upto_region 1 with fail;rw [<-b];clear b;go_wp2_with fail;refine (Ea a _).mono ?_;rintro e w' ⟨rfl,rfl⟩;rw [HA.o];go_wp2_with fail;refine (Lf a _).mono ?_;rintro e w' ⟨rfl,rfl⟩;rw [HT.o];go_wp2_with fail;refine (BZ m H.o ω (l++[u]) v HS.o).mono ?_;rintro e w1 ⟨rfl,aE,aR,aN,n,d⟩;have c:=d.cell c j;have t:=d.cell t j;have z2:=Bl c;have aB:=d.notin (by have:=E.o;omega) j;obtain ⟨x,T,U,X,Y,Z,k6,k7,k8⟩:=AO n.mach;have aD:=@Lh (AN w1.drew (w+1) fb cap aE cs fs { f with S:=l++[u] } lv aR m Fi Fl aN) (n.kp (AG Br 1));have aO:=Lh d;clear n d c0;go_upto_region 10 with fail;go_region_held3 (λV=>V.cell? (π (w+1) 0)=ς (σ (ς (π fb 0)) (fs.length+1) cap)/\V.cell? (π (w+1) 1)=ς (ι m.Q.K)/\V.cell? (π (w+1) 2)=ς (ι m.Q.O)/\V.cell? (π (w+1) 3)=ς (ι m.Q.D)/\V.cell? (π (w+1) 4)=ς (ι m.Q.V)/\V.cell? (π (w+1) 5)=ς (ι m.Q.X)/\V.cell? (π (w+1) 6)=ς (ι m.Y)/\V.cell? (π (w+1) 7)=ς (ι m.C)/\V.cell? (π (w+1) 8)=ς (ι m.I)/\V.cell? (π (w+1+1) 0)=ς (ι a))
  (first|exact ⟨x,T,U,X,Y,Z,k6,k7,k8,c⟩|exact ⟨j0,j1,j2,j3,j4,j5,j6,j7,j8,S⟩)
  (first|(go_at_call 203;refine (BZ m aD.o ω l u rfl).mono ?_;rintro e w2 ⟨rfl,aQ,aW,aS,o,k⟩;obtain ⟨j0,j1,j2,j3,j4,j5,j6,j7,j8⟩:=AO o.mach;have S:=k.cd c aB;have aT:=Lh o;have aP:=Lh ((aO.o.trans (AW.ob (AG Br 1))).trans k);clear o k)|(go_at_call 204;refine (Mb a u v H2.o hu s _).mono ?_;rintro e w3 ⟨rfl,rfl⟩))
 clear c t z2 x T U X Y Z k6 k7 k8 S;have e0:=τ (BG a u v) 0 HE.o;go_wp2_with fail;refine (DX _ _ _ m (BG a u v) _).mono ?_;rintro e w9 ⟨rfl,C⟩;obtain ⟨y,t2,t3⟩:=EF (R:=(w:Nat)+1+1+1) (bm:=(w:Nat)+1) (F0:=[]) (F2:=[]) (m1:={ m with Q:=Ah (BG a u v),J:=[] }) (fv:=ν) B.o (Ds w9) (aP.o.trans ((AW.ob C).wide (Fs:=[]) (Fs':=[]) ψ ψ)) ψ z.o ω ω ω (by have:=E.o;omega) B3.o;have Q2:=Lh t2;have Q3:=Lh t3;have r0:=AO y;have q0:=AX y;clear y t2 t3;clear C j0 j1 j2 j3 j4 j5 j6 j7 j8 e0;unfold AJ AC;go_wp2;exact ϖ (v:=AJ ν { m with Q:=Ah (BG a u v),J:=[] }) (AL (p:=6) rfl Q2.o _ rfl) rfl Q3.o
def Sr (fa ga:Option Addr) (fn fc gn gc:Nat) (g a xa:Int) (z:BB a) (l:List Int) (u v:Int) (c:f.S=l++[u]++[v]) (hu:BP u) (y:BP v) (hE:BG a u v=0) (hc:-1<=m.C/\m.C<=4611686018427387904) (M:Cv w fv m.J F) (hm:m.J=fs++[f]) (hn:fs.length<=199) (bN:f.S.length<1000000) :
  ϙ prog 173 #[.agg #[σ fa fn fc,ι g,σ ga gn gc],AJ fv m,.agg #[ι a,ι xa]] w (DK w F { m with C:=m.C+DS a,J:=fs++[{ f with S:=l++[Du a u v] }] }):=by
 obtain ⟨fb,cap,bI,cs,lv,sv,Fi,Fl,Fs,rfl,rfl,hT⟩:=M.top hm;obtain ⟨U,HS,B,T⟩:=Λ4 M.lt c hE z;have aV:=z;unfold BB at aV;have HA:=@Lh (E0 a=ϝ) (by unfold E0;simp;omega);have HT:=@Lh (decide (BB a)=ϑ) (by simp [z]);have e9:=ξ a 9;have bJ:=ξ a 10;obtain ⟨W,b⟩:=ε ((((w.alloc (χ #[σ fa fn fc,ι g,σ ga gn gc] 25)).alloc (χ (AC (σ (ς (π fb 0)) (fs.length+1) cap) m) 51)).alloc (χ #[ι a,ι xa] 124)).alloc (χ (AC ν AI) 51));have aS:=Lh (bl4 b);have aW:=Lh (sz4 b);have b0:=ce41 b;have L:=ro42 b;have b2:=Lh (ce43 b);have b3:=ro44 b;obtain ⟨h,i,j,k,n,o,q,r,s⟩:=AO L;have c0:=b0 0 _ rfl;obtain ⟨d,N⟩:=Γ2 b2.o;have A:=Bl d;have B3:=Lh b3;have aR:=hT W ((w:Nat)+1) m aS.o L ω;have H:=Lh aR;have C:(w:Nat)+1+1∉(((w:Nat)+1)::fb::(Fi++(Fl++Fs))):=λe=>by
  rw [ϰ] at e;rcases e with e|e
  .omega
  .have:=U.o _ e;omega
 have bD:l.length<1000000:=by have:=congrArg List.length c;simp at this;omega
 clear b0 L b3 hT aR M hm c hE z aV;unfold AJ;unfold AC AI at b;unfold AC;dsimp only at b ⊢;go_enter func173,ntmps173;go_upto_region 1 with fail;rw [<-b];clear b;go_wp2_with fail;refine (Ea a _).mono ?_;rintro e Q ⟨rfl,rfl⟩;rw [HA.o];go_wp2_with fail;refine (Lf a _).mono ?_;rintro e Q ⟨rfl,rfl⟩;rw [HT.o];go_wp2_with fail;refine (BZ m H.o ω (l++[u]) v HS.o).mono ?_;rintro e w1 ⟨rfl,aF,bF,aX,E,t⟩;have d:=t.cell d C;have N:=t.cell N C;have A:=Bl d;have aB:=t.notin (by have:=aW.o;omega) C;obtain ⟨h,i,j,k,n,o,q,r,s⟩:=AO E.mach;have aE:=@Lh (AN w1.drew (w+1) fb cap aF cs fs { f with S:=l++[u] } lv bF m Fi Fl aX) (E.kp (AG Br 1));have aY:=Lh t;clear E t c0;go_upto_region 10 with fail;go_region_held3 (λV=>V.cell? (π (w+1) 0)=ς (σ (ς (π fb 0)) (fs.length+1) cap)/\V.cell? (π (w+1) 1)=ς (ι m.Q.K)/\V.cell? (π (w+1) 2)=ς (ι m.Q.O)/\V.cell? (π (w+1) 3)=ς (ι m.Q.D)/\V.cell? (π (w+1) 4)=ς (ι m.Q.V)/\V.cell? (π (w+1) 5)=ς (ι m.Q.X)/\V.cell? (π (w+1) 6)=ς (ι m.Y)/\V.cell? (π (w+1) 7)=ς (ι m.C)/\V.cell? (π (w+1) 8)=ς (ι m.I)/\V.cell? (π (w+1+1) 0)=ς (ι a))
  (first|exact ⟨h,i,j,k,n,o,q,r,s,d⟩|exact ⟨j0,j1,j2,j3,j4,j5,j6,j7,j8,O⟩)
  (first|(go_at_call 203;refine (BZ m aE.o ω l u rfl).mono ?_;rintro e S ⟨rfl,bB,bL,bG,G,D⟩;obtain ⟨j0,j1,j2,j3,j4,j5,j6,j7,j8⟩:=AO G.mach;have O:=D.cd d aB;have Y:=Lh G;have aZ:=Lh ((aY.o.trans (AW.ob (AG Br 1))).trans D);clear G D)|(go_at_call 204;refine (Mb a u v T.o hu y _).mono ?_;rintro e w3 ⟨rfl,rfl⟩))
 clear d N A h i j k n o q r s;have aU:Bo a u v=Du a u v:=by unfold Bo;rw [if_pos B.o]
 rw [B.o,aU];clear aU;have A:=Bl O;have g7:=Y.o.frm 7;have aT:D0 (decide (20<=a) && decide (a<=23))=DS a:=by unfold D0 DS;simp
 have bK:=KV a;have bE:IntKind.i64.wrap (m.C+DS a)=m.C+DS a:=by rw [IntKind.wrap_i64];omega
 go_upto_region 13 with fail
 go_region_with (first|(go_at_call 206;refine (L8 a _).mono ?_;rintro e Q ⟨rfl,rfl⟩)|(go_at_call 205;refine (Eo (decide (20<=a) && decide (a<=23)) _).mono ?_;rintro e Q ⟨rfl,rfl⟩;rw [aT]))
 all_goals
  obtain ⟨aO,X⟩:=KD Y.o Br (m':={ m with C:=m.C+DS a }) 7 (ι (m.C+DS a)) (by unfold AC;rfl);obtain ⟨w4,K⟩:=ε ((S.setCell (π (w+1) 7) (ι (m.C+DS a))).drew);have J:Below (S.setCell (π (w+1) 7) (ι (m.C+DS a))).heap.size (S.setCell (π (w+1) 7) (ι (m.C+DS a))) w4:=by rw [K];exact AG Br 1
  have h4:=aO.kp J;have aP:=X.trans (AW.ob J);clear aO X J bE;rw [<-K];have Z:=Lh h4;have bA:=Lh (aZ.o.trans aP);clear h4 aP K j0 j1 j2 j3 j4 j5 j6 j7 j8 O A g7 aT;obtain ⟨h,i,j,k,n,o,q,r,s⟩:=AO Z.o.mach;go_wp2_with fail;refine (DP { m with C:=m.C+DS a } Z.o ω (Du a u v) (K9 T.o hu y B.o).in64 bD).mono ?_;rintro e w5 ⟨rfl,bC,bM,bH,I,aQ⟩;obtain ⟨P,t2,t3⟩:=EF (R:=(w:Nat)+1+1+1) (bm:=(w:Nat)+1) (m1:={ m with C:=m.C+DS a,J:=fs++[{ f with S:=l++[Du a u v] }] }) aS.o (Kk I) (bA.o.trans aQ) (λx hx=>List.mem_cons_of_mem _ hx) U.o ω ω ω (by have:=aW.o;omega) B3.o;have Q2:=Lh t2;have Q3:=Lh t3;obtain ⟨r0,r1,r2,r3,r4,r5,r6,r7,r8⟩:=AO P;obtain ⟨q0,q1,q2,q3,q4,q5,q6,q7,q8⟩:=AX P;clear P t2 t3
 
  clear h i j k n o q r s;obtain ⟨h,i,j,k,n,o,q,r,s⟩:=AO I.mach;clear I aQ;go_wp2;exact ϖ (v:=AJ (σ (ς (π fb 0)) (fs.length+1) cap) { m with C:=m.C+DS a,J:=fs++[{ f with S:=l++[Du a u v] }] }) (AL (p:=6) rfl Q2.o _ rfl) rfl Q3.o
