import Derived.Test.YtiejafonjemioaaGreatDoorRe
import Derived.Test.YtiejafonjemioaaGreatDoorRg
import Derived.Test.YtiejafonjemioaaGreatDoorPly
import Derived.Test.YtiejafonjemioaaGreatDoorLsc
set_option maxHeartbeats 4000000
set_option maxRecDepth 100000
set_option linter.all false
open Go.RowKit renaming Below→ϐ
open Option renaming some→ς
open Bool renaming false→ϝ,true→ϑ
open Go.Value renaming slice→σ
open Go.Obj renaming cells→χ
namespace Go.Proofs.YtiejafonjemioaaGreatDoor
open Go.RowKit Proofs.Tryz
variable {r:Rq} {c:AQ} {f g:AY} {nx:Int} {y:BK} {x:Cd} {w w':World} {b:Bool} {fr:List AY} {k:Nat} {m:AV}
def QV (n:Int) (w:World):Calls prog 131 #[ι n] w λe w'=>e=.returned (.bool (FN n))/\w=w':=by
 go_enter func131,ntmps131;go_wp2;all_goals (go_ret;exact ⟨Ca (by rw [Bool.eq_iff_iff];unfold FN;simp;try omega),rfl⟩)
def OB {b a:Int} (h:4<=b/\b<=8):AP ⟨b,a⟩ r=(((r.X == 0) && (r.D == a)) && (Ag b r.O && ((r.K == Aa b) && (if b=5\/b=7 then Af r.V else r.V == 0)))):=by
 have f:(Aa b == 0)=ϝ:=by unfold Aa;rcases (show b=4\/b=5\/b=6\/b=7\/b=8 by omega) with rfl|rfl|rfl|rfl|rfl<;>rfl
 have d:(Aa b == 2)=decide (b=5\/b=7):=by unfold Aa;rcases (show b=4\/b=5\/b=6\/b=7\/b=8 by omega) with rfl|rfl|rfl|rfl|rfl<;>rfl
 have e:(r.V == 0 || (Aa b == 2 && Af r.V))=(if b=5\/b=7 then Af r.V else r.V == 0):=by
  rw [d];split
  .rename_i h5
   rw [decide_eq_true h5,Bool.true_and];by_cases c:r.V=0
   .rw [c];rfl
   .have:(r.V == 0)=ϝ:=by simpa using c
    rw [this,Bool.false_or]
  .rename_i h5
   rw [decide_eq_false h5,Bool.false_and,Bool.or_false]
 unfold AP;rw [f,e];cases (r.K == Aa b)<;>cases (Ag b r.O)<;>cases (r.D == a)<;>cases (r.X == 0)<;>simp
def Sm (i a f g c d b:Int) (h:4<=i/\i<=8) (w:World) :
  Calls prog 166 #[.agg #[ι i,ι a],.agg #[ι f,ι g,ι c,ι d,ι b]] w λe w'=>e=.returned (.bool (AP ⟨i,a⟩ ⟨f,g,c,d,b⟩))/\ϐ w w w':=by
 obtain ⟨R,m⟩:=ε (AP ⟨i,a⟩ ⟨f,g,c,d,b⟩);rw [<-m];rw [OB h] at m;have l:=Lh m;clear m;by_cases j:b=0;rotate_left
 .have e1:=τ b 0 j
  have o:=ξ b 0 j;have k:=@Lh (R=ϝ) (by rw [l.o];simp only [o,Bool.false_and]);clear j;go_enter func166,ntmps166;go_wp2_with fail;all_goals (go_ret;exact ⟨by rw [k.o];rfl,(AA _ _).th (AA _ _)⟩)
 by_cases n:c=a;rotate_left
 .have e1:(b != 0)=ϝ:=by simp [j]
  have o:=τ c a n;have p:=ξ c a n;have k:=@Lh (R=ϝ) (by rw [l.o];simp only [p,Bool.and_false,Bool.false_and]);clear j n;go_enter func166,ntmps166;go_wp2_with fail;all_goals (go_ret;exact ⟨by rw [k.o];rfl,(AA _ _).th (AA _ _)⟩)
 subst j n;have k:=@Lh (R=(Ag i g && ((f == Aa i) && (if i=5\/i=7 then Af d else d == 0)))) (by rw [l.o];simp);clear l;rcases (show i=4\/i=5\/i=6\/i=7\/i=8 by omega) with rfl|rfl|rfl|rfl|rfl;all_goals
  clear h;go_enter func166,ntmps166;go_wp2_with (go_at_call 125;refine (Ba d _).mono ?_;rintro e w' ⟨rfl,rfl⟩);all_goals (go_ret;exact ⟨by rw [k.o];exact Ca (by rw [Bool.eq_iff_iff];simp [Ag,Aa];try (first|omega|exact ⟨λh=>⟨ω,ω,h⟩,λh=>h.2.2⟩)),(AA _ _).th (AA _ _)⟩)
def Dd (c:AQ) (f:AY) (r:Rq) (nx:Int):Prop:=DL c f (λx=>if nx<0 then AP x r=ϑ else x.op=9/\x.a=nx)
def T8 (h:Dd c f r nx):0<=f.fn/\f.fn<c.funcs.length:=by
 obtain ⟨y,x,b,a,_⟩:=h;have:=(Ll a.fn)
 have:=a.fn0;omega
def LF (e:c.funcs[f.fn.toNat]?=ς y) (h:Dd c f r nx):1<=f.pc/\f.pc<=y.code.length/\(f.L:Int)=y.L/\(∀ n∈f.L,BP n)/\∀ n∈f.S,BP n:=by
 obtain ⟨g,x,i,a,b,d,_⟩:=h;obtain rfl:y=g:=by have:=a.fn;rw [e] at this;cases this;rfl
 have:=(Ll d)
 exact ⟨b,ω,a.loc,a.lv,a.sv⟩
def Gd {l:List Int}:(!(l.any λn=>!Af n))=ϑ↔∀ n∈l,BP n:=by
 rw [Bool.not_eq_true',List.any_eq_false];constructor
 .intro h n hn
  have:=h n hn;simp at this;exact Aq.1 this
 .intro h n hn
  simp [Aq.2 (h n hn)]
def Vo (hs:AU c) {v:Int} (b:Gr c f y) (i:1<=f.pc) (e:y.code[(f.pc - 1).toNat]?=ς x) (d:(v = -1/\∀ n,¬Reach c y (f.pc - 1).toNat n)\/(0<=v/\Reach c y (f.pc - 1).toNat v)) :
  Dd c f r nx↔¬v<0/\(f.S:Int)=v - AM c y x/\(if nx<0 then AP x r=ϑ else x.op=9/\x.a=nx):=by
 constructor
 .rintro ⟨y',x',hh,aB,aD,aA,hP,a,hl⟩
  obtain rfl:y'=y:=by have:=aB.fn;rw [b.fn] at this;cases this;rfl
  obtain rfl:x'=x:=by rw [e] at aA;cases aA;rfl
  rcases d with ⟨_,j⟩|⟨h,g⟩
  .exact absurd a (j _)
  .have:=(hs.snd b.fn).2 _ _ _ a g
   subst this;exact ⟨ω,hl,hP⟩
 .rintro ⟨h2,hl,hP⟩
  rcases d with ⟨h,_⟩|⟨_,a⟩
  .omega
  .exact ⟨y,x,v,b,i,e,hP,a,hl⟩
def Tg (c:AQ) (f:AY) (r:Rq) (nx:Int) (w:World) (e:Ending) (w':World):Prop:=e=.returned (.bool (pB (Dd c f r nx)))/\ϐ w w w'
def DY (h:¬Dd c f r nx) (a:ϐ w w w'):Tg c f r nx w (.returned (.bool ϝ)) w':=⟨by rw [Bw h],a⟩
def OU (h:Dd c f r nx↔b=ϑ) (a:ϐ w w w'):Tg c f r nx w (.returned (.bool b)) w':=by
 cases b with
 | true=>exact ⟨by rw [CP (h.2 rfl)],a⟩
 | false=>exact ⟨by rw [Bw (λd=>by have:=h.1 d;cases this)],a⟩
def Vh (h:AP x r=ϑ):4<=x.op/\x.op<=8:=by have:=I6 h;omega
def Hp (hs:AU c) (T:Bv c) (f:AY) (nx i j b g a:Int) (la sa:Option Addr) (lc sc:Nat) (fa O:Option Addr) (fc P:Nat) (B:Nat) (w:World) (Q:B<=w) (hc:BF B w (.agg (Bc fa fc O P c)) c)
  (hl:AE B w 1 Aj (σ la f.L lc) f.L) (u:AE B w 1 Aj (σ sa f.S sc) f.S) (eK:in64 f.pc) :
  Calls prog 132 #[.agg (Bc fa fc O P c),.agg #[ι f.fn,ι f.pc,σ la f.L lc,σ sa f.S sc],.agg #[ι i,ι j,ι b,ι g,ι a],ι nx] w (Tg c f ⟨i,j,b,g,a⟩ nx w):=by
 obtain ⟨W,r⟩:=ε (((w.alloc (χ (Bc fa fc O P c) 25)).alloc (χ #[ι f.fn,ι f.pc,σ la f.L lc,σ sa f.S sc] 129)).alloc (χ #[ι i,ι j,ι b,ι g,ι a] 49));obtain ⟨C,b0,b1,b2⟩:=Λ4 (bl3 r) (ce31 r) (ce32 r) (ce33 r);have HC:=Lh (hc.below (C.o.mono Q));have cX:=Lh (hl.ints (C.o.mono Q));have cD:=Lh (u.ints (C.o.mono Q));have bJ:B<=W:=Nt Q C.o.size;have hg:AE B W 5 (CW B) (σ O c.funcs P) c.funcs:=by obtain ⟨eL,eB,cK,_,m,_⟩:=HC.o;simp only [Value.agg.injEq,Array.mk.injEq,List.cons.injEq,and_true] at cK;obtain ⟨_,_,rfl⟩:=cK;exact m
 have X:=Γ3 b0.o;have f0:=b1.o 0 _ rfl;clear hc hl u;by_cases h0:f.fn<0
 .have l:=@Lh (¬Dd c f ⟨i,j,b,g,a⟩ nx) (λh=>by have:=T8 h;omega)
  have d0:=η (f.fn<0) h0;clear h0;go_enter func132,ntmps132;go_upto_region 1 with fail;rw [<-r];clear r;go_wp2;go_ret;exact DY l.o C.o
 have d0:=θ (f.fn<0);by_cases h1:(c.funcs:Int)<=f.fn
 .have l:=@Lh (¬Dd c f ⟨i,j,b,g,a⟩ nx) (λh=>by have:=T8 h;omega)
  have d1:=η ((c.funcs:Int)<=f.fn);clear h0 h1;go_enter func132,ntmps132;go_upto_region 1 with fail;rw [<-r];clear r;go_wp2;go_ret;exact DY l.o C.o
 have d1:=θ ((c.funcs:Int)<=f.fn);obtain ⟨k,hk⟩:∃ k:Nat,f.fn=k:=⟨f.fn.toNat,ω⟩
 obtain ⟨y,U⟩:∃ y,c.funcs[k]?=ς y:=⟨_,Lg ω⟩
 have cB:c.funcs[f.fn.toNat]?=ς y:=by rw [hk,Int.toNat_natCast];exact U
 have eF:(k:Int)<(c.funcs:Int):=ω;obtain ⟨a0,bS,cJ,dH,dI,dJ,hE⟩:=hg;obtain ⟨rfl,rfl⟩:O=a0/\P=bS:=by simpa using cJ
 rcases hE with m|⟨yb,yo,rfl,dU,hE⟩
 .rw [m] at U;simp at U
 have cG:=hE k y U;obtain ⟨e0,e1,e2,e3,⟨yv,e4,cA⟩,e5,e6,e7⟩:=id cG;obtain ⟨ya,aH,rfl,dV,dW,dX,z⟩:=id cA;rcases z with m|⟨Y,Z,rfl,dM,z⟩
 .have:=(hs.wf cB).one
  rw [m] at this;simp at this
 have dC:=Lh cA;have eE:=In k;have o:=Lh cB;have HK:=Lh hk;rw [hk] at f0 d0 d1;have D:=Γ4 b1.o;clear cJ hE U cB hk h0 h1 z cA cG eK;go_enter func132,ntmps132;go_upto_region 1 with fail;rw [<-r];clear r;go_upto_region 4 with fail;obtain ⟨W3,bH⟩:=ε (W.alloc (χ #[.string y.name,ι y.params,ι y.L,.bool y.result,σ (ς (π Y Z)) y.code aH] 93));have s:=bl1 bH;have G3:=Lh (ce11 bH);obtain ⟨gb,bV⟩:=ε (W:Nat);rw [<-bH,<- bV];rw [<-bV] at G3;obtain ⟨C3,F3,R3,A⟩:=Λ4 (b0.o.kp s) (b1.o.kp s) (b2.o.kp s) (C.o.th s);have bG:B<=W3:=Nt Q A.o.size;have bP:=Lh (cX.o.ints (s.mono bJ));have bR:=Lh (cD.o.ints (s.mono bJ));have cC:=Lh (HC.o.below (s.mono bJ));have aT:=Lh (dC.o.inss (s.mono bJ));clear bH bV s X f0 D e0 e1 e2 e3 e4 d0 d1;have X:=Γ3 C3.o;have f0:=Γ4 F3.o;have g0:=Γ5 G3.o;have r0:=Γ5 R3.o;by_cases p1:f.pc<1
 .have l:=@Lh (¬Dd c f ⟨i,j,b,g,a⟩ nx) (λh=>by have:=LF o.o h;omega)
  have d:=η (f.pc<1) p1;clear p1;go_wp2;go_ret;exact DY l.o A.o
 have q1:=θ (f.pc<1);by_cases p2:(y.code:Int)<f.pc
 .have l:=@Lh (¬Dd c f ⟨i,j,b,g,a⟩ nx) (λh=>by have:=LF o.o h;omega)
  have d:=η ((y.code:Int)<f.pc);clear p2 p1;go_wp2;go_ret;exact DY l.o A.o
 have q2:=θ ((y.code:Int)<f.pc);by_cases p3:(f.L:Int)=y.L;rotate_left
 .have l:=@Lh (¬Dd c f ⟨i,j,b,g,a⟩ nx) (λh=>p3 (LF o.o h).2.2.1)
  have d:=τ (f.L:Int) y.L;clear p3 p2 p1;go_wp2;go_ret;exact DY l.o A.o
 have cY:=Lh p3;have q3:((f.L:Int) != y.L)=ϝ:=by simp [p3]
 obtain ⟨p,S⟩:∃ p:Nat,f.pc=(p:Int)+1:=⟨(f.pc - 1).toNat,ω⟩
 have bF:=Lh S;have dO:p<y.code.length:=ω;clear p3 p2 p1;go_wp2_with fail;refine (Db f.L _ B _ bP.o).mono ?_;rintro e w' ⟨rfl,rfl⟩;cases H:Ce f.L with
 | false=>
  have l:Hid (¬Dd c f ⟨i,j,b,g,a⟩ nx):=Lh (λh=>by
   have m:=Gd.2 (LF o.o h).2.2.2.1;unfold Ce at H;rw [m] at H;cases H)
  clear H S;go_wp2;go_ret;exact DY l.o A.o
 | true=>
 have dA:=@Lh (∀ n∈f.L,BP n) (Gd.1 H);clear H;go_wp2_with fail;refine (Db f.S _ B _ bR.o).mono ?_;rintro e w' ⟨rfl,rfl⟩;cases I:Ce f.S with
 | false=>
  have l:Hid (¬Dd c f ⟨i,j,b,g,a⟩ nx):=Lh (λh=>by
   have m:=Gd.2 (LF o.o h).2.2.2.2;unfold Ce at I;rw [m] at I;cases I)
  clear I S;go_wp2;go_ret;exact DY l.o A.o
 | true=>
 have dB:=@Lh (∀ n∈f.S,BP n) (Gd.1 I);clear I;have bU:=@Lh (0<=f.fn) (by have:=HK.o;omega);have aV:Hid (Gr c f y):=Lh ⟨bU.o,o.o,ω,cY.o,dA.o,dB.o⟩;have bL:=Lh (hs.wf o.o);obtain ⟨x,hx⟩:∃ x,y.code[p]?=ς x:=⟨_,Lg dO⟩
 have HX:=Lh hx;have cH:∀ V,ϐ B W3 V->EI B V (.agg #[.string y.name,ι y.params,ι y.L,.bool y.result,σ (ς (π Y Z)) y.code aH]) y:=λV R=>⟨_,rfl,aT.o.inss R,e5,e6,e7⟩
 have cW:=Lh cH;clear cH hx;go_wp2_with fail;refine (JL c _ y _ B W3 bG cC.o (cW.o W3 Br) bL.o).mono ?_;rintro e w4 (⟨at_,er,rfl,eG,dN,-⟩|⟨hg,dF,bX,rfl,eD,dE,eC,dR,hH,bW,t⟩)
 .exact absurd (hs.snd o.o) dN
 have dK:bX.length=y.code.length:=hH.1;obtain ⟨v,hv⟩:∃ v,bX[p]?=ς v:=⟨_,Lg ω⟩
 obtain ⟨dG,aJ,aK⟩:=bW;have N:w4.cell? (π hg p)=ς (ι v):=by rw [cell_of_row _ _ _ _ _ _ aJ];exact Qa aK (by simp [hv])
 have cP:=hH.2 p v hv;have cE:=Lh cP;have cR:=Lh (A.o.th t);have bT:B<=w4:=Nt bG t.size;have cU:=Lh (cC.o.below (t.mono bG));obtain ⟨eI,aW⟩:=ε bX.length;rw [<-aW] at dE dK ⊢;obtain ⟨C4,F4,R4,G4⟩:=Λ4 (C3.o.kp t) (F3.o.kp t) (R3.o.kp t) (G3.o.kp t);have aU:=Lh (aT.o.inss (t.mono bG));clear hv cP aJ aK hH dR aW t X f0 g0 r0 q1 q2 q3;have D:=F4.o 1 _ rfl;rw [S] at D;have g4:=G4.o 4 _ rfl;have bM:y.code[p]?=ς x:=HX.o;obtain ⟨eA,bD,cQ,-,-,-,z⟩:=aU.o;obtain ⟨rfl,rfl⟩:ς (π Y Z)=eA/\aH=bD:=by simpa using cQ
 rcases z with m|⟨dY,dZ,cM,cL,z⟩
 .rw [m] at bM;simp at bM
 obtain ⟨rfl,rfl⟩:Y=dY/\Z=dZ:=by simpa using cM
 obtain ⟨x0,x1,bY,bC⟩:=z p x bM;have dP:=In p;have dQ:(p:Int)<(y.code:Int):=ω;have cN:(p:Int)<=100000:=by have:=T y (Lm o.o);omega
 clear cQ cM z bM S;go_upto_region 8 with fail;obtain ⟨W5,bI⟩:=ε (w4.alloc (χ #[ι x.op,ι x.a] 124));have q:=bl1 bI;have X5:=Lh (ce11 bI);obtain ⟨xb,bZ⟩:=ε (w4:Nat);rw [<-bI,<- bZ];rw [<-bZ] at X5;obtain ⟨C5,F5,R5,G5,cS⟩:=Λ5 (C4.o.kp q) (F4.o.kp q) (R4.o.kp q) (G4.o.kp q) (cR.o.th q);have dD:B<=W5:=Nt bT q.size;have cV:=Lh (cU.o.below (q.mono bT));have N:=AB q N;have bO:Hid (EI B W5 (.agg #[.string y.name,ι y.params,ι y.L,.bool y.result,σ (ς (π Y Z)) y.code aH]) y):=Lh ⟨_,rfl,aU.o.inss (q.mono bT),e5,e6,e7⟩;have cF:=@Lh (x∈y.code) (Lm HX.o);clear bI bZ q D g4 x0 x1;have X:=Γ3 C5.o;have g0:=Γ5 G5.o;have x0:=Γ2 X5.o;go_wp2_with fail;refine (Ld c _ y _ x _ B W5 dD cV.o bO.o ⟨rfl,bY,bC⟩ bL.o cF.o).mono ?_;rintro e w6 ⟨rfl,F⟩;obtain ⟨bN,F6,R6,X6⟩:=Λ4 (cS.o.th F) (F5.o.kp F) (R5.o.kp F) (X5.o.kp F);have N:=AB F N;clear F X g0 x0;have aZ:=(bL.o.pops x cF.o)
 have eH:(f.S:Int)<=140737488355328:=by obtain ⟨_,_,he,hl,_⟩:=cD.o;omega
 have eJ:-1<=v/\v<=100000:=by
  rcases cE.o with ⟨h,_⟩|⟨h,hr⟩
  .omega
  .have h3:=DJ bL.o (hs.snd o.o) hr
   have h4:=T y (Lm o.o);omega
 have E:=@Lh (Dd c f ⟨i,j,b,g,a⟩ nx↔¬v<0/\(f.S:Int)=v - AM c y x/\(if nx<0 then AP x ⟨i,j,b,g,a⟩=ϑ else x.op=9/\x.a=nx)) (Vo hs aV.o (by have:=bF.o;omega) (by rw [show (f.pc - 1).toNat=p by have:=bF.o;omega];exact HX.o) (by rw [show (f.pc - 1).toNat=p by have:=bF.o;omega];exact cE.o));obtain ⟨po,cO⟩:=ε (AM c y x);rw [<-cO] at aZ E ⊢;clear cO;have D:=F6.o 1 _ rfl;rw [bF.o] at D;have f3:=F6.o 3 _ rfl;have dS:IntKind.i64.wrap ((p:Int)+1 - 1)=(p:Int):=by rw [IntKind.wrap_i64];omega
 by_cases G:v<0
 .have d:=η (v<0) G
  have l:=@Lh (¬Dd c f ⟨i,j,b,g,a⟩ nx) (λh=>(E.o.1 h).1 G);clear G;go_wp2_with fail;go_quiet (fail);have aN:=Lh (AG bN.o nq);go_wp2;go_ret;exact DY l.o aN.o
 have d:=θ (v<0);have dT:IntKind.i64.wrap (v - po)=v - po:=by rw [IntKind.wrap_i64];omega
 by_cases u:(f.S:Int)=v - po;rotate_left
 .have d2:=τ (f.S:Int) (v - po)
  have l:=@Lh (¬Dd c f ⟨i,j,b,g,a⟩ nx) (λh=>u (E.o.1 h).2.1);clear u G;go_wp2_with fail;go_quiet (fail);have aN:=Lh (AG bN.o nq);go_wp2;go_ret;exact DY l.o aN.o
 have d2:((f.S:Int) != v - po)=ϝ:=by simp [u]
 have cZ:=Lh u;have aL:=@Lh (Dd c f ⟨i,j,b,g,a⟩ nx↔(if nx<0 then AP x ⟨i,j,b,g,a⟩=ϑ else x.op=9/\x.a=nx)) (by
  constructor
  .intro h;exact (E.o.1 h).2.2
  .intro h;exact E.o.2 ⟨G,cZ.o,h⟩)
 clear u G E;go_wp2_with fail;go_quiet (fail);obtain ⟨V,R⟩:=ε (w6.drewN nq);have bK:ϐ w6 w6 V:=by rw [R];exact AG Br nq
 rw [<-R];have bE:=Lh (bN.o.th bK);have RV:=Lh (R6.o.kp bK);have XV:=Lh (X6.o.kp bK);clear R bK D f3 N dS dT d d2;have x0:=Γ2 XV.o;by_cases M:nx<0
 .have dn:=η (nx<0) M
  have L:=@Lh (Dd c f ⟨i,j,b,g,a⟩ nx↔AP x ⟨i,j,b,g,a⟩=ϑ) (by have:=aL.o;rwa [if_pos M] at this);clear M;go_wp2_with fail;refine (Ea x.op _).mono ?_;rintro e w' ⟨rfl,rfl⟩;cases K:E0 x.op with
  | false=>
   have l:Hid (¬Dd c f ⟨i,j,b,g,a⟩ nx):=Lh (λh=>by
    have m:=Vh (L.o.1 h);unfold E0 at K;simp at K;omega)
   clear K;go_wp2;go_ret;exact DY l.o bE.o
  | true=>
   have bA:4<=x.op/\x.op<=8:=by unfold E0 at K;simpa using K
   have bQ:=Lh bA;clear K bA;have r0:=Γ5 RV.o;go_wp2_with fail;refine (Sm x.op x.a i j b g a bQ.o _).mono ?_;rintro e w7 ⟨rfl,cI⟩;have cT:=Lh (bE.o.th cI);clear cI;go_wp2;go_ret;exact OU L.o cT.o
 .have dn:=θ (nx<0)
  have L:=@Lh (Dd c f ⟨i,j,b,g,a⟩ nx↔(x.op=9/\x.a=nx)) (by have:=aL.o;rwa [if_neg M] at this);clear M;by_cases J:x.op=9
  .have d9:=ζ x.op 9 J
   have dL:=@Lh (Dd c f ⟨i,j,b,g,a⟩ nx↔(x.a == nx)=ϑ) (by rw [L.o];simp [J]);clear J;go_wp2;go_ret;exact OU dL.o bE.o
  .have d9:=ξ x.op 9 J
   have l:=@Lh (¬Dd c f ⟨i,j,b,g,a⟩ nx) (λh=>J (L.o.1 h).1);clear J;go_wp2;go_ret;exact DY l.o bE.o
def OV (a:k+1=fr.length):BU c fr r k f↔Dd c f r (-1):=by
 unfold BU Dd;rw [show (λx:Cd=>if k+1=fr.length then AP x r=ϑ else x.op=9/\∃ g,fr[k+1]?=ς g/\x.a=g.fn)=(λx:Cd=>if (-1:Int)<0 then AP x r=ϑ else x.op=9/\x.a = -1) from funext λx=>by rw [if_pos a,if_pos ω]]
def Pz (b:fr[k+1]?=ς g) (d:0<=g.fn):BU c fr r k f↔Dd c f r g.fn:=by
 have e:=(Ll b)
 unfold BU Dd;rw [show (λx:Cd=>if k+1=fr.length then AP x r=ϑ else x.op=9/\∃ a,fr[k+1]?=ς a/\x.a=a.fn)=(λx:Cd=>if g.fn<0 then AP x r=ϑ else x.op=9/\x.a=g.fn) from funext λx=>by rw [if_neg ω,if_neg ω,b];simp]
def P5 (hs:AU c) (d:fr[k+1]?=ς g) (l:g.fn<0):¬BU c fr r k f:=by
 rintro ⟨y,x,p,h,m,i,b,t,s⟩;have q:=(Ll d)
 rw [if_neg ω] at b;obtain ⟨e,j,a,o⟩:=b;rw [d] at a;cases a;have:=hs.lim h.fn i (n:=c.funcs.length) (by rw [e];rfl);omega
def Tm (c:AQ) (m:AV) (w:World) (e:Ending) (w':World):Prop:=e=.returned (.bool (pB (Ax c m)))/\ϐ w w w'
def Cn (h:¬Ax c m) (a:ϐ w w w'):Tm c m w (.returned (.bool ϝ)) w':=⟨by rw [Bw h],a⟩
def G9 (h:Ax c m↔b=ϑ) (a:ϐ w w w'):Tm c m w (.returned (.bool b)) w':=by
 cases b with
 | true=>exact ⟨by rw [CP (h.2 rfl)],a⟩
 | false=>exact ⟨by rw [Bw (λd=>by have:=h.1 d;cases this)],a⟩
def Ec (h:Ax c m):0<=m.Y/\m.Y<=1048576/\0<=m.C/\m.C<=1099511627776/\0<=m.I/\m.I<=100000:=⟨h.Y.1,h.Y.2,h.cmp.1,h.cmp.2,h.I.1,h.I.2⟩
def TD (hs:AU c) (d:0<=m.Y/\m.Y<=1048576/\0<=m.C/\m.C<=1099511627776/\0<=m.I/\m.I<=100000) (q:m.Q.K=4\/m.Q.K=5):Ax c m↔m.J=[]/\DT m.Q=ϑ:=by
 constructor
 .intro h
  rcases h.body with h|⟨n,k⟩
  .exact h
  .obtain ⟨j,f,hf⟩:∃ j f,m.J=j++[f]:=by
    rcases List.eq_nil_or_concat m.J with e|⟨l,a,e⟩
    .exact absurd e n
    .exact ⟨l,a,by rw [e];simp⟩
   have g:=k j.length f (by rw [hf];simp);obtain ⟨y,x,p,o,g,t,i,s,r⟩:=g;rw [if_pos (by rw [hf];simp)] at i;have b:=I6 i;unfold AP Aa at i;exfalso;rcases b with b|b|b|b|b<;>rw [b] at i<;>simp at i<;>omega
 .rintro ⟨g,b⟩
  exact ⟨hs,⟨d.1,d.2.1⟩,⟨d.2.2.1,d.2.2.2.1⟩,⟨d.2.2.2.2.1,d.2.2.2.2.2⟩,by rw [g];simp,.inl ⟨g,b⟩⟩
def TF (hs:AU c) (a:0<=m.Y/\m.Y<=1048576/\0<=m.C/\m.C<=1099511627776/\0<=m.I/\m.I<=100000) (i:¬m.Q.K=4) (b:¬m.Q.K=5):Ax c m↔(1<=m.J.length/\m.J.length<=200)/\∀ k f,m.J[k]?=ς f->BU c m.J m.Q k f:=by
 constructor
 .intro h
  rcases h.body with ⟨_,h⟩|⟨g,d⟩
  .unfold DT at h
   rw [if_neg i,if_neg b] at h;cases h
  .have:=List.length_pos_iff.2 g
   exact ⟨⟨ω,h.len⟩,d⟩
 .rintro ⟨h1,h2⟩
  exact ⟨hs,⟨a.1,a.2.1⟩,⟨a.2.2.1,a.2.2.2.1⟩,⟨a.2.2.2.2.1,a.2.2.2.2.2⟩,h1.2,.inr ⟨λe=>by rw [e] at h1;simp at h1,h2⟩⟩
def PZ (hs:AU c) (cY:Bv c) (cv:Value) (m:AV) (fv:Value) (B:Nat) (w:World) (hB:B<=w) (hc:BF B w cv c) (hm:AE B w 4 (CK B) fv m.J) :
  Calls prog 99 #[cv,AJ fv m] w (Tm c m w):=by
 obtain ⟨cf,cg,rfl,cG,cH,cN⟩:=id hc;obtain ⟨fa,fc,rfl⟩:=cG.form;obtain ⟨ga,gc,rfl⟩:=cH.form;obtain ⟨ma,mc,rfl,bO⟩:=hm.frm;obtain ⟨y,⟨p,q,o,a,l⟩,t,r,u⟩:=m;dsimp only at hm bO ⊢;obtain ⟨n,hn⟩:=ε y.length;rw [<-hn] at bO ⊢;have HN:=Lh hn;have HM:=Lh hm;obtain ⟨W,hW⟩:=ε ((w.alloc (χ (Bc fa fc ga gc c) 25)).alloc (χ #[σ ma n mc,ι p,ι q,ι o,ι a,ι l,ι t,ι r,ι u] 51));have aV:=Lh (bl2 hW);have b0:=Lh (ce21 hW);have b1:=Lh (ce22 hW);have HC:=Lh (hc.below (aV.o.mono hB));have k0:=Γ9 b1.o;have cM:B<=W:=Nt hB aV.o.size;obtain ⟨M,bZ⟩:=ε (⟨y,⟨p,q,o,a,l⟩,t,r,u⟩:AV);unfold AJ AC;try dsimp only
 rw [<-bZ];have I:=Lh bZ;clear hc hm hn cG cH bZ;go_enter func99,ntmps99;go_upto_region 1 with fail;rw [<-hW];have HW:=Lh hW;clear hW;by_cases t0:t<0
 .have d:=η (t<0) t0
  have v:=@Lh (¬Ax c M) (λh=>by have:=Ec h;rw [I.o] at this;(try dsimp only at this);omega);clear t0;go_wp2;go_ret;exact Cn v.o aV.o
 by_cases t1:1048576<t
 .have d:=η (1048576<t) t1
  have v:=@Lh (¬Ax c M) (λh=>by have:=Ec h;rw [I.o] at this;(try dsimp only at this);omega);have d0:=θ (t<0);clear t0 t1;go_wp2;go_ret;exact Cn v.o aV.o
 have d0:=θ (t<0);have d1:=θ (1048576<t);by_cases t2:r<0
 .have d:=η (r<0) t2
  have v:=@Lh (¬Ax c M) (λh=>by have:=Ec h;rw [I.o] at this;(try dsimp only at this);omega);clear t0 t1 t2;go_wp2;go_ret;exact Cn v.o aV.o
 by_cases t3:1099511627776<r
 .have d:=η (1099511627776<r) t3
  have v:=@Lh (¬Ax c M) (λh=>by have:=Ec h;rw [I.o] at this;(try dsimp only at this);omega);have d2:=θ (r<0);clear t0 t1 t2 t3;go_wp2;go_ret;exact Cn v.o aV.o
 have d2:=θ (r<0);have d3:=θ (1099511627776<r);by_cases t4:u<0
 .have d:=η (u<0) t4
  have v:=@Lh (¬Ax c M) (λh=>by have:=Ec h;rw [I.o] at this;(try dsimp only at this);omega);clear t0 t1 t2 t3 t4;go_wp2;go_ret;exact Cn v.o aV.o
 by_cases t5:100000<u
 .have d:=η (100000<u) t5
  have v:=@Lh (¬Ax c M) (λh=>by have:=Ec h;rw [I.o] at this;(try dsimp only at this);omega);have d4:=θ (u<0);clear t0 t1 t2 t3 t4 t5;go_wp2;go_ret;exact Cn v.o aV.o
 have d4:=θ (u<0);have d5:=θ (100000<u);have bJ:=@Lh (0<=M.Y/\M.Y<=1048576/\0<=M.C/\M.C<=1099511627776/\0<=M.I/\M.I<=100000) (by rw [I.o];dsimp only;omega);clear t0 t1 t2 t3 t4 t5;go_upto_region 4 with fail;obtain ⟨W3,bL⟩:=ε (W.alloc (χ #[ι p,ι q,ι o,ι a,ι l] 49));have bM:=bl1 bL;have R3:=Lh (ce11 bL);obtain ⟨C,cD⟩:=ε (W:Nat);rw [<-bL,<- cD];rw [<-cD] at R3;obtain ⟨cR,E,C3,M3⟩:=Λ4 bL (aV.o.th bM) (b0.o.kp bM) (b1.o.kp bM);have cK:=Lh (HC.o.below (bM.mono cM));have cL:B<=W3:=Nt hB E.o.size;clear bL cD bM k0 d0 d1 d2 d3 d4 d5;have H:=Γ5 R3.o;have G:=M3.o 0 _ rfl;by_cases Q:p=4\/p=5
 .have aW:=@Lh (Ax c M↔y=[]/\DT ⟨p,q,o,a,l⟩=ϑ) (by have:=TD (c:=c) (m:=M) hs bJ.o (by rw [I.o];exact Q);rw [this,I.o])
  have aZ:∀ x:Bool,(y=[]/\DT ⟨p,q,o,a,l⟩=ϑ↔x=ϑ)->(Ax c M↔x=ϑ):=λx h=>aW.o.trans h;have aY:=Lh aZ;clear aZ;have bK:(p == 4)=ϑ\/((p == 4)=ϝ/\(p == 5)=ϑ):=by
   rcases Q with rfl|rfl
   .exact .inl rfl
   .exact .inr ⟨rfl,rfl⟩
  by_cases bG:n=0;rotate_left
  .have v:=@Lh (¬Ax c M) (λh=>bG (by rw [HN.o,(aW.o.1 h).1];rfl))
   have d:=τ (n:Int) 0;clear bG;rcases Q with rfl|rfl;all_goals
    clear bK;go_wp2;go_ret;exact Cn v.o E.o
  by_cases aX:q=0;rotate_left
  .have v:Hid (¬Ax c M):=Lh (λh=>by
    have h2:=(aW.o.1 h).2;unfold DT at h2;dsimp only at h2;rcases Q with rfl|rfl<;>simp at h2<;>omega)
   have d:=ρ (n:Int) 0;have d2:=τ q 0 aX;clear bG aX;rcases Q with rfl|rfl;all_goals
    clear bK;go_wp2;go_ret;exact Cn v.o E.o
  by_cases bF:o=0;rotate_left
  .have v:Hid (¬Ax c M):=Lh (λh=>by
    have h2:=(aW.o.1 h).2;unfold DT at h2;dsimp only at h2;rcases Q with rfl|rfl<;>simp at h2<;>omega)
   have d:=ρ (n:Int) 0;have d2:(q != 0)=ϝ:=by simp [aX]
   have d3:=τ o 0 bF;clear bG aX bF;rcases Q with rfl|rfl;all_goals
    clear bK;go_wp2;go_ret;exact Cn v.o E.o
  have d:=ρ (n:Int) 0;have d2:(q != 0)=ϝ:=by simp [aX]
  have d3:(o != 0)=ϝ:=by simp [bF]
  have bT:y=[]:=List.eq_nil_of_length_eq_zero (by rw [<-HN.o];exact bG);rcases Q with rfl|rfl
  .have HQ:Hid (∀ x:Bool,(Af a && (l == 0))=x->(Ax c M↔x=ϑ)):=Lh (λx hx=>aY.o x (by
    unfold DT;dsimp only;rw [if_pos rfl,aX,bF,<- hx];simp [bT]))
   clear bK bG aX bF bT;go_wp2_with fail;refine (Ba a _).mono ?_;rintro e w' ⟨rfl,rfl⟩;cases hv:Af a with
   | false=>have bD:=Lh (HQ.o ϝ (by rw [hv];rfl));clear hv;go_wp2;go_ret;exact G9 bD.o E.o
   | true=>have bD:=Lh (HQ.o (l == 0) (by rw [hv];rfl));clear hv;go_wp2;go_ret;exact G9 bD.o E.o
  .have HQ:Hid (∀ x:Bool,((a == 0) && FN l)=x->(Ax c M↔x=ϑ)):=Lh (λx hx=>aY.o x (by
    unfold DT;dsimp only;rw [if_neg ω,if_pos rfl,aX,bF,<- hx];simp [bT,and_comm]))
   clear bK bG aX bF bT;by_cases hv:a=0
   .have bD:=Lh (HQ.o (FN l) (by rw [hv];rfl))
    have d4:=ζ a 0 hv;clear hv;go_wp2_with fail;refine (QV l _).mono ?_;rintro e w' ⟨rfl,rfl⟩;go_wp2;go_ret;exact G9 bD.o E.o
   .have d4:=ξ a 0 hv
    have bD:=Lh (HQ.o ϝ (by rw [d4];rfl));clear hv;go_wp2;go_ret;exact G9 bD.o E.o
 .have cB:¬p=4:=λe=>Q (.inl e)
  have cC:¬p=5:=λe=>Q (.inr e);have F:=ξ p 4 cB;have e5:=ξ p 5 cC;have aE:=@Lh (Ax c M↔(1<=y.length/\y.length<=200)/\∀ k f,y[k]?=ς f->BU c y ⟨p,q,o,a,l⟩ k f) (by have:=TF (c:=c) (m:=M) hs bJ.o (by rw [I.o];exact cB) (by rw [I.o];exact cC);rw [this,I.o]);clear Q cB cC;by_cases cI:n<1
  .have v:=@Lh (¬Ax c M) (λh=>by have:=(aE.o.1 h).1;have:=HN.o;omega)
   have d:=η ((n:Int)<1);clear cI;go_wp2;go_ret;exact Cn v.o E.o
  by_cases cO:200<n
  .have v:=@Lh (¬Ax c M) (λh=>by have:=(aE.o.1 h).1;have:=HN.o;omega)
   have d:=θ ((n:Int)<1);have d2:=η (200<(n:Int));clear cI cO;go_wp2;go_ret;exact Cn v.o E.o
  have d:=θ ((n:Int)<1);have d2:=θ (200<(n:Int));go_wp2_with fail;clear d d2 H G F e5;go_loopw [7] (λi wr=>∃ k:Nat,k<=n/\i=ι k/\Hid ((∀ j,j<k->∀ f,y[j]?=ς f->BU c y ⟨p,q,o,a,l⟩ j f)/\ϐ W3 W3 wr)) (λi _=>n - (intOf i).toNat)
  case atStart=>exact ⟨0,Nat.zero_le _,rfl,Lh ⟨λj hj=>by omega,Below.refl _ _⟩⟩
  case round=>
   obtain ⟨k,Q,rfl,cE⟩:=hrel;have bA:=Lh cE.o.1;have D:=Lh cE.o.2;clear cE;by_cases cW:k<n;rotate_left
   .obtain rfl:k=n:=ω
    have cF:=@Lh (Ax c M) (aE.o.2 ⟨by have:=HN.o;omega,λj f hj=>bA.o j (by have:=(Ll hj);have:=HN.o;omega) f hj⟩);have bC:=Lh (E.o.th D.o);go_wp2;go_ret;exact G9 (b:=ϑ) ⟨λ_=>rfl,λ_=>cF.o⟩ bC.o
   obtain ⟨f,hf⟩:∃ f,y[k]?=ς f:=⟨_,Lg (by have:=HN.o;omega)⟩
   have bI:=Lh hf;have bY:ϐ B w wr:=(E.o.th D.o).mono hB;have aU:B<=wr.drew.heap.size:=Nt hB bY.size;obtain ⟨z,A,rfl,cX,N,O,⟨lv,P,bV⟩,⟨sv,F,bW⟩,bS⟩:=(HM.o.fras bY).elem hf;obtain ⟨la,lc,rfl,-⟩:=bV.frm;obtain ⟨sa,sc,rfl,-⟩:=bW.frm;have bQ:=@Lh (AE B wr.drew 1 Aj (σ la f.L lc) f.L) (bV.ints (AG Br 1));have bR:=@Lh (AE B wr.drew 1 Aj (σ sa f.S sc) f.S) (bW.ints (AG Br 1));have bP:=@Lh (BF B wr.drew (.agg (Bc fa fc ga gc c)) c) (cK.o.below ((D.o.mono cL).trans (AG Br 1)));have J:=C3.o.kp D.o 0 _ rfl;have K:=C3.o.kp D.o 1 _ rfl;have L:=C3.o.kp D.o 2 _ rfl;have G:=M3.o.kp D.o 0 _ rfl;have H:=R3.o.kp D.o 0 _ rfl;have R:=R3.o.kp D.o 1 _ rfl;have S:=R3.o.kp D.o 2 _ rfl;have T:=R3.o.kp D.o 3 _ rfl;have U:=R3.o.kp D.o 4 _ rfl;have cS:=In k;have cT:(k:Int)<(n:Int):=ω;by_cases cV:k+1<n
   .obtain ⟨g,hg⟩:∃ g,y[k+1]?=ς g:=⟨_,Lg (by have:=HN.o;omega)⟩
    obtain ⟨cP,cQ,cJ,-,u1,-⟩:=(HM.o.fras bY).elem hg;obtain ⟨rfl,rfl⟩:z=cP/\A=cQ:=by simpa using cJ
    have dk:=η ((k:Int)<(n:Int) - 1);have cU:(k:Int)+1<(n:Int):=ω;have HG:=Lh hg;clear hf hg bV bW cJ;by_cases bU:g.fn<0
    .have v:=@Lh (¬Ax c M) (λh=>P5 hs HG.o bU ((aE.o.1 h).2 k f bI.o))
     have dg:=η (g.fn<0) bU;have bC:=Lh (E.o.th D.o);clear bU;go_wp2;go_ret;exact Cn v.o bC.o
    have dg:=θ (g.fn<0);have bH:=@Lh (BU c y ⟨p,q,o,a,l⟩ k f↔Dd c f ⟨p,q,o,a,l⟩ g.fn) (Pz HG.o ω);clear bU;by_cases hF:Dd c f ⟨p,q,o,a,l⟩ (g.fn)
    .have bE:pB (Dd c f ⟨p,q,o,a,l⟩ (g.fn))=ϑ:=CP hF
     have bX:=@Lh (BU c y ⟨p,q,o,a,l⟩ k f) (bH.o.2 hF);clear hF;go_upto_region 21 with fail;go_region_held3 (λV=>V.cell? (π w 0)=ς (σ fa c.H fc)/\V.cell? (π w 1)=ς (ι c.G)/\V.cell? (π w 2)=ς (σ ga c.funcs gc)/\V.cell? (π (w+1) 0)=ς (σ (ς (π z A)) n mc)/\V.cell? (π z (A+k*4))=ς (ι f.fn)/\V.cell? (π z (A+k*4+1))=ς (ι f.pc)/\V.cell? (π z (A+k*4+2))=ς (σ la f.L lc)/\V.cell? (π z (A+k*4+3))=ς (σ sa f.S sc)/\V.cell? (π C 0)=ς (ι p)/\V.cell? (π C 1)=ς (ι q)/\V.cell? (π C 2)=ς (ι o)/\V.cell? (π C 3)=ς (ι a)/\V.cell? (π C 4)=ς (ι l))
      (first|with_reducible exact ⟨X,Y,Z,aO,aK,aL,aM,aN,aP,aQ,aR,aS,aT⟩|exact ⟨J,K,L,G,N,O,P,F,H,R,S,T,U⟩)
      (first|(go_at_call 132;refine (Hp hs cY f (g.fn) p q o a l la sa lc sc fa ga fc gc B wr.drew aU bP.o bQ.o bR.o bS.2).mono ?_;rintro e w5 ⟨rfl,s⟩;rw [bE];have X:=keepD s J;have Y:=keepD s K;have Z:=keepD s L;have aO:=keepD s G;have aK:=keepD s N;have aL:=keepD s O;have aM:=keepD s P;have aN:=keepD s F;have aP:=keepD s H;have aQ:=keepD s R;have aR:=keepD s S;have aS:=keepD s T;have aT:=keepD s U;have bB:=Lh (D.o.th ((show ϐ wr wr wr.drew from AG Br 1).th s));clear s))
     have aG:Hid ((∀ j,j<k+1->∀ f,y[j]?=ς f->BU c y ⟨p,q,o,a,l⟩ j f)/\ϐ W3 W3 w5):=Lh ⟨λj hj g' bN=>by
      by_cases cA:j<k
      .exact bA.o j cA g' bN
      .obtain rfl:j=k:=ω
       have:=bI.o;rw [bN] at this;cases this;exact bX.o,bB.o⟩
     clear J K L G N O P F H R S T U X Y Z aO aK aL aM aN aP aQ aR aS aT;go_wp2;go_roundw
     case rel=>exact ⟨k+1,ω,by go_num,aG⟩
     case measure=>simp [intOf];omega
    .have bE:pB (Dd c f ⟨p,q,o,a,l⟩ (g.fn))=ϝ:=Bw hF
     have v:=@Lh (¬Ax c M) (λh=>hF (bH.o.1 ((aE.o.1 h).2 k f bI.o)));clear hF;go_upto_region 21 with fail;go_region_held3 (λV=>V.cell? (π w 0)=ς (σ fa c.H fc)/\V.cell? (π w 1)=ς (ι c.G)/\V.cell? (π w 2)=ς (σ ga c.funcs gc)/\V.cell? (π (w+1) 0)=ς (σ (ς (π z A)) n mc)/\V.cell? (π z (A+k*4))=ς (ι f.fn)/\V.cell? (π z (A+k*4+1))=ς (ι f.pc)/\V.cell? (π z (A+k*4+2))=ς (σ la f.L lc)/\V.cell? (π z (A+k*4+3))=ς (σ sa f.S sc)/\V.cell? (π C 0)=ς (ι p)/\V.cell? (π C 1)=ς (ι q)/\V.cell? (π C 2)=ς (ι o)/\V.cell? (π C 3)=ς (ι a)/\V.cell? (π C 4)=ς (ι l))
      (first|with_reducible exact ⟨X,Y,Z,aO,aK,aL,aM,aN,aP,aQ,aR,aS,aT⟩|exact ⟨J,K,L,G,N,O,P,F,H,R,S,T,U⟩)
      (first|(go_at_call 132;refine (Hp hs cY f (g.fn) p q o a l la sa lc sc fa ga fc gc B wr.drew aU bP.o bQ.o bR.o bS.2).mono ?_;rintro e w5 ⟨rfl,s⟩;rw [bE];have X:=keepD s J;have Y:=keepD s K;have Z:=keepD s L;have aO:=keepD s G;have aK:=keepD s N;have aL:=keepD s O;have aM:=keepD s P;have aN:=keepD s F;have aP:=keepD s H;have aQ:=keepD s R;have aR:=keepD s S;have aS:=keepD s T;have aT:=keepD s U;have bB:=Lh (D.o.th ((show ϐ wr wr wr.drew from AG Br 1).th s));clear s))
     clear J K L G N O P F H R S T U X Y Z aO aK aL aM aN aP aQ aR aS aT;have bC:=Lh (E.o.th bB.o);go_wp2;go_ret;exact Cn v.o bC.o
   .have dk:=θ ((k:Int)<(n:Int) - 1)
    have dg:decide ((-1:Int)<0)=ϑ:=δ;have bH:=@Lh (BU c y ⟨p,q,o,a,l⟩ k f↔Dd c f ⟨p,q,o,a,l⟩ (-1)) (OV (by have:=HN.o;omega));clear hf bV bW;by_cases hF:Dd c f ⟨p,q,o,a,l⟩ (-1)
    .have bE:pB (Dd c f ⟨p,q,o,a,l⟩ (-1))=ϑ:=CP hF
     have bX:=@Lh (BU c y ⟨p,q,o,a,l⟩ k f) (bH.o.2 hF);clear hF;go_upto_region 21 with fail;go_region_held3 (λV=>V.cell? (π w 0)=ς (σ fa c.H fc)/\V.cell? (π w 1)=ς (ι c.G)/\V.cell? (π w 2)=ς (σ ga c.funcs gc)/\V.cell? (π (w+1) 0)=ς (σ (ς (π z A)) n mc)/\V.cell? (π z (A+k*4))=ς (ι f.fn)/\V.cell? (π z (A+k*4+1))=ς (ι f.pc)/\V.cell? (π z (A+k*4+2))=ς (σ la f.L lc)/\V.cell? (π z (A+k*4+3))=ς (σ sa f.S sc)/\V.cell? (π C 0)=ς (ι p)/\V.cell? (π C 1)=ς (ι q)/\V.cell? (π C 2)=ς (ι o)/\V.cell? (π C 3)=ς (ι a)/\V.cell? (π C 4)=ς (ι l))
      (first|with_reducible exact ⟨X,Y,Z,aO,aK,aL,aM,aN,aP,aQ,aR,aS,aT⟩|exact ⟨J,K,L,G,N,O,P,F,H,R,S,T,U⟩)
      (first|(go_at_call 132;refine (Hp hs cY f (-1) p q o a l la sa lc sc fa ga fc gc B wr.drew aU bP.o bQ.o bR.o bS.2).mono ?_;rintro e w5 ⟨rfl,s⟩;rw [bE];have X:=keepD s J;have Y:=keepD s K;have Z:=keepD s L;have aO:=keepD s G;have aK:=keepD s N;have aL:=keepD s O;have aM:=keepD s P;have aN:=keepD s F;have aP:=keepD s H;have aQ:=keepD s R;have aR:=keepD s S;have aS:=keepD s T;have aT:=keepD s U;have bB:=Lh (D.o.th ((show ϐ wr wr wr.drew from AG Br 1).th s));clear s))
     have aG:Hid ((∀ j,j<k+1->∀ f,y[j]?=ς f->BU c y ⟨p,q,o,a,l⟩ j f)/\ϐ W3 W3 w5):=Lh ⟨λj hj g' bN=>by
      by_cases cA:j<k
      .exact bA.o j cA g' bN
      .obtain rfl:j=k:=ω
       have:=bI.o;rw [bN] at this;cases this;exact bX.o,bB.o⟩
     clear J K L G N O P F H R S T U X Y Z aO aK aL aM aN aP aQ aR aS aT;go_wp2;go_roundw
     case rel=>exact ⟨k+1,ω,by go_num,aG⟩
     case measure=>simp [intOf];omega
    .have bE:pB (Dd c f ⟨p,q,o,a,l⟩ (-1))=ϝ:=Bw hF
     have v:=@Lh (¬Ax c M) (λh=>hF (bH.o.1 ((aE.o.1 h).2 k f bI.o)));clear hF;go_upto_region 21 with fail;go_region_held3 (λV=>V.cell? (π w 0)=ς (σ fa c.H fc)/\V.cell? (π w 1)=ς (ι c.G)/\V.cell? (π w 2)=ς (σ ga c.funcs gc)/\V.cell? (π (w+1) 0)=ς (σ (ς (π z A)) n mc)/\V.cell? (π z (A+k*4))=ς (ι f.fn)/\V.cell? (π z (A+k*4+1))=ς (ι f.pc)/\V.cell? (π z (A+k*4+2))=ς (σ la f.L lc)/\V.cell? (π z (A+k*4+3))=ς (σ sa f.S sc)/\V.cell? (π C 0)=ς (ι p)/\V.cell? (π C 1)=ς (ι q)/\V.cell? (π C 2)=ς (ι o)/\V.cell? (π C 3)=ς (ι a)/\V.cell? (π C 4)=ς (ι l))
      (first|with_reducible exact ⟨X,Y,Z,aO,aK,aL,aM,aN,aP,aQ,aR,aS,aT⟩|exact ⟨J,K,L,G,N,O,P,F,H,R,S,T,U⟩)
      (first|(go_at_call 132;refine (Hp hs cY f (-1) p q o a l la sa lc sc fa ga fc gc B wr.drew aU bP.o bQ.o bR.o bS.2).mono ?_;rintro e w5 ⟨rfl,s⟩;rw [bE];have X:=keepD s J;have Y:=keepD s K;have Z:=keepD s L;have aO:=keepD s G;have aK:=keepD s N;have aL:=keepD s O;have aM:=keepD s P;have aN:=keepD s F;have aP:=keepD s H;have aQ:=keepD s R;have aR:=keepD s S;have aS:=keepD s T;have aT:=keepD s U;have bB:=Lh (D.o.th ((show ϐ wr wr wr.drew from AG Br 1).th s));clear s))
     clear J K L G N O P F H R S T U X Y Z aO aK aL aM aN aP aQ aR aS aT;have bC:=Lh (E.o.th bB.o);go_wp2;go_ret;exact Cn v.o bC.o
