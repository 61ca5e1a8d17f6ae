import Derived.Test.YtiejafonjemioaaGreatDoorTh6
import Derived.Test.YtiejafonjemioaaGreatDoorRva
set_option maxHeartbeats 8000000
set_option maxRecDepth 100000
set_option linter.all false
open Go.RowKit renaming Below→ϐ
open Option renaming some→ς
open Bool renaming false→ϝ,true→ϑ
open And renaming intro→ϟ
open Go.Value renaming slice→σ
open Go.Obj renaming cells→χ
namespace Go.Proofs.YtiejafonjemioaaGreatDoor
open Go.RowKit Proofs.Tryz
def Xj (c:AQ) (m:Mm) (w:World) (e:Ending) (w':World):Prop:=e=.returned (.bool (Bb c m))/\ϐ w w w'
def Ff {c:AQ} {m:Mm} {w w':World} {b:Bool} (h:Bb c m=b) (a:ϐ w w w'):Xj c m w (.returned (.bool b)) w':=⟨by rw [h],a⟩
def Hi {c:AQ} {m:Mm} {k:Nat} {x:Gl} (a:m.N[k]?=ς x) (h:BS c x=ϑ):Bb c m=ϝ:=by
 have:m.N.any (BS c)=ϑ:=List.any_eq_true.2 ⟨x,Lm a,h⟩;unfold Bb;rw [this];simp
def Rl (c:AQ) (cv:Value) (m:Mm) (mv:Value) (B:Nat) (w:World) (N:B<=w) (hc:BF B w cv c) (hm:Lw B w mv m) :
  Calls prog 53 #[cv,mv] w (Xj c m w):=by
 obtain ⟨cf,cg,rfl,J,aZ,bI⟩:=hc;obtain ⟨fa,fc,rfl,bH⟩:=J.frm;obtain ⟨ga,gc,rfl,-⟩:=aZ.frm;obtain ⟨gv,nv,rfl,O,Q⟩:=hm;obtain ⟨va,vc,rfl,bJ⟩:=O.frm;obtain ⟨na,nc,rfl,bL⟩:=Q.frm;obtain ⟨p,X⟩:=ε c.H.length;obtain ⟨L,Z⟩:=ε m.G.length;obtain ⟨f,aT⟩:=ε m.N.length;rw [<-X] at J bH ⊢;rw [<-Z] at O bJ ⊢;rw [<-aT] at Q bL ⊢;obtain ⟨bC,HG,HN,aH,aV,H⟩:=Λ6 J O Q X Z aT;obtain ⟨W,F⟩:=ε ((w.alloc (χ #[σ fa p fc,ι c.G,σ ga c.funcs gc] 25)).alloc (χ #[σ va L vc,σ na f nc] 28));have r:=Lh (bl2 F);have B0:=Lh (ce21 F);have B1:=Lh (ce22 F);have S:=Γ2 B0.o;have m0:=Γ2 B1.o;clear J O Q X Z aT aZ;go_enter func53,ntmps53;go_upto_region 1 with fail;rw [<-F];clear F;by_cases M:(L:Int)=c.G;rotate_left
 .have d1:=τ (L:Int) c.G
  have a:=@Lh (Bb c m=ϝ) (by unfold Bb;rw [<-aV.o,decide_eq_false M];rfl);clear M;go_wp2;go_ret;exact Ff a.o r.o
 have d1:=ρ (L:Int) c.G;have H1:=Lh M;clear M;go_wp2_with fail;refine (Db m.G _ B W (HG.o.ints (r.o.mono N))).mono ?_;rintro e w' ⟨rfl,rfl⟩;cases R:Ce m.G with
 | false=>
  have a:=@Lh (Bb c m=ϝ) (by
   unfold Bb Ce at *
   rw [R];simp)
  clear R;go_wp2;go_ret;exact Ff a.o r.o
 | true=>
 have HV:=Lh R;clear R;by_cases h2:(f:Int)<=4096;rotate_left
 .have d2:=η ((4096:Int)<(f:Int))
  have a:=@Lh (Bb c m=ϝ) (by
   unfold Bb;rw [<-H.o,decide_eq_false (show ¬f<=4096 by omega)];simp)
  clear h2;go_wp2;go_ret;exact Ff a.o r.o
 have d2:=θ ((4096:Int)<(f:Int));have H2:=@Lh (f<=4096) ω;have aQ:Hid ((∀ x∈m.N,BS c x=ϝ)->Bb c m=ϑ):=Lh (λh=>by
  have h3:m.N.any (BS c)=ϝ:=List.any_eq_false.2 (λx s=>by rw [h x s];simp);have h4:=HV.o;unfold Ce at h4;unfold Bb;rw [h3,h4,<- aV.o,<- H.o,decide_eq_true H1.o,decide_eq_true H2.o];rfl)
 clear h2;go_wp2_with fail;clear S m0;go_loopw [5] (λi wr=>∃ k:Nat,k<=f/\i=ι k/\Hid ((∀ (j:Nat) x,j<k->m.N[j]?=ς x->BS c x=ϝ)/\ϐ W W wr)) (λi _=>f - (intOf i).toNat)
 case atStart=>exact ⟨0,Nat.zero_le _,rfl,Lh ⟨λj x hj=>by omega,Below.refl _ _⟩⟩
 case round=>
  obtain ⟨k,hk,rfl,aU⟩:=hrel;have aG:=Lh aU.o.1;have v:=Lh aU.o.2;clear aU;have S:=B0.o.kp v.o 0 _ rfl;have m1:=B1.o.kp v.o 1 _ rfl;by_cases bP:k<f;rotate_left
  .have HY:=Lh (aQ.o (λx s=>by
    obtain ⟨j,hj,rfl⟩:=List.getElem_of_mem s;exact aG.o j _ (by have:=H.o;omega) (Lg hj)))
   have u:=Lh (r.o.th v.o);go_wp2;go_ret;exact Ff HY.o u.o
  obtain ⟨x,s⟩:∃ x,m.N[k]?=ς x:=⟨_,Lg (by have:=H.o;omega)⟩
  have D:=(r.o.th v.o).mono N;obtain ⟨b,o,la,lc,rfl,bM,k1,k2,P⟩:=HN.o.nodElem D s;have bN:=In k;have bO:(k:Int)<(f:Int):=ω;have C:=Lh s;obtain ⟨A,l⟩:=x;dsimp only at k1 k2 P;obtain ⟨E,K⟩:=ε l.length;rw [<-K] at k2 P;have bD:=Lh K;obtain ⟨W6,I⟩:=ε (wr.alloc (χ #[ι A,σ la E lc] 74));have z:=bl1 I;have C6:=Lh (ce11 I);have aW:=Lh (P.ints (z.mono (Nt N D.size)));have bB:=Lh (v.o.th z);have u:=Lh (r.o.th (v.o.th z));have n0:=Γ2 C6.o;have j0:=AB z S;have aO:=Lh (bC.o.ints (D.trans (z.mono (Nt N D.size))));go_upto_region 7 with fail;rw [<-K,<- I];clear I P s K z D S m1 k1 k2;by_cases G:A<0
  .have e0:=η (A<0) G
   have a:=@Lh (Bb c m=ϝ) (Hi C.o (by unfold BS;rw [if_pos G]));clear G;go_quiet (fail);go_wp2;go_ret;exact Ff a.o (AG u.o _)
  have e0:=θ (A<0);obtain ⟨g,rfl⟩:∃ t:Nat,A=t:=⟨A.toNat,ω⟩
  have aX:=Lh G;clear G;by_cases t1:p<=g
  .have e1:=η ((p:Int)<=(g:Int))
   have bG:=η (p<=g);have a:=Lh (Hi C.o (by
    unfold BS;dsimp only;rw [if_neg aX.o,Int.toNat_natCast,List.getElem?_eq_none (by rw [<-aH.o];exact t1)]))
   clear t1;go_quiet (fail);go_wp2;go_ret;exact Ff a.o (AG u.o _)
  have e1:=θ ((p:Int)<=(g:Int));have bG:=θ (p<=g);obtain ⟨T,aS⟩:∃ q,c.H[g]?=ς q:=⟨_,Lg (by have:=aH.o;omega)⟩
  obtain ⟨fb,fo,rfl,-,bA⟩:=aO.o.elem aS;have bF:=bA.1;rw [Nat.mul_one] at bF;have bQ:=In g;have bR:(g:Int)<(p:Int):=ω;have Y:=@Lh (BS c ⟨(g:Int),l⟩=if (E:Int)≠T then ϑ else l.any (λn=>!Af n)) (by
   unfold BS;dsimp only;rw [if_neg aX.o,Int.toNat_natCast,aS,<- bD.o])
  clear t1 aS bA;by_cases U:(E:Int)=T;rotate_left
  .have e2:=τ (E:Int) T
   have a:=Lh (Hi C.o (by rw [Y.o,if_pos U]));clear U;go_quiet (fail);go_wp2;go_ret;exact Ff a.o (AG u.o _)
  have e2:=ρ (E:Int) T;have aY:=Lh U;clear U;cases d:Ce l with
  | false=>
   have a:=Lh (Hi C.o (by
    unfold Ce at d;rw [Y.o,if_neg (by simpa using aY.o)];cases h:l.any (λn=>!Af n) with
    | true=>rfl
    | false=>rw [h] at d;simp at d))
   have V:=Lh d;clear d;go_quiet ((go_at_call 94;exact Calls.quiet_of_same ((Db l _ B _ (aW.o.ints (AG Br _))).mono (λe w' h=>⟨by rw [h.1,V.o],h.2.symm⟩))));go_wp2;go_ret;exact Ff a.o (AG u.o _)
  | true=>
   have bE:Hid (∀ (j:Nat) y,j<k+1->m.N[j]?=ς y->BS c y=ϝ):=Lh (λj y hj hy=>by
    by_cases bK:j=k
    .subst bK
     have:=C.o.symm.trans hy;cases this;unfold Ce at d;rw [Y.o,if_neg (by simpa using aY.o)];cases h:l.any (λn=>!Af n) with
     | true=>rw [h] at d;simp at d
     | false=>rfl
    .exact aG.o j y ω hy)
   have V:=Lh d;clear d;go_quiet ((go_at_call 94;exact Calls.quiet_of_same ((Db l _ B _ (aW.o.ints (AG Br _))).mono (λe w' h=>⟨by rw [h.1,V.o],h.2.symm⟩))));have aJ:=@Lh (∀ n,(∀ (j:Nat) y,j<k+1->m.N[j]?=ς y->BS c y=ϝ)/\ϐ W W (W6.drewN n)) (λn=>⟨bE.o,AG bB.o n⟩);go_wp2;go_roundw
   case rel=>exact ⟨k+1,ω,by go_num,Lh (aJ.o _)⟩
   case measure=>simp [intOf];omega
def PA {c:AQ} (M:AU c) (N:Bv c) (cv:Value) (s:A3) (sv:Value) (t:Nat) (m:AV) (n:Int) (l:List Bi) (r:List CD) (b e:List Int) (B:Nat) (w:World) (hB:B<=w) (hc:BF B w cv c) (hs:CJ B w sv s)
  (hm:s.R[t]?=ς m) (E:s.N[t]?=ς n) (hl:s.A[t]?=ς l) (hr:s.results[t]?=ς r) (I:s.Z[t]?=ς b) (he:s.P[t]?=ς e) :
  Calls prog 64 #[cv,sv,ι t] w λz w'=>z=.returned (.bool (pB (Ej c s m n l r b e)))/\ϐ w w w':=by
 obtain ⟨fa,fc,qa,qc,ga,gc,ma,mc,rb,ro,rc,nb,no,nc,cb,co,cc,ob,oo,oc,bb,bo,bc,eb,eo,ec,ua,uc,la,lc,pa,pc,bZ,cA,cB,cC,W,L,rfl,rfl,hW,A,H0,f,HC,HU,aY,aV,aW,aU,aX,g,i0,i1,i2,i3,i4,i5,i6⟩:=RY hB hc hs hm E hl hr I he;have aZ:=Lh M;have bA:=Lh N;clear hc hs hm E hl hr I he M N;have g0:=f.o _ H0.o;go_enter func64,ntmps64;go_upto_region 1 with fail;rw [<-hW];clear hW;go_wp2_with fail;refine (Ma m _ B _ g.o HU.o).mono ?_;rintro e1 w1 ⟨rfl,aL⟩;have H1:=Lh (H0.o.kp aL);have B1:=Lh aL;clear g0 aL;go_upto_if 16 with fail
 go_cut [7] (λs7 U=>s7=ι (Fw m:Int)/\Hid (DD L U)/\Hid (ϐ W W U)/\Hid (Ez c m n))
 case first=>
  cases G:Cu m with
  | true=>
   have HR:=@Lh (Fw m=0) (by unfold Fw;rw [G];rfl);have v:=Lh G;clear G;have g7:=f.o _ H1.o;by_cases E:n=0
   .subst E
    go_wp2;go_meet
    case rel=>exact ⟨by rw [HR.o];rfl,H1,B1,Lh (.inl ⟨v.o,rfl⟩)⟩
   .have a:Hid (pB (Ej c s m n l r b e)=ϝ):=Lh (Bw (λh=>by
     rcases h.head with ⟨-,h⟩|⟨h,-⟩
     .exact E h
     .rw [v.o] at h;cases h))
    have d:=τ n 0 E;clear E;go_wp2;go_ret;exact ⟨by rw [a.o];rfl,A.o.th B1.o⟩
  | false=>
   have HR:=@Lh (Fw m=1) (by unfold Fw;rw [G];rfl);have v:=Lh G;clear G;go_upto_region 3 with fail
   go_cut [42] (λbY U=>bY=.bool (!pB (Ez c m n))/\Hid (DD L U)/\Hid (ϐ W W U))
   case first=>
    have K:=Lh (AG B1.o 1);have aN:=Lh (H0.o.kp K.o);refine Gq (DD L) [6,14,23] κ κ aN.o ?_;refine softW f ?_;refine E5 (Eq.refl ϑ) rfl ?_;go_simp;go_at_call 99;refine (PZ aZ.o bA.o _ m _ B w1.drew (Nt g.o K.o.size) (HC.o.below (K.o.mono g.o)) (HU.o.fras (K.o.mono g.o))).mono ?_;rintro z T ⟨rfl,u⟩;have H2:=Lh (aN.o.kp u);have B2:=Lh (K.o.th u);refine ⟨H2.o,?_⟩;clear u;cases O:pB (Ax c m) with
    | false=>
     have a:Hid (pB (Ez c m n)=ϝ):=Lh (Bw (λh=>by
      rcases h with ⟨h,-⟩|⟨-,h,-⟩
      .rw [v.o] at h;cases h
      .rw [CP h] at O;cases O))
     clear O;refine softW f ?_;refine Fp ?_;go_wp2;go_meet
     case rel=>exact ⟨by rw [a.o];rfl,H2,B2⟩
    | true=>
     have HV:=Lh (NW.1 O);clear O;refine softW f ?_;refine E5 (Eq.refl ϑ) rfl ?_;go_simp;go_at_call 75;refine (UX m _ B T (HU.o.fras (B2.o.mono g.o))).mono ?_;rintro z w3 ⟨rfl,aM⟩;have H3:=Lh (H2.o.kp aM);have B3:=Lh (B2.o.th aM);refine ⟨H3.o,?_⟩;clear aM;cases ha:Cs m with
     | false=>
      have a:Hid (pB (Ez c m n)=ϝ):=Lh (Bw (λh=>by
       rcases h with ⟨h,-⟩|⟨-,-,h,-⟩
       .rw [v.o] at h;cases h
       .rw [ha] at h;cases h))
      clear ha;refine softW f ?_;refine Fp ?_;go_wp2;go_meet
      case rel=>exact ⟨by rw [a.o];rfl,H3,B3⟩
     | true=>
      have a:=@Lh (pB (Ez c m n)=Hs n 0 1099511627776) (by
       cases I:Hs n 0 1099511627776 with
       | false=>
        refine Bw (λh=>?_);rcases h with ⟨h,-⟩|⟨-,-,-,h1,h2⟩
        .rw [v.o] at h;cases h
        .simp [Hs,h1,h2] at I
       | true=>
        simp [Hs] at I;exact CP (.inr ⟨v.o,HV.o,ha,I⟩))
      clear ha;refine softW f ?_;refine E5 (Eq.refl ϑ) rfl ?_;go_simp;go_at_call 54;refine (FY n 0 1099511627776 w3).mono ?_;rintro z w4 ⟨rfl,rfl⟩;refine ⟨H3.o,?_⟩;cases aQ:Hs n 0 1099511627776;all_goals
       rw [aQ] at a;clear aQ;refine softW f ?_;refine Fp ?_;go_wp2;go_meet
       case rel=>exact ⟨by rw [a.o];rfl,H3,B3⟩
   case rest=>
    obtain ⟨rfl,H4,B4⟩:=hcut;cases F:pB (Ez c m n) with
    | false=>have a:=@Lh (pB (Ej c s m n l r b e)=ϝ) (Bw (λh=>by rw [CP h.head] at F;cases F));clear F;go_wp2;go_ret;exact ⟨by rw [a.o];rfl,A.o.th B4.o⟩
    | true=>
     have HH:=Lh (NW.1 F);clear F;go_wp2;go_meet
     case rel=>exact ⟨by rw [HR.o];rfl,H4,B4,HH⟩
 case rest=>
  obtain ⟨rfl,H8,Z,HH⟩:=hcut;have aO:=@Lh (Fw m<=1) (by unfold Fw;split<;>omega);obtain ⟨R,hR⟩:=ε (Fw m);rw [<-hR] at aO ⊢;have cD:=aO.o;have aI:=Lh hR;have H:=f.o _ H8.o;clear hR;have bU:=aY.o;have bT:=aV.o;have bV:IntKind.i64.wrap ((r:Int)+(R:Int))=(r:Int)+(R:Int):=by rw [IntKind.wrap_i64];omega
  have bW:IntKind.i64.wrap ((l:Int)+(r:Int))=(l:Int)+(r:Int):=by rw [IntKind.wrap_i64];omega
  have bX:IntKind.i64.wrap ((l:Int)+(r:Int)+(R:Int))=(l:Int)+(r:Int)+(R:Int):=by rw [IntKind.wrap_i64];omega
  by_cases q3:2000<l.length+r.length+R
  .have a:=@Lh (pB (Ej c s m n l r b e)=ϝ) (Bw (λh=>by have:=h.ops;rw [<-aI.o] at this;omega))
   have d5:=η ((2000:Int)<(l:Int)+(r:Int)+(R:Int));clear q3;go_wp2;go_ret;exact ⟨by rw [a.o];rfl,A.o.th Z.o⟩
  have d5:=θ ((2000:Int)<(l:Int)+(r:Int)+(R:Int));have Q3:=Lh q3;clear q3;by_cases Q:e.length=r.length;rotate_left
  .have a:=@Lh (pB (Ej c s m n l r b e)=ϝ) (Bw (λh=>Q h.P))
   have d1:=τ (e:Int) (r:Int);clear Q;go_wp2;go_ret;exact ⟨by rw [a.o];rfl,A.o.th Z.o⟩
  have d1:((e:Int) != (r:Int))=ϝ:=by rw [Q];simp
  have Q1:=Lh Q;clear Q;by_cases S:b.length=r.length+R;rotate_left
  .have a:=@Lh (pB (Ej c s m n l r b e)=ϝ) (Bw (λh=>S (by rw [aI.o];exact h.Z)))
   have d3:=τ (b:Int) ((r:Int)+(R:Int));clear S;go_wp2;go_ret;exact ⟨by rw [a.o];rfl,A.o.th Z.o⟩
  have d3:((b:Int) != (r:Int)+(R:Int))=ϝ:=by rw [S];simp
  have Q2:=Lh S;clear S;go_wp2_with fail;clear H bV bW bX d1 d3 d5 i1 i2 i4;go_loopw [9] (λi wr=>∃ k:Nat,k<=l.length/\i=ι k/\Hid (DD L wr)/\Hid (ϐ W W wr)/\Hid (∀ (j:Nat) x,j<k->l[j]?=ς x->AS c x 0=0)) (λi _=>l.length - (intOf i).toNat)
  case atStart=>exact ⟨0,Nat.zero_le _,rfl,H8,Z,Lh (λj x h=>by omega)⟩
  case round=>
   obtain ⟨k,hk,rfl,H9,B9,HA⟩:=hrel;have H:=f.o _ H9.o;by_cases bS:k<l.length
   .obtain ⟨x,P⟩:∃ x,l[k]?=ς x:=⟨_,Lg bS⟩
    obtain ⟨o,q,rfl,aR,aS⟩:=aW.o.nth P;obtain ⟨x0,⟨xv,x1,xs⟩,xz⟩:=aS.below (B9.o.mono g.o) aR;obtain ⟨X,Y,rfl⟩:=xs.fm;have C:=@Lh (ϐ W W wr.drew) (AG B9.o 1);have HX:Hid (Gh B wr.drew (.agg #[.string x.proc,σ X x.args Y]) x):=Lh ⟨_,rfl,xs.ints (AG Br 1),xz⟩;have HE:=Lh P;have j0:=In k;have j1:(k:Int)<(l:Int):=ω;have J:=@Lh (DD (((π o (q+k*2)),.string x.proc)::((π o (q+k*2+1)),σ X x.args Y)::L) wr.drew) (.cons (AB (AG Br 1) x0) (.cons (AB (AG Br 1) x1) (H9.o.kp (AG Br 1))));have HT:Hid (∀ V,DD (((π o (q+k*2)),.string x.proc)::((π o (q+k*2+1)),σ X x.args Y)::L) V->V.cell? (π w 0)=ς (σ fa c.H fc)/\V.cell? (π w 1)=ς (ι c.G)/\V.cell? (π w 2)=ς (σ qa c.funcs qc)/\V.cell? (π (w+1) 5)=ς (σ (ς (π cb co)) s.A cc)/\V.cell? (π cb (co+t))=ς (σ (ς (π o q)) l lc)/\V.cell? (π o (q+k*2))=ς (.string x.proc)/\V.cell? (π o (q+k*2+1))=ς (σ X x.args Y)):=Lh (λV h=>by
     obtain ⟨g0,g1,g2,-,-,-,-,-,H,-,-,-,-,-,-,-,-,-,-,-,-,-,-,aD,-⟩:=f.o V (λj p F=>h (j+2) p (by simpa using F));exact ⟨g0,g1,g2,H,aD,h.get 0 rfl,h.get 1 rfl⟩)
    clear x0 x1 xs xz aS aR P;go_upto_region 14 with fail;clear H;refine Gq (DD (((π o (q+k*2)),.string x.proc)::((π o (q+k*2+1)),σ X x.args Y)::L)) [9] κ κ J.o ?_;refine softW HT ?_;refine E5 (Eq.refl ϑ) rfl ?_;go_simp;go_at_call 55;refine (PS c _ x _ 0 B wr.drew (Nt g.o C.o.size) (HC.o.below (C.o.mono g.o)) HX.o).mono ?_;rintro z T ⟨rfl,u⟩;have bB:=Lh (J.o.kp u);have aJ:=Lh ((H9.o.kp (AG Br 1)).kp u);have aH:=Lh (C.o.th u);refine ⟨bB.o,?_⟩;clear u;by_cases D:AS c x 0=0
    .have d:(AS c x 0 != 0)=ϝ:=by rw [D];rfl
     have aT:Hid (∀ (j:Nat) y,j<k+1->l[j]?=ς y->AS c y 0=0):=Lh (λj y hj hy=>by
      by_cases bR:j=k
      .subst bR;rw [HE.o] at hy;cases hy;exact D
      .exact HA.o j y ω hy)
     rw [D];clear D;refine softW HT ?_;refine Fp ?_;go_wp2;go_roundw
     case rel=>exact ⟨k+1,ω,by go_num,aJ,aH,aT⟩
     case measure=>simp [intOf];omega
    .have d:=τ (AS c x 0) 0 D
     have a:Hid (pB (Ej c s m n l r b e)=ϝ):=Lh (Bw (λh=>D (by
      have:=List.any_eq_false.1 h.right x (Lm HE.o);simpa using this)))
     clear D;refine softW HT ?_;refine Fp ?_;go_wp2;go_ret;exact ⟨by rw [a.o];rfl,A.o.th aH.o⟩
   have a:=@Lh (pB (Ej c s m n l r b e)=BA b e (-1) s.U) (by
    have aK:l.any (λx=>!(AS c x 0 == 0))=ϝ:=List.any_eq_false.2 (λx P=>by
     obtain ⟨j,hj,rfl⟩:=List.getElem_of_mem P;simpa using HA.o j _ ω (Lg hj))
    cases ht:BA b e (-1) s.U with
    | false=>exact Bw (λh=>by rw [h.timed] at ht;cases ht)
    | true=>exact CP ⟨HH.o,Q1.o,by rw [<-aI.o];exact Q2.o,by rw [<-aI.o];have:=Q3.o;omega,ht,aK⟩)
   have C:=@Lh (ϐ W W wr.drew) (AG B9.o 1);have J:=@Lh (DD L wr.drew) (H9.o.kp (AG Br 1));go_upto_region 16 with fail;clear H;refine Gq (DD L) [12] κ κ J.o ?_;refine softW f ?_;refine E5 (Eq.refl ϑ) rfl ?_;go_simp;go_at_call 100;refine (Qe b e _ _ s.U B B wr.drew (aU.o.ints (C.o.mono g.o)) (aX.o.ints (C.o.mono g.o))).mono ?_;rintro z T ⟨rfl,nq,hq⟩;have aH:=@Lh (ϐ W W T) (by rw [hq];exact AG C.o nq);have aJ:=@Lh (DD L T) (by rw [hq];exact J.o.kp (AG Br nq));refine ⟨aJ.o,?_⟩;clear hq;refine softW f ?_;refine Fp ?_;go_wp2;go_ret;exact ⟨by rw [a.o];rfl,A.o.th aH.o⟩
def PW (c:AQ) (cv:Value) (s:A3) (sv:Value) (B:Nat) (w:World) (hB:B<=w) (E:Bv c) (hc:BF B w cv c) (hs:CJ B w sv s) :
  Calls prog 21 #[cv,sv] w λz w'=>z=.returned (.bool (pB (Bu c s)))/\ϐ w w w':=by
 obtain ⟨fa,fc,qa,qc,ga,gc,ma,mc,ra,rc,na,nc,ca,cc,oa,oc,ba,bc,ea,ec,W,L,rfl,rfl,hW,g,H0,M,Q,R,q,aQ⟩:=NG hB hc hs;have HM:Hid (Lw B W (.agg (Bm ga gc ma mc s.M)) s.M):=Lh ⟨_,_,rfl,R.o.parts.1,R.o.parts.2.1⟩;have aO:=Lh E;have u:=M.o _ H0.o;clear hc hs E;go_enter func21,ntmps21;go_upto_region 1 with fail;rw [<-hW];clear hW;go_wp2_with fail;refine (PR c _ B W q.o Q.o).mono ?_;rintro X w1 ⟨rfl,T⟩;have H1:=Lh (H0.o.kp T);have v:=Lh T;clear u T;have u:=M.o _ H1.o;cases C:DW c with
 | false=>have a:=@Lh (¬Bu c s) (λh=>by rw [CZ h.sound] at C;cases C);clear C;go_wp2;go_ret;exact BE a.o (g.o.th v.o)
 | true=>
 have aL:=Lh (Ki.1 C);clear C;go_wp2_with fail;refine (Rl c _ s.M _ B w1 (Nt q.o v.o.size) (Q.o.below (v.o.mono q.o)) (HM.o.below (v.o.mono q.o))).mono ?_;rintro Y w2 ⟨rfl,U⟩;have H2:=Lh (H1.o.kp U);have o:=Lh (v.o.th U);clear u U;have u:=M.o _ H2.o;cases A:Bb c s.M with
 | false=>have a:=@Lh (¬Bu c s) (λh=>by rw [h.fits] at A;cases A);clear A;go_wp2;go_ret;exact BE a.o (g.o.th o.o)
 | true=>
 have aN:=Lh A;clear A;go_wp2_with fail;refine (FY s.Y 0 1048576 w2).mono ?_;rintro D w3 ⟨rfl,rfl⟩;cases N:Hs s.Y 0 1048576 with
 | false=>
  have a:Hid (¬Bu c s):=Lh (λh=>by
   have j:=h.Y;simp [Hs,j.1,j.2] at N)
  clear N;go_wp2;go_ret;exact BE a.o (g.o.th o.o)
 | true=>
 have Q0:=Lh (by simpa [Hs] using N);clear N;go_wp2_with fail;refine (FY s.U 0 65536 w2).mono ?_;rintro D w3 ⟨rfl,rfl⟩;cases O:Hs s.U 0 65536 with
 | false=>
  have a:Hid (¬Bu c s):=Lh (λh=>by
   have j:=h.U;simp [Hs,j.1,j.2] at O)
  clear O;go_wp2;go_ret;exact BE a.o (g.o.th o.o)
 | true=>
 have Q1:=Lh (by simpa [Hs] using O);clear O;go_wp2_with fail;refine (FY (s.R:Int) 1 8 w2).mono ?_;rintro D w3 ⟨rfl,rfl⟩;cases P:Hs (s.R:Int) 1 8 with
 | false=>
  have a:Hid (¬Bu c s):=Lh (λh=>by
   have j:=h.one;have Z:=h.eight;simp [Hs] at P;omega)
  clear P;go_wp2;go_ret;exact BE a.o (g.o.th o.o)
 | true=>
 have S:=@Lh (1<=s.R.length/\s.R.length<=8) (by simp [Hs] at P;omega);clear P;by_cases G:s.N.length=s.R.length;rotate_left
 .have a:=@Lh (¬Bu c s) (λh=>G h.N)
  have e0:=τ (s.N:Int) (s.R:Int);clear G;go_wp2;go_ret;exact BE a.o (g.o.th o.o)
 have e0:((s.N:Int) != (s.R:Int))=ϝ:=by rw [G];simp
 have P0:=Lh G;clear G;by_cases H:s.A.length=s.R.length;rotate_left
 .have a:=@Lh (¬Bu c s) (λh=>H h.A)
  have X:=τ (s.A:Int) (s.R:Int);clear H;go_wp2;go_ret;exact BE a.o (g.o.th o.o)
 have X:((s.A:Int) != (s.R:Int))=ϝ:=by rw [H];simp
 have P1:=Lh H;clear H;by_cases I:s.results.length=s.R.length;rotate_left
 .have a:=@Lh (¬Bu c s) (λh=>I h.results)
  have Y:=τ (s.results:Int) (s.R:Int);clear I;go_wp2;go_ret;exact BE a.o (g.o.th o.o)
 have Y:((s.results:Int) != (s.R:Int))=ϝ:=by rw [I];simp
 have P2:=Lh I;clear I;by_cases J:s.Z.length=s.R.length;rotate_left
 .have a:=@Lh (¬Bu c s) (λh=>J h.Z)
  have D:=τ (s.Z:Int) (s.R:Int);clear J;go_wp2;go_ret;exact BE a.o (g.o.th o.o)
 have D:((s.Z:Int) != (s.R:Int))=ϝ:=by rw [J];simp
 have P3:=Lh J;clear J;by_cases K:s.P.length=s.R.length;rotate_left
 .have a:=@Lh (¬Bu c s) (λh=>K h.P)
  have e4:=τ (s.P:Int) (s.R:Int);clear K;go_wp2;go_ret;exact BE a.o (g.o.th o.o)
 have e4:((s.P:Int) != (s.R:Int))=ϝ:=by rw [K];simp
 have P4:=Lh K;clear K;go_wp2_with fail;clear u e0 X Y D e4;go_loopw [6] (λi wr=>∃ k:Nat,k<=s.R.length/\i=ι k/\Hid (DD L wr)/\Hid (ϐ W W wr)/\Hid (∀ (t:Nat) m n l r b e,t<k->s.R[t]?=ς m->s.N[t]?=ς n->s.A[t]?=ς l->s.results[t]?=ς r->s.Z[t]?=ς b->s.P[t]?=ς e->Ej c s m n l r b e)) (λi _=>s.R.length - (intOf i).toNat)
 case atStart=>exact ⟨0,Nat.zero_le _,rfl,H2,o,Lh (λt m n l r b e h=>by omega)⟩
 case round=>
  obtain ⟨k,hk,rfl,HR,y,HA⟩:=hrel;have u:=M.o _ HR.o;by_cases p:k<s.R.length;rotate_left
  .have a:=@Lh (pB (Bu c s)=ϑ) (CP ⟨aL.o,aN.o,Q0.o,Q1.o,S.o.1,S.o.2,P0.o,P1.o,P2.o,P3.o,P4.o,λt m n l r b e j=>HA.o t m n l r b e (by have:=(Ll j);omega) j⟩)
   have d:=θ (k<s.R.length);clear p;go_wp2;go_ret;exact ⟨by rw [a.o];rfl,g.o.th y.o⟩
  obtain ⟨m,hm⟩:∃ x,s.R[k]?=ς x:=⟨_,Lg p⟩
  obtain ⟨n,hn⟩:∃ x,s.N[k]?=ς x:=⟨_,Lg (by rw [P0.o];exact p)⟩
  obtain ⟨l,hl⟩:∃ x,s.A[k]?=ς x:=⟨_,Lg (by rw [P1.o];exact p)⟩
  obtain ⟨r,hr⟩:∃ x,s.results[k]?=ς x:=⟨_,Lg (by rw [P2.o];exact p)⟩
  obtain ⟨b,hb⟩:∃ x,s.Z[k]?=ς x:=⟨_,Lg (by rw [P3.o];exact p)⟩
  obtain ⟨e,he⟩:∃ x,s.P[k]?=ς x:=⟨_,Lg (by rw [P4.o];exact p)⟩
  have f:=Lh (ϟ hm (ϟ hn (ϟ hl (ϟ hr (ϟ hb he)))));have HK:=Lh p;have d:=η (k<s.R.length);have aR:=In k;have aS:IntKind.i64.wrap ((k:Int)+1)=(k:Int)+1:=by rw [IntKind.wrap_i64];have:=S.o;omega
  clear hm hn hl hr hb he;go_wp2_with fail;refine (PA aL.o aO.o _ s _ k m n l r b e B wr (Nt q.o y.o.size) (Q.o.below (y.o.mono q.o)) (R.o.below (y.o.mono q.o)) f.o.1 f.o.2.1 f.o.2.2.1 f.o.2.2.2.1 f.o.2.2.2.2.1 f.o.2.2.2.2.2).mono ?_;rintro z w3 ⟨rfl,V⟩;have H3:=Lh (HR.o.kp V);have B3:=Lh (y.o.th V);clear u V;cases F:pB (Ej c s m n l r b e) with
  | false=>have a:=@Lh (¬Bu c s) (λh=>by rw [CP (h.all k m n l r b e f.o.1 f.o.2.1 f.o.2.2.1 f.o.2.2.2.1 f.o.2.2.2.2.1 f.o.2.2.2.2.2)] at F;cases F);clear F;go_wp2;go_ret;exact BE a.o (g.o.th B3.o)
  | true=>
   have aM:Hid (∀ (t:Nat) m n l r b e,t<k+1->s.R[t]?=ς m->s.N[t]?=ς n->s.A[t]?=ς l->s.results[t]?=ς r->s.Z[t]?=ς b->s.P[t]?=ς e->Ej c s m n l r b e):=Lh (λt m' n' l' r' b' e' h j Z h3 h4 h5 h6=>by
    by_cases aP:t=k
    .subst aP
     obtain ⟨g1,g2,g3,g4,g5,g6⟩:=f.o;obtain rfl:=Option.some.inj (g1.symm.trans j);obtain rfl:=Option.some.inj (g2.symm.trans Z);obtain rfl:=Option.some.inj (g3.symm.trans h3);obtain rfl:=Option.some.inj (g4.symm.trans h4);obtain rfl:=Option.some.inj (g5.symm.trans h5);obtain rfl:=Option.some.inj (g6.symm.trans h6);exact NW.1 F
    .exact HA.o t m' n' l' r' b' e' ω j Z h3 h4 h5 h6)
   clear F;go_wp2;go_roundw
   case rel=>exact ⟨k+1,ω,by go_num,H3,B3,aM⟩
   case measure=>simp [intOf];omega
