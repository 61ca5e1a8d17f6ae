import Derived.Test.YtigbfkiddlhhjaaGreatDoorSqn
set_option maxHeartbeats 4000000
set_option maxRecDepth 1000000
set_option linter.all false
open Option renaming some→ς
open And renaming intro→ϟ
open Go.Value renaming slice→σ
open Go.Obj renaming cells→χ
namespace Go.Proofs.YtigbfkiddlhhjaaGreatDoor
open Go.RowKit Proofs.Tryz
def same_zero (w:World):Calls prog 11 #[.agg #[ν,ν,ν,ι 0,ι 0,ν,ν,ν,ν,ν,ν,ι 0,ι 0],.agg #[ν,ν,ν,ι 0,ι 0,ν,ν,ν,ν,ν,ν,ι 0,ι 0]] w (BoT w):=by
 obtain ⟨W,d⟩:=ε ((w.alloc (χ #[ν,ν,ν,ι 0,ι 0,ν,ν,ν,ν,ν,ν,ι 0,ι 0] 39)).alloc (χ #[ν,ν,ν,ι 0,ι 0,ν,ν,ν,ν,ν,ν,ι 0,ι 0] 39));have n:=Lh (bl2 d);have a:=Lh (row13 (ro21 d));have b:=Lh (row13 (ro22 d));have c:=Below.refl (W:Nat) W;have j:=Δ9 c (a.o 0 _ rfl) (a.o 1 _ rfl) (a.o 2 _ rfl) (a.o 3 _ rfl) (a.o 4 _ rfl) (a.o 5 _ rfl) (a.o 6 _ rfl) (a.o 7 _ rfl) (a.o 8 _ rfl);have k:=Δ9 c (a.o 9 _ rfl) (a.o 10 _ rfl) (a.o 11 _ rfl) (a.o 12 _ rfl) (b.o 0 _ rfl) (b.o 1 _ rfl) (b.o 2 _ rfl) (b.o 3 _ rfl) (b.o 4 _ rfl);have l:=Δ5 c (b.o 5 _ rfl) (b.o 6 _ rfl) (b.o 7 _ rfl) (b.o 8 _ rfl) (b.o 9 _ rfl);have h:=Δ3 c (b.o 10 _ rfl) (b.o 11 _ rfl) (b.o 12 _ rfl);clear c;go_enter func11,ntmps11;go_upto_region 1 with fail;rw [<-d];clear d;go_wp2_with fail;have f:Lw 0 W (.agg #[ν,ν]) ⟨[],[]⟩:=⟨_,_,rfl,⟨none,0,rfl,ψ,ψ,ω,.inl rfl⟩,⟨none,0,rfl,ψ,ψ,ω,.inl rfl⟩⟩
 refine (TH ⟨[],[]⟩ _ _ 0 0 W (Nat.zero_le _) (Nat.zero_le _) f f).mono ?_;rintro e g ⟨rfl,c⟩;clear j k l h;have j:=Δ9 c (a.o 0 _ rfl) (a.o 1 _ rfl) (a.o 2 _ rfl) (a.o 3 _ rfl) (a.o 4 _ rfl) (a.o 5 _ rfl) (a.o 6 _ rfl) (a.o 7 _ rfl) (a.o 8 _ rfl);have k:=Δ9 c (a.o 9 _ rfl) (a.o 10 _ rfl) (a.o 11 _ rfl) (a.o 12 _ rfl) (b.o 0 _ rfl) (b.o 1 _ rfl) (b.o 2 _ rfl) (b.o 3 _ rfl) (b.o 4 _ rfl);have l:=Δ5 c (b.o 5 _ rfl) (b.o 6 _ rfl) (b.o 7 _ rfl) (b.o 8 _ rfl) (b.o 9 _ rfl);have h:=Δ3 c (b.o 10 _ rfl) (b.o 11 _ rfl) (b.o 12 _ rfl);have m:=Lh (n.o.th c);clear c f;go_wp2_with fail;go_loopw [6] (λi wr=>i=ι 0/\g=wr) (λ_ _=>0)
 case atStart=>exact ⟨rfl,rfl⟩
 case round=>
 obtain ⟨rfl,rfl⟩:=hrel;go_wp2_with fail;go_loopw [7] (λi wr=>i=ι 0/\g=wr) (λ_ _=>0)
 case atStart=>exact ⟨rfl,rfl⟩
 case round=>
 obtain ⟨rfl,rfl⟩:=hrel;go_wp2_with fail;go_loopw [8] (λi wr=>i=ι 0/\g=wr) (λ_ _=>0)
 case atStart=>exact ⟨rfl,rfl⟩
 case round=>
 obtain ⟨rfl,rfl⟩:=hrel;go_wp2;go_ret;exact ⟨rfl,m.o⟩
def zero_yes (w:World):Calls prog 13 #[.agg #[ν,ν,ν,ι 0,ι 0,ν,ν,ν,ν,ν,ν,ι 0,ι 0]] w (BoT w):=by
 obtain ⟨W,c⟩:=ε (w.alloc (χ #[ν,ν,ν,ι 0,ι 0,ν,ν,ν,ν,ν,ν,ι 0,ι 0] 39));have f:=Lh (bl1 c);have a:=Lh (row13 (ro11 c));have b:=Below.refl (W:Nat) W;have g:=Δ9 b (a.o 0 _ rfl) (a.o 1 _ rfl) (a.o 2 _ rfl) (a.o 3 _ rfl) (a.o 4 _ rfl) (a.o 5 _ rfl) (a.o 6 _ rfl) (a.o 7 _ rfl) (a.o 8 _ rfl);have h:=Δ4 b (a.o 9 _ rfl) (a.o 10 _ rfl) (a.o 11 _ rfl) (a.o 12 _ rfl);clear b;go_enter func13,ntmps13;go_upto_region 1 with fail;rw [<-c];clear c;go_wp2_with fail;refine (same_zero W).mono ?_;rintro e i ⟨rfl,b⟩;have d:=Lh (f.o.th b);clear b;go_wp2;go_ret;exact ⟨rfl,d.o⟩
def up_calss {B a:Nat} {w w':World} {v:Value} {l:List (List Bi)} (b:B<=a) (c:JT w w') (h:AE B w 1 (Bg 2 (DA B) B) v l):AE a w' 1 (Bg 2 (DA a) a) v l:=AE.ups (E:=λB=>Bg 2 (DA B) B) (Il (E:=DA) Hd) b c h
def fg {c:AQ} {m:Mm} {a:List (List Bi)} {fuel:Int} (h:GO c m a fuel=0):TraI c (ff m fuel a)/\(ff m fuel a).active.length=a.length/\(ff m fuel a).results.length=a.length:=by
 unfold GO at h;by_cases b:DW c=true/\Bb c m=true;rotate_left
 .rw [if_pos b] at h;omega
 rw [if_neg (λk=>k b)] at h;by_cases f:fuel<0\/1048576<fuel
 .rw [if_pos f] at h;omega
 rw [if_neg f] at h;by_cases g:a.length=0
 .rw [if_pos g] at h;omega
 rw [if_neg g] at h;by_cases d:8<a.length\/a.any (λl=>decide (2000<(l:Int)))=true
 .rw [if_pos d] at h;omega
 rw [if_neg d] at h;have o:=Ki.1 b.1;have j:=Ik.1 b.2;have i:0<=fuel/\fuel<=1048576:=ω;have n:=Y5 h;have e:∀ l∈a,l.length<=2000:=λl e=>Nat.le_of_not_lt λp=>d (.inr (List.any_eq_true.2 ⟨l,e,by simp;omega⟩));exact ⟨⟨newS_inv o j i n e,newS_outs _ _ _,by simp [ff];omega,by simp [ff];omega,by simp [ff]⟩,by simp [ff],by simp [ff]⟩
def TraVs.lens {B:Nat} {w:World} {vs:List Value} {s:Tra} (h:TraVs B w vs s):∃ (a:Option Addr) (c:Nat) (d:Option Addr) (e:Nat),vs[5]?=ς (σ a s.active c)/\vs[7]?=ς (σ d s.results e)/\∀ (i:Nat) x,s.active[i]?=ς x->∃ b o,a=ς (π b o)/\w.cell? (π b (o+i*13+9))=ς (ι x.start):=by
 obtain ⟨r,D,F,l,n,E,m,q,p,rfl,z,A,C,f,u,j,t,y,v⟩:=h;obtain ⟨a,c,rfl⟩:=f.form;obtain ⟨d,e,rfl⟩:=j.form;exact ⟨a,c,d,e,rfl,rfl,λi x k=>by
  obtain ⟨b,o,rfl,_,g⟩:=f.nth k;exact ⟨b,o,rfl,g.2.1⟩⟩
def stored_own {c:AQ} {s':Tra} {W wr q X X2:World} {b:Nat} {g h i j k l m n o p a e f:Value} {M N O P Q R U V Y Z v w x:Value} (u:Below wr wr q) (E:OwnV wr q [g,h,i,j,k,l,m,n,o,p,a,e,f] s') (y:X=q.alloc (χ #[g,h,i,j,k,l,m,n,o,p,a,e,f] 39)) (r:Below X X X2) (G:b<wr) (s:TraI c s') (F:Below W W q) (I:(W:Nat)<=b) (H:X2.heap[b]?=ς (χ #[M,N,O,P,Q,R,U,V,Y,Z,v,w,x] 39 (0,0))) :
  Below W W (putsW X2 b 0 [g,h,i,j,k,l,m,n,o,p,a,e,f])/\(putsW X2 b 0 [g,h,i,j,k,l,m,n,o,p,a,e,f]).heap[b]?=ς (χ #[g,h,i,j,k,l,m,n,o,p,a,e,f] 39 (0,0))/\TraVs (putsW X2 b 0 [g,h,i,j,k,l,m,n,o,p,a,e,f]).heap.size (putsW X2 b 0 [g,h,i,j,k,l,m,n,o,p,a,e,f]) [g,h,i,j,k,l,m,n,o,p,a,e,f] s':=by
 obtain ⟨cg,z,A,D⟩:=E;obtain ⟨⟨k1,-,-⟩,J⟩:=SAt.boxed z D y;have C:=z.kp J (okAll_of λt _=>no t);have h6:=u.size;have B:(λd=>if d=(q:Nat) then 1 else cg d:A1) b=14:=by show (if b=(q:Nat) then 1 else cg b)=14;rw [if_neg ω];exact A b G
 have K:=C.kp (AT.ob (T:=NO) (c:=λd=>if d=(q:Nat) then 1 else cg d) r (no 0)) (okAll_of λt _=>no t);have L:=K.kp (puts_chg (S:=λt=>t=14) (b:=b) B ω [g,h,i,j,k,l,m,n,o,p,a,e,f] X2 0) (okAll_of λt ht=>by omega);exact ⟨below_puts I _ _ ((F.th (bl1 y)).th r),puts13_row H g h i j k l m n o p a e f,L.reads (InvS.wf s.inv s.outs s.steps)⟩
def stmAborts_walk (c:AQ) (m:Mm) (q:List (List Bi)) (fuel:Int) (z:List Int) (cv mv lv sv:Value) (w:World) (hL:C8 w) (hc:BF w w cv c) (hm:Lw w w mv m) (hl:AE w w 1 (Bg 2 (DA w) w) lv q) (mF:in64 fuel) (mE:AE w w 1 Aj sv z) :
  Calls prog 4 #[cv,mv,lv,ι fuel,sv] w (BoT w):=by
 obtain ⟨cf,cg,rfl,fA,fB,dA⟩:=id hc;obtain ⟨fa,fc,rfl⟩:=fA.form;obtain ⟨qa,qc,rfl⟩:=fB.form;obtain ⟨mg,mn,rfl,fG,bQ⟩:=id hm;obtain ⟨va,vc,rfl⟩:=fG.form;obtain ⟨na,nc,rfl⟩:=bQ.form;obtain ⟨la,lc,rfl,lN⟩:=hl.fr;obtain ⟨sa,sc,rfl,lV⟩:=mE.fr;obtain ⟨HL,HC,HM,HS,iD,hQ⟩:=Λ6 hL hc hm hl mE mF;obtain ⟨W,hW⟩:=ε ((w.alloc (χ (Bc fa fc qa qc c) 25)).alloc (χ (Bm va vc na nc m) 28));have F:Hid (Below w w W/\(w:Nat)+1<W):=by rw [hW];exact Lh ⟨(AA _ _).th (AA _ _),ψ⟩
 have fH:=Lh (ro21 hW);have fI:=Lh (ro22 hW);have Z:Hid (∀ V,Below W W V->Below w w V/\(w:Nat)<=V.heap.size/\(V.cell? (π w 0)=ς (σ fa c.H fc)/\V.cell? (π w 1)=ς (ι c.G)/\V.cell? (π w 2)=ς (σ qa c.funcs qc)/\(w:Nat)<V.heap.size)/\(V.cell? (π (w+1) 0)=ς (σ va m.G vc)/\V.cell? (π (w+1) 1)=ς (σ na m.N nc)/\(w:Nat)+1<V.heap.size)):=Lh (λV C=>by
  have h0:=(C.block _ (La fH.o)).trans fH.o;have I:=(C.block _ (La fI.o)).trans fI.o;have Q:=F.o.1.th C;exact ⟨Q,Q.size,⟨Cr h0 rfl,Cr h0 rfl,Cr h0 rfl,(La h0)⟩,Cr I rfl,Cr I rfl,(La I)⟩)
 clear hL hc hm hl fA fB dA fG bQ mE mF;go_enter func4,ntmps4;go_upto_region 1 with fail;rw [<-hW];clear hW;go_wp2_with fail;refine (Rb W (HL.o.below F.o.1)).mono ?_;rintro e w1 ⟨rfl,eU⟩;have eI:=Lh eU;clear eU;obtain ⟨r,v,⟨M,N,O,zc⟩,⟨m0,m1,zm⟩⟩:=Z.o w1 eI.o;go_wp2_with fail;refine (great_any c _ (w:Nat) w1 v (HC.o.below r)).mono ?_;rintro e w2 ⟨r1,rfl,bB,H⟩;have iC:=Lh bB;have cK:=Lh (eI.o.th H);clear r v M N O zc m0 m1 zm bB H;cases r1 with
 | true=>go_wp2;go_ret;exact ⟨rfl,F.o.1.th cK.o⟩
 | false=>
 have eL:=@Lh (Bv c) (λy hy=>by have:=(iC.o rfl) y hy;omega);obtain ⟨r,v,-,⟨m0,m1,zm⟩⟩:=Z.o w2 cK.o;go_wp2_with fail;refine (TN m _ (w:Nat) w2 v (HM.o.below r)).mono ?_;rintro e w3 ⟨rfl,eV⟩;have cA:=Lh (cK.o.th eV);clear r v m0 m1 zm eV;cases bQ:MD m with
 | true=>go_wp2;go_ret;exact ⟨rfl,F.o.1.th cA.o⟩
 | false=>
 have cN:=Lh (au bQ);clear bQ;by_cases h4:4<(q:Int)
 .go_wp2
  go_ret;exact ⟨rfl,F.o.1.th cA.o⟩
 obtain ⟨r,v,-,-⟩:=Z.o w3 cA.o;go_wp2_with fail;refine (wide_any q _ (w:Nat) w3 v (HS.o.calss r)).mono ?_;rintro e w4 ⟨rfl,eW⟩;have aU:=Lh (cA.o.th eW);clear r v eW;cases fE:wideB q with
 | true=>go_wp2;go_ret;exact ⟨rfl,F.o.1.th aU.o⟩
 | false=>
 have iA:=Lh (wideB_no fE);clear fE;by_cases lO:fuel<0
 .go_wp2
  go_ret;exact ⟨rfl,F.o.1.th aU.o⟩
 by_cases lP:300<fuel
 .go_wp2
  go_ret;exact ⟨rfl,F.o.1.th aU.o⟩
 by_cases lQ:200<(z:Int)
 .go_wp2
  go_ret;exact ⟨rfl,F.o.1.th aU.o⟩
 obtain ⟨r,v,⟨M,N,O,zc⟩,⟨m0,m1,zm⟩⟩:=Z.o w4 aU.o;have eJ:Hid (∀ V,Below W W V->Calls prog 9 #[.agg (Bc fa fc qa qc c),.agg (Bm va vc na nc m),σ la q lc,ι fuel] V (SNewIs c m q fuel V)):=Lh (λV C=>by
  have Q:=F.o.1.th C;exact sNew_any c m q fuel _ _ _ V (HL.o.below Q) ((HC.o.below Q).up Q.size) ((HM.o.below Q).up Q.size) (up_calss Q.size (JT.below Q) HS.o) hQ.o ⟨by have:=cN.o.1;omega,by have:=cN.o.2.1;omega,λx S=>by have:=cN.o.2.2 x S;omega,λl hl x S=>by have:=iA.o l hl x S;omega⟩)
 go_wp2_with fail;refine (eJ.o w4 aU.o).mono ?_;rintro e w5 ⟨eX,hN⟩;have cL:=Lh (aU.o.th eX);clear r v M N O zc m0 m1 zm eX;rcases hN with ⟨cE,rfl⟩|⟨cZ,vs,rfl,C⟩
 .obtain ⟨E,hE⟩:=ε (GO c m q fuel)
  rw [<-hE] at cE ⊢;clear hE;have d0:=τ E 0 cE;obtain ⟨X,p⟩:=ε (w5.alloc (χ #[ν,ν,ν,ι 0,ι 0,ν,ν,ν,ν,ν,ν,ι 0,ι 0] 39));have K:=Lh p;have a:=row13 (ro11 p);have p0:=a 0 _ rfl;have p1:=a 1 _ rfl;have p2:=a 2 _ rfl;have p3:=a 3 _ rfl;have p4:=a 4 _ rfl;have p5:=a 5 _ rfl;have p6:=a 6 _ rfl;have p7:=a 7 _ rfl;have p8:=a 8 _ rfl;have p9:=a 9 _ rfl;have bG:=a 10 _ rfl;have bH:=a 11 _ rfl;have bI:=a 12 _ rfl;clear a p;go_upto_region 6 with fail;rw [<-K.o];go_wp2_with fail;refine (zero_yes X).mono ?_;rintro e w6 ⟨rfl,T⟩;have L:=Lh ((cL.o.th (bl1 K.o)).th T);clear T;go_wp2;go_ret;exact ⟨rfl,F.o.1.th L.o⟩
 have bN:=Lh (fg cZ);have hZ:=Lh cZ;have cO:=Lh (newS_solo m fuel q);obtain ⟨D,dC⟩:=ε (ff m fuel q);rw [<-dC] at C bN cO;have cD:=Lh dC;clear dC cZ;obtain ⟨jN,jV,kD,jO,jW,kE,jP,jX,kF,jQ,jY,kG,jR,jZ,kH,jS,kA,kI,jT,kB,kJ,jU,kC,kK,dG,dH,dI,rfl⟩:=C.shape;obtain ⟨A,B⟩:=ε (w5.alloc (χ #[σ jN jV kD,σ jO jW kE,σ jP jX kF,ι D.clock,ι D.Y,σ jQ jY kG,σ jR jZ kH,σ jS kA kI,σ jT kB kJ,σ jU kC kK,σ dG dH dI,ι D.aborts,ι D.U] 39));have HV:=Lh (C.ups (bl1 B).size (JT.below (bl1 B)));have aX:=Lh (ro11 B);have hR:=Lh (cL.o.th (bl1 B));have HA:=Lh B;obtain ⟨aD,aO⟩:=ε (w5:Nat);have bT:=@Lh ((W:Nat)<=aD) (by rw [aO];exact cL.o.size);clear C B;go_upto_region 6 with fail;rw [<-HA.o,<- aO];rw [<-aO] at aX;clear aO;go_wp2_with fail;go_loopw [13,14,67] (λjL jM i wr=>∃ (k:Nat) (s:Tra) (vs:List Value),k<=z.length/\i=ι k/\jL=ι s.clock/\jM=ι s.aborts/\Hid (Below W W wr/\wr.heap[aD]?=ς (χ vs.toArray 39 (0,0))/\TraVs wr.heap.size wr vs s/\TraI c s/\s.active.length=q.length/\s.results.length=q.length/\(q.length=1->SoloS s)/\s.U<=k)) (λ_ _ i _=>z.length - (intOf i).toNat)
 case atStart=>exact ⟨0,D,_,Nat.zero_le _,rfl,by rw [cD.o];rfl,by rw [cD.o];rfl,Lh ⟨hR.o,aX.o,HV.o,bN.o.1,bN.o.2.1,bN.o.2.2,λ_=>cO.o,by rw [cD.o];exact Int.le_refl _⟩⟩
 case round=>
  obtain ⟨k,s,vs,hk,rfl,rfl,rfl,HR⟩:=hrel;obtain ⟨eZ,bR,cX,eS,eT,fJ,fK,fL⟩:=HR.o;obtain ⟨kL,kS,lA,kM,kT,lB,kN,kU,lC,hP,kV,lD,kO,kW,lE,kP,kX,lF,kQ,kY,lG,kR,kZ,lH,dJ,dK,dL,rfl⟩:=cX.shape;have j:=Lh (ϟ eS (ϟ eT (ϟ fJ (ϟ fK fL))));have aW:=Lh eZ;have aH:=Lh bR;have cP:=Lh cX;clear eZ bR cX eS eT fJ fK fL HR;by_cases fF:k<z.length
  .obtain ⟨t,ht⟩:∃ t,z[k]?=ς t:=⟨_,Lg fF⟩
   obtain ⟨r,v,⟨M,N,O,zc⟩,-⟩:=Z.o wr aW.o;obtain ⟨sb,so,rfl,-,y0,-⟩:=(iD.o.ups B5 v (JT.below r)).nth ht;rw [Nat.mul_one] at y0;have lI:=Lh ht;have bM:=Lh fF;have lR:=In k;have lS:(k:Int)<(z:Int):=ω;have iE:=Lh (sStep_any c fa qa fc qc s [σ kL kS lA,σ kM kT lB,σ kN kU lC,ι s.clock,ι s.Y,σ hP kV lD,σ kO kW lE,σ kP kX lF,σ kQ kY lG,σ kR kZ lH,σ dJ dK dL,ι s.aborts,ι s.U] t wr (HL.o.below r) eL.o ((HC.o.below r).up v) cP.o j.o.1);have a:=row13 aH.o;have p0:=a 0 _ rfl;have p1:=a 1 _ rfl;have p2:=a 2 _ rfl;have p3:=a 3 _ rfl;have p4:=a 4 _ rfl;have p5:=a 5 _ rfl;have p6:=a 6 _ rfl;have p7:=a 7 _ rfl;have p8:=a 8 _ rfl;have p9:=a 9 _ rfl;have bG:=a 10 _ rfl;have bH:=a 11 _ rfl;have bI:=a 12 _ rfl;clear ht a r v;go_wp2_with fail;refine iE.o.mono ?_;rintro e w6 ⟨T,hS⟩;have L:=Lh T;clear M N O zc y0 p0 p1 p2 p3 p4 p5 p6 p7 p8 p9 bG bH bI T;rcases hS with ⟨U,rfl⟩|⟨U,n,lZ,aK,rfl,cF,hO⟩
   .have cU:refE s t=2\/refE s t=14:=by
     have I:=j.o.2.2.2.2;unfold refE at U ⊢;by_cases q1:t<0\/(s.A:Int)<=t
     .exact .inl (if_pos q1)
     rw [if_neg q1] at U ⊢;by_cases q2:s.A.getD t.toNat []=[]
     .exact .inr (if_pos q2)
     rw [if_neg q2] at U ⊢;exact absurd (if_neg ω) U
    obtain ⟨X,p⟩:=ε (w6.alloc (χ #[ν,ν,ν,ι 0,ι 0,ν,ν,ν,ν,ν,ν,ι 0,ι 0] 39));have K:=Lh p;have a:=row13 (ro11 p);have p0:=a 0 _ rfl;have p1:=a 1 _ rfl;have p2:=a 2 _ rfl;have p3:=a 3 _ rfl;have p4:=a 4 _ rfl;have p5:=a 5 _ rfl;have p6:=a 6 _ rfl;have p7:=a 7 _ rfl;have p8:=a 8 _ rfl;have p9:=a 9 _ rfl;have bG:=a 10 _ rfl;have bH:=a 11 _ rfl;have bI:=a 12 _ rfl;have cB:=Lh (L.o.th (bl1 p));clear a p U;rcases cU with e2|e2;all_goals
     rw [e2];clear e2;go_upto_region 13 with fail;rw [<-K.o];go_wp2_with fail;refine (zero_yes X).mono ?_;rintro e w7 ⟨rfl,bP⟩;have aV:=Lh (cB.o.th bP);clear bP;go_wp2;go_roundw
     case rel=>exact ⟨k+1,s,_,by have:=bM.o;omega,by go_num,rfl,rfl,Lh ⟨aW.o.th aV.o,(aV.o.block _ (La aH.o)).trans aH.o,cP.o.ups aV.o.size (JT.below aV.o),j.o.1,j.o.2.1,j.o.2.2.1,j.o.2.2.2.1,by have:=j.o.2.2.2.2;omega⟩⟩
     case measure=>have:=bM.o;simp [intOf];omega
   .have B:=gw.law j.o.1.inv aK
    have cV:=TraI.stepS j.o.1 aK (by have:=j.o.2.2.2.2;omega);have bC:q.length=1->SoloS n:=λI=>(j.o.2.2.2.1 I).U j.o.1.inv aK (λu hu=>by
     obtain ⟨x,_,S,_⟩:=aK;have:=(Ll S)
     have:=j.o.2.1;omega)
    have G:=Lh (ϟ B (ϟ cV bC));have iF:=Lh aK;obtain ⟨i,cl,l',rfl,lM,-⟩:=refE_yes U;obtain ⟨dM,dU,eA,dN,dV,eB,dO,dW,eC,dP,mC,eD,dQ,dX,eE,dR,mD,eF,dS,dY,eG,dT,dZ,eH,bJ,bK,bL,rfl⟩:=cF.shape;obtain ⟨aa,ac,oa,oc,ea,eo,bD⟩:=cF.lens;rw [cV.2,j.o.2.1] at ea;rw [B.len.2,j.o.2.2.1] at eo;cases ea;cases eo;obtain ⟨lJ,lL,lX,lY,eM,eN,bS⟩:=(cP.o.ups L.o.size (JT.below L.o)).lens;rw [j.o.2.1] at eM;rw [j.o.2.2.1] at eN;cases eM;cases eN;obtain ⟨X,p⟩:=ε (w6.alloc (χ #[σ dM dU eA,σ dN dV eB,σ dO dW eC,ι n.clock,ι n.Y,σ dP q eD,σ dQ dX eE,σ dR q eF,σ dS dY eG,σ dT dZ eH,σ bJ bK bL,ι n.aborts,ι n.U] 39));have K:=Lh p;have bA:=L.o.th (bl1 p);have d:=(bA.block _ (La aH.o)).trans aH.o;have R:=ro11 p;have g:=row13 d;have f:=row13 R;have cG:=g 5 _ rfl;have aQ:=g 12 _ rfl;have cH:=f 3 _ rfl;have cI:=f 5 _ rfl;have cJ:=f 7 _ rfl;have aR:=f 11 _ rfl;have aS:=f 12 _ rfl;have cB:=Lh bA;have aX:=Lh d;have cC:=Lh R;have iG:=Lh (cF.ups (bl1 p).size (JT.below (bl1 p)));have eK:=Lh hO;have lW:=λ(i:Nat) x (h:n.active[i]?=ς x)=>bD i x h;have eQ:IntKind.i64.wrap (s.U+1)=s.U+1:=by have I:=j.o.1.inv.clock;have h2:=j.o.2.2.2.2;rw [IntKind.wrap_i64]<;>omega
    have eP:IntKind.i64.wrap (s.clock+1)=s.clock+1:=by have I:=j.o.1.inv.clock;have h2:=j.o.2.2.2.2;rw [IntKind.wrap_i64]<;>omega
    have eO:IntKind.i64.wrap (s.aborts+1)=s.aborts+1:=by have I:=j.o.1.inv.aborts;have h2:=j.o.2.2.2.2;rw [IntKind.wrap_i64]<;>omega
    have N:decide (n.clock<s.clock)=false:=by have:=B.clock;simp;omega
    have O:decide (s.clock+1<n.clock)=false:=by have:=B.clock;simp;omega
    have c3:decide (n.aborts<s.aborts)=false:=by have:=B.aborts;simp;omega
    have c4:decide (s.aborts+1<n.aborts)=false:=by have:=B.aborts;simp;omega
    have M:(n.U != s.U+1)=false:=by simp [B.U]
    have bO:=B.aborts;have dB:∀ x:Trx,s.active[i]?=ς x->q.length=1->¬n.aborts=s.aborts+1:=λx _ I h2=>by have h3:=(bC I).aborts;have h4:=(j.o.2.2.2.1 I).aborts;omega
    have bE:=λ(i:Nat) x (h:s.active[i]?=ς x)=>(by
     obtain ⟨b,o,e1,e2⟩:=bS i x h;exact ⟨b,o,e1,JT.below (bl1 p) _ _ e2⟩:∃ b o,hP=ς (π b o)/\X.cell? (π b (o+i*13+9))=ς (ι x.start))
    have bF:=λ(i:Nat) x (h:n.active[i]?=ς x)=>(by
     obtain ⟨b,o,e1,e2⟩:=bD i x h;exact ⟨b,o,e1,JT.below (bl1 p) _ _ e2⟩:∃ b o,dP=ς (π b o)/\X.cell? (π b (o+i*13+9))=ς (ι x.start))
    have bB:=λx (h:s.active[i]?=ς x)=>(Ll h)
    rw [j.o.2.1] at bB;clear B cV bC aK bA d R g f bD bS cF hO U;clear p;rcases bO with bO|⟨bO,fC,x,y,S,_,iU,hy,fM⟩
    .have c5:=θ (s.aborts<n.aborts)
     clear dB bE bF bB bO;go_upto_region 13 with fail;rw [<-K.o];go_upto_region 21 with fail;go_quiet (fail);obtain ⟨X2,aY⟩:=ε (X.drewN nq);have H:Below X X X2:=by rw [aY];exact AG Br nq
     rw [<-aY];clear aY cG aQ cH cI cJ aR aS M N O c3 c4 c5 eQ eP eO;have d:=(H.block _ (La aX.o)).trans aX.o;have R:=(H.block _ (La cC.o)).trans cC.o;have f:=row13 R;have g:=row13 d;have jE:=f 0 _ rfl;have jF:=f 1 _ rfl;have jG:=f 2 _ rfl;have cH:=f 3 _ rfl;have jH:=f 4 _ rfl;have cI:=f 5 _ rfl;have jI:=f 6 _ rfl;have cJ:=f 7 _ rfl;have jJ:=f 8 _ rfl;have jK:=f 9 _ rfl;have dF:=f 10 _ rfl;have aR:=f 11 _ rfl;have aS:=f 12 _ rfl;have iV:=g 0 _ rfl;have iH:=Ψ 0 d;have iW:=g 1 _ rfl;have iI:=Ψ 1 d;have iX:=g 2 _ rfl;have iJ:=Ψ 2 d;have iY:=g 3 _ rfl;have iK:=Ψ 3 d;have iZ:=g 4 _ rfl;have iL:=Ψ 4 d;have cG:=g 5 _ rfl;have iM:=Ψ 5 d;have jA:=g 6 _ rfl;have iN:=Ψ 6 d;have jB:=g 7 _ rfl;have iO:=Ψ 7 d;have jC:=g 8 _ rfl;have iP:=Ψ 8 d;have jD:=g 9 _ rfl;have iQ:=Ψ 9 d;have dD:=g 10 _ rfl;have cR:=Ψ 10 d;have dE:=g 11 _ rfl;have cS:=Ψ 11 d;have aQ:=g 12 _ rfl;have cT:=Ψ 12 d;have aI:=stored_own L.o eK.o K.o H (La aH.o) G.o.2.1.1 (aW.o.th L.o) bT.o d;obtain ⟨XE,aZ⟩:=ε (putsW X2 aD 0 [σ dM dU eA,σ dN dV eB,σ dO dW eC,ι n.clock,ι n.Y,σ dP q eD,σ dQ dX eE,σ dR q eF,σ dS dY eG,σ dT dZ eH,σ bJ bK bL,ι n.aborts,ι n.U]);rw [<-aZ] at aI;have aG:=Lh aI;have cQ:=Lh aZ;clear aI aZ d R g f H;go_upto_region 23 with fail;rw [puts13,<- cQ.o];go_wp2;go_roundw
     case rel=>exact ⟨k+1,n,_,by have:=bM.o;omega,by go_num,rfl,rfl,Lh ⟨aG.o.1,aG.o.2.1,aG.o.2.2,G.o.2.1.1,by rw [G.o.2.1.2];exact j.o.2.1,by rw [G.o.1.len.2];exact j.o.2.2.1,G.o.2.2,by have:=j.o.2.2.2.2;have:=G.o.1.U;omega⟩⟩
     case measure=>have:=bM.o;simp [intOf];omega
    .have c5:=η (s.aborts<n.aborts)
     have c6:((q:Int) == 1)=false:=by have:=dB x S;simp;omega
     obtain ⟨b1,o1,rfl,q1⟩:=bE i x S;obtain ⟨b2,o2,rfl,q2⟩:=bF i y hy;have lT:=In i;have lU:(i:Int)<(q:Int):=by have:=bB x S;omega
     have c7:=θ (s.clock<=x.start);rw [fM] at q2;have c8:(n.clock != s.clock)=false:=by simp [fC]
     clear dB bE bF bB bO fC iU fM;go_upto_region 13 with fail;rw [<-K.o];go_upto_region 21 with fail;go_quiet (fail);obtain ⟨X2,aY⟩:=ε (X.drewN nq);have H:Below X X X2:=by rw [aY];exact AG Br nq
     rw [<-aY];clear aY cG aQ cH cI cJ aR aS M N O c3 c4 c5 c6 c7 c8 q1 q2 eQ eP eO;have d:=(H.block _ (La aX.o)).trans aX.o;have R:=(H.block _ (La cC.o)).trans cC.o;have f:=row13 R;have g:=row13 d;have jE:=f 0 _ rfl;have jF:=f 1 _ rfl;have jG:=f 2 _ rfl;have cH:=f 3 _ rfl;have jH:=f 4 _ rfl;have cI:=f 5 _ rfl;have jI:=f 6 _ rfl;have cJ:=f 7 _ rfl;have jJ:=f 8 _ rfl;have jK:=f 9 _ rfl;have dF:=f 10 _ rfl;have aR:=f 11 _ rfl;have aS:=f 12 _ rfl;have iV:=g 0 _ rfl;have iH:=Ψ 0 d;have iW:=g 1 _ rfl;have iI:=Ψ 1 d;have iX:=g 2 _ rfl;have iJ:=Ψ 2 d;have iY:=g 3 _ rfl;have iK:=Ψ 3 d;have iZ:=g 4 _ rfl;have iL:=Ψ 4 d;have cG:=g 5 _ rfl;have iM:=Ψ 5 d;have jA:=g 6 _ rfl;have iN:=Ψ 6 d;have jB:=g 7 _ rfl;have iO:=Ψ 7 d;have jC:=g 8 _ rfl;have iP:=Ψ 8 d;have jD:=g 9 _ rfl;have iQ:=Ψ 9 d;have dD:=g 10 _ rfl;have cR:=Ψ 10 d;have dE:=g 11 _ rfl;have cS:=Ψ 11 d;have aQ:=g 12 _ rfl;have cT:=Ψ 12 d;have aI:=stored_own L.o eK.o K.o H (La aH.o) G.o.2.1.1 (aW.o.th L.o) bT.o d;obtain ⟨XE,aZ⟩:=ε (putsW X2 aD 0 [σ dM dU eA,σ dN dV eB,σ dO dW eC,ι n.clock,ι n.Y,σ (ς (π b2 o2)) q eD,σ dQ dX eE,σ dR q eF,σ dS dY eG,σ dT dZ eH,σ bJ bK bL,ι n.aborts,ι n.U]);rw [<-aZ] at aI;have aG:=Lh aI;have cQ:=Lh aZ;clear aI aZ d R g f H;go_upto_region 23 with fail;rw [puts13,<- cQ.o];go_wp2;go_roundw
     case rel=>exact ⟨k+1,n,_,by have:=bM.o;omega,by go_num,rfl,rfl,Lh ⟨aG.o.1,aG.o.2.1,aG.o.2.2,G.o.2.1.1,by rw [G.o.2.1.2];exact j.o.2.1,by rw [G.o.1.len.2];exact j.o.2.2.1,G.o.2.2,by have:=j.o.2.2.2.2;have:=G.o.1.U;omega⟩⟩
     case measure=>have:=bM.o;simp [intOf];omega
  .have iS:k=z.length:=ω
   subst iS;obtain ⟨r,v,⟨M,N,O,zc⟩,⟨m0,m1,zm⟩⟩:=Z.o wr aW.o;clear r v;go_wp2_with fail;refine (eJ.o wr aW.o).mono ?_;rintro e w6 ⟨T,hN⟩;rcases hN with ⟨cE,-⟩|⟨-,mA,rfl,C⟩
   .exact absurd hZ.o cE
   rw [<-cD.o] at C;have iT:=C.shape;obtain ⟨gL,gT,hC,gM,gU,hD,gN,gV,hG,gO,gW,hH,gP,gX,hI,gQ,gY,hJ,gR,gZ,hK,gS,hB,hM,bX,bY,bZ,rfl⟩:=iT;obtain ⟨X,p⟩:=ε (w6.alloc (χ #[σ gL gT hC,σ gM gU hD,σ gN gV hG,ι D.clock,ι D.Y,σ gO gW hH,σ gP gX hI,σ gQ gY hJ,σ gR gZ hK,σ gS hB hM,σ bX bY bZ,ι D.aborts,ι D.U] 39));have bA:=(aW.o.th T).th (bl1 p);have cB:=Lh bA;obtain ⟨r,v,⟨d0,d1,d2,zd⟩,-⟩:=Z.o X bA;have a:=row13 (ro11 p);have p0:=a 0 _ rfl;have p1:=a 1 _ rfl;have p2:=a 2 _ rfl;have p3:=a 3 _ rfl;have p4:=a 4 _ rfl;have p5:=a 5 _ rfl;have p6:=a 6 _ rfl;have p7:=a 7 _ rfl;have p8:=a 8 _ rfl;have p9:=a 9 _ rfl;have bG:=a 10 _ rfl;have bH:=a 11 _ rfl;have bI:=a 12 _ rfl;have iB:=Lh (sFinish_any c fa qa fc qc D [σ gL gT hC,σ gM gU hD,σ gN gV hG,ι D.clock,ι D.Y,σ gO gW hH,σ gP gX hI,σ gQ gY hJ,σ gR gZ hK,σ gS hB hM,σ bX bY bZ,ι D.aborts,ι D.U] X (HL.o.below r) eL.o ((HC.o.below r).up v) (C.ups (bl1 p).size (JT.below (bl1 p))) bN.o.1);have K:=Lh p;clear M N O zc m0 m1 zm T C bA a p r v;go_upto_region 25 with fail;rw [<-K.o];go_wp2_with fail;refine iB.o.mono ?_;rintro e w7 ⟨bP,hF⟩;have aV:=Lh (cB.o.th bP);clear d0 d1 d2 zd p0 p1 p2 p3 p4 p5 p6 p7 p8 p9 bG bH bI bP;rcases hF with ⟨s2,-,-,-,rfl⟩|⟨J,mB,eR,cW,iR,fD,rfl,cY,-⟩
   .obtain ⟨Y,P⟩:=ε (w7.alloc (χ #[ν,ν,ν,ι 0,ι 0,ν,ν,ν,ν,ν,ν,ι 0,ι 0] 39))
    have cM:=Lh (aV.o.th (bl1 P));have HY:=Lh P;clear P;go_upto_region 26 with fail;rw [<-HY.o];go_wp2;go_ret;exact ⟨rfl,F.o.1.th cM.o⟩
   .obtain ⟨fN,fV,gD,fO,fW,gE,fP,fX,gF,fQ,fY,gG,fR,fZ,gH,fS,gA,gI,fT,gB,gJ,fU,gC,gK,bU,bV,bW,rfl⟩:=cY.shape
    obtain ⟨Y,P⟩:=ε (w7.alloc (χ #[σ fN fV gD,σ fO fW gE,σ fP fX gF,ι J.clock,ι J.Y,σ fQ fY gG,σ fR fZ gH,σ fS gA gI,σ fT gB gJ,σ fU gC gK,σ bU bV bW,ι J.aborts,ι J.U] 39));have cM:=Lh (aV.o.th (bl1 P));have a:=row13 (ro11 P);have p0:=a 0 _ rfl;have p1:=a 1 _ rfl;have p2:=a 2 _ rfl;have p3:=a 3 _ rfl;have p4:=a 4 _ rfl;have p5:=a 5 _ rfl;have p6:=a 6 _ rfl;have p7:=a 7 _ rfl;have p8:=a 8 _ rfl;have p9:=a 9 _ rfl;have bG:=a 10 _ rfl;have bH:=a 11 _ rfl;have bI:=a 12 _ rfl;have lK:(J.aborts == 0)=true:=by simp [(eR.solo bN.o.1.inv cO.o).aborts]
    have hU:=Lh (sDone_any J [σ fN fV gD,σ fO fW gE,σ fP fX gF,ι J.clock,ι J.Y,σ fQ fY gG,σ fR fZ gH,σ fS gA gI,σ fT gB gJ,σ fU gC gK,σ bU bV bW,ι J.aborts,ι J.U] Y rfl (cY.ups (bl1 P).size (JT.below (bl1 P))) (by have:=cW.inv.A;have:=cW.eight;omega));have HD:=@Lh (decide (enS J J.A.length=[])=true) (by simp [fD]);have HY:=Lh P;clear eR cW iR fD cY P a;go_upto_region 26 with fail;rw [<-HY.o];go_wp2_with fail;refine hU.o.mono ?_;rintro e w8 ⟨rfl,eY⟩;rw [HD.o];have hT:=Lh (cM.o.th eY);clear p0 p1 p2 p3 p4 p5 p6 p7 p8 p9 bG bH bI eY;go_wp2;go_ret;exact ⟨rfl,F.o.1.th hT.o⟩
