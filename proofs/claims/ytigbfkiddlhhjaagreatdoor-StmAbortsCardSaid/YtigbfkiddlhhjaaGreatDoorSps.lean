import Derived.Test.YtigbfkiddlhhjaaGreatDoorSpr
set_option maxHeartbeats 4000000
set_option maxRecDepth 100000
set_option linter.all false
open Go renaming World→Ϣ,Value→ϒ
open Option renaming some→ς
open Bool renaming false→ϝ,true→ϑ
open And renaming intro→ϟ
open Go.Value renaming slice→σ
open Go.Obj renaming cells→χ
namespace Go.Proofs.YtigbfkiddlhhjaaGreatDoor
open Go.RowKit Proofs.Tryz
def saccess_no (s:Tra) (c:A1) (d o i:Nat) (r:Rq) (w:Ϣ) (h:SAt w c d s) (f:0<=r.O/\r.O<=1099511627776) (l:0<=r.D) (hl:¬r.D<((Bd s.M r).length:Int)) :
  Calls prog 76 #[.pointer (ς (π d 0)),.pointer (ς (π o (i*13))),.agg #[ι r.K,ι r.O,ι r.D,ι r.V,ι r.X]] w λe q=>e=.returned (.tuple #[ι 0,.bool ϝ])/\Below w w q:=by
 obtain ⟨W,a⟩:=ε (w.alloc (χ #[ι r.K,ι r.O,ι r.D,ι r.V,ι r.X] 57));have j:=Lh (bl1 a);have g:W.heap[(w:Nat)]?=ς (χ #[ι r.K,ι r.O,ι r.D,ι r.V,ι r.X] 57 (0,0)):=ro11 a;have p:=Ω3 g;have n:=Lh (place_any s.M d r.O r.D W (h.grow j.o).memRd f.1 l f.2);have m:=Lh hl;clear g h f l hl;go_enter func76,ntmps76;go_upto_region 1 with fail;rw [<-a];clear a;go_wp2_with fail;refine n.o.mono ?_;rintro e t ⟨k,(⟨b,rfl⟩|⟨b,x,y,u,rfl⟩)⟩
 .have aE:=Lh (j.o.th k)
  clear k b p;go_wp2_with fail
  go_ret2
  exact ⟨rfl,aE.o⟩
 .exfalso
  have v:r.D<((Bd s.M r).length:Int):=b;have:=m.o;omega
def MacS.modest {c:AQ} (hs:AU c) (a:Bv c) {m:AV} (h:MacS c m):IK m:=by
 rcases h.P with h|⟨h,_⟩
 .exact h.modest hs a
 .exact ⟨by rw [h];simp,λf b=>by rw [h] at b;simp at b⟩
def Box0 (w:Ϣ) (c:A1) (b:Nat) (cvs:Array ϒ):Prop:=w.heap[b]?=ς (χ cvs 25 (0,0))/\c b=0
def Box0.go {T:Nat->Prop} {w w':Ϣ} {c c':A1} {b:Nat} {a:Array ϒ} (h:Box0 w c b a) (d:AT T c c' w w'):Box0 w' c' b a:=
 have e:=(La h.1)
 ⟨by rw [d.kp b e (by rw [h.2];exact d.zero)];exact h.1,by rw [d.old b e];exact h.2⟩
def Box0.cells {w:Ϣ} {c:A1} {b:Nat} {l:List ϒ} (h:Box0 w c b l.toArray):∀ (j:Nat) z,l[j]?=ς z->w.cell? (π b j)=ς z:=λj z a=>by rw [cell_of_row _ _ _ _ _ _ h.1,List.getElem?_toArray];exact a
def StA (cd:AQ) (s:Tra) (i:Nat) (fr:Bool) (bt:Nat) (cvs:Array ϒ) (c:A1) (w wx:Ϣ):Prop:=∃ c1 s1 y,SAt wx c1 bt s1/\Box0 wx c1 (w:Nat) cvs/\AT NZ c c1 w wx/\MidS cd s1 i y/\s1.U=s.U/\∀ s2,GoS cd s1 i y fr s2->gw cd s i (tickS s2)
def StB (cd:AQ) (s1:Tra) (i:Nat) (y:Trx) (fr:Bool) (bt:Nat) (c:A1) (w wx:Ϣ):Prop:=∃ c2 s2,SAt wx c2 bt s2/\AT NZ c c2 w wx/\GoS cd s1 i y fr s2
def StC (cd:AQ) (s1:Tra) (i:Nat) (y:Trx) (bt ab cap:Nat) (c1:A1) (w wx:Ϣ) (ans:Int) (ok:Bool):Prop:=∃ c3 s3 x3,SAt wx c3 bt s3/\AT NZ c1 c3 w wx/\s3.active[i]?=ς x3/\x3.run=y.run/\wx.cell? (π bt 5)=ς (σ (ς (π ab 0)) s1.active cap)/\s3.active.length=s1.active.length/\
 ((ok=ϑ/\Bj y.run.Q ans=ϑ/\∀ m',ED cd y.run ans m'->DoS cd s1 i y { s3 with active:=s3.active.set i { x3 with run:=m' } })\/(ok=ϝ/\s3=s1/\y.run.Q.K≠3/\¬y.run.Q.D<((Bd s1.M y.run.Q).length:Int)))
def acc_run (s:Tra) (x:Trx) (r:Rq):(accX s x r).1.run=x.run:=by
 unfold accX;simp only;split
 .split<;>(split<;>rfl)
 .split
  .split<;>rfl
  .split<;>(split<;>rfl)
def StepIs4 (cd:AQ) (s:Tra) (i bt:Nat) (c:A1) (w:Ϣ) (e:Ending) (w':Ϣ):Prop:=e=.returned (.tuple #[])/\∃ s',gw cd s i s'/\PostS c bt s' w w'
def sstep_any (cd:AQ) (I K:Option Addr) (J L B:Nat) (s:Tra) (c:A1) (d i:Nat) (cl:Bi) (l':List Bi) (w0 w:Ϣ) (hX:CtxS cd (.agg (Bc I J K L cd)) B w0 w c) (eO:Bv cd) (h:SAt w c d s) (hI:InvS cd s) (hl:s.A[i]?=ς (cl::l')) (eP:s.U<65536) :
  Calls prog 41 #[.agg (Bc I J K L cd),.pointer (ς (π d 0)),ι i] w (StepIs4 cd s i d c w):=by
 obtain ⟨W,hW⟩:=ε (w.alloc (χ (Bc I J K L cd) 25));have cD:=Lh (bl1 hW);have gQ:=Lh (sz1 hW);have fH:=Lh (ro11 hW);have HX:=Lh (hX.grow cD.o);have HS:=Lh (h.grow cD.o);have eK:=(Ll hl)
 obtain ⟨x,hx⟩:∃ x,s.active[i]?=ς x:=⟨_,Lg (by rw [<-hI.A];exact eK)⟩
 obtain ⟨lq,r0,aQ,gM,ha⟩:=hI.row hx;obtain rfl:lq=cl::l':=by have:=ha.l.symm.trans hl;simpa using this
 have hT:=hI.all _ _ _ _ _ _ ha;have eF:aQ.length<=2001:=by rcases hT.act with ⟨_,N⟩|⟨_,_,N⟩<;>(have:=hT.ops;omega)
 have fK:=Lh hX;have cM:Hid (Box0 W c (w:Nat) (Bc I J K L cd)):=Lh ⟨fH.o,h.hi _ (Nr _)⟩;have gJ:Hid (c (w:Nat)=0/\∀ b,(w:Nat)<=b->c b=0):=Lh ⟨h.hi _ (Nr _),h.hi⟩;have p:=Lh (ϟ hI (ϟ hx (ϟ ha.b (ϟ eF (ϟ hl (ϟ eP (ϟ eO hT.right)))))));obtain ⟨R,gV,fv,rv,wv,b5,fT,fV,fU,r,-,fR,fS,fO⟩:=HS.o.viewX hx;have i0:=In i;have i1:(i:Int)<(s.active:Int):=ω;have eU:W.cell? (π R (i*13+0))=ς (fv):=r 0 _ rfl;have fX:W.cell? (π R (i*13+1))=ς (ι x.run.Q.K):=r 1 _ rfl;have fY:W.cell? (π R (i*13+2))=ς (ι x.run.Q.O):=r 2 _ rfl;have fZ:W.cell? (π R (i*13+3))=ς (ι x.run.Q.D):=r 3 _ rfl;have gA:W.cell? (π R (i*13+4))=ς (ι x.run.Q.V):=r 4 _ rfl;have gB:W.cell? (π R (i*13+5))=ς (ι x.run.Q.X):=r 5 _ rfl;have gC:W.cell? (π R (i*13+6))=ς (ι x.run.Y):=r 6 _ rfl;have gD:W.cell? (π R (i*13+7))=ς (ι x.run.C):=r 7 _ rfl;have gE:W.cell? (π R (i*13+8))=ς (ι x.run.I):=r 8 _ rfl;have gF:W.cell? (π R (i*13+9))=ς (ι x.start):=r 9 _ rfl;have dK:W.cell? (π R (i*13+10))=ς (ι x.N):=r 10 _ rfl;have dL:W.cell? (π R (i*13+11))=ς (rv):=r 11 _ rfl;have dM:W.cell? (π R (i*13+12))=ς (wv):=r 12 _ rfl;rw [Nat.add_zero] at eU;obtain ⟨fr,aR⟩:=ε (!(x.run.Q.K != 0));have cQ:=Lh aR;clear hX eO h hI hl eP eK hx ha hT eF fT fV fU r fR fS fO;go_enter func41,ntmps41;go_upto_region 1 with fail;rw [<-hW];clear hW;go_wp2_with fail;refine (running_any _ _ _ _ _ _ _ _ _ _ _ _ _ _).mono ?_;rintro e w2 ⟨rfl,eD⟩;have aT:=Lh eD;clear eD eU fX fY fZ gA gB gC gD gE gF dK dL dM b5;go_upto_if 20 with fail;rw [<-aR];clear aR
 go_cut [] (λwx=>Hid (StA cd s i fr d (Bc I J K L cd) c w wx))
 case first=>
  cases fr with
  | false=>
   go_wp2;go_meet
   case rel=>
    have f:x.run.Q.K≠0:=by have:=cQ.o;simp at this;exact this
    exact Lh ⟨c,s,x,HS.o.grow aT.o,cM.o.go (AT.ob aT.o Qx),AT.ob (cD.o.th aT.o) Qx,p.o.1.goes p.o.2.1 f,rfl,λs2 hg=>⟨x,s2,p.o.2.1,rfl,.inr ⟨f,hg⟩⟩⟩
  | true=>
   have f:x.run.Q.K=0:=by have:=cQ.o;simp at this;exact this
   have dS:=Lh f;have X:=Lh (HS.o.grow aT.o);have bW:=Lh (HX.o.grow aT.o);have dQ:Hid (c d=1/\d<w2):=Lh ⟨X.o.lab,GStAt.lt (show GStAt w2 c _ d (traG s) from X.o)⟩;obtain ⟨b8,n8,v8,cB,eA,dE⟩:=X.o.viewB (x:=aQ) p.o.2.2.1;obtain ⟨eR,eS,rfl,-,-,eN,-⟩:=LeafAt.at2 eA (n:=aQ.length) ψ ω;have p8:=cB.hd;have dJ:=cB.el;have dI:w2.cell? (π d 12)=ς (ι s.U):=GStAt.p0 (show GStAt w2 c _ d (traG s) from X.o) (j:=12) rfl;have i2:(i:Int)<(s.Z:Int):=ω;have H8:=Lh cB;have fA:=Lh eN;clear cB eA eN dE f;go_upto_region 3 with fail;refine Ac (λVs=>Vs.cell? (π d 8)=ς (σ (ς (π b8 0)) s.Z n8)/\Vs.cell? (π b8 i)=ς (σ eR aQ eS)/\Vs.cell? (π d 12)=ς (ι s.U)) [16,17,19] ϑ 20 rfl κ κ ⟨p8,dJ,dI⟩ ?_;refine softA ?_;have bC:=Lh (ϟ p8 (ϟ dJ dI));clear p8 dJ dI;refine AH κ ?_;go_simp;have cK:Below w2 w2 (w2.alloc (χ #[ι s.U] 3)):=AA _ _;refine ⟨Θ3 cK bC.o,?_⟩;obtain ⟨yV,cJ⟩:=ε ((w2.alloc (χ #[ι s.U] 3)).drew);rw [<-cJ];have eW:yV.heap[(w2:Nat)]?=ς (χ #[ι s.U] 3 (0,0)):=by rw [cJ];exact Hn _ _
   have cI:AT NO c c w2 yV:=AT.ob (by rw [cJ];exact Cb _ _) (no 0);have gG:=Lh cI;have bR:∀ b,(yV:Nat)<=b->c b=0:=λb hb=>X.o.hi b (Nt cI.size hb);clear cJ cK;refine AH κ ?_;refine Dz (λk=>k=100+16*i+8) (.tmp 32) (.tmp 37) 22 3 rfl underlying22 Cx rfl δ δ (c:=c) (tag:=100+16*i+8) (v:=σ eR aQ eS) (n:=aQ.length) (xs:=aQ.map (Value.int .i64)) rfl (fA.o.kp cI (no _)) (π w2 0) 1 1 [ι s.U] rfl rfl (λj u hu=>by rw [GB,Nat.zero_add,cell_of_row _ _ _ _ _ _ eW];simpa using hu) (by simp [Value.oneCell']) δ (by have:=p.o.2.2.2.1;omega) rfl ω bR (λyg gH yw yc aW bQ bS _=>?_);have bD:=bQ.aft gG.o;have eX:=bD.cell bC.o.1 (by show ¬c _=_;rw [dQ.o.1];omega);have eY:=bD.cell bC.o.2.1 (by show ¬c _=_;rw [H8.o.lab];omega);have eZ:=bD.cell bC.o.2.2 (by show ¬c _=_;rw [dQ.o.1];omega);have gI:=bD.frozen H8.o.lt (H8.o.frz i) (by show ¬c b8=_;rw [H8.o.lab];omega);obtain ⟨dP,dN⟩:=X.o.addB (x:=aQ) (o:=s.U) p.o.2.2.1 H8.o bD bS aW;obtain ⟨W3,dO⟩:=ε (yw.setCell (π b8 i) (σ (ς (π yg 0)) (aQ.length+1) gH));rw [<-dO] at dP dN;have bP:=Lh (ϟ dP dN);have eV:=Lh dO;clear bQ bS aW dP dN bD eW cI bR dO;refine ⟨.inl ⟨eX,eY,eZ⟩,?_⟩;refine AH κ ?_;go_simp;refine BH ?_;clear eX eY eZ gI;rw [<-eV.o];clear eV;have aZ:=Lh bP.o.1;have bX:=Lh (bW.o.go bP.o.2.nz);have aJ:=(((cM.o.go (AT.ob aT.o Qx)).go bP.o.2):Box0 W3 yc w (Bc I J K L cd)).cells;have D:=Γ3 aJ;have fD:=Lh (sbegin_any cd I K J L B { s with Z:=s.Z.modify i (·++[s.U]) } yc d i x cl l' w0 W3 bX.o p.o.2.2.2.2.2.2.1 p.o.1.sound aZ.o p.o.2.1 p.o.2.2.2.2.1 (given_fuelS p.o.1.Y (p.o.2.2.2.2.2.2.2 cl (List.mem_cons_self ..))));clear aJ;go_wp2_with fail;refine fD.o.mono ?_;rintro e H ⟨rfl,y,hB,c',aN,Y⟩;have A:Hid (StA cd s i ϑ d (Bc I J K L cd) c w H):=Lh ⟨c',startS s i y,y,aN,((cM.o.go (AT.ob aT.o Qx)).go bP.o.2).go Y,((AT.ob (cD.o.th aT.o) Qx).trans bP.o.2.nz).trans Y,p.o.1.begins_ p.o.2.1 dS.o hB,rfl,λs2 hg=>⟨x,s2,p.o.2.1,rfl,.inl ⟨dS.o,y,hB,hg⟩⟩⟩;clear hB aN Y D;go_wp2;go_meet
   case rel=>exact A
 obtain ⟨T,C,y,eB,dY,cT,dZ,bO,bK⟩:=hcut.o;obtain ⟨bV,bT,l,aX⟩:=Λ4 eB cT dZ (ϟ bO bK);have dX:=@Lh (CtxS cd (.agg (Bc I J K L cd)) B w0 wc T) (fK.o.go cT);have cN:=Lh dY;clear eB dY cT dZ bO bK hcut;obtain ⟨M,aG,gN,gR,gT,b5,bI,bF,cR,bA,dB,-,-,dC⟩:=bV.o.viewX l.o.hx;have i1:(i:Int)<(C.active:Int):=ω;have p1:wc.cell? (π M (i*13+1))=ς (ι y.run.Q.K):=bA 1 _ rfl;have p2:wc.cell? (π M (i*13+2))=ς (ι y.run.Q.O):=bA 2 _ rfl;have p3:wc.cell? (π M (i*13+3))=ς (ι y.run.Q.D):=bA 3 _ rfl;have p4:wc.cell? (π M (i*13+4))=ς (ι y.run.Q.V):=bA 4 _ rfl;have p5:wc.cell? (π M (i*13+5))=ς (ι y.run.Q.X):=bA 5 _ rfl;have fB:=Lh (ϟ bI (ϟ bF b5));clear bI bF cR bA dB dC;obtain ⟨O,cC⟩:=ε (wc.alloc (χ #[ι y.run.Q.K,ι y.run.Q.O,ι y.run.Q.D,ι y.run.Q.V,ι y.run.Q.X] 57));have dV:=Lh cC;have Q:=Lh (bl1 cC);have bE:=Lh (ro11 cC);clear cC;go_upto_region 7 with fail;rw [<-dV.o];clear dV p1 p2 p3 p4 p5 b5;have r0:=Ω5 bE.o;have aJ:=(cN.o.go (AT.ob Q.o Qx):Box0 O T w (Bc I J K L cd)).cells;have D:=Γ3 aJ;have cE:=Bl D.1;have eQ:=RN l.o.inv.sound l.o.ok.mach.P l.o.ok.mach.Y;have dW:=Lh eQ.1;clear aJ eQ;go_upto_block 0 with fail
 go_cut [] (λwx=>Hid (StB cd C i y fr d c w wx))
 case first=>
  by_cases he:endsB y.run=ϑ
  .have f:y.run.Q.K=4\/y.run.Q.K=5:=by unfold endsB at he;simpa using he
   have HE:=Lh he;clear he;cases fr with
   | true=>
    have A:Hid (StB cd C i y ϑ d c w O):=Lh ⟨T,C,bV.o.grow Q.o,bT.o.trans (AT.ob Q.o Qx),.inl ⟨HE.o,rfl,rfl⟩⟩;rcases f with f|f
    .have d4:=ζ y.run.Q.K 4 f
     have g:=Lh f;clear f;go_wp2;go_meet
     case rel=>exact A
    .have d4:(y.run.Q.K == 4)=ϝ:=by simp [f]
     have d5:=ζ y.run.Q.K 5 f;have g:=Lh f;clear f;go_wp2;go_meet
     case rel=>exact A
   | false=>
    have bU:=Lh (scommit_any cd I K J L B C T d i y y.run.Q.X y.run.Q.V w0 O (dX.o.grow Q.o) p.o.2.2.2.2.2.2.1 (bV.o.grow Q.o) l.o (by rw [aX.o.1];have:=p.o.2.2.2.2.2.1;omega) dW.o.2.2.2.2 dW.o.2.2.2.1);rcases f with f|f
    .have d4:=ζ y.run.Q.K 4 f
     have g:=Lh f;clear f;go_wp2_with fail;refine bU.o.mono ?_;rintro e H ⟨rfl,s',aV,c',aN,Y⟩;have A:Hid (StB cd C i y ϝ d c w H):=Lh ⟨c',s',aN,(bT.o.trans (AT.ob Q.o Qx)).trans Y,.inr (.inl ⟨HE.o,rfl,aV⟩)⟩;clear aV aN Y r0 D;go_wp2;go_meet
     case rel=>exact A
    .have d4:(y.run.Q.K == 4)=ϝ:=by simp [f]
     have d5:=ζ y.run.Q.K 5 f;have g:=Lh f;clear f;go_wp2_with fail;refine bU.o.mono ?_;rintro e H ⟨rfl,s',aV,c',aN,Y⟩;have A:Hid (StB cd C i y ϝ d c w H):=Lh ⟨c',s',aN,(bT.o.trans (AT.ob Q.o Qx)).trans Y,.inr (.inl ⟨HE.o,rfl,aV⟩)⟩;clear aV aN Y r0 D;go_wp2;go_meet
     case rel=>exact A
  .have cZ:endsB y.run=ϝ:=by simpa using he
   have hR:=l.o.ok.mach.run cZ;have cG:Fy cd y.run.Q:=by obtain ⟨fs,ff,hw⟩:=hR.waits;exact hw.Q l.o.inv.sound
   have dU:=Lh hR;have aU:=Lh cG;have HE:=Lh cZ;have d4:(y.run.Q.K == 4)=ϝ:=by have:=cG.K;simp;omega
   have d5:(y.run.Q.K == 5)=ϝ:=by have:=cG.K;simp;omega
   have bW:=Lh (dX.o.grow Q.o);have X:=Lh (bV.o.grow Q.o);have cL:=@Lh (O.cell? (π d 5)=ς (σ (ς (π M 0)) C.active aG)) (AB Q.o fB.o.2.2);clear he cZ hR cG;go_upto_if 59 with fail
   go_cut [9,10] (λs9 fW wx=>∃ S ok,s9=ι S/\fW=.bool ok/\Hid (StC cd C i y d M aG T O wx S ok))
   case first=>
    by_cases f:y.run.Q.K=3
    .have d3:=ζ y.run.Q.K 3 f
     obtain ⟨kn,eJ,fP,dF⟩:=aU.o.alloc f;obtain ⟨kn,rfl⟩:∃ q:Nat,kn=q:=⟨kn.toNat,ω⟩
     have dA:y.run.Q.D=(y.run.Q.D.toNat:Int):=by have:=aU.o.D;omega
     have aS:=salloc_any cd I K J L B C T d i M aG y y.run.Q kn y.run.Q.D.toNat w0 O bW.o X.o l.o.hx cL.o dA eJ ω (by have N:=l.o.inv.vers.len;have h2:=l.o.inv.M.len;omega) (by have N:=l.o.ok.N;have h2:=aX.o.1;have h3:=p.o.2.2.2.2.2.1;omega);rw [<-dA] at aS;have aS:=Lh aS;have g:=Lh f;clear f eJ fP dF dA;go_wp2_with fail;refine aS.o.mono ?_;rintro e H (⟨bL,rfl,Z,aO,P,U⟩|⟨bL,rfl,Z,aO,P,U⟩)
     .have A:Hid (StC cd C i y d M aG T O H ((C.M.N:Int)+1) ϑ):=Lh ⟨Z,_,_,aO,P,List.getElem?_set_self (Ll l.o.hx),rfl,U,ψ,.inl ⟨rfl,by unfold Bj;rw [if_neg (by rw [g.o];omega),if_pos g.o];simp;omega,λa hm=>.inl ⟨g.o,bL,a,hm,by unfold setX newN;simp [List.set_set]⟩⟩⟩
      clear bL aO P U r0 D d3 d4 d5;go_wp2;go_meet
      case rel=>exact ⟨_,_,rfl,rfl,A⟩
     .have A:Hid (StC cd C i y d M aG T O H 0 ϑ):=Lh ⟨Z,_,_,aO,P,l.o.hx,rfl,U,rfl,.inl ⟨rfl,by unfold Bj;rw [if_neg (by rw [g.o];omega),if_pos g.o];simp,λa hm=>.inr (.inl ⟨g.o,bL,a,hm,rfl⟩)⟩⟩
      clear bL aO P U r0 D d3 d4 d5;go_wp2;go_meet
      case rel=>exact ⟨_,_,rfl,rfl,A⟩
    .have d3:=ξ y.run.Q.K 3 f
     have g:=Lh f;have cF:0<=y.run.Q.O/\y.run.Q.O<=1099511627776:=⟨aU.o.O,aU.o.nodeV.2⟩
     by_cases hl:y.run.Q.D<((Bd C.M y.run.Q).length:Int)
     .have aS:=Lh (saccess_any C T d i M aG y y.run.Q O X.o l.o.hx cL.o cF ⟨aU.o.D,hl⟩ (by have N:=l.o.ok.N;have h2:=aX.o.1;have h3:=p.o.2.2.2.2.2.1;omega) (by have N:=l.o.ok.count;have h2:=aX.o.1;have h3:=p.o.2.2.2.2.2.1;omega))
      have HL:=Lh hl;clear f cF hl;go_wp2_with fail;refine aS.o.mono ?_;rintro e H ⟨rfl,Z,aO,P,U⟩;have hA:=(acc_ok l.o.inv.M l.o.ok aU.o g.o HL.o l.o.ok.mach).2;have A:Hid (StC cd C i y d M aG T O H (accX C y y.run.Q).2 ϑ):=Lh ⟨Z,_,(accX C y y.run.Q).1,aO,P,List.getElem?_set_self (Ll l.o.hx),acc_run _ _ _,U,ψ,.inl ⟨rfl,hA,λa hm=>.inr (.inr (.inl ⟨g.o,HL.o,a,hm,by unfold setX;simp [List.set_set]⟩))⟩⟩;clear aO P U hA r0 D d3 d4 d5;go_wp2;go_meet
      case rel=>exact ⟨_,_,rfl,rfl,A⟩
     .have aS:=Lh (saccess_no C T d M i y.run.Q O X.o cF aU.o.D hl)
      have cP:∀ H,Below O O H->Hid (StC cd C i y d M aG T O H 0 ϝ):=λH bB=>Lh ⟨T,C,y,X.o.grow bB,AT.ob bB Qx,l.o.hx,rfl,AB bB cL.o,rfl,.inr ⟨rfl,rfl,g.o,hl⟩⟩;have cP:=Lh cP;clear f cF hl;go_wp2_with fail;refine aS.o.mono ?_;rintro e H ⟨rfl,bB⟩;have A:=cP.o H bB;clear bB r0 D d3 d4 d5;go_wp2;go_meet
      case rel=>exact ⟨_,_,rfl,rfl,A⟩
   obtain ⟨S,ok,rfl,rfl,hC⟩:=hcut;clear r0 D d4 d5 cE;obtain ⟨Z,s3,x3,aO,P,cH,aP,U,fQ,bJ⟩:=hC.o;have bX:=Lh (bW.o.go P);have aZ:=Lh aO;have dR:=Lh ((bT.o.trans (AT.ob Q.o Qx)).trans P);have aJ:=((cN.o.go (AT.ob Q.o Qx)).go P:Box0 wc Z (w:Nat) (Bc I J K L cd)).cells;have D:=Γ3 aJ;have cE:=Bl D.1;have fG:=@Lh (Z (w:Nat)=0) (((cN.o.go (AT.ob Q.o Qx)).go P).2);clear aJ aO P hC;rcases bJ with ⟨rfl,aY,eG⟩|⟨rfl,rfl,eI,eM⟩
   .obtain ⟨aC,cS,gO,gS,gU,q5,eC,bM,eH,r,aR,-,-,dD⟩:=aZ.o.viewX cH
    obtain ⟨rfl,rfl⟩:aC=M/\cS=aG:=by have:=q5.symm.trans U;simp at this;exact ⟨this.1,this.2.2⟩
    rw [aP] at aR;obtain ⟨bY,bZ,rfl⟩:=aR.form;have m0:wc.cell? (π aC (i*13))=ς (σ bY y.run.J bZ):=by have:=r 0 _ rfl;rw [Nat.add_zero] at this;exact this
    have m1:wc.cell? (π aC (i*13+1))=ς (ι y.run.Q.K):=by rw [<-aP];exact r 1 _ rfl
    have m2:wc.cell? (π aC (i*13+2))=ς (ι y.run.Q.O):=by rw [<-aP];exact r 2 _ rfl
    have m3:wc.cell? (π aC (i*13+3))=ς (ι y.run.Q.D):=by rw [<-aP];exact r 3 _ rfl
    have m4:wc.cell? (π aC (i*13+4))=ς (ι y.run.Q.V):=by rw [<-aP];exact r 4 _ rfl
    have m5:wc.cell? (π aC (i*13+5))=ς (ι y.run.Q.X):=by rw [<-aP];exact r 5 _ rfl
    have m6:wc.cell? (π aC (i*13+6))=ς (ι y.run.Y):=by rw [<-aP];exact r 6 _ rfl
    have m7:wc.cell? (π aC (i*13+7))=ς (ι y.run.C):=by rw [<-aP];exact r 7 _ rfl
    have m8:wc.cell? (π aC (i*13+8))=ς (ι y.run.I):=by rw [<-aP];exact r 8 _ rfl
    have E:=Lh (ϟ eC (ϟ bM eH));have cQ:=Lh aR;have fC:=Lh aY;have cO:=Lh (ϟ cH (ϟ U eG));have fF:Hid (∀ V,Below wc wc V->Calls prog 77 #[.agg (Bc I J K L cd),.agg #[σ bY y.run.J bZ,ι y.run.Q.K,ι y.run.Q.O,ι y.run.Q.D,ι y.run.Q.V,ι y.run.Q.X,ι y.run.Y,ι y.run.C,ι y.run.I],ι S] V (λe w'=>∃ a va vc,ED cd y.run S a/\e=.returned (.tuple #[.agg #[σ va a.J vc,ι a.Q.K,ι a.Q.O,ι a.Q.D,ι a.Q.V,ι a.Q.X,ι a.Y,ι a.C,ι a.I],ι 0])/\CE V (σ va a.J vc) a w')):=Lh (λV hV=>by
     have fN:=(JT.mask wc Z).trans (JT.below hV);have cY:=bX.o.grow hV;refine (TP cd (.agg (Bc I J K L cd)) y.run (σ bY y.run.J bZ) S V V cY.laid (Nr _) (cY.code.up cY.size) (aR.ups Dx (by rw [Hk];exact hV.size) fN) p.o.2.2.2.2.2.2.1).mono ?_;have gP:=FB dU.o.asks;rintro e w' (⟨h,_⟩|⟨_,h,_⟩|⟨_,_,h,_⟩|⟨_,_,_,a,fv,N,h2,h3⟩)
     .exact absurd (l.o.ok.mach.valid l.o.inv.sound) h
     .exfalso;have N:=aU.o.K;omega
     .rw [aY] at h;cases h
     .obtain ⟨F,k1,k2⟩:=h3
      obtain ⟨va,vc,rfl⟩:=k1.form;exact ⟨a,va,vc,N,h2,F,k1,k2⟩)
    clear q5 eC bM eH r aR dD aY eG cH U aP;go_upto_region 13 with fail;refine Ac (λVs=>Vs.cell? (π w 0)=ς (σ I cd.H J)/\Vs.cell? (π w 1)=ς (ι cd.G)/\Vs.cell? (π w 2)=ς (σ K cd.funcs L)) [5,7,8,9,10,13] ϝ 14 rfl κ κ ⟨D.1,D.2.1,D.2.2⟩ ?_;refine softA ?_;refine AH κ ?_;go_simp;have g:=Lh (ϟ D.1 (ϟ D.2.1 (ϟ D.2.2 (ϟ m0 (ϟ m1 (ϟ m2 (ϟ m3 (ϟ m4 (ϟ m5 (ϟ m6 (ϟ m7 m8)))))))))));clear D m0 m1 m2 m3 m4 m5 m6 m7 m8 cE;refine AH κ ?_;go_simp;refine (fF.o _ (AG Br 1)).mono ?_;rintro e G ⟨a,va,vc,hN,rfl,cV⟩;have eE:=(AG (Below.refl (wc:Nat) wc) 1).th cV.below;have z:=Lh eE;have HN:=Lh hN;have eL:MacS cd a:=by have N:=TX l.o.inv.sound dU.o fC.o hN;exact ⟨N.1,N.2.1,N.2.2⟩
    have fE:=Lh (cV.fras (c:=Z) (λb hb=>aZ.o.hi b (by simpa using hb)) (eL.modest l.o.inv.sound p.o.2.2.2.2.2.2.1));clear cV hN eE eL;refine ⟨⟨AB z.o g.o.1,AB z.o g.o.2.1,AB z.o g.o.2.2.1⟩,?_⟩
    (refine' Ae κ _ (λwV bH=>?_) ?_;rotate_left;(clear bH;go_simp);(try with_reducible rfl);try simp only [Ap])
    (refine' Ae κ _ (λwV bH=>?_) ?_;rotate_left;(clear bH;go_simp);(try with_reducible rfl);try simp only [Ap])
    (refine' Ae κ _ (λwV bH=>?_) ?_;rotate_left;(clear bH;go_simp);(try with_reducible rfl);try simp only [Ap])
    have n0:G.cell? (π aC (i*13))=ς (σ bY y.run.J bZ):=AB z.o g.o.2.2.2.1;have f0:G.frozen? (π aC (i*13))=ϝ:=by rw [z.o.frozen E.o.2.1];exact E.o.2.2 _
    have n1:G.cell? (π aC (i*13+1))=ς (ι y.run.Q.K):=AB z.o g.o.2.2.2.2.1;have f1:G.frozen? (π aC (i*13+1))=ϝ:=by rw [z.o.frozen E.o.2.1];exact E.o.2.2 _
    have n2:G.cell? (π aC (i*13+2))=ς (ι y.run.Q.O):=AB z.o g.o.2.2.2.2.2.1;have f2:G.frozen? (π aC (i*13+2))=ϝ:=by rw [z.o.frozen E.o.2.1];exact E.o.2.2 _
    have n3:G.cell? (π aC (i*13+3))=ς (ι y.run.Q.D):=AB z.o g.o.2.2.2.2.2.2.1;have f3:G.frozen? (π aC (i*13+3))=ϝ:=by rw [z.o.frozen E.o.2.1];exact E.o.2.2 _
    have n4:G.cell? (π aC (i*13+4))=ς (ι y.run.Q.V):=AB z.o g.o.2.2.2.2.2.2.2.1;have f4:G.frozen? (π aC (i*13+4))=ϝ:=by rw [z.o.frozen E.o.2.1];exact E.o.2.2 _
    have n5:G.cell? (π aC (i*13+5))=ς (ι y.run.Q.X):=AB z.o g.o.2.2.2.2.2.2.2.2.1;have f5:G.frozen? (π aC (i*13+5))=ϝ:=by rw [z.o.frozen E.o.2.1];exact E.o.2.2 _
    have n6:G.cell? (π aC (i*13+6))=ς (ι y.run.Y):=AB z.o g.o.2.2.2.2.2.2.2.2.2.1;have f6:G.frozen? (π aC (i*13+6))=ϝ:=by rw [z.o.frozen E.o.2.1];exact E.o.2.2 _
    have n7:G.cell? (π aC (i*13+7))=ς (ι y.run.C):=AB z.o g.o.2.2.2.2.2.2.2.2.2.2.1;have f7:G.frozen? (π aC (i*13+7))=ϝ:=by rw [z.o.frozen E.o.2.1];exact E.o.2.2 _
    have n8:G.cell? (π aC (i*13+8))=ς (ι y.run.I):=AB z.o g.o.2.2.2.2.2.2.2.2.2.2.2;have f8:G.frozen? (π aC (i*13+8))=ϝ:=by rw [z.o.frozen E.o.2.1];exact E.o.2.2 _
    obtain ⟨st,cg⟩:=(aZ.o.grow z.o).setMac cO.o.1 (AB z.o cO.o.2.1) E.o.1 (m:=a) (by unfold fraP;rw [Hk];exact fE.o);have eT:FW (σ va a.J vc) a=[σ va a.J vc,ι a.Q.K,ι a.Q.O,ι a.Q.D,ι a.Q.V,ι a.Q.X,ι a.Y,ι a.C,ι a.I]:=rfl;rw [eT] at st cg;obtain ⟨W8,cX⟩:=ε (putsW G aC (i*13) [σ va a.J vc,ι a.Q.K,ι a.Q.O,ι a.Q.D,ι a.Q.V,ι a.Q.X,ι a.Y,ι a.C,ι a.I]);rw [<-cX] at st cg;have A:Hid (StB cd C i y fr d c w W8):=Lh ⟨Z,_,st,((dR.o.trans (AT.ob z.o Qx)).trans (cg.mono (λt ht=>by unfold NZ;omega) Qx)),.inr (.inr ⟨HE.o,cO.o.2.2 a HN.o⟩)⟩;have fJ:=Lh cX;have q0:=Δ3 z.o g.o.1 g.o.2.1 g.o.2.2.1;have bN:aC≠(w:Nat):=λe=>by have N:=E.o.1;have h2:=fG.o;rw [e] at N;omega
    have dG:(w:Nat)≠aC:=λe=>bN e.symm;clear st cg eT cX;refine AH κ ?_;go_simp;rw [puts9,<- fJ.o];refine BH ?_;clear q0 bN dG;clear n0 f0 n1 f1 n2 f2 n3 f3 n4 f4 n5 f5 n6 f6 n7 f7 n8 f8;go_wp2;go_meet
    case rel=>exact A
   .have bU:=Lh (scommit_any cd I K J L B s3 Z d i y 11 0 w0 wc bX.o p.o.2.2.2.2.2.2.1 aZ.o l.o (by rw [aX.o.1];have:=p.o.2.2.2.2.2.1;omega) (by unfold in64;omega) (by unfold in64;omega))
    have dT:=Lh (ϟ eI eM);clear eI eM cH aP U fQ;go_wp2_with fail;refine bU.o.mono ?_;rintro e H ⟨rfl,s',aV,c',aN,Y⟩;have A:Hid (StB cd s3 i y fr d c w H):=Lh ⟨c',s',aN,dR.o.trans Y,.inr (.inr ⟨HE.o,.inr (.inr (.inr ⟨dT.o.1,by have:=dT.o.2;omega,aV⟩))⟩)⟩;clear aV aN Y D cE;go_wp2;go_meet
    case rel=>exact A
 obtain ⟨c2,s2,bG,cU,cA⟩:=hcut.o;have X:=Lh bG;have gL:=Lh cA;have gK:=Lh cU;have dH:s2.U=s.U:=by rw [(l.o.goS cA).2,aX.o.1]
 have fL:wc.cell? (π d 12)=ς (ι s.U):=by rw [<-dH];exact GStAt.p0 (show GStAt wc c2 _ d (traG s2) from bG) (j:=12) rfl
 have fM:wc.frozen? (π d 12)=ϝ:=GStAt.frz (show GStAt wc c2 _ d (traG s2) from bG) 12;have ew:IntKind.i64.wrap (s.U+1)=s.U+1:=by have N:=p.o.1.clock;have h2:=p.o.2.2.2.2.2.1;rw [IntKind.wrap_i64]<;>omega
 obtain ⟨st,cg⟩:=bG.num (j:=12) (n:=s.U+1) (s':=tickS s2) (by unfold tickS;rw [dH];rfl);obtain ⟨W4,cW⟩:=ε (wc.setCell (π d 12) (ι (s.U+1)));rw [<-cW] at st cg;have A:Hid (StepIs4 cd s i d c w (.returned (.tuple #[])) W4):=Lh ⟨rfl,tickS s2,aX.o.2 s2 cA,c2,st,cU.trans (cg.mono (λt ht=>by unfold NZ;omega) Qx)⟩;have fI:=Lh cW;clear bG cU cA dH st cg cW hcut r0 D;go_wp2_with fail;rw [<-fI.o];clear fL fM
 go_end0
 exact A.o
