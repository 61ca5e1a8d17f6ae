import Derived.Test.YtigbfkiddlhhjaaGreatDoorSpj
set_option maxHeartbeats 4000000
set_option maxRecDepth 100000
set_option linter.all false
open Option renaming some→ς
open And renaming intro→ϟ
open Go.Value renaming slice→σ
open Go.Obj renaming cells→χ
namespace Go.Proofs.YtigbfkiddlhhjaaGreatDoor
open Go.RowKit Proofs.Tryz
variable {α:Type} {k:Int} {x:Trx} {s:Tra} {r:Int×Int}
def idx_find (p:α->Bool) (l:List α):Cz p l=match l.findIdx? p with|some k=>(k:Int)|none=>-1:=rfl
def accN (r:Rq) (x:Trx):Trx:=if 0<r.O then { x with N:=x.N+1 } else x
def belowDr (w:World) (q:Nat):Below w w (w.drewN q):=AG Br q
def info_arr3:(prog.info? 120).map (λi=>(i.zero,i.size,i.bytes))=ς (ς (.agg #[ι 0,ι 0,ι 0]),3,24):=by kernel_rfl
def info_arr2:(prog.info? 85).map (λi=>(i.zero,i.size,i.bytes))=ς (ς (.agg #[ι 0,ι 0]),2,16):=by kernel_rfl
def SaccIs (s:Tra) (i:Nat) (x:Trx) (r:Rq) (bt ab cap:Nat) (c:A1) (w:World) (e:Ending) (w':World):Prop:=
 e=.returned (.tuple #[ι (accX s x r).2,.bool true])/\PostA c bt { s with active:=s.active.set i (accX s x r).1 } ab s.active.length cap w w'
def saccess_any (s:Tra) (c:A1) (G i ab cap:Nat) (x:Trx) (r:Rq) (w:World) (h:SAt w c G s) (hx:s.active[i]?=ς x) (dA:w.cell? (π G 5)=ς (σ (ς (π ab 0)) s.active cap))
  (hn:0<=r.O/\r.O<=1099511627776) (hf:0<=r.D/\r.D<((Bd s.M r).length:Int)) (eO:0<=x.N/\x.N<=1099511627776) (T:x.reads.length<=1000000000/\x.writes.length<=1000000000) :
  Calls prog 76 #[.pointer (ς (π G 0)),.pointer (ς (π ab (i*13))),.agg #[ι r.K,ι r.O,ι r.D,ι r.V,ι r.X]] w (SaccIs s i x r G ab cap c w):=by
 obtain ⟨W,hW⟩:=ε (w.alloc (χ #[ι r.K,ι r.O,ι r.D,ι r.V,ι r.X] 57));have dC:=Lh (bl1 hW);have bO:W.heap[(w:Nat)]?=ς (χ #[ι r.K,ι r.O,ι r.D,ι r.V,ι r.X] 57 (0,0)):=ro11 hW;have c0:=Cw bO 0 rfl;have c1:=Cw bO 1 rfl;have Y:=Cw bO 2 rfl;have c3:=Cw bO 3 rfl;obtain ⟨HS,dU,cF,cS⟩:=Λ4 (h.grow dC.o) (AB dC.o dA) hx hf;have eA:=Lh (place_any s.M G r.O r.D W HS.o.memRd hn.1 hf.1 hn.2);have dQ:Bd s.M (plcR r.O r.D)=Bd s.M r:=rfl;have eB:=Lh dQ;have dK:=@Lh (c (w:Nat)=0) (h.hi _ (Nr _));clear bO h dA hx hf dQ;go_enter func76,ntmps76;go_upto_region 1 with fail;rw [<-hW];clear hW;go_wp2_with fail;refine eA.o.mono ?_;rintro e W2 ⟨aX,(⟨bC,rfl⟩|⟨bC,pb,po,bW,rfl⟩)⟩
 .exfalso
  rw [eB.o] at bC;have:=cS.o.2;have e:(plcR r.O r.D).D=r.D:=rfl;omega
 have cD:=Lh (HS.o.grow aX);have aZ:=Lh (AB aX dU.o);obtain ⟨d0,d1,d2,d3⟩:=Δ4 aX c0 c1 Y c3;have dG:=HS.o.placeC (r:=r) bW cS.o.1 cS.o.2;have cU:=Lh dG;have bV:W2.cell? (π pb (po+(plcR r.O r.D).D.toNat))=ς (ι ((Bd s.M r).getD r.D.toNat 0)):=AB aX dG.1;have dL:=Lh bV;have dV:=Lh (dC.o.th aX);clear aX c0 c1 Y c3 bC bW dG bV;go_upto_if 21 with fail
 go_cut [] (λwx=>Hid (SAt wx c G { s with active:=s.active.set i (accN r x) }/\AT NZ c c W2 wx/\wx.cell? (π G 5)=ς (σ (ς (π ab 0)) s.active cap)/\wx.cell? (π pb (po+(plcR r.O r.D).D.toNat))=ς (ι ((Bd s.M r).getD r.D.toNat 0))/\(∀ j v,([Value.int .i64 r.K,ι r.O,ι r.D,ι r.V]:List Value)[j]?=ς v->wx.cell? (π w j)=ς v)))
 case first=>
  by_cases bE:0<r.O
  .have dn:=η (0<r.O) bE
   have cT:=@Lh (accN r x={ x with N:=x.N+1 }) (by unfold accN;rw [if_pos bE]);have m:=cD.o.viewX cF.o;obtain ⟨l,aJ,eK,eL,eM,q5,cL,cM,cB,aC,-,-,-,-⟩:=m;obtain ⟨rfl,rfl⟩:l=ab/\aJ=cap:=by have:=q5.symm.trans aZ.o;simpa using this
   have qc:W2.cell? (π l (i*13+10))=ς (ι x.N):=aC 10 _ rfl;have qf:=cB (i*13+10);have eJ:IntKind.i64.wrap (x.N+1)=x.N+1:=by rw [IntKind.wrap_i64]<;>omega
   obtain ⟨B,cg⟩:=cD.o.setF (k:=10) (u:=ι (x.N+1)) (y:=.p (ι (x.N+1))) (x:={ x with N:=x.N+1 }) cF.o q5 ω rfl rfl;have HJ:Hid (∀ j v,([Value.int .i64 r.K,ι r.O,ι r.D,ι r.V]:List Value)[j]?=ς v->W2.cell? (π w j)=ς v):=Lh (λj v m=>by
    match j,m with
    | 0,m=>cases m;exact d0
    | 1,m=>cases m;exact d1
    | 2,m=>cases m;exact d2
    | 3,m=>cases m;exact d3
    | j+4,m=>simp at m)
   obtain ⟨W3,dB⟩:=ε (W2.setCell (π l (i*13+10)) (ι (x.N+1)));rw [<-dB] at B cg;have D:=Lh (ϟ B cg);have eF:=Lh dB;clear bE q5 cL cM cB aC B cg dB;rw [dn];go_wp2_with fail;rw [<-eF.o];go_meet
   case rel=>refine Lh ⟨by rw [cT.o];exact D.o.1,D.o.2.mono (λt ht=>by unfold NZ;omega) Qx,D.o.2.cell aZ.o (by show ¬c G=25;rw [cD.o.lab];omega),D.o.2.cell dL.o (by show ¬c pb=25;rcases cU.o.2 with e|⟨k,e⟩<;>(rw [e];omega)),λj v m=>D.o.2.cell (HJ.o j v m) (by show ¬c (w:Nat)=25;rw [dK.o];omega)⟩
  .have dn:=θ (0<r.O) bE
   have cT:=@Lh (accN r x=x) (by unfold accN;rw [if_neg bE]);have HJ:Hid (∀ j v,([Value.int .i64 r.K,ι r.O,ι r.D,ι r.V]:List Value)[j]?=ς v->W2.cell? (π w j)=ς v):=Lh (λj v m=>by
    match j,m with
    | 0,m=>cases m;exact d0
    | 1,m=>cases m;exact d1
    | 2,m=>cases m;exact d2
    | 3,m=>cases m;exact d3
    | j+4,m=>simp at m)
   clear bE;rw [dn];go_wp2;go_meet
   case rel=>refine Lh ⟨?_,AT.ob Br Qx,aZ.o,dL.o,HJ.o⟩;rw [cT.o,Uu cF.o];exact cD.o
 have HC:=Lh hcut.o;clear d0 d1 d2 d3 hcut;have hi:=(Ll cF.o)
 have dI:(s.active.set i (accN r x))[i]?=ς (accN r x):=by rw [List.getElem?_set_self hi]
 obtain ⟨l,aJ,fv,rv,wv,q5,cL,cM,cB,aC,-,dH,cK,-⟩:=HC.o.1.viewX dI;obtain ⟨rfl,rfl⟩:l=ab/\aJ=cap:=by have:=q5.symm.trans HC.o.2.2.1;simp at this;exact this
 have cA:(accN r x).writes=x.writes:=by unfold accN;split<;>rfl
 have bZ:(accN r x).reads=x.reads:=by unfold accN;split<;>rfl
 rw [cA] at cK;rw [bZ] at dH;have dO:wc.cell? (π l (i*13+12))=ς wv:=aC 12 _ rfl;have dN:wc.cell? (π l (i*13+11))=ς rv:=aC 11 _ rfl;obtain ⟨j0,j1,j2,j3⟩:=Γ4 HC.o.2.2.2.2;have dZ:=Lh (indexFunc_Wr 108 #[.pointer (ς (π w 0))] (wrAt r) x.writes wv (wc:Nat) wc enters_access1 (Nr _) (leafWr cK) (access1_fn r (w:Nat) wc j1 j2));have cE:=Lh (ϟ dH cK);have Q:=Lh (ϟ cL (ϟ cM cB));have cY:=Lh dI;clear q5 cL cM cB aC dH cK dI;go_wp2_with fail;refine dZ.o.mono ?_;rintro e d ⟨rfl,V⟩;have X:=Lh (HC.o.1.grow V);have aI:=Lh (AB V HC.o.2.2.1);have bB:=AB V HC.o.2.2.2.1;have dY:=Lh (HC.o.2.1.trans (AT.ob V Qx));have cC:=@Lh (AT NZ c c w d) ((AT.ob dV.o Qx).trans dY.o);have N:=Δ5 V dO dN j0 j1 j2;have g3:=AB V j3;clear j0 j1 j2 j3 dO dN;have R:=Lh V;clear V;rw [idx_find];by_cases O:r.K=2
 .have dk:=ζ r.K 2 O
  cases J:x.writes.findIdx? (wrAt r) with
  | none=>
   dsimp only;have L:LeafAt d c (100+16*(i*13+12)+5) wv (wrQ x.writes):=cE.o.2.kp (S:=NO) (AT.ob R.o (no 0)) (no _);obtain ⟨wa,aQ,rfl,-,-,bY,-⟩:=LeafAt.at2 L (n:=x.writes.length) (by rw [flat_sz3]) ω;have cV:=Lh bY;have A:=@Lh (accX s x r=({ accN r x with writes:=(accN r x).writes++[(r.O,r.D,r.V)] },0)) (by rw [cA];unfold accX accN;rw [J];simp only [if_pos O]);have eI:=Lh cA;have eG:=Lh T.2;clear O J L bY cA bZ T;go_upto_region 9 with fail;refine Ac (λp=>p.cell? (π l (i*13+12))=ς (σ wa x.writes aQ)/\p.cell? (π w 1)=ς (ι r.O)/\p.cell? (π w 2)=ς (ι r.D)/\p.cell? (π w 3)=ς (ι r.V)) [12,13,16] true 17 rfl κ κ ⟨N.1,N.2.2.2.1,N.2.2.2.2,g3⟩ ?_;refine softA ?_;have aW:=Lh (ϟ N.1 (ϟ N.2.2.2.1 (ϟ N.2.2.2.2 g3)));clear N g3 bB;refine AH κ ?_;go_simp;have C:Below d d (d.alloc (χ #[ι r.O,ι r.D,ι r.V] 120)):=AA _ _;refine ⟨Θ4 C aW.o,?_⟩;obtain ⟨a,F⟩:=ε ((d.alloc (χ #[ι r.O,ι r.D,ι r.V] 120)).drew);rw [<-F];have bF:a.heap[(d:Nat)]?=ς (χ #[ι r.O,ι r.D,ι r.V] 120 (0,0)):=by rw [F];exact Hn _ _
   have cG:AT NO c c d a:=AT.ob (by rw [F];exact Cb _ _) (no 0);have dW:=Lh cG;have bT:∀ b,(a:Nat)<=b->c b=0:=λb hb=>X.o.hi b (Nt cG.size hb);clear F C;refine AH κ ?_;refine Dz (λk=>k=100+16*(i*13+12)+5) (.tmp 44) (.tmp 52) 60 120 rfl underlying60 info_arr3 rfl δ δ (c:=c) (tag:=100+16*(i*13+12)+5) (v:=σ wa x.writes aQ) (n:=x.writes.length) (xs:=x.writes.flatMap wrL) rfl (cV.o.kp cG (no _)) (π d 0) 1 1 [ι r.O,ι r.D,ι r.V] rfl rfl (λj u hu=>by rw [GB,Nat.zero_add,cell_of_row _ _ _ _ _ _ bF];simpa using hu) (by simp [Value.oneCell']) δ (by have:=eG.o;omega) rfl ω bT (λg aM w2 Y aP hC bS dE=>?_);have o:=hC.aft dW.o;have I:Hid (c l=25/\c (w:Nat)=0):=Lh ⟨Q.o.1,dK.o⟩;have y1:=o.cell aW.o.1 (by show ¬c l=_;rw [I.o.1];omega);have y2:=o.cell aW.o.2.1 (by show ¬c (w:Nat)=_;rw [I.o.2];omega);have y3:=o.cell aW.o.2.2.1 (by show ¬c (w:Nat)=_;rw [I.o.2];omega);have y4:=o.cell aW.o.2.2.2 (by show ¬c (w:Nat)=_;rw [I.o.2];omega);have bQ:d.frozen? (π l (i*13+12))=false:=by rw [R.o.frozen Q.o.2.1];exact Q.o.2.2 _
   have yf:=o.frozen (Nl Q.o.2.1 R.o.size) bQ (by show ¬c l=_;rw [I.o.1];omega);have aE:Ao w2 Y (100+16*(i*13+12)+5) 120 3 (σ (ς (π g 0)) (x.writes.length+1) aM) (x.writes.length+1) ((accN r x).writes.flatMap wrL++wrL (r.O,r.D,r.V)):=by rw [eI.o];exact aP
   obtain ⟨B,cg⟩:=X.o.addWr cY.o aI.o aW.o.1 o bS aE;obtain ⟨W6,M⟩:=ε (w2.setCell (π l (i*13+12)) (σ (ς (π g 0)) (x.writes.length+1) aM));rw [<-M] at B cg;have D:=Lh (ϟ B cg);have y5:W6.cell? (π G 5)=ς (σ (ς (π l 0)) s.active aJ):=by rw [M,World.cell?_setCell_other _ _ _ _ ψ];exact o.cell aI.o (by show ¬c G=_;rw [X.o.lab];omega)
   have cZ:=Lh y5;have bM:=Lh M;clear hC bS aP aE dE B cg o bF cG bT bQ y5 M;refine ⟨.inl ⟨y1,y2,y3,y4⟩,?_⟩;refine AH κ ?_;go_simp;refine BH ?_;clear y1 y2 y3 y4 yf;rw [<-bM.o];clear bM;go_wp2_with fail
   go_ret2
   refine ⟨by rw [A.o];rfl,?_⟩;rw [A.o];exact ⟨Y,by simpa using D.o.1,cC.o.trans (D.o.2.mono (λt ht=>by unfold NZ;omega) Qx),cZ.o⟩
  | some k=>
   dsimp only;have bD:k<x.writes.length:=(List.findIdx?_eq_some_iff_getElem.1 J).1;obtain ⟨y,hy⟩:∃ y,x.writes[k]?=ς y:=⟨_,Lg bD⟩
   have L:LeafAt d c (100+16*(i*13+12)+5) wv (wrQ x.writes):=cE.o.2.kp (S:=NO) (AT.ob R.o (no 0)) (no _);obtain ⟨wa,aQ,rfl,-,-,-,h9⟩:=LeafAt.at2 L (n:=x.writes.length) (by rw [flat_sz3]) ω;obtain ⟨b3,rfl,k1,k2,k3,k4⟩:=h9 ω;have dF:(accN r x).writes=x.writes:=by unfold accN;split<;>rfl
   have dP:LeafAt d c (100+16*(i*13+12)+5) (σ (ς (π b3 0)) x.writes aQ) (wrQ (accN r x).writes):=by rw [dF];exact L
   obtain ⟨B,cg⟩:=X.o.modW (k:=k) r.V cY.o (by rw [dF];exact hy) aI.o N.1 dP;obtain ⟨a,F⟩:=ε (d.setCell (π b3 (k*3+2)) (ι r.V));rw [<-F] at B cg;have A:=@Lh (accX s x r=({ accN r x with writes:=(accN r x).writes.modify k (λw=>(w.1,w.2.1,r.V)) },0)) (by rw [dF];unfold accX accN;rw [J];simp only [if_pos O]);have D:=Lh (ϟ B cg);have bL:=Lh F;have cQ:=@Lh (a.cell? (π G 5)=ς (σ (ς (π l 0)) s.active aJ)) (cg.cell aI.o (by show ¬c G=100+16*(i*13+12)+5;rw [X.o.lab];omega));have qf:=k3 (k*3+2);have qc:d.cell? (π b3 (k*3+2))=ς (ι y.2.2):=k4 _ _ (flat_at (f:=wrL) (sz:=3) (λ_=>rfl) hy 2 _ rfl);have i0:=In k;have i1:(k:Int)<(x.writes:Int):=ω;have dg:=θ ((k:Int)<0);clear O J hy h9 k1 k2 k3 k4 L dP B cg F bD;go_upto_region 10 with fail
   go_region
   rw [<-bL.o];clear bL;go_wp2_with fail
   go_ret2
   have dD:Below a a a.drew:=AG Br 1;refine ⟨by rw [A.o];rfl,?_⟩;rw [A.o];exact ⟨c,by simpa using D.o.1.grow dD,(cC.o.trans (D.o.2.mono (λt ht=>by unfold NZ;omega) Qx)).trans (AT.ob dD Qx),AB dD cQ.o⟩
 .have dk:=ξ r.K 2 O
  cases J:x.writes.findIdx? (wrAt r) with
  | none=>
   dsimp only;have L:LeafAt d c (100+16*(i*13+11)+5) rv (rdQ x.reads):=cE.o.1.kp (S:=NO) (AT.ob R.o (no 0)) (no _);obtain ⟨Z,U,rfl,-,-,bY,-⟩:=LeafAt.at2 L (n:=x.reads.length) (by rw [flat_sz2]) ω;have cV:=Lh bY;have eD:=Lh (leafRd L);have A:=@Lh (accX s x r=(if (r.O,r.D)∈x.reads then accN r x else { accN r x with reads:=(accN r x).reads++[(r.O,r.D)] },(Bd s.M r).getD r.D.toNat 0)) (by rw [bZ];unfold accX accN;rw [J];simp only [if_neg O]);have eH:=Lh bZ;have eE:=Lh T.1;clear O J L bY cA bZ T;obtain ⟨a,F⟩:=ε (d.alloc (χ #[ι r.O,ι r.D] 85));have C:=bl1 F;have bF:a.heap[(d:Nat)]?=ς (χ #[ι r.O,ι r.D] 85 (0,0)):=ro11 F;have P:=Ω2 bF;have bG:=AB C N.2.1;have dS:=AB C bB;have zz:(d:Nat)<a:=by rw [sz1 F];omega
   have dM:=Lh (X.o.grow C);have bI:=Lh (AB C aI.o);have cW:=Lh (cV.o.kp (AT.ob C (no 0)) (no _));have bK:=Lh (eD.o.ups (E:=λ_=>RdE) ups_rd C.size (JT.below C));have bJ:=Lh (cC.o.trans (AT.ob C Qx));have aU:Hid (c l=25/\l<a/\∀ k,a.frozen? (π l k)=false):=Lh ⟨Q.o.1,Nl Q.o.2.1 (Nt R.o.size C.size),λk=>by rw [C.frozen (Nl Q.o.2.1 R.o.size),R.o.frozen Q.o.2.1];exact Q.o.2.2 k⟩;have bL:=Lh F;have HQ:=@Lh (c (d:Nat)=0) (X.o.hi _ (Nr _));clear C bF F;go_upto_region 15 with fail;rw [<-bL.o];clear bL N g3 bB;by_cases hm:(r.O,r.D)∈x.reads
   .have cR:Hid (∀ q:Nat,Calls prog 109 #[σ Z x.reads U,.agg #[ι r.O,ι r.D]] (a.drewN q) λe w'=>e=.returned (.bool true)/\Below (a.drewN q).heap.size (a.drewN q) w'):=Lh (λq=>by
     have:=contains_Rd r.O r.D x.reads (σ Z x.reads U) _ (a.drewN q) (Nr _) (bK.o.ups (E:=λ_=>RdE) ups_rd (belowDr a q).size (JT.below (belowDr a q)));rwa [decide_eq_true hm] at this)
    rw [if_pos hm] at A;clear hm;refine Ac (λp=>p.cell? (π l (i*13+11))=ς (σ Z x.reads U)/\p.cell? (π d 0)=ς (ι r.O)/\p.cell? (π d 1)=ς (ι r.D)) [5,6] false 7 rfl κ κ ⟨bG,P.1,P.2⟩ ?_;refine softA ?_;have H:=Lh (ϟ bG (ϟ P.1 P.2));clear bG P;refine AH κ ?_;go_simp;refine (cR.o 1).mono ?_;rintro e K ⟨rfl,bP⟩;have aN:Below a a K:=(belowDr a 1).th bP;have z:=Lh aN;clear bP aN;refine ⟨Θ3 z.o H.o,?_⟩;refine AH κ ?_;go_simp;refine ⟨Θ3 z.o H.o,?_⟩;refine BH ?_;have cN:=Δ4 z.o H.o.1 H.o.2.1 H.o.2.2 dS;go_wp2_with fail
    go_ret2
    refine ⟨by rw [A.o];rfl,?_⟩;rw [A.o];exact ⟨c,dM.o.grow z.o,bJ.o.trans (AT.ob z.o Qx),AB z.o bI.o⟩
   .have cR:Hid (∀ q:Nat,Calls prog 109 #[σ Z x.reads U,.agg #[ι r.O,ι r.D]] (a.drewN q) λe w'=>e=.returned (.bool false)/\Below (a.drewN q).heap.size (a.drewN q) w'):=Lh (λq=>by
     have:=contains_Rd r.O r.D x.reads (σ Z x.reads U) _ (a.drewN q) (Nr _) (bK.o.ups (E:=λ_=>RdE) ups_rd (belowDr a q).size (JT.below (belowDr a q)));rwa [decide_eq_false hm] at this)
    rw [if_neg hm] at A;clear hm;refine Ac (λp=>p.cell? (π l (i*13+11))=ς (σ Z x.reads U)/\p.cell? (π d 0)=ς (ι r.O)/\p.cell? (π d 1)=ς (ι r.D)) [5,6] false 7 rfl κ κ ⟨bG,P.1,P.2⟩ ?_;refine softA ?_;have H:=Lh (ϟ bG (ϟ P.1 P.2));clear bG P;refine AH κ ?_;go_simp;refine (cR.o 1).mono ?_;rintro e K ⟨rfl,bP⟩;have aN:Below a a K:=(belowDr a 1).th bP;have z:=Lh aN;clear bP aN;refine ⟨Θ3 z.o H.o,?_⟩;refine AH κ ?_;go_simp;refine ⟨Θ3 z.o H.o,?_⟩;refine BH ?_;obtain ⟨cN,cO,cP,dJ⟩:=Δ4 z.o H.o.1 H.o.2.1 H.o.2.2 dS;have cX:=Lh (dM.o.grow z.o);have bH:=Lh (AB z.o bI.o);have eC:=Lh (cW.o.kp (AT.ob z.o (no 0)) (no _));go_upto_region 16 with fail;refine Ac (λp=>p.cell? (π l (i*13+11))=ς (σ Z x.reads U)/\p.cell? (π d 0)=ς (ι r.O)/\p.cell? (π d 1)=ς (ι r.D)) [6,7,10] true 11 rfl κ κ ⟨cN,cO,cP⟩ ?_;refine softA ?_;have bA:=Lh (ϟ cN (ϟ cO cP));clear cN cO cP;refine AH κ ?_;go_simp;have cJ:Below K K (K.alloc (χ #[ι r.O,ι r.D] 85)):=AA _ _;refine ⟨Θ3 cJ bA.o,?_⟩;obtain ⟨W8,cI⟩:=ε ((K.alloc (χ #[ι r.O,ι r.D] 85)).drew);rw [<-cI];have dR:W8.heap[(K:Nat)]?=ς (χ #[ι r.O,ι r.D] 85 (0,0)):=by rw [cI];exact Hn _ _
    have cH:AT NO c c K W8:=AT.ob (by rw [cI];exact Cb _ _) (no 0);have dX:=Lh cH;have bU:∀ b,(W8:Nat)<=b->c b=0:=λb hb=>cX.o.hi b (Nt cH.size hb);clear cI cJ;refine AH κ ?_;refine Dz (λk=>k=100+16*(i*13+11)+5) (.tmp 91) (.tmp 93) 37 85 rfl underlying37 info_arr2 rfl δ δ (c:=c) (tag:=100+16*(i*13+11)+5) (v:=σ Z x.reads U) (n:=x.reads.length) (xs:=x.reads.flatMap rdL) rfl (eC.o.kp cH (no _)) (π K 0) 1 1 [ι r.O,ι r.D] rfl rfl (λj u hu=>by rw [GB,Nat.zero_add,cell_of_row _ _ _ _ _ _ dR];simpa using hu) (by simp [Value.oneCell']) δ (by have:=eE.o;omega) rfl ω bU (λg aM w2 Y aP hC bS dE=>?_);have o:=hC.aft dX.o;have I:Hid (c l=25/\c (d:Nat)=0):=Lh ⟨aU.o.1,HQ.o⟩;have y1:=o.cell bA.o.1 (by show ¬c l=_;rw [I.o.1];omega);have y2:=o.cell bA.o.2.1 (by show ¬c (d:Nat)=_;rw [I.o.2];omega);have y3:=o.cell bA.o.2.2 (by show ¬c (d:Nat)=_;rw [I.o.2];omega);have dT:w2.cell? (π pb (po+(plcR r.O r.D).D.toNat))=ς (ι ((Bd s.M r).getD r.D.toNat 0)):=o.cell dJ (by show ¬c pb=_;rcases cU.o.2 with e|⟨k,e⟩<;>(rw [e];omega));have bR:K.frozen? (π l (i*13+11))=false:=by rw [z.o.frozen aU.o.2.1];exact aU.o.2.2 _
    have yf:=o.frozen (Nl aU.o.2.1 z.o.size) bR (by show ¬c l=_;rw [I.o.1];omega);have aE:Ao w2 Y (100+16*(i*13+11)+5) 85 2 (σ (ς (π g 0)) (x.reads.length+1) aM) (x.reads.length+1) ((accN r x).reads.flatMap rdL++rdL (r.O,r.D)):=by rw [eH.o];exact aP
    obtain ⟨B,cg⟩:=cX.o.addRd cY.o bH.o bA.o.1 o bS aE;obtain ⟨W6,M⟩:=ε (w2.setCell (π l (i*13+11)) (σ (ς (π g 0)) (x.reads.length+1) aM));have bX:pb≠l:=λe=>by rcases cU.o.2 with e2|⟨k,e2⟩<;>(rw [e,I.o.1] at e2;omega)
    have eN:W6.cell? (π pb (po+(plcR r.O r.D).D.toNat))=ς (ι ((Bd s.M r).getD r.D.toNat 0)):=by rw [M,World.cell?_setCell_other _ _ _ _ (by simp;exact λe=>absurd e.symm bX)];exact dT
    have y5:W6.cell? (π G 5)=ς (σ (ς (π l 0)) s.active aJ):=by rw [M,World.cell?_setCell_other _ _ _ _ ψ];exact o.cell bH.o (by show ¬c G=_;rw [cX.o.lab];omega)
    rw [<-M] at B cg;have D:=Lh (ϟ B cg);have cZ:=Lh y5;have bM:=Lh M;clear hC bS aP aE dE B cg o dR cH bU bR y5 M bX dT dJ;refine ⟨.inl ⟨y1,y2,y3⟩,?_⟩;refine AH κ ?_;go_simp;refine BH ?_;clear y1 y2 y3 yf;rw [<-bM.o];clear bM;go_wp2_with fail
    go_ret2
    refine ⟨by rw [A.o];rfl,?_⟩;rw [A.o];exact ⟨Y,by simpa using D.o.1,((bJ.o.trans (AT.ob z.o Qx)).trans (D.o.2.mono (λt ht=>by unfold NZ;omega) Qx)),cZ.o⟩
  | some k=>
   dsimp only;have bD:k<x.writes.length:=(List.findIdx?_eq_some_iff_getElem.1 J).1;obtain ⟨y,hy⟩:∃ y,x.writes[k]?=ς y:=⟨_,Lg bD⟩
   obtain ⟨wa,aQ,rfl,-,-,-,hE⟩:=leafWr cE.o.2;rcases hE with h0|⟨b3,o3,rfl,-,hE⟩
   .rw [h0] at bD;simp at bD
   have y2:=AB R.o (hE k y hy).2.2;have A:=@Lh (accX s x r=(accN r x,y.2.2)) (by unfold accX accN;rw [J];simp only [if_neg O,hy];rfl);have k0:=In k;have k1:(k:Int)<(x.writes:Int):=ω;clear O J hy hE;go_wp2_with fail
   go_ret2
   refine ⟨by rw [A.o];rfl,?_⟩;rw [A.o];exact ⟨c,X.o,cC.o,aI.o⟩
def VersOk.at_ {m:Mm} {vs:List (List Int)} {a f:Int} (h:VersOk m vs k) (d:PlaceOk m a f):∃ l,vs[a.toNat]?=ς l/\f.toNat<l.length/\∀ v∈l,0<=v/\v<=k:=by
 have c:f.toNat<(vs.getD a.toNat []).length:=by
  have j:=d.2.1;have b:=d.2.2;by_cases i:a=0
  .subst i
   rw [Gm rfl] at b;have:=h.zero;show f.toNat<(vs.getD 0 []).length;omega
  .have h1:1<=(plcR a f).O:=by have:=d.1;show 1<=a;omega
   obtain ⟨y,g⟩:=Jt h1 j b;rw [IJ h1 g] at b;have:=h.O _ y g;have e:((plcR a f).O - 1).toNat+1=a.toNat:=by show (a - 1).toNat+1=a.toNat;have:1<=a:=h1;omega
   rw [e] at this;omega
 rw [List.getD_eq_getElem?_getD] at c;cases b:vs[a.toNat]? with
 | none=>rw [b] at c;simp at c
 | some l=>rw [b] at c;exact ⟨l,rfl,c,h.vals l (Lm b)⟩
def wrS (s:Tra) (ws:List (Int×Int×Int)):Tra:={ s with clock:=s.clock+1,M:=(ws.foldl (putS (s.clock+1)) (s.M,s.vers)).1,vers:=(ws.foldl (putS (s.clock+1)) (s.M,s.vers)).2 }
def wrS_add (s:Tra) (ws:List (Int×Int×Int)) (w:Int×Int×Int):wrS s (ws++[w])={ wrS s ws with M:=setM (wrS s ws).M (plcR w.1 w.2.1) w.2.2,vers:=(wrS s ws).vers.modify w.1.toNat (·.set w.2.1.toNat (s.clock+1)) }:=by
 unfold wrS;rw [List.foldl_append];rfl
def take_add {l:List α} {k:Nat} {x:α} (h:l[k]?=ς x):l.take (k+1)=l.take k++[x]:=by rw [List.take_add_one,h];rfl
def wrS_ok {c:AQ} {i:Nat} (h:MidS c s i x) (k:Nat):VersOk (wrS s (x.writes.take k)).M (wrS s (x.writes.take k)).vers (s.clock+1)/\∀ a f,(Bd (wrS s (x.writes.take k)).M (plcR a f)).length=(Bd s.M (plcR a f)).length:=by
 have:=fold_put (c:=c) (k:=s.clock+1) (by have:=h.inv.clock.1;omega) (x.writes.take k) s.M s.vers h.inv.M (h.inv.vers.mono ω) (λw b=>(h.ok.writesP w (List.mem_of_mem_take b)).2);exact this.2
def stale_at {k:Nat} (a:x.reads[k]?=ς r) (h:x.start<verAt s r):stale s x=true:=by
 unfold stale;rw [List.any_eq_true];exact ⟨r,Lm a,by simpa using h⟩
def stale_no (h:∀ (j:Nat) r,j<x.reads.length->x.reads[j]?=ς r->¬x.start<verAt s r):stale s x=false:=by
 unfold stale;rw [List.any_eq_false];intro r b;obtain ⟨j,a⟩:=List.mem_iff_getElem?.1 b;have:=h j r (Ll a) a;simpa using this
def verAt_eq {l:List Int} {v:Int} (hl:s.vers[r.1.toNat]?=ς l) (a:l[r.2.toNat]?=ς v):verAt s r=v:=by
 unfold verAt;rw [getD_at hl,getD_at a]
def OrdOk.len {b:List (List Int)} {a:List (Int×Int)} (h:OrdOk b a) (m:0<=k) (c:∀ e∈b,∀ v∈e,v<k):(a:Int)<=k:=by
 have g:∀ n:Nat,n<=a.length->(n:Int) - 1<=lastOf b (a.take n):=by
  intro n;induction n with
  | zero=>intro _;show (0:Int) - 1<=-1;omega
  | succ n l=>
   intro p;obtain ⟨o,f⟩:∃ o,a[n]?=ς o:=⟨_,Lg ω⟩
   have d:=(h.at_ n o f).2.2.2.2;have i:=l ω;have j:lastOf b (a.take (n+1))=(b.getD o.1.toNat []).getD o.2.toNat 0:=by unfold lastOf;rw [take_add f,List.getLast?_concat]
   rw [j];omega
 have d:=g a.length (Nr _);rw [List.take_length] at d;have i:=lastOf_lt h.M (k:=k) ω c;omega
