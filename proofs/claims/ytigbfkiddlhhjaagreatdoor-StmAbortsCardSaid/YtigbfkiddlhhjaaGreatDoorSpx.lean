import Derived.Test.YtigbfkiddlhhjaaGreatDoorSpw
set_option maxHeartbeats 2000000
set_option maxRecDepth 100000
set_option linter.all false
open Go renaming World→Ϣ,Value→ϒ
open Option renaming some→ς
open And renaming intro→ϟ
open Go.Value renaming slice→σ
open Go.Obj renaming cells→χ
namespace Go.Proofs.YtigbfkiddlhhjaaGreatDoor
open Go.RowKit Proofs.Tryz
variable {B cap k:Nat} {w:Ϣ} {vs:List ϒ} {c:A1} {fs:List AY}
def srcInts {a:Option Addr} {n:Nat} {l:List Int} (h:AE B w 1 Aj (σ a n cap) l) (hl:l.length<=1000000):n=l.length/\Src w 1 a n (l.map (Value.int .i64))/\∀ q∈l,in64 q:=by
 obtain ⟨k,m,e,p,r,s,d⟩:=h;obtain ⟨rfl,rfl,rfl⟩:a=k/\n=l.length/\cap=m:=by simpa using e
 refine ⟨rfl,⟨ψ,?_,λu c=>by obtain ⟨_,_,rfl⟩:=List.mem_map.1 c;rfl,hl⟩,λq g=>?_⟩
 .rcases d with h0|⟨b,o,rfl,hb,d⟩
  .left;rw [h0];rfl
  .refine .inr ⟨_,rfl,λj u c=>?_⟩
   rw [List.getElem?_map] at c;cases f:l[j]? with
   | none=>rw [f] at c;simp at c
   | some q=>rw [f] at c;simp at c;subst c;have:=(d j q f).1;rw [Nat.mul_one] at this;rw [GB];exact this
 .rcases d with h0|⟨b,o,rfl,hb,d⟩
  .rw [h0] at g;cases g
  .obtain ⟨i,hi,rfl⟩:=List.getElem_of_mem g
   exact (d i _ (Lg hi)).2
def FrSt (B k:Nat) (vs:List ϒ) (c:A1) (w:Ϣ) (fs:List AY):Prop:=∀ i f,fs[i]?=ς f->in64 f.fn/\in64 f.pc/\vs[i*4]?=ς (ι f.fn)/\vs[i*4+1]?=ς (ι f.pc)/\∃ lv sv,vs[i*4+2]?=ς lv/\vs[i*4+3]?=ς sv/\(i<k->Dq w c 4 lv f.L/\Dq w c 4 sv f.S)/\(k<=i->AE B w 1 Aj lv f.L/\AE B w 1 Aj sv f.S)
def FrSt.kp {T:Nat->Prop} {c':A1} {w':Ϣ} (h:FrSt B k vs c w fs) (j:AT T c c' w w') (b:¬T 4) (g:Below B w w'):FrSt B k vs c' w' fs:=λi f r=>by
 obtain ⟨l,m,n,o,s,t,p,q,d,e⟩:=h i f r;exact ⟨l,m,n,o,s,t,p,q,λa=>⟨(d a).1.kp j b,(d a).2.kp j b⟩,λa=>⟨(e a).1.ints g,(e a).2.ints g⟩⟩
def FrSt.next {f:AY} {lv' sv':ϒ} (h:FrSt B k vs c w fs) (m:fs[k]?=ς f) (p:vs.length=fs.length*4) (hl:Dq w c 4 lv' f.L) (hs:Dq w c 4 sv' f.S):FrSt B (k+1) ((vs.set (k*4+2) lv').set (k*4+3) sv') c w fs:=λi g n=>by
 obtain ⟨a,b,d,l,v,x,r,s,t,u⟩:=h i g n;have y:=(Ll m)
 by_cases q:i=k
 .subst q
  obtain rfl:f=g:=by have:=m.symm.trans n;simpa using this
  refine ⟨a,b,by rw [List.getElem?_set_ne ω,List.getElem?_set_ne ω];exact d,by rw [List.getElem?_set_ne ω,List.getElem?_set_ne ω];exact l,lv',sv',by rw [List.getElem?_set_ne ω,List.getElem?_set_self ω],by rw [List.getElem?_set_self (by rw [List.length_set];omega)],λ_=>⟨hl,hs⟩,λo=>by omega⟩
 .have e:∀ j,j<4->((vs.set (k*4+2) lv').set (k*4+3) sv')[i*4+j]?=vs[i*4+j]?:=λj z=>by rw [List.getElem?_set_ne ω,List.getElem?_set_ne ω]
  refine ⟨a,b,by rw [<-Nat.add_zero (i*4),e 0 ω,Nat.add_zero];exact d,by rw [e 1 ω];exact l,v,x,by rw [e 2 ω];exact r,by rw [e 3 ω];exact s,λo=>t ω,λo=>u ω⟩
def MacPost (m:AV) (w:Ϣ) (e:Ending) (w':Ϣ):Prop:=∃ a cap,e=.returned (.agg (AC (σ a m.J cap) m))/\Below w w w'/\∀ c:A1,(∀ b,(w:Nat)<=b->c b=0)->fraP m.J (mask w' c) (σ a m.J cap)
structure MacSt (m:AV) (w:Ϣ) (bi br k:Nat) (ga:Option Addr) (cap:Nat) (c:A1) (vs:List ϒ) (wr:Ϣ):Prop where
 chg:AT TagNN (EN w) c w wr
 hi:∀ b,(wr:Nat)<=b->c b=0
 box:wr.heap[bi]?=ς (χ (AC (σ ga m.J cap) m) 59 (0,0))/\c bi=1
 res:wr.heap[br]?=ς (χ (AC ν AI) 59 (0,0))/\c br=2
 row:Ao wr c 3 150 4 (σ ga m.J cap) m.J.length vs
 len:vs.length=m.J.length*4
 st:FrSt (w:Nat) k vs c wr m.J
def MacSt.post {m:AV} {wr:Ϣ} {u br:Nat} {a:Option Addr} (h:MacSt m w u br m.J.length a cap c vs wr):MacPost m w (.returned (.agg (AC (σ a m.J cap) m))) (Ai wr br (σ a m.J cap) m):=by
 obtain ⟨p,s⟩:=ε (Ai wr br (σ a m.J cap) m);have b:AT (λt=>t=2) c c wr p:=by rw [s];unfold Ai;exact ((((((((AT.set (T:=λk=>k=2) h.res.2 ω).trans (AT.set h.res.2 ω)).trans (AT.set h.res.2 ω)).trans (AT.set h.res.2 ω)).trans (AT.set h.res.2 ω)).trans (AT.set h.res.2 ω)).trans (AT.set h.res.2 ω)).trans (AT.set h.res.2 ω)).trans (AT.set h.res.2 ω)
 have e:=h.chg.trans (b.mono (λt J=>by unfold TagNN;omega) tn0);rw [<-s];refine ⟨_,_,rfl,e.below0 tn99,λI n=>?_⟩;have C:=(h.row.kp b ω).seen e n δ;have:=C.reads (l:=m.J) (E:=CK p) (λi x j=>?_) (λi x g j f=>?_)
 .unfold fraP
  rw [Hk] at this ⊢;exact this
 .obtain ⟨_,_,o,_⟩:=h.st i x j
  exact ⟨_,o⟩
 .have aA:=(Ll j)
  obtain ⟨v,y,o,z,G,H,A,B,d,_⟩:=h.st i x j;have D:=((d aA).1.kp b ω).1.seen e n δ;have F:=((d aA).2.kp b ω).1.seen e n δ;have q:=Dq.reads ⟨D,(d aA).1.2⟩;have r:=Dq.reads ⟨F,(d aA).2.2⟩;rw [Hk] at q r;exact ⟨f _ _ o,f _ _ z,⟨G,f _ _ A,q⟩,⟨H,f _ _ B,r⟩,v,y⟩
def smach_any (m:AV) (fv:ϒ) (w:Ϣ) (hm:AE w w 4 (CK w) fv m.J) (cA:m.J.length<=1000000) (aJ:∀ f∈m.J,f.L.length<=1000000/\f.S.length<=1000000):Calls prog 63 #[.agg (AC fv m)] w (MacPost m w):=by
 obtain ⟨fs,⟨eI,eJ,L,M,K⟩,r,l,s⟩:=m;obtain ⟨Z,fc,rfl,cM,cN,cO,P⟩:=hm;dsimp only at cM cN cO P cA aJ;obtain ⟨x,aY⟩:=ε (⟨eI,eJ,L,M,K⟩:Rq);rw [<-aY];clear aY;obtain ⟨W,G⟩:=ε ((w.alloc (χ (AC (σ Z fs fc) ⟨fs,x,r,l,s⟩) 59)).alloc (χ (AC ν AI) 59));have F:=Lh (bl2 G);have cB:=sz2 G;have cH:=ro21 G;have cI:=ro22 G
  -- the colours
 obtain ⟨O,V⟩:=ε (λb=>if b=(w:Nat)+1 then 2 else if b=(w:Nat) then 1 else EN w b:A1);have cT:O (w:Nat)=1:=by rw [V];show (if (w:Nat)=(w:Nat)+1 then 2 else _)=1;rw [if_neg ω,if_pos rfl]
 have cU:O ((w:Nat)+1)=2:=by rw [V];exact if_pos rfl
 have cV:AT TagNN (EN w) O w W:=⟨F.o.os,F.o.tape,F.o.output,F.o.size,λb y _=>F.o.block b y,λb y=>by rw [V];show (if b=(w:Nat)+1 then 2 else if b=(w:Nat) then 1 else EN w b)=_;rw [if_neg ω,if_neg ω],tn0⟩
 have cW:∀ b,(W:Nat)<=b->O b=0:=λb y=>by
  rw [V];show (if b=(w:Nat)+1 then 2 else if b=(w:Nat) then 1 else EN w b)=0;rw [if_neg ω,if_neg ω];exact Ee b ω
  -- the source's d
 obtain ⟨d,aQ,cK⟩:∃ d,Src w 4 Z fs.length d/\FrSt (w:Nat) 0 d O W fs:=by
  rcases P with h0|⟨b,o,rfl,y,P⟩
  .subst h0
   exact ⟨[],⟨rfl,.inl rfl,ψ,ψ⟩,λi f C=>by simp at C⟩
  .obtain ⟨d,h1,h2⟩:=LG P
   refine ⟨d,⟨h1.len,.inr ⟨_,rfl,λj u hu=>by rw [GB];exact h2 j u hu⟩,h1.one,cA⟩,λi f C=>?_⟩;obtain ⟨e1,e2,⟨lv,e3,e4⟩,⟨sv,e5,e6⟩,e7,e8⟩:=P i f C;have cP:=(Ll C)
   have aL:=h1.len;have hq:∀ j,j<4->∃ u,d[i*4+j]?=ς u/\w.cell? (π b (o+(i*4+j)))=ς u:=λj hj=>by have hy:d[i*4+j]?=ς (d[i*4+j]'ω):=Lg _;exact ⟨_,hy,h2 _ _ hy⟩
   have bH:∀ j u,j<4->w.cell? (π b (o+i*4+j))=ς u->d[i*4+j]?=ς u:=λj u hj hu=>by obtain ⟨u',k1,k2⟩:=hq j hj;rw [<-Nat.add_assoc] at k2;rw [k1];rw [k2] at hu;exact hu
   exact ⟨e7,e8,by have:=bH 0 _ ω e1;exact this,bH 1 _ ω e2,lv,sv,bH 2 _ ω e3,bH 3 _ ω e5,λh=>by omega,λ_=>⟨e4.ints F.o,e6.ints F.o⟩⟩
 have dA:=Lh (clone_Fra 3 O Z fs.length fc d W (aQ.below (JT.below F.o)) ω cW);have U:=Lh (ϟ cK (ϟ cV (ϟ cT (ϟ cU aQ.len))));have S:=Lh (ϟ cH (ϟ cI cB));have dB:=Lh (ϟ aJ cA);have zz:(w:Nat)<W:=ω;clear cM cN cO P aJ V cV cW aQ cK cH cI cT cU;unfold AI AC at G;dsimp only at G;unfold AC;dsimp only;go_enter func63,ntmps63;go_upto_region 1 with fail;rw [<-G];clear G;have c0:=AD S.o.1 0 (σ Z fs fc) rfl;go_wp2_with fail;refine dA.o.mono ?_;rintro e Q ⟨B,cap,I,rfl,cQ,A,aV⟩;have aM:=(La S.o.1)
 have aN:=(La S.o.2.1)
 have bB:=(A.kp _ aM (no _)).trans S.o.1;have bJ:=(A.kp _ aN (no _)).trans S.o.2.1;have d0:=AD bB 0 (σ Z fs fc) rfl;have f0:=Ψ 0 bB;have k0:=heap_setCell_same _ (w:Nat) 0 _ _ (σ B fs cap) bB;have aH:I (w:Nat)=1:=by rw [A.old _ aM];exact U.o.2.2.1
 have aI:I ((w:Nat)+1)=2:=by rw [A.old _ aN];exact U.o.2.2.2.1
 have N:AT (λt=>t=1) I I Q (Q.setCell (π w 0) (σ B fs cap)):=AT.set aH ω;have k1:(Q.setCell (π w 0) (σ B fs cap)).heap[(w:Nat)+1]?=_:=(N.kp _ (La bJ) (by show ¬I _=1;rw [aI];omega)).trans bJ;have bT:=cQ.kp N ω;have bC:Below w W Q:=⟨A.os,A.tape,A.output,A.size,λb y=>A.kp b ω (no _)⟩
 have aR:=(U.o.1.kp A (no _) bC).kp N ω ((Below.refl (w:Nat) Q).setCell (p:=(π w 0)) (by show (w:Nat)<=w;omega) _);obtain ⟨w2,X⟩:=ε (Q.setCell (π w 0) (σ B fs cap));rw [CY,<- X] at k0;rw [<-X] at N k1 bT aR;have bI:Hid (MacSt ⟨fs,x,r,l,s⟩ w (w:Nat) ((w:Nat)+1) 0 B cap I d w2):=Lh ⟨(U.o.2.1.trans (A.mono (λt h=>h.elim) tn0)).trans (N.mono (λt h=>by unfold TagNN;omega) tn0),λb y=>aV b (by rw [X] at y;simpa using y),⟨k0,aH⟩,⟨k1,aI⟩,bT,U.o.2.2.2.2,aR⟩;have cF:=Lh X;have d1:=AD k0 0 (σ B fs cap) rfl;clear aM aN bB bJ k0 aH aI N k1 bT bC aR cQ A aV X c0;go_upto_region 2 with fail;rw [<-cF.o];clear d0 f0 cF;go_wp2_with fail;clear d1;go_loopw [11] (λcC wr=>∃ k:Nat,k<=fs.length/\cC=ι k/\Hid (∃ c vs,MacSt ⟨fs,x,r,l,s⟩ w (w:Nat) ((w:Nat)+1) k B cap c vs wr)) (λcC _=>fs.length - (intOf cC).toNat)
 case atStart=>exact ⟨0,Nat.zero_le _,rfl,Lh ⟨I,d,bI.o⟩⟩
 case round=>
  obtain ⟨k,hk,rfl,dC⟩:=hrel;obtain ⟨c,vs,hR⟩:=dC.o;have n:=Lh hR;clear hR;by_cases cP:k<fs.length
  .obtain ⟨f,C⟩:∃ f,fs[k]?=ς f:=⟨_,Lg cP⟩
   obtain ⟨dE,bK,-,-,lv,sv,q2,q3,-,bZ⟩:=n.o.st k f C;have bX:=(bZ (Nr _)).1;have bY:=(bZ (Nr _)).2;obtain ⟨la,lc,rfl⟩:=bX.form;obtain ⟨sa,sc,rfl⟩:=bY.form;obtain ⟨g,rfl,cJ,cL,bQ,bR⟩:=n.o.row.pos q2;have n0:=AD n.o.box.1 0 (σ (ς (π g 0)) fs cap) rfl;have n2:=bQ _ _ q2;have n3:=bQ _ _ q3;have n4:=bR (k*4+2);have n5:=bR (k*4+3);have aL:=dB.o.1 f (Lm C);have i0:=In k;have i1:(k:Int)<(fs:Int):=ω;have z:=Lh (ϟ bX (ϟ bY (ϟ aL (ϟ C (ϟ cJ (ϟ cL (ϟ q2 q3)))))));clear dE bK bZ bX bY bQ bR aL C cJ cL q2 q3;go_upto_region 5 with fail;refine Ac (λVs=>Vs.cell? (π w 0)=ς (σ (ς (π g 0)) fs cap)/\Vs.cell? (π g (k*4+3))=ς (σ sa f.S sc)) [11,12,19,22,25] true 26 rfl κ κ ⟨n0,n3⟩ ?_;refine softA ?_;have bD:Below wr wr wr.drew:=AG Br 1;have bC:(w:Nat)<=wr:=n.o.chg.size;have bV:=srcInts z.o.1 z.o.2.2.1.1;have bW:=srcInts z.o.2.1 z.o.2.2.1.2;have cY:=Lh (clone_Int 4 c la f.L.length lc (f.L.map (Value.int .i64)) wr.drew (bV.2.1.below (JT.below bD)) ω (λb y=>n.o.hi b (by simpa using y)));have dD:=Lh (bW.2.1.below (JT.below bD));have cD:=Lh (ϟ bV.2.2 bW.2.2);have H:=Lh (ϟ n0 (ϟ n2 (ϟ n3 (ϟ n4 n5))));have cX:=Lh bD;clear bD bV bW n4 n5;refine AH κ ?_;go_simp;clear n0 n2 n3;refine AH κ ?_;go_simp;refine cY.o.mono ?_;rintro e w3 ⟨a3,aD,c3,rfl,cR,bM,aK⟩;have aF:AT NO c c3 wr w3:=(AT.ob cX.o (no 0)).trans bM;have cE:=Lh (ϟ cR (ϟ aF aK));have m0:=aF.cell H.o.1 (no _);have m3:=aF.cell H.o.2.2.1 (no _);have cZ:=Lh (clone_Int 4 c3 sa f.S.length sc (f.S.map (Value.int .i64)) w3 (dD.o.below (λa v ha=>bM.cell ha (no _))) ω aK);clear cR bM aK aF;refine ⟨⟨m0,m3⟩,?_⟩;clear m0 m3;refine AH κ ?_;go_simp;refine cZ.o.mono ?_;rintro e R ⟨a4,aE,J,rfl,cS,bN,aW⟩;have q:AT NO c J wr R:=cE.o.2.1.trans bN;have m0:=q.cell H.o.1 (no _);have m2:=q.cell H.o.2.1 (no _);have m3:=q.cell H.o.2.2.1 (no _);have m4:=q.frozen z.o.2.2.2.2.2.1 H.o.2.2.2.1 (no _);have m5:=q.frozen z.o.2.2.2.2.2.1 H.o.2.2.2.2 (no _);have bF:J g=3:=by rw [q.old _ z.o.2.2.2.2.2.1];exact z.o.2.2.2.2.1
   have bE:=(La n.o.box.1)
   have bG:=(La n.o.res.1)
   have bO:J (w:Nat)=1:=by rw [q.old _ bE];exact n.o.box.2
   have aO:J ((w:Nat)+1)=2:=by rw [q.old _ bG];exact n.o.res.2
   have aX:g≠(w:Nat):=λe=>by rw [e] at bF;omega
   have bS:(w:Nat)≠g:=λe=>aX e.symm;have D:AT (λt=>t=3) J J R ((R.setCell (π g (k*4+2)) (σ a3 f.L aD)).setCell (π g (k*4+3)) (σ a4 f.S aE)):=(AT.set (T:=λt=>t=3) bF ω).trans (AT.set bF ω);have aP:=((n.o.row.kp q (no _)).put (k*4+2) (σ a3 f.L aD)).put (k*4+3) (σ a4 f.S aE);obtain ⟨w6,Y⟩:=ε ((R.setCell (π g (k*4+2)) (σ a3 f.L aD)).setCell (π g (k*4+3)) (σ a4 f.S aE));rw [<-Y] at D aP;have bL:Below w wr w6:=by
    have h1:Below w wr R:=⟨q.os,q.tape,q.output,q.size,λb y=>q.kp b ω (no _)⟩
    rw [Y];exact (h1.setCell (p:=(π g (k*4+2))) (by show (w:Nat)<=g;exact n.o.chg.fresh z.o.2.2.2.2.1) _).setCell (p:=(π g (k*4+3))) (by show (w:Nat)<=g;exact n.o.chg.fresh z.o.2.2.2.2.1) _
   have HN:Hid (MacSt ⟨fs,x,r,l,s⟩ w (w:Nat) ((w:Nat)+1) (k+1) (ς (π g 0)) cap J ((vs.set (k*4+2) (σ a3 f.L aD)).set (k*4+3) (σ a4 f.S aE)) w6):=Lh ⟨(n.o.chg.trans (q.mono (λt h=>h.elim) tn0)).trans (D.mono (λt h=>by unfold TagNN;omega) tn0),λb y=>aW b (Nt D.size y),⟨by rw [D.kp _ (Nl bE q.size) (by rw [bO];omega),q.kp _ bE (no _)];exact n.o.box.1,bO⟩,⟨by rw [D.kp _ (Nl bG q.size) (by rw [aO];omega),q.kp _ bG (no _)];exact n.o.res.1,aO⟩,aP,by rw [List.length_set,List.length_set];exact n.o.len,((n.o.st.kp (q.mono (T':=λt=>t=3) (λt h=>h.elim) ω) ω ⟨q.os,q.tape,q.output,q.size,λb y=>q.kp b ω (no _)⟩).kp D ω (by
    rw [Y];exact ((Below.refl (w:Nat) R).setCell (p:=(π g (k*4+2))) (by show (w:Nat)<=g;exact n.o.chg.fresh z.o.2.2.2.2.1) _).setCell (p:=(π g (k*4+3))) (by show (w:Nat)<=g;exact n.o.chg.fresh z.o.2.2.2.2.1) _)).next z.o.2.2.2.1 n.o.len ⟨((cE.o.1.kp bN (no _)).kp D ω),cD.o.1⟩ ⟨(cS.kp D ω),cD.o.2⟩⟩
   have cG:=Lh Y;clear cS bN aW q bF bE bG bO aO D aP Y bL bC;refine ⟨⟨m0,m3⟩,?_⟩;refine AH κ ?_;go_simp;refine AH κ ?_;go_simp;rw [<-cG.o];refine BH ?_;clear m0 m2 m3 m4 m5 aX bS cG;go_wp2;go_roundw
   case rel=>exact ⟨k+1,ω,by go_num,Lh ⟨_,_,HN.o⟩⟩
   case measure=>simp [intOf];omega
  .have dF:k=fs.length:=ω
   subst dF;have bP:=Lh (MacSt.post (m:=⟨fs,x,r,l,s⟩) n.o);have bU:=Lh (AZ n.o.res.1 (σ B fs cap) ⟨fs,x,r,l,s⟩);have E:=λj v hv=>AD n.o.res.1 j v hv;have dP:=E 0 ν rfl;have dY:=Ψ 0 n.o.res.1;have dQ:=E 1 (ι 0) rfl;have dZ:=Ψ 1 n.o.res.1;have dR:=E 2 (ι 0) rfl;have eA:=Ψ 2 n.o.res.1;have dS:=E 3 (ι 0) rfl;have eB:=Ψ 3 n.o.res.1;have dT:=E 4 (ι 0) rfl;have eC:=Ψ 4 n.o.res.1;have dU:=E 5 (ι 0) rfl;have eD:=Ψ 5 n.o.res.1;have dV:=E 6 (ι 0) rfl;have eE:=Ψ 6 n.o.res.1;have dW:=E 7 (ι 0) rfl;have eF:=Ψ 7 n.o.res.1;have dX:=E 8 (ι 0) rfl;have eG:=Ψ 8 n.o.res.1;have dG:=AD n.o.box.1 0 (σ B fs cap) rfl;have dH:=AD n.o.box.1 1 (ι x.K) rfl;have dI:=AD n.o.box.1 2 (ι x.O) rfl;have dJ:=AD n.o.box.1 3 (ι x.D) rfl;have dK:=AD n.o.box.1 4 (ι x.V) rfl;have dL:=AD n.o.box.1 5 (ι x.X) rfl;have dM:=AD n.o.box.1 6 (ι r) rfl;have dN:=AD n.o.box.1 7 (ι l) rfl;have dO:=AD n.o.box.1 8 (ι s) rfl;have eH:(w:Nat)<wr:=(La n.o.box.1)
   go_wp2;exact bodyPost_ret (AL (p:=2) rfl bU.o.1 _ rfl) rfl bP.o
