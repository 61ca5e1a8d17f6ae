import Derived.Test.YtigbfkiddlhhjaaGreatDoorSpo
set_option maxHeartbeats 4000000
set_option maxRecDepth 100000
set_option linter.all false
open Go renaming World→Ϣ,heap_setCell_same→ϡ
open Option renaming some→ς
open Bool renaming false→ϝ,true→ϑ
open And renaming intro→ϟ
open Go.Value renaming slice→σ
open Go.Obj renaming cells→χ
namespace Go.Proofs.YtigbfkiddlhhjaaGreatDoor
open Go.RowKit Proofs.Tryz
def CmtIs (cd:AQ) (s:Tra) (i:Nat) (x:Trx) (f v:Int) (bt:Nat) (c:A1) (w:Ϣ) (e:Ending) (w':Ϣ):Prop:=e=.returned (.tuple #[])/\∃ s',CommitS cd s i x f v s'/\PostS c bt s' w w'
def TWr (t:Nat):Prop:=t=1\/t=20\/(100<=t/\(t % 16=5\/t % 16=6))
def twr0:¬TWr 0:=by unfold TWr;omega
def twr14:¬TWr 14:=by unfold TWr;omega
structure CmL (w:Ϣ) (c:A1) (W:Ϣ) (c1:A1) (ob:Nat) (o:CD):Prop where
 chg:AT NZ c c1 w W
 box:W.heap[ob]?=ς (χ (Dw o).toArray 114 (0,0))
 lab:c1 ob=14
def CmL.go {T:Nat->Prop} {w W d:Ϣ} {c e f:A1} {a:Nat} {o:CD} (h:CmL w c W e a o) (b:AT T e f W d) (g:¬T 14):CmL w c d f a o:=
 have i:=(La h.box)
 ⟨h.chg.trans (b.nz g),by rw [b.kp a i (by rw [h.lab];exact g)];exact h.box,by rw [b.old a i];exact h.lab⟩
def plcO_keep {w w':Ϣ} {e b o:Nat} {r:Rq} (d:Below w w w') (h:Wv w e r b o):Wv w' e r b o:=by
 rcases h with ⟨a,n,k,c⟩|⟨a,j,no,n,k,i,g,c,f⟩
 .exact .inl ⟨a,n,k,AB d c⟩
 .exact .inr ⟨a,j,no,n,k,i,g,AB d c,AB d f⟩
def mod_tail {α:Type} {l:List (List α)} {i:Nat} {x:α} {xs:List α} (h:l[i]?=ς (x::xs)):l.modify i List.tail=l.set i xs:=by
 apply List.ext_getElem?;intro k;rw [List.getElem?_modify,List.getElem?_set];by_cases a:i=k
 .subst a;have:=(Ll h);rw [h,if_pos rfl,if_pos this];simp
 .rw [if_neg a];cases l[k]?<;>simp [a]
def fraNil {w:Ϣ}:fraP [] w ν:=⟨none,0,rfl,ψ,ψ,ω,.inl rfl⟩
def set3_row {w:Ϣ} {b:Nat} {x0 c k f e:Value} {T:TypeId} (h:w.heap[b]?=ς (χ #[x0,c,k,f,e] T (0,0))) (a d g:Value):(((w.setCell (π b 2) a).setCell (π b 3) d).setCell (π b 4) g).heap[b]?=ς (χ #[x0,c,a,d,g] T (0,0)):=by
 have i:(w.setCell (π b 2) a).heap[b]?=ς (χ #[x0,c,a,f,e] T (0,0)):=by rw [ϡ _ _ _ _ _ _ h];rfl
 have j:((w.setCell (π b 2) a).setCell (π b 3) d).heap[b]?=ς (χ #[x0,c,a,d,e] T (0,0)):=by rw [ϡ _ _ _ _ _ _ i];rfl
 rw [ϡ _ _ _ _ _ _ j];rfl
def scommit_any (cd:AQ) (fa ga:Option Addr) (fc gc B:Nat) (s:Tra) (c:A1) (d i:Nat) (x:Trx) (f v:Int) (w0 w:Ϣ) (hX:CtxS cd (.agg (Bc fa fc ga gc cd)) B w0 w c) (gZ:Bv cd) (h:SAt w c d s) (hM:MidS cd s i x) (hA:s.U<=1048576) (hf:in64 f) (hv:in64 v) :
  Calls prog 74 #[.agg (Bc fa fc ga gc cd),.pointer (ς (π d 0)),ι i,.agg #[ι f,ι v,ι 0,ι 0,ι 0]] w (CmtIs cd s i x f v d c w):=by
 obtain ⟨W,hW⟩:=ε ((w.alloc (χ (Bc fa fc ga gc cd) 25)).alloc (χ #[ι f,ι v,ι 0,ι 0,ι 0] 114));obtain ⟨X,lL,jE,gC⟩:=Λ4 (bl2 hW) (sz2 hW) (ro21 hW) (ro22 hW);have HX:=Lh (hX.grow X.o);have HS:=Lh (h.grow X.o);have p:=Lh hM;have cH:=Lh (ϟ hA (ϟ hf (ϟ hv gZ)));have fW:Hid (c (w:Nat)=0/\c ((w:Nat)+1)=0/\∀ b,(w:Nat)<=b->c b=0):=Lh ⟨h.hi _ (Nr _),h.hi _ ω,h.hi⟩;obtain ⟨Q,dZ,fv,rv,wv,fO,hO,hQ,hP,aD,-,gY,hH,cN⟩:=h.viewX hM.hx;have b5:=AB X.o fO;have H0:=Lh h;have i0:=In i;have i1:(i:Int)<(s.active:Int):=ω;obtain ⟨ra,fK,rfl,-,-,-,gX⟩:=leafRd gY;have jF:=Lh gX;have jL:=Lh hH;have dV:=Lh (ϟ hO (ϟ hQ (ϟ fO hP)));have lO:W.cell? (π Q (i*13+11))=ς (σ ra x.reads fK):=AB X.o (aD 11 _ rfl);have HQ:Hid (w.cell? (π Q (i*13+9))=ς (ι x.start)/\w.cell? (π Q (i*13+7))=ς (ι x.run.C)/\w.cell? (π Q (i*13+10))=ς (ι x.N)/\w.cell? (π Q (i*13+12))=ς wv):=Lh ⟨aD 9 _ rfl,aD 7 _ rfl,aD 10 _ rfl,aD 12 _ rfl⟩;have lK:x.reads.length<=1048576:=by have:=hM.ok.count.1;omega
 clear hX gZ h hM hA hf hv fO hO hQ hP aD gY hH cN gX;go_enter func74,ntmps74;go_upto_region 1 with fail;rw [<-hW];clear hW;go_wp2_with fail;go_loopw [24] (λfB wr=>∃ k:Nat,k<=x.reads.length/\fB=ι k/\Hid (Below W W wr)/\Hid (∀ (j:Nat) r,j<k->x.reads[j]?=ς r->¬x.start<verAt s r)) (λfB _=>x.reads.length - (intOf fB).toNat)
 case atStart=>exact ⟨0,Nat.zero_le _,rfl,Lh Br,Lh (λj r hj=>by omega)⟩
 case round=>
  obtain ⟨k,hk,rfl,HB,fZ⟩:=hrel;by_cases cP:k<x.reads.length
  .obtain ⟨⟨r1,r2⟩,hx⟩:∃ y,x.reads[k]?=ς y:=⟨_,Lg cP⟩
   have I:=p.o.ok.readsP _ (Lm hx);obtain ⟨l,hl,Y,eO⟩:=p.o.inv.vers.at_ I;dsimp only at I hl Y;obtain ⟨a,rfl⟩:∃ a:Nat,r1=a:=⟨r1.toNat,by have:=I.1;omega⟩
   obtain ⟨b,rfl⟩:∃ b:Nat,r2=b:=⟨r2.toNat,by have:=I.2.1;omega⟩
   rw [Int.toNat_natCast] at hl Y;obtain ⟨u,S⟩:∃ u,l[b]?=ς u:=⟨_,Lg Y⟩
   obtain ⟨vb,bA,vv,bC,bV,dF⟩:=HS.o.viewV hl;obtain ⟨la,aZ,rfl,-,-,-,aY⟩:=LeafAt.at2 bV (n:=l.length) ψ ω;obtain ⟨lb,rfl,-,-,-,aY⟩:=aY ω;rcases jF.o with eP|⟨rb,ro,rfl,-,hE⟩
   .rw [eP] at cP;simp at cP
   have y0:=AB (X.o.th HB.o) (hE k _ hx).1;have y1:=AB (X.o.th HB.o) (hE k _ hx).2;dsimp only at y0 y1;obtain ⟨K,aV⟩:=ε (wr.alloc (χ #[ι (a:Int),ι (b:Int)] 85));have gQ:=bl1 aV;have eW:K.heap[(wr:Nat)]?=ς (χ #[ι (a:Int),ι (b:Int)] 85 (0,0)):=ro11 aV;have bW:Below W W K:=HB.o.th gQ;have O:=Ω2 eW;have v2:=AB bW bC.hd;have v3:=AB bW bC.el;have v4:K.cell? (π lb b)=ς (ι u):=AB bW (aY b _ (by rw [List.getElem?_map,S];rfl));have x9:=AB (X.o.th bW) HQ.o.1;have j0:=In a;have j1:(a:Int)<(s.vers:Int):=ω;have j2:=In b;have j3:(b:Int)<(l:Int):=ω;have k0:=In k;have k1:(k:Int)<(x.reads:Int):=ω;have fV:=Lh bW;have gG:=Lh aV;have HV:Hid (verAt s ((a:Int),(b:Int))=u/\x.reads[k]?=ς ((a:Int),(b:Int))):=Lh ⟨verAt_eq (by rw [Int.toNat_natCast];exact hl) (by rw [Int.toNat_natCast];exact S),hx⟩;clear hx I hl Y eO S bC bV dF aY hE gQ bW aV eW;go_upto_region 5 with fail;rw [<-gG.o];clear gG y0 y1;by_cases hs:x.start<u
   .have dv:=η (x.start<u) hs
    have eD:=@Lh (stale s x=ϑ) (stale_at HV.o.2 (by rw [HV.o.1];exact hs));clear hs;refine Ac (λg=>g.cell? (π d 2)=ς (σ (ς (π vb 0)) s.vers bA)/\g.cell? (π vb a)=ς (σ (ς (π lb 0)) l aZ)/\g.cell? (π lb b)=ς (ι u)/\g.cell? (π wr 0)=ς (ι (a:Int))/\g.cell? (π wr 1)=ς (ι (b:Int))/\g.cell? (π Q (i*13+9))=ς (ι x.start)) [16] ϝ 17 rfl κ κ ⟨v2,v3,v4,O.1,O.2,x9⟩ ?_;refine softA ?_;refine AH κ ?_;go_simp;refine BH ?_;obtain ⟨W3,bP⟩:=ε K.drew;rw [<-bP];have aW:Below W W W3:=fV.o.th (by rw [bP];exact AG Br 1);have dK:=HS.o.grow aW;have jP:W3.cell? (π d 11)=ς (ι s.aborts):=GStAt.p0 (show GStAt W3 c _ d (traG s) from dK) (j:=11) rfl;have jR:W3.frozen? (π d 11)=ϝ:=GStAt.frz (show GStAt W3 c _ d (traG s) from dK) 11;have lI:IntKind.i64.wrap (s.aborts+1)=s.aborts+1:=by have h1:=p.o.inv.aborts;have h2:=cH.o.1;rw [IntKind.wrap_i64]<;>omega
    obtain ⟨E,cg⟩:=dK.num (j:=11) (n:=s.aborts+1) (s':={ s with aborts:=s.aborts+1 }) rfl;obtain ⟨W4,bE⟩:=ε (W3.setCell (π d 11) (ι (s.aborts+1)));rw [<-bE] at E cg;have dH:∀ (j:Nat) z,([σ fa cd.H fc,ι cd.G,σ ga cd.funcs gc]:List Value)[j]?=ς z->W4.cell? (π w j)=ς z:=λj z hz=>cg.cell (AB aW (by rw [cell_of_row _ _ _ _ _ _ jE.o,List.getElem?_toArray];exact hz)) (by show ¬c (w:Nat)=1;rw [fW.o.1];omega);have e0:=Γ3 dH;have iZ:=@Lh (AT NZ c c w W4) (((AT.ob X.o Qx).trans (AT.ob aW Qx)).trans (cg.mono (λt ht=>by unfold NZ;omega) Qx));have jN:=Lh (HX.o.go (((AT.ob aW Qx):AT NZ c c W W3).trans (cg.mono (λt ht=>by unfold NZ;omega) Qx)));obtain ⟨l0,F,jQ,V,R⟩:=p.o.inv.row p.o.hx;have iV:=@Lh (Calls prog 73 #[.agg (Bc fa fc ga gc cd),.pointer (ς (π d 0)),ι i] W4 (BegIs cd { s with aborts:=s.aborts+1 } i d c W4)) (by
     have hT:=p.o.inv.all _ _ _ _ _ _ R;rcases hT.act with ⟨e,_⟩|⟨_,bY,_⟩
     .exact absurd (by rw [e];rfl) (mac_ne p.o.ok.mach)
     .obtain ⟨Z,J,rfl⟩:∃ Z J,l0=Z::J:=by cases l0 with|nil=>exact absurd rfl bY|cons a b=>exact ⟨a,b,rfl⟩
      exact sbegin_any cd fa ga fc gc B { s with aborts:=s.aborts+1 } c d i x Z J w0 W4 jN.o cH.o.2.2.2 p.o.inv.sound E R.x R.l (given_fuelS p.o.inv.Y (hT.right Z (List.mem_cons_self ..))))
    have cJ:=Lh bE;clear aW dK E cg dH R bP bE v2 v3 v4 O x9 dv;go_upto_region 7 with fail;rw [<-cJ.o];clear cJ jP jR;go_wp2_with fail;refine iV.o.mono ?_;rintro e w5 ⟨rfl,y,hB,c',gN,gM⟩;have bK:Hid (CmtIs cd s i x f v d c w (.returned (.tuple #[])) w5):=Lh ⟨rfl,_,.inl ⟨eD.o,y,hB,rfl⟩,c',gN,iZ.o.trans gM⟩;clear hB gN gM e0;go_wp2_with fail
    go_end0
    exact bK.o
   .have dv:=θ (x.start<u) hs
    have eD:=@Lh (¬x.start<verAt s ((a:Int),(b:Int))) (by rw [HV.o.1];exact hs);clear hs;refine Ac (λg=>g.cell? (π d 2)=ς (σ (ς (π vb 0)) s.vers bA)/\g.cell? (π vb a)=ς (σ (ς (π lb 0)) l aZ)/\g.cell? (π lb b)=ς (ι u)/\g.cell? (π wr 0)=ς (ι (a:Int))/\g.cell? (π wr 1)=ς (ι (b:Int))/\g.cell? (π Q (i*13+9))=ς (ι x.start)) [16] ϝ 17 rfl κ κ ⟨v2,v3,v4,O.1,O.2,x9⟩ ?_;refine softA ?_;refine AH κ ?_;go_simp;refine BH ?_;clear v2 v3 v4 O x9 dv;go_wp2;go_roundw
    case rel=>exact ⟨k+1,ω,by go_num,Lh (fV.o.th (AG Br 1)),Lh (λj r hj hr=>by
     by_cases kF:j=k
     .subst kF;rw [HV.o.2] at hr;cases hr;exact eD.o
     .exact fZ.o j r ω hr)⟩
    case measure=>simp [intOf];omega
  .have jC:=@Lh (stale s x=ϝ) (stale_no (λj r hj hr=>fZ.o j r ω hr))
   have eM:k=x.reads.length:=ω;subst eM;go_upto_region 9 with fail;have x7:=AB (X.o.th HB.o) HQ.o.2.1;have iL:=AB (X.o.th HB.o) HQ.o.2.2.1;have aF:wr.heap[(w:Nat)+1]?=ς (χ #[ι f,ι v,ι 0,ι 0,ι 0] 114 (0,0)):=(HB.o.block _ (La gC.o)).trans gC.o;have o2:=Ω5 aF;have g2:=Ψ 2 aF;have g3:=Ψ 3 aF;have g4:=Ψ 4 aF;have jH:=Lh aF;clear aF;refine Ac (λg=>g.cell? (π Q (i*13+7))=ς (ι x.run.C)/\g.cell? (π Q (i*13+10))=ς (ι x.N)) [11] ϑ 12 rfl κ κ ⟨x7,iL⟩ ?_;refine softA ?_;refine AH κ ?_;go_simp;refine BH ?_;obtain ⟨ob,eQ⟩:=ε ((w:Nat)+1);obtain ⟨K,aV⟩:=ε ((((wr.setCell (π (w+1) 2) (ι x.run.C)).setCell (π (w+1) 3) (ι x.N)).setCell (π (w+1) 4) (ι 0)).drew);rw [<-aV];have cK:Below w w K:=by rw [aV];exact ((((X.o.th HB.o).setCell (by show _<=(w:Nat)+1;omega) _).setCell (by show _<=(w:Nat)+1;omega) _).setCell (by show _<=(w:Nat)+1;omega) _).trans (AG Br 1)
   have aX:K.heap[ob]?=ς (χ (Dw ⟨f,v,x.run.C,x.N,0⟩).toArray 114 (0,0)):=by rw [aV,eQ];exact set3_row jH.o _ _ _
   have eN:=(La aX)
   have bU:AT NO c (λb=>if b=ob then 14 else c b) w K:=AT.paint ob 14 cK ω;obtain ⟨m,dG⟩:=ε (λb=>if b=ob then 14 else c b:A1);rw [<-dG] at bU;have gR:∀ b,(K:Nat)<=b->m b=0:=λb hb=>by rw [dG];show (if b=ob then 14 else c b)=0;rw [if_neg ω];exact fW.o.2.2 b (Nt cK.size hb)
   have dD:=@Lh (SAt K m d s) (H0.o.chg bU gR (λt ht=>ht.elim));have fY:Hid (CmL w c K m ob ⟨f,v,x.run.C,x.N,0⟩):=Lh ⟨bU.nz,aX,by rw [dG];exact if_pos rfl⟩;have jK:=@Lh (LeafAt K m (100+16*(i*13+12)+5) wv (wrQ x.writes)) (jL.o.kp bU (no _));have s5:=AB cK dV.o.2.2.1;have iA:=AB cK HQ.o.2.2.2;have o0:K.cell? (π (w+1) 0)=ς (ι f):=by rw [<-eQ,cell_of_row _ _ _ _ _ _ aX];rfl
   have iY:=@Lh (m Q=25) (by rw [bU.old Q dV.o.2.1];exact dV.o.1);have gA:=Lh eQ;clear aV cK aX eN bU dG gR x7 iL o2 g2 g3 g4;obtain ⟨wa,kT,rfl,-,-,-,hF⟩:=LeafAt.at2 jK.o (n:=x.writes.length) (by rw [flat_sz3]) ω;have jJ:=Lh hF;clear hF;go_upto_region 10 with fail
   go_cut [78] (λkO wx=>kO=.bool (decide (f=0/\x.writes≠[]))/\wx=K)
   case first=>
    by_cases bX:f=0
    .have d0:=ζ f 0 bX
     have dX:=@Lh (decide (f=0/\x.writes≠[])=decide (0<x.writes.length)) (by simp [bX,List.length_pos_iff]);clear bX;go_wp2;go_meet
     case rel=>exact ⟨by rw [dX.o],rfl⟩
    .have d0:=ξ f 0 bX
     have dX:=@Lh (decide (f=0/\x.writes≠[])=ϝ) (by simp [bX]);clear bX;go_wp2;go_meet
     case rel=>exact ⟨by rw [dX.o],rfl⟩
   obtain ⟨rfl,rfl⟩:=hcut;clear o0;go_upto_if 78 with fail
   go_cut [] (λwx=>Hid (SAt wx m d (doneS s x f)/\CmL w c wx m ob ⟨f,v,x.run.C,x.N,0⟩))
   case first=>
    by_cases hq:f=0/\x.writes≠[]
    .rw [decide_eq_true hq]
     have HD:=@Lh (doneS s x f=wrS s x.writes) (by unfold doneS wrS;rw [if_pos hq]);have b3:wc.cell? (π d 3)=ς (ι s.clock):=GStAt.p0 (show GStAt wc m _ d (traG s) from dD.o) (j:=3) rfl;have f3:wc.frozen? (π d 3)=ϝ:=GStAt.frz (show GStAt wc m _ d (traG s) from dD.o) 3;have lJ:IntKind.i64.wrap (s.clock+1)=s.clock+1:=by have h1:=p.o.inv.clock;have h2:=cH.o.1;rw [IntKind.wrap_i64]<;>omega
     obtain ⟨E,cg⟩:=dD.o.num (j:=3) (n:=s.clock+1) (s':=wrS s []) rfl;obtain ⟨W3,bP⟩:=ε (wc.setCell (π d 3) (ι (s.clock+1)));rw [<-bP] at E cg;have kP:=cg.cell iA (by show ¬m Q=1;rw [iY.o];omega);have jI:=Lh (ϟ E (cg.mono (T':=TWr) (λt ht=>by unfold TWr;omega) twr0));have gH:=Lh bP;have lM:x.writes.length<=1048576:=by have:=p.o.ok.count.2;have:=cH.o.1;omega
     clear hq E cg bP iA;go_upto_region 12 with fail;rw [<-gH.o];clear gH b3 f3;go_wp2_with fail;clear kP s5;go_loopw [91] (λfC wr=>∃ k:Nat,k<=x.writes.length/\fC=ι k/\Hid (SAt wr m d (wrS s (x.writes.take k))/\AT TWr m m wc wr)) (λfC _=>x.writes.length - (intOf fC).toNat)
     case atStart=>exact ⟨0,Nat.zero_le _,rfl,jI⟩
     case round=>
      obtain ⟨k,hk,rfl,HR⟩:=hrel;by_cases cP:k<x.writes.length
      .obtain ⟨⟨r1,r2,o⟩,hx⟩:∃ y,x.writes[k]?=ς y:=⟨_,Lg cP⟩
       have I:=(p.o.ok.writesP _ (Lm hx)).1;have eR:=wrS_ok p.o k;dsimp only at I;have aS:PlaceOk (wrS s (x.writes.take k)).M r1 r2:=⟨I.1,I.2.1,by rw [eR.2];exact I.2.2⟩
       have cQ:PlaceOk (setM (wrS s (x.writes.take k)).M (plcR r1 r2) o) r1 r2:=⟨I.1,I.2.1,by rw [setM_len];exact aS.2.2⟩
       obtain ⟨l,hl,Y,eO⟩:=eR.1.at_ aS;obtain ⟨a,rfl⟩:∃ a:Nat,r1=a:=⟨r1.toNat,by have:=I.1;omega⟩
       obtain ⟨b,rfl⟩:∃ b:Nat,r2=b:=⟨r2.toNat,by have:=I.2.1;omega⟩
       rw [Int.toNat_natCast] at hl Y;obtain ⟨wb,rfl,hG,eY,-,aH⟩:=jJ.o ω;have dL:¬TWr (m wb):=by rw [hG];unfold TWr;omega
       have y0:wr.cell? (π wb (k*3+0))=ς (ι (a:Int)):=HR.o.2.cell (aH _ _ (flat_at (f:=wrL) (sz:=3) (λ_=>rfl) hx 0 _ rfl)) dL;have y1:wr.cell? (π wb (k*3+1))=ς (ι (b:Int)):=HR.o.2.cell (aH _ _ (flat_at (f:=wrL) (sz:=3) (λ_=>rfl) hx 1 _ rfl)) dL;have y2:wr.cell? (π wb (k*3+2))=ς (ι o):=HR.o.2.cell (aH _ _ (flat_at (f:=wrL) (sz:=3) (λ_=>rfl) hx 2 _ rfl)) dL;rw [Nat.add_zero] at y0;obtain ⟨W4,bE⟩:=ε (wr.alloc (χ #[ι (a:Int),ι (b:Int),ι o] 120));have aW:=bl1 bE;have dJ:W4.heap[(wr:Nat)]?=ς (χ #[ι (a:Int),ι (b:Int),ι o] 120 (0,0)):=ro11 bE;obtain ⟨O,z1,z2⟩:=Ω3 dJ;have k0:=In k;have k1:(k:Int)<(x.writes:Int):=ω;have gD:=Lh (HR.o.1.grow aW);have iW:=Lh (HR.o.2.trans (AT.ob aW twr0));have kG:(wrS s (x.writes.take k)).M.N.length<=4096:=(fold_put (c:=cd) (k:=s.clock+1) (by have:=p.o.inv.clock.1;omega) (x.writes.take k) s.M s.vers p.o.inv.M (p.o.inv.vers.mono ω) (λw hw=>(p.o.ok.writesP w (List.mem_of_mem_take hw)).2)).1.len;have gO:(a:Int)<=1099511627776:=by
        have h3:=aS.2.2;unfold Bd at h3;split at h3
        .simp at h3;omega
        .have:¬((wrS s (x.writes.take k)).M.N.length:Int)<(a:Int):=by assumption
         omega
       have jD:=Lh (place_any (wrS s (x.writes.take k)).M d a b W4.drew (gD.o.grow (AG Br 1)).memRd ω ω gO);have gK:=@Lh (m (wr:Nat)=0) (HR.o.1.hi _ (Nr _));have HP:=Lh (ϟ aS (ϟ cQ (ϟ hl (ϟ Y hx))));have cJ:=Lh bE;clear hx I eR aS cQ hl Y eO hG eY aH dL aW dJ bE kG gO;go_upto_region 15 with fail;rw [<-cJ.o];clear cJ y0 y1 y2;refine Ac (λg=>g.cell? (π wr 0)=ς (ι (a:Int))/\g.cell? (π wr 1)=ς (ι (b:Int))/\g.cell? (π wr 2)=ς (ι o)) [5,8,9] ϑ 10 rfl κ κ ⟨O,z1,z2⟩ ?_;refine softA ?_;have HK:=Lh (ϟ O (ϟ z1 z2));clear O z1 z2;refine AH κ ?_;go_simp;refine jD.o.mono ?_;rintro e w6 ⟨eJ,(⟨cO,rfl⟩|⟨cO,pb,po,cR,rfl⟩)⟩
       .exfalso
        have:=HP.o.1.2.2;have e2:(plcR (a:Int) (b:Int)).D=(b:Int):=rfl;omega
       have aL:Below W4 W4 w6:=(AG Br 1).th eJ;have eS:=plcO_keep eJ cR;have eX:=gD.o.grow aL;have eU:(0:Int)<=(plcR (a:Int) (b:Int)).D:=by show (0:Int)<=(b:Int);omega
       have cM:=(eX.placeC eS eU HP.o.1.2.2).2;obtain ⟨rfl,p1,p2,p3,E,-⟩:=eX.place eS eU HP.o.1.2.2 o;have e1:0+(plcR (a:Int) (b:Int)).D.toNat=b:=by simp [plcR]
       have e2:(plcR (a:Int) (b:Int)).D.toNat=b:=by simp [plcR]
       rw [e1];rw [e2] at p1 p2 E;have dY:=Δ3 aL HK.o.1 HK.o.2.1 HK.o.2.2;have cL:AT TWr m m w6 (w6.setCell (π pb b) (ι o)):=AT.set (by rcases cM with e|⟨q,e⟩<;>(rw [e];unfold TWr;omega)) twr0;obtain ⟨W7,eH⟩:=ε (w6.setCell (π pb b) (ι o));rw [<-eH] at E cL;have O:W7.cell? (π wr 0)=ς (ι (a:Int)):=cL.cell dY.1 (by show ¬TWr (m (wr:Nat));rw [gK.o];exact twr0);have z1:W7.cell? (π wr 1)=ς (ι (b:Int)):=cL.cell dY.2.1 (by show ¬TWr (m (wr:Nat));rw [gK.o];exact twr0);have eC:=Lh E;have iX:=Lh ((iW.o.trans (AT.ob aL twr0)).trans cL);have gI:=Lh eH;clear eJ aL eS eX eU cM p3 E e1 e2 cL eH cR cO;refine ⟨⟨dY.1,dY.2.1,dY.2.2⟩,?_⟩;refine AH κ ?_;go_simp;refine AH κ ?_;go_simp;refine BH ?_;clear dY p1 p2;rw [<-gI.o];clear gI;obtain ⟨vb,bA,vv,bC,bV,dF⟩:=eC.o.viewV (i:=a) (x:=l) HP.o.2.2.1;obtain ⟨la,aZ,rfl,-,-,-,aY⟩:=LeafAt.at2 bV (n:=l.length) ψ ω;have Y:=HP.o.2.2.2.1;obtain ⟨lb,rfl,-,-,gT,aY⟩:=aY ω;obtain ⟨u,S⟩:∃ u,l[b]?=ς u:=⟨_,Lg Y⟩
       have v2:=bC.hd;have v3:=bC.el;have v4:W7.cell? (π lb b)=ς (ι u):=aY b _ (by rw [List.getElem?_map,S];rfl);have v5:=gT b;have b3:W7.cell? (π d 3)=ς (ι (s.clock+1)):=GStAt.p0 (show GStAt W7 m _ d (traG _) from eC.o) (j:=3) rfl;have j0:=In a;have j1:(a:Int)<((wrS s (x.writes.take k)).vers.length:Int):=by have:a<(wrS s (x.writes.take k)).vers.length:=dF;omega
       have j2:=In b;have j3:(b:Int)<(l:Int):=ω;obtain ⟨E,cg⟩:=eC.o.setV (k:=b) (o:=s.clock+1) (x:=l) HP.o.2.2.1 bC bV;obtain ⟨W8,eI⟩:=ε (W7.setCell (π lb b) (ι (s.clock+1)));rw [<-eI] at E cg;have gE:=Lh (ϟ E (iX.o.trans (cg.mono (T':=TWr) (λt ht=>by unfold TWr;omega) twr0)));have gJ:=Lh eI;clear bC bV dF gT aY S Y E cg eI;go_upto_region 16 with fail;refine Ac (λg=>g.cell? (π d 2)=ς (σ (ς (π vb 0)) (wrS s (x.writes.take k)).vers.length bA)/\g.cell? (π vb a)=ς (σ (ς (π lb 0)) l aZ)/\g.cell? (π wr 0)=ς (ι (a:Int))/\g.cell? (π wr 1)=ς (ι (b:Int))/\g.cell? (π d 3)=ς (ι (s.clock+1))) [15] ϑ 16 rfl κ κ ⟨v2,v3,O,z1,b3⟩ ?_;refine softA ?_;refine AH κ ?_;go_simp;rw [<-gJ.o];refine BH ?_;clear v2 v3 v4 v5 O z1 b3 gJ;go_wp2;go_roundw
       case rel=>exact ⟨k+1,ω,by go_num,Lh ⟨by rw [take_add HP.o.2.2.2.2,wrS_add];exact gE.o.1.grow (AG Br 1),gE.o.2.trans (AT.ob (AG Br 1) twr0)⟩⟩
       case measure=>simp [intOf];omega
      .have eM:k=x.writes.length:=ω
       subst eM;go_wp2;go_meet
       case rel=>refine Lh ⟨?_,fY.o.go HR.o.2 twr14⟩;have:=HR.o.1;rw [List.take_length] at this;rw [HD.o];exact this
    .rw [decide_eq_false hq]
     have HD:=@Lh (doneS s x f=s) (by unfold doneS;rw [if_neg hq]);clear hq;go_wp2;go_meet
     case rel=>exact Lh ⟨by rw [HD.o];exact dD.o,fY.o⟩
   have HF:=Lh hcut.o;clear hcut;have N:=done_ok (c:=cd) (s:=s) (x:=x) p.o.inv.M p.o.inv.vers p.o.inv.clock.1 (λw hw=>(p.o.ok.writesP w hw).2) f;obtain ⟨D,dE⟩:=ε (doneS s x f);rw [<-dE] at N;have jA:=Lh dE;have cG:=@Lh (SAt wc m d D) (by rw [dE];exact HF.o.1);have jB:=Lh HF.o.2;obtain ⟨l0,F,jQ,V,R⟩:=p.o.inv.row p.o.hx;have hT:=p.o.inv.all _ _ _ _ _ _ R;have eV:D.results[i]?=ς F:=by rw [N.results];exact R.r
   have eL:D.P[i]?=ς V:=by rw [N.P];exact R.e
   have eK:D.A[i]?=ς l0:=by rw [N.A];exact R.l
   have fA:D.active[i]?=ς x:=by rw [N.active];exact p.o.hx
   have bY:l0≠[]:=by
    rcases hT.act with ⟨e,_⟩|⟨_,bY,_⟩
    .exact absurd (by rw [e];rfl) (mac_ne p.o.ok.mach)
    .exact bY
   obtain ⟨Z,J,rfl⟩:∃ Z J,l0=Z::J:=by cases l0 with|nil=>exact absurd rfl bY|cons a b=>exact ⟨a,b,rfl⟩
   have gV:F.length<=2000:=by have:=hT.ops;omega
   have gS:V.length<=2000:=by have:=hT.P;omega
   have gU:D.order.length<=1048576:=by have:=p.o.inv.order.len (k:=s.U) (by have:=p.o.inv.clock.1;have:=p.o.clock;omega) p.o.endsLt;have:=cH.o.1;rw [N.order];omega
   have cN:i<D.results.length:=(Ll eV)
   have kE:i<D.P.length:=(Ll eL)
   have kD:i<D.A.length:=(Ll eK)
   have kC:i<D.active.length:=(Ll fA)
   have i2:(i:Int)<(D.results:Int):=ω;have i3:(i:Int)<(D.P:Int):=ω;have i4:(i:Int)<(D.A:Int):=ω;have i5:(i:Int)<(D.active:Int):=ω;have P:=Lh (ϟ eV (ϟ eL (ϟ eK (ϟ fA (ϟ gV (ϟ gS gU))))));have bB:Hid (s.results.getD i []=F/\D.order=s.order/\D.U=s.U/\D.results=s.results/\D.P=s.P/\D.A=s.A/\D.active=s.active/\s.A[i]?=ς (Z::J)):=Lh ⟨getD_at R.r,N.order,N.U,N.results,N.P,N.A,N.active,R.l⟩;have gF:Hid (SAt wc m d D):=cG;have dC:Hid (m d=1/\d<wc):=Lh ⟨cG.o.lab,GStAt.lt (show GStAt wc m _ d (traG D) from cG.o)⟩;clear N dE R hT eV eL eK fA bY gV gS gU cN kE kD kC
      -- region 18: order
   obtain ⟨oa,oc,ox,o1,cS,bF⟩:=cG.o.growO;have gB:=Lh (ϟ cS bF);obtain ⟨rb,rc,rv,G,bD,-⟩:=cG.o.viewR P.o.1;obtain ⟨kL,kM,rfl,-,-,bR,-⟩:=LeafAt.at2 bD (n:=F.length) (flat_len (f:=Dw) (sz:=5) (λ_=>rfl) F) ω;have p7:=G.hd;have bS:=G.el;have jG:=Lh G;clear cS bF G bD bR;go_upto_region 18 with fail;refine Ac (λg=>g.cell? (π d 10)=ς (σ oa D.order oc)/\g.cell? (π d 7)=ς (σ (ς (π rb 0)) D.results rc)/\g.cell? (π rb i)=ς (σ kL F kM)) [15,16,19] ϑ 20 rfl κ κ ⟨o1,p7,bS⟩ ?_;refine softA ?_;have bZ:=Lh (ϟ o1 (ϟ p7 bS));clear o1 p7 bS;refine AH κ ?_;go_simp;have dP:Below wc wc (wc.alloc (χ #[ι (i:Int),ι (F:Int)] 85)):=AA _ _;refine ⟨Θ3 dP bZ.o,?_⟩;obtain ⟨qV,dO⟩:=ε ((wc.alloc (χ #[ι (i:Int),ι (F:Int)] 85)).drew);rw [<-dO];have hU:qV.heap[(wc:Nat)]?=ς (χ #[ι (i:Int),ι (F:Int)] 85 (0,0)):=by rw [dO];exact Hn _ _
   have dN:AT NO m m wc qV:=AT.ob (by rw [dO];exact Cb _ _) (no 0);have kI:=Lh dN;have cU:∀ b,(qV:Nat)<=b->m b=0:=λb hb=>gF.o.hi b (Nt dN.size hb);clear dO dP;refine AH κ ?_;refine Dz (λk=>k=30) (.tmp 124) (.tmp 135) 37 85 rfl underlying37 info_arr2 rfl δ δ (c:=m) (tag:=30) (v:=σ oa D.order oc) (n:=D.order.length) (xs:=ox) rfl (gB.o.1.kp dN (no _)) (π wc 0) 1 1 [ι (i:Int),ι (F:Int)] rfl rfl (λj u S=>by rw [GB,Nat.zero_add,cell_of_row _ _ _ _ _ _ hU];simpa using S) (by simp [Value.oneCell']) δ (by have:=P.o.2.2.2.2.2.2;omega) rfl ω cU (λqg kJ qw H bG cT cV _=>?_);have cA:=cT.aft kI.o;have hV:=cA.cell bZ.o.1 (by show ¬m _=_;rw [dC.o.1];omega);have hY:=cA.cell bZ.o.2.1 (by show ¬m _=_;rw [dC.o.1];omega);have hZ:=cA.cell bZ.o.2.2 (by show ¬m _=_;rw [jG.o.lab];omega);have kK:=cA.frozen dC.o.2 (GStAt.frz (show GStAt wc m _ d (traG D) from gF.o) 10) (by show ¬m d=_;rw [dC.o.1];omega);obtain ⟨fJ,fH⟩:=gB.o.2 qw H _ _ ((i:Int),(F:Int)) cA cV bG;obtain ⟨aT,fI⟩:=ε (qw.setCell (π d 10) (σ (ς (π qg 0)) (D.order.length+1) kJ));rw [<-fI] at fJ fH;have hS:=Lh (ϟ fJ fH);have hR:=Lh fI;clear cT cV bG fJ fH cA hU dN cU fI;refine ⟨.inl ⟨hV,hY,hZ⟩,?_⟩;refine AH κ ?_;go_simp;refine BH ?_;clear hV hY hZ kK;rw [<-hR.o];clear hR;have bL:=Lh (jB.o.go hS.o.2 ω);have aM:=@Lh (SAt aT H d { D with order:=D.order++[((i:Int),(F:Int))] }) hS.o.1;have dW:Hid (H d=1/\d<aT):=Lh ⟨aM.o.lab,GStAt.lt (show GStAt aT H _ d (traG _) from aM.o)⟩;have aN:=@Lh (H ((w:Nat)+1)=14) (by rw [<-gA.o];exact bL.o.lab)
      -- region 19: results
   obtain ⟨b7,n7,v7,G,bD,-⟩:=aM.o.viewR (x:=F) P.o.1;obtain ⟨hI,hK,rfl,-,-,bR,-⟩:=LeafAt.at2 bD (n:=F.length) (flat_len (f:=Dw) (sz:=5) (λ_=>rfl) F) ω;have p7:=G.hd;have bS:=G.el;have bQ:=bL.o.box;rw [gA.o] at bQ;obtain ⟨o0,o1,o2,o3,o4⟩:=Ω5 bQ;have H7:=Lh G;have iT:=Lh bR;clear bQ G bD bR;go_upto_region 19 with fail;refine Ac (λg=>g.cell? (π d 7)=ς (σ (ς (π b7 0)) D.results n7)/\g.cell? (π b7 i)=ς (σ hI F hK)/\g.cell? (π (w+1) 0)=ς (ι f)/\g.cell? (π (w+1) 1)=ς (ι v)/\g.cell? (π (w+1) 2)=ς (ι x.run.C)/\g.cell? (π (w+1) 3)=ς (ι x.N)/\g.cell? (π (w+1) 4)=ς (ι 0)) [13,14,16] ϑ 17 rfl κ κ ⟨p7,bS,o0,o1,o2,o3,o4⟩ ?_;refine softA ?_;have aJ:=Lh (ϟ p7 (ϟ bS (ϟ o0 (ϟ o1 (ϟ o2 (ϟ o3 o4))))));clear p7 bS o0 o1 o2 o3 o4;refine AH κ ?_;go_simp;have bH:Below aT aT (aT.alloc (χ #[ι f,ι v,ι x.run.C,ι x.N,ι 0] 114)):=AA _ _;refine ⟨Θ7 bH aJ.o,?_⟩;obtain ⟨uV,dR⟩:=ε ((aT.alloc (χ #[ι f,ι v,ι x.run.C,ι x.N,ι 0] 114)).drew);rw [<-dR];have iD:uV.heap[(aT:Nat)]?=ς (χ #[ι f,ι v,ι x.run.C,ι x.N,ι 0] 114 (0,0)):=by rw [dR];exact Hn _ _
   have dQ:AT NO H H aT uV:=AT.ob (by rw [dR];exact Cb _ _) (no 0);have kQ:=Lh dQ;have cX:∀ b,(uV:Nat)<=b->H b=0:=λb hb=>aM.o.hi b (Nt dQ.size hb);clear dR bH;refine AH κ ?_;refine Dz (λk=>k=100+16*i+7) (.tmp 150) (.tmp 152) 127 114 rfl underlying127 JB rfl δ δ (c:=H) (tag:=100+16*i+7) (v:=σ hI F hK) (n:=F.length) (xs:=Dk F) rfl (iT.o.kp dQ (no _)) (π aT 0) 1 1 [ι f,ι v,ι x.run.C,ι x.N,ι 0] rfl rfl (λj u S=>by rw [GB,Nat.zero_add,cell_of_row _ _ _ _ _ _ iD];simpa using S) (by simp [Value.oneCell']) δ (by have:=P.o.2.2.2.2.1;omega) rfl ω cX (λug kR uw uc bI cW cY _=>?_);have aU:=cW.aft kQ.o;have iE:=aU.cell aJ.o.1 (by show ¬H _=_;rw [dW.o.1];omega);have iF:=aU.cell aJ.o.2.1 (by show ¬H _=_;rw [H7.o.lab];omega);have iG:=aU.cell aJ.o.2.2.1 (by show ¬H _=_;rw [aN.o];omega);have iH:=aU.cell aJ.o.2.2.2.1 (by show ¬H _=_;rw [aN.o];omega);have iI:=aU.cell aJ.o.2.2.2.2.1 (by show ¬H _=_;rw [aN.o];omega);have iJ:=aU.cell aJ.o.2.2.2.2.2.1 (by show ¬H _=_;rw [aN.o];omega);have iK:=aU.cell aJ.o.2.2.2.2.2.2 (by show ¬H _=_;rw [aN.o];omega);have kS:=aU.frozen H7.o.lt (H7.o.frz i) (by show ¬H b7=_;rw [H7.o.lab];omega);obtain ⟨fN,fL⟩:=aM.o.addR (x:=F) (o:=⟨f,v,x.run.C,x.N,0⟩) P.o.1 H7.o aU cY bI;obtain ⟨U,fM⟩:=ε (uw.setCell (π b7 i) (σ (ς (π ug 0)) (F.length+1) kR));rw [<-fM] at fN fL;have iC:=Lh (ϟ fN fL);have iB:=Lh fM;clear cW cY bI fN fL aU iD dQ cX fM;refine ⟨.inl ⟨iE,iF,iG,iH,iI,iJ,iK⟩,?_⟩;refine AH κ ?_;go_simp;refine BH ?_;clear iE iF iG iH iI iJ iK kS;rw [<-iB.o];clear iB;have eA:=Lh (bL.o.go iC.o.2 ω);have aK:=Lh iC.o.1;have cD:Hid (uc d=1/\d<U):=Lh ⟨aK.o.lab,GStAt.lt (show GStAt U uc _ d (traG _) from aK.o)⟩
      -- region 20: ends
   obtain ⟨b8,n8,v8,G,bD,-⟩:=aK.o.viewE (x:=V) P.o.2.1;obtain ⟨hJ,hL,rfl,-,-,bR,-⟩:=LeafAt.at2 bD (n:=V.length) ψ ω;have p8:=G.hd;have fG:=G.el;have fF:U.cell? (π d 12)=ς (ι D.U):=GStAt.p0 (show GStAt U uc _ d (traG _) from aK.o) (j:=12) rfl;have H8:=Lh G;have iU:=Lh bR;clear G bD bR;go_upto_region 20 with fail;refine Ac (λg=>g.cell? (π d 9)=ς (σ (ς (π b8 0)) D.P n8)/\g.cell? (π b8 i)=ς (σ hJ V hL)/\g.cell? (π d 12)=ς (ι D.U)) [16,17,19] ϑ 20 rfl κ κ ⟨p8,fG,fF⟩ ?_;refine softA ?_;have cB:=Lh (ϟ p8 (ϟ fG fF));clear p8 fG fF;refine AH κ ?_;go_simp;have dU:Below U U (U.alloc (χ #[ι D.U] 3)):=AA _ _;refine ⟨Θ3 dU cB.o,?_⟩;obtain ⟨yV,dT⟩:=ε ((U.alloc (χ #[ι D.U] 3)).drew);rw [<-dT];have iP:yV.heap[(U:Nat)]?=ς (χ #[ι D.U] 3 (0,0)):=by rw [dT];exact Hn _ _
   have dS:AT NO uc uc U yV:=AT.ob (by rw [dT];exact Cb _ _) (no 0);have lE:=Lh dS;have dA:∀ b,(yV:Nat)<=b->uc b=0:=λb hb=>aK.o.hi b (Nt dS.size hb);clear dT dU;refine AH κ ?_;refine Dz (λk=>k=100+16*i+9) (.tmp 166) (.tmp 171) 22 3 rfl underlying22 Cx rfl δ δ (c:=uc) (tag:=100+16*i+9) (v:=σ hJ V hL) (n:=V.length) (xs:=V.map (Value.int .i64)) rfl (iU.o.kp dS (no _)) (π U 0) 1 1 [ι D.U] rfl rfl (λj u S=>by rw [GB,Nat.zero_add,cell_of_row _ _ _ _ _ _ iP];simpa using S) (by simp [Value.oneCell']) δ (by have:=P.o.2.2.2.2.2.1;omega) rfl ω dA (λyg lF yw yc bJ cZ dB _=>?_);have cC:=cZ.aft lE.o;have iQ:=cC.cell cB.o.1 (by show ¬uc _=_;rw [cD.o.1];omega);have iR:=cC.cell cB.o.2.1 (by show ¬uc _=_;rw [H8.o.lab];omega);have iS:=cC.cell cB.o.2.2 (by show ¬uc _=_;rw [cD.o.1];omega);have lG:=cC.frozen H8.o.lt (H8.o.frz i) (by show ¬uc b8=_;rw [H8.o.lab];omega);obtain ⟨fU,fS⟩:=aK.o.addE (x:=V) (o:=D.U) P.o.2.1 H8.o cC dB bJ;obtain ⟨jO,fT⟩:=ε (yw.setCell (π b8 i) (σ (ς (π yg 0)) (V.length+1) lF));rw [<-fT] at fU fS;have iO:=Lh (ϟ fU fS);have iN:=Lh fT;clear cZ dB bJ fU fS cC iP dS dA fT;refine ⟨.inl ⟨iQ,iR,iS⟩,?_⟩;refine AH κ ?_;go_simp;refine BH ?_;clear iQ iR iS lG;rw [<-iN.o];clear iN;have eB:=Lh (eA.o.go iO.o.2 ω);have cF:=Lh iO.o.1
      -- region 21: calls
   obtain ⟨b6,n6,v6,G,dI,-⟩:=cF.o.viewC (x:=Z::J) P.o.2.2.1;obtain ⟨lN,dM,rfl⟩:=dI.form;obtain ⟨fD,fE,rfl,-⟩:=dI.nth (k:=0) rfl;obtain ⟨pa,gW⟩:∃ a,(if dM=1 then ς ((π fD fE):Addr) else ς (π fD (fE+2)))=a:=⟨_,rfl⟩
   have hC:=dI.tail gW;obtain ⟨E,cg⟩:=cF.o.setC (x:=Z::J) (l:=J) P.o.2.2.1 G (v:=σ pa J (dM - 1)) (by unfold calP;rw [Hk] at *;exact hC);obtain ⟨bT,bN⟩:=ε (jO.setCell (π b6 i) (σ pa J (dM - 1)));rw [<-bN] at E cg;have p6:=G.hd;have hN:=G.el;have kH:=G.frz i;have i6:(1:Int)<=(J:Int)+1:=ω;have bM:=Lh (E.grow (AG (Below.refl (bT:Nat) bT) 1));have cE:=Lh ((eB.o.go cg ω).go (AT.ob (T:=NO) (AG (Below.refl (bT:Nat) bT) 1) (no 0)) (no 14));have cI:=Lh bN;clear G dI hC E cg bN;go_upto_region 21 with fail;refine Ac (λg=>g.cell? (π d 6)=ς (σ (ς (π b6 0)) D.A n6)/\g.cell? (π b6 i)=ς (Value.slice (ς (π fD fE)) (Z::J).length dM)) [14] ϑ 15 rfl κ κ ⟨p6,hN⟩ ?_;refine softA ?_;refine AH κ ?_;go_simp;rw [<-cI.o];refine BH ?_;clear p6 hN kH i6 gW cI;obtain ⟨A,bO⟩:=ε (bT.drew);rw [show bT.drewN 1=A from bO.symm] at bM cE;rw [<-bO];clear bO
      -- region 22: the transaction is zero
   obtain ⟨C,lH,jS,kN,kU,h5,gP,-,M,L,-,-,-,cN⟩:=bM.o.viewX (x:=x) P.o.2.2.2.1;obtain ⟨E,cg⟩:=bM.o.setX zeroX ν ν ν (x0:=x) P.o.2.2.2.1 h5 gP fraNil ⟨0,Ao.nil _ _ _ _ _⟩ ⟨0,Ao.nil _ _ _ _ _⟩;have eT:trxC ν ν ν zeroX=[ν,ι 0,ι 0,ι 0,ι 0,ι 0,ι 0,ι 0,ι 0,ι 0,ι 0,ν,ν]:=rfl;rw [eT] at E cg;have iM:A.cell? (π C (i*13+0))=ς (jS):=L 0 _ rfl;have gL:A.frozen? (π C (i*13+0))=ϝ:=M (i*13+0);have kV:A.cell? (π C (i*13+1))=ς (ι x.run.Q.K):=L 1 _ rfl;have jT:A.frozen? (π C (i*13+1))=ϝ:=M (i*13+1);have kW:A.cell? (π C (i*13+2))=ς (ι x.run.Q.O):=L 2 _ rfl;have jU:A.frozen? (π C (i*13+2))=ϝ:=M (i*13+2);have kX:A.cell? (π C (i*13+3))=ς (ι x.run.Q.D):=L 3 _ rfl;have jV:A.frozen? (π C (i*13+3))=ϝ:=M (i*13+3);have kY:A.cell? (π C (i*13+4))=ς (ι x.run.Q.V):=L 4 _ rfl;have jW:A.frozen? (π C (i*13+4))=ϝ:=M (i*13+4);have kZ:A.cell? (π C (i*13+5))=ς (ι x.run.Q.X):=L 5 _ rfl;have jX:A.frozen? (π C (i*13+5))=ϝ:=M (i*13+5);have lA:A.cell? (π C (i*13+6))=ς (ι x.run.Y):=L 6 _ rfl;have jY:A.frozen? (π C (i*13+6))=ϝ:=M (i*13+6);have lB:A.cell? (π C (i*13+7))=ς (ι x.run.C):=L 7 _ rfl;have jZ:A.frozen? (π C (i*13+7))=ϝ:=M (i*13+7);have lC:A.cell? (π C (i*13+8))=ς (ι x.run.I):=L 8 _ rfl;have kA:A.frozen? (π C (i*13+8))=ϝ:=M (i*13+8);have lD:A.cell? (π C (i*13+9))=ς (ι x.start):=L 9 _ rfl;have kB:A.frozen? (π C (i*13+9))=ϝ:=M (i*13+9);have fP:A.cell? (π C (i*13+10))=ς (ι x.N):=L 10 _ rfl;have eE:A.frozen? (π C (i*13+10))=ϝ:=M (i*13+10);have fQ:A.cell? (π C (i*13+11))=ς (kN):=L 11 _ rfl;have eF:A.frozen? (π C (i*13+11))=ϝ:=M (i*13+11);have fR:A.cell? (π C (i*13+12))=ς (kU):=L 12 _ rfl;have eG:A.frozen? (π C (i*13+12))=ϝ:=M (i*13+12);rw [Nat.add_zero] at iM gL;obtain ⟨wz,eZ⟩:=ε (putsW A C (i*13) [ν,ι 0,ι 0,ι 0,ι 0,ι 0,ι 0,ι 0,ι 0,ι 0,ι 0,ν,ν]);rw [<-eZ] at E cg;have hE:commitT s i x f v={ D with order:=D.order++[((i:Int),(F:Int))],results:=D.results.modify i (·++[⟨f,v,x.run.C,x.N,0⟩]),P:=D.P.modify i (·++[D.U]),A:=D.A.set i J,active:=D.active.set i zeroX }:=by unfold commitT;rw [<-jA.o];dsimp only;rw [bB.o.1,bB.o.2.1,bB.o.2.2.1,bB.o.2.2.2.1,bB.o.2.2.2.2.1,bB.o.2.2.2.2.2.1,bB.o.2.2.2.2.2.2.1,mod_tail bB.o.2.2.2.2.2.2.2]
   have bK:Hid (CmtIs cd s i x f v d c w (.returned (.tuple #[])) wz):=Lh ⟨rfl,_,.inr ⟨jC.o,rfl⟩,yc,by rw [hE];exact E,cE.o.chg.trans cg.nz⟩;have jM:=Lh eZ;clear E cg eT hE eZ M L gP cN;have i7:=i5;go_upto_region 22 with fail;go_wp2_with fail;rw [puts13,<- jM.o];clear iM gL kV jT kW jU kX jV kY jW kZ jX lA jY lB jZ lC kA lD kB fP eE fQ eF fR eG
   go_end0
   exact bK.o
