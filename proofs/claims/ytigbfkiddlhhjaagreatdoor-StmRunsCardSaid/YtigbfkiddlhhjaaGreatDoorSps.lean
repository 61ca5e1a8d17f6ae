import Derived.Test.YtigbfkiddlhhjaaGreatDoorSpr
set_option maxHeartbeats 4000000
set_option maxRecDepth 100000
set_option linter.all false
open Go renaming World→Ϣ,Value→ϒ,Calls→ϙ
open Go.RowKit renaming Below→ϐ
open Option renaming some→O
open Bool renaming false→ϝ,true→ϑ
open And renaming intro→ϟ
open List renaming replicate→ϱ,mem_cons→ϰ
open Go.Value renaming slice→D
open Go.Obj renaming cells→χ
namespace Go.Proofs.YtigbfkiddlhhjaaGreatDoor
open Go.RowKit Proofs.Tryz
open Go.RowKit renaming ω→X,ι→H,π→I
variable{e:TypeId}{α:Type}{c c' c1:A1}{m:AV}{T:Nat->Prop}{w w':Ϣ}{b bt k sz n bytes tag j cap B:Nat}{s:Tra}{xs vs:List ϒ}{a:Option Addr}{z u:ϒ}{x:Xad}{fs:List AY}{l:List α}{f:α->List ϒ}{E:Ϣ->Nat->Nat->α->Prop}
def Xkb(s:Tra)(c:A1)(bt d i:Nat)(r:Rq)(w:Ϣ)(n:SAt w c bt s)(g:0<=r.O/\r.O<=1099511627776)(m:0<=r.D)(hl:¬r.D<((Bd s.M r).length:Int)) :
  ϙ prog 76 #[.pointer (O (I bt 0)),.pointer (O (I d (i*13))),.agg #[H r.K,H r.O,H r.D,H r.V,H r.X]] w λe w'=>e=.returned (.tuple #[H 0,.bool ϝ])/\ϐ w w w':=by
 let⟨j,a⟩:=ε (w.alloc (χ #[H r.K,H r.O,H r.D,H r.V,H r.X] 57));have b:=Lh (bl1 a);have d:=Xao a;have c1:=Ω3 d;have k:=Lh (Xdc s.M bt r.O r.D j (n.grow b.o).memRd g.1 m g.2);have l:=Lh hl;go_in;go_upto_region 1 with fail;rw[<-a];clear a;go_wp2_with fail;refine k.o.mono ?_;rintro e o⟨f,(⟨a,rfl⟩|⟨a,_,_,_,rfl⟩)⟩
 .have h:=Lh (b.o.th f)
  go_wp2_with fail;go_ret2;exact⟨rfl,h.o⟩
 exfalso;have:r.D<((Bd s.M r).length:Int):=a;have:=l.o;omega
def Xcx.modest{c:AQ}(hs:AU c)(b:Bv c)(a:Xcx c m):IK m:=by
 rcases a.P with a|⟨a,_⟩
 .exact a.modest hs b
 exact⟨by rw[a];simp,λf b=>by rw[a]at b;simp at b⟩
def Xen(w:Ϣ)(c:A1)(b:Nat)(cvs:Array ϒ):Prop:=w.heap[b]?=O (χ cvs 25 (0,0))/\c b=0
def Xen.go{e:Array ϒ}(a:Xen w c b e)(d:AT T c c' w w'):Xen w' c' b e:=
 have e:=(La a.1)
 ⟨by rw[d.kp b e (by rw[a.2];exact d.zero)];exact a.1,by rw[d.old b e];exact a.2⟩
def Xen.cells{l:List ϒ}(d:Xen w c b l.toArray):∀(j:Nat) z,l[j]?=O z->w.cell? (I b j)=O z:=λj z a=>by rw[cell_of_row _ _ _ _ _ _ d.1,List.getElem?_toArray];exact a
def StA(cd:AQ)(s:Tra)(i:Nat)(fr:Bool)(bt:Nat)(cvs:Array ϒ)(c:A1)(w wx:Ϣ):Prop:=∃c1 s1 y,SAt wx c1 bt s1/\Xen wx c1 (w:Nat) cvs/\AT NZ c c1 w wx/\Xb1 cd s1 i y/\s1.U=s.U/\∀s2,GoS cd s1 i y fr s2->gw cd s i (Xb3 s2)
def StB(cd:AQ)(s1:Tra)(i:Nat)(y:Trx)(fr:Bool)(bt:Nat)(c:A1)(w wx:Ϣ):Prop:=∃c2 s2,SAt wx c2 bt s2/\AT NZ c c2 w wx/\GoS cd s1 i y fr s2
def StC(cd:AQ)(s1:Tra)(i:Nat)(y:Trx)(bt ab cap:Nat)(c1:A1)(w wx:Ϣ)(ans:Int)(ok:Bool):Prop:=∃c3 s3 x3,SAt wx c3 bt s3/\AT NZ c1 c3 w wx/\s3.q1[i]?=O x3/\x3.run=y.run/\wx.cell? (I bt 5)=O (D (O (I ab 0)) s1.q1 cap)/\s3.q1.length=s1.q1.length/\
 ((ok=ϑ/\Bj y.run.Q ans=ϑ/\∀m',ED cd y.run ans m'->DoS cd s1 i y {s3 with q1:=s3.q1.set i {x3 with run:=m'}})\/(ok=ϝ/\s3=s1/\y.run.Q.K≠3/\¬y.run.Q.D<((Bd s1.M y.run.Q).length:Int)))
def Xon(s:Tra)(x:Trx)(r:Rq):(Xbn s x r).1.run=x.run:=by
 unfold Xbn;simp only;split
 .split<;>(split<;>rfl)
 split
 .split<;>rfl
 split<;>(split<;>rfl)
def Xk5(cd:AQ)(s:Tra)(i bt:Nat)(c:A1)(w:Ϣ)(e:Ending)(w':Ϣ):Prop:=e=.returned (.tuple #[])/\∃s',gw cd s i s'/\Xm0 c bt s' w w'
def Xft(cd:AQ)(gU gV:Option Addr)(gS gT B:Nat)(s:Tra)(c:A1)(bt i:Nat)(jB:Bi)(jU:List Bi)(w0 w:Ϣ)(t:Xbl cd (.agg (Bc gU gS gV gT cd)) B w0 w c)(J:Bv cd)(r:SAt w c bt s)(g:Xbh cd s)(hl:s.A[i]?=O (jB::jU))(F:s.U<65536) :
  ϙ prog 41 #[.agg (Bc gU gS gV gT cd),.pointer (O (I bt 0)),H i] w (Xk5 cd s i bt c w):=by
 obtain⟨iY,p⟩:=ε (w.alloc (χ (Bc gU gS gV gT cd) 25));have jA:=Lh (bl1 p);have gR:=Lh (Xao p);have kC:=Lh (t.grow jA.o);have iE:=Lh (r.grow jA.o);have A:=(Ll hl);obtain⟨x,l⟩:=Ϡ s.q1 i (by rw[<-g.A];exact A);obtain⟨lq,_,Q,_,h⟩:=g.row l;obtain rfl:lq=jB::jU:=by have:=h.l.symm.trans hl;simpa using this
 have f:=g.all _ _ _ _ _ _ h;have z:Q.length<=2001:=by rcases f.act with ⟨_,gQ⟩|⟨_,_,gQ⟩<;>(have:=f.ops;omega)
 have kM:=Lh t;have jQ:Hid (Xen iY c (w:Nat) (Bc gU gS gV gT cd)):=Lh ⟨gR.o,r.hi _ (Nr _)⟩;have y:=Lh (ϟ g (ϟ l (ϟ h.b (ϟ z (ϟ hl (ϟ F (ϟ J f.right)))))));obtain⟨_,cap,_,_,_,hD,S,V,T,a,-,P,R,N⟩:=iE.o.viewX l;have:=In i;have:(i:Int)<(s.q1:Int):=X;have q:=a 0 _ rfl;have gZ:=a 1 _ rfl;have gY:=a 2 _ rfl;have gX:=a 3 _ rfl;have gW:=a 4 _ rfl;have gP:=a 5 _ rfl;have Y:=a 6 _ rfl;have W:=a 7 _ rfl;have M:=a 8 _ rfl;have L:=a 9 _ rfl;have G:=a 10 _ rfl;have E:=a 11 _ rfl;have C:=a 12 _ rfl;rw[Nat.add_zero]at q;obtain⟨jV,d⟩:=ε (!(x.run.Q.K !=0));have hY:=Lh d;clear t J r g hl F A l h f z S V T a P R N;go_in;go_upto_region 1 with fail;rw[<-p];clear p;go_wp2_with fail;refine(Xdz _ _ _ _ _ _ _ _ _ _ _ _ _ _).mono ?_;rintro e A⟨rfl,a⟩;have V:=Lh a;clear a q gZ gY gX gW gP Y W M L G E C hD;go_upto_if 20 with fail;rw[<-d];clear d;go_cut[] (λgQ=>Hid (StA cd s i jV bt (Bc gU gS gV gT cd) c w gQ))
 .cases jV with
  |false=>
   go_wp2;go_meet;have l:x.run.Q.K≠0:=by have:=hY.o;simp at this;exact this
   exact Lh ⟨c,s,x,iE.o.grow V.o,jQ.o.go (AT.ob V.o Qx),AT.ob (jA.o.th V.o) Qx,y.o.1.goes y.o.2.1 l,rfl,λgQ gR=>⟨x,gQ,y.o.2.1,rfl,.inr ⟨l,gR⟩⟩⟩
  |true=>
   have l:x.run.Q.K=0:=by have:=hY.o;simp at this;exact this
   have jX:=Lh l;have S:=Lh (iE.o.grow V.o);have kE:=Lh (kC.o.grow V.o);have jE:Hid (c bt=1/\bt<A):=Lh ⟨S.o.lab,S.o.lt⟩;obtain⟨hG,iT,_,a,p,q⟩:=S.o.viewB (x:=Q) y.o.2.2.1;obtain⟨iK,iL,rfl,-,-,h,-⟩:=X6.at2 p (n:=Q.length) ψ X;have g:=a.hd;have f:=a.el;have d:=S.o.p0 (j:=12) rfl;have:(i:Int)<(s.Z:Int):=X;have gP:=Lh a;have jT:=Lh h;clear a p h q l;go_upto_region 3 with fail;refine wp_region_bel (λV h=>ϟ (AB h g) (ϟ (AB h f) (AB h d))) [16,17,19] ϑ 20 rfl κ κ ?_;refine Xac ?_;have gR:=Lh (ϟ g (ϟ f d));clear g f d;refine AH κ ?_;go_simp;have d:ϐ A A (A.alloc (χ #[H s.U] 3)):=AA _ _;refine⟨Θ3 d gR.o,?_⟩;obtain⟨gQ,a⟩:=ε ((A.alloc (χ #[H s.U] 3)).drew);rw[<-a];have G:gQ.heap[(A:Nat)]?=O (χ #[H s.U] 3 (0,0)):=by rw[a];exact Hn _ _
   have p:AT NO c c A gQ:=AT.ob (by rw[a];exact Cb _ _) (no 0);have iT:=Lh p;have E:=λb gQ=>S.o.hi b (Nt p.size gQ);clear a d;refine AH κ ?_;refine Dz (λk=>k=100+16*i+8) (.tmp 32) (.tmp 37) 22 3 rfl underlying22 Cx rfl δ δ (c:=c) (tag:=100+16*i+8) (v:=D iK Q iL) (n:=Q.length) (xs:=Q.map (Value.int .i64)) rfl (jT.o.kp p (no _)) (I A 0) 1 1 [H s.U] rfl rfl (λj u A=>by rw[GB,Nat.zero_add,cell_of_row _ _ _ _ _ _ G];simpa using A) (by simp[Value.oneCell']) δ (by have:=y.o.2.2.2.1;omega) rfl X E (λiE iK hY gQ z r t _=>?_);have a:=r.aft iT.o;have C:=a.cell gR.o.1 (Ϟ jE.o.1 ω);have A:=a.cell gR.o.2.1 (Ϟ gP.o.lab ω);have q:=a.cell gR.o.2.2 (Ϟ jE.o.1 ω);have J:=a.frozen gP.o.lt (gP.o.frz i) (Ϟ gP.o.lab ω);obtain⟨g,f⟩:=S.o.addB (x:=Q) (o:=s.U) y.o.2.2.1 gP.o a t z;obtain⟨S,d⟩:=ε (hY.setCell (I hG i) (D (O (I iE 0)) (Q.length+1) iK));rw[<-d]at g f;have F:=Lh (ϟ g f);have h:=Lh d;clear r t z g f a G p E d;refine⟨.inl ⟨C,A,q⟩,?_⟩;refine AH κ ?_;go_simp;refine BH ?_;clear C A q J;rw[<-h.o];clear h;have Q:=Lh F.o.1;have A:=Lh (kE.o.go F.o.2.nz);have a:=(((jQ.o.go (AT.ob V.o Qx)).go F.o.2):Xen S gQ w (Bc gU gS gV gT cd)).cells;have J:=Γ3 a;have iI:=Lh (Xha cd gU gV gS gT B {s with Z:=s.Z.modify i (·++[s.U])} gQ bt i x jB jU w0 S A.o y.o.2.2.2.2.2.2.1 y.o.1.sound Q.o y.o.2.1 y.o.2.2.2.2.1 (Xcc y.o.1.Y (y.o.2.2.2.2.2.2.2 jB (List.mem_cons_self ..))));clear a;go_wp2_with fail;refine iI.o.mono ?_;rintro e L⟨rfl,A,d,c',f,a⟩;have iN:Hid (StA cd s i ϑ bt (Bc gU gS gV gT cd) c w L):=Lh ⟨c',Xc8 s i A,A,f,((jQ.o.go (AT.ob V.o Qx)).go F.o.2).go a,((AT.ob (jA.o.th V.o) Qx).trans F.o.2.nz).trans a,y.o.1.begins_ y.o.2.1 jX.o d,rfl,λF Q=>⟨x,F,y.o.2.1,rfl,.inl ⟨jX.o,A,d,Q⟩⟩⟩;clear d f a J;go_wp2;go_meet;exact iN
 obtain⟨c1,z,a,q,h,d,p,g,f⟩:=hcut.o;obtain⟨iD,jI,r,jD,jW,jZ⟩:=Λ6 q d p (ϟ g f) (kM.o.go d) h;clear q h d p g f hcut;obtain⟨gW,hF,_,_,_,h,g,f,q,d,t,-,-,p⟩:=iD.o.viewX r.o.hx;have:(i:Int)<(z.q1:Int):=X;have R:=d 1 _ rfl;have P:=d 2 _ rfl;have N:=d 3 _ rfl;have M:=d 4 _ rfl;have G:=d 5 _ rfl;have kI:=Lh (ϟ g (ϟ f h));clear g f q d t p;obtain⟨C,d⟩:=ε (wc.alloc (χ #[H a.run.Q.K,H a.run.Q.O,H a.run.Q.D,H a.run.Q.V,H a.run.Q.X] 57));have f:=Lh d;have E:=Lh (bl1 d);have hQ:=Lh (Xao d);clear d;go_upto_region 7 with fail;rw[<-f.o];clear f R P N M G h;have iS:=Ω5 hQ.o;have f:=(jZ.o.go (AT.ob E.o Qx):Xen C c1 w (Bc gU gS gV gT cd)).cells;have J:=Γ3 f;have d:=RN r.o.inv.sound r.o.ok.u2.P r.o.ok.u2.Y;have iF:=Lh d.1;clear f d;go_upto_block 0 with fail;go_cut[] (λA=>Hid (StB cd z i a jV bt c w A))
 .by_cases iZ:Xbj a.run=ϑ
  .have l:a.run.Q.K=4\/a.run.Q.K=5:=by unfold Xbj at iZ;simpa using iZ
   have hS:=Lh iZ;clear iZ;cases jV with
   |true=>
    have gZ:Hid (StB cd z i a ϑ bt c w C):=Lh ⟨c1,z,iD.o.grow E.o,jI.o.trans (AT.ob E.o Qx),.inl ⟨hS.o,rfl,rfl⟩⟩;rcases l with l|l
    .have:=ζ a.run.Q.K 4 l
     have:=Lh l;clear l;go_wp2;go_meet;exact gZ
    have:(a.run.Q.K==4)=ϝ:=by simp[l]
    have:=ζ a.run.Q.K 5 l;have:=Lh l;clear l;go_wp2;go_meet;exact gZ
   |false=>
    have hU:=Lh (Xfw cd gU gV gS gT B z c1 bt i a a.run.Q.X a.run.Q.V w0 C (jW.o.grow E.o) y.o.2.2.2.2.2.2.1 (iD.o.grow E.o) r.o (by rw[jD.o.1];have:=y.o.2.2.2.2.2.1;omega) iF.o.2.2.2.2 iF.o.2.2.2.1);rcases l with l|l
    .have:=ζ a.run.Q.K 4 l
     have:=Lh l;clear l;go_wp2_with fail;refine hU.o.mono ?_;rintro e L⟨rfl,s',g,c',f,d⟩;have iA:Hid (StB cd z i a ϝ bt c w L):=Lh ⟨c',s',f,(jI.o.trans (AT.ob E.o Qx)).trans d,.inr (.inl ⟨hS.o,rfl,g⟩)⟩;clear g f d iS J;go_wp2;go_meet;exact iA
    have:(a.run.Q.K==4)=ϝ:=by simp[l]
    have:=ζ a.run.Q.K 5 l;have:=Lh l;clear l;go_wp2_with fail;refine hU.o.mono ?_;rintro e L⟨rfl,s',g,c',f,d⟩;have iB:Hid (StB cd z i a ϝ bt c w L):=Lh ⟨c',s',f,(jI.o.trans (AT.ob E.o Qx)).trans d,.inr (.inl ⟨hS.o,rfl,g⟩)⟩;clear g f d iS J;go_wp2;go_meet;exact iB
  have g:Xbj a.run=ϝ:=by simpa using iZ
  have f:=r.o.ok.u2.run g;have d:Fy cd a.run.Q:=by obtain⟨fs,ff,A⟩:=f.waits;exact A.Q r.o.inv.sound
  have kP:=Lh f;have gX:=Lh d;have kL:=Lh g;have P:(a.run.Q.K==4)=ϝ:=by have:=d.K;simp;omega
  have N:(a.run.Q.K==5)=ϝ:=by have:=d.K;simp;omega
  have jY:=Lh (jW.o.grow E.o);have iC:=Lh (iD.o.grow E.o);have iX:=Lh (AB E.o kI.o.2.2);clear iZ g f d;go_upto_if 59 with fail;go_cut[9,10] (λQ S V=>∃A F,Q=H A/\S=.bool F/\Hid (StC cd z i a bt gW hF c1 C V A F))
  .by_cases l:a.run.Q.K=3
   .have M:=ζ a.run.Q.K 3 l
    obtain⟨f,g,p,h⟩:=gX.o.alloc l;obtain⟨f,rfl⟩:∃A:Nat,f=A:=⟨f.toNat,X⟩;have d:a.run.Q.D=(a.run.Q.D.toNat:Int):=by have:=gX.o.D;omega
    have G:=Xj7 cd gU gV gS gT B z c1 bt i gW hF a a.run.Q f a.run.Q.D.toNat w0 C jY.o iC.o r.o.hx iX.o d g X (by have A:=r.o.inv.q6.len;have f:=r.o.inv.M.len;omega) (by have A:=r.o.ok.N;have f:=jD.o.1;have:=y.o.2.2.2.2.2.1;omega);rw[<-d]at G;have G:=Lh G;have q:=Lh l;clear l g p h d;go_wp2_with fail;refine G.o.mono ?_;rintro e L(⟨t,rfl,Y,h,g,p⟩|⟨t,rfl,Y,h,g,p⟩)
    .have iU:Hid (StC cd z i a bt gW hF c1 C L ((z.M.N:Int)+1) ϑ):=Lh ⟨Y,_,_,h,g,List.getElem?_set_self (Ll r.o.hx),rfl,p,ψ,.inl ⟨rfl,by unfold Bj;rw[if_neg (by rw[q.o];omega),if_pos q.o];simp;omega,λd T=>.inl ⟨q.o,t,d,T,by unfold setX Xfu;simp[List.set_set]⟩⟩⟩
     clear t h g p iS J M P N;go_wp2;go_meet;exact⟨_,_,rfl,rfl,iU⟩
    have iJ:Hid (StC cd z i a bt gW hF c1 C L 0 ϑ):=Lh ⟨Y,_,_,h,g,r.o.hx,rfl,p,rfl,.inl ⟨rfl,by unfold Bj;rw[if_neg (by rw[q.o];omega),if_pos q.o];simp,λd T=>.inr (.inl ⟨q.o,t,d,T,rfl⟩)⟩⟩;clear t h g p iS J M P N;go_wp2;go_meet;exact⟨_,_,rfl,rfl,iJ⟩
   have t:=ξ a.run.Q.K 3 l;have hO:=Lh l;have g:0<=a.run.Q.O/\a.run.Q.O<=1099511627776:=⟨gX.o.O,gX.o.nodeV.2⟩;by_cases hl:a.run.Q.D<((Bd z.M a.run.Q).length:Int)
   .have G:=Lh (Xjc z c1 bt i gW hF a a.run.Q C iC.o r.o.hx iX.o g ⟨gX.o.D,hl⟩ (by have f:=r.o.ok.N;have q:=jD.o.1;have A:=y.o.2.2.2.2.2.1;omega) (by have f:=r.o.ok.count;have q:=jD.o.1;have A:=y.o.2.2.2.2.2.1;omega))
    have gY:=Lh hl;clear l g hl;go_wp2_with fail;refine G.o.mono ?_;rintro e L⟨rfl,A,p,h,q⟩;have f:=(Xkc r.o.inv.M r.o.ok gX.o hO.o gY.o r.o.ok.u2).2;have iQ:Hid (StC cd z i a bt gW hF c1 C L (Xbn z a a.run.Q).2 ϑ):=Lh ⟨A,_,(Xbn z a a.run.Q).1,p,h,List.getElem?_set_self (Ll r.o.hx),Xon _ _ _,q,ψ,.inl ⟨rfl,f,λd T=>.inr (.inr (.inl ⟨hO.o,gY.o,d,T,by unfold setX;simp[List.set_set]⟩))⟩⟩;clear p h q f iS J t P N;go_wp2;go_meet;exact⟨_,_,rfl,rfl,iQ⟩
   have G:=Lh (Xkb z c1 bt gW i a.run.Q C iC.o g gX.o.D hl);have M:∀L,ϐ C C L->Hid (StC cd z i a bt gW hF c1 C L 0 ϝ):=λL f=>Lh ⟨c1,z,a,iC.o.grow f,AT.ob f Qx,r.o.hx,rfl,AB f iX.o,rfl,.inr ⟨rfl,rfl,hO.o,hl⟩⟩;have M:=Lh M;clear l g hl;go_wp2_with fail;refine G.o.mono ?_;rintro e L⟨rfl,f⟩;have hP:=M.o L f;clear f iS J t P N;go_wp2;go_meet;exact⟨_,_,rfl,rfl,hP⟩
  obtain⟨iO,_,rfl,rfl,p⟩:=hcut;clear iS J P N;obtain⟨iV,kK,_,h,f,jC,W,jG,kO,iM⟩:=p.o;have kH:=Lh (jY.o.go f);have jH:=Lh h;have kJ:=Lh ((jI.o.trans (AT.ob E.o Qx)).trans f);have g:=((jZ.o.go (AT.ob E.o Qx)).go f:Xen wc iV (w:Nat) (Bc gU gS gV gT cd)).cells;have J:=Γ3 g;have kN:=Lh (((jZ.o.go (AT.ob E.o Qx)).go f).2);clear g h f p;rcases iM with ⟨rfl,N,jN⟩|⟨rfl,rfl,kF,kG⟩
  .obtain ⟨h,hM,_,_,_,jL,jJ,jF,jK,p,t,-,-,kD⟩:=jH.o.viewX jC
   obtain⟨rfl,rfl⟩:h=gW/\hM=hF:=by have:=jL.symm.trans jG;simp at this;exact⟨this.1,this.2.2⟩
   rw[W]at t;obtain⟨hZ,cQ,rfl⟩:=t.u1;have jS:wc.cell? (I h (i*13))=O (D hZ a.run.J cQ):=by have:=p 0 _ rfl;rw[Nat.add_zero]at this;exact this
   have jR:wc.cell? (I h (i*13+1))=O (H a.run.Q.K):=by rw[<-W];exact p 1 _ rfl
   have jO:wc.cell? (I h (i*13+2))=O (H a.run.Q.O):=by rw[<-W];exact p 2 _ rfl
   have jM:wc.cell? (I h (i*13+3))=O (H a.run.Q.D):=by rw[<-W];exact p 3 _ rfl
   have iR:wc.cell? (I h (i*13+4))=O (H a.run.Q.V):=by rw[<-W];exact p 4 _ rfl
   have iP:wc.cell? (I h (i*13+5))=O (H a.run.Q.X):=by rw[<-W];exact p 5 _ rfl
   have iH:wc.cell? (I h (i*13+6))=O (H a.run.Y):=by rw[<-W];exact p 6 _ rfl
   have iG:wc.cell? (I h (i*13+7))=O (H a.run.C):=by rw[<-W];exact p 7 _ rfl
   have P:wc.cell? (I h (i*13+8))=O (H a.run.I):=by rw[<-W];exact p 8 _ rfl
   have g:=Lh (ϟ jJ (ϟ jF jK));have:=Lh t;have kB:=Lh N;have jP:=Lh (ϟ jC (ϟ jG jN));have kA:Hid (∀f,ϐ wc wc f->ϙ prog 77 #[.agg (Bc gU gS gV gT cd),.agg #[D hZ a.run.J cQ,H a.run.Q.K,H a.run.Q.O,H a.run.Q.D,H a.run.Q.V,H a.run.Q.X,H a.run.Y,H a.run.C,H a.run.I],H iO] f (λe w'=>∃d q A,ED cd a.run iO d/\e=.returned (.tuple #[.agg #[D q d.J A,H d.Q.K,H d.Q.O,H d.Q.D,H d.Q.V,H d.Q.X,H d.Y,H d.C,H d.I],H 0])/\CE f (D q d.J A) d w')):=Lh (λf A=>by
    have C:=(JT.mask wc iV).trans (JT.below A);have q:=kH.o.grow A;refine(Next_yes cd (.agg (Bc gU gS gV gT cd)) a.run (D hZ a.run.J cQ) iO f.heap.size f q.laid (Nr _) (q.q9.up q.size) (t.ups Dx (by rw[Hk];exact A.size) C) y.o.2.2.2.2.2.2.1 (r.o.ok.u2.valid r.o.inv.sound) (λf=>by have:=gX.o.K;omega) N).mono ?_;rintro e w'⟨d,_,hJ,hK,hH,R,hL⟩;obtain⟨hD,hE,rfl⟩:=R.u1;exact⟨d,hD,hE,hJ,hK,hH,R,hL⟩)
   clear jL jJ jF jK p t kD N jN jC jG W;go_upto_region 13 with fail;refine wp_region_bel (λV h=>ϟ (AB h J.1) (ϟ (AB h J.2.1) (AB h J.2.2))) [5,7,8,9,10,13] ϝ 14 rfl κ κ ?_;refine Xac ?_;refine AH κ ?_;go_simp;have p:=Lh (ϟ J.1 (ϟ J.2.1 (ϟ J.2.2 (ϟ jS (ϟ jR (ϟ jO (ϟ jM (ϟ iR (ϟ iP (ϟ iH (ϟ iG P)))))))))));clear J jS jR jO jM iR iP iH iG P;refine AH κ ?_;go_simp;refine(kA.o _ (AG Br 1)).mono ?_;rintro e t⟨d,iP,iR,P,rfl,N⟩;have C:=(AG (Below.refl (wc:Nat) wc) 1).th N.below;have f:=Lh C;have hD:=Lh P;have A:Xcx cd d:=by have q:=TX r.o.inv.sound kP.o kB.o P;exact⟨q.1,q.2.1,q.2.2⟩
   have E:=Lh (N.fras (c:=iV) (λb q=>jH.o.hi b (by simpa using q)) (A.modest r.o.inv.sound y.o.2.2.2.2.2.2.1));clear N P C A;refine⟨⟨AB f.o p.o.1,AB f.o p.o.2.1,AB f.o p.o.2.2.1⟩,?_⟩
   (refine' Ae κ _ (λA q=>?_) ?_;rotate_left;(clear q;go_simp);(try with_reducible rfl);try simp only[Ap])
   (refine' Ae κ _ (λA q=>?_) ?_;rotate_left;(clear q;go_simp);(try with_reducible rfl);try simp only[Ap])
   (refine' Ae κ _ (λA q=>?_) ?_;rotate_left;(clear q;go_simp);(try with_reducible rfl);try simp only[Ap])
   have gZ:=AB f.o p.o.2.2.2.1;have gY:t.frozen? (I h (i*13))=ϝ:=by rw[f.o.frozen g.o.2.1];exact g.o.2.2 _
   have gX:=AB f.o p.o.2.2.2.2.1;have gW:t.frozen? (I h (i*13+1))=ϝ:=by rw[f.o.frozen g.o.2.1];exact g.o.2.2 _
   have gR:=AB f.o p.o.2.2.2.2.2.1;have gQ:t.frozen? (I h (i*13+2))=ϝ:=by rw[f.o.frozen g.o.2.1];exact g.o.2.2 _
   have gP:=AB f.o p.o.2.2.2.2.2.2.1;have Y:t.frozen? (I h (i*13+3))=ϝ:=by rw[f.o.frozen g.o.2.1];exact g.o.2.2 _
   have V:=AB f.o p.o.2.2.2.2.2.2.2.1;have T:t.frozen? (I h (i*13+4))=ϝ:=by rw[f.o.frozen g.o.2.1];exact g.o.2.2 _
   have S:=AB f.o p.o.2.2.2.2.2.2.2.2.1;have R:t.frozen? (I h (i*13+5))=ϝ:=by rw[f.o.frozen g.o.2.1];exact g.o.2.2 _
   have Q:=AB f.o p.o.2.2.2.2.2.2.2.2.2.1;have P:t.frozen? (I h (i*13+6))=ϝ:=by rw[f.o.frozen g.o.2.1];exact g.o.2.2 _
   have N:=AB f.o p.o.2.2.2.2.2.2.2.2.2.2.1;have M:t.frozen? (I h (i*13+7))=ϝ:=by rw[f.o.frozen g.o.2.1];exact g.o.2.2 _
   have G:=AB f.o p.o.2.2.2.2.2.2.2.2.2.2.2;have F:t.frozen? (I h (i*13+8))=ϝ:=by rw[f.o.frozen g.o.2.1];exact g.o.2.2 _
   obtain⟨q,cg⟩:=(jH.o.grow f.o).setMac jP.o.1 (AB f.o jP.o.2.1) g.o.1 (m:=d) (by unfold Xch;rw[Hk];exact E.o);have C:FW (D iP d.J iR) d=[D iP d.J iR,H d.Q.K,H d.Q.O,H d.Q.D,H d.Q.V,H d.Q.X,H d.Y,H d.C,H d.I]:=rfl;rw[C]at q cg;obtain⟨E,A⟩:=ε (Xaa t h (i*13) [D iP d.J iR,H d.Q.K,H d.Q.O,H d.Q.D,H d.Q.V,H d.Q.X,H d.Y,H d.C,H d.I]);rw[<-A]at q cg;have jF:Hid (StB cd z i a jV bt c w E):=Lh ⟨iV,_,q,((kJ.o.trans (AT.ob f.o Qx)).trans (cg.mono (λz t=>by unfold NZ;omega) Qx)),.inr (.inr ⟨kL.o,jP.o.2.2 d hD.o⟩)⟩;have t:=Lh A;have z:=Δ3 f.o p.o.1 p.o.2.1 p.o.2.2.1;have d:h≠(w:Nat):=λe=>by have f:=g.o.1;have:=kN.o;rw[e]at f;omega
   have f:(w:Nat)≠h:=λe=>d e.symm;clear q cg C A;refine AH κ ?_;go_simp;rw[puts9,<- t.o];refine BH ?_;clear z d f;clear gZ gY gX gW gR gQ gP Y V T S R Q P N M G F;go_wp2;go_meet;exact jF
  have iH:=Lh (Xfw cd gU gV gS gT B kK iV bt i a 11 0 w0 wc kH.o y.o.2.2.2.2.2.2.1 jH.o r.o (by rw[jD.o.1];have:=y.o.2.2.2.2.2.1;omega) (by unfold in64;omega) (by unfold in64;omega));have N:=Lh (ϟ kF kG);clear kF kG jC W jG kO;go_wp2_with fail;refine iH.o.mono ?_;rintro e L⟨rfl,s',g,c',f,d⟩;have W:Hid (StB cd kK i a jV bt c w L):=Lh ⟨c',s',f,kJ.o.trans d,.inr (.inr ⟨kL.o,.inr (.inr (.inr ⟨N.o.1,by have:=N.o.2;omega,g⟩))⟩)⟩;clear g f d J;go_wp2;go_meet;exact W
 obtain⟨z,f,a,t,p⟩:=hcut.o;have:=Lh a;have h:f.U=s.U:=by rw[(r.o.goS p).2,jD.o.1]
 have jG:wc.cell? (I bt 12)=O (H s.U):=by rw[<-h];exact a.p0 (j:=12) rfl
 have jC:=a.frz 12;have:IntKind.i64.wrap (s.U+1)=s.U+1:=by have:=y.o.1.q3;have:=y.o.2.2.2.2.2.1;rw[IntKind.wrap_i64]<;>omega
 obtain⟨g,cg⟩:=a.num (j:=12) (n:=s.U+1) (s':=Xb3 f) (by unfold Xb3;rw[h];rfl);obtain⟨q,d⟩:=ε (wc.setCell (I bt 12) (H (s.U+1)));rw[<-d]at g cg;have iG:Hid (Xk5 cd s i bt c w (.returned (.tuple #[])) q):=Lh ⟨rfl,Xb3 f,jD.o.2 f p,z,g,t.trans (cg.mono (λq f=>by unfold NZ;omega) Qx)⟩;have P:=Lh d;clear a t p h g cg d hcut iS J;go_wp2_with fail;rw[<-P.o];clear jG jC;go_end0;exact iG.o
structure Xeu(w:Ϣ)(bt:Nat)(s:Tra)(ca:Option Addr)(cc:Nat):Prop where
 hd:w.cell? (I bt 6)=O (D ca s.A cc)
 el:∀(i:Nat) l,s.A[i]?=O l->∃b o la lc,ca=O (I b o)/\w.cell? (I b (o+i))=O (D la l lc)
 U:w.cell? (I bt 12)=O (H s.U)
def SAt.callsR(e:SAt w c bt s):∃g h,Xeu w bt s g h:=by
 let⟨a,cap,g,_,_,r⟩:=X5.at1 (show X5 w c _ bt (Xag s)from e) (j:=6) (n:=s.A.length) rfl ψ X;refine⟨a,cap,g,λp l d=>?_,e.p0 (j:=12) rfl⟩;have:=(Ll d);obtain⟨b,rfl,_,_,_,i⟩:=r X;let⟨_,q,o⟩:=i p _ (Xc5 (f:=λl=>.i (Xbz l)) d);obtain⟨k,m,rfl⟩:=AE.u1 (X6.i_reads o);exact⟨b,0,k,m,rfl,by rw[Nat.zero_add];exact q⟩
def Xc9.callsR(c:Xc9 w bt s):∃g h,Xeu w bt s g h:=by
 let⟨_,_,_,_,_,_,_,_,_,c⟩:=c.opened;obtain⟨⟨a,cap,rfl,-,-,-,e⟩,j⟩:=c.c;refine⟨a,cap,j,λo l d=>?_,c.U⟩;rcases e with i|⟨b,p,rfl,_,e⟩
 .rw [i]at d;simp at d
 obtain⟨_,f,k⟩:=e o l d;obtain⟨m,n,rfl⟩:=k.u1;rw[Nat.mul_one]at f;exact⟨b,p,m,n,rfl,f⟩
def Xeu.below{f:Option Addr}{d:Nat}(c:Xeu w bt s f d)(a:ϐ w w w'):Xeu w' bt s f d:=
 ⟨AB a c.hd,λi l h=>by let⟨b,g,d,f,e,k⟩:=c.el i l h;exact⟨b,g,d,f,e,AB a k⟩,AB a c.U⟩
def Xa1(s:Tra)(i:Int):Int:=if i<0\/(s.A:Int)<=i then 2 else if s.A.getD i.toNat []=[]then 14 else if 65536<=s.U then 6 else 0
def Xd4(s:Tra)(bt:Nat)(i:Int)(n:Option Addr)(m:Nat)(w:Ϣ)(f:Xeu w bt s n m):ϙ prog 40 #[.pointer (O (I bt 0)),H i] w λe w'=>e=.returned (H (Xa1 s i))/\ϐ w w w':=by
 have:=f.hd;have:=f.U;by_cases j:i<0
 .have:=η (i<0) j
  have r:=@Lh (Xa1 s i=2) (by unfold Xa1;rw[if_pos (.inl j)]);go_in;go_wp2;go_ret;exact⟨by rw[r.o];rfl,Below.refl _ _⟩
 have:=θ (i<0) j;obtain⟨k,rfl⟩:∃k:Nat,i=k:=⟨i.toNat,X⟩;by_cases u:s.A.length<=k
 .have:=η (s.A.length<=k)
  have q:=@Lh (Xa1 s k=2) (by unfold Xa1;rw[if_pos (.inr X)]);go_in;go_wp2;go_ret;exact⟨by rw[q.o];rfl,Below.refl _ _⟩
 have:=θ (s.A.length<=k);let⟨l,d⟩:=Ϡ s.A k;obtain⟨b,_,_,_,rfl,_⟩:=f.el k l d;have:=In k;have:(k:Int)<(s.A:Int):=X;have h:=@Lh (Xa1 s k=if l=[]then 14 else if 65536<=s.U then 6 else 0) (by unfold Xa1;rw[if_neg X,Int.toNat_natCast,Xau d]);by_cases c:l.length=0
 .have:(l.length==0)=ϑ:=by simpa using c
  have:((l:Int)==0)=ϑ:=by simp;exact List.eq_nil_of_length_eq_zero c
  have t:=@Lh (Xa1 s k=14) (by rw[h.o,if_pos (List.eq_nil_of_length_eq_zero c)]);go_in;go_wp2;go_ret;exact⟨by rw[t.o];rfl,Below.refl _ _⟩
 have:(l.length==0)=ϝ:=by simpa using c
 have:((l:Int)==0)=ϝ:=by simp only[beq_eq_false_iff_ne,ne_eq];omega
 have g:l≠[]:=λe=>c (by rw[e];rfl);by_cases a:65536<=s.U
 .have:=η (65536<=s.U) a
  have o:=@Lh (Xa1 s k=6) (by rw[h.o,if_neg g,if_pos a]);go_in;go_wp2;go_ret;exact⟨by rw[o.o];rfl,Below.refl _ _⟩
 have:=θ (65536<=s.U) a;have p:=@Lh (Xa1 s k=0) (by rw[h.o,if_neg g,if_neg a]);go_in;go_wp2;go_ret;exact⟨by rw[p.o];rfl,Below.refl _ _⟩
def Xdp(s:Tra)(i:Nat):Bool:=decide (0<(s.A.getD i []).length)
def enS(s:Tra)(k:Nat):List Int:=((List.range k).filter (Xdp s)).map Int.ofNat
def Xe1(a:Xdp s k=ϑ):enS s (k+1)=enS s k++[(k:Int)]:=by
 unfold enS;rw[List.range_succ,List.filter_append,List.map_append];simp[a]
def Xgi(a:Xdp s k=ϝ):enS s (k+1)=enS s k:=by
 unfold enS;rw[List.range_succ,List.filter_append,List.map_append];simp[a]
structure Xlp(s:Tra)(W:Ϣ)(k:Nat)(v:ϒ)(c:A1)(wr:Ϣ):Prop where
 row:Dq wr c 1 v (enS s k)
 chg:AT (λt=>t=1) (λ_=>0) c W wr
 hi:∀b,(wr:Nat)<=b->c b=0
def Xnl(s:Tra)(w:Ϣ)(e:Ending)(w':Ϣ):Prop:=∃a cap,e=.returned (D a (enS s s.A.length).length cap)/\ϐ w w w'/\AE w' w' 1 Aj (D a (enS s s.A.length).length cap) (enS s s.A.length)
def Xdo(s:Tra)(bt:Nat)(j:Option Addr)(e:Nat)(w:Ϣ)(d:Xeu w bt s j e)(e:s.A.length<=1000000):ϙ prog 45 #[.pointer (O (I bt 0))] w (Xnl s w):=by
 have f:=d.hd;have N:=Lh d;have G:Hid (Xlp s w 0 ν (λ_=>0) w):=Lh ⟨⟨Ao.nil _ _ _ _ _,λn e=>by simp[enS]at e⟩,AT.ob Br δ,λ_ _=>rfl⟩;clear d;go_in;go_wp2_with fail;clear f;go_loopw[3,11] (λj e wr=>∃(k:Nat)(a:Option Addr)(n cap:Nat),k<=s.A.length/\n<=k/\j=D a n cap/\e=H k/\Hid (n=(enS s k).length/\∃c,Xlp s w k (D a n cap) c wr)) (λ_ e _=>s.A.length-(intOf e).toNat);exact⟨0,none,0,0,Nat.zero_le _,Nr _,rfl,rfl,Lh ⟨rfl,_,G.o⟩⟩;obtain⟨k,a,n,cap,_,_,rfl,rfl,d⟩:=hrel;let⟨e,c,d⟩:=d.o;have i:=Lh e;have PU:=Lh d;clear d e;have M:=Lh (PU.o.chg.below (B:=(w:Nat)) (λ_ _=>rfl) (Nr _));by_cases L:k<s.A.length
 .obtain ⟨l,f⟩:=Ϡ s.A k L
  obtain⟨b,_,_,_,rfl,g⟩:=N.o.el k l f;have:=AB M.o g;have:=In k;have:(k:Int)<(s.A:Int):=X;have E:=@Lh (Xdp s k=decide (0<l.length)) (by unfold Xdp;rw[Xau f]);by_cases t:0<l.length
  .have e:=η (0<l.length)
   have A:=@Lh (Xdp s k=ϑ) (by rw[E.o,e]);have J:=@Lh (Dq (wr.alloc (χ #[H (k:Int)] 3)) c 1 (D a n cap) (enS s k)) (PU.o.row.kp (T:=NO) (AT.ob (AA _ _) (no 0)) (no _));have F:=@Lh (∀b,(wr.alloc (χ #[H (k:Int)] 3)).heap.size<=b->c b=0) (λb e=>PU.o.hi b (by simp at e;omega));have C:=@Lh ((wr.alloc (χ #[H (k:Int)] 3)).cell? (I wr 0)=O (H (k:Int))) (B6 wr _ _ 0);have y:=@Lh (n<=1000000) X;have x:=@Lh (in64 (k:Int)) (by unfold in64;omega);clear t g;go_upto_region 7 with ((with_reducible refine ju rfl (.tmp 19) (.tmp 21) rfl (c:=c) a n cap (enS s k) rfl i.o J.o (wr:Nat) (k:Int) rfl C.o x.o y.o F.o ?_);intro m p q o f e d;have r:=Lh f;have v:=Lh e;have u:=Lh d;clear f e d);have z:Hid (Xlp s w (k+1) (D (O (I m 0)) (n+1) p) o q):=Lh ⟨by rw[Xe1 A.o];exact r.o,PU.o.chg.trans ((AT.ob (AA _ _) δ).trans v.o),u.o⟩;go_wp2;go_roundw;exact⟨k+1,_,n+1,_,X,X,rfl,by go_num,Lh ⟨by rw[Xe1 A.o,List.length_append,i.o];rfl,_,z.o⟩⟩;simp[intOf];omega
  have e:=θ (0<l.length);have d:=@Lh (Xdp s k=ϝ) (by rw[E.o,e]);clear t g;go_wp2;go_roundw;exact⟨k+1,_,n,_,X,X,rfl,by go_num,Lh ⟨by rw[Xgi d.o,i.o],_,by rw[Xgi d.o];exact PU.o.row,PU.o.chg,PU.o.hi⟩⟩;simp[intOf];omega
 have h:k=s.A.length:=X;subst h;have g:=i.o;subst g;go_wp2;go_ret;exact⟨a,cap,rfl,M.o,PU.o.row.q4⟩
def Xh4(s:Tra)(vs:List ϒ)(w:Ϣ)(c:vs.length=13)(g:TraVs (w:Nat) w vs s)(z:s.A.length<=1000000):ϙ prog 18 #[.agg vs.toArray] w λe w'=>e=.returned (.bool (decide (enS s s.A.length=[])))/\ϐ w w w':=by
 obtain⟨i,k,m,o,q,u,p,t,r,rfl,_,_,_,_,_,_,_,_,_⟩:=id g;let⟨c,b⟩:=ε (w.alloc (χ #[i,k,m,H s.q3,H s.Y,o,q,u,p,t,r,H s.q5,H s.U] 39));have d:=Lh (bl1 b);have m:Xc9 c (w:Nat) s:=⟨_,g.ups d.o.size (JT.below d.o),λj i g=>by
  rw[cell_of_row _ _ _ _ _ _ (Xao b),List.getElem?_toArray];exact g⟩
 let⟨g,i,k⟩:=m.callsR;have x:=Lh (Xdo s (w:Nat) g i c k z);let⟨n,c⟩:=ε (enS s s.A.length).length;have f:=Lh c;clear c;go_in;go_upto_region 1 with fail;rw[<-b];clear b;go_wp2_with fail;refine x.o.mono ?_;rintro e A⟨a,cap,rfl,h,_⟩;have l:=Lh (d.o.th h);rw[<-f.o];by_cases b:n=0
 .have v:=@Lh (decide (enS s s.A.length=[])=ϑ) (by rw[decide_eq_true_eq];exact List.eq_nil_of_length_eq_zero (by rw[<-f.o];exact b))
  subst b;go_wp2;go_ret;exact⟨by rw[v.o];rfl,l.o⟩
 have y:=@Lh (decide (enS s s.A.length=[])=ϝ) (by rw[decide_eq_false_iff_not];intro e;apply b;rw[f.o,e];rfl);have:((n:Int)==0)=ϝ:=by simp only[beq_eq_false_iff_ne,ne_eq];omega
 go_wp2;go_ret;exact⟨by rw[y.o];rfl,l.o⟩
def Xcz(tag:Nat)(e:TypeId)(sz n:Nat)(xs:List ϒ)(c:A1)(w:Ϣ)(en:Ending)(w':Ϣ):Prop:=∃a cap c',en=.returned (D a n cap)/\Ao w' c' tag e sz (D a n cap) n xs/\AT NO c c' w w'/\∀b,(w':Nat)<=b->c' b=0
structure Src(w:Ϣ)(sz:Nat)(a:Option Addr)(n:Nat)(xs:List ϒ):Prop where
 len:xs.length=n*sz
 at_:n=0\/∃ad,a=O ad/\∀(j:Nat) u,xs[j]?=O u->w.cell? (ad.add j)=O u
 one:∀u∈xs,u.oneCell'=ϑ
 small:n<=1000000
def Src.nil_(a:Src w sz none n xs):n=0/\xs=[]:=by
 have b:n=0:=by
  rcases a.at_ with a|⟨_,a,_⟩
  .exact a
  cases a
 exact⟨b,List.eq_nil_of_length_eq_zero (by rw[a.len,b];simp)⟩
def Src.below(b:Src w sz a n xs)(d:JT w w'):Src w' sz a n xs:=⟨b.len,b.at_.imp id (λ⟨c,e,k⟩=>⟨c,e,λj u c=>d _ _ (k j u c)⟩),b.one,b.small⟩
def Xc2{B:Array Oper}{rest:List Oper}{o:Oper}{a:Act}{i:Exit->Act->Ϣ->Prop}(y:o.guard=none)(s x:Operand)(t e:TypeId)(T:o.op=.call {callee:=.builtin .append,args:=#[s,x],argTypes:=#[t,t]})(G:prog.underlying t=O (.slice e))(S:(prog.info? e).map (λf=>(f.zero,f.size,f.bytes))=O (O z,sz,bytes))(Y:z.cells.size=sz)(W:0<sz)(d:bytes<=1000)
  (tag:Nat) {w0:Ϣ} (h:w=w0.alloc (χ #[] e)) (hs:a.eval s=D (O (I w0 0)) 0 0) (E:Addr) (n xc:Nat) (r:List ϒ) (Q:a.eval x=D (O E) n xc) (q:Src w0 sz (O E) n r) (C:tag≠0) (f:∀b,(w0:Nat)<=b->c b=0)
  (R:∀f cap w' c',Ao w' c' tag e sz (D (O (I f 0)) n cap) n r->AT NO c c' w0 w'->(∀b,w'.heap.size<=b->c' b=0)->wpList prog B i rest (a.put o.dst (D (O (I f 0)) n cap)) w'):wpList prog B i (o::rest) a w:=by
 refine wpList_plain y λ_ N=>?_;have V:w.heap[(w0:Nat)]?=O (χ #[] e (0,0)):=by rw[h];exact Hn _ _
 have:(w:Nat)=(w0:Nat)+1:=by rw[h];simp
 have l:ϐ w0 w0 w:=by rw[h];exact AA _ _
 let⟨m,f⟩:=ε (λb=>if b=(w0:Nat)then tag else 0:A1);have L:m (w0:Nat)=tag:=by rw[f];exact if_pos rfl
 have y:∀b,b≠(w0:Nat)->m b=0:=λb d=>by rw[f];exact if_neg d
  -- from the callee's colours to the caller's
 have M:∀h cap w' c',Ao w' c' tag e sz (D (O (I h 0)) n cap) n r->AT (λk=>k=tag) m c' w w'->(∀b,w'.heap.size<=b->c' b=0)->wpList prog B i rest (a.put o.dst (D (O (I h 0)) n cap)) w':=λh cap w' c' i f B=>by
  refine R h cap w' (λb=>if b<(w0:Nat)then c b else c' b) ⟨i.1,λb d=>?_,i.2.2⟩ ⟨f.os.trans l.os,f.tape.trans l.tape,f.output.trans l.output,Nt l.size f.size,λb d _=>?_,λb d=>if_pos d,no 0⟩ (λb d=>?_)
  .have h:=i.2.1 b d
   show(if b<(w0:Nat)then c b else c' b)=tag;rw[if_neg (λi=>?_)]
   .exact h
   rw[f.old b X,y b X]at h;exact C h.symm
  .rw [f.kp b X (by rw[y b X];exact λe=>C e.symm)]
   exact l.block b d
  have:=f.size;show(if b<(w0:Nat)then c b else c' b)=0;rw[if_neg X];exact B b d
 have p:=WK (sz:=sz) V L;have J:∀b,(w:Nat)<=b->m b=0:=λb d=>y b X;by_cases v:n=0
 .subst v
  obtain rfl:r=[]:=List.eq_nil_of_length_eq_zero (by rw[q.len];simp);let⟨f,i,_,h,_⟩:=info_parts S;let⟨w',y,B,g⟩:=run_append_fits (P:=prog) w 0 t o.type e f sz G i h (w0:Nat) 0 0 [] p.1 E 0 xc [] ψ ψ ψ (Nr _);unfold Oper.wp;simp[execOp,T,resolve,invoke,builtin,hs,Q,y,Result.andThen];refine N _ _ (M (w0:Nat) 0 w' m ⟨by simpa using B,p.2⟩ ⟨g.os,g.tape,g.output,g.size,λb d f=>g.block b d (λe=>f (by simp at e;subst e;exact L)),λ_ _=>rfl,λe=>C e.symm⟩ (λb d=>J b (Nt g.size d)))
 obtain⟨_,A,F⟩:=q.at_.resolve_left v;cases A;have m:=q.small;refine Xir (λk=>k=tag) s x t e T G S Y W hs p E n xc r Q q.len (λj u G=>AB l (F j u G)) q.one X X ?_ rfl (λe=>C e.symm) J (λg cap w' c' f h i _=>N _ _ ?_)
 .rw [Nat.zero_add]
  exact Nt (Nat.mul_le_mul m d) δ
 rw[Nat.zero_add]at f ⊢;rw[List.nil_append]at f;exact M g cap w' c' f h i
def Xef:(prog.info? 62).map (λa=>(a.zero,a.size,a.bytes))=O (O (.agg #[ν,H 0,H 0,H 0,H 0,H 0,H 0,H 0,H 0,H 0,H 0,ν,ν]),13,152):=by kernel_rfl
def Xcp(tag:Nat)(c:A1)(a:Option Addr)(n cap:Nat)(xs:List ϒ)(w:Ϣ)(k:Src w 1 a n xs)(m:tag≠0)(j:∀b,(w:Nat)<=b->c b=0):ϙ prog 55 #[D a n cap] w (Xcz tag 3 1 n xs c w):=by
 cases a with
 |none=>obtain⟨rfl,rfl⟩:=k.nil_;have:=Lib.run_eql_slice_nil (P:=prog);go_in;go_wp2;go_ret;exact⟨none,0,c,rfl,Ao.nil _ _ _ _ _,AT.ob Br (no 0),j⟩
 |some h=>
  have:∀w:Ϣ,(binOp .eql 22 (D (O h) n cap) ν).run prog w=.ok (.bool ϝ) w:=λw=>by simpa using Lib.run_eql_slice_nil (P:=prog) w 22 3 (O h) n cap 0 0 underlying22
  have l:=Lh k;have i:=Lh (ϟ m j);go_in;go_wp2_with(at_builtin;refine Xc2 rfl (.tmp 5) (.tmp 6) 22 3 rfl underlying22 Cx rfl δ δ tag (c:=c) rfl rfl h n cap xs rfl l.o i.o.1 i.o.2 ?_;intro p o q c1 e f g;have d:=Lh (ϟ e (ϟ f g));clear e f g);go_ret;exact⟨_,_,c1,rfl,d.o.1,d.o.2.1,d.o.2.2⟩
def Xmi(tag:Nat)(c:A1)(a:Option Addr)(n cap:Nat)(xs:List ϒ)(w:Ϣ)(k:Src w 2 a n xs)(m:tag≠0)(j:∀b,(w:Nat)<=b->c b=0):ϙ prog 56 #[D a n cap] w (Xcz tag 72 2 n xs c w):=by
 cases a with
 |none=>obtain⟨rfl,rfl⟩:=k.nil_;have:=Lib.run_eql_slice_nil (P:=prog);go_in;go_wp2;go_ret;exact⟨none,0,c,rfl,Ao.nil _ _ _ _ _,AT.ob Br (no 0),j⟩
 |some h=>
  have:∀w:Ϣ,(binOp .eql 26 (D (O h) n cap) ν).run prog w=.ok (.bool ϝ) w:=λw=>by simpa using Lib.run_eql_slice_nil (P:=prog) w 26 72 (O h) n cap 0 0 underlying26
  have l:=Lh k;have i:=Lh (ϟ m j);go_in;go_wp2_with(at_builtin;refine Xc2 rfl (.tmp 5) (.tmp 6) 26 72 rfl underlying26 Xev rfl δ δ tag (c:=c) rfl rfl h n cap xs rfl l.o i.o.1 i.o.2 ?_;intro p o q c1 e f g;have d:=Lh (ϟ e (ϟ f g));clear e f g);go_ret;exact⟨_,_,c1,rfl,d.o.1,d.o.2.1,d.o.2.2⟩
def Xhi(tag:Nat)(c:A1)(a:Option Addr)(n cap:Nat)(xs:List ϒ)(w:Ϣ)(k:Src w 2 a n xs)(m:tag≠0)(j:∀b,(w:Nat)<=b->c b=0):ϙ prog 59 #[D a n cap] w (Xcz tag 85 2 n xs c w):=by
 cases a with
 |none=>obtain⟨rfl,rfl⟩:=k.nil_;have:=Lib.run_eql_slice_nil (P:=prog);go_in;go_wp2;go_ret;exact⟨none,0,c,rfl,Ao.nil _ _ _ _ _,AT.ob Br (no 0),j⟩
 |some h=>
  have:∀w:Ϣ,(binOp .eql 37 (D (O h) n cap) ν).run prog w=.ok (.bool ϝ) w:=λw=>by simpa using Lib.run_eql_slice_nil (P:=prog) w 37 85 (O h) n cap 0 0 underlying37
  have l:=Lh k;have i:=Lh (ϟ m j);go_in;go_wp2_with(at_builtin;refine Xc2 rfl (.tmp 5) (.tmp 6) 37 85 rfl underlying37 Xca rfl δ δ tag (c:=c) rfl rfl h n cap xs rfl l.o i.o.1 i.o.2 ?_;intro p o q c1 e f g;have d:=Lh (ϟ e (ϟ f g));clear e f g);go_ret;exact⟨_,_,c1,rfl,d.o.1,d.o.2.1,d.o.2.2⟩
def Xln(tag:Nat)(c:A1)(a:Option Addr)(n cap:Nat)(xs:List ϒ)(w:Ϣ)(k:Src w 3 a n xs)(m:tag≠0)(j:∀b,(w:Nat)<=b->c b=0):ϙ prog 62 #[D a n cap] w (Xcz tag 120 3 n xs c w):=by
 cases a with
 |none=>obtain⟨rfl,rfl⟩:=k.nil_;have:=Lib.run_eql_slice_nil (P:=prog);go_in;go_wp2;go_ret;exact⟨none,0,c,rfl,Ao.nil _ _ _ _ _,AT.ob Br (no 0),j⟩
 |some h=>
  have:∀w:Ϣ,(binOp .eql 60 (D (O h) n cap) ν).run prog w=.ok (.bool ϝ) w:=λw=>by simpa using Lib.run_eql_slice_nil (P:=prog) w 60 120 (O h) n cap 0 0 underlying60
  have l:=Lh k;have i:=Lh (ϟ m j);go_in;go_wp2_with(at_builtin;refine Xc2 rfl (.tmp 5) (.tmp 6) 60 120 rfl underlying60 Xec rfl δ δ tag (c:=c) rfl rfl h n cap xs rfl l.o i.o.1 i.o.2 ?_;intro p o q c1 e f g;have d:=Lh (ϟ e (ϟ f g));clear e f g);go_ret;exact⟨_,_,c1,rfl,d.o.1,d.o.2.1,d.o.2.2⟩
def Xmb(tag:Nat)(c:A1)(a:Option Addr)(n cap:Nat)(xs:List ϒ)(w:Ϣ)(k:Src w 5 a n xs)(m:tag≠0)(j:∀b,(w:Nat)<=b->c b=0):ϙ prog 90 #[D a n cap] w (Xcz tag 114 5 n xs c w):=by
 cases a with
 |none=>obtain⟨rfl,rfl⟩:=k.nil_;have:=Lib.run_eql_slice_nil (P:=prog);go_in;go_wp2;go_ret;exact⟨none,0,c,rfl,Ao.nil _ _ _ _ _,AT.ob Br (no 0),j⟩
 |some h=>
  have:∀w:Ϣ,(binOp .eql 127 (D (O h) n cap) ν).run prog w=.ok (.bool ϝ) w:=λw=>by simpa using Lib.run_eql_slice_nil (P:=prog) w 127 114 (O h) n cap 0 0 underlying127
  have l:=Lh k;have i:=Lh (ϟ m j);go_in;go_wp2_with(at_builtin;refine Xc2 rfl (.tmp 5) (.tmp 6) 127 114 rfl underlying127 JB rfl δ δ tag (c:=c) rfl rfl h n cap xs rfl l.o i.o.1 i.o.2 ?_;intro p o q c1 e f g;have d:=Lh (ϟ e (ϟ f g));clear e f g);go_ret;exact⟨_,_,c1,rfl,d.o.1,d.o.2.1,d.o.2.2⟩
def Xlq(tag:Nat)(c:A1)(a:Option Addr)(n cap:Nat)(xs:List ϒ)(w:Ϣ)(k:Src w 2 a n xs)(m:tag≠0)(j:∀b,(w:Nat)<=b->c b=0):ϙ prog 91 #[D a n cap] w (Xcz tag 64 2 n xs c w):=by
 cases a with
 |none=>obtain⟨rfl,rfl⟩:=k.nil_;have:=Lib.run_eql_slice_nil (P:=prog);go_in;go_wp2;go_ret;exact⟨none,0,c,rfl,Ao.nil _ _ _ _ _,AT.ob Br (no 0),j⟩
 |some h=>
  have:∀w:Ϣ,(binOp .eql 65 (D (O h) n cap) ν).run prog w=.ok (.bool ϝ) w:=λw=>by simpa using Lib.run_eql_slice_nil (P:=prog) w 65 64 (O h) n cap 0 0 underlying65
  have l:=Lh k;have i:=Lh (ϟ m j);go_in;go_wp2_with(at_builtin;refine Xc2 rfl (.tmp 5) (.tmp 6) 65 64 rfl underlying65 PX rfl δ δ tag (c:=c) rfl rfl h n cap xs rfl l.o i.o.1 i.o.2 ?_;intro p o q c1 e f g;have d:=Lh (ϟ e (ϟ f g));clear e f g);go_ret;exact⟨_,_,c1,rfl,d.o.1,d.o.2.1,d.o.2.2⟩
def Xl3(tag:Nat)(c:A1)(a:Option Addr)(n cap:Nat)(xs:List ϒ)(w:Ϣ)(k:Src w 4 a n xs)(m:tag≠0)(j:∀b,(w:Nat)<=b->c b=0):ϙ prog 92 #[D a n cap] w (Xcz tag 150 4 n xs c w):=by
 cases a with
 |none=>obtain⟨rfl,rfl⟩:=k.nil_;have:=Lib.run_eql_slice_nil (P:=prog);go_in;go_wp2;go_ret;exact⟨none,0,c,rfl,Ao.nil _ _ _ _ _,AT.ob Br (no 0),j⟩
 |some h=>
  have:∀w:Ϣ,(binOp .eql 55 (D (O h) n cap) ν).run prog w=.ok (.bool ϝ) w:=λw=>by simpa using Lib.run_eql_slice_nil (P:=prog) w 55 150 (O h) n cap 0 0 underlying55
  have l:=Lh k;have i:=Lh (ϟ m j);go_in;go_wp2_with(at_builtin;refine Xc2 rfl (.tmp 5) (.tmp 6) 55 150 rfl underlying55 FT rfl δ δ tag (c:=c) rfl rfl h n cap xs rfl l.o i.o.1 i.o.2 ?_;intro p o q c1 e f g;have d:=Lh (ϟ e (ϟ f g));clear e f g);go_ret;exact⟨_,_,c1,rfl,d.o.1,d.o.2.1,d.o.2.2⟩
def Xlu(tag:Nat)(c:A1)(a:Option Addr)(n cap:Nat)(xs:List ϒ)(w:Ϣ)(k:Src w 13 a n xs)(m:tag≠0)(j:∀b,(w:Nat)<=b->c b=0):ϙ prog 61 #[D a n cap] w (Xcz tag 62 13 n xs c w):=by
 cases a with
 |none=>obtain⟨rfl,rfl⟩:=k.nil_;have:=Lib.run_eql_slice_nil (P:=prog);go_in;go_wp2;go_ret;exact⟨none,0,c,rfl,Ao.nil _ _ _ _ _,AT.ob Br (no 0),j⟩
 |some h=>
  have:∀w:Ϣ,(binOp .eql 35 (D (O h) n cap) ν).run prog w=.ok (.bool ϝ) w:=λw=>by simpa using Lib.run_eql_slice_nil (P:=prog) w 35 62 (O h) n cap 0 0 underlying35
  have l:=Lh k;have i:=Lh (ϟ m j);go_in;go_wp2_with(at_builtin;refine Xc2 rfl (.tmp 5) (.tmp 6) 35 62 rfl underlying35 Xef rfl δ δ tag (c:=c) rfl rfl h n cap xs rfl l.o i.o.1 i.o.2 ?_;intro p o q c1 e f g;have d:=Lh (ϟ e (ϟ f g));clear e f g);go_ret;exact⟨_,_,c1,rfl,d.o.1,d.o.2.1,d.o.2.2⟩
def Xg4{t:TypeId}(k:prog.underlying t=O (.slice e))(b:(prog.info? e).map (λa=>(a.zero,a.size,a.bytes))=O (O z,1,bytes))(l:z.cells=#[z])(i:bytes<=100)(W:Ϣ)(n:Nat)(a:n<=1048576):(Instr.makeSlice t (H (n:Int)) (H (n:Int))).run prog W=.ok (D (O (I W 0)) n n) (W.alloc (χ (Array.replicate n z) e)):=by
 let⟨c,b,d,h,g⟩:=info_parts b;have f:(bytes:Int)*(n:Int)<=281474976710656:=by have:bytes*n<=100*1048576:=Nat.mul_le_mul i a;have a:((bytes*n:Nat):Int)<=104857600:=X;rw[Int.natCast_mul]at a;omega
 have a:=run_make W t e c z k b d .i64 .i64 (n:Int) (n:Int) X X (by rw[g];exact f) X;rw[a,h];have:madeCells z.cells ((n:Int).toNat*1)=Array.replicate n z:=by
  rw[l];apply Array.ext_getElem?;intro j;simp[madeCells,Nat.mod_one];rw[Array.getElem?_replicate];by_cases a:j<n
  .rw [if_pos a,Array.getElem?_eq_getElem (by simpa using a)];simp
  rw[if_neg a,Array.getElem?_eq_none φ];rfl
 rw[this];simp
def Xe9(f:n<=1048576)(d:c (w:Nat)=tag):Ao (w.alloc (χ (Array.replicate n z) e)) c tag e 1 (D (O (I w 0)) n n) n (ϱ n z):=by
 refine⟨⟨?_,.inr ⟨(w:Nat),n,Array.replicate n z,ψ,Nat.zero_le _,Hn w _,ψ,by unfold maxLen;omega,ψ,?_⟩⟩,λb a=>?_,X⟩
 .simp
 .simp
 simp[Value.ownBlock]at a;subst a;exact d
def Xam.put{i:Nat}{xs:List Xad}(m:j<16)(s:Xam w c j (D (O (I b 0)) n cap) e sz xs)(A:X6 w c (100+16*i+j) u x) :
  Xam (w.setCell (I b i) u) c j (D (O (I b 0)) n cap) e sz (xs.set i x)/\AT (λm=>m=20+j) c c w (w.setCell (I b i) u):=by
 let⟨q,vs,f,t,y⟩:=s;obtain⟨a,o,p,-,-⟩:=f.u1;obtain⟨-,rfl,-⟩:O ((I b 0):Addr)=a/\n=q/\cap=o:=by simpa using p
 have o:=f.2.1 b (by simp[Value.ownBlock]);have h:AT (λm=>m=20+j) c c w (w.setCell (I b i) u):=AT.set o X;refine⟨⟨n,vs.set i u,f.put i u,by simpa using t,λk v z d g=>?_⟩,h⟩;have l:∀(z:Xad),Xij (λf=>f=20+j) (100+16*k+j) z:=λz=>by cases z<;>first|exact trivial|(show ¬_=20+j;omega)
 rcases Xbt g with ⟨rfl,rfl,_⟩|⟨r,g⟩
 .rw [List.getElem?_set_self X]at d
  cases d;exact A.kp h (l _)
 rw[List.getElem?_set_ne (Ne.symm r)]at d;exact(y k v z d g).kp h (l _)
def Xjv{α:Type}(w:Ϣ)(sz:Nat)(a:Option Addr)(l:List α)(m:α->Nat)(f:α->List ϒ):Prop:=l=[]\/∃b o,a=O (I b o)/\∀(i:Nat) x,l[i]?=O x->∃ai ci,w.cell? (I b (o+i))=O (D ai (m x) ci)/\Src w sz ai (m x) (f x)
def Xjv.below{m:α->Nat}(d:Xjv w sz a l m f)(c:JT w w'):Xjv w' sz a l m f:=d.imp id (λ⟨b,d,e,k⟩=>⟨b,d,e,λg x d=>by let⟨ai,ci,h,i⟩:=k g x d;exact⟨ai,ci,c _ _ h,i.below c⟩⟩)
def lsK{α:Type}(te:TypeId)(sz:Nat)(f:α->List ϒ)(l:List α)(k:Nat):List Xad:=(l.take k).map (λx=>.q te sz (f x))++ϱ (l.length-k) (.p ν)
def Xg1(te:TypeId)(sz:Nat)(f:α->List ϒ)(l:List α):lsK te sz f l 0=(ϱ l.length (Value.slice none 0 0)).map .p:=by simp[lsK]
def Xik(te:TypeId)(sz:Nat)(f:α->List ϒ)(l:List α):lsK te sz f l l.length=l.map (λx=>.q te sz (f x)):=by simp[lsK]
def Xid{te:TypeId}(a:k<=l.length):(lsK te sz f l k).length=l.length:=by
 unfold lsK;rw[List.length_append,List.length_map,List.length_take,List.length_replicate];omega
def Xj8{te:TypeId}(a:k<l.length):(lsK te sz f l k)[k]?=O (.p ν):=by
 unfold lsK;have e:((l.take k).map (λx=>Xad.q te sz (f x))).length=k:=by rw[List.length_map,List.length_take];omega
 rw[Ar X,e,Nat.sub_self,List.getElem?_replicate,if_pos X]
def Xgw{te:TypeId}{x:α}(a:l[k]?=O x):(lsK te sz f l k).set k (.q te sz (f x))=lsK te sz f l (k+1):=by
 have b:=(Ll a);unfold lsK;rw[Xa2 a,List.map_append,List.set_append_right _ _ φ,List.append_assoc];congr 1;have e:l.length-k=(l.length-(k+1))+1:=X;rw[e,List.replicate_succ];simp[Nat.min_eq_left (Nat.le_of_lt b)]
def Xam.at_{xs:List Xad}(m:Xam w c j (D a n cap) e sz xs)(d:0<xs.length):∃b,a=O (I b 0)/\c b=20+j/\b<(w:Nat)/\(∀d,w.frozen? (I b d)=ϝ)/\∀d x,xs[d]?=O x->∃u,w.cell? (I b d)=O u/\X6 w c (100+16*d+j) u x:=by
 let⟨k,vs,f,_,o⟩:=m;have l:0<vs.length:=X;obtain⟨g,h,i,-,-⟩:=f.u1;obtain⟨rfl,rfl,rfl⟩:a=g/\n=k/\cap=h:=by simpa using i
 let⟨b,g,h,i,k,d⟩:=f.pos (Lg l);refine⟨b,g,h,i,d,λd x g=>?_⟩;have f:vs[d]?=O (vs[d]'(by have:=(Ll g);omega)):=Lg _;exact⟨_,k _ _ f,o d _ x f g⟩
def Xa6(t:Nat):Prop:=t≠0/\t≠99
def tn0:¬Xa6 0:=λa=>a.1 rfl
def Xg5:¬Xa6 99:=λa=>a.2 rfl
def Xff(n:Nat)(c c1:A1):A1:=λb=>if b<n then c b else c1 b
def Xgm(a:n<=b):Xff n c c1 b=c1 b:=if_neg X
def Xn7(a:b<n):Xff n c c1 b=c b:=if_pos a
def Xd7(e:AT T (EN w) c1 w w')(d:¬T 99):AT NO c (Xff (w:Nat) c c1) w w':=by
 have a:=e.below0 d;exact⟨a.os,a.tape,a.output,a.size,λb d _=>a.block b d,λb d=>Xn7 d,no 0⟩
def Xe6(e:AT T (EN w) c1 w w')(d:∀b,(w':Nat)<=b->c1 b=0):∀b,(w':Nat)<=b->Xff (w:Nat) c c1 b=0:=λb a=>by
 rw[Xgm (Nt e.size a)];exact d b a
def Xhx(h:AT T (EN w) c1 w w'){v:ϒ}(a:Ao w' c1 tag e sz v n xs)(g:tag≠99):Ao w' (Xff (w:Nat) c c1) tag e sz v n xs:=
 ⟨a.1,λb f=>by
  have d:=a.2.1 b f;rw[Xgm (h.fresh d g)];exact d,a.2.2⟩
def Xls(h:AT T (EN w) c1 w w'):JT (mask w' c1) (mask w' (Xff (w:Nat) c c1)):=λa v b=>by
 rw[GJ]at b ⊢;split at b
 .rename_i d
  rw[if_pos (by rw[Xgm (h.fresh d δ)];exact d)];exact b
 cases b
def Xof(b:AT T (EN w) c1 w w'){P:Ϣ->ϒ->Prop}(a:Xdq P/\P (mask w' c1) u):Xdq P/\P (mask w' (Xff (w:Nat) c c1)) u:=⟨a.1,a.1 _ _ _ (by rw[Hk,Hk];exact Nr _) (Xls b) a.2⟩
def Xla(b:AT T (EN w) c1 w w')(a:X6 w' c1 tag u x)(d:tag≠99):X6 w' (Xff (w:Nat) c c1) tag u x:=by
 cases x with
 |p x=>exact a
 |q e sz xs=>let⟨n,a⟩:=a;exact⟨n,Xhx b a d⟩
 |i d=>exact Xof b a
def Xdk(b:AT T (EN w) c1 w w'){xs:List Xad}(a:Xam w' c1 j u e sz xs)(d:j<16):Xam w' (Xff (w:Nat) c c1) j u e sz xs:=by
 let⟨n,vs,a,d,h⟩:=a;exact⟨n,vs,Xhx b a X,d,λf g x d a=>Xla b (h f g x d a) X⟩
def Xin(j:Nat)(te1:TypeId)(L:List Xad)(n:Nat)(c:A1)(w:Ϣ)(en:Ending)(w':Ϣ):Prop:=∃a cap c',en=.returned (D a n cap)/\Xam w' c' j (D a n cap) te1 1 L/\AT NO c c' w w'/\∀b,(w':Nat)<=b->c' b=0
def Xem:(prog.info? 127).map (λa=>(a.zero,a.size,a.bytes))=O (O ν,1,24):=by kernel_rfl
def Xks:(prog.info? 65).map (λa=>(a.zero,a.size,a.bytes))=O (O ν,1,24):=by kernel_rfl
def Xfp(j:Nat)(c:A1)(l:List α)(m:α->Nat)(f:α->List ϒ)(a:Option Addr)(cap:Nat)(w:Ϣ)(E:Xjv w 1 a l m f)(bL:j<16)(bK:∀b,(w:Nat)<=b->c b=0)(hl:l.length<=1000000):ϙ prog 57 #[D a l cap] w (Xin j 22 (l.map λx=>.q 3 1 (f x)) l.length c w):=by
 have bM:=Lh E;have:=λE=>Xg4 (t:=34) underlying34 Xa8 rfl δ E l.length X;let⟨n,d⟩:=ε (w.alloc (χ (Array.replicate l.length (Value.slice none 0 0)) 22));have W:=bl1 d;let⟨c1,h⟩:=ε (λb=>if b=(w:Nat)then 20+j else EN w b:A1);have E:c1 (w:Nat)=20+j:=by rw[h];exact if_pos rfl
 have bH:Xam n c1 j (D (O (I w 0)) l l.length) 22 1 (lsK 3 1 f l 0):=by rw[Xg1];refine⟨l.length,ϱ l.length ν,by rw[d];exact Xe9 X E,ψ,λi bK z E g=>?_⟩;rw[List.getElem?_map,E]at g;cases g;exact rfl
 have E:AT Xa6 (EN w) c1 w n:=by have:=AT.paint (c:=EN w) (w:Nat) (20+j) W (Nr _);rw[h];exact this.mono (λt g=>g.elim) tn0
 have g:∀b,n.heap.size<=b->c1 b=0:=λb n=>by have:=sz1 d;rw[h];show(if b=(w:Nat)then 20+j else EN w b)=0;rw[if_neg X];exact Ee b X
 have V:=Lh (ϟ bH (ϟ E g));clear h;go_in;go_upto_region 2 with fail;rw[<-d];clear d;go_wp2_with fail;go_loopw[11] (λh wr=>∃k:Nat,k<=l.length/\h=H k/\Hid (∃g,Xam wr g j (D (O (I w 0)) l l.length) 22 1 (lsK 3 1 f l k)/\AT Xa6 (EN w) g w wr/\(∀b,wr.heap.size<=b->g b=0))) (λh _=>l.length-(intOf h).toNat);exact⟨0,Nat.zero_le _,rfl,Lh ⟨c1,V.o⟩⟩;obtain⟨k,bJ,rfl,C⟩:=hrel;let⟨Y,g,n,h⟩:=C.o;have d:=Lh (ϟ g (ϟ n h));by_cases p:k<l.length
 .obtain ⟨x,s⟩:=Ϡ l k p
  have r:=d.o.2.1.below0 Xg5;rcases bM.o with A|⟨b,_,rfl,G⟩
  .rw [A]at p;simp at p
  let⟨ai,ci,g,h⟩:=G k x s;have:=AB r g;have:=In k;have:(k:Int)<(l:Int):=X;have g:100+16*k+j≠0:=X;have P:=Lh (Xcp (100+16*k+j) Y ai (m x) ci (f x) wr (h.below (JT.below r)) g d.o.2.2);have T:=Lh s;go_wp2_with fail;refine P.o.mono ?_;rintro e R⟨v,y,o,rfl,Q,M,bI⟩;have q:=d.o.1.kp M (no _) (λi x _=>by cases x<;>first|exact trivial|exact no _);let⟨_,F,_,_,N,L⟩:=q.at_ (by rw[Xid bJ];omega);cases F;let⟨_,g⟩:=L k (.p ν) (Xj8 p);have:=g.1;have:=N k;let⟨n,r⟩:=q.put (i:=k) (u:=D v (m x) y) (x:=.q 3 1 (f x)) bL ⟨m x,Q⟩;rw[Xgw T.o]at n;let⟨h,g⟩:=ε (R.setCell (I w k) (D v (m x) y));rw[<-g]at n r;have S:Hid (Xam h o j (D (O (I w 0)) l l.length) 22 1 (lsK 3 1 f l (k+1))/\AT Xa6 (EN w) o w h/\(∀b,h.heap.size<=b->o b=0)):=Lh ⟨n,(d.o.2.1.trans (M.mono (λt h=>h.elim) tn0)).trans (r.mono (λt h=>by unfold Xa6;omega) tn0),λb h=>bI b (Nt (by rw[g];simp) h)⟩;have J:=Lh g;clear g;go_upto_region 6 with fail;rw[<-J.o];go_wp2;go_roundw;exact⟨k+1,X,by go_num,Lh ⟨o,S.o⟩⟩;simp[intOf];omega
 have B:k=l.length:=X;subst B;rw[Xik]at d;go_wp2;go_ret;exact⟨_,_,Xff (w:Nat) c Y,rfl,Xdk d.o.2.1 d.o.1 bL,Xd7 d.o.2.1 Xg5,Xe6 d.o.2.1 d.o.2.2⟩
def Xml(j:Nat)(c:A1)(l:List α)(m:α->Nat)(f:α->List ϒ)(a:Option Addr)(cap:Nat)(w:Ϣ)(E:Xjv w 5 a l m f)(bL:j<16)(bK:∀b,(w:Nat)<=b->c b=0)(hl:l.length<=1000000):ϙ prog 58 #[D a l cap] w (Xin j 127 (l.map λx=>.q 114 5 (f x)) l.length c w):=by
 have bM:=Lh E;have:=λE=>Xg4 (t:=36) underlying36 Xem rfl δ E l.length X;let⟨n,d⟩:=ε (w.alloc (χ (Array.replicate l.length (Value.slice none 0 0)) 127));have W:=bl1 d;let⟨c1,h⟩:=ε (λb=>if b=(w:Nat)then 20+j else EN w b:A1);have E:c1 (w:Nat)=20+j:=by rw[h];exact if_pos rfl
 have bH:Xam n c1 j (D (O (I w 0)) l l.length) 127 1 (lsK 114 5 f l 0):=by rw[Xg1];refine⟨l.length,ϱ l.length ν,by rw[d];exact Xe9 X E,ψ,λi bK z E g=>?_⟩;rw[List.getElem?_map,E]at g;cases g;exact rfl
 have E:AT Xa6 (EN w) c1 w n:=by have:=AT.paint (c:=EN w) (w:Nat) (20+j) W (Nr _);rw[h];exact this.mono (λt g=>g.elim) tn0
 have g:∀b,n.heap.size<=b->c1 b=0:=λb n=>by have:=sz1 d;rw[h];show(if b=(w:Nat)then 20+j else EN w b)=0;rw[if_neg X];exact Ee b X
 have V:=Lh (ϟ bH (ϟ E g));clear h;go_in;go_upto_region 2 with fail;rw[<-d];clear d;go_wp2_with fail;go_loopw[11] (λh wr=>∃k:Nat,k<=l.length/\h=H k/\Hid (∃g,Xam wr g j (D (O (I w 0)) l l.length) 127 1 (lsK 114 5 f l k)/\AT Xa6 (EN w) g w wr/\(∀b,wr.heap.size<=b->g b=0))) (λh _=>l.length-(intOf h).toNat);exact⟨0,Nat.zero_le _,rfl,Lh ⟨c1,V.o⟩⟩;obtain⟨k,bJ,rfl,C⟩:=hrel;let⟨Y,g,n,h⟩:=C.o;have d:=Lh (ϟ g (ϟ n h));by_cases p:k<l.length
 .obtain ⟨x,s⟩:=Ϡ l k p
  have r:=d.o.2.1.below0 Xg5;rcases bM.o with A|⟨b,_,rfl,G⟩
  .rw [A]at p;simp at p
  let⟨ai,ci,g,h⟩:=G k x s;have:=AB r g;have:=In k;have:(k:Int)<(l:Int):=X;have g:100+16*k+j≠0:=X;have P:=Lh (Xmb (100+16*k+j) Y ai (m x) ci (f x) wr (h.below (JT.below r)) g d.o.2.2);have T:=Lh s;go_wp2_with fail;refine P.o.mono ?_;rintro e R⟨v,y,o,rfl,Q,M,bI⟩;have q:=d.o.1.kp M (no _) (λi x _=>by cases x<;>first|exact trivial|exact no _);let⟨_,F,_,_,N,L⟩:=q.at_ (by rw[Xid bJ];omega);cases F;let⟨_,g⟩:=L k (.p ν) (Xj8 p);have:=g.1;have:=N k;let⟨n,r⟩:=q.put (i:=k) (u:=D v (m x) y) (x:=.q 114 5 (f x)) bL ⟨m x,Q⟩;rw[Xgw T.o]at n;let⟨h,g⟩:=ε (R.setCell (I w k) (D v (m x) y));rw[<-g]at n r;have S:Hid (Xam h o j (D (O (I w 0)) l l.length) 127 1 (lsK 114 5 f l (k+1))/\AT Xa6 (EN w) o w h/\(∀b,h.heap.size<=b->o b=0)):=Lh ⟨n,(d.o.2.1.trans (M.mono (λt h=>h.elim) tn0)).trans (r.mono (λt h=>by unfold Xa6;omega) tn0),λb h=>bI b (Nt (by rw[g];simp) h)⟩;have J:=Lh g;clear g;go_upto_region 6 with fail;rw[<-J.o];go_wp2;go_roundw;exact⟨k+1,X,by go_num,Lh ⟨o,S.o⟩⟩;simp[intOf];omega
 have B:k=l.length:=X;subst B;rw[Xik]at d;go_wp2;go_ret;exact⟨_,_,Xff (w:Nat) c Y,rfl,Xdk d.o.2.1 d.o.1 bL,Xd7 d.o.2.1 Xg5,Xe6 d.o.2.1 d.o.2.2⟩
def Xld(j:Nat)(c:A1)(l:List α)(m:α->Nat)(f:α->List ϒ)(a:Option Addr)(cap:Nat)(w:Ϣ)(E:Xjv w 2 a l m f)(bL:j<16)(bK:∀b,(w:Nat)<=b->c b=0)(hl:l.length<=1000000):ϙ prog 60 #[D a l cap] w (Xin j 65 (l.map λx=>.q 64 2 (f x)) l.length c w):=by
 have bM:=Lh E;have:=λE=>Xg4 (t:=29) underlying29 Xks rfl δ E l.length X;let⟨n,d⟩:=ε (w.alloc (χ (Array.replicate l.length (Value.slice none 0 0)) 65));have W:=bl1 d;let⟨c1,h⟩:=ε (λb=>if b=(w:Nat)then 20+j else EN w b:A1);have E:c1 (w:Nat)=20+j:=by rw[h];exact if_pos rfl
 have bH:Xam n c1 j (D (O (I w 0)) l l.length) 65 1 (lsK 64 2 f l 0):=by rw[Xg1];refine⟨l.length,ϱ l.length ν,by rw[d];exact Xe9 X E,ψ,λi bK z E g=>?_⟩;rw[List.getElem?_map,E]at g;cases g;exact rfl
 have E:AT Xa6 (EN w) c1 w n:=by have:=AT.paint (c:=EN w) (w:Nat) (20+j) W (Nr _);rw[h];exact this.mono (λt g=>g.elim) tn0
 have g:∀b,n.heap.size<=b->c1 b=0:=λb n=>by have:=sz1 d;rw[h];show(if b=(w:Nat)then 20+j else EN w b)=0;rw[if_neg X];exact Ee b X
 have V:=Lh (ϟ bH (ϟ E g));clear h;go_in;go_upto_region 2 with fail;rw[<-d];clear d;go_wp2_with fail;go_loopw[11] (λh wr=>∃k:Nat,k<=l.length/\h=H k/\Hid (∃g,Xam wr g j (D (O (I w 0)) l l.length) 65 1 (lsK 64 2 f l k)/\AT Xa6 (EN w) g w wr/\(∀b,wr.heap.size<=b->g b=0))) (λh _=>l.length-(intOf h).toNat);exact⟨0,Nat.zero_le _,rfl,Lh ⟨c1,V.o⟩⟩;obtain⟨k,bJ,rfl,C⟩:=hrel;let⟨Y,g,n,h⟩:=C.o;have d:=Lh (ϟ g (ϟ n h));by_cases p:k<l.length
 .obtain ⟨x,s⟩:=Ϡ l k p
  have r:=d.o.2.1.below0 Xg5;rcases bM.o with A|⟨b,_,rfl,G⟩
  .rw [A]at p;simp at p
  let⟨ai,ci,g,h⟩:=G k x s;have:=AB r g;have:=In k;have:(k:Int)<(l:Int):=X;have g:100+16*k+j≠0:=X;have P:=Lh (Xlq (100+16*k+j) Y ai (m x) ci (f x) wr (h.below (JT.below r)) g d.o.2.2);have T:=Lh s;go_wp2_with fail;refine P.o.mono ?_;rintro e R⟨v,y,o,rfl,Q,M,bI⟩;have q:=d.o.1.kp M (no _) (λi x _=>by cases x<;>first|exact trivial|exact no _);let⟨_,F,_,_,N,L⟩:=q.at_ (by rw[Xid bJ];omega);cases F;let⟨_,g⟩:=L k (.p ν) (Xj8 p);have:=g.1;have:=N k;let⟨n,r⟩:=q.put (i:=k) (u:=D v (m x) y) (x:=.q 64 2 (f x)) bL ⟨m x,Q⟩;rw[Xgw T.o]at n;let⟨h,g⟩:=ε (R.setCell (I w k) (D v (m x) y));rw[<-g]at n r;have S:Hid (Xam h o j (D (O (I w 0)) l l.length) 65 1 (lsK 64 2 f l (k+1))/\AT Xa6 (EN w) o w h/\(∀b,h.heap.size<=b->o b=0)):=Lh ⟨n,(d.o.2.1.trans (M.mono (λt h=>h.elim) tn0)).trans (r.mono (λt h=>by unfold Xa6;omega) tn0),λb h=>bI b (Nt (by rw[g];simp) h)⟩;have J:=Lh g;clear g;go_upto_region 6 with fail;rw[<-J.o];go_wp2;go_roundw;exact⟨k+1,X,by go_num,Lh ⟨o,S.o⟩⟩;simp[intOf];omega
 have B:k=l.length:=X;subst B;rw[Xik]at d;go_wp2;go_ret;exact⟨_,_,Xff (w:Nat) c Y,rfl,Xdk d.o.2.1 d.o.1 bL,Xd7 d.o.2.1 Xg5,Xe6 d.o.2.1 d.o.2.2⟩
def Xav{l:List Int}(r:AE B w 1 Aj (D a n cap) l)(hl:l.length<=1000000):n=l.length/\Src w 1 a n (l.map (Value.int .i64))/\∀i∈l,in64 i:=by
 let⟨m,p,e,_,_,_,d⟩:=r;obtain⟨rfl,rfl,rfl⟩:a=m/\n=l.length/\cap=p:=by simpa using e
 refine⟨rfl,⟨ψ,?_,λu c=>by obtain⟨_,_,rfl⟩:=List.mem_map.1 c;rfl,hl⟩,λi h=>?_⟩
 .rcases d with g|⟨b,t,rfl,s,d⟩
  .left;rw[g];rfl
  refine .inr ⟨_,rfl,λj u c=>?_⟩;rw[List.getElem?_map]at c;cases f:l[j]? with
  |none=>rw[f]at c;simp at c
  |some q=>rw[f]at c;simp at c;subst c;have:=(d j q f).1;rw[Nat.mul_one]at this;rw[GB];exact this
 rcases d with g|⟨b,t,rfl,s,d⟩
 .rw [g]at h;cases h
 obtain⟨k,o,rfl⟩:=List.getElem_of_mem h;exact(d k _ (Lg o)).2
def Xjz(B k:Nat)(vs:List ϒ)(c:A1)(w:Ϣ)(fs:List AY):Prop:=∀i f,fs[i]?=O f->in64 f.fn/\in64 f.pc/\vs[i*4]?=O (H f.fn)/\vs[i*4+1]?=O (H f.pc)/\∃lv sv,vs[i*4+2]?=O lv/\vs[i*4+3]?=O sv/\(i<k->Dq w c 4 lv f.L/\Dq w c 4 sv f.S)/\(k<=i->AE B w 1 Aj lv f.L/\AE B w 1 Aj sv f.S)
def Xjz.kp(s:Xjz B k vs c w fs)(g:AT T c c' w w')(e:¬T 4)(h:ϐ B w w'):Xjz B k vs c' w' fs:=λr f q=>by
 let⟨a,i,j,l,o,p,m,n,b,d⟩:=s r f q;exact⟨a,i,j,l,o,p,m,n,λa=>⟨(b a).1.kp g e,(b a).2.kp g e⟩,λa=>⟨(d a).1.ints h,(d a).2.ints h⟩⟩
def Xjz.next{f:AY}{lv' sv':ϒ}(o:Xjz B k vs c w fs)(g:fs[k]?=O f)(v:vs.length=fs.length*4)(hl:Dq w c 4 lv' f.L)(hs:Dq w c 4 sv' f.S):Xjz B (k+1) ((vs.set (k*4+2) lv').set (k*4+3) sv') c w fs:=λa b d=>by
 let⟨h,i,l,m,p,q,r,s,t,u⟩:=o a b d;have:=(Ll g);by_cases n:a=k
 .subst n
  obtain rfl:f=b:=by have:=g.symm.trans d;simpa using this
  refine⟨h,i,by rw[List.getElem?_set_ne X,List.getElem?_set_ne X];exact l,by rw[List.getElem?_set_ne X,List.getElem?_set_ne X];exact m,lv',sv',by rw[List.getElem?_set_ne X,List.getElem?_set_self X],by rw[List.getElem?_set_self (by rw[List.length_set];omega)],λ_=>⟨hl,hs⟩,λb=>by omega⟩
 have e:∀j,j<4->((vs.set (k*4+2) lv').set (k*4+3) sv')[a*4+j]?=vs[a*4+j]?:=λj b=>by rw[List.getElem?_set_ne X,List.getElem?_set_ne X]
 refine⟨h,i,by rw[<-Nat.add_zero (a*4),e 0 X,Nat.add_zero];exact l,by rw[e 1 X];exact m,p,q,by rw[e 2 X];exact r,by rw[e 3 X];exact s,λa=>t X,λa=>u X⟩
def Xk7(m:AV)(w:Ϣ)(e:Ending)(w':Ϣ):Prop:=∃a cap,e=.returned (.agg (AC (D a m.J cap) m))/\ϐ w w w'/\∀c:A1,(∀b,(w:Nat)<=b->c b=0)->Xch m.J (mask w' c) (D a m.J cap)
structure Xhs(m:AV)(w:Ϣ)(bi br k:Nat)(ga:Option Addr)(cap:Nat)(c:A1)(vs:List ϒ)(wr:Ϣ):Prop where
 chg:AT Xa6 (EN w) c w wr
 hi:∀b,(wr:Nat)<=b->c b=0
 box:wr.heap[bi]?=O (χ (AC (D ga m.J cap) m) 59 (0,0))/\c bi=1
 res:wr.heap[br]?=O (χ (AC ν AI) 59 (0,0))/\c br=2
 row:Ao wr c 3 150 4 (D ga m.J cap) m.J.length vs
 len:vs.length=m.J.length*4
 st:Xjz (w:Nat) k vs c wr m.J
def Xhs.post{wr:Ϣ}{d br:Nat}{b:Option Addr}(a:Xhs m w d br m.J.length b cap c vs wr):Xk7 m w (.returned (.agg (AC (D b m.J cap) m))) (Ai wr br (D b m.J cap) m):=by
 let⟨e,d⟩:=ε (Ai wr br (D b m.J cap) m);have j:AT (λb=>b=2) c c wr e:=by rw[d];unfold Ai;exact((((((((AT.set (T:=λk=>k=2) a.res.2 X).trans (AT.set a.res.2 X)).trans (AT.set a.res.2 X)).trans (AT.set a.res.2 X)).trans (AT.set a.res.2 X)).trans (AT.set a.res.2 X)).trans (AT.set a.res.2 X)).trans (AT.set a.res.2 X)).trans (AT.set a.res.2 X)
 have h:=a.chg.trans (j.mono (λf b=>by unfold Xa6;omega) tn0);rw[<-d];refine⟨_,_,rfl,h.below0 Xg5,λc' i=>?_⟩;have b:=(a.row.kp j X).seen h i δ;have:=b.q4 (l:=m.J) (E:=CK e) (λg x d=>?_) (λg x b d f=>?_)
 .unfold Xch
  rw[Hk]at this ⊢;exact this
 .obtain ⟨_,_,b,_⟩:=a.st g x d
  exact⟨_,b⟩
 have e:=(Ll d);let⟨t,u,n,o,p,r,q,s,b,_⟩:=a.st g x d;have a:=((b e).1.kp j X).1.seen h i δ;have g:=((b e).2.kp j X).1.seen h i δ;have d:=Dq.q4 ⟨a,(b e).1.2⟩;have a:=Dq.q4 ⟨g,(b e).2.2⟩;rw[Hk]at d a;exact⟨f _ _ n,f _ _ o,⟨p,f _ _ q,d⟩,⟨r,f _ _ s,a⟩,t,u⟩
def Xl7(m:AV)(fv:ϒ)(w:Ϣ)(eT:AE w w 4 (CK w) fv m.J)(fA:m.J.length<=1000000)(fT:∀f∈m.J,f.L.length<=1000000/\f.S.length<=1000000):ϙ prog 63 #[.agg (AC fv m)] w (Xk7 m w):=by
 let⟨fs,⟨eK,eL,eJ,eM,V⟩,eU,eW,eX⟩:=m;obtain⟨eA,eO,rfl,r,v,A,C⟩:=eT;dsimp only at r v A C fA fT;let⟨N,d⟩:=ε (⟨eK,eL,eJ,eM,V⟩:Rq);rw[<-d];clear d;let⟨eE,d⟩:=ε ((w.alloc (χ (AC (D eA fs eO) ⟨fs,N,eU,eW,eX⟩) 59)).alloc (χ (AC ν AI) 59));have t:=Lh (bl2 d);have gH:=sz2 d;have gG:=Xct d;have cQ:=Xcm d
  -- the colours
 let⟨z,g⟩:=ε (λb=>if b=(w:Nat)+1 then 2 else if b=(w:Nat)then 1 else EN w b:A1);have gF:z (w:Nat)=1:=by rw[g];show(if(w:Nat)=(w:Nat)+1 then 2 else _)=1;rw[if_neg X,if_pos rfl]
 have gD:z ((w:Nat)+1)=2:=by rw[g];exact if_pos rfl
 have gC:AT Xa6 (EN w) z w eE:=⟨t.o.os,t.o.tape,t.o.output,t.o.size,λb x _=>t.o.block b x,λb x=>by rw[g];show(if b=(w:Nat)+1 then 2 else if b=(w:Nat)then 1 else EN w b)=_;rw[if_neg X,if_neg X],tn0⟩;have gA:∀b,(eE:Nat)<=b->z b=0:=λb x=>by
  rw[g];show(if b=(w:Nat)+1 then 2 else if b=(w:Nat)then 1 else EN w b)=0;rw[if_neg X,if_neg X];exact Ee b X
  -- the source's l
 let⟨l,eV,fX⟩:∃l,Src w 4 eA fs.length l/\Xjz (w:Nat) 0 l z eE fs:=by
  rcases C with h|⟨b,eG,rfl,x,C⟩
  .subst h
   exact⟨[],⟨rfl,.inl rfl,ψ,ψ⟩,λr f h=>by simp at h⟩
  obtain⟨l,r,V⟩:=LG C;refine⟨l,⟨r.len,.inr ⟨_,rfl,λj u v=>by rw[GB];exact V j u v⟩,r.one,fA⟩,λh f A=>?_⟩;let⟨eM,fF,⟨fE,fG,fJ⟩,⟨eT,fH,fK⟩,eK,eL⟩:=C h f A;have gL:=(Ll A);have:=r.len;have eJ:∀j,j<4->∃u,l[h*4+j]?=O u/\w.cell? (I b (eG+(h*4+j)))=O u:=λj r=>by have r:l[h*4+j]?=O (l[h*4+j]'X):=Lg _;exact⟨_,r,V _ _ r⟩
  have r:∀j u,j<4->w.cell? (I b (eG+h*4+j))=O u->l[h*4+j]?=O u:=λj u A v=>by let⟨_,C,h⟩:=eJ j A;rw[<-Nat.add_assoc]at h;rw[C];rw[h]at v;exact v
  exact⟨eK,eL,by have:=r 0 _ X eM;exact this,r 1 _ X fF,fE,eT,r 2 _ X fG,r 3 _ X fH,λh=>by omega,λ_=>⟨fJ.ints t.o,fK.ints t.o⟩⟩
 have fB:=Lh (Xl3 3 z eA fs.length eO l eE (eV.below (JT.below t.o)) X gA);have J:=Lh (ϟ fX (ϟ gC (ϟ gF (ϟ gD eV.len))));have q:=Lh (ϟ gG (ϟ cQ gH));have gK:=Lh (ϟ fT fA);clear g;unfold AI AC at d;dsimp only at d;unfold AC;dsimp only;go_in;go_upto_region 1 with fail;rw[<-d];clear d;have:=AD q.o.1 0 (D eA fs eO) rfl;go_wp2_with fail;refine fB.o.mono ?_;rintro e s⟨Q,cap,c1,rfl,fL,d,fY⟩;have r:=(La q.o.1);have t:=(La q.o.2.1);have h:=(d.kp _ r (no _)).trans q.o.1;have z:=(d.kp _ t (no _)).trans q.o.2.1;have:=AD h 0 (D eA fs eO) rfl;have:=Ψ 0 h;have v:=heap_setCell_same _ (w:Nat) 0 _ _ (D Q fs cap) h;have V:c1 (w:Nat)=1:=by rw[d.old _ r];exact J.o.2.2.1
 have C:c1 ((w:Nat)+1)=2:=by rw[d.old _ t];exact J.o.2.2.2.1
 have h:AT (λq=>q=1) c1 c1 s (s.setCell (I w 0) (D Q fs cap)):=AT.set V X;have A:(s.setCell (I w 0) (D Q fs cap)).heap[(w:Nat)+1]?=_:=(h.kp _ (La z) (Ϟ C ω)).trans z;have t:=fL.kp h X;have q:ϐ w eE s:=⟨d.os,d.tape,d.output,d.size,λb x=>d.kp b X (no _)⟩;have r:=(J.o.1.kp d (no _) q).kp h X ((Below.refl (w:Nat) s).setCell (p:=(I w 0)) (by show(w:Nat)<=w;omega) _);let⟨q,g⟩:=ε (s.setCell (I w 0) (D Q fs cap));rw[CY,<- g]at v;rw[<-g]at h A t r;have fM:Hid (Xhs ⟨fs,N,eU,eW,eX⟩ w (w:Nat) ((w:Nat)+1) 0 Q cap c1 l q):=Lh ⟨(J.o.2.1.trans (d.mono (λq d=>d.elim) tn0)).trans (h.mono (λq d=>by unfold Xa6;omega) tn0),λb x=>fY b (by rw[g]at x;simpa using x),⟨v,V⟩,⟨A,C⟩,t,J.o.2.2.2.2,r⟩;have eI:=Lh g;have:=AD v 0 (D Q fs cap) rfl;clear g;go_upto_region 2 with fail;rw[<-eI.o];go_wp2_with fail;go_loopw[11] (λd wr=>∃k:Nat,k<=fs.length/\d=H k/\Hid (∃c vs,Xhs ⟨fs,N,eU,eW,eX⟩ w (w:Nat) ((w:Nat)+1) k Q cap c vs wr)) (λd _=>fs.length-(intOf d).toNat);exact⟨0,Nat.zero_le _,rfl,Lh ⟨c1,l,fM.o⟩⟩;obtain⟨k,_,rfl,eB⟩:=hrel;let⟨c,vs,d⟩:=eB.o;have g:=Lh d;by_cases gI:k<fs.length
 .obtain ⟨f,G⟩:=Ϡ fs k gI
  obtain⟨_,_,-,-,_,_,F,eF,-,d⟩:=g.o.st k f G;have Y:=(d (Nr _)).1;have W:=(d (Nr _)).2;obtain⟨fN,fP,rfl⟩:=Y.u1;obtain⟨fC,fD,rfl⟩:=W.u1;obtain⟨i,rfl,eY,eZ,B,E⟩:=g.o.row.pos F;have eR:=AD g.o.box.1 0 (D (O (I i 0)) fs cap) rfl;have fV:=B _ _ F;have eQ:=B _ _ eF;have fS:=E (k*4+2);have fR:=E (k*4+3);have d:=gK.o.1 f (Lm G);have:=In k;have:(k:Int)<(fs:Int):=X;have o:=Lh (ϟ Y (ϟ W (ϟ d (ϟ G (ϟ eY (ϟ eZ (ϟ F eF)))))));go_upto_region 5 with fail;refine wp_region_bel (λV h=>ϟ (AB h eR) (AB h eQ)) [11,12,19,22,25] ϑ 26 rfl κ κ ?_;refine Xac ?_;have d:ϐ wr wr wr.drew:=AG Br 1;have:=g.o.chg.size;have l:=Xav o.o.1 o.o.2.2.1.1;have h:=Xav o.o.2.1 o.o.2.2.1.2;have q:=Lh (Xcp 4 c fN f.L.length fP (f.L.map (Value.int .i64)) wr.drew (l.2.1.below (JT.below d)) X (λb x=>g.o.hi b (by simpa using x)));have fI:=Lh (h.2.1.below (JT.below d));have fZ:=Lh (ϟ l.2.2 h.2.2);have n:=Lh (ϟ eR (ϟ fV (ϟ eQ (ϟ fS fR))));have eN:=Lh d;refine AH κ ?_;go_simp;refine AH κ ?_;go_simp;refine q.o.mono ?_;rintro e eS⟨eC,eD,eP,rfl,eH,L,M⟩;have d:=(AT.ob eN.o (no 0)).trans L;have fW:=Lh (ϟ eH (ϟ d M));have q:=d.cell n.o.1 (no _);have h:=d.cell n.o.2.2.1 (no _);have l:=Lh (Xcp 4 eP fC f.S.length fD (f.S.map (Value.int .i64)) eS (fI.o.below (λa r d=>L.cell d (no _))) X M);refine⟨⟨q,h⟩,?_⟩;refine AH κ ?_;go_simp;refine l.o.mono ?_;rintro e P⟨R,S,y,rfl,gJ,fQ,gE⟩;have d:=fW.o.2.1.trans fQ;have B:=d.cell n.o.1 (no _);have:=d.cell n.o.2.1 (no _);have A:=d.cell n.o.2.2.1 (no _);have:=d.frozen o.o.2.2.2.2.2.1 n.o.2.2.2.1 (no _);have:=d.frozen o.o.2.2.2.2.2.1 n.o.2.2.2.2 (no _);have n:y i=3:=by rw[d.old _ o.o.2.2.2.2.2.1];exact o.o.2.2.2.2.1
  have r:=(La g.o.box.1);have s:=(La g.o.res.1);have v:y (w:Nat)=1:=by rw[d.old _ r];exact g.o.box.2
  have z:y ((w:Nat)+1)=2:=by rw[d.old _ s];exact g.o.res.2
  have h:i≠(w:Nat):=λe=>by rw[e]at n;omega
  have:(w:Nat)≠i:=λe=>h e.symm;have h:AT (λl=>l=3) y y P ((P.setCell (I i (k*4+2)) (D eC f.L eD)).setCell (I i (k*4+3)) (D R f.S S)):=(AT.set (T:=λl=>l=3) n X).trans (AT.set n X);have t:=((g.o.row.kp d (no _)).put (k*4+2) (D eC f.L eD)).put (k*4+3) (D R f.S S);let⟨n,q⟩:=ε ((P.setCell (I i (k*4+2)) (D eC f.L eD)).setCell (I i (k*4+3)) (D R f.S S));rw[<-q]at h t;have:ϐ w wr n:=by
   have l:ϐ w wr P:=⟨d.os,d.tape,d.output,d.size,λb x=>d.kp b X (no _)⟩;rw[q];exact(l.setCell (p:=(I i (k*4+2))) (by show(w:Nat)<=i;exact g.o.chg.fresh o.o.2.2.2.2.1) _).setCell (p:=(I i (k*4+3))) (by show(w:Nat)<=i;exact g.o.chg.fresh o.o.2.2.2.2.1) _
  have gB:Hid (Xhs ⟨fs,N,eU,eW,eX⟩ w (w:Nat) ((w:Nat)+1) (k+1) (O (I i 0)) cap y ((vs.set (k*4+2) (D eC f.L eD)).set (k*4+3) (D R f.S S)) n):=Lh ⟨(g.o.chg.trans (d.mono (λl n=>n.elim) tn0)).trans (h.mono (λl n=>by unfold Xa6;omega) tn0),λb x=>gE b (Nt h.size x),⟨by rw[h.kp _ (Nl r d.size) (by rw[v];omega),d.kp _ r (no _)];exact g.o.box.1,v⟩,⟨by rw[h.kp _ (Nl s d.size) (by rw[z];omega),d.kp _ s (no _)];exact g.o.res.1,z⟩,t,by rw[List.length_set,List.length_set];exact g.o.len,((g.o.st.kp (d.mono (T':=λl=>l=3) (λl n=>n.elim) X) X ⟨d.os,d.tape,d.output,d.size,λb x=>d.kp b X (no _)⟩).kp h X (by
   rw[q];exact((Below.refl (w:Nat) P).setCell (p:=(I i (k*4+2))) (by show(w:Nat)<=i;exact g.o.chg.fresh o.o.2.2.2.2.1) _).setCell (p:=(I i (k*4+3))) (by show(w:Nat)<=i;exact g.o.chg.fresh o.o.2.2.2.2.1) _)).next o.o.2.2.2.1 g.o.len ⟨((fW.o.1.kp fQ (no _)).kp h X),fZ.o.1⟩ ⟨(gJ.kp h X),fZ.o.2⟩⟩
  have d:=Lh q;clear q;refine⟨⟨B,A⟩,?_⟩;refine AH κ ?_;go_simp;refine AH κ ?_;go_simp;rw[<-d.o];refine BH ?_;go_wp2;go_roundw;exact⟨k+1,X,by go_num,Lh ⟨_,_,gB.o⟩⟩;simp[intOf];omega
 have dZ:k=fs.length:=X;subst dZ;have fU:=Lh (Xhs.post (m:=⟨fs,N,eU,eW,eX⟩) g.o);have fO:=Lh (AZ g.o.res.1 (D Q fs cap) ⟨fs,N,eU,eW,eX⟩);have d:=λj i h=>AD g.o.res.1 j i h;have:=d 0 ν rfl;have:=ϴ g.o.res.1;have:=d 1 (H 0) rfl;have:=d 2 (H 0) rfl;have:=d 3 (H 0) rfl;have:=d 4 (H 0) rfl;have:=d 5 (H 0) rfl;have:=d 6 (H 0) rfl;have:=d 7 (H 0) rfl;have:=d 8 (H 0) rfl;have:=AD g.o.box.1 0 (D Q fs cap) rfl;have:=AD g.o.box.1 1 (H N.K) rfl;have:=AD g.o.box.1 2 (H N.O) rfl;have:=AD g.o.box.1 3 (H N.D) rfl;have:=AD g.o.box.1 4 (H N.V) rfl;have:=AD g.o.box.1 5 (H N.X) rfl;have:=AD g.o.box.1 6 (H eU) rfl;have:=AD g.o.box.1 7 (H eW) rfl;have:=AD g.o.box.1 8 (H eX) rfl;go_wp2;exact bodyPost_ret (AL (p:=2) rfl fO.o.1 _ rfl) rfl fU.o
def Xm8(s:AE w w sz E (D a n cap) l)(v:0<sz)(t:∀b c x,E w b c x->∀j,j<sz->∃u,w.cell? (I b (c+j))=O u/\u.oneCell'=ϑ)(hl:l.length<=1000000) :
  n=l.length/\∃g,Src w sz a l.length g/\∀f x,l[f]?=O x->∃b c,E w b c x/\∀j,j<sz->g[f*sz+j]?=w.cell? (I b (c+j)):=by
 let⟨m,o,e,_,_,_,h⟩:=s;obtain⟨rfl,rfl,rfl⟩:a=m/\n=l.length/\cap=o:=by simpa using e
 refine⟨rfl,?_⟩;rcases h with k|⟨b,c,rfl,_,h⟩
 .subst k
  exact⟨[],⟨ψ,.inl rfl,ψ,ψ⟩,λf x i=>by simp at i⟩
 have r:∀j,j<l.length*sz->∃u,w.cell? (I b (c+j))=O u/\u.oneCell'=ϑ:=λj g=>by
  have k:=Nat.div_lt_of_lt_mul (by rw[Nat.mul_comm];exact g);let⟨u,g,m⟩:=t b _ _ (h (j/sz) _ (Lg k)) (j%sz) (Nat.mod_lt _ v);have e:c+j/sz*sz+j%sz=c+j:=by rw[Nat.add_assoc,Nat.mul_comm,Nat.div_add_mod]
  rw[e]at g;exact⟨u,g,m⟩
 have q:∀j,j<l.length*sz->((List.range (l.length*sz)).map λj=>(w.cell? (I b (c+j))).getD undef)[j]?=w.cell? (I b (c+j)):=λj g=>by let⟨u,k,_⟩:=r j g;rw[List.getElem?_map,List.getElem?_range g,Option.map_some,k];rfl
 refine⟨(List.range (l.length*sz)).map λj=>(w.cell? (I b (c+j))).getD undef,⟨ψ,.inr ⟨_,rfl,λj u d=>?_⟩,λu d=>?_,hl⟩,λf x i=>⟨b,c+f*sz,h f x i,λj c=>?_⟩⟩
 .have c:=(Ll d)
  rw[List.length_map,List.length_range]at c;rw[q j c]at d;rw[GB];exact d
 .obtain ⟨j,p,rfl⟩:=List.mem_map.1 d
  let⟨u,c,d⟩:=r j (List.mem_range.1 p);rw[c];exact d
 have c:=(Ll i);have:f*sz+j<l.length*sz:=by have:(f+1)*sz<=l.length*sz:=Nat.mul_le_mul_right _ c;rw[Nat.add_mul]at this;omega
 rw[q _ this,Nat.add_assoc]
def Xh6(o:AE w w sz E (D a n cap) l)(g:∀x,(f x).length=sz)(p:0<sz)(q:∀b d x,E w b d x->∀j u,(f x)[j]?=O u->w.cell? (I b (d+j))=O u)(r:∀x,∀u∈f x,u.oneCell'=ϑ)(hl:l.length<=1000000):n=l.length/\Src w sz a l.length (l.flatMap f):=by
 let⟨k,m,e,_,_,_,i⟩:=o;obtain⟨rfl,rfl,rfl⟩:a=k/\n=l.length/\cap=m:=by simpa using e
 refine⟨rfl,Xap g l,?_,λu c=>?_,hl⟩
 .rcases i with h|⟨b,d,rfl,_,i⟩
  .left;rw[h];rfl
  refine .inr ⟨_,rfl,λj u c=>?_⟩;have d:=(Ll c);rw[Xap g l]at d;let⟨x,m⟩:=Ϡ l (j/sz) (Nat.div_lt_of_lt_mul (by rw[Nat.mul_comm];exact d));let⟨d,k⟩:=Ϡ (f x) (j%sz) (by rw[g];exact Nat.mod_lt _ p);have h:=Xaq g m _ _ k;have e:j/sz*sz+j%sz=j:=by rw[Nat.mul_comm];exact Nat.div_add_mod _ _
  rw[e,c]at h;have d:=q _ _ _ (i _ _ m) _ _ k;rw[Nat.add_assoc,e,<- h]at d;rw[GB];exact d
 obtain⟨x,_,c⟩:=List.mem_flatMap.1 c;exact r x u c
def Xk2{l:List CD}(d:AE w w 5 FM (D a n cap) l)(hl:l.length<=1000000):n=l.length/\Src w 5 a l.length (Dk l):=by
 refine Xh6 (f:=Dw) d (λ_=>rfl) X (λb m x d j u c=>?_) (λx u c=>?_) hl
 .obtain ⟨e,g,h,i,k,-⟩:=d
  match j,c with
  |0,c=>cases c;exact e
  |1,c=>cases c;exact g
  |2,c=>cases c;exact h
  |3,c=>cases c;exact i
  |4,c=>cases c;exact k
  |j+5,c=>simp[Dw]at c
 simp only[Dw,ϰ,List.not_mem_nil,or_false]at c;rcases c with rfl|rfl|rfl|rfl|rfl<;>rfl
def Xiv{l:List (Int×Int)}(e:AE w w 2 RdE (D a n cap) l)(hl:l.length<=1000000):n=l.length/\Src w 2 a l.length (l.flatMap rdL):=by
 refine Xh6 (f:=rdL) e (λ_=>rfl) X (λb e x d j u c=>?_) (λx u c=>?_) hl
 .match j,c with
  |0,c=>cases c;exact d.1
  |1,c=>cases c;exact d.2
  |j+2,c=>simp[rdL]at c
 simp only[rdL,ϰ,List.not_mem_nil,or_false]at c;rcases c with rfl|rfl<;>rfl
def Xm6{l:List (Int×Int×Int)}(e:AE w w 3 WrE (D a n cap) l)(hl:l.length<=1000000):n=l.length/\Src w 3 a l.length (l.flatMap wrL):=by
 refine Xh6 (f:=wrL) e (λ_=>rfl) X (λb e x d j u c=>?_) (λx u c=>?_) hl
 .match j,c with
  |0,c=>cases c;exact d.1
  |1,c=>cases c;exact d.2.1
  |2,c=>cases c;exact d.2.2
  |j+3,c=>simp[wrL]at c
 simp only[wrL,ϰ,List.not_mem_nil,or_false]at c;rcases c with rfl|rfl|rfl<;>rfl
def Xce{c:List (List α)}{f:List α->List ϒ}(o:AE w w 1 (Bg sz E w) (D a n cap) c)(hl:∀l∈c,∀ai m ci,AE w w sz E (D ai m ci) l->m=l.length/\Src w sz ai l.length (f l)):n=c.length/\Xjv w sz a c List.length f:=by
 let⟨i,j,e,_,_,_,k⟩:=o;obtain⟨rfl,rfl,rfl⟩:a=i/\n=c.length/\cap=j:=by simpa using e
 refine⟨rfl,k.imp id (λ⟨b,c,e,j,i⟩=>⟨b,c,e,λc x h=>?_⟩)⟩;let⟨_,d,g⟩:=i c x h;obtain⟨ai,ci,rfl⟩:=g.u1;rw[Nat.mul_one]at d;exact⟨ai,ci,d,(hl x (Lm h) _ _ _ g).2⟩
def Xnc{l:List Gl}(A:AE w w 2 (GP w) (D a n cap) l)(hl:l.length<=1000000)(B:∀x∈l,x.f.length<=1000000) :
  n=l.length/\∃d,Src w 2 a l.length d/\∀c x,l[c]?=O x->d[c*2]?=O (H x.type)/\∃g k,d[c*2+1]?=O (D g x.f k)/\Src w 1 g x.f.length (x.f.map (Value.int .i64)):=by
 let⟨e,u,v,z⟩:=Xm8 A X (λb c x f j q=>by
  obtain⟨r,⟨_,t,p⟩,-⟩:=f;obtain⟨_,_,rfl⟩:=p.u1
  match j,q with
  |0,_=>exact⟨_,r,rfl⟩
  |1,_=>exact⟨_,t,rfl⟩) hl
 refine⟨e,u,v,λc x f=>?_⟩;obtain⟨b,_,⟨y,⟨_,s,h⟩,-⟩,i⟩:=z c x f;obtain⟨m,o,rfl⟩:=h.u1;refine⟨?_,m,o,by rw[i 1 X];exact s,(Xav h (B x (Lm f))).2.1⟩;have:=i 0 X;rw[Nat.add_zero]at this;rw[this];exact y
def Xm2{β:Type}:∀{l:List α}{P:Nat->α->β->Prop}(_:∀b x,l[b]?=O x->∃d,P b x d),∃f:List β,f.length=l.length/\∀b x d,l[b]?=O x->f[b]?=O d->P b x d
 |[],_,_=>⟨[],rfl,λb x d c=>by simp at c⟩
 |a::l,P,h=>by
  let⟨g,j⟩:=h 0 a rfl;let⟨d,f,i⟩:=Xm2 (l:=l) (P:=λb=>P (b+1)) (λb x c=>h (b+1) x (by simpa using c));refine⟨g::d,by simp[f],λb x z c e=>?_⟩;cases b with
  |zero=>simp at c e;subst c e;exact j
  |succ b=>exact i b x z (by simpa using c) (by simpa using e)
def Xka(w:Ϣ)(p:List Bi×List ϒ):Prop:=p.2.length=p.1.length*2/\∀k x,p.1[k]?=O x->p.2[k*2]?=O (.string x.proc)/\x.proc.size<=140737488355328/\∃fa fc,p.2[k*2+1]?=O (D fa x.args fc)/\Src w 1 fa x.args.length (x.args.map (Value.int .i64))/\∀q∈x.args,in64 q
def Xn5{f:List (List Bi)}(S:AE w w 1 (Bg 2 (DA w) w) (D a n cap) f)(hl:∀l∈f,l.length<=1000000/\∀x∈l,x.args.length<=1000000) :
  n=f.length/\∃d:List (List Bi×List ϒ),d.map (·.1)=f/\Xjv w 2 a d (·.1.length) (·.2)/\∀y∈d,Xka w y:=by
 let⟨C,E,e,_,_,_,i⟩:=S;obtain⟨rfl,rfl,rfl⟩:a=C/\n=f.length/\cap=E:=by simpa using e
 refine⟨rfl,?_⟩;rcases i with z|⟨b,A,rfl,_,i⟩
 .subst z
  exact⟨[],rfl,.inl rfl,ψ⟩
 obtain⟨v,_,o⟩:=Xm2 (l:=f) (P:=λc x h=>∃ai ci,w.cell? (I b (A+c))=O (D ai x ci)/\Src w 2 ai x.length h/\Xka w (x,h)) (λc x p=>by
  let⟨_,t,o⟩:=i c x p;obtain⟨ai,ci,rfl⟩:=o.u1;rw[Nat.mul_one]at t;have u:=hl x (Lm p);obtain⟨-,h,s,T⟩:=Xm8 o X (λb A d g j J=>by
   obtain⟨L,⟨_,N,B⟩,-⟩:=g;obtain⟨_,_,rfl⟩:=B.u1
   match j,J with
   |0,_=>exact⟨_,L,rfl⟩
   |1,_=>exact⟨_,N,rfl⟩) u.1
  refine⟨h,ai,ci,t,s,s.len,λk q g=>?_⟩;let⟨_,_,⟨R,⟨_,Q,m⟩,M⟩,r⟩:=T k q g;obtain⟨F,G,rfl⟩:=m.u1;have d:=Xav m (u.2 q (Lm g));refine⟨?_,M,F,G,by rw[r 1 X];exact Q,d.2.1,d.2.2⟩;have:=r 0 X;rw[Nat.add_zero]at this;rw[this];exact R)
 have h:∀(c:Nat)(d:List Bi×List ϒ),(f.zip v)[c]?=O d->f[c]?=O d.1/\v[c]?=O d.2:=λc d g=>by rw[List.getElem?_zip_eq_some]at g;exact g
 refine⟨f.zip v,List.map_fst_zip X,.inr ⟨b,A,rfl,λc f d=>?_⟩,λf d=>?_⟩
 .obtain ⟨m,p⟩:=h c f d
  obtain⟨ai,ci,g,i,-⟩:=o c _ _ m p;exact⟨ai,ci,g,i⟩
 obtain⟨c,m⟩:=List.mem_iff_getElem?.1 d;let⟨g,i⟩:=h c f m;obtain⟨ai,ci,-,-,d⟩:=o c _ _ g i;exact d
def Xoq{l:List Trx}(aR:AE w w 13 (Xly (w:Nat)) (D a n cap) l)(hl:l.length<=1000000)(u:∀x∈l,x.q4.length<=1000000/\x.q2.length<=1000000) :
  n=l.length/\∃s,Src w 13 a l.length s/\∀r x,l[r]?=O x->∃o p t q wc,AE w w 4 (CK w) o x.run.J/\Src w 2 p x.q4.length (x.q4.flatMap rdL)/\Src w 3 q x.q2.length (x.q2.flatMap wrL)/\∀k d,(Xa9 o (D p x.q4 t) (D q x.q2 wc) x)[k]?=O d->s[r*13+k]?=O d:=by
 have aN:∀b g (x:Trx),Xly (w:Nat) w b g x->∃o p r q s t wc,AE w w 4 (CK w) o x.run.J/\AE w w 2 RdE (D p r q) x.q4/\AE w w 3 WrE (D s t wc) x.q2/\∀k d,(Xa9 o (D p r q) (D s t wc) x)[k]?=O d->w.cell? (I b (g+k))=O d:=λb g x u=>by
  obtain⟨⟨R,f,S,-⟩,aJ,aK,⟨_,aL,m⟩,⟨_,aM,i⟩⟩:=u;obtain⟨F,J,rfl⟩:=m.u1;obtain⟨B,wc,rfl⟩:=i.u1;refine⟨R,F,_,J,B,_,wc,S,m,i,λk d i=>?_⟩
  match k,i with
  |0,i=>exact f 0 d i
  |1,i=>exact f 1 d i
  |2,i=>exact f 2 d i
  |3,i=>exact f 3 d i
  |4,i=>exact f 4 d i
  |5,i=>exact f 5 d i
  |6,i=>exact f 6 d i
  |7,i=>exact f 7 d i
  |8,i=>exact f 8 d i
  |9,v=>cases v;exact aJ
  |10,y=>cases y;exact aK
  |11,z=>cases z;exact aL
  |12,A=>cases A;exact aM
  |k+13,d=>simp[Xa9,FW]at d
 let⟨e,aO,aP,aQ⟩:=Xm8 aR X (λb g x u j Q=>by
  let⟨_,_,_,_,_,_,wc,E,G,N,c⟩:=aN b g x u;obtain⟨_,_,rfl⟩:=E.u1;have:=G.u1;have:=N.u1
  match j,Q with
  |0,_=>exact⟨_,c 0 _ rfl,rfl⟩
  |1,_=>exact⟨_,c 1 _ rfl,rfl⟩
  |2,_=>exact⟨_,c 2 _ rfl,rfl⟩
  |3,_=>exact⟨_,c 3 _ rfl,rfl⟩
  |4,_=>exact⟨_,c 4 _ rfl,rfl⟩
  |5,_=>exact⟨_,c 5 _ rfl,rfl⟩
  |6,_=>exact⟨_,c 6 _ rfl,rfl⟩
  |7,_=>exact⟨_,c 7 _ rfl,rfl⟩
  |8,_=>exact⟨_,c 8 _ rfl,rfl⟩
  |9,_=>exact⟨_,c 9 _ rfl,rfl⟩
  |10,_=>exact⟨_,c 10 _ rfl,rfl⟩
  |11,_=>exact⟨_,c 11 _ rfl,rfl⟩
  |12,_=>exact⟨_,c 12 _ rfl,rfl⟩
  |j+13,Q=>omega) hl
 refine⟨e,aO,aP,λd x c=>?_⟩;let⟨b,g,f,aI⟩:=aQ d x c;let⟨Y,aG,_,V,W,_,wc,T,L,P,aH⟩:=aN b g x f;have h:=u x (Lm c);obtain⟨rfl,M⟩:=Xiv L h.1;obtain⟨rfl,C⟩:=Xm6 P h.2;refine⟨Y,aG,V,W,wc,T,M,C,λk f c=>?_⟩;have d:=(Ll c);rw[aI k (by simpa[Xa9,FW]using d)];exact aH k f c
