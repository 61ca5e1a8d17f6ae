import Derived.Test.YtigbfkiddlhhjaaGreatDoorSqa
set_option maxHeartbeats 8000000
set_option maxRecDepth 100000
set_option linter.all false
open Go renaming World→Ϣ,Value→ϒ,Calls→ϙ,bodyPost_ret→ϖ
open Go.RowKit renaming Below→ϐ
open Option renaming some→H
open Bool renaming false→ϝ,true→ϑ
open And renaming intro→ϟ
open List renaming replicate→ϱ,mem_cons→ϰ
open Go.Value renaming slice→X
open Go.Obj renaming cells→χ
namespace Go.Proofs.YtigbfkiddlhhjaaGreatDoor
open Go.RowKit Proofs.Tryz
open Go.RowKit renaming ι→O,ν→D,ω→K,π→I
variable{α:Type}{e t:TypeId}{fn:Func}{x:Trx}{W w w' A:Ϣ}{v c0 c1 c2 g0 g1 lv:ϒ}{c cd:AQ}{s b s1 s' s2:Tra}{i n k j sz q bo N:Nat}{f:Nat->ϒ}{a a0:Act}{l:List Int}{P:Program}{Q:Exit->Act->Ϣ->Prop}{S:Ϣ->Prop}{fin bb:Bool}{o o3:Oper}{C0:A1}{done:List Nat}{m:Mm}{cs:List (List Bi)}{fuel:Int}
def Xbi{p u x:Tmp}(s:fn.results=#[.cell p 39,.tmp u,.tmp x]){R:Nat}{x0 e i j k l m n o q f g h y:ϒ}(r:W.heap[R]?=H (χ #[x0,e,i,j,k,l,m,n,o,q,f,g,h] 39 (0,0)))(a:Array ϒ)(d:a.getD p undef=.pointer (H (I R 0)))(c:a.getD u undef=v)(b:a.getD x undef=y) :
  (results fn a).run prog W=.ok (.tuple #[.agg #[x0,e,i,j,k,l,m,n,o,q,f,g,h],v,y]) W:=by
 simp only[results,s];rw[Array.getD_eq_getD_getElem?]at d c b;simp[d,c,b,asAddr,Xgp r,Result.andThen,Sem.run_bind]
inductive Xbk(c:AQ)(s:Tra):List Int->Tra->Prop
 |nil:Xbk c s [] s
 |snoc {l:List Int} {t:Int} {s1 s2:Tra} (h:Xbk c s l s1) (hr:Xa1 s1 t=0) (hs:gw c s1 t.toNat s2):Xbk c s (l++[t]) s2
def Xih(cd:AQ)(s:Tra)(l:List Int)(w:Ϣ)(e:Ending)(w':Ϣ):Prop:=ϐ w w w'/\((65536<l.length/\e=.returned (.tuple #[.agg #[D,D,D,O 0,O 0,D,D,D,D,D,D,O 0,O 0],O 0,O 4]))\/
 (l.length<=65536/\∃(i:Nat)(s':Tra)(vs':List ϒ),i<=l.length/\Xbk cd s (l.take i) s'/\Xba cd s'/\s'.q1.length=s.q1.length/\(i=l.length\/∃t,l[i]?=H t/\Xa1 s' t≠0)/\e=.returned (.tuple #[.agg vs'.toArray,O (i:Int),O 0])/\TraVs (w':Nat) w' vs' s'/\Xor w w' vs' s'))
def Xgq(cd:AQ)(iD iE:Option Addr)(iB iC:Nat)(s:Tra)(vs:List ϒ)(l:List Int)(g:Option Addr)(a:Nat)(w:Ϣ)(lM:C8 w)(lZ:Bv cd)(mF:BF w w (.agg (Bc iD iB iE iC cd)) cd)(hs:TraVs (w:Nat) w vs s)(lY:Xba cd s)(hl:AE w w 1 Aj (X g l a) l) :
  ϙ prog 12 #[.agg (Bc iD iB iE iC cd),.agg vs.toArray,X g l a] w (Xih cd s l w):=by
 obtain⟨kE,kF,kG,kH,kI,kJ,kK,kL,kM,kO,kP,kQ,kR,kS,kT,kU,kV,kW,kX,kY,kZ,lA,cQ,lB,lC,lD,lE,rfl⟩:=hs.shape;let⟨W,c⟩:=ε (((w.alloc (χ (Bc iD iB iE iC cd) 25)).alloc (χ #[X kE kF kG,X kH kI kJ,X kK kL kM,O s.q3,O s.Y,X kO kP kQ,X kR kS kT,X kU kV kW,X kX kY kZ,X lA cQ lB,X lC lD lE,O s.q5,O s.U] 39)).alloc (χ #[D,D,D,O 0,O 0,D,D,D,D,D,D,O 0,O 0] 39));let⟨lP,mK,lO,mE,mG⟩:=Λ5 (bl3 c) (sz3 c) (Xda c) (Xcs c) (Xbs c);have m:=Lh (ϟ lY (ϟ lZ lM));have o:Hid (∀a,ϐ W W a->BF w a (.agg (Bc iD iB iE iC cd)) cd/\C8 a/\TraVs a.heap.size a [X kE kF kG,X kH kI kJ,X kK kL kM,O s.q3,O s.Y,X kO kP kQ,X kR kS kT,X kU kV kW,X kX kY kZ,X lA cQ lB,X lC lD lE,O s.q5,O s.U] s/\ϐ w w a/\(w:Nat)<=a.heap.size):=Lh (λa g=>by
  have a:=lP.o.th g;exact⟨mF.below a,lM.below a,hs.ups a.size (JT.below a),a,a.size⟩)
 have lK:Hid (∀a,ϐ W W a->Xc9 a ((w:Nat)+1) s/\a.heap[(w:Nat)]?=H (χ (Bc iD iB iE iC cd) 25 (0,0))/\a.heap[(w:Nat)+1]?=H (χ #[X kE kF kG,X kH kI kJ,X kK kL kM,O s.q3,O s.Y,X kO kP kQ,X kR kS kT,X kU kV kW,X kX kY kZ,X lA cQ lB,X lC lD lE,O s.q5,O s.U] 39 (0,0))/\a.heap[(w:Nat)+1+1]?=H (χ #[D,D,D,O 0,O 0,D,D,D,D,D,D,O 0,O 0] 39 (0,0))):=Lh (λa g=>by
  have:=mK.o;have mO:=(g.block ((w:Nat)+1) K).trans mE.o;exact⟨⟨_,(o.o a g).2.2.1,row13 mO⟩,(g.block (w:Nat) K).trans lO.o,mO,(g.block ((w:Nat)+1+1) K).trans mG.o⟩)
 have mR:=Lh hl;have:l.length<=140737488355328:=by let⟨_,_,_,a,_⟩:=hl;exact a
 let⟨c0,c1,c2⟩:=Ω3 lO.o;have iG:=Lh (Xew cd s ((w:Nat)+1) iD iE iB iC W (o.o W Br).2.1 m.o.2.1 ((o.o W Br).1.up (o.o W Br).2.2.2.2) (lK.o W Br).1 m.o.1.inv m.o.1.one m.o.1.eight m.o.1.steps);go_in;go_upto_region 1 with fail;rw[<-c];clear c;go_wp2_with fail;refine iG.o.mono ?_;rintro e d⟨rfl,a⟩;have V:=Lh a;by_cases mQ:65536<(l:Int)
 .have:=Lh mQ
  have a:=(lK.o d V.o).2.2.2;have:=ϵ a;have:=ϴ a;have iG:=Xab a D D D (O 0) (O 0) D D D D D D (O 0) (O 0);have g:ϐ w w (Xaa d ((w:Nat)+1+1) 0 [D,D,D,O 0,O 0,D,D,D,D,D,D,O 0,O 0]):=by exact Xal K _ _ (o.o d V.o).2.2.2.1
  let⟨WE,a⟩:=ε (Xaa d ((w:Nat)+1+1) 0 [D,D,D,O 0,O 0,D,D,D,D,D,D,O 0,O 0]);rw[<-a]at iG g;have lI:Hid (Xih cd s l w (.returned (.tuple #[.agg #[D,D,D,O 0,O 0,D,D,D,D,D,D,O 0,O 0],O 0,O 4])) WE):=Lh ⟨g,.inl ⟨K,rfl⟩⟩;have iU:=Lh iG;have iO:=Lh a;clear a;go_wp2_with fail;rw[Xaf,<- iO.o];exact ϖ (Xbi (p:=6) (u:=7) (x:=8) rfl iU.o _ rfl rfl rfl) rfl lI.o
 have mP:=@Lh (l.length<=65536) K;have:=ϵ (lK.o d V.o).2.2.1;have lJ:=Lh (Xc7 s [X kE kF kG,X kH kI kJ,X kK kL kM,O s.q3,O s.Y,X kO kP kQ,X kR kS kT,X kU kV kW,X kX kY kZ,X lA cQ lB,X lC lD lE,O s.q5,O s.U] (Xiu (d:Nat)) d (o.o d V.o).2.2.1 (m.o.1.inv.copyS m.o.2.1 m.o.1.eight m.o.1.steps) (λb a=>Xea a));go_wp2_with fail;refine lJ.o.mono ?_;rintro e iI⟨_,lW,rfl,iH,f,lN⟩;obtain⟨iW,iX,iY,jA,jB,jC,jE,jF,jG,jK,jL,jM,jN,jO,jP,jQ,jR,jS,jT,jU,jV,jW,jX,jY,jZ,kA,kB,rfl⟩:=iH.shape;let⟨q,c⟩:=ε (iI.alloc (χ #[X iW iX iY,X jA jB jC,X jE jF jG,O s.q3,O s.Y,X jK jL jM,X jN jO jP,X jQ jR jS,X jT jU jV,X jW jX jY,X jZ kA kB,O s.q5,O s.U] 39));have iG:=SAt.boxed iH lN c;have iO:ϐ d d iI:=⟨f.os,f.tape,f.output,f.size,λb a=>f.kp b a (no _)⟩;have g:=(V.o.th iO).th (bl1 c);let⟨iK,h⟩:=ε (λb=>if b=(iI:Nat)then 1 else lW b:A1);rw[<-h]at iG;have iH:∀b,b<(d:Nat)->iK b=14:=λb a=>by rw[iG.2.old b (Nl a f.size),f.old b a,Xcn a]
 have lV:=Lh iH;have iT:Hid (Xbl cd (.agg (Bc iD iB iE iC cd)) (w:Nat) w q iK):=Lh ⟨m.o.2.2,rfl,(o.o q g).2.2.2.1,(o.o q g).1,λb a=>by rw[iH b (by have:=V.o.size;have:=(o.o W Br).2.2.2.2;omega)];exact Io⟩;have f:=Lh g;have mH:=Lh iG.1;have mA:=Lh c;have lS:=@Lh ((w:Nat)+1+1<d/\(d:Nat)<=q) (by have:=mK.o;have:=V.o.size;have:=iO.size;have:=sz1 c;omega)
  -- what stays where it was
 have lX:Hid (∀a c1,AT NZ iK c1 q a->a.heap[(w:Nat)]?=H (χ (Bc iD iB iE iC cd) 25 (0,0))/\a.heap[(w:Nat)+1+1]?=H (χ #[D,D,D,O 0,O 0,D,D,D,D,D,D,O 0,O 0] 39 (0,0))/\c1 ((w:Nat)+1+1)=14/\ϐ w w a):=Lh (λa c1 d=>by
  have a:=lK.o q f.o;have:=lS.o;refine⟨(d.kp _ K (by rw[lV.o _ K];exact Io)).trans a.2.1,(d.kp _ K (by rw[lV.o _ K];exact Io)).trans a.2.2.2,by rw[d.old _ K];exact lV.o _ K,?_⟩;exact(o.o q f.o).2.2.2.1.trans (d.belowN (B:=(w:Nat)) iT.o.low iT.o.size))
 clear h c;go_upto_region 6 with fail;rw[<-mA.o];go_wp2_with fail;go_loopw[26] (λi wr=>∃k:Nat,k<=l.length/\i=O k/\Hid (∃s1 c1,SAt wr c1 (iI:Nat) s1/\AT NZ iK c1 q wr/\Xbl cd (.agg (Bc iD iB iE iC cd)) (w:Nat) w wr c1/\Xbk cd s (l.take k) s1/\Xba cd s1/\s1.q1.length=s.q1.length)) (λi _=>l.length-(intOf i).toNat);exact⟨0,Nat.zero_le _,rfl,Lh ⟨s,iK,mH.o,AT.ob Br Qx,iT.o,by rw[List.take_zero];exact .nil,m.o.1,rfl⟩⟩;obtain⟨k,_,rfl,iN⟩:=hrel;let⟨s1,c1,a,d,f,g,o,V⟩:=iN.o;have c:=Lh (ϟ a (ϟ d (ϟ f (ϟ g (ϟ o V)))));by_cases mJ:k<l.length
 .obtain ⟨t,iF⟩:=Ϡ l k mJ
  have hZ:=(lX.o wr c1 c.o.2.1).2.2.2;obtain⟨_,_,rfl,-,iS,-⟩:=(mR.o.ups B5 hZ.size (JT.below hZ)).nth iF;rw[Nat.mul_one]at iS;have mI:=Lh iF;have lU:=Lh mJ;have:=In k;have:(k:Int)<(l:Int):=K;let⟨a,d,f⟩:=c.o.1.callsR;have iR:=Lh (Xd4 s1 (iI:Nat) t a d wr f);go_wp2_with fail;refine iR.o.mono ?_;rintro e h⟨rfl,a⟩;have lL:=Lh a;have d:=c.o.2.1.trans (AT.ob a Qx);have lT:=Lh d;have lQ:=Lh (c.o.1.grow a);by_cases jD:Xa1 s1 t=0
  .have:=ρ (Xa1 s1 t) 0 jD
   have mD:=Lh jD;obtain⟨i,lF,lG,rfl,lH,iJ⟩:=Xe2 jD;have a:=(lX.o h c1 lT.o).1;have:=Ω3 a;have iA:=Lh ((AT.ob lL.o Qx:AT NZ c1 c1 wr h));have kN:=Lh (Xft cd iD iE iB iC (w:Nat) s1 c1 (iI:Nat) i lF lG w h (c.o.2.2.1.go iA.o) m.o.2.1 lQ.o c.o.2.2.2.2.1.inv lH iJ);have iZ:=Lh iJ;go_wp2_with fail;refine kN.o.mono ?_;rintro e a⟨rfl,s2,g,c2,V,d⟩;have f:=Xba.stepS c.o.2.2.2.2.1 g iZ.o;have o:=(c.o.2.1.trans iA.o).trans d;have m:=(c.o.2.2.1.go iA.o).go d;have lR:Hid (∃s1 c1,SAt a c1 (iI:Nat) s1/\AT NZ iK c1 q a/\Xbl cd (.agg (Bc iD iB iE iC cd)) (w:Nat) w a c1/\Xbk cd s (l.take (k+1)) s1/\Xba cd s1/\s1.q1.length=s.q1.length):=Lh ⟨s2,c2,V,o,m,by
    rw[List.take_add_one,mI.o];exact .snoc c.o.2.2.2.1 mD.o (by rw[Int.toNat_natCast];exact g),f.1,f.2.trans c.o.2.2.2.2.2⟩
   go_wp2;go_roundw;exact⟨k+1,by have:=lU.o;omega,by go_num,lR⟩;have:=lU.o;simp[intOf];omega
  have:=τ (Xa1 s1 t) 0 jD;have mL:=Lh jD;have iM:=lX.o h c1 lT.o;have n:=iM.2.1;have:=ϵ n;have:=ϴ n;let⟨mN,_,_,kC,jJ⟩:=(show X5 h c1 _ (iI:Nat) (Xag s1)from lQ.o);obtain⟨J,L,M,N,P,Q,R,S,T,gU,gV,gW,hA,hB,hD,hH,hJ,hK,hM,hN,hO,hP,hQ,hR,hU,hX,hY,rfl⟩:=jJ.shape;have:=ϵ kC;have g:=Xab n (X J L M) (X N P Q) (X R S T) (O s1.q3) (O s1.Y) (X gU gV gW) (X hA hB hD) (X hH hJ hK) (X hM hN hO) (X hP hQ hR) (X hU hX hY) (O s1.q5) (O s1.U);have a:AT (λt=>t=14) c1 c1 h (Xaa h ((w:Nat)+1+1) 0 [X J L M,X N P Q,X R S T,O s1.q3,O s1.Y,X gU gV gW,X hA hB hD,X hH hJ hK,X hM hN hO,X hP hQ hR,X hU hX hY,O s1.q5,O s1.U]):=Xak iM.2.2.1 K _ _ _;have f:ϐ w w (Xaa h ((w:Nat)+1+1) 0 [X J L M,X N P Q,X R S T,O s1.q3,O s1.Y,X gU gV gW,X hA hB hD,X hH hJ hK,X hM hN hO,X hP hQ hR,X hU hX hY,O s1.q5,O s1.U]):=Xal K _ _ iM.2.2.2;let⟨WE,d⟩:=ε (Xaa h ((w:Nat)+1+1) 0 [X J L M,X N P Q,X R S T,O s1.q3,O s1.Y,X gU gV gW,X hA hB hD,X hH hJ hK,X hM hN hO,X hP hQ hR,X hU hX hY,O s1.q5,O s1.U]);rw[<-d]at g a f;have mC:Hid (Xih cd s l w (.returned (.tuple #[.agg #[X J L M,X N P Q,X R S T,O s1.q3,O s1.Y,X gU gV gW,X hA hB hD,X hH hJ hK,X hM hN hO,X hP hQ hR,X hU hX hY,O s1.q5,O s1.U],O (k:Nat),O 0])) WE):=Lh ⟨f,.inr ⟨mP.o,⟨k,s1,_,by have:=lU.o;omega,c.o.2.2.2.1,c.o.2.2.2.2.1,c.o.2.2.2.2.2,.inr ⟨t,mI.o,mL.o⟩,rfl,(jJ.kp a (Xai λt f=>by omega)).q4 (Xbh.wf c.o.2.2.2.2.1.inv c.o.2.2.2.2.1.outs c.o.2.2.2.2.1.steps),⟨c1,jJ.kp a (Xai λt f=>by omega),λb a=>by rw[lT.o.old b (by have:=lS.o;omega)];exact lV.o b (by have:=lS.o;omega),λb a=>mN b (by rw[d,Xbe]at a;exact a)⟩⟩⟩⟩;have jH:=Lh g;have iQ:=Lh d;clear d;go_wp2_with fail;rw[Xaf,<- iQ.o];exact ϖ (Xbi (p:=6) (u:=7) (x:=8) rfl jH.o _ rfl rfl rfl) rfl mC.o
 obtain rfl:k=l.length:=K;have iL:=lX.o wr c1 c.o.2.1;have j:=iL.2.1;have:=ϵ j;have:=ϴ j;let⟨mM,_,_,kD,jI⟩:=(show X5 wr c1 _ (iI:Nat) (Xag s1)from c.o.1);obtain⟨r,v,y,z,A,C,E,F,G,Y,gJ,gK,gL,gM,gN,gO,gP,gQ,gR,gS,gT,gX,gY,gZ,hE,hF,hG,rfl⟩:=jI.shape;have:=ϵ kD;have g:=Xab j (X r v y) (X z A C) (X E F G) (O s1.q3) (O s1.Y) (X Y gJ gK) (X gL gM gN) (X gO gP gQ) (X gR gS gT) (X gX gY gZ) (X hE hF hG) (O s1.q5) (O s1.U);have a:AT (λt=>t=14) c1 c1 wr (Xaa wr ((w:Nat)+1+1) 0 [X r v y,X z A C,X E F G,O s1.q3,O s1.Y,X Y gJ gK,X gL gM gN,X gO gP gQ,X gR gS gT,X gX gY gZ,X hE hF hG,O s1.q5,O s1.U]):=Xak iL.2.2.1 K _ _ _;have f:ϐ w w (Xaa wr ((w:Nat)+1+1) 0 [X r v y,X z A C,X E F G,O s1.q3,O s1.Y,X Y gJ gK,X gL gM gN,X gO gP gQ,X gR gS gT,X gX gY gZ,X hE hF hG,O s1.q5,O s1.U]):=Xal K _ _ iL.2.2.2;let⟨WE,d⟩:=ε (Xaa wr ((w:Nat)+1+1) 0 [X r v y,X z A C,X E F G,O s1.q3,O s1.Y,X Y gJ gK,X gL gM gN,X gO gP gQ,X gR gS gT,X gX gY gZ,X hE hF hG,O s1.q5,O s1.U]);rw[<-d]at g a f;have mB:Hid (Xih cd s l w (.returned (.tuple #[.agg #[X r v y,X z A C,X E F G,O s1.q3,O s1.Y,X Y gJ gK,X gL gM gN,X gO gP gQ,X gR gS gT,X gX gY gZ,X hE hF hG,O s1.q5,O s1.U],O (l.length:Nat),O 0])) WE):=Lh ⟨f,.inr ⟨mP.o,⟨l.length,s1,_,Nr _,c.o.2.2.2.1,c.o.2.2.2.2.1,c.o.2.2.2.2.2,.inl rfl,rfl,(jI.kp a (Xai λt f=>by omega)).q4 (Xbh.wf c.o.2.2.2.2.1.inv c.o.2.2.2.2.1.outs c.o.2.2.2.2.1.steps),⟨c1,jI.kp a (Xai λt f=>by omega),λb a=>by rw[c.o.2.1.old b (by have:=lS.o;omega)];exact lV.o b (by have:=lS.o;omega),λb a=>mM b (by rw[d,Xbe]at a;exact a)⟩⟩⟩⟩;have iV:=Lh g;have iP:=Lh d;clear d;go_wp2_with fail;rw[Xaf,<- iP.o];exact ϖ (Xbi (p:=6) (u:=7) (x:=8) rfl iV.o _ rfl rfl rfl) rfl mB.o
def Xg6.det{y:Trx}(e:Xg6 c s i x)(k:Xg6 c s i y):x=y:=by
 obtain⟨_,l,m,d,f,rfl⟩:=e;obtain⟨_,_,_,a,b,rfl⟩:=k;rw[d]at a;cases a;rw[Kb f b]
def Xbc.det{f v:Int}{a:Tra}(h:Xbc c s i x f v a)(k:Xbc c s i x f v b):a=b:=by
 rcases h with ⟨e,_,j,rfl⟩|⟨e,rfl⟩
 .rcases k with ⟨_,_,g,rfl⟩|⟨d,_⟩
  .rw [j.det g]
  rw[e]at d;cases d
 rcases k with ⟨d,_⟩|⟨_,rfl⟩
 .rw [e]at d;cases d
 rfl
def DoS.det{a:Tra}(n:DoS c s i x a)(k:DoS c s i x b):a=b:=by
 rcases n with ⟨e,h,m,j,rfl⟩|⟨e,h,m,j,rfl⟩|⟨e,h,m,j,rfl⟩|⟨e,h,j⟩
 .rcases k with ⟨_,_,l,g,rfl⟩|⟨_,f,_⟩|⟨d,_⟩|⟨d,_⟩
  .rw [Ri j g]
  .exact absurd h f
  .exact absurd e d
  exact absurd e d
 .rcases k with ⟨_,f,_⟩|⟨_,_,l,g,rfl⟩|⟨d,_⟩|⟨d,_⟩
  .exact absurd f h
  .rw [Ri j g]
  .exact absurd e d
  exact absurd e d
 .rcases k with ⟨d,_⟩|⟨d,_⟩|⟨_,_,l,g,rfl⟩|⟨_,f,_⟩
  .exact absurd d e
  .exact absurd d e
  .rw [Ri j g]
  exact absurd h f
 rcases k with ⟨d,_⟩|⟨d,_⟩|⟨_,f,_⟩|⟨_,_,g⟩
 .exact absurd d e
 .exact absurd d e
 .exact absurd f h
 exact j.det g
def GoS.det{l:Bool}{a:Tra}(m:GoS c s i x l a)(k:GoS c s i x l b):a=b:=by
 rcases m with ⟨f,g,rfl⟩|⟨f,g,j⟩|⟨f,j⟩
 .rcases k with ⟨_,_,rfl⟩|⟨_,e,_⟩|⟨d,_⟩
  .rfl
  .rw [g]at e;cases e
  rw[f]at d;cases d
 .rcases k with ⟨_,e,_⟩|⟨_,_,h⟩|⟨d,_⟩
  .rw [g]at e;cases e
  .exact j.det h
  rw[f]at d;cases d
 rcases k with ⟨d,_⟩|⟨d,_⟩|⟨_,h⟩
 .rw [f]at d;cases d
 .rw [f]at d;cases d
 exact j.det h
def gw.det{a:Tra}(n:gw c s i a)(k:gw c s i b):a=b:=by
 obtain⟨x,s2,m,rfl,p⟩:=n;obtain⟨_,_,h,rfl,j⟩:=k;rw[m]at h;cases h;rcases p with ⟨f,_,o,g⟩|⟨f,g⟩
 .rcases j with ⟨_,_,l,e⟩|⟨d,_⟩
  .obtain rfl:=o.det l
   rw[g.det e]
  exact absurd f d
 rcases j with ⟨d,_⟩|⟨_,e⟩
 .exact absurd d f
 rw[g.det e]
def Xll{l c:List α}{a b:α}(d:l++[a]=c++[b]):l=c/\a=b:=by
 have c:=List.append_inj' d rfl;exact⟨c.1,by simpa using c.2⟩
def Xbk.det(g:Xbk c s l s1):∀{s2},Xbk c s l s2->s1=s2:=by
 induction g with
 |nil=>
  intro s2 k;generalize b:([]:List Int)=l' at k;cases k with
  |nil=>rfl
  |snoc=>simp at b
 |@snoc d e _ _ _ _ j i=>
  intro s2 k;generalize a:d++[e]=l' at k;cases k with
  |nil=>simp at a
  |snoc f d h=>obtain⟨rfl,rfl⟩:=Xll a;obtain rfl:=i f;exact j.det h
inductive Xd2(c:AQ):Tra->List Int->Tra->Prop
 |nil (s:Tra):Xd2 c s [] s
 |cons {s s1 s2:Tra} {t:Int} {l:List Int} (hr:Xa1 s t=0) (hs:gw c s t.toNat s1) (h:Xd2 c s1 l s2):Xd2 c s (t::l) s2
def Xd2.path{a:Tra}(e:Xd2 c s l s'):∀(p:List Int),Xbk c a p s->∀i,i<=l.length->∃si,Xbk c a (p++l.take i) si/\(∀t,l[i]?=H t->Xa1 si t=0)/\(i=l.length->si=s'):=by
 induction e with
 |nil s=>intro p a i e;exact⟨s,by simpa using a,λt a=>by simp at a,λ_=>rfl⟩
 |@cons s s1 s2 t l d j a g=>
  intro p b i h;cases i with
  |zero=>exact⟨s,by simpa using b,λe a=>by simp at a;rw[<-a];exact d,λa=>by simp at a⟩
  |succ i=>let⟨si,a,e,f⟩:=g (p++[t]) (.snoc b d j) i (by simpa using h);exact⟨si,by simpa using a,λa b=>e a (by simpa using b),λa=>f (by simpa using a)⟩
def Xd2.run(h:Xd2 c s l s')(j:i<=l.length)(g:Xbk c s (l.take i) s1)(k:i=l.length\/∃t,l[i]?=H t/\Xa1 s1 t≠0):i=l.length/\s1=s':=by
 let⟨si,d,f,e⟩:=h.path [] .nil i j;obtain rfl:=g.det (by simpa using d);rcases k with rfl|⟨t,a,b⟩
 .exact ⟨rfl,e rfl⟩
 exact absurd (f t a) b
def Xbd.one(d:∀i s2,gw c s i s2->s2=s1)(a:Xbd c s s'):s'=s\/Xbd c s1 s':=by
 cases a with
 |nil=>exact .inl rfl
 |step e b a=>rw[d _ _ b]at a;exact .inr a
def gw.none(f:gw c s i s2):¬(s.q1[i]?=H Xat/\s.A[i]?=H []):=by
 rintro⟨d,g⟩;obtain⟨x,_,b,-,e⟩:=f;rw[d]at b;cases b;rcases e with ⟨_,_,⟨_,l,m,a,_⟩,_⟩|⟨a,_⟩
 .rw [g]at a;cases a
 exact a rfl
def gw.second(a:gw c s i s2)(b:s.q1=[Xat,x])(d:s.A[0]?=H [])(e:gw c s 1 s1):s2=s1:=by
 match i,a with
 |0,a=>exact absurd ⟨by rw[b];rfl,d⟩ a.none
 |1,a=>exact a.det e
 |i+2,d=>let⟨_,_,a,_⟩:=d;rw[b]at a;simp at a
def ctF:BK:=⟨⟨#[97,100,100]⟩,0,0,ϝ,[⟨4,0⟩,⟨1,1⟩,⟨15,0⟩,⟨5,0⟩,⟨10,0⟩]⟩
def ctC:AQ:=⟨[],1,[ctF]⟩
def ctX:Bi:=⟨⟨#[97,100,100]⟩,[]⟩
def Xpe:Gi ⟨#[97,100,100]⟩=ϑ:=by kernel_rfl
def Xnn:Dl ctC=ϝ:=by kernel_rfl
def Xmr:CQ ctC ctF:=Ro [0,1,2,1,0] rfl δ (by
 intro i a;have:(List.range 5).all (VP ctC ctF [0,1,2,1,0])=ϑ:=by kernel_rfl
 exact List.all_eq_true.1 this i (List.mem_range.2 a))
def Xjp:AU ctC:=by
 refine⟨⟨by simp[ctC],by simp[ctC],by simp[ctC],by simp[ctC],by simp[ctC],λi x b=>?_⟩,Xnn,λf a=>?_⟩
 .match i,b with
  |0,c=>
   obtain rfl:x=ctF:=by simpa[ctC]using c.symm
   exact⟨Xpe,by unfold CX;simp[ctF],ψ⟩
  |i+1,b=>simp[ctC]at b
 simp only[ctC,ϰ,List.not_mem_nil,or_false]at a;rcases a with rfl;exact Xmr
def Xdy:Bv ctC:=λb a=>by
 simp only[ctC,ϰ,List.not_mem_nil,or_false]at a;rcases a with rfl;simp[ctF]
def Xn8:AS ctC ctX 0=0:=by kernel_rfl
def Xkz:Bb ctC ⟨[0],[]⟩=ϑ:=by kernel_rfl
def Xfq:List (List Bi):=[[ctX],[ctX]]
def Xoe:∀l∈Xfq,∀a∈l,AS ctC a 0=0:=λl b a c=>by
 simp only[Xfq,ϰ,List.not_mem_nil,or_false,or_self]at b;subst b;simp only[ϰ,List.not_mem_nil,or_false]at c;subst c;exact Xn8
def Xo4:GO ctC ⟨[0],[]⟩ Xfq 9=0:=by
 unfold GO;rw[CZ Xjp,Xkz];rw[if_neg ψ,if_neg K,if_neg (by simp[Xfq]),if_neg (by simp[Xfq])];exact Gp Xoe
def ctR:AV:=⟨[⟨0,1,[],[]⟩],⟨1,0,0,0,0⟩,9,0,1⟩
def ctW(v:Int):AV:=⟨[⟨0,4,[],[]⟩],⟨2,0,0,v,0⟩,9,0,4⟩
def ctE:AV:=⟨[],EE 0,9,0,5⟩
def Xgz:Cf ctC (CF ctC ctX 9) ctR:=Cf.stop (r:=⟨1,0,0,0,0⟩) (m1:=⟨[⟨0,1,[],[]⟩],Eg,9,0,1⟩) κ
def Xj4:ED ctC ctR 0 (ctW 1):=
 .inr (.inl ⟨.inl rfl,[],⟨0,1,[],[]⟩,rfl,.go (m1:=⟨[⟨0,2,[],[0,1]⟩],Eg,9,0,2⟩) κ (.go (m1:=⟨[⟨0,3,[],[1]⟩],Eg,9,0,3⟩) κ (Cf.stop (r:=⟨2,0,0,1,0⟩) (m1:=⟨[⟨0,4,[],[]⟩],Eg,9,0,4⟩) κ))⟩)
def Xmz:ED ctC ctR 1 (ctW 2):=
 .inr (.inl ⟨.inl rfl,[],⟨0,1,[],[]⟩,rfl,.go (m1:=⟨[⟨0,2,[],[1,1]⟩],Eg,9,0,2⟩) κ (.go (m1:=⟨[⟨0,3,[],[2]⟩],Eg,9,0,3⟩) κ (Cf.stop (r:=⟨2,0,0,2,0⟩) (m1:=⟨[⟨0,4,[],[]⟩],Eg,9,0,4⟩) κ))⟩)
def Xg0{v n:Int}:ED ctC (ctW v) n ctE:=.inr (.inr ⟨rfl,Cf.stop (r:=EE 0) (m1:=⟨[],Eg,9,0,5⟩) κ⟩)
def ctO:CD:=⟨0,0,0,0,0⟩
def ctA(g k:Int)(x0 x1:Trx)(l0 l1:List Bi)(r0 r1:List CD)(b0 b1 e0 e1:List Int)(o:List (Int×Int))(a n:Int):Tra:=⟨⟨[g],[]⟩,[[k]],k,9,[x0,x1],[l0,l1],[r0,r1],[b0,b1],[e0,e1],o,a,n⟩
def Xob:Tra:=ctA 0 0 Xat Xat [ctX] [ctX] [] [] [] [] [] [] [] 0 0
def Xpi:Tra:=ctA 0 0 ⟨ctW 1,0,0,[(0,0)],[]⟩ Xat [ctX] [ctX] [] [] [0] [] [] [] [] 0 1
def Xph:Tra:=ctA 0 0 ⟨ctW 1,0,0,[(0,0)],[]⟩ ⟨ctW 1,0,0,[(0,0)],[]⟩ [ctX] [ctX] [] [] [0] [1] [] [] [] 0 2
def Xpg:Tra:=ctA 0 0 ⟨ctE,0,0,[(0,0)],[(0,0,1)]⟩ ⟨ctW 1,0,0,[(0,0)],[]⟩ [ctX] [ctX] [] [] [0] [1] [] [] [] 0 3
def Xpk:Tra:=ctA 0 0 ⟨ctE,0,0,[(0,0)],[(0,0,1)]⟩ ⟨ctE,0,0,[(0,0)],[(0,0,1)]⟩ [ctX] [ctX] [] [] [0] [1] [] [] [] 0 4
def Xpo:Tra:=ctA 1 1 Xat ⟨ctE,0,0,[(0,0)],[(0,0,1)]⟩ [] [ctX] [ctO] [] [0] [1] [4] [] [(0,0)] 0 5
def Xar:Tra:=ctA 1 1 Xat ⟨ctR,1,0,[],[]⟩ [] [ctX] [ctO] [] [0] [1] [4] [] [(0,0)] 1 6
def Xpl:Tra:=ctA 1 1 Xat ⟨ctW 2,1,0,[(0,0)],[]⟩ [] [ctX] [ctO] [] [0] [1] [4] [] [(0,0)] 1 7
def Xps:Tra:=ctA 1 1 Xat ⟨ctE,1,0,[(0,0)],[(0,0,2)]⟩ [] [ctX] [ctO] [] [0] [1] [4] [] [(0,0)] 1 8
def Xah:Tra:=ctA 2 2 Xat Xat [] [] [ctO] [ctO] [0] [1] [4] [8] [(0,0),(1,0)] 1 9
def Xk4:ff ⟨[0],[]⟩ 9 Xfq=Xob:=rfl
def Xpy:gw ctC Xob 0 Xpi:=⟨Xat,_,rfl,rfl,.inl ⟨rfl,⟨ctR,0,0,[],[]⟩,⟨ctX,[],ctR,rfl,Xgz,rfl⟩,.inr (.inr ⟨rfl,.inr (.inr (.inl ⟨δ,δ,ctW 1,Xj4,rfl⟩))⟩)⟩⟩
def Xp3:gw ctC Xpi 1 Xph:=⟨Xat,_,rfl,rfl,.inl ⟨rfl,⟨ctR,0,0,[],[]⟩,⟨ctX,[],ctR,rfl,Xgz,rfl⟩,.inr (.inr ⟨rfl,.inr (.inr (.inl ⟨δ,δ,ctW 1,Xj4,rfl⟩))⟩)⟩⟩
def Xqb:gw ctC Xph 0 Xpg:=⟨⟨ctW 1,0,0,[(0,0)],[]⟩,_,rfl,rfl,.inr ⟨δ,.inr (.inr ⟨rfl,.inr (.inr (.inl ⟨δ,δ,ctE,Xg0,rfl⟩))⟩)⟩⟩
def Xqa:gw ctC Xpg 1 Xpk:=⟨⟨ctW 1,0,0,[(0,0)],[]⟩,_,rfl,rfl,.inr ⟨δ,.inr (.inr ⟨rfl,.inr (.inr (.inl ⟨δ,δ,ctE,Xg0,rfl⟩))⟩)⟩⟩
def Xp8:gw ctC Xpk 0 Xpo:=⟨⟨ctE,0,0,[(0,0)],[(0,0,1)]⟩,_,rfl,rfl,.inr ⟨δ,.inr (.inl ⟨rfl,rfl,.inr ⟨rfl,rfl⟩⟩)⟩⟩
def Xp0:gw ctC Xpo 1 Xar:=⟨⟨ctE,0,0,[(0,0)],[(0,0,1)]⟩,_,rfl,rfl,.inr ⟨δ,.inr (.inl ⟨rfl,rfl,.inl ⟨rfl,⟨ctR,1,0,[],[]⟩,⟨ctX,[],ctR,rfl,Xgz,rfl⟩,rfl⟩⟩)⟩⟩
def Xp7:gw ctC Xar 1 Xpl:=⟨⟨ctR,1,0,[],[]⟩,_,rfl,rfl,.inr ⟨δ,.inr (.inr ⟨rfl,.inr (.inr (.inl ⟨δ,δ,ctW 2,Xmz,rfl⟩))⟩)⟩⟩
def Xp6:gw ctC Xpl 1 Xps:=⟨⟨ctW 2,1,0,[(0,0)],[]⟩,_,rfl,rfl,.inr ⟨δ,.inr (.inr ⟨rfl,.inr (.inr (.inl ⟨δ,δ,ctE,Xg0,rfl⟩))⟩)⟩⟩
def Xp2:gw ctC Xps 1 Xah:=⟨⟨ctE,1,0,[(0,0)],[(0,0,2)]⟩,_,rfl,rfl,.inr ⟨δ,.inr (.inl ⟨rfl,rfl,.inr ⟨rfl,rfl⟩⟩)⟩⟩
def Xi9:Xd2 ctC Xob [0,1,0,1,0,1] Xar:=.cons rfl Xpy (.cons rfl Xp3 (.cons rfl Xqb (.cons rfl Xqa (.cons rfl Xp8 (.cons rfl Xp0 (.nil _))))))
def Xfk(a:Xbd ctC Xar s'):s'.U<65536/\(enS s' s'.A.length=[]->s'=Xah):=by
 rcases Xbd.one (λi s2 b=>b.second rfl rfl Xp7) a with rfl|a
 .exact ⟨δ,λa=>by cases a⟩
 rcases Xbd.one (λi s2 b=>b.second rfl rfl Xp6) a with rfl|a
 .exact ⟨δ,λa=>by cases a⟩
 rcases Xbd.one (λi s2 b=>b.second rfl rfl Xp2) a with rfl|a
 .exact ⟨δ,λa=>by cases a⟩
 cases a with
 |nil=>exact⟨δ,λ_=>rfl⟩
 |@step _ _ _ i d b a=>
  match i,b with
  |0,b=>exact absurd ⟨rfl,rfl⟩ b.none
  |1,b=>exact absurd ⟨rfl,rfl⟩ b.none
  |i+2,b=>let⟨_,_,c,_⟩:=b;cases c
def Xm7:Xba ctC Xob:=by
 rw[<-Xk4];refine⟨Xjn Xjp (Ik.1 Xkz) K Xoe (λl a=>?_),Xho _ _ _,δ,δ,δ⟩;simp only[Xfq,ϰ,List.not_mem_nil,or_false,or_self]at a;subst a;simp
def Xbk.pre(b:Xbk c s l s1):∀j,j<l.length->∃sj t,Xbk c s (l.take j) sj/\l[j]?=H t/\Xa1 sj t=0:=by
 induction b with
 |nil=>intro j b;simp at b
 |@snoc b m k g n o f d=>
  intro j i;by_cases a:j<b.length
  .obtain ⟨sj,t,f,g,h⟩:=d j a
   exact⟨sj,t,by rw[List.take_append_of_le_length K];exact f,by rw[Al a];exact g,h⟩
  have e:j=b.length:=by simp at i;omega
  subst e;exact⟨k,m,by simpa using n,ψ,o⟩
def Xl4(r:i<=l.length)(n:k<=l.length)(d:Xbk c s (l.take i) s1)(b:Xbk c s (l.take k) s2)(e:i=l.length\/∃t,l[i]?=H t/\Xa1 s1 t≠0)(q:k=l.length\/∃t,l[k]?=H t/\Xa1 s2 t≠0):i=k/\s1=s2:=by
 have m:∀{i k:Nat}{s1 s2:Tra},i<k->k<=l.length->Xbk c s (l.take i) s1->Xbk c s (l.take k) s2->(i=l.length\/∃t,l[i]?=H t/\Xa1 s1 t≠0)->False:=fun {i k s1 s2} o n d b e=>by
  let⟨sj,t,g,h,p⟩:=b.pre i (by rw[List.length_take];omega);rw[List.take_take,Nat.min_eq_left K]at g;rw[List.getElem?_take_of_lt o]at h;obtain rfl:=d.det g;rcases e with e|⟨_,f,j⟩
  .omega
  rw[h]at f;cases f;exact j p
 rcases Nat.lt_trichotomy i k with a|a|a
 .exact (m a n d b e).elim
 .subst a;exact⟨rfl,d.det b⟩
 exact(m a r b d q).elim
def gw.has(d:Xbh c s)(g:gw c s i s'):∃f l,s.A[i]?=H (f::l):=by
 obtain⟨x,s2,m,-,⟨_,_,j,_⟩|⟨n,_⟩⟩:=g
 .obtain ⟨g,l,_,f,_⟩:=j
  exact⟨g,l,f⟩
 obtain⟨l,_,b,e,a⟩:=d.row m;have h:=d.all _ _ _ _ _ _ a;rcases h.act with ⟨rfl,_⟩|⟨_,k,_⟩
 .exact absurd rfl n
 cases l with
 |nil=>exact absurd rfl k
 |cons d l=>exact⟨d,l,a.l⟩
def Xbd.line{a:Tra}(n:Xbd c s a):Xbh c s->∀{b},Xbd c s b->Xbd c a b\/Xbd c b a:=by
 induction n with
 |nil s=>intro _ b k;exact .inl k
 |@step s s1 s2 i h e m u=>
  intro f b k;cases k with
  |nil=>exact .inr (.step h e m)
  |@step _ m _ j q g t=>
   have r:i=j:=by
    let⟨_,l,o⟩:=gw.has f e;let⟨_,_,p⟩:=gw.has f g;rcases Nat.lt_trichotomy i j with d|d|d
    .have:=q i d;rw[o]at this;cases this
    .exact d
    have:=h j d;rw[p]at this;cases this
   subst r;obtain rfl:=e.det g;exact u (f.stepS e) t
def Xbd.up{a:Tra}(d:Xbd c a b):Xbh c a->a.U<=b.U:=by
 induction d with
 |nil s=>exact λ_=>Int.le_refl _
 |step g e d f=>exact λd=>by have:=f (d.stepS e);have:=(gw.law d e).U;omega
def Xbd.stuck{a:Tra}(j:Xbd c a b)(g:Xbh c a)(m:b.U<=65536)(d:enS a a.A.length=[]\/65536<=a.U):a=b:=by
 cases j with
 |nil=>rfl
 |@step _ j _ i m f k=>
  exfalso;rcases d with d|d
  .obtain ⟨_,l,e⟩:=gw.has g f
   have j:=(Ll e);have h:(i:Int)∈enS a a.A.length:=by unfold enS;rw[List.mem_map];exact⟨i,List.mem_filter.2 ⟨List.mem_range.2 j,by unfold Xdp;rw[Xau e];simp⟩,rfl⟩
   rw[d]at h;cases h
  have:=k.up (g.stepS f);have:=(gw.law g f).U;omega
def Xib{a:Tra}(i:Xbh c s)(h:Xbd c s a)(g:Xbd c s b)(f:Xba c a)(e:Xba c b)(ta:enS a a.A.length=[]\/65536<=a.U)(tb:enS b b.A.length=[]\/65536<=b.U):a=b:=by
 rcases h.line i g with d|d
 .exact d.stuck f.inv e.steps ta
 exact(d.stuck e.inv f.steps tb).symm
def Xjb(x:Bi):Bool:=decide (100<(x.proc.size:Int))||decide (60<(x.args:Int))
def Xfd(l:List Bi):Bool:=((decide (6<(l:Int))&&decide ((l:Int)<=2000))||decide (3000<(l:Int)))||l.any Xjb
def Xf6(l:List (List Bi)):Bool:=((decide (4<(l:Int))&&decide ((l:Int)<=8))||decide (20<(l:Int)))||l.any Xfd
def Xh9:An 24:=λ_ _=>by kernel_rfl
def Xip:An 22:=λ_ _=>by kernel_rfl
def Xlo(x:Bi)(a:ϒ)(B:Nat)(w:Ϣ)(d:Gh B w a x):ϙ prog 24 #[a] w (PO (Xjb x) w):=by
 obtain⟨_,rfl,b,_⟩:=d;obtain⟨_,_,rfl,c⟩:=b.fr;unfold Xjb;let⟨_,a⟩:=ε x.args.length;rw[<-a]at c ⊢;clear a;by_cases e:(x.proc.size:Int)<=100;all_goals
  go_in;go_wp2;go_ret;exact Gx (by simp<;>omega) (AA _ _)
def Xmw(B:Nat)(w:Ϣ):∀(x:Bi)(a:Ϣ)(b:ϒ),ϐ w w a->Gh B a b x->ϙ prog 24 (#[b]++#[]) a (λe c=>e=.returned (.bool (Xjb x))/\ϐ a a c):=λx a b _ c=>Xlo x b B a c
def Xl9(l:List Bi)(lv:ϒ)(B:Nat)(w:Ϣ)(k:B<=w)(hl:Nv B w lv l):ϙ prog 22 #[lv] w (PO (Xfd l) w):=by
 have h:=Lh hl;obtain⟨_,_,rfl,f⟩:=hl.fr;have a:=@Lh (Xfd l=(((decide (6<(l:Int))&&decide ((l:Int)<=2000))||decide (3000<(l:Int)))||l.any Xjb)) rfl;let⟨n,b⟩:=ε l.length;rw[<-b]at a f h ⊢;clear b;by_cases g:(6<(n:Int)/\(n:Int)<=2000)
 .obtain ⟨_,_⟩:=g
  go_in;go_wp2;go_ret;exact Gx (by rw[a.o];simp<;>omega) Br
 by_cases j:3000<(n:Int)
 .have b:6<(n:Int):=K
  have d:¬(n:Int)<=2000:=K;go_in;go_wp2;go_ret;exact Gx (by rw[a.o];simp<;>omega) Br
 have i:=@Lh (Xfd l=l.any Xjb) (by
  rw[a.o,show(decide (6<(n:Int))&&decide ((n:Int)<=2000))=ϝ by simp;omega,show decide (3000<(n:Int))=ϝ by simp;omega];rfl)
 rcases(show ¬6<(n:Int)\/(6<(n:Int)/\¬(n:Int)<=2000) by omega)with b|⟨b,d⟩
 all_goals
  go_in;go_wp2_with fail;refine(Fb 24 #[] Xjb l _ B w Xh9 k h.o (Xmw B w)).mono ?_;rintro e b⟨rfl,a⟩;have c:=Lh a;go_wp2;go_ret;exact Gx i.o.symm c.o
def Xnw(B:Nat)(w:Ϣ)(f:B<=w):∀(x:List Bi)(a:Ϣ)(b:ϒ),ϐ w w a->Nv B a b x->ϙ prog 22 (#[b]++#[]) a (λe c=>e=.returned (.bool (Xfd x))/\ϐ a a c):=λx a b c d=>Xl9 x b B a (Nt f c.size) d
def Xjt(l:List (List Bi))(lv:ϒ)(B:Nat)(w:Ϣ)(i:B<=w)(hl:AE B w 1 (Bg 2 (DA B) B) lv l):ϙ prog 8 #[lv] w (PO (Xf6 l) w):=by
 have h:=Lh hl;obtain⟨_,_,rfl,f⟩:=hl.fr;have a:=@Lh (Xf6 l=(((decide (4<(l:Int))&&decide ((l:Int)<=8))||decide (20<(l:Int)))||l.any Xfd)) rfl;let⟨n,b⟩:=ε l.length;rw[<-b]at a f h ⊢;clear b;by_cases g:(4<(n:Int)/\(n:Int)<=8)
 .obtain ⟨_,_⟩:=g
  go_in;go_wp2;go_ret;exact Gx (by rw[a.o];simp<;>omega) Br
 by_cases k:20<(n:Int)
 .have b:4<(n:Int):=K
  have d:¬(n:Int)<=8:=K;go_in;go_wp2;go_ret;exact Gx (by rw[a.o];simp<;>omega) Br
 have j:=@Lh (Xf6 l=l.any Xfd) (by
  rw[a.o,show(decide (4<(n:Int))&&decide ((n:Int)<=8))=ϝ by simp;omega,show decide (20<(n:Int))=ϝ by simp;omega];rfl)
 rcases(show ¬4<(n:Int)\/(4<(n:Int)/\¬(n:Int)<=8) by omega)with b|⟨b,d⟩
 all_goals
  go_in;go_wp2_with fail;refine(FJ 22 #[] Xfd l _ B w Xip i h.o (Xnw B w i)).mono ?_;rintro e b⟨rfl,a⟩;have c:=Lh a;go_wp2;go_ret;exact Gx j.o.symm c.o
def Xj5{l:List (List Bi)}(b:Xf6 l=ϝ):∀x∈l,∀a∈x,a.args.length<=60:=by
 unfold Xf6 at b;simp only[Bool.or_eq_false_iff,List.any_eq_false]at b;intro x c e d;have a:=b.2 x c;unfold Xfd at a;simp only[Bool.or_eq_true,not_or,List.any_eq_true,not_exists,not_and]at a;have b:=a.2 e d;unfold Xjb at b;simp only[Bool.or_eq_true,decide_eq_true_eq,not_or]at b;omega
def Xlh(c:AQ)(w:Ϣ)(e:Ending)(w':Ϣ):Prop:=∃b,e=.returned (.bool b)/\(b=ϝ->∀y∈c.q0,y.q9.length<=600)/\ϐ w w w'
def Xh1(c:AQ)(d:ϒ)(B:Nat)(w:Ϣ)(P:B<=w)(C:BF B w d c):ϙ prog 6 #[d] w (Xlh c w):=by
 obtain⟨_,_,rfl,s,m,_⟩:=C;obtain⟨Q,R,rfl,J⟩:=s.fr;obtain⟨S,T,rfl,E⟩:=m.fr;have N:=Lh m;let⟨fn,e⟩:=ε c.H.length;let⟨l,d⟩:=ε c.q0.length;rw[<-d]at E N ⊢;rw[<-e]at J ⊢;have bG:=Lh d;let⟨W,a⟩:=ε (w.alloc (χ #[X Q fn R,O c.G,X S l T] 25));have q:=Lh (bl1 a);have m:=Xao a;have bH:=Ω3 m;clear d e;go_in;go_upto_region 1 with fail;rw[<-a];clear a;go_wp2_with fail;go_loopw[3,9] (λn i wr=>∃k d:Nat,k<=l/\i=O k/\n=O d/\d<=600/\Hid (∀m∈c.q0.take k,m.q9.length<=d)/\Hid (ϐ W W wr)) (λ_ i _=>l-(intOf i).toNat);exact⟨0,0,Nat.zero_le _,rfl,rfl,K,Lh ψ,Lh Br⟩;obtain⟨k,v,_,rfl,rfl,_,bD,g⟩:=hrel;have d:=Nt P q.o.size;have L:=Lh ((q.o.mono P).trans (g.o.mono d));have s2:=AB g.o bH.2.2;by_cases bK:k<l
 .obtain ⟨f,e⟩:=Ϡ c.q0 k (by have:=bG.o;omega)
  rcases N.o.funs L.o with ⟨a0,u,z,_,_,_,j⟩;obtain⟨rfl,-,rfl⟩:S=a0/\l=c.q0.length/\T=u:=by simpa using z
  rcases j with r|⟨b,o,rfl,_,j⟩
  .rw [r]at e;simp at e
  let⟨_,_,_,_,⟨_,F,t⟩,M⟩:=j k f e;obtain⟨_,_,rfl,y⟩:=t.fr;have bE:=Lh e;let⟨p,a⟩:=ε f.q9.length;rw[<-a]at F y;have bF:=Lh a;have:=In k;have:(k:Int)<(l:Int):=K;have:=M.1;clear a;by_cases bJ:(f.name.size:Int)<=100;rotate_left
  .go_wp2
   go_ret;exact⟨ϑ,rfl,ψ,(q.o.th g.o).th (AA _ _)⟩
  by_cases bI:(v:Int)+(p:Int)<=600;rotate_left
  .go_wp2
   go_ret;exact⟨ϑ,rfl,ψ,(q.o.th g.o).th (AA _ _)⟩
  have Y:Hid (∀h∈c.q0.take (k+1),h.q9.length<=v+p):=Lh (λh a=>by
   rw[List.take_add_one,bE.o]at a;rcases List.mem_append.1 a with a|a
   .have:=bD.o h a;omega
   simp at a;subst a;have:=bF.o;omega)
  go_wp2;go_roundw;exact⟨k+1,v+p,K,by go_num,by go_num,K,Y,Lh (g.o.th (AA _ _))⟩;simp[intOf];omega
 obtain rfl:k=l:=K;have V:=@Lh (∀d∈c.q0,d.q9.length<=600) (by
  have e:=bG.o;intro d a;have:=bD.o d (by rw[e,List.take_length];exact a);omega)
 have G:=Lh (q.o.th g.o);have:=AB g.o bH.1;by_cases A:(fn:Int)<=20;all_goals
  go_wp2;go_ret;exact⟨_,rfl,λ_=>V.o,G.o⟩
def lq(l:List Int)(e f:ϒ)(A B:Nat)(w:Ϣ)(c:AE A w 1 Aj e l)(b:AE B w 1 Aj f l):ϙ prog 20 #[e,f] w (YA w):=by
 obtain⟨_,_,rfl,s⟩:=c.frm;obtain⟨_,_,rfl,_⟩:=b.frm;have j:=Lh c;have o:=Lh b;obtain⟨d,a⟩:=ε l.length;rw[<-a]at s j o ⊢;have y:=Lh a;clear c b a;go_in;go_wp2_with fail;go_loopw[13] (λi wr=>∃k:Nat,k<=d/\i=O k/\Hid (∃n,wr=w.drewN n)) (λi _=>d-(intOf i).toNat);exact⟨0,Nat.zero_le _,rfl,Lh ⟨0,rfl⟩⟩;obtain⟨k,_,rfl,m⟩:=hrel;obtain⟨n,a⟩:=m.o;by_cases z:k<d
 .obtain ⟨x,b⟩:=Ϡ l k (by have:=y.o;omega)
  obtain⟨q,r,p,_,g⟩:=j.o.elem b;obtain⟨u,v,h,_,c⟩:=o.o.elem b;subst p h;have c1:wr.cell? (I q (r+k))=H (O x):=by rw[a];have:=g.1;rw[Nat.mul_one]at this;exact this
  have c2:wr.cell? (I u (v+k))=H (O x):=by rw[a];have:=c.1;rw[Nat.mul_one]at this;exact this
  have:=In k;have:(k:Int)<(d:Int):=K;have t:=Lh a;clear b g c m a;go_wp2_with fail;go_quiet(fail);go_wp2;go_roundw;exact⟨k+1,K,by go_num,Lh ⟨_,by rw[t.o,World.drewN_drewN]⟩⟩;simp[intOf];omega
 go_wp2;go_ret;exact⟨rfl,n,rfl⟩
def Xlv(fs:List (Nat×Oper))(c:List Nat->Act->Ϣ->Prop)(t:c [] a w)(p:(fs.map (·.1)).Nodup)
  (s:∀b∈fs,∀done a w,b.1∉done->DE b (fs.filter (λq=>!done.contains q.1))=ϑ->c done a w->b.2.wp P a w (λh w'=>(S w'\/(fin&&b.1+1==n)=ϑ)/\c (b.1::done) h w') (NoPanic Q))
  (i:∀done a w,(∀b∈fs,b.1∈done)->c done a w->Q .normal a w):Dm P n Q S fin fs a w:=by
 have r:∀(k:Nat)(done:List Nat)(a:Act)(w:Ϣ),(fs.filter (λq=>!done.contains q.1)).length=k->c done a w->Gu P n Q S fin k (fs.filter (λq=>!done.contains q.1)) a w:=by
  intro k;induction k with
  |zero=>
   intro done a w b h;have c:=List.eq_nil_of_length_eq_zero b;refine⟨c,i done a w (λb i=>?_) h⟩;by_cases f:b.1∈done
   .exact f
   have:b∈fs.filter (λq=>!done.contains q.1):=List.mem_filter.2 ⟨i,by simpa using f⟩;rw[c]at this;cases this
  |succ k o=>
   intro done a w d m;refine .inr ⟨λe=>(by rw[e]at d;cases d),λx g l=>?_⟩;let⟨j,b⟩:=List.mem_filter.1 g;have i:x.1∉done:=by simpa using b
   have h:((fs.filter (λq=>!done.contains q.1)).map (·.1)).Nodup:=List.Nodup.sublist (List.filter_sublist.map _) p;have c:(fs.filter (λq=>!done.contains q.1)).filter (λq=>q.1 !=x.1)=fs.filter (λq=>!(x.1::done).contains q.1):=by rw[List.filter_filter];refine List.filter_congr (λq _=>?_);by_cases e:q.1=x.1<;>simp[e]
   have b:=Px h g;rw[c,d]at b;refine Oper.wp_mono (λd w' b=>⟨b.1,?_⟩) (s x j done a w i l m);rw[c];exact o _ d w' K b.2
 have:=r _ [] a w rfl t;rw[List.filter_eq_self.2 (λb _=>by simp)]at this;exact⟨this⟩
def Xpp{d:Act->Ϣ->Prop}(t:TypeId)(x y:Nat)(p:o.op=.store t (.tmp x) (.tmp y))(m:o.dst=none)(b j:Nat)(c:Option Addr)(n cap:Nat)(g:a.eval (.tmp x)=.pointer (H (I b j)))(k:a.eval (.tmp y)=X c n cap){u:ϒ}(l:w.cell? (I b j)=H u)(i:w.frozen? (I b j)=ϝ)
  (h:∀w,(sizeOf t).run prog w=.ok 1 w) (f:d a (w.setCell (I b j) (X c n cap))):o.wp prog a w d Q:=by
 have e:a.tmps[x]?.getD undef=.pointer (H (I b j)):=by rw[<-Array.getD_eq_getD_getElem?];exact g
 have d:a.tmps[y]?.getD undef=X c n cap:=by rw[<-Array.getD_eq_getD_getElem?];exact k
 unfold Oper.wp;simp[go_sem,execOp,p,m,e,d,l,i,h];exact f
def Xhm{c:A1}{d:Array ϒ}{x0:α}{f:α->List Xad}(p:Ao w c (20+j) e sz v n (madeCells d (n*sz)).toList)(z:d.size=sz)(b:∀x,(f x).length=sz)(s:0<sz)(y:∀(k:Nat)(x:Xad),(f x0)[k]?=H x->∀a,X6 w c a d[k]! x):Xam w c j v e sz ((ϱ n x0).flatMap f):=by
 refine⟨n,_,p,by rw[Xap b,List.length_replicate,Array.length_toList,size_madeCells],λi u x g p=>?_⟩;have q:i<n*sz:=by
  have:=(Ll p)
  rwa[Xap b,List.length_replicate]at this
 have t:=Nat.div_lt_of_lt_mul (by rw[Nat.mul_comm];exact q);have r:i%sz<sz:=Nat.mod_lt _ s;have s:=Nat.div_add_mod' i sz;let⟨a,o⟩:=Ϡ (f x0) (i%sz) (by rw[b];exact r);have m:=Xaq b (l:=ϱ n x0) (i:=i/sz) (x:=x0) (by rw[List.getElem?_replicate,if_pos t]) (i%sz) a o;rw[s,p]at m;cases m;rw[Array.getElem?_toList]at g;unfold madeCells at g;rw[Array.getElem?_map,Array.getElem?_range,if_pos q]at g;have h:H (d[i%d.size]!)=H u:=g;rw[z]at h;cases h;exact y _ _ o _
def Xo5:Array ϒ:=#[D,O 0,O 0,O 0,O 0,O 0,O 0,O 0,O 0,O 0,O 0,D,D]
def Xi5{c:A1}(r:Ao w c 25 62 13 v n (madeCells Xo5 (n*13)).toList):Xam w c 5 v 62 13 ((ϱ n Xat).flatMap Xaz):=by
 refine Xhm (j:=5) r rfl (λ_=>rfl) K (λk x r s=>?_)
 match k,r with
 |0,a=>cases a;exact⟨Xan _,Xkj⟩
 |1,b=>cases b;rfl
 |2,d=>cases d;rfl
 |3,e=>cases e;rfl
 |4,f=>cases f;rfl
 |5,g=>cases g;rfl
 |6,h=>cases h;rfl
 |7,i=>cases i;rfl
 |8,l=>cases l;rfl
 |9,m=>cases m;rfl
 |10,o=>cases o;rfl
 |11,p=>cases p;exact⟨0,Ao.nil _ _ _ _ _⟩
 |12,q=>cases q;exact⟨0,Ao.nil _ _ _ _ _⟩
 |k+13,a=>simp[Xaz,Xcg]at a
def Xcq{c:A1}{a:TypeId}(x0:α){f:α->Xad}(b:f x0=.q a sz [])(a:Ao w c (20+j) e 1 v n (madeCells #[D] (n*1)).toList):Xam w c j v e 1 ((ϱ n x0).map f):=by
 rw[Xj0];refine Xhm a rfl (λ_=>rfl) K (λk x a d=>?_)
 match k,a with
 |0,a=>simp at a;rw[<-a,b];exact⟨0,Ao.nil _ _ _ _ _⟩
 |k+1,a=>simp at a
def nsC(n i:Nat):Xae:=if i=1 then .r 62 13 ((ϱ n Xat).flatMap Xaz)else if i=3 then .r 127 1 ((ϱ n ([]:List CD)).map Xg3)else .r 22 1 ((ϱ n ([]:List Int)).map Xa3)
def nsJ(i:Nat):Nat:=if i=1 then 5 else if i=3 then 7 else if i=5 then 8 else 9
def nsS(s:Tra)(n:Nat)(done:List Nat):Tra:={s with q1:=if 9∈done then ϱ n Xat else s.q1,results:=if 11∈done then ϱ n []else s.results,Z:=if 13∈done then ϱ n []else s.Z,P:=if 15∈done then ϱ n []else s.P}
def Xo7(a:j<16):Xd5 (λt=>t=1) j (nsC n i):=by
 unfold nsC;split
 .exact ⟨by show ¬_=_;omega,Xa5 (λi=>by show ¬_=_;omega)⟩
 split
 .exact ⟨by show ¬_=_;omega,Xa5 (λi=>by show ¬_=_;omega)⟩
 exact⟨by show ¬_=_;omega,Xa5 (λi=>by show ¬_=_;omega)⟩
def Xo8(i:Nat):nsJ i<16:=by unfold nsJ;split;omega;split;omega;split<;>omega
structure NsI(q n:Nat)(s:Tra)(W:Ϣ)(C0:A1)(bo:Nat)(a0:Act)(done:List Nat)(a:Act)(w:Ϣ)(f:Nat->ϒ)(c:A1):Prop where
 act:a=GS a0 (λi=>q+i) f (done.filter λi=>decide (i<8))
 nd:done.Nodup
 sub:∀i∈done,i∈[1,3,5,7,9,11,13,15]
 st:SAt w c bo (nsS s n done)
 chg:AT (λt=>t=1) C0 c W w
 fact:∀i∈done,i<8->Xay w c (nsJ i) (f i) (nsC n i)/\∃va,f i=X va n n
def Xfv(q n:Nat)(s:Tra)(W:Ϣ)(C0:A1)(bo:Nat)(a0:Act)(done:List Nat)(a:Act)(w:Ϣ):Prop:=∃f c,NsI q n s W C0 bo a0 done a w f c
def Xdb{x:Xae}:Xd5 NO j x:=by
 cases x with
 |p x=>trivial
 |r e sz a=>exact⟨no _,λi x _=>by cases x<;>first|trivial|exact no _⟩
 |i P=>trivial
def Xfv.eval{c:A1}(g:NsI q n s W C0 bo a0 done a w f c){d:Nat}(b:∀i∈[1,3,5,7],q+i≠d):a.eval (.tmp d)=a0.eval (.tmp d):=by
 rw[g.act];refine SA (λi h=>?_);let⟨j,k⟩:=List.mem_filter.1 h;have e:=g.sub i j;have:i<8:=by simpa using k
 simp only[ϰ,List.mem_nil_iff,or_false]at e;rcases e with rfl|rfl|rfl|rfl|rfl|rfl|rfl|rfl
 .exact b _ ψ
 .exact b _ ψ
 .exact b _ ψ
 .exact b _ ψ
 all_goals omega
def Xk8(h:Xfv q n s W C0 bo a0 done a w)(u:i∉done)(F:i∈[1,3,5,7]){z:ϒ}{bytes:Nat}(G:o.op=.makeSlice t (.tmp (q+(i-1))) (.tmp (q+(i-1))))(J:o.dst=H (q+i))(E:prog.underlying t=H (.slice e))(C:(prog.info? e).map (λi=>(i.zero,i.size,i.bytes))=H (H z,sz,bytes))(y:bytes<=1024)
  (A:a0.eval (.tmp (q+(i-1)))=O (n:Int)) (x:n<=1000) (hF:∀w' d v,Ao w' d (20+nsJ i) e sz v n (madeCells z.cells (n*sz)).toList->Xay w' d (nsJ i) v (nsC n i)):o.wp prog a w (λd w'=>(True\/bb=ϑ)/\Xfv q n s W C0 bo a0 (i::done) d w') Q:=by
 let⟨f,c,h⟩:=h;have d:=F;simp only[ϰ,List.mem_nil_iff,or_false]at d;refine X4 (q+(i-1)) t e G E C y n ((Xfv.eval h (λj b=>?_)).trans A) x (λw' x d=>?_)
 .simp only[ϰ,List.mem_nil_iff,or_false]at b
  omega
 obtain⟨p,r,M,N⟩:=d c (20+nsJ i) h.st.hi;rw[J];have B:∀j∈done,(if j=i then Value.slice (H (I w 0)) n n else f j)=f j:=λj b=>if_neg (λe=>u (by rw[<-e];exact b));refine⟨.inl trivial,λj=>if j=i then X (H (I w 0)) n n else f j,p,?_,List.nodup_cons.2 ⟨u,h.nd⟩,λj b=>?_,?_,h.chg.trans (r.mono (λt m=>absurd m (no t)) K),λj b L=>?_⟩
 .have d:(i::done).filter (λi=>decide (i<8))=i::done.filter (λi=>decide (i<8)):=by rw[List.filter_cons,if_pos φ]
  rw[d];show _=(GS a0 (λi=>q+i) (λj=>if j=i then X (H (I w 0)) n n else f j) (done.filter λi=>decide (i<8))).put (H (q+i)) (if i=i then X (H (I w 0)) n n else f i);rw[if_pos rfl,K4 (l:=done.filter λi=>decide (i<8)) (g:=f) (λj b=>B j (List.mem_filter.1 b).1),h.act]
 .rcases ϰ.1 b with rfl|b
  .simp only[ϰ,List.mem_nil_iff,or_false];omega
  exact h.sub j b
 .have u:nsS s n (i::done)=nsS s n done:=by
   unfold nsS;have d:∀k,8<k->(k∈i::done↔k∈done):=λk x=>by simp[show k≠i by omega]
   simp only[d 9 K,d 11 K,d 13 K,d 15 K]
  rw[u];exact h.st.chg r M (λt m=>absurd m (no t))
 rcases ϰ.1 b with rfl|b
 .show Xay w' p (nsJ j) (if j=j then _ else _) _/\∃d,(if j=j then _ else _)=_
  rw[if_pos rfl];exact⟨hF _ _ _ N,_,rfl⟩
 obtain⟨d,m⟩:=h.fact j b L;show Xay w' p (nsJ j) (if j=i then _ else _) _/\∃h,(if j=i then _ else _)=_;rw[B j b];exact⟨d.kp r Xdb,m⟩
def Xkv(d:Xfv q n s W C0 bo a0 done a w)(B:i+8∉done)(h:i∈[1,3,5,7])(g:i∈done)(x:Nat)(z:o.op=.store t (.tmp x) (.tmp (q+i)))(v:o.dst=none)(A:∀w,(sizeOf t).run prog w=.ok 1 w)
  (e:q+7<x) (u:a0.eval (.tmp x)=.pointer (H (I bo (nsJ i)))) (e:q+7<a0.tmps.size) (y:(Xag (nsS s n done)).set (nsJ i) (nsC n i)=Xag (nsS s n ((i+8)::done))) (m:∃e,(Xag (nsS s n done))[nsJ i]?=H e):o.wp prog a w (λe w'=>(True\/bb=ϑ)/\Xfv q n s W C0 bo a0 ((i+8)::done) e w') Q:=by
 let⟨f,c,d⟩:=d;have e:=h;simp only[ϰ,List.mem_nil_iff,or_false]at e;let⟨h,k,e⟩:=d.fact i g K;have r:a.eval (.tmp (q+i))=X k n n:=by show a.tmps.getD (q+i) undef=_;have:=NB (a:=a0) (sl:=λi=>q+i) (f:=f) (i:=i) (l:=done.filter λi=>decide (i<8)) (λj _ b=>by have:q+j=q+i:=b;omega) (List.mem_filter.2 ⟨g,by simp;omega⟩) (by show q+i<_;omega);rw[<-d.act]at this;rw[Array.getD_eq_getD_getElem?,show a.tmps[q+i]?=H (f i)from this,e];rfl
 let⟨u0,g⟩:=m;obtain⟨_,m,-⟩:=X5.at0 (show X5 w c _ bo (Xag (nsS s n done))from d.st) g;rw[e]at h;let⟨e,cg⟩:=X5.put0 (show X5 w c _ bo (Xag (nsS s n done))from d.st) h;refine Xpp t x (q+i) z v bo (nsJ i) k n n ((Xfv.eval d (λj b=>?_)).trans u) r m (d.st.frz _) A ⟨.inl trivial,f,c,?_,List.nodup_cons.2 ⟨B,d.nd⟩,λj b=>?_,SAt.of e y,d.chg.trans cg,λj b p=>?_⟩
 .simp only[ϰ,List.mem_nil_iff,or_false]at b
  omega
 .rw [d.act,List.filter_cons,if_neg ψ]
 .rcases ϰ.1 b with rfl|b
  .simp only[ϰ,List.mem_nil_iff,or_false];omega
  exact d.sub j b
 rcases ϰ.1 b with rfl|b
 .omega
 obtain⟨e,g⟩:=d.fact j b p;exact⟨e.kp cg (Xo7 (Xo8 j)),g⟩
def Xmq{p u x o9 z A B:Oper}(hs:SAt W C0 bo s)(L:n<=1000)(P:q+7<a0.tmps.size)
  (S:p.op=.makeSlice 35 (.tmp q) (.tmp q)/\p.dst=H (q+1)) (T:o3.op=.makeSlice 36 (.tmp (q+2)) (.tmp (q+2))/\o3.dst=H (q+3)) (V:u.op=.makeSlice 34 (.tmp (q+4)) (.tmp (q+4))/\u.dst=H (q+5)) (Y:x.op=.makeSlice 34 (.tmp (q+6)) (.tmp (q+6))/\x.dst=H (q+7))
  (aH:o9.op=.store 35 (.tmp (q+8)) (.tmp (q+1))/\o9.dst=none) (aI:z.op=.store 36 (.tmp (q+9)) (.tmp (q+3))/\z.dst=none) (aJ:A.op=.store 34 (.tmp (q+10)) (.tmp (q+5))/\A.dst=none) (aK:B.op=.store 34 (.tmp (q+11)) (.tmp (q+7))/\B.dst=none)
  (G:waits (9,o9) (1,p)=ϑ/\waits (11,z) (3,o3)=ϑ/\waits (13,A) (5,u)=ϑ/\waits (15,B) (7,x)=ϑ)
  (E:a0.eval (.tmp q)=O (n:Int)/\a0.eval (.tmp (q+2))=O (n:Int)/\a0.eval (.tmp (q+4))=O (n:Int)/\a0.eval (.tmp (q+6))=O (n:Int))
  (F:a0.eval (.tmp (q+8))=.pointer (H (I bo 5))/\a0.eval (.tmp (q+9))=.pointer (H (I bo 7))/\a0.eval (.tmp (q+10))=.pointer (H (I bo 8))/\a0.eval (.tmp (q+11))=.pointer (H (I bo 9)))
  (aL:∀(f:Nat->ϒ)(c:A1)(w:Ϣ),SAt w c bo {s with q1:=ϱ n Xat,results:=ϱ n [],Z:=ϱ n [],P:=ϱ n []}->AT (λt=>t=1) C0 c W w->Q .normal (GS a0 (λi=>q+i) f [7,5,3,1]) w) :
  Dm prog N Q (λ_=>True) fin [(1,p),(3,o3),(5,u),(7,x),(9,o9),(11,z),(13,A),(15,B)] a0 W:=by
 have C:∀{done:List Nat}{l r:Nat×Oper},r∈[(1,p),(3,o3),(5,u),(7,x),(9,o9),(11,z),(13,A),(15,B)]->DE l ([(1,p),(3,o3),(5,u),(7,x),(9,o9),(11,z),(13,A),(15,B)].filter (λq=>!done.contains q.1))=ϑ->waits l r=ϑ->r.1∈done:=fun {done l r} J e M=>by
  by_cases R:r.1∈done
  .exact R
  unfold DE at e;rw[List.all_eq_true]at e;have:=e r (List.mem_filter.2 ⟨J,by simpa using R⟩);rw[M]at this;cases this
 refine Xlv _ (Xfv q n s W C0 bo a0) ⟨λ_=>undef,C0,rfl,List.nodup_nil,ψ,hs,AT.ob Br K,ψ⟩ ψ ?_ ?_
 .intro l o done a w g y d
  simp only[ϰ,List.mem_nil_iff,or_false]at o;rcases o with rfl|rfl|rfl|rfl|rfl|rfl|rfl|rfl
  .exact Xk8 d g ψ S.1 S.2 underlying35 Xef δ E.1 L (λw' l v e=>Xi5 e)
  .exact Xk8 d g ψ T.1 T.2 underlying36 Xem δ E.2.1 L (λw' l v e=>Xcq (f:=Xg3) [] rfl e)
  .exact Xk8 d g ψ V.1 V.2 underlying34 Xa8 δ E.2.2.1 L (λw' l v e=>Xcq (f:=Xa3) [] rfl e)
  .exact Xk8 d g ψ Y.1 Y.2 underlying34 Xa8 δ E.2.2.2 L (λw' l v e=>Xcq (f:=Xa3) [] rfl e)
  .exact Xkv (i:=1) d g ψ (C (r:=(1,p)) ψ y G.1) (q+8) aH.1 aH.2 (λw=>by kernel_rfl) K F.1 P (by simp[nsS,nsJ,nsC,Xag]) ⟨_,rfl⟩
  .exact Xkv (i:=3) d g ψ (C (r:=(3,o3)) ψ y G.2.1) (q+9) aI.1 aI.2 (λw=>by kernel_rfl) K F.2.1 P (by simp[nsS,nsJ,nsC,Xag]) ⟨_,rfl⟩
  .exact Xkv (i:=5) d g ψ (C (r:=(5,u)) ψ y G.2.2.1) (q+10) aJ.1 aJ.2 (λw=>by kernel_rfl) K F.2.2.1 P (by simp[nsS,nsJ,nsC,Xag]) ⟨_,rfl⟩
  exact Xkv (i:=7) d g ψ (C (r:=(7,x)) ψ y G.2.2.2) (q+11) aK.1 aK.2 (λw=>by kernel_rfl) K F.2.2.2 P (by simp[nsS,nsJ,nsC,Xag]) ⟨_,rfl⟩
 intro done a w b d;let⟨f,c,d⟩:=d;have h:∀i∈[1,3,5,7,9,11,13,15],i∈done:=λi m=>by
  simp only[ϰ,List.mem_nil_iff,or_false]at m;rcases m with rfl|rfl|rfl|rfl|rfl|rfl|rfl|rfl
  .exact b (1,p) ψ
  .exact b (3,o3) ψ
  .exact b (5,u) ψ
  .exact b (7,x) ψ
  .exact b (9,o9) ψ
  .exact b (11,z) ψ
  .exact b (13,A) ψ
  exact b (15,B) ψ
 have e:=d.st;unfold nsS at e;rw[if_pos (h 9 ψ),if_pos (h 11 ψ),if_pos (h 13 ψ),if_pos (h 15 ψ)]at e;have o:(done.filter λi=>decide (i<8)).Perm [7,5,3,1]:=by
  refine(List.perm_ext_iff_of_nodup (d.nd.sublist List.filter_sublist) ψ).2 (λi=>?_);rw[List.mem_filter];constructor
  .rintro ⟨b,l⟩
   have m:=d.sub i b;have:i<8:=by simpa using l
   simp only[ϰ,List.mem_nil_iff,or_false]at m ⊢;omega
  intro k;simp only[ϰ,List.mem_nil_iff,or_false]at k;exact⟨h i (by simp only[ϰ,List.mem_nil_iff,or_false];omega),by simp;omega⟩
 have b:=d.act;rw[SB o (λi _ j _ h=>by have:q+i=q+j:=h;omega)]at b;rw[b];exact aL f c w e d.chg
def Xee(l:List Cd):List ϒ:=l.flatMap (λx=>[O x.op,O x.a])
def Xgs:∀{l:List Cd}{i:Nat}{x:Cd},l[i]?=H x->(Xee l)[i*2]?=H (O x.op)/\(Xee l)[i*2+1]?=H (O x.a)
 |[],_,_,h=>by simp at h
 |y::l,0,x,h=>by simp at h;subst h;simp[Xee]
 |y::l,i+1,x,h=>by
  let⟨a,b⟩:=Xgs (l:=l) (i:=i) (x:=x) (by simpa using h);have e:Xee (y::l)=[O y.op,O y.a]++Xee l:=rfl;rw[e];refine⟨?_,?_⟩
  .rw [show(i+1)*2=i*2+1+1 by omega];simpa using a
  rw[show(i+1)*2+1=(i*2+1)+1+1 by omega];simpa using b
def Xmu(w:Ϣ)(e:Ending)(w':Ϣ):Prop:=∃(fa qa:Option Addr)(fc qc:Nat),e=.returned (.agg #[X fa ctC.H fc,O 1,X qa ctC.q0 qc])/\BF w' w' (.agg #[X fa ctC.H fc,O 1,X qa ctC.q0 qc]) ctC/\ϐ w w w'
def Xc0(w:Ϣ):ϙ prog 19 #[] w (Xmu w):=by
 let⟨W,b⟩:=ε (((w.alloc (χ #[D,O 1,X (H (I (w+1+1) 0)) 1 1] 25)).alloc (χ #[O 4,O 0,O 1,O 1,O 15,O 0,O 5,O 0,O 10,O 0] 96)).alloc (χ #[.string ⟨#[97,100,100]⟩,O 0,O 0,.bool ϝ,X (H (I (w+1) 0)) 5 5] 70));let⟨q,h,r,o,n⟩:=Λ5 (bl3 b) (sz3 b) (Xda b) (Xcs b) (Xbs b);have p:=@Lh (BF W W (.agg #[D,O 1,X (H (I (w+1+1) 0)) 1 1]) ctC) (by
  refine⟨_,_,rfl,⟨none,0,rfl,by simp[ctC],by simp[ctC],K,.inl rfl⟩,⟨_,1,rfl,by simp[ctC],by simp[ctC],K,.inr ⟨_,0,rfl,by have:=h.o;omega,λi x m=>?_⟩⟩,by simp[ctC,in64]⟩;have a:∀(j:Nat) v,(#[.string ⟨#[97,100,100]⟩,O 0,O 0,.bool ϝ,X (H (I (w+1) 0)) 5 5]:Array ϒ)[j]?=H v->W.cell? (I (w+1+1) j)=H v:=λj v d=>by rw[cell_of_row _ _ _ _ _ _ n.o];exact d
  have g:∀(j:Nat) v,(#[O 4,O 0,O 1,O 1,O 15,O 0,O 5,O 0,O 10,O 0]:Array ϒ)[j]?=H v->W.cell? (I (w+1) j)=H v:=λj v d=>by rw[cell_of_row _ _ _ _ _ _ o.o];exact d
  match i,m with
  |0,f=>
   obtain rfl:x=ctF:=by simpa[ctC]using f.symm
   refine⟨a 0 _ rfl,a 1 _ rfl,a 2 _ rfl,a 3 _ rfl,⟨_,a 4 _ rfl,⟨_,5,rfl,by simp[ctF],by simp[ctF],K,.inr ⟨_,0,rfl,by have:=h.o;omega,λk a f=>?_⟩⟩⟩,δ,by simp[ctF,in64],by simp[ctF,in64]⟩;let⟨a,d⟩:=Xgs f;have e:Xee ctF.q9=(#[O 4,O 0,O 1,O 1,O 15,O 0,O 5,O 0,O 10,O 0]:Array ϒ).toList:=rfl;rw[e]at a d;rw[Nat.zero_add];refine⟨g _ _ (by simpa using a),g _ _ (by simpa using d),?_⟩;have c:=Lm f;simp only[ctF,ϰ,List.not_mem_nil,or_false]at c;rcases c with rfl|rfl|rfl|rfl|rfl<;>simp[in64]
  |i+1,a=>simp[ctC]at a)
 have l:Hid (Xmu w (.returned (.agg #[D,O 1,X (H (I (w+1+1) 0)) 1 1])) W):=Lh ⟨none,_,0,1,rfl,p.o,q.o⟩;have c0:=Ω3 r.o;go_in;go_wp2_with fail;rw[<-b];exact ϖ (v:=.agg #[D,O 1,X (H (I (w+1+1) 0)) 1 1]) (by simp[results,results19,go_sem,c0.1,c0.2.1,c0.2.2]) rfl l.o
def CtV(w:Ϣ)(v:ϒ):Prop:=∃(fa qa:Option Addr)(fc qc:Nat),v=.agg #[X fa ctC.H fc,O 1,X qa ctC.q0 qc]/\BF w w v ctC
def CtV.below(h:CtV w v)(a:ϐ w w w'):CtV w' v:=by
 let⟨b,e,c,f,d,g⟩:=h;exact⟨b,e,c,f,d,(g.below a).up a.size⟩
def Xom(w:Ϣ)(b:Nat):Prop:=w.heap[b]?=H (χ #[O 0,O 1,O 0,O 1,O 0,O 1] 3 (0,0))
def Xom.ints{b:Nat}(c:Xom w b):AE w w 1 Aj (X (H (I b 0)) 6 6) [0,1,0,1,0,1]:=by
 have m:=(La c);refine⟨_,6,rfl,ψ,ψ,K,.inr ⟨_,0,rfl,m,λi x n=>?_⟩⟩;have a:∀(j:Nat) v,(#[O 0,O 1,O 0,O 1,O 0,O 1]:Array ϒ)[j]?=H v->w.cell? (I b j)=H v:=λj v m=>by rw[cell_of_row _ _ _ _ _ _ c];exact m
 rw[Nat.zero_add,Nat.mul_one]
 match i,n with
 |0,d=>cases d;exact⟨a 0 _ rfl,by unfold in64;omega⟩
 |1,e=>cases e;exact⟨a 1 _ rfl,by unfold in64;omega⟩
 |2,f=>cases f;exact⟨a 2 _ rfl,by unfold in64;omega⟩
 |3,g=>cases g;exact⟨a 3 _ rfl,by unfold in64;omega⟩
 |4,h=>cases h;exact⟨a 4 _ rfl,by unfold in64;omega⟩
 |5,k=>cases k;exact⟨a 5 _ rfl,by unfold in64;omega⟩
 |i+6,l=>cases l
def Xox(w:Ϣ)(b:Nat):Prop:=w.heap[b]?=H (χ #[D,D,D,O 0,O 0,D,D,D,D,D,D,O 0,O 0] 39 (0,0))
def Xd6(i:Nat):Nat:=if i=0 then 22 else if i=2 then 24 else 4
structure AwM(A:Ϣ)(a0:Act)(done:List Nat)(a:Act)(w:Ϣ)(f:Nat->ϒ):Prop where
 act:a=GS a0 Xd6 f done
 nd:done.Nodup
 sub:∀i∈done,i∈[0,2,8]
 below:ϐ A A w
 c0:0∈done->CtV w (f 0)
 c2:2∈done->∃b,f 2=X (H (I b 0)) 6 6/\Xom w b
 c8:8∈done->∃b,f 8=.pointer (H (I b 0))/\Xox w b/\(A:Nat)<=b
def AwM.next(d:AwM A a0 done a w f)(n:i∉done)(p:i∈[0,2,8])(v:ϒ)(k:ϐ w w w')(n0:i=0->CtV w' v)(n2:i=2->∃b,v=X (H (I b 0)) 6 6/\Xom w' b)(n8:i=8->∃b,v=.pointer (H (I b 0))/\Xox w' b/\(A:Nat)<=b):AwM A a0 (i::done) (a.put (H (Xd6 i)) v) w' (λj=>if j=i then v else f j):=by
 have o:∀j∈done,(if j=i then v else f j)=f j:=λj c=>if_neg (λe=>n (by rw[<-e];exact c));have m:∀{j:Nat},j∈i::done->j≠i->j∈done:=λc h=>(ϰ.1 c).resolve_left h;refine⟨?_,List.nodup_cons.2 ⟨n,d.nd⟩,λj c=>?_,d.below.trans (k.mono d.below.size),λc=>?_,λc=>?_,λc=>?_⟩
 .show _=(GS a0 Xd6 (λj=>if j=i then v else f j) done).put (H (Xd6 i)) (if i=i then v else f i)
  rw[if_pos rfl,K4 (l:=done) (g:=f) o,d.act]
 .rcases ϰ.1 c with rfl|c
  .exact p
  exact d.sub j c
 .by_cases e:0=i
  .subst e;rw[if_pos rfl];exact n0 rfl
  have h:=m c e;rw[if_neg e];exact(d.c0 h).below k
 .by_cases e:2=i
  .subst e;rw[if_pos rfl];exact n2 rfl
  have o:=m c e;rw[if_neg e];let⟨b,n,h⟩:=d.c2 o;exact⟨b,n,(k.block b (La h)).trans h⟩
 by_cases e:8=i
 .subst e;rw[if_pos rfl];exact n8 rfl
 have n:=m c e;rw[if_neg e];let⟨b,h,c,m⟩:=d.c8 n;exact⟨b,h,(k.block b (La c)).trans c,m⟩
def Xn2:∀i∈[0,2,8],∀j∈[0,2,8],Xd6 i=Xd6 j->i=j:=δ
def AwM.perm{l:List Nat}(b:AwM A a0 done a w f)(c:l.Nodup)(hl:∀i,i∈l↔i∈done):AwM A a0 l (GS a0 Xd6 f l) w f/\a=GS a0 Xd6 f l:=by
 have d:=(List.perm_ext_iff_of_nodup b.nd c).2 (λi=>(hl i).symm);exact⟨⟨rfl,c,λi c=>b.sub i ((hl i).1 c),b.below,λk=>b.c0 ((hl 0).1 k),λk=>b.c2 ((hl 2).1 k),λk=>b.c8 ((hl 8).1 k)⟩,b.act.trans (SB d (λi c j d=>Xn2 i (b.sub i c) j (b.sub j d)))⟩
def Xpr(a b c d e f g h i j k:α):[a,b,h,c,d,e,f,g,i,j,k].Perm [a,b,c,d,e,f,g,h,i,j,k]:=.cons _ (.cons _ (List.perm_middle (l₁:=[c,d,e,f,g]) (l₂:=[i,j,k])).symm)
def Xjm{e:List (Nat×Oper)}(R:Act->Act->Ϣ->Prop)(T:Ϣ->Prop)(g:∀b,T b->S b)(f:∀(d:Exit->Act->Ϣ->Prop)(c:Ϣ->Prop),(∀b,T b->c b)->(∀b w',R a b w'->d .normal b w')->Dm P n d c fin e a w)(c:∀b w',R a b w'->Q .normal b w'):Dm P n Q S fin e a w:=f Q S g c
def Xny{m n h:Oper}{rest:List (Nat×Oper)}(aE:m.op=.call {callee:=.value (.func 19),args:=#[],argTypes:=#[]}/\m.dst=H 22)
  (aK:∀(a:Act)(w:Ϣ),(execOp a.eval n).run prog w=.ok (.value (X (H (I w 0)) 6 6)) (w.alloc (χ #[O 0,O 1,O 0,O 1,O 0,O 1] 3))) (d2:n.dst=H 24)
  (aH:∀(a:Act)(w:Ϣ),(execOp a.eval h).run prog w=.ok (.value (.pointer (H (I w 0)))) (w.alloc (χ #[D,D,D,O 0,O 0,D,D,D,D,D,D,O 0,O 0] 39))) (aG:h.dst=H 4)
  (aJ:An 19) (Y:∀d,ϐ A A d->S d) (aI:(([(0,m),(2,n),(8,h)]++(3,o3)::rest).map (λ(d:Nat×Oper)=>d.1)).Nodup) (z:(waits (3,o3) (0,m)&&waits (3,o3) (2,n))=ϑ) (M:(rest.all λd=>((3,o3)::rest).any (waits d))=ϑ)
  (aM:(rest.all λd=>d.1 !=8&&d.1 !=3&&((8,h)::(3,o3)::rest).any (waits d))=ϑ)
  (aL:∀f d,AwM A a0 [8,2,0] (GS a0 Xd6 f [8,2,0]) d f->Dm prog N Q S fin ((3,o3)::rest) (GS a0 Xd6 f [8,2,0]) d)
  (aN:∀f d,AwM A a0 [2,0] (GS a0 Xd6 f [2,0]) d f->o3.wp prog (GS a0 Xd6 f [2,0]) d (λd w'=>(S w'\/(fin&&3+1==N)=ϑ)/\Dm prog N Q S fin ((8,h)::rest) d w') (NoPanic Q)):Dm prog N Q S fin ([(0,m),(2,n),(8,h)]++(3,o3)::rest) a0 A:=by
 have aF:∀p∈(3,o3)::rest,(∀i∈[0,2],∀o,(i,o)∈[(0,m),(2,n),(8,h)]->waits p (i,o)=ϑ)\/∃d∈(3,o3)::rest,waits p d=ϑ:=λp t=>by
  rcases ϰ.1 t with rfl|t
  .rw [Bool.and_eq_true]at z
   refine .inl (λi c o s=>?_);simp only[ϰ,List.mem_nil_iff,or_false,Prod.mk.injEq]at c s;rcases s with ⟨rfl,rfl⟩|⟨rfl,rfl⟩|⟨rfl,rfl⟩
   .exact z.1
   .exact z.2
   omega
  rw[List.all_eq_true]at M;exact .inr (List.any_eq_true.1 (M p t))
 have aD:∀{done:List Nat}{a:Act}{w:Ϣ}{f:Nat->ϒ},AwM A a0 done a w f->8∉done->h.wp prog a w (λd w'=>(S w'\/(fin&&8+1==N)=ϑ)/\∃f,AwM A a0 (8::done) d w' f) (NoPanic Q):=fun {done a w f} b d=>by have p:=AA w (χ #[D,D,D,O 0,O 0,D,D,D,D,D,D,O 0,O 0] 39);have x:=b.next d ψ (.pointer (H (I w 0))) p (λe=>by cases e) (λe=>by cases e) (λ_=>⟨_,rfl,Hn _ _,b.below.size⟩);unfold Oper.wp;rw[aH];show(_\/_)/\∃f,AwM A a0 (8::done) (a.put h.dst _) _ f;rw[aG];exact⟨.inl (Y _ x.below),_,x⟩
 refine SK [(0,m),(2,n),(8,h)] ((3,o3)::rest) [0,2] (λdone a w=>∃f,AwM A a0 done a w f) ⟨λ_=>undef,rfl,List.nodup_nil,ψ,Below.refl _ _,ψ,ψ,ψ⟩ aI aF ?_ ?_ ?_
 .intro i c
  simp only[ϰ,List.mem_nil_iff,or_false]at c;rcases c with rfl|rfl
  .exact ⟨m,ψ⟩
  exact⟨n,ψ⟩
 .rintro d r done a w y ⟨f,b⟩
  simp only[ϰ,List.mem_nil_iff,or_false]at r;rcases r with rfl|rfl|rfl
  .have t:(execOp a.eval m).run prog w=.ok (.enter 19 #[]) w:=by simpa[go_sem,execOp,aE.1]using aJ #[] w
   unfold Oper.wp;rw[t,Oper.upon_enter];refine(Xc0 w).mono ?_;rintro e w'⟨C,G,E,J,rfl,F,B⟩;have u:=b.next y ψ _ B (λ_=>⟨C,G,E,J,rfl,F⟩) (λe=>by cases e) (λe=>by cases e);show(_\/_)/\∃f,AwM A a0 (0::done) (a.put m.dst _) w' f;rw[aE.2];exact⟨.inl (Y _ u.below),_,u⟩
  .have d:=AA w (χ #[O 0,O 1,O 0,O 1,O 0,O 1] 3)
   have v:=b.next y ψ (X (H (I w 0)) 6 6) d (λe=>by cases e) (λ_=>⟨_,rfl,Hn _ _⟩) (λe=>by cases e);unfold Oper.wp;rw[aK];show(_\/_)/\∃f,AwM A a0 (2::done) (a.put n.dst _) _ f;rw[d2];exact⟨.inl (Y _ v.below),_,v⟩
  exact aD b y
 rintro done a w d⟨f,b⟩;have k:=d 0 ψ;have g:=d 2 ψ;have L:∀{done:List Nat}{a:Act}{w:Ϣ}{f:Nat->ϒ},AwM A a0 done a w f->0∈done->2∈done->8∈done->Dm prog N Q S fin ((3,o3)::rest) a w:=fun {done a w f} b k g V=>by
  let⟨R,P⟩:=b.perm (l:=[8,2,0]) ψ (λi=>⟨λc=>by
   simp only[ϰ,List.mem_nil_iff,or_false]at c;rcases c with rfl|rfl|rfl
   .exact V
   .exact g
   .exact k,λc=>by
   have:=b.sub i c;simp only[ϰ,List.mem_nil_iff,or_false]at this ⊢;omega⟩)
  rw[P];exact aL f w R
 by_cases j:8∈done
 .have e:[(0,m),(2,n),(8,h)].filter (λd=>!done.contains d.1)=[]:=by simp[k,g,j]
  rw[e];exact L b k g j
 have e:[(0,m),(2,n),(8,h)].filter (λd=>!done.contains d.1)=[(8,h)]:=by simp[k,g,j]
 rw[e];refine Dv δ aM ?_ ?_
 .refine Oper.wp_mono (λh w' d=>⟨d.1,?_⟩) (aD b j)
  let⟨_,h⟩:=d.2;exact L h (List.mem_cons_of_mem _ k) (List.mem_cons_of_mem _ g) (List.mem_cons_self ..)
 obtain⟨W,T⟩:=b.perm (l:=[2,0]) ψ (λi=>⟨λc=>by
  simp only[ϰ,List.mem_nil_iff,or_false]at c;rcases c with rfl|rfl
  .exact g
  .exact k,λc=>by
  have:=b.sub i c;simp only[ϰ,List.mem_nil_iff,or_false]at this ⊢;by_cases q:i=8
  .subst q;exact absurd c j
  omega⟩)
 rw[T];exact aN f w W
def Xdj(c:AQ)(m:Mm)(cs:List (List Bi))(fuel:Int)(w:Ϣ)(e:Ending)(w':Ϣ):Prop:=ϐ w w w'/\
 ((GO c m cs fuel≠0/\e=.returned (.tuple #[.agg #[D,D,D,O 0,O 0,D,D,D,D,D,D,O 0,O 0],O (GO c m cs fuel)]))\/
 (GO c m cs fuel=0/\∃vs',e=.returned (.tuple #[.agg vs'.toArray,O 0])/\TraVs (w':Nat) w' vs' (ff m fuel cs)))
def Xit:An 27:=λ_ _=>by kernel_rfl
def Xoc(B:Nat)(w:Ϣ):∀(x:List Bi)(b:Ϣ)(c:ϒ),ϐ w w b->Nv B b c x->ϙ prog 27 (#[c]++#[]) b (λe c=>e=.returned (.bool (decide (2000<(x:Int))))/\ϐ b b c):=by
 rintro x g b _ d;have:x.length<=140737488355328:=by let⟨_,_,_,b,_⟩:=d;exact b
 obtain⟨a,f,rfl⟩:=AE.u1 d;show ϙ prog 27 #[X a x f] g _;go_in;go_wp2;go_ret;exact⟨rfl,Below.refl _ _⟩
structure SwB(cd:AQ)(m:Mm)(cs:List (List Bi))(c0 c1 c2 g0 g1 lv:ϒ)(zz:Array ϒ)(w V:Ϣ):Prop where
 c:V.cell? (I w 0)=H c0/\V.cell? (I w 1)=H c1/\V.cell? (I w 2)=H c2/\(w:Nat)<V
 g:V.cell? (I (w+1) 0)=H g0/\V.cell? (I (w+1) 1)=H g1/\(w:Nat)+1<V
 t:V.heap[(w:Nat)+1+1]?=H (χ zz 39 (0,0))
 L:C8 V
 cod:BF w V (.agg #[c0,c1,c2]) cd
 mm:Lw w V (.agg #[g0,g1]) m
 cs:AE w V 1 (Bg 2 (DA w) w) lv cs
 b:ϐ w w V
 s:(w:Nat)+3<=V
def Xnr{e:Array ϒ}(b:W=((w.alloc (χ #[c0,c1,c2] 25)).alloc (χ #[g0,g1] 28)).alloc (χ e 39))(j:C8 w)(k:BF w w (.agg #[c0,c1,c2]) cd)(i:Lw w w (.agg #[g0,g1]) m)(hl:AE w w 1 (Bg 2 (DA w) w) lv cs):∀a,ϐ W W a->SwB cd m cs c0 c1 c2 g0 g1 lv e w a:=λa c=>by
 have h:ϐ w w W:=by rw[b];exact((AA _ _).th (AA _ _)).th (AA _ _)
 have:(W:Nat)=(w:Nat)+3:=by rw[b];simp
 have d:a.heap[(w:Nat)]?=H (χ #[c0,c1,c2] 25 (0,0)):=(c.block _ K).trans (by
  rw[b,Ha _ _ _ φ,Ha _ _ _ ψ];exact Hn _ _)
 have f:a.heap[(w:Nat)+1]?=H (χ #[g0,g1] 28 (0,0)):=(c.block _ K).trans (by
  rw[b,Ha _ _ _ ψ];have:=Hn (w.alloc (χ #[c0,c1,c2] 25)) (χ #[g0,g1] 28);rwa[show(w.alloc (χ #[c0,c1,c2] 25)).heap.size=(w:Nat)+1 by simp]at this)
 have g:a.heap[(w:Nat)+1+1]?=H (χ e 39 (0,0)):=(c.block _ K).trans (by
  rw[b];have:=Hn ((w.alloc (χ #[c0,c1,c2] 25)).alloc (χ #[g0,g1] 28)) (χ e 39);rwa[show((w.alloc (χ #[c0,c1,c2] 25)).alloc (χ #[g0,g1] 28)).heap.size=(w:Nat)+1+1 by simp]at this)
 have a:=h.th c;exact⟨⟨Cr d rfl,Cr d rfl,Cr d rfl,(La d)⟩,⟨Cr f rfl,Cr f rfl,(La f)⟩,g,j.below a,k.below a,i.below a,hl.calss a,a,by have:=c.size;omega⟩
def Xc3(j:fn.results=#[.cell 8 39,.tmp 9]){b:Ϣ}(c:SwB cd m cs c0 c1 c2 g0 g1 lv #[D,D,D,O 0,O 0,D,D,D,D,D,D,O 0,O 0] w b){e:Int}(i:GO cd m cs fuel=e)(h:e≠0)(g:a.tmps.getD 8 undef=.pointer (H (I (w+1+1) 0)))(f:a.tmps.getD 9 undef=O e)(d:a.defers=[]):bodyPost prog fn (Xdj cd m cs fuel w) .ret a (Xaa b ((w:Nat)+1+1) 0 [D,D,D,O 0,O 0,D,D,D,D,D,D,O 0,O 0]):=
 ϖ (Xa0 (p:=8) (u:=9) j (Xab c.t D D D (O 0) (O 0) D D D D D D (O 0) (O 0)) _ g f) d ⟨Xal K _ _ c.b,.inl (by rw[i];exact⟨h,rfl⟩)⟩
def Xez.newS{B:Nat}(e:Lw B w v m):Xez (ff m fuel cs):=by
 obtain⟨_,_,rfl,d,f⟩:=e;have h:∀{k:Nat},∀n∈ϱ k (0:Int),in64 n:=fun {k} n a=>by rw[List.eq_of_mem_replicate a];exact⟨K,K⟩
 obtain⟨_,_,rfl⟩:=d.u1;obtain⟨_,_,rfl⟩:=f.u1;refine⟨λn a=>?_,λx a=>?_,λl b n a=>?_,λx a=>?_,λl b x a=>?_,λl b x a=>?_,λl b x a=>?_⟩
 .obtain ⟨k,g⟩:=List.mem_iff_getElem?.1 a
  let⟨_,_,_,_,e⟩:=d.nth g;exact e.2
 .obtain ⟨k,e⟩:=List.mem_iff_getElem?.1 a
  let⟨_,_,_,_,_,⟨v,_,c⟩,d⟩:=f.nth e;refine⟨d,λn a=>?_⟩;obtain⟨_,_,rfl⟩:=c.u1;let⟨j,e⟩:=List.mem_iff_getElem?.1 a;let⟨_,_,_,_,d⟩:=c.nth e;exact d.2
 .rcases ϰ.1 b with rfl|b
  .exact h n a
  obtain⟨_,_,rfl⟩:=List.mem_map.1 b;exact h n a
 .rw [List.eq_of_mem_replicate a];exact WX
 .rw [List.eq_of_mem_replicate b]at a;cases a
 .rw [List.eq_of_mem_replicate b]at a;cases a
 rw[List.eq_of_mem_replicate b]at a;cases a
def SAt.newV{a:Ϣ}{c c1:A1}{d:Nat}{e:ϒ}{x:List Int}(o:SAt w c d s)(n:AT NO c c1 w a)(m:∀b,(a:Nat)<=b->c1 b=0)(h:Ao a c1 22 22 1 v 1 [e])(k:X6 a c1 102 e (Xa3 x)):SAt (a.setCell (I d 2) v) c1 d {s with q6:=[x]}/\AT (λt=>t=1) c1 c1 a (a.setCell (I d 2) v):=by
 have l:Xam a c1 2 v 22 1 ([x].map Xa3):=⟨1,[e],h,rfl,λi p q e h=>by
  match i,e,h with
  |0,f,g=>cases f;cases g;exact k
  |i+1,e,f=>simp at e⟩
 let⟨e,f⟩:=X5.put0 (show X5 a c1 _ d (Xag s)from o.chg n m (λt a=>absurd a (no t))) (j:=2) (x:=.r 22 1 ([x].map Xa3)) l;exact⟨SAt.of e rfl,f⟩
def Xe3(m:Mm)(fuel:Int)(cs:List (List Bi))(k:Nat):Tra:=⟨m,ϱ m.G.length 0::(m.N.take k).map (λx=>ϱ x.f.length 0),0,fuel,[],cs,[],[],[],[],0,0⟩
def Xl2{x:Gl}(a:m.N[k]?=H x):{Xe3 m fuel cs k with q6:=(Xe3 m fuel cs k).q6++[ϱ x.f.length 0]}=Xe3 m fuel cs (k+1):=by
 unfold Xe3;rw[List.take_add_one,a];simp
def Xnm(a:k<=m.N.length):(Xe3 m fuel cs k).q6.length=k+1:=by
 simp[Xe3];omega
def Xf9(cd:AQ)(m:Mm)(cs:List (List Bi))(fuel:Int)(jT jU lv:ϒ)(w:Ϣ)(E:C8 w)(h:BF w w jT cd)(a:Lw w w jU m)(hl:AE w w 1 (Bg 2 (DA w) w) lv cs)(J:in64 fuel)(C:Xe m cs) :
  ϙ prog 9 #[jT,jU,lv,O fuel] w (Xdj cd m cs fuel w):=by
 obtain⟨_,_,rfl,y,A,G⟩:=id h;obtain⟨mJ,mK,rfl⟩:=y.u1;obtain⟨lN,lO,rfl⟩:=A.u1;obtain⟨_,_,rfl,o,r⟩:=id a;obtain⟨nL,nM,rfl⟩:=o.u1;obtain⟨nO,nP,rfl⟩:=r.u1;have:cs.length<=140737488355328:=by let⟨_,_,_,F,_⟩:=hl;exact F
 obtain⟨nZ,oA,rfl⟩:=hl.u1;have kZ:=Lh C;have oK:=Lh a;let⟨W,d⟩:=ε (((w.alloc (χ (Bc mJ mK lN lO cd) 25)).alloc (χ (Bm nL nM nO nP m) 28)).alloc (χ #[D,D,D,O 0,O 0,D,D,D,D,D,D,O 0,O 0] 39));have g:=Lh (Xnr d E h a hl);clear y A G E h a hl o r C J;obtain⟨⟨c0,c1,c2,r⟩,⟨g0,g1,o⟩,-⟩:=g.o W Br;go_in;go_upto_region 1 with fail;rw[<-d];clear d;go_wp2_with fail;refine(Xgv cd _ (w:Nat) W (g.o W Br).L (g.o W Br).b.size (g.o W Br).cod).mono ?_;rintro e h⟨rfl,a⟩;have E:=Lh a;clear c0 c1 c2 r g0 g1 o a;cases nX:DW cd with
 |false=>have kN:=Lh nX;clear nX;have:=ϵ (g.o h E.o).t;have:=ϴ (g.o h E.o).t;go_wp2_with fail;rw[Xaf];exact Xc3 rfl (g.o h E.o) (TT (.inl kN.o)) K rfl rfl rfl
 |true=>
 have nB:=Lh nX;clear nX;obtain⟨⟨c0,c1,c2,r⟩,⟨g0,g1,o⟩,-⟩:=g.o h E.o;go_wp2_with fail;refine(Xhk cd _ m _ (w:Nat) h (g.o h E.o).b.size (g.o h E.o).cod (g.o h E.o).mm).mono ?_;rintro e a⟨rfl,h⟩;have d:=Lh (E.o.th h);clear c0 c1 c2 r g0 g1 o h;cases nW:Bb cd m with
 |false=>have kO:=Lh nW;clear nW;have:=ϵ (g.o a d.o).t;have:=ϴ (g.o a d.o).t;go_wp2_with fail;rw[Xaf];exact Xc3 rfl (g.o a d.o) (TT (.inr kO.o)) K rfl rfl rfl
 |true=>
 have Q:=Lh (ϟ nB.o nW);clear nW;by_cases oI:fuel<0
 .have kL:=Lh oI
  have:=ϵ (g.o a d.o).t;have:=ϴ (g.o a d.o).t;go_wp2_with fail;rw[Xaf];exact Xc3 rfl (g.o a d.o) (TY Q.o (.inl kL.o)) K rfl rfl rfl
 by_cases oH:1048576<fuel
 .have kM:=Lh oH
  have:=ϵ (g.o a d.o).t;have:=ϴ (g.o a d.o).t;go_wp2_with fail;rw[Xaf];exact Xc3 rfl (g.o a d.o) (TY Q.o (.inr kM.o)) K rfl rfl rfl
 have jX:=@Lh (0<=fuel/\fuel<=1048576) K;by_cases R:cs.length=0
 .have kU:=Lh R
  have:((cs:Int)==0)=ϑ:=by simp[R]
  clear R;have:=ϵ (g.o a d.o).t;have:=ϴ (g.o a d.o).t;go_wp2_with fail;rw[Xaf];exact Xc3 rfl (g.o a d.o) (Wm Q.o jX.o kU.o) K rfl rfl rfl
 have jY:=Lh R;have:((cs:Int)==0)=ϝ:=by simp[R]
 clear R;by_cases oG:8<(cs:Int)
 .have kP:=Lh oG
  have:=ϵ (g.o a d.o).t;have:=ϴ (g.o a d.o).t;go_wp2_with fail;rw[Xaf];exact Xc3 rfl (g.o a d.o) (TU Q.o jX.o jY.o (.inl (by have:=kP.o;omega))) K rfl rfl rfl
 have oB:=@Lh (cs.length<=8) K;go_wp2_with fail;refine(FJ 27 #[] (λl=>decide (2000<(l:Int))) cs _ (w:Nat) a Xit (g.o a d.o).b.size (g.o a d.o).cs (Xoc (w:Nat) a)).mono ?_;rintro e M⟨rfl,a⟩;have J:=Lh (d.o.th a);clear a;cases nN:cs.any λl=>decide (2000<(l:Int))with
 |true=>have kQ:=Lh nN;clear nN;have:=ϵ (g.o M J.o).t;have:=ϴ (g.o M J.o).t;go_wp2_with fail;rw[Xaf];exact Xc3 rfl (g.o M J.o) (TU Q.o jX.o jY.o (.inr kQ.o)) K rfl rfl rfl
 |false=>
 have oD:=Lh nN;have nS:=Lh (Wn Q.o jX.o jY.o oB.o nN);clear nN;go_wp2_with fail;go_loopw[54] (λi wr=>∃k:Nat,k<=cs.length/\i=O k/\Hid (ϐ W W wr/\∀l∈cs.take k,∀r∈l,AS cd r 0=0)) (λi _=>cs.length-(intOf i).toNat);exact⟨0,Nat.zero_le _,rfl,Lh ⟨J.o,ψ⟩⟩;obtain⟨k,_,rfl,y⟩:=hrel;obtain⟨A,rfl⟩:=ε (wr:Ϣ);by_cases oF:k<cs.length
 .obtain ⟨l,hl⟩:=Ϡ cs k oF
  obtain⟨_,_,rfl,G,_,C,o⟩:=(g.o A y.o.1).cs.nth hl;have:l.length<=140737488355328:=by let⟨_,_,_,F,_⟩:=o;exact F
  obtain⟨_,_,rfl⟩:=o.u1;rw[Nat.mul_one]at C;have nJ:=Lh hl;have nA:=Lh o;have:=In k;have:(k:Int)<(cs:Int):=K;clear hl o G;go_wp2_with fail;clear C;go_loopw[60] (λi wr=>∃p:Nat,p<=l.length/\i=O p/\Hid (ϐ A A wr/\∀r∈l.take p,AS cd r 0=0)) (λi _=>l.length-(intOf i).toNat);exact⟨0,Nat.zero_le _,rfl,Lh ⟨Below.refl _ _,ψ⟩⟩;obtain⟨p,_,rfl,jS⟩:=hrel;have mN:=Lh (y.o.1.th jS.o.1);by_cases oE:p<l.length
  .obtain ⟨x,Y⟩:=Ϡ l p oE
   obtain⟨_,_,rfl,C,P,⟨_,N,o⟩,lA⟩:=(nA.o.cals (jS.o.1.mono (g.o A y.o.1).b.size)).nth Y;obtain⟨jZ,kA,rfl⟩:=o.u1;have mU:=Lh Y;have h:∀a,ϐ wr wr a->Gh w a (.agg #[.string x.proc,X jZ x.args kA]) x:=λa M=>⟨_,rfl,o.ints (M.mono (g.o wr mN.o).b.size),lA⟩;have mV:=Lh h;have:=In p;have:(p:Int)<(l:Int):=K;clear Y o h C;go_upto_region 15 with fail;let⟨C,a⟩:=ε (wr.alloc (χ #[.string x.proc,X jZ x.args kA] 64));have S:=Lh (bl1 a);have h:=Xao a;have L:=Ω2 h;have G:=Lh (mN.o.th S.o);rw[<-a];clear a h P N;obtain⟨⟨c0,c1,c2,o⟩,-⟩:=g.o C G.o;go_wp2_with fail;refine(Xgr cd _ x _ (w:Nat) C (g.o C G.o).b.size (g.o C G.o).cod (mV.o C S.o)).mono ?_;rintro e kC⟨rfl,a⟩;have kB:=Lh (G.o.th a);have mW:=Lh ((jS.o.1.th S.o).th a);clear c0 c1 c2 o L a;let⟨jV,a⟩:=ε (AS cd x 0);rw[<-a];have kE:=Lh a;clear a;by_cases nI:jV=0
   .subst nI
    have lP:Hid (∀r∈l.take (p+1),AS cd r 0=0):=Lh (λr o=>by
     rw[List.take_add_one,mU.o]at o;rcases List.mem_append.1 o with o|o
     .exact jS.o.2 r o
     simp at o;subst o;exact kE.o.symm)
    go_wp2;go_roundw;exact⟨p+1,K,by go_num,Lh ⟨mW.o,lP.o⟩⟩;simp[intOf];omega
   have mO:=Lh nI;have:=τ jV 0 nI;have lQ:=@Lh (Ed cd cs=jV) (by
    have F:=kE.o;rw[F];exact Km nJ.o y.o.2 mU.o jS.o.2 (by rw[<-F];exact nI))
   clear nI;have:=ϵ (g.o kC kB.o).t;have:=ϴ (g.o kC kB.o).t;go_wp2_with fail;rw[Xaf];exact Xc3 rfl (g.o kC kB.o) (nS.o.trans lQ.o) mO.o rfl rfl rfl
  obtain rfl:p=l.length:=K;have mM:Hid (∀z∈cs.take (k+1),∀r∈z,AS cd r 0=0):=Lh (λz R r o=>by
   rw[List.take_add_one,nJ.o]at R;rcases List.mem_append.1 R with R|R
   .exact y.o.2 z R r o
   simp at R;subst R;exact jS.o.2 r (by rw[List.take_length];exact o))
  go_wp2;go_roundw;exact⟨k+1,K,by go_num,Lh ⟨mN.o,mM.o⟩⟩;simp[intOf];omega
 obtain rfl:k=cs.length:=K;have a:=Lh (by
  have F:=y.o.2;rw[List.take_length]at F;exact F)
 have oJ:=@Lh (GO cd m cs fuel=0) (by rw[nS.o];exact Gp a.o);have mQ:=Lh y.o.1;clear y J d E;obtain⟨-,⟨g0,g1,iU⟩,-⟩:=g.o A mQ.o;let⟨E,y⟩:=ε (⟨m,[],0,fuel,[],cs,[],[],[],[],0,0⟩:Tra);have d:∀{α:Type}{sz:Nat}{a:Ϣ->Nat->Nat->α->Prop},AE w A sz a D []:=fun {α sz a}=>⟨none,0,rfl,ψ,ψ,K,.inl rfl⟩;have L:TraVs (A:Nat) A [X nL m.G nM,X nO m.N nP,D,O 0,O fuel,D,X nZ cs oA,D,D,D,D,O 0,O 0] E:=by
  rw[y];have P:=g.o A mQ.o;let⟨kG,kJ,e,kX,kY⟩:=P.mm;obtain⟨rfl,rfl⟩:Value.slice nL m.G.length nM=kG/\Value.slice nO m.N.length nP=kJ:=by simpa using e
  refine TraVs.ups (B:=(w:Nat)) P.b.size (λ_ _ F=>F) ?_;exact⟨_,_,_,_,_,_,_,_,_,rfl,kX,kY,d,d,P.cs,d,d,d,d⟩
 have J:Xk9 E:=by rw[y];refine⟨kZ.o.g,⟨Nt kZ.o.n K,kZ.o.f⟩,⟨Nat.zero_le _,λl hl=>by cases hl⟩,⟨Nat.zero_le _,λl hl=>by cases hl⟩,⟨Nat.zero_le _,λl hl=>by cases hl⟩,⟨Nat.zero_le _,λl hl=>by cases hl⟩,Nat.zero_le _,⟨Nt oB.o K,λl hl=>⟨?_,λx Y=>kZ.o.a l hl x Y⟩⟩,⟨Nat.zero_le _,λl hl=>by cases hl⟩⟩;have F:=oD.o;rw[List.any_eq_false]at F;have:=F l hl;simp at this;omega
 have kV:=Lh (Xc7 E [X nL m.G nM,X nO m.N nP,D,O 0,O fuel,D,X nZ cs oA,D,D,D,D,O 0,O 0] (Xiu (A:Nat)) A L J (λb a=>Xea a));have oC:=Lh y;clear d L J y;go_wp2_with fail;refine kV.o.mono ?_;rintro e J⟨_,mZ,rfl,N,d,V⟩;obtain⟨lC,lD,lE,lF,lG,lH,lI,lJ,lK,lR,lS,lT,lU,lV,lW,lX,lY,lZ,mA,mB,mC,mD,mE,mF,mG,mH,mI,rfl⟩:=N.shape;let⟨y,o⟩:=ε (J.alloc (χ #[X lC lD lE,X lF lG lH,X lI lJ lK,O E.q3,O E.Y,X lR lS lT,X lU lV lW,X lX lY lZ,X mA mB mC,X mD mE mF,X mG mH mI,O E.q5,O E.U] 39));have C:=SAt.boxed N V o;have P:ϐ A A J:=⟨d.os,d.tape,d.output,d.size,λb a=>d.kp b a (no _)⟩;have r:=P.th (bl1 o);let⟨kW,M⟩:=ε (λb=>if b=(J:Nat)then 1 else mZ b:A1);rw[<-M]at C;have G:∀b,b<(A:Nat)->kW b=14:=λb a=>by rw[C.2.old b (Nl a d.size),d.old b a,Xcn a]
 have nY:Hid (∀(h:Ϣ)(a:A1),AT NZ kW a y h->ϐ A A h/\a ((w:Nat)+1+1)=14):=Lh (λh a F=>by
  have a:=g.o A mQ.o;have hl:(w:Nat)+1+1<A:=by have:=a.s;omega
  exact⟨r.trans (F.belowN (λb a=>by rw[G b a];exact Io) r.size),(F.old _ (Nl hl r.size)).trans (G _ hl)⟩)
 have nG:=Lh C.1;have nH:Hid ((J:Nat)<y/\y.heap[(J:Nat)]?=H (χ #[X lC lD lE,X lF lG lH,X lI lJ lK,O E.q3,O E.Y,X lR lS lT,X lU lV lW,X lX lY lZ,X mA mB mC,X mD mE mF,X mG mH mI,O E.q5,O E.U] 39 (0,0))):=Lh ⟨by rw[o];simp,by rw[o];exact Hn _ _⟩;have a:=Lh r;have L:=Lh o;clear g0 g1 iU N d V C P r M G o;obtain⟨-,⟨g0,g1,iX⟩,-⟩:=g.o y (mQ.o.th a.o);go_upto_region 22 with fail;rw[<-L.o];clear L;have iW:=λW=>FK W m.G.length (by have:=kZ.o.g;omega);let⟨h,r⟩:=ε ((y.alloc (χ (Ad (ϱ m.G.length 0)) 3)).alloc (χ #[X (H (I y 0)) m.G m.G.length] 22));have d:ϐ y y h:=by rw[r];exact(AA _ _).th (AA _ _)
 have S:(h:Nat)=(y:Nat)+2:=by rw[r];simp
 let⟨a,E⟩:=ε (λb=>if b=(y:Nat)then 102 else if b=(y:Nat)+1 then 22 else kW b:A1);have G:AT NO kW a y h:=⟨d.os,d.tape,d.output,d.size,λb F _=>d.block b F,λb F=>by
  rw[E];show(if _ then _ else _)=_;rw[if_neg K,if_neg K],no 0⟩
 have Q:∀b,(h:Nat)<=b->a b=0:=λb F=>by rw[E];show(if _ then _ else _)=_;rw[if_neg K,if_neg K];exact nG.o.hi b K
 have P:Dq h a 102 (X (H (I y 0)) m.G m.G.length) (ϱ m.G.length 0):=by have o:=QB (w:=y) (c:=a) (k:=m.G.length) (tag:=102) (by have:=kZ.o.g;omega) (by rw[E];exact if_pos rfl);rw[r];exact o.kp (T:=NO) (AT.ob (AA _ _) (no 0)) (no _)
 have M:Ao h a 22 22 1 (X (H (I (y+1) 0)) 1 1) 1 [X (H (I y 0)) m.G m.G.length]:=by
  have o:=Xe9 (w:=y.alloc (χ (Ad (ϱ m.G.length 0)) 3)) (c:=a) (tag:=22) (n:=1) (e:=22) (z:=X (H (I y 0)) m.G m.G.length) K (by
   rw[E,show(y.alloc (χ (Ad (ϱ m.G.length 0)) 3)).heap.size=(y:Nat)+1 by simp];show(if _ then _ else _)=_;rw[if_neg K];exact if_pos rfl)
  rw[show(y.alloc (χ (Ad (ϱ m.G.length 0)) 3)).heap.size=(y:Nat)+1 by simp]at o;rw[r];exact o
 let⟨o,cg⟩:=nG.o.newV (x:=ϱ m.G.length 0) G Q M ⟨m.G.length,by simpa using P.1⟩;have C:=(d.block _ nH.o.1).trans nH.o.2;have iV:=row13 C 2 _ rfl;have iU:=Ψ 2 C;let⟨N,A⟩:=ε (h.setCell (I J 2) (X (H (I (y+1) 0)) 1 1));rw[<-A]at o cg;have kR:=@Lh (SAt N a J (Xe3 m fuel cs 0)/\AT NZ kW a y N) (by
  rw[oC.o]at o;refine⟨?_,(G.mono (λt nC=>absurd nC (no t)) Qx).trans (cg.mono (λt nC=>by unfold NZ;omega) Qx)⟩;unfold Xe3;rw[List.take_zero];exact o)
 have V:=Lh A;have L:=Lh r;rw[r]at iV iU;clear d S E G Q P M o cg C r A;go_upto_region 23 with fail;rw[<-L.o,<- V.o];clear L V iV iU g0 g1 iX iW;obtain⟨-,⟨g0,g1,d⟩,-⟩:=g.o N (mQ.o.th (nY.o N _ kR.o.2).1);go_wp2_with fail;clear g0 g1 d;have:=kZ.o.n;go_loopw[89] (λi wr=>∃k:Nat,k<=m.N.length/\i=O k/\Hid (∃c,SAt wr c (J:Nat) (Xe3 m fuel cs k)/\AT NZ kW c y wr)) (λi _=>m.N.length-(intOf i).toNat);exact⟨0,Nat.zero_le _,rfl,Lh ⟨_,kR.o⟩⟩;obtain⟨k,iW,rfl,d⟩:=hrel;let⟨c,d⟩:=d.o;have kT:=Lh d;clear d;by_cases nK:k<m.N.length
 .obtain ⟨x,Y⟩:=Ϡ m.N k nK
  obtain⟨_,kF,e,-,L⟩:=(g.o wr (mQ.o.th (nY.o wr c kT.o.2).1)).mm;obtain rfl:kF=X nO m.N nP:=by simp at e;exact e.2.symm
  obtain⟨_,_,rfl,V,iV,⟨v,iU,d⟩,-⟩:=L.nth Y;obtain⟨lL,lM,rfl⟩:=d.u1;have:=In k;have:(k:Int)<(m.N:Int):=K;have nU:=Lh Y;have nV:=Lh nK;clear e L d V Y;go_upto_region 26 with fail;let⟨a,d⟩:=ε (wr.alloc (χ #[O x.type,X lL x.f lM] 72));have r:=Cw ((Xao d)) 1 rfl;let⟨s,h⟩:=ε (Xe3 m fuel cs k);have jX:=Lh h;have:s.q6.length<=4097:=by rw[h,Xnm iW];have:=kZ.o.n;omega
  have VS:=Lh (kT.o.1.grow (bl1 d));rw[<-h]at VS;have VC:=Lh (kT.o.2.trans (AT.ob (bl1 d) Qx));have hF:Hid (c (wr:Nat)=0/\(wr:Nat)<a):=Lh ⟨kT.o.1.hi _ (Nr _),by rw[d];simp⟩;have C:=Lh (kZ.o.f x (Lm nU.o));rw[<-d];clear d iV iU h;let⟨M,P,jU,d,o,h⟩:=VS.o.growV;have S:=Lh o;have jV:=Lh h;have E:Hid (c (J:Nat)=1/\(J:Nat)<a/\(∀b,(a:Nat)<=b->c b=0)/\a.frozen? (I J 2)=ϝ):=Lh ⟨VS.o.lab,VS.o.lt,VS.o.hi,VS.o.frz 2⟩;clear o h;refine wp_region_bel (λV h=>ϟ (AB h d) (AB h r)) [5,6,7,9] ϑ 10 rfl κ κ ?_;refine Xac ?_;have jS:=Lh d;have jT:=Lh r;clear d r;have d:=λW=>FK W x.f.length (by have:=C.o;omega);refine AH κ ?_;go_simp;clear d;have A:ϐ a a (a.alloc (χ (Ad (ϱ x.f.length 0)) 3)).drew:=Cb a _;refine⟨⟨AB (AA _ _) jS.o,AB (AA _ _) jT.o⟩,?_⟩;let⟨U4,d⟩:=ε ((a.alloc (χ (Ad (ϱ x.f.length 0)) 3)).drew);rw[<-d];have r:=@Lh (ϐ a a U4) (by rw[d];exact A);have Q:Hid (∀h:A1,h (a:Nat)=100+16*s.q6.length+2->Dq U4 h (100+16*s.q6.length+2) (X (H (I a 0)) x.f x.f.length) (ϱ x.f.length 0)):=Lh (λh o=>by
   have:=QB (w:=a) (c:=h) (k:=x.f.length) (by have:=C.o;omega) o;rw[d];exact this.kp (T:=NO) (AT.ob (AG Br 1) (no 0)) (no _))
  have h:(U4:Nat)=(a:Nat)+1:=by rw[d];simp
  have G:=Lh h;clear d A h;refine AH κ ?_;go_simp;have A:ϐ U4 U4 (U4.alloc (χ #[X (H (I a 0)) x.f x.f.length] 22)):=AA _ _;refine⟨⟨AB (r.o.th A) jS.o,AB (r.o.th A) jT.o⟩,?_⟩;let⟨o,C⟩:=ε (λb=>if b=(a:Nat)then 100+16*s.q6.length+2 else c b:A1);have d:o (a:Nat)=100+16*s.q6.length+2:=by rw[C];exact if_pos rfl
  have V:AT NO c o a (U4.alloc (χ #[X (H (I a 0)) x.f x.f.length] 22)):=by have h:=r.o.th A;exact⟨h.os,h.tape,h.output,h.size,λb F _=>h.block b F,λb F=>by rw[C];exact if_neg K,no 0⟩
  have Y:∀b,(U4.alloc (χ #[X (H (I a 0)) x.f x.f.length] 22)).heap.size<=b->o b=0:=λb F=>by have:=G.o;simp at F;rw[C];show(if b=(a:Nat)then _ else _)=0;rw[if_neg K];exact E.o.2.2.1 b K
  have r:=Lh V;have N:=Lh ((Q.o o d).kp (T:=NO) (AT.ob A (no 0)) (no _));clear d;refine AH κ ?_;refine Dz (λk=>k=22) (.tmp 94) (.tmp 99) 34 22 rfl underlying34 Xa8 rfl δ δ (c:=o) (tag:=22) (v:=X M s.q6 P) (n:=s.q6.length) (xs:=jU) rfl (S.o.kp V (no _)) (I U4 0) 1 1 [X (H (I a 0)) x.f x.f.length] rfl rfl (λj u h=>by rw[GB,Nat.zero_add,B6];simpa using h) (by simp[Value.oneCell']) δ K rfl K Y (λG M F P S o Q iV=>?_);let⟨h,cg⟩:=jV.o F P (X (H (I G 0)) (s.q6.length+1) M) (X (H (I a 0)) x.f x.f.length) _ (ϱ x.f.length 0) (o.aft r.o) Q S ⟨x.f.length,by
   have:=N.o.1.kp o K;simpa using this⟩
  have a:=o.aft r.o;have N:=a.cell jS.o (Ϟ E.o.1 ω);have L:=a.cell jT.o (Ϟ hF.o.1 ω);have iU:=a.frozen E.o.2.1 E.o.2.2.2 (Ϟ E.o.1 ω);let⟨r,d⟩:=ε (F.setCell (I J 2) (X (H (I G 0)) (s.q6.length+1) M));rw[<-d]at h cg;have mR:Hid (∃c,SAt r c J (Xe3 m fuel cs (k+1))/\AT NZ kW c y r):=Lh ⟨P,by
   rw[jX.o,Xl2 nU.o]at h;exact h,VC.o.trans (cg.mono (λt nC=>by unfold NZ;omega) Qx)⟩
  have r:=Lh d;clear o Q S iV h cg a C V Y A d;refine⟨.inl ⟨N,L⟩,?_⟩;refine AH κ ?_;go_simp;refine BH ?_;clear N L iU;rw[<-r.o];clear r;go_wp2;go_roundw;exact⟨k+1,by have:=nV.o;omega,by go_num,mR⟩;have:=nV.o;simp[intOf];omega
 obtain rfl:k=m.N.length:=K;have mL:=@Lh (cs.length<=1000) (by have:=oB.o;omega);clear nK iW;go_upto_region 28 with fail;refine Ac (λ_=>True) [1,3,5,7,9,11,13,15] ϑ 16 rfl κ κ trivial ?_;refine Xac ?_;refine Xmq (q:=103) (n:=cs.length) (s:=Xe3 m fuel cs m.N.length) (bo:=(J:Nat)) (C0:=c) (kT.o.1.grow (AG Br 1)) mL.o (by show 103+7<116;omega) ⟨rfl,rfl⟩ ⟨rfl,rfl⟩ ⟨rfl,rfl⟩ ⟨rfl,rfl⟩ ⟨rfl,rfl⟩ ⟨rfl,rfl⟩ ⟨rfl,rfl⟩ ⟨rfl,rfl⟩ ⟨κ,κ,κ,κ⟩ ⟨rfl,rfl,rfl,rfl⟩ ⟨rfl,rfl,rfl,rfl⟩ (λf jW L lB nF=>?_);simp only[GS,Act.put,List.setIfInBounds_toArray,List.set_cons_zero,List.set_cons_succ];let⟨d,kD⟩:=ε (ff m fuel cs);have nD:({Xe3 m fuel cs m.N.length with q1:=ϱ cs.length Xat,results:=ϱ cs.length [],Z:=ϱ cs.length [],P:=ϱ cs.length []}:Tra)=d:=by rw[kD];unfold Xe3 ff;rw[List.take_length]
 rw[nD]at lB;have nT:=@Lh (Xez d) (by rw[kD];exact Xez.newS oK.o);have mX:=kT.o.2.trans ((AT.ob (AG Br 1) Qx).trans (nF.mono (λt nC=>by unfold NZ;omega) Qx));let⟨mT,mS⟩:=nY.o L jW mX;have kK:=g.o L (mQ.o.th mT);have R:=kK.t;have:=ϵ R;let⟨nQ,nR,_,mP,kH⟩:=(show X5 L jW _ (J:Nat) (Xag d)from lB);obtain⟨V,Y,iU,iV,iW,iX,iY,iZ,jA,jB,jC,jD,jE,jF,jG,jH,jI,jJ,jK,cQ,jL,jM,jN,jO,jP,jQ,jR,rfl⟩:=kH.shape;have:=ϵ mP;have:=ϴ R;have o:=Xab R (X V Y iU) (X iV iW iX) (X iY iZ jA) (O d.q3) (O d.Y) (X jB jC jD) (X jE jF jG) (X jH jI jJ) (X jK cQ jL) (X jM jN jO) (X jP jQ jR) (O d.q5) (O d.U);have g:AT (λt=>t=14) jW jW L (Xaa L ((w:Nat)+1+1) 0 [X V Y iU,X iV iW iX,X iY iZ jA,O d.q3,O d.Y,X jB jC jD,X jE jF jG,X jH jI jJ,X jK cQ jL,X jM jN jO,X jP jQ jR,O d.q5,O d.U]):=Xak mS K _ _ _;let⟨WE,a⟩:=ε (Xaa L ((w:Nat)+1+1) 0 [X V Y iU,X iV iW iX,X iY iZ jA,O d.q3,O d.Y,X jB jC jD,X jE jF jG,X jH jI jJ,X jK cQ jL,X jM jN jO,X jP jQ jR,O d.q5,O d.U]);rw[<-a]at o g;have h:ϐ w w WE:=by rw[a];exact Xal K _ _ kK.b
 have mY:Hid (Xdj cd m cs fuel w (.returned (.tuple #[.agg #[X V Y iU,X iV iW iX,X iY iZ jA,O d.q3,O d.Y,X jB jC jD,X jE jF jG,X jH jI jJ,X jK cQ jL,X jM jN jO,X jP jQ jR,O d.q5,O d.U],O 0])) WE):=Lh ⟨h,.inr ⟨oJ.o,_,rfl,by rw[<-kD];exact(kH.kp g (Xai λt nC=>by omega)).q4 nT.o⟩⟩;have kS:=Lh o;have kI:=Lh a;clear lB nF kD nD mX mT mS kK R nQ nR mP kH o g h a;go_wp2_with fail;rw[Xaf,<- kI.o];exact ϖ (Xa0 (p:=8) (u:=9) rfl kS.o _ rfl rfl) rfl mY.o