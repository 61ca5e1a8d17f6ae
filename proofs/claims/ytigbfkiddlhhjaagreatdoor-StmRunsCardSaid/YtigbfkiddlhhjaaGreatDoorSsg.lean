import Derived.Test.YtigbfkiddlhhjaaGreatDoorSsd
set_option maxHeartbeats 8000000
set_option maxRecDepth 1000000
set_option linter.all false
open Go renaming World→Ϣ,Value→ϒ,Calls→ϙ,bodyPost_ret→ϖ
open Go.RowKit renaming Below→ϐ
open Option renaming some→H
open Bool renaming false→ϝ,true→ϑ
open And renaming intro→ϟ
open List renaming replicate→ϱ,mem_cons→ϰ
open Go.Value renaming slice→O
open Go.Obj renaming cells→Z
namespace Go.Proofs.YtigbfkiddlhhjaaGreatDoor
open Go.RowKit Proofs.Tryz
open Go.RowKit renaming ι→X,ν→D,π→U,ω→K
variable{p q b n i x:Nat}{w0 w V w2 W w':Ϣ}{vs:List ϒ}{s:Tra}{c C0:A1}{cd:AQ}{m:Mm}{v c0 c1 c2 g0 g1 lv:ϒ}{a0 a:Act}{done:List Nat}{S:Ϣ->Prop}{Q:Exit->Act->Ϣ->Prop}{fuel:Int}{cs:List (List Bi)}
def Xn3(s:Tra)(vs:List ϒ)(t:Int)(w:Ϣ)(i:TraVs (w:Nat) w vs s)(N:s.A.length=s.q1.length)(bS:s.q1.length<=8)(bS:s.U<=65536):ϙ prog 42 #[.agg vs.toArray,X t] w (NuI (Xa1 s t) w):=by
 obtain⟨_,_,_,_,_,_,_,_,_,rfl,x,p,i,q,k,y,r,v,u⟩:=i;obtain⟨bH,bK,rfl⟩:=x.u1;obtain⟨bF,bI,rfl⟩:=p.u1;obtain⟨V,bE,rfl⟩:=i.u1;obtain⟨bD,bG,rfl⟩:=q.u1;obtain⟨T,Y,rfl⟩:=k.u1;obtain⟨R,S,rfl⟩:=y.u1;obtain⟨P,Q,rfl⟩:=r.u1;obtain⟨L,M,rfl⟩:=v.u1;obtain⟨G,J,rfl⟩:=u.u1;let⟨W,d⟩:=ε (w.alloc (Z #[O bH s.M.G bK,O bF s.M.N bI,O V s.q6 bE,X s.q3,X s.Y,O bD s.q1 bG,O T s.A Y,O R s.results S,O P s.Z Q,O L s.P M,O G s.q7 J,X s.q5,X s.U] 39));have j:=bl1 d;have n:=Xao d;have:=ϵ n;have:IntKind.i64.wrap ((s.q1:Int)-1)=(s.q1:Int)-1:=by rw[IntKind.wrap_i64]<;>omega
 have E:=Lh j;have m:=Lh (Xhz t 0 ((s.q1:Int)-1) W);let⟨z,b⟩:=ε (Xiz t 0 ((s.q1:Int)-1));rw[<-b]at m;by_cases B:0<=t/\t<=(s.q1:Int)-1;rotate_left
 .have C:z=ϝ:=by rw[b];unfold Xiz;by_cases bO:0<=t<;>simp[bO];omega
  have bJ:=@Lh (Xa1 s t=2) (by unfold Xa1;rw[if_pos K]);subst C;clear N x p i q k y r v u j n B b;go_in;go_upto_region 1 with fail;rw[<-d];clear d;go_wp2_with fail;refine m.o.mono ?_;rintro bP w2⟨rfl,rfl⟩;go_wp2;go_ret;exact⟨by rw[bJ.o];rfl,E.o⟩
 have o:z=ϑ:=by rw[b];unfold Xiz;simp[B]
 subst o;obtain⟨c,rfl⟩:∃c:Nat,t=c:=⟨t.toNat,K⟩;let⟨a,h⟩:=Ϡ s.A c;obtain⟨_,_,rfl,F,lv,g,l⟩:=k.nth h;obtain⟨_,_,rfl⟩:=l.u1;rw[Nat.mul_one]at g;have:=AB j g;have:=In c;have:(c:Int)<(s.A:Int):=K;have A:=@Lh (Xa1 s c=if a=[]then 14 else if 65536<=s.U then 6 else 0) (by unfold Xa1;rw[if_neg K,Int.toNat_natCast,Xau h]);clear b B;by_cases b:a.length=0
 .have:(a.length==0)=ϑ:=by simpa using b
  have:((a:Int)==0)=ϑ:=by simp;exact List.eq_nil_of_length_eq_zero b
  have bN:=@Lh (Xa1 s c=14) (by rw[A.o,if_pos (List.eq_nil_of_length_eq_zero b)]);clear N x p i q k y r v u j n b h F g l;go_in;go_upto_region 1 with fail;rw[<-d];clear d;go_wp2_with fail;refine m.o.mono ?_;rintro bQ w2⟨rfl,rfl⟩;go_wp2;go_ret;exact⟨by rw[bN.o];rfl,E.o⟩
 have:(a.length==0)=ϝ:=by simpa using b
 have:((a:Int)==0)=ϝ:=by simp only[beq_eq_false_iff_ne,ne_eq];omega
 have f:a≠[]:=λa=>b (by rw[a];rfl);by_cases e:s.U=65536
 .have:=ζ s.U 65536 e
  have bL:=@Lh (Xa1 s c=6) (by rw[A.o,if_neg f,if_pos K]);clear N x p i q k y r v u j n b h F g l f e;go_in;go_upto_region 1 with fail;rw[<-d];clear d;go_wp2_with fail;refine m.o.mono ?_;rintro bR w2⟨rfl,rfl⟩;go_wp2;go_ret;exact⟨by rw[bL.o];rfl,E.o⟩
 have:=ξ s.U 65536 e;have bM:=@Lh (Xa1 s c=0) (by rw[A.o,if_neg f,if_neg K]);clear N x p i q k y r v u j n b h F g l f e;go_in;go_upto_region 1 with fail;rw[<-d];clear d;go_wp2_with fail;refine m.o.mono ?_;rintro d w2⟨rfl,rfl⟩;go_wp2;go_ret;exact⟨by rw[bM.o];rfl,E.o⟩
def Xm1(s:Tra)(vs:List ϒ)(w:Ϣ)(f:TraVs (w:Nat) w vs s)(bA:s.A.length<=1000000):ϙ prog 44 #[.agg vs.toArray] w (Xnl s w):=by
 obtain⟨e,g,l,p,r,x,q,u,t,rfl,h,j,k,m,o,y,z,A,C⟩:=id f;let⟨W,d⟩:=ε (w.alloc (Z #[e,g,l,X s.q3,X s.Y,p,r,x,q,u,t,X s.q5,X s.U] 39));have aW:=Lh (bl1 d);have g:Xc9 W (w:Nat) s:=⟨_,f.ups aW.o.size (JT.below aW.o),λl v e=>by
  rw[cell_of_row _ _ _ _ _ _ (Xao d),List.getElem?_toArray];exact e⟩
 let⟨_,_,e⟩:=g.callsR;have M:=Lh e;have aX:Hid (Xlp s W 0 D (λ_=>0) W):=Lh ⟨⟨Ao.nil _ _ _ _ _,λn l=>by simp[enS]at l⟩,AT.ob Br δ,λ_ _=>rfl⟩;clear f h j k m o y z A C g e;go_in;go_upto_region 1 with fail;rw[<-d];clear d;go_wp2_with fail;go_loopw[3,4] (λv i wr=>∃(e:Nat)(a:Option Addr)(n g:Nat),e<=s.A.length/\n<=e/\v=O a n g/\i=X e/\Hid (n=(enS s e).length/\∃c,Xlp s W e (O a n g) c wr)) (λ_ i _=>s.A.length-(intOf i).toNat);exact⟨0,none,0,0,Nat.zero_le _,Nr _,rfl,rfl,Lh ⟨rfl,_,aX.o⟩⟩;obtain⟨d,a,n,R,_,_,rfl,rfl,f⟩:=hrel;let⟨e,c,f⟩:=f.o;have o:=Lh e;have PU:=Lh f;clear f e;have P:=Lh (PU.o.chg.below (B:=(W:Nat)) (λ_ _=>rfl) (Nr _));have:=AB P.o M.o.hd;by_cases aZ:d<s.A.length
 .obtain ⟨f,j⟩:=Ϡ s.A d aZ
  obtain⟨b,_,_,_,rfl,k⟩:=M.o.el d f j;have:=AB P.o k;have:=In d;have:(d:Int)<(s.A:Int):=K;have Y:=@Lh (Xdp s d=decide (0<f.length)) (by unfold Xdp;rw[Xau j]);by_cases F:0<f.length
  .have e:=η (0<f.length)
   have S:=@Lh (Xdp s d=ϑ) (by rw[Y.o,e]);have aY:=@Lh (Dq (wr.alloc (Z #[X (d:Int)] 3)) c 1 (O a n R) (enS s d)) (PU.o.row.kp (T:=NO) (AT.ob (AA _ _) (no 0)) (no _));have aV:=@Lh (∀b,(wr.alloc (Z #[X (d:Int)] 3)).heap.size<=b->c b=0) (λb e=>PU.o.hi b (by simp at e;omega));have V:=@Lh ((wr.alloc (Z #[X (d:Int)] 3)).cell? (U wr 0)=H (X (d:Int))) (B6 wr _ _ 0);have N:=@Lh (n<=1000000) K;have L:=@Lh (in64 (d:Int)) (by unfold in64;omega);clear F k;go_upto_region 4 with ((with_reducible refine ju rfl (.tmp 19) (.tmp 21) rfl (c:=c) a n R (enS s d) rfl o.o aY.o (wr:Nat) (d:Int) rfl V.o L.o N.o aV.o ?_);intro y A C z h g e;have E:=Lh h;have J:=Lh g;have G:=Lh e;clear h g e);have Q:Hid (Xlp s W (d+1) (O (H (U y 0)) (n+1) A) z C):=Lh ⟨by rw[Xe1 S.o];exact E.o,PU.o.chg.trans ((AT.ob (AA _ _) δ).trans J.o),G.o⟩;go_wp2;go_roundw;exact⟨d+1,_,n+1,_,K,K,rfl,by go_num,Lh ⟨by rw[Xe1 S.o,List.length_append,o.o];rfl,_,Q.o⟩⟩;simp[intOf];omega
  have e:=θ (0<f.length);have h:=@Lh (Xdp s d=ϝ) (by rw[Y.o,e]);clear F k;go_wp2;go_roundw;exact⟨d+1,_,n,_,K,K,rfl,by go_num,Lh ⟨by rw[Xgi h.o,o.o],_,by rw[Xgi h.o];exact PU.o.row,PU.o.chg,PU.o.hi⟩⟩;simp[intOf];omega
 have m:d=s.A.length:=K;subst m;have k:=o.o;subst k;go_wp2;go_ret;exact⟨a,R,rfl,aW.o.th P.o,PU.o.row.q4⟩
def rdS(p q:Nat):A1:=λb=>if b=p\/b=q then 14 else 0
def Xkq(a:b≠p/\b≠q):rdS p q b=0:=if_neg K
def RdS(p q:Nat)(w:Ϣ)(vs:List ϒ)(s:Tra):Prop:=∀V,AT (λt=>t=14) (rdS p q) (rdS p q) w V->TraVs V.heap.size V vs s
def Xhu(a:(w0:Nat)<=p/\(w0:Nat)<=q)(a:ϐ w0 w0 w)(c:AT (λd=>d=14) (rdS p q) (rdS p q) w V):ϐ w0 w0 V:=
 ⟨c.os.trans a.os,c.tape.trans a.tape,c.output.trans a.output,Nt a.size c.size,λb d=>(c.kp b (Nl d a.size) (by rw[Xkq K];omega)).trans (a.block b d)⟩
def RdS.low(e:TraVs (w0:Nat) w0 vs s)(d:ϐ w0 w0 w)(c:(w0:Nat)<=p/\(w0:Nat)<=q):RdS p q w vs s:=λV b=>by
 have a:=Xhu c d b;exact e.ups a.size (JT.below a)
def RdS.val(h:Xcr w c vs s)(i:Xez s)(e:c p=14/\c q=14):RdS p q w vs s:=λV a=>by
 have g:AT (λd=>d=14) c c w V:=⟨a.os,a.tape,a.output,a.size,λb f d=>a.kp b f (by
  rw[Xkq ⟨λa=>d (by rw[a];exact e.1),λa=>d (by rw[a];exact e.2)⟩];omega),λb _=>rfl,K⟩
 exact(h.1.kp g (Xai λd a=>by omega)).q4 i
def RdS.go(c:RdS p q w vs s)(b:AT (λa=>a=14) (rdS p q) (rdS p q) w w2):RdS p q w2 vs s:=λV a=>c V (b.trans a)
def RdS.now(a:RdS p q w vs s):TraVs (w:Nat) w vs s:=a w (AT.ob Br K)
def Xbg(b:ϐ w w w2):AT (λa=>a=14) (rdS p q) (rdS p q) w w2:=AT.ob b K
def Xdi(d:b=p\/b=q)(c:List ϒ)(w:Ϣ)(o:Nat):AT (λa=>a=14) (rdS p q) (rdS p q) w (Xaa w b o c):=Xak (by show rdS p q b=14;exact if_pos d) K _ _ _
structure Xl8(cd:AQ)(fa ga:Option Addr)(fc gc:Nat)(w:Ϣ)(kb sb rb:Nat)(V:Ϣ):Prop where
 kbx:V.heap[kb]?=H (Z (Bc fa fc ga gc cd) 25 (0,0))
 bel:ϐ w w V
 ctx:Xbl cd (.agg (Bc fa fc ga gc cd)) (w:Nat) w V (Xiu (V:Nat))
def Xl8.of{e f:Option Addr}{a d:Nat}{c sb rb:Nat}(n:C8 w)(m:BF w w (.agg (Bc e a f d cd)) cd)(l:ϐ w w W)(h:W.heap[c]?=H (Z (Bc e a f d cd) 25 (0,0)))(j:(w:Nat)<=sb/\(w:Nat)<=rb)(k:c≠sb/\c≠rb)(g:AT (λi=>i=14) (rdS sb rb) (rdS sb rb) W V):Xl8 cd e f a d w c sb rb V:=by
 have a:=Xhu j l g;exact⟨(g.kp c (La h) (by rw[Xkq k];omega)).trans h,a,⟨n,rfl,a,m.below a,λb c=>by rw[Xcn (Nl c a.size)];exact Io⟩⟩
def Xkp(cd:AQ)(s:Tra)(l:List Int)(w:Ϣ)(e:Ending)(w':Ϣ):Prop:=ϐ w w w'/\∃(i:Nat)(s':Tra)(vs':List ϒ),i<=l.length/\Xbk cd s (l.take i) s'/\Xba cd s'/\s'.q1.length=s.q1.length/\(i=l.length\/∃t,l[i]?=H t/\Xa1 s' t≠0)/\e=.returned (.tuple #[.agg vs'.toArray,X (i:Int)])/\TraVs (w':Nat) w' vs' s'
def pm(cd:AQ)(hR hV:Option Addr)(hQ hS:Nat)(s:Tra)(vs:List ϒ)(l:List Int)(n:Option Addr)(d:Nat)(w:Ϣ)(kD:C8 w)(kG:Bv cd)(kB:BF w w (.agg (Bc hR hQ hV hS cd)) cd)(iM:TraVs (w:Nat) w vs s)(kC:Xba cd s)(hl:AE w w 1 Aj (O n l d) l)(kF:l.length<=1000000) :
  ϙ prog 14 #[.agg (Bc hR hQ hV hS cd),.agg vs.toArray,O n l d] w (Xkp cd s l w):=by
 obtain⟨hX,hY,hZ,iA,iB,iC,iD,iE,iF,rfl⟩:=iM.v9;let⟨W,a⟩:=ε (((w.alloc (Z (Bc hR hQ hV hS cd) 25)).alloc (Z #[hX,hY,hZ,X s.q3,X s.Y,iA,iB,iC,iD,iE,iF,X s.q5,X s.U] 39)).alloc (Z #[D,D,D,X 0,X 0,D,D,D,D,D,D,X 0,X 0] 39));have hF:=bl3 a;have gW:=Xda a;have n:=Xcs a;have d:=Xbs a;let⟨gV,g⟩:=ε (w:Nat);let⟨e,f⟩:=ε (gV+1);let⟨k,c⟩:=ε (e+1);rw[<-g]at gW n d;rw[<-f]at n d;rw[<-c]at d;have kA:=@Lh (((w:Nat)<=e/\(w:Nat)<=k)/\(gV≠e/\gV≠k)/\e≠k) K;have kE:=@Lh (∀V,AT (λm=>m=14) (rdS e k) (rdS e k) W V->Xl8 cd hR hV hQ hS w gV e k V) (λV gZ=>Xl8.of kD kB hF gW kA.o.1 kA.o.2.1 gZ);let⟨jY,jW,kQ,jX,kP,kN⟩:=Λ6 d n (ϟ kC kG) (RdS.low iM hF kA.o.1:RdS e k W [hX,hY,hZ,X s.q3,X s.Y,iA,iB,iC,iD,iE,iF,X s.q5,X s.U] s) hl kF;go_in;go_upto_region 1 with fail;rw[<-a,<- g,<- f,<- c];clear a g f c;go_wp2_with fail;go_loopw[8] (λi wr=>∃d:Nat,d<=l.length/\i=X d/\Hid (∃n a,AT (λm=>m=14) (rdS e k) (rdS e k) W wr/\wr.heap[e]?=H (Z (List.toArray n) 39 (0,0))/\wr.heap[k]?=H (Z #[D,D,D,X 0,X 0,D,D,D,D,D,D,X 0,X 0] 39 (0,0))/\RdS e k wr n a/\Xbk cd s (l.take d) a/\Xba cd a/\a.q1.length=s.q1.length)) (λi _=>l.length-(intOf i).toNat);exact⟨0,Nat.zero_le _,rfl,Lh ⟨_,s,AT.ob Br K,jW.o,jY.o,jX.o,by rw[List.take_zero];exact .nil,kQ.o.1,rfl⟩⟩;obtain⟨gS,_,rfl,hD⟩:=hrel;let⟨_,a,gR,gT,iG,r,iH,iI,iJ⟩:=hD.o;obtain⟨fQ,fR,fS,fT,fU,fV,fW,fX,fY,fZ,gA,gB,gC,gD,gE,gF,gG,gH,gI,gJ,gK,gL,gM,gN,gO,gP,gQ,rfl⟩:=(r.now).shape;have h:=Lh (ϟ gR (ϟ gT (ϟ iG (ϟ r (ϟ iH (ϟ iI iJ))))));have hB:=Lh (kE.o wr gR);have d:=row13 gT;have jE:=d 0 _ rfl;have jD:=d 1 _ rfl;have jC:=d 2 _ rfl;have jB:=d 3 _ rfl;have jA:=d 4 _ rfl;have iZ:=d 5 _ rfl;have iY:=d 6 _ rfl;have iX:=d 7 _ rfl;have iW:=d 8 _ rfl;have iU:=d 9 _ rfl;have iT:=d 10 _ rfl;have iS:=d 11 _ rfl;have iR:=d 12 _ rfl;have:=kN.o;by_cases kT:gS<l.length
 .obtain ⟨m,o⟩:=Ϡ l gS kT
  obtain⟨kI,kJ,rfl,-,hJ,-⟩:=(kP.o.ups B5 hB.o.bel.size (JT.below hB.o.bel)).nth o;rw[Nat.mul_one]at hJ;have kV:=Lh o;have kR:=Lh kT;have:=In gS;have:(gS:Int)<(l:Int):=K;have kH:=Lh (λd n=>Xn3 a _ m d ((h.o.2.2.2.1.go (Xbg n)).now) h.o.2.2.2.2.2.1.inv.A h.o.2.2.2.2.2.1.eight h.o.2.2.2.2.2.1.steps);go_upto_region 4 with fail;refine wp_region_bel (λV h=>ϟ (AB h jE) (ϟ (AB h jD) (ϟ (AB h jC) (ϟ (AB h jB) (ϟ (AB h jA) (ϟ (AB h iZ) (ϟ (AB h iY) (ϟ (AB h iX) (ϟ (AB h iW) (ϟ (AB h iU) (ϟ (AB h iT) (ϟ (AB h iS) (ϟ (AB h iR) (AB h hJ)))))))))))))) [5,6] ϝ 7 rfl κ κ ?_;refine Xac ?_;have hM:=Lh (ϟ jE (ϟ jD (ϟ jC (ϟ jB (ϟ jA (ϟ iZ (ϟ iY (ϟ iX (ϟ iW (ϟ iU (ϟ iT (ϟ iS (ϟ iR hJ)))))))))))));refine AH κ ?_;go_simp;refine(kH.o _ (AG Br 1)).mono ?_;rintro n hK⟨rfl,d⟩;have hA:=Lh ((AG Br 1).th d:ϐ wr wr hK);refine⟨Θ14 hA.o hM.o,?_⟩;let⟨re,d⟩:=ε (Xa1 a m);rw[<-d];have kU:=Lh d;clear d;refine AH κ ?_;go_simp;refine⟨Θ14 hA.o hM.o,?_⟩;refine BH ?_;have d:=h.o.1.trans (Xbg hA.o);have jU:=Lh (kE.o hK d);have kK:=Lh d;have n:=(hA.o.block _ (La h.o.2.1)).trans h.o.2.1;have d:=(hA.o.block _ (La h.o.2.2.1)).trans h.o.2.2.1;have hE:=Lh (ϟ n d);have d:=row13 n;have jS:=d 0 _ rfl;have jR:=d 1 _ rfl;have jQ:=d 2 _ rfl;have jP:=d 3 _ rfl;have jN:=d 4 _ rfl;have jM:=d 5 _ rfl;have jL:=d 6 _ rfl;have jK:=d 7 _ rfl;have jJ:=d 8 _ rfl;have jI:=d 9 _ rfl;have jH:=d 10 _ rfl;have jG:=d 11 _ rfl;have jF:=d 12 _ rfl;by_cases jO:re=0
  .have:=ρ re 0 jO
   have kO:=@Lh (Xa1 a m=0) (by rw[<-kU.o];exact jO);obtain⟨i,iK,iL,rfl,iQ,gU⟩:=Xe2 kO.o;have d:=jU.o.kbx;let⟨iN,iO,iP⟩:=Ω3 d;have iV:=AB hA.o hM.o.2.2.2.2.2.2.2.2.2.2.2.2.2;have kS:=Lh gU;have kL:=Lh (λd n=>Xhv cd hR hV hQ hS (w:Nat) a _ (Xiu d.heap.size) i iK iL w d (kE.o d (kK.o.trans (Xbg n))).ctx kQ.o.2 ((h.o.2.2.2.1.go (Xbg (hA.o.th n))).now) (λb d=>Xea d) h.o.2.2.2.2.2.1 iQ gU);go_upto_region 6 with fail;refine wp_region_bel (λV h=>ϟ (AB h iN) (ϟ (AB h iO) (ϟ (AB h iP) (ϟ (AB h jS) (ϟ (AB h jR) (ϟ (AB h jQ) (ϟ (AB h jP) (ϟ (AB h jN) (ϟ (AB h jM) (ϟ (AB h jL) (ϟ (AB h jK) (ϟ (AB h jJ) (ϟ (AB h jI) (ϟ (AB h jH) (ϟ (AB h jG) (ϟ (AB h jF) (AB h iV))))))))))))))))) [6,7] ϑ 8 rfl κ κ ?_;refine Xac ?_;have g:=Lh (ϟ iN (ϟ iO (ϟ iP (ϟ jS (ϟ jR (ϟ jQ (ϟ jP (ϟ jN (ϟ jM (ϟ jL (ϟ jK (ϟ jJ (ϟ jI (ϟ jH (ϟ jG (ϟ jF iV))))))))))))))));refine AH κ ?_;go_simp;refine(kL.o _ (AG Br 1)).mono ?_;rintro c hN gY;obtain⟨f,_,c2,jZ,rfl,hI,j⟩:=gY;obtain⟨t,v,x,y,z,A,B,C,E,F,G,J,L,M,N,P,Q,R,S,T,Y,cQ,fL,fM,fN,fO,fP,rfl⟩:=hI.1.shape;have n:=(AG Br 1).th ⟨j.os,j.tape,j.output,j.size,λb c=>j.kp b c (by rw[Xcn c];exact Io)⟩;have c:=Lh n;have o:=Xba.stepS h.o.2.2.2.2.2.1 jZ kS.o;have r:∀b,b<(hK:Nat)->c2 b=14:=λb gR=>by have d:=Nl gR (AG (Below.refl (hK:Nat) hK) 1).size;rw[j.old b d,Xcn d]
   have j:=(La hE.o.1);have gR:=(La hE.o.2);have gW:=RdS.val hI (o.1.inv.wf o.1.outs o.1.steps) ⟨r e j,r k gR⟩;have d:=(n.block e j).trans hE.o.1;have:=ϵ d;have:=ϴ d;let⟨j,gT⟩:=ε (Xaa hN e 0 [O t v x,O y z A,O B C E,X f.q3,X f.Y,O F G J,O L M N,O P Q R,O S T Y,O cQ fL fM,O fN fO fP,X f.q5,X f.U]);have r:=Xdi (p:=e) (q:=k) (b:=e) (.inl rfl) [O t v x,O y z A,O B C E,X f.q3,X f.Y,O F G J,O L M N,O P Q R,O S T Y,O cQ fL fM,O fN fO fP,X f.q5,X f.U] hN 0;have gV:=Xab d (O t v x) (O y z A) (O B C E) (X f.q3) (X f.Y) (O F G J) (O L M N) (O P Q R) (O S T Y) (O cQ fL fM) (O fN fO fP) (X f.q5) (X f.U);have gU:=(Xb8 (λd=>kA.o.2.2 d.symm) (Nl gR n.size):(Xaa hN e 0 [O t v x,O y z A,O B C E,X f.q3,X f.Y,O F G J,O L M N,O P Q R,O S T Y,O cQ fL fM,O fN fO fP,X f.q5,X f.U]).heap[k]?=_).trans ((n.block k gR).trans hE.o.2);rw[<-gT]at r gV gU;have kM:Hid (∃d a,AT (λm=>m=14) (rdS e k) (rdS e k) W j/\j.heap[e]?=H (Z (List.toArray d) 39 (0,0))/\j.heap[k]?=H (Z #[D,D,D,X 0,X 0,D,D,D,D,D,D,X 0,X 0] 39 (0,0))/\RdS e k j d a/\Xbk cd s (l.take (gS+1)) a/\Xba cd a/\a.q1.length=s.q1.length):=Lh ⟨[O t v x,O y z A,O B C E,X f.q3,X f.Y,O F G J,O L M N,O P Q R,O S T Y,O cQ fL fM,O fN fO fP,X f.q5,X f.U],f,(kK.o.trans (Xbg n)).trans r,gV,gU,gW.go r,by
    rw[List.take_add_one,kV.o];exact .snoc h.o.2.2.2.2.1 kO.o (by rw[Int.toNat_natCast];exact jZ),o.1,o.2.trans h.o.2.2.2.2.2.2⟩
   have d:=Lh gT;clear gT;refine⟨⟨AB c.o (g.o.1),AB c.o (g.o.2.1),AB c.o (g.o.2.2.1),AB c.o (g.o.2.2.2.1),AB c.o (g.o.2.2.2.2.1),AB c.o (g.o.2.2.2.2.2.1),AB c.o (g.o.2.2.2.2.2.2.1),AB c.o (g.o.2.2.2.2.2.2.2.1),AB c.o (g.o.2.2.2.2.2.2.2.2.1),AB c.o (g.o.2.2.2.2.2.2.2.2.2.1),AB c.o (g.o.2.2.2.2.2.2.2.2.2.2.1),AB c.o (g.o.2.2.2.2.2.2.2.2.2.2.2.1),AB c.o (g.o.2.2.2.2.2.2.2.2.2.2.2.2.1),AB c.o (g.o.2.2.2.2.2.2.2.2.2.2.2.2.2.1),AB c.o (g.o.2.2.2.2.2.2.2.2.2.2.2.2.2.2.1),AB c.o (g.o.2.2.2.2.2.2.2.2.2.2.2.2.2.2.2.1),AB c.o (g.o.2.2.2.2.2.2.2.2.2.2.2.2.2.2.2.2)⟩,?_⟩;refine AH κ ?_;go_simp;rw[Xaf,<- d.o];refine BH ?_;go_wp2;go_roundw;exact⟨gS+1,by have:=kR.o;omega,by go_num,kM⟩;have:=kR.o;simp[intOf];omega
  have:=τ re 0 jO;have g:=@Lh (Xa1 a m≠0) (by rw[<-kU.o];exact jO);have:=ϵ hE.o.2;have:=ϴ hE.o.2;have d:=Xdi (p:=e) (q:=k) (b:=k) (.inr rfl) [O fQ fR fS,O fT fU fV,O fW fX fY,X a.q3,X a.Y,O fZ gA gB,O gC gD gE,O gF gG gH,O gI gJ gK,O gL gM gN,O gO gP gQ,X a.q5,X a.U] hK 0;have f:=Xab hE.o.2 (O fQ fR fS) (O fT fU fV) (O fW fX fY) (X a.q3) (X a.Y) (O fZ gA gB) (O gC gD gE) (O gF gG gH) (O gI gJ gK) (O gL gM gN) (O gO gP gQ) (X a.q5) (X a.U);let⟨WE,c⟩:=ε (Xaa hK k 0 [O fQ fR fS,O fT fU fV,O fW fX fY,X a.q3,X a.Y,O fZ gA gB,O gC gD gE,O gF gG gH,O gI gJ gK,O gL gM gN,O gO gP gQ,X a.q5,X a.U]);rw[<-c]at d f;have jV:Hid (Xkp cd s l w (.returned (.tuple #[.agg #[O fQ fR fS,O fT fU fV,O fW fX fY,X a.q3,X a.Y,O fZ gA gB,O gC gD gE,O gF gG gH,O gI gJ gK,O gL gM gN,O gO gP gQ,X a.q5,X a.U],X (gS:Int)])) WE):=Lh ⟨(kE.o WE (kK.o.trans d)).bel,gS,a,[O fQ fR fS,O fT fU fV,O fW fX fY,X a.q3,X a.Y,O fZ gA gB,O gC gD gE,O gF gG gH,O gI gJ gK,O gL gM gN,O gO gP gQ,X a.q5,X a.U],by have:=kR.o;omega,h.o.2.2.2.2.1,h.o.2.2.2.2.2.1,h.o.2.2.2.2.2.2,.inr ⟨m,kV.o,g.o⟩,rfl,((h.o.2.2.2.1.go (Xbg hA.o)).go d).now⟩;have hP:=Lh f;have hH:=Lh c;clear c;go_wp2_with fail;rw[Xaf,<- hH.o];exact ϖ (Xa0 (p:=6) (u:=7) rfl hP.o _ rfl rfl) rfl jV.o
 have gX:gS=l.length:=K;subst gX;have:=ϵ h.o.2.2.1;have:=ϴ h.o.2.2.1;have d:=Xdi (p:=e) (q:=k) (b:=k) (.inr rfl) [O fQ fR fS,O fT fU fV,O fW fX fY,X a.q3,X a.Y,O fZ gA gB,O gC gD gE,O gF gG gH,O gI gJ gK,O gL gM gN,O gO gP gQ,X a.q5,X a.U] wr 0;have e:=Xab h.o.2.2.1 (O fQ fR fS) (O fT fU fV) (O fW fX fY) (X a.q3) (X a.Y) (O fZ gA gB) (O gC gD gE) (O gF gG gH) (O gI gJ gK) (O gL gM gN) (O gO gP gQ) (X a.q5) (X a.U);let⟨WE,c⟩:=ε (Xaa wr k 0 [O fQ fR fS,O fT fU fV,O fW fX fY,X a.q3,X a.Y,O fZ gA gB,O gC gD gE,O gF gG gH,O gI gJ gK,O gL gM gN,O gO gP gQ,X a.q5,X a.U]);rw[<-c]at d e;have jT:Hid (Xkp cd s l w (.returned (.tuple #[.agg #[O fQ fR fS,O fT fU fV,O fW fX fY,X a.q3,X a.Y,O fZ gA gB,O gC gD gE,O gF gG gH,O gI gJ gK,O gL gM gN,O gO gP gQ,X a.q5,X a.U],X (l:Int)])) WE):=Lh ⟨(kE.o WE (h.o.1.trans d)).bel,l.length,a,[O fQ fR fS,O fT fU fV,O fW fX fY,X a.q3,X a.Y,O fZ gA gB,O gC gD gE,O gF gG gH,O gI gJ gK,O gL gM gN,O gO gP gQ,X a.q5,X a.U],Nr _,h.o.2.2.2.2.1,h.o.2.2.2.2.2.1,h.o.2.2.2.2.2.2,.inl rfl,rfl,(h.o.2.2.2.1.go d).now⟩;have hO:=Lh e;have hG:=Lh c;clear c;go_wp2_with fail;rw[Xaf,<- hG.o];exact ϖ (Xa0 (p:=6) (u:=7) rfl hO.o _ rfl rfl) rfl jT.o
def Xiw(cd:AQ)(s:Tra)(w:Ϣ)(e:Ending)(w':Ϣ):Prop:=ϐ w w w'/\((∃s1 vs',Xbd cd s s1/\Xba cd s1/\enS s1 s1.A.length=[]/\e=.returned (.tuple #[.agg (List.toArray vs'),X 0,.bool ϑ])/\TraVs (w':Nat) w' vs' s1)\/(∃s1,Xbd cd s s1/\Xba cd s1/\(65536<=s1.U/\enS s1 s1.A.length≠[])/\e=.returned (.tuple #[.agg #[D,D,D,X 0,X 0,D,D,D,D,D,D,X 0,X 0],X 6,.bool ϑ]))\/e=.returned (.tuple #[.agg #[D,D,D,X 0,X 0,D,D,D,D,D,D,X 0,X 0],X 0,.bool ϝ]))
def Xjw(cd:AQ)(iO iR:Option Addr)(iN iQ:Nat)(s:Tra)(vs:List ϒ)(w:Ϣ)(jN:C8 w)(jP:Bv cd)(jM:BF w w (.agg (Bc iO iN iR iQ cd)) cd)(iL:TraVs (w:Nat) w vs s)(jL:Xba cd s) :
  ϙ prog 15 #[.agg (Bc iO iN iR iQ cd),.agg vs.toArray,X 1500] w (Xiw cd s w):=by
 obtain⟨gS,gT,gU,hB,hD,hF,hG,hH,hI,rfl⟩:=iL.v9;let⟨W,c⟩:=ε (((w.alloc (Z (Bc iO iN iR iQ cd) 25)).alloc (Z #[gS,gT,gU,X s.q3,X s.Y,hB,hD,hF,hG,hH,hI,X s.q5,X s.U] 39)).alloc (Z #[D,D,D,X 0,X 0,D,D,D,D,D,D,X 0,X 0] 39));have gF:=bl3 c;have gA:=Xda c;have y:=Xcs c;have l:=Xbs c;let⟨gN,g⟩:=ε (w:Nat);let⟨f,e⟩:=ε (gN+1);let⟨h,d⟩:=ε (f+1);rw[<-g]at gA y l;rw[<-e]at y l;rw[<-d]at l;have jR:=@Lh (((w:Nat)<=f/\(w:Nat)<=h)/\(gN≠f/\gN≠h)/\f≠h) K;have iX:=@Lh (∀V,AT (λfZ=>fZ=14) (rdS f h) (rdS f h) W V->Xl8 cd iO iR iN iQ w gN f h V) (λV fZ=>Xl8.of jN jM gF gA jR.o.1 jR.o.2.1 fZ);let⟨jG,jE,kM,jF⟩:=Λ4 l y (ϟ jL jP) (RdS.low iL gF jR.o.1:RdS f h W [gS,gT,gU,X s.q3,X s.Y,hB,hD,hF,hG,hH,hI,X s.q5,X s.U] s);go_in;go_upto_region 1 with fail;rw[<-c,<- g,<- e,<- d];clear c g e d;go_wp2_with fail;go_loopw[9] (λi wr=>∃l:Nat,l<=1500/\i=X l/\Hid (∃y l,AT (λfZ=>fZ=14) (rdS f h) (rdS f h) W wr/\wr.heap[f]?=H (Z (List.toArray y) 39 (0,0))/\wr.heap[h]?=H (Z #[D,D,D,X 0,X 0,D,D,D,D,D,D,X 0,X 0] 39 (0,0))/\RdS f h wr y l/\Xbd cd s l/\Xba cd l)) (λi _=>1501-(intOf i).toNat);exact⟨0,Nat.zero_le _,rfl,Lh ⟨_,s,AT.ob Br K,jE.o,jG.o,jF.o,.nil s,kM.o.1⟩⟩;obtain⟨iM,_,rfl,gE⟩:=hrel;let⟨_,d,gR,fV,hO,r,iK,t⟩:=gE.o;obtain⟨gV,gW,gX,gY,gZ,hA,hJ,hK,hM,hP,hQ,hR,hS,hV,hX,hY,hZ,iA,iB,iC,iD,iE,iF,iG,iH,iI,iJ,rfl⟩:=(r.now).shape;have o:=Lh (ϟ gR (ϟ fV (ϟ hO (ϟ r (ϟ iK t)))));have:=ϵ fV;have hN:=Lh (Xm1 d _ wr r.now (by rw[t.inv.A];have:=t.eight;omega));let⟨n,c⟩:=ε (enS d d.A.length).length;have iS:=Lh c;clear c;go_wp2_with fail;refine hN.o.mono ?_;rintro jO w2⟨a,_,rfl,c,gC⟩;rw[<-iS.o];have kO:=Lh gC;have jX:=Lh c;have l:=o.o.1.trans (Xbg c);have jC:=Lh l;have kP:=Lh (iX.o w2 l);have r:=(c.block _ (La o.o.2.1)).trans o.o.2.1;have l:=(c.block _ (La o.o.2.2.1)).trans o.o.2.2.1;have m:=Lh (ϟ r l);have c:=row13 m.o.1;have kL:=c 0 _ rfl;have kK:=c 1 _ rfl;have kJ:=c 2 _ rfl;have kI:=c 3 _ rfl;have kH:=c 4 _ rfl;have kG:=c 5 _ rfl;have kF:=c 6 _ rfl;have kE:=c 7 _ rfl;have kD:=c 8 _ rfl;have kC:=c 9 _ rfl;have kB:=c 10 _ rfl;have kA:=c 11 _ rfl;have jZ:=c 12 _ rfl;by_cases jQ:n=0
 .have jS:=Lh (List.eq_nil_of_length_eq_zero (by rw[<-iS.o];exact jQ))
  subst jQ;have:=ϵ m.o.2;have:=ϴ m.o.2;have l:=Xdi (p:=f) (q:=h) (b:=h) (.inr rfl) [O gV gW gX,O gY gZ hA,O hJ hK hM,X d.q3,X d.Y,O hP hQ hR,O hS hV hX,O hY hZ iA,O iB iC iD,O iE iF iG,O iH iI iJ,X d.q5,X d.U] w2 0;have r:=Xab m.o.2 (O gV gW gX) (O gY gZ hA) (O hJ hK hM) (X d.q3) (X d.Y) (O hP hQ hR) (O hS hV hX) (O hY hZ iA) (O iB iC iD) (O iE iF iG) (O iH iI iJ) (X d.q5) (X d.U);let⟨WE,c⟩:=ε (Xaa w2 h 0 [O gV gW gX,O gY gZ hA,O hJ hK hM,X d.q3,X d.Y,O hP hQ hR,O hS hV hX,O hY hZ iA,O iB iC iD,O iE iF iG,O iH iI iJ,X d.q5,X d.U]);rw[<-c]at l r;have jD:Hid (Xiw cd s w (.returned (.tuple #[.agg #[O gV gW gX,O gY gZ hA,O hJ hK hM,X d.q3,X d.Y,O hP hQ hR,O hS hV hX,O hY hZ iA,O iB iC iD,O iE iF iG,O iH iI iJ,X d.q5,X d.U],X 0,.bool ϑ])) WE):=Lh ⟨(iX.o WE (jC.o.trans l)).bel,.inl ⟨d,[O gV gW gX,O gY gZ hA,O hJ hK hM,X d.q3,X d.Y,O hP hQ hR,O hS hV hX,O hY hZ iA,O iB iC iD,O iE iF iG,O iH iI iJ,X d.q5,X d.U],o.o.2.2.2.2.1,o.o.2.2.2.2.2,jS.o,rfl,((o.o.2.2.2.1.go (Xbg jX.o)).go l).now⟩⟩;have gO:=Lh r;have gG:=Lh c;clear c;go_wp2_with fail;rw[Xaf,<- gG.o];exact ϖ (Xbi (p:=6) (u:=7) (x:=8) rfl gO.o _ rfl rfl rfl) rfl jD.o
 have jK:=@Lh (enS d d.A.length≠[]) (by intro c;apply jQ;rw[iS.o,c];rfl);have:((n:Int)==0)=ϝ:=by simp only[beq_eq_false_iff_ne,ne_eq];omega
 by_cases jW:d.U=65536
 .have:=ζ d.U 65536 jW
  have t:=@Lh (65536<=d.U) K;have:=ϵ m.o.2;have:=ϴ m.o.2;have r:=Xdi (p:=f) (q:=h) (b:=h) (.inr rfl) [D,D,D,X 0,X 0,D,D,D,D,D,D,X 0,X 0] w2 0;have l:=Xab m.o.2 D D D (X 0) (X 0) D D D D D D (X 0) (X 0);let⟨WE,c⟩:=ε (Xaa w2 h 0 [D,D,D,X 0,X 0,D,D,D,D,D,D,X 0,X 0]);rw[<-c]at r l;have iW:Hid (Xiw cd s w (.returned (.tuple #[.agg #[D,D,D,X 0,X 0,D,D,D,D,D,D,X 0,X 0],X 6,.bool ϑ])) WE):=Lh ⟨(iX.o WE (jC.o.trans r)).bel,.inr (.inl ⟨d,o.o.2.2.2.2.1,o.o.2.2.2.2.2,⟨t.o,jK.o⟩,rfl⟩)⟩;have gP:=Lh l;have gH:=Lh c;clear c;go_wp2_with fail;rw[Xaf,<- gH.o];exact ϖ (Xbi (p:=6) (u:=7) (x:=8) rfl gP.o _ rfl rfl rfl) rfl iW.o
 have:=ξ d.U 65536 jW;have jV:=@Lh (d.U<65536) (by have:=o.o.2.2.2.2.2.steps;omega);by_cases jH:iM=1500
 .have:=ζ iM 1500 jH
  have:=ζ (iM:Int) 1500;have:=ϵ m.o.2;have:=ϴ m.o.2;have l:=Xdi (p:=f) (q:=h) (b:=h) (.inr rfl) [D,D,D,X 0,X 0,D,D,D,D,D,D,X 0,X 0] w2 0;have c:=Xab m.o.2 D D D (X 0) (X 0) D D D D D D (X 0) (X 0);let⟨WE,e⟩:=ε (Xaa w2 h 0 [D,D,D,X 0,X 0,D,D,D,D,D,D,X 0,X 0]);rw[<-e]at l c;have iV:Hid (Xiw cd s w (.returned (.tuple #[.agg #[D,D,D,X 0,X 0,D,D,D,D,D,D,X 0,X 0],X 0,.bool ϝ])) WE):=Lh ⟨(iX.o WE (jC.o.trans l)).bel,.inr (.inr rfl)⟩;have gQ:=Lh c;have gJ:=Lh e;subst jH;clear e;go_wp2_with fail;rw[Xaf,<- gJ.o];exact ϖ (Xbi (p:=6) (u:=7) (x:=8) rfl gQ.o _ rfl rfl rfl) rfl iV.o
 have:=ξ iM 1500 jH;have:((iM:Int)==1500)=ϝ:=by simp only[beq_eq_false_iff_ne,ne_eq];omega
 have kQ:=@Lh (iM<1500) K;let⟨v,lt,fY⟩:∃v c,enS d d.A.length=v::c:=by
  cases jY:enS d d.A.length with
  |nil=>exact absurd jY jK.o
  |cons a b=>exact⟨a,b,rfl⟩
 obtain⟨i,iZ,jA,rfl,jJ,iY⟩:=Xjj fY;obtain⟨fW,fX,rfl,jB⟩:∃fW fX,a=H (U fW fX)/\w2.cell? (U fW fX)=H (X (i:Int)):=by
  have c:=kO.o;let⟨_,_,z,_,_,_,k⟩:=c;rw[fY]at k;rcases k with gB|⟨b,gK,gL,_,k⟩
  .cases gB
  have:=k 0 _ rfl;simp at z;exact⟨b,gK,by rw[z.1];exact gL,by have:=this.1;rw[Nat.zero_mul,Nat.add_zero]at this;exact this⟩
 have:(0:Int)<(n:Int):=K;have:0<n:=K;have kN:=Lh iY;have c:=kP.o.kbx;let⟨iP,iT,iU⟩:=Ω3 c;have jU:=Lh (λc k=>Xhv cd iO iR iN iQ (w:Nat) d _ (Xiu c.heap.size) i iZ jA w c (iX.o c (jC.o.trans (Xbg k))).ctx kM.o.2 ((o.o.2.2.2.1.go (Xbg (jX.o.th k))).now) (λb c=>Xea c) o.o.2.2.2.2.2 jJ jV.o);go_upto_region 10 with fail;refine wp_region_bel (λV h=>ϟ (AB h iP) (ϟ (AB h iT) (ϟ (AB h iU) (ϟ (AB h kL) (ϟ (AB h kK) (ϟ (AB h kJ) (ϟ (AB h kI) (ϟ (AB h kH) (ϟ (AB h kG) (ϟ (AB h kF) (ϟ (AB h kE) (ϟ (AB h kD) (ϟ (AB h kC) (ϟ (AB h kB) (ϟ (AB h kA) (ϟ (AB h jZ) (AB h jB))))))))))))))))) [5,6] ϑ 7 rfl κ κ ?_;refine Xac ?_;have g:=Lh (ϟ iP (ϟ iT (ϟ iU (ϟ kL (ϟ kK (ϟ kJ (ϟ kI (ϟ kH (ϟ kG (ϟ kF (ϟ kE (ϟ kD (ϟ kC (ϟ kB (ϟ kA (ϟ jZ jB))))))))))))))));refine AH κ ?_;go_simp;refine(jU.o _ (AG Br 1)).mono ?_;rintro c gM gD;obtain⟨e,_,c2,jI,rfl,gI,j⟩:=gD;obtain⟨A,B,C,E,F,G,J,L,M,N,P,Q,R,cQ,S,T,Y,fL,fM,fN,fO,fP,fQ,fR,fS,fT,fU,rfl⟩:=gI.1.shape;have l:=(AG Br 1).th ⟨j.os,j.tape,j.output,j.size,λb c=>j.kp b c (by rw[Xcn c];exact Io)⟩;have c:=Lh l;have t:=Xba.stepS o.o.2.2.2.2.2 jI jV.o;have k:∀b,b<(w2:Nat)->c2 b=14:=λb r=>by have d:=Nl r (AG (Below.refl (w2:Nat) w2) 1).size;rw[j.old b d,Xcn d]
 have j:=(La m.o.1);have r:=(La m.o.2);have fX:=RdS.val gI (t.1.inv.wf t.1.outs t.1.steps) ⟨k f j,k h r⟩;have d:=(l.block f j).trans m.o.1;have:=ϵ d;have:=ϴ d;let⟨k,z⟩:=ε (Xaa gM f 0 [O A B C,O E F G,O J L M,X e.q3,X e.Y,O N P Q,O R cQ S,O T Y fL,O fM fN fO,O fP fQ fR,O fS fT fU,X e.q5,X e.U]);have y:=Xdi (p:=f) (q:=h) (b:=f) (.inl rfl) [O A B C,O E F G,O J L M,X e.q3,X e.Y,O N P Q,O R cQ S,O T Y fL,O fM fN fO,O fP fQ fR,O fS fT fU,X e.q5,X e.U] gM 0;have fW:=Xab d (O A B C) (O E F G) (O J L M) (X e.q3) (X e.Y) (O N P Q) (O R cQ S) (O T Y fL) (O fM fN fO) (O fP fQ fR) (O fS fT fU) (X e.q5) (X e.U);have fV:=(Xb8 (λd=>jR.o.2.2 d.symm) (Nl r l.size):(Xaa gM f 0 [O A B C,O E F G,O J L M,X e.q3,X e.Y,O N P Q,O R cQ S,O T Y fL,O fM fN fO,O fP fQ fR,O fS fT fU,X e.q5,X e.U]).heap[h]?=_).trans ((l.block h r).trans m.o.2);rw[<-z]at y fW fV;have jT:Hid (∃j d,AT (λm=>m=14) (rdS f h) (rdS f h) W k/\k.heap[f]?=H (Z (List.toArray j) 39 (0,0))/\k.heap[h]?=H (Z #[D,D,D,X 0,X 0,D,D,D,D,D,D,X 0,X 0] 39 (0,0))/\RdS f h k j d/\Xbd cd s d/\Xba cd d):=Lh ⟨[O A B C,O E F G,O J L M,X e.q3,X e.Y,O N P Q,O R cQ S,O T Y fL,O fM fN fO,O fP fQ fR,O fS fT fU,X e.q5,X e.U],e,(jC.o.trans (Xbg l)).trans y,fW,fV,fX.go y,Xbd.snoc o.o.2.2.2.2.1 kN.o jI,t.1⟩;have d:=Lh z;clear z;refine⟨⟨AB c.o (g.o.1),AB c.o (g.o.2.1),AB c.o (g.o.2.2.1),AB c.o (g.o.2.2.2.1),AB c.o (g.o.2.2.2.2.1),AB c.o (g.o.2.2.2.2.2.1),AB c.o (g.o.2.2.2.2.2.2.1),AB c.o (g.o.2.2.2.2.2.2.2.1),AB c.o (g.o.2.2.2.2.2.2.2.2.1),AB c.o (g.o.2.2.2.2.2.2.2.2.2.1),AB c.o (g.o.2.2.2.2.2.2.2.2.2.2.1),AB c.o (g.o.2.2.2.2.2.2.2.2.2.2.2.1),AB c.o (g.o.2.2.2.2.2.2.2.2.2.2.2.2.1),AB c.o (g.o.2.2.2.2.2.2.2.2.2.2.2.2.2.1),AB c.o (g.o.2.2.2.2.2.2.2.2.2.2.2.2.2.2.1),AB c.o (g.o.2.2.2.2.2.2.2.2.2.2.2.2.2.2.2.1),AB c.o (g.o.2.2.2.2.2.2.2.2.2.2.2.2.2.2.2.2)⟩,?_⟩;refine AH κ ?_;go_simp;rw[Xaf,<- d.o];refine BH ?_;have:=kQ.o;go_wp2;go_roundw;exact⟨iM+1,K,by go_num,jT⟩;simp[intOf];omega
def Xep(q x i:Nat):Nat:=if i=12 then x else q+(i-1)
def NrF(m:Mm)(n i:Nat)(v:ϒ)(w:Ϣ)(c:A1):Prop:=
 match i with
 |1=>∃ga gc na nc,v=.agg (Bm ga gc na nc m)/\Xay w c 0 (O ga m.G gc) (.r 3 1 (m.G.map λn=>.p (X n)))/\Xay w c 1 (O na m.N nc) (.r 72 2 (m.N.flatMap Xbw))
 |4=>Ao w c 25 62 13 v n (madeCells Xo5 (n*13)).toList
 |6=>Ao w c 27 127 1 v n (madeCells #[D] (n*1)).toList
 |8=>Ao w c 28 22 1 v n (madeCells #[D] (n*1)).toList
 |10=>Ao w c 29 22 1 v n (madeCells #[D] (n*1)).toList
 |_=>∃bo,v=.pointer (H (U bo 0))/\w.heap[bo]?=H (Z #[D,D,D,X 0,X 0,D,D,D,D,D,D,X 0,X 0] 39 (0,0))/\c bo=1
def NrF.kp{c':A1}(d:i∈[1,4,6,8,10,12])(b:NrF m n i v w c)(a:AT NO c c' w w'):NrF m n i v w' c':=by
 simp only[ϰ,List.mem_nil_iff,or_false]at d;rcases d with rfl|rfl|rfl|rfl|rfl|rfl
 .obtain ⟨d,e,h,j,f,g,k⟩:=b
  exact⟨d,e,h,j,f,g.kp a Xdb,k.kp a Xdb⟩
 .exact (show Ao _ _ _ _ _ _ _ _ from b).kp a (no _)
 .exact (show Ao _ _ _ _ _ _ _ _ from b).kp a (no _)
 .exact (show Ao _ _ _ _ _ _ _ _ from b).kp a (no _)
 .exact (show Ao _ _ _ _ _ _ _ _ from b).kp a (no _)
 obtain⟨d,f,e,g⟩:=b;have b:=(La e);exact⟨d,f,(a.kp d b (no _)).trans e,(a.old d b).trans g⟩
structure NrI(q x:Nat)(m:Mm)(n:Nat)(W:Ϣ)(C0:A1)(a0:Act)(done:List Nat)(a:Act)(w:Ϣ)(f:Nat->ϒ)(c:A1):Prop where
 act:a=GS a0 (Xep q x) f done
 nd:done.Nodup
 sub:∀i∈done,i∈[1,4,6,8,10,12]
 chg:AT NO C0 c W w
 hi:∀b,(w:Nat)<=b->c b=0
 fact:∀i∈done,NrF m n i (f i) w c
def Xc4(q x:Nat)(m:Mm)(n:Nat)(W:Ϣ)(C0:A1)(a0:Act)(done:List Nat)(a:Act)(w:Ϣ):Prop:=∃f c,NrI q x m n W C0 a0 done a w f c
def Xc4.put(t:Xc4 q x m n W C0 a0 done a w)(o:i∉done)(y:i∈[1,4,6,8,10,12])(s:∀c:A1,(∀b,(w:Nat)<=b->c b=0)->∃j,AT NO c j w w'/\(∀b,(w':Nat)<=b->j b=0)/\NrF m n i v w' j):Xc4 q x m n W C0 a0 (i::done) (a.put (H (Xep q x i)) v) w':=by
 let⟨f,c,h⟩:=t;let⟨k,r,t,u⟩:=s c h.hi;have p:∀d∈done,(if d=i then v else f d)=f d:=λd e=>if_neg (λj=>o (by rw[<-j];exact e));refine⟨λd=>if d=i then v else f d,k,?_,List.nodup_cons.2 ⟨o,h.nd⟩,λd e=>?_,h.chg.trans r,t,λd e=>?_⟩
 .show _=(GS a0 (Xep q x) (λd=>if d=i then v else f d) done).put (H (Xep q x i)) (if i=i then v else f i)
  rw[if_pos rfl,K4 (l:=done) (g:=f) p,h.act]
 .rcases ϰ.1 e with rfl|e
  .exact y
  exact h.sub d e
 rcases ϰ.1 e with rfl|e
 .show NrF m n d (if d=d then v else f d) w' k
  rw[if_pos rfl];exact u
 show NrF m n d (if d=i then v else f d) w' k;rw[p d e];exact(h.fact d e).kp (h.sub d e) r
def Xc4.chg(d:Xc4 q x m n W C0 a0 done a w):∃c,AT NO C0 c W w:=by
 let⟨_,c,b⟩:=d;exact⟨c,b.chg⟩
def Xc4.eval(e:Xc4 q x m n W C0 a0 done a w){d:Nat}(f:∀i∈[1,4,6,8,10,12],Xep q x i≠d):a.eval (.tmp d)=a0.eval (.tmp d):=by
 let⟨_,c,b⟩:=e;rw[b.act];exact SA (λi e=>f i (b.sub i e))
def Xgn(a:x+1<q):∀i∈[1,4,6,8,10,12],∀a∈[1,4,6,8,10,12],Xep q x i=Xep q x a->i=a:=λi d a c b=>by
 simp only[ϰ,List.mem_nil_iff,or_false]at d c;unfold Xep at b;split at b<;>split at b<;>omega
def Xc4.P(o:x+1<q)(g:Xc4 q x m n W C0 a0 done a w)(l:∀i∈[1,4,6,8,10],i∈done):∃e,(e=[12,10,8,6,4,1]\/e=[10,8,6,4,1])/\(∀i,done.contains i=e.contains i)/\∃f c,NrI q x m n W C0 a0 e a w f c:=by
 let⟨f,c,d⟩:=g;have k:∀e:List Nat,e.Nodup->(∀i,i∈done↔i∈e)->(∀i,done.contains i=e.contains i)/\∃f c,NrI q x m n W C0 a0 e a w f c:=λe h g=>by
  have e:=(List.perm_ext_iff_of_nodup d.nd h).2 g;refine⟨λi=>?_,f,c,?_,h,λi b=>d.sub i ((g i).2 b),d.chg,d.hi,λi b=>d.fact i ((g i).2 b)⟩
  .rw [Bool.eq_iff_iff]
   simp only[List.contains_iff_mem];exact g i
  rw[d.act];exact SB e (λi b e f=>Xgn o i (d.sub i b) e (d.sub e f))
 by_cases j:12∈done
 .refine ⟨_,.inl rfl,k _ δ (λi=>⟨λb=>?_,λb=>?_⟩)⟩
  .have:=d.sub i b
   simp only[ϰ,List.mem_nil_iff,or_false]at this ⊢;omega
  simp only[ϰ,List.mem_nil_iff,or_false]at b;rcases b with rfl|rfl|rfl|rfl|rfl|rfl
  .exact j
  all_goals exact l _ δ
 refine⟨_,.inr rfl,k _ δ (λi=>⟨λb=>?_,λb=>?_⟩)⟩
 .have:=d.sub i b
  have d:i≠12:=λd=>j (by rw[<-d];exact b);simp only[ϰ,List.mem_nil_iff,or_false]at this ⊢;omega
 simp only[ϰ,List.mem_nil_iff,or_false]at b;rcases b with rfl|rfl|rfl|rfl|rfl;all_goals exact l _ δ
def Xk1{r:Bool}{o:Oper}(d:x+1<q)(h:Xc4 q x m n W C0 a0 done a w)(A:i∉done)(f:i∈[4,6,8,10])(tag:Nat){t e:TypeId}{z:ϒ}{sz bytes:Nat}(s:o.op=.makeSlice t (.tmp (q+(i-2))) (.tmp (q+(i-2))))(y:o.dst=H (q+(i-1)))(p:prog.underlying t=H (.slice e))(l:(prog.info? e).map (λi=>(i.zero,i.size,i.bytes))=H (H z,sz,bytes))(j:bytes<=1024)(k:∀d∈[4,6,8,10],a0.eval (.tmp (q+(d-2)))=X (n:Int))(g:n<=1000)
  (hF:∀w' d v,Ao w' d tag e sz v n (madeCells z.cells (n*sz)).toList->NrF m n i v w' d) (u:∀V d,AT NO C0 d W V->S V):o.wp prog a w (λd w'=>(S w'\/r=ϑ)/\Xc4 q x m n W C0 a0 (i::done) d w') Q:=by
 have d:=f;simp only[ϰ,List.mem_nil_iff,or_false]at d;refine X4 (q+(i-2)) t e s p l j n ((h.eval (λj d=>?_)).trans (k i f)) g (λw' f g=>?_)
 .simp only[ϰ,List.mem_nil_iff,or_false]at d
  unfold Xep;split<;>omega
 obtain⟨k,l⟩:=h.chg;obtain⟨_,d,_,-⟩:=g (λ_=>0) 0 (λb f=>rfl);have j:ϐ w w w':=⟨d.os,d.tape,d.output,d.size,λb f=>d.kp b f (no _)⟩;have d:Xep q x i=q+(i-1):=if_neg K;rw[y,<- d];refine⟨.inl (u w' k (l.trans (AT.ob j (no 0)))),h.put A φ (λc j=>?_)⟩;let⟨d,f,h,k⟩:=g c tag j;exact⟨d,f,h,hF _ _ _ k⟩
def nr0(m:Mm)(n:Nat)(fuel:Int):Tra:=⟨m,[],0,fuel,ϱ n Xat,[],ϱ n [],ϱ n [],ϱ n [],[],0,0⟩
def NrI.built{l:List Nat}{f:Nat->ϒ}(aK:NrI q x m n W C0 a0 l a w f c)(bS:1∈l)(bT:4∈l)(bU:6∈l)(bV:8∈l)(bW:10∈l):∃G J L M N P Q R S T V Y,f 1=.agg (Bm G J L M m)/\f 4=O N n P/\f 6=O Q n R/\f 8=O S n T/\f 10=O V n Y/\
  ∀(d:Ϣ)(c1:A1) e fuel,AT NO c c1 w d->(∀b,(d:Nat)<=b->c1 b=0)->d.heap[e]?=H (Z #[D,D,D,X 0,X 0,D,D,D,D,D,D,X 0,X 0] 39 (0,0))->c1 e=1->
   SAt (Xaa d e 0 [O G m.G J,O L m.N M,D,X 0,X fuel,O N n P,D,O Q n R,O S n T,O V n Y,D,X 0,X 0]) c1 e (nr0 m n fuel)/\AT (λaL=>aL=1) C0 c1 W (Xaa d e 0 [O G m.G J,O L m.N M,D,X 0,X fuel,O N n P,D,O Q n R,O S n T,O V n Y,D,X 0,X 0]):=by
 let⟨y,z,A,B,M,cD,cE⟩:=aK.fact 1 bS;have bM:Ao w c 25 62 13 (f 4) n (madeCells Xo5 (n*13)).toList:=aK.fact 4 bT;have bN:Ao w c 27 127 1 (f 6) n (madeCells #[D] (n*1)).toList:=aK.fact 6 bU;have bO:Ao w c 28 22 1 (f 8) n (madeCells #[D] (n*1)).toList:=aK.fact 8 bV;have bP:Ao w c 29 22 1 (f 10) n (madeCells #[D] (n*1)).toList:=aK.fact 10 bW;obtain⟨u,v,L,-⟩:=bM.u1;obtain⟨s,t,J,-⟩:=bN.u1;obtain⟨k,o,G,-⟩:=bO.u1;obtain⟨g,h,d,-⟩:=bP.u1;rw[L]at bM;rw[J]at bN;rw[G]at bO;rw[d]at bP;refine⟨y,z,A,B,u,v,s,t,k,o,g,h,M,L,J,G,d,λC c1 e fuel F cB G bQ=>?_⟩;have E:AT (λd=>d=1) c1 c1 C (Xaa C e 0 [O y m.G z,O A m.N B,D,X 0,X fuel,O u n v,D,O s n t,O k n o,O g n h,D,X 0,X 0]):=Xak bQ K _ _ _;have cA:=Xab G (O y m.G z) (O A m.N B) D (X 0) (X fuel) (O u n v) D (O s n t) (O k n o) (O g n h) D (X 0) (X 0);have bR:∀{j:Nat}{x:Xae},Xd5 (λd=>d=1) j x:=fun {j x}=>by
  cases x with
  |p x=>trivial
  |i d=>trivial
  |r d G J=>exact⟨by show ¬20+j=1;omega,Xa5 λi=>by show ¬100+16*i+j=1;omega⟩
 have cC:Xay (Xaa C e 0 [O y m.G z,O A m.N B,D,X 0,X fuel,O u n v,D,O s n t,O k n o,O g n h,D,X 0,X 0]) c1 5 (O u n v) (.r 62 13 ((ϱ n Xat).flatMap Xaz)):=Xi5 ((bM.kp F (no _)).kp E K);have bZ:Xay (Xaa C e 0 [O y m.G z,O A m.N B,D,X 0,X fuel,O u n v,D,O s n t,O k n o,O g n h,D,X 0,X 0]) c1 7 (O s n t) (.r 127 1 ((ϱ n ([]:List CD)).map Xg3)):=Xcq (j:=7) [] rfl ((bN.kp F (no _)).kp E K);have bY:Xay (Xaa C e 0 [O y m.G z,O A m.N B,D,X 0,X fuel,O u n v,D,O s n t,O k n o,O g n h,D,X 0,X 0]) c1 8 (O k n o) (.r 22 1 ((ϱ n ([]:List Int)).map Xa3)):=Xcq (j:=8) [] rfl ((bO.kp F (no _)).kp E K);have bX:Xay (Xaa C e 0 [O y m.G z,O A m.N B,D,X 0,X fuel,O u n v,D,O s n t,O k n o,O g n h,D,X 0,X 0]) c1 9 (O g n h) (.r 22 1 ((ϱ n ([]:List Int)).map Xa3)):=Xcq (j:=9) [] rfl ((bP.kp F (no _)).kp E K);refine⟨⟨λb d=>cB b (by rw[Xbe]at d;exact d),bQ,[O y m.G z,O A m.N B,D,X 0,X fuel,O u n v,D,O s n t,O k n o,O g n h,D,X 0,X 0],cA,rfl,by simp[Xag],λj d x h g=>?_⟩,(aK.chg.mono (λe d=>d.elim) K).trans ((F.mono (λe d=>d.elim) K).trans E)⟩
 match j,h,g with
 |0,aM,aZ=>cases aM;cases aZ;exact(cD.kp F Xdb).kp E bR
 |1,aN,bA=>cases aN;cases bA;exact(cE.kp F Xdb).kp E bR
 |2,aO,bB=>cases aO;cases bB;exact Xby _ _ _ _ _
 |3,aP,bC=>cases aP;cases bC;rfl
 |4,aQ,bD=>cases aQ;cases bD;rfl
 |5,aR,bE=>cases aR;cases bE;exact cC
 |6,aS,bF=>cases aS;cases bF;exact Xby _ _ _ _ _
 |7,aT,bG=>cases aT;cases bG;exact bZ
 |8,aU,bH=>cases aU;cases bH;exact bY
 |9,aV,bI=>cases aV;cases bI;exact bX
 |10,aW,bJ=>cases aW;cases bJ;exact Xby _ _ _ _ _
 |11,aX,bK=>cases aX;cases bK;rfl
 |12,aY,bL=>cases aY;cases bL;rfl
 |j+13,e,d=>simp[Xag]at d
def Xmd{v:Nat}{bY bZ cA cB cC cG cT bX:Oper}(fuel:Int)(cL:ϒ)(cD:x+1<q)(dI:An v)
  (cK:[(bY.op,bY.dst),(bZ.op,bZ.dst),(cA.op,cA.dst),(cB.op,cB.dst),(cC.op,cC.dst),(cG.op,cG.dst),(cT.op,cT.dst),(bX.op,bX.dst)]=[(.call {callee:=.value (.func v),args:=#[.tmp (q-1)],argTypes:=#[28]},H q),(.makeSlice 35 (.tmp (q+2)) (.tmp (q+2)),H (q+3)),(.makeSlice 36 (.tmp (q+4)) (.tmp (q+4)),H (q+5)),(.makeSlice 34 (.tmp (q+6)) (.tmp (q+6)),H (q+7)),(.makeSlice 34 (.tmp (q+8)) (.tmp (q+8)),H (q+9)),(.build 39 #[(0,.tmp q),(3,.tmp (q+1)),(4,.tmp (q+3)),(6,.tmp (q+5)),(7,.tmp (q+7)),(8,.tmp (q+9))],H (q+10)),(.alloc 39,H x),(.store 39 (.tmp x) (.tmp (q+10)),none)])
  (cU:Cp cG=[1,2,4,6,8,10]) (dH:∀i∈[12,11,1,4,6,8,10],(Cp bX).contains i=ϑ) (cF:n<=1000) (g:q+10<a0.tmps.size)
  (s:a0.eval (.tmp (q+2))=X (n:Int)/\a0.eval (.tmp (q+4))=X (n:Int)/\a0.eval (.tmp (q+6))=X (n:Int)/\a0.eval (.tmp (q+8))=X (n:Int)) (dD:a0.eval (.tmp (q-1))=cL) (dK:a0.eval (.tmp (q+1))=X fuel) (z:∀V g,AT NO C0 g W V->S V) (cR:∀b,(W:Nat)<=b->C0 b=0) (cP:∀V g,AT NO C0 g W V->ϙ prog v #[cL] V (IU m V))
  (cO:∀u1 u4 u6 u8 u10 u11 v c g,SAt g c v (nr0 m n fuel)->AT (λA=>A=1) C0 c W g->Q .normal (((((((a0.put (H q) u1).put (H (q+3)) u4).put (H (q+5)) u6).put (H (q+7)) u8).put (H (q+9)) u10).put (H x) (.pointer (H (U v 0)))).put (H (q+10)) u11) g) :
  Dm prog 14 Q S ϑ [(1,bY),(4,bZ),(6,cA),(8,cB),(10,cC),(11,cG),(12,cT),(13,bX)] a0 W:=by
 simp only[List.cons.injEq,Prod.mk.injEq,and_true]at cK;let⟨⟨cV,cW⟩,⟨cY,cX⟩,⟨dA,cZ⟩,⟨dC,dB⟩,⟨dF,dE⟩,⟨dJ,dG⟩,⟨_,_⟩,_,_⟩:=cK;have s:∀g∈[4,6,8,10],a0.eval (.tmp (q+(g-2)))=X (n:Int):=λg k=>by
  simp only[ϰ,List.mem_nil_iff,or_false]at k;rcases k with rfl|rfl|rfl|rfl
  .exact s.1
  .exact s.2.1
  .exact s.2.2.1
  exact s.2.2.2
 refine Jg (((((((List.Perm.swap _ _ _).cons _).cons _).cons _).cons _).cons _)) ?_;refine SK [_,_,_,_,_,_] [_,_] [1,4,6,8,10] (Xc4 q x m n W C0 a0) ⟨λ_=>undef,C0,rfl,List.nodup_nil,ψ,AT.ob Br (no 0),cR,ψ⟩ ?_ ?_ ?_ ?_ ?_
 .show List.Nodup [1,4,6,8,10,12,11,13]
  decide
 .intro g o
  refine .inl (λi f g _=>?_);simp only[ϰ,List.mem_nil_iff,or_false]at o;rcases o with rfl|rfl
  .unfold waits
   rw[cU];simp only[ϰ,List.mem_nil_iff,or_false]at f;rcases f with rfl|rfl|rfl|rfl|rfl<;>rfl
  unfold waits;rw[dH i (by simp at f ⊢;omega)];simp only[ϰ,List.mem_nil_iff,or_false]at f;rcases f with rfl|rfl|rfl|rfl|rfl<;>rfl
 .intro i j
  simp only[ϰ,List.mem_nil_iff,or_false]at j;rcases j with rfl|rfl|rfl|rfl|rfl
  .exact ⟨_,.head _⟩
  .exact ⟨_,.tail _ (.head _)⟩
  .exact ⟨_,.tail _ (.tail _ (.head _))⟩
  .exact ⟨_,.tail _ (.tail _ (.tail _ (.head _)))⟩
  exact⟨_,.tail _ (.tail _ (.tail _ (.tail _ (.head _))))⟩
 .intro p r done a w e d
  let⟨P,h⟩:=d.chg;simp only[ϰ,List.mem_nil_iff,or_false]at r;rcases r with rfl|rfl|rfl|rfl|rfl|rfl
  .refine X3 (q-1) 28 dI cV cL ((d.eval (λg f=>?_)).trans dD) ?_
   .simp only[ϰ,List.mem_nil_iff,or_false]at f
    unfold Xep;split<;>omega
   refine(cP w P h).mono ?_;rintro f w' u;rw[cW];obtain⟨_,_,_,_,_,rfl,R,-⟩:=Xio u P;refine⟨_,rfl,.inl (z w' _ (h.trans R)),d.put (i:=1) e δ (λc f=>?_)⟩;let⟨_,_,_,_,N,F,L,M,Y,T⟩:=Xio u c;cases F;exact⟨N,L,M,_,_,_,_,rfl,Y,T⟩
  .exact Xk1 (i:=4) cD d e δ 25 cY cX underlying35 Xef δ s cF (λ_ _ _ f=>f) z
  .exact Xk1 (i:=6) cD d e δ 27 dA cZ underlying36 Xem δ s cF (λ_ _ _ f=>f) z
  .exact Xk1 (i:=8) cD d e δ 28 dC dB underlying34 Xa8 δ s cF (λ_ _ _ f=>f) z
  .exact Xk1 (i:=10) cD d e δ 29 dF dE underlying34 Xa8 δ s cF (λ_ _ _ f=>f) z
  have g:∀w',w'=w.alloc (Z #[D,D,D,X 0,X 0,D,D,D,D,D,D,X 0,X 0] 39)->S w'/\Xc4 q x m n W C0 a0 (12::done) (a.put (H x) (.pointer (H (U w 0)))) w':=λw' f=>⟨z w' P (h.trans (by rw[f];exact AT.ob (AA _ _) (no 0))),d.put (i:=12) e δ (λc r=>by
   let⟨k,o,j⟩:=Hf (c:=c) (tag:=1) (.inl f);exact⟨_,k,j r,_,rfl,o,if_pos rfl⟩)⟩
  have f:=Lh g;clear g d e h s z cP cO cR;go_simp;exact f.o _ rfl
 intro done a w C cN;let⟨f,cS,B,d,c,e⟩:=cN.P cD C;rw[List.filter_congr (λ(p:Nat×Oper) _=>by rw[B]:∀p∈_,(!done.contains p.1)=!f.contains p.1)];have h:∀i∈[1,4,6,8,10],i∈f:=λi G=>by rcases cS with rfl|rfl<;>(simp at G ⊢;omega)
 let⟨G,L,M,N,P,R,T,Y,bY,bZ,cA,cB,g1,o,u,A,F,cM⟩:=e.built (h 1 δ) (h 4 δ) (h 6 δ) (h 8 δ) (h 10 δ);have y:∀i∈[1,4,6,8,10],a.tmps[Xep q x i]?.getD undef=d i:=λi f=>by
  rw[e.act,NB (λg j k=>Xgn cD g (e.sub g j) i (e.sub i (h i f)) k) (h i f) (by
   simp only[ϰ,List.mem_nil_iff,or_false]at f;unfold Xep;split<;>omega)]
  rfl
 have v:a.tmps[q]?.getD undef=_:=(y 1 δ).trans g1;have r:a.tmps[q+1]?.getD undef=X fuel:=by
  rw[<-Array.getD_eq_getD_getElem?];exact(Xc4.eval ⟨d,c,e⟩ (λg f=>by
   simp only[ϰ,List.mem_nil_iff,or_false]at f;unfold Xep;split<;>omega)).trans dK
 have k:a.tmps[q+3]?.getD undef=_:=(y 4 δ).trans o;have j:a.tmps[q+5]?.getD undef=_:=(y 6 δ).trans u;have g:a.tmps[q+7]?.getD undef=_:=(y 8 δ).trans A;have f:a.tmps[q+9]?.getD undef=_:=(y 10 δ).trans F;let⟨l,cJ⟩:=ε (.agg #[O G m.G L,O M m.N N,D,X 0,X fuel,O P n R,D,O T n Y,O bY n bZ,O cA n cB,D,X 0,X 0]:ϒ);have cI:∀V,(execOp a.eval cG).run prog V=.ok (.value l) V:=λV=>by rw[cJ];simp[go_sem,execOp,dJ,v,r,k,j,g,f]
 have:a.tmps.size=a0.tmps.size:=by rw[e.act];exact Ja _ _ _ _
 have cH:∀(b:Act)(V:Ϣ)(c1:A1)(f:Nat),b.tmps[x]?.getD undef=.pointer (H (U f 0))->b.tmps[q+10]?.getD undef=l->AT NO c c1 w V->(∀b,V.heap.size<=b->c1 b=0)->V.heap[f]?=H (Z #[D,D,D,X 0,X 0,D,D,D,D,D,D,X 0,X 0] 39 (0,0))->c1 f=1->(∀u1 u4 u6 u8 u10 u11,u1=d 1->u4=d 4->u6=d 6->u8=d 8->u10=d 10->u11=l->b=(((((((a0.put (H q) u1).put (H (q+3)) u4).put (H (q+5)) u6).put (H (q+7)) u8).put (H (q+9)) u10).put (H x) (.pointer (H (U f 0)))).put (H (q+10)) u11))->Dm prog 14 Q S ϑ [(13,bX)] b V:=λb V c1 f j v t u g r o=>by let⟨j,k⟩:=cM V c1 f fuel t u g r;have r:=Lh (cO (d 1) (d 4) (d 6) (d 8) (d 10) l f c1 _ j k);rw[<-o _ _ _ _ _ _ rfl rfl rfl rfl rfl rfl]at r;have:=ϵ g;have:=ϴ g;rw[cJ]at v;refine AH rfl ?_;clear j k cO z cP cN e cM y o s cR B C h g t u;go_simp;rw[Xaf];exact BH r.o
 clear B C;have cE:(([(13,bX)]:List (Nat×Oper)).all λf=>f.1 !=11 && !waits (11,cG) f)=ϑ:=by simp[waits,cU]
 rcases cS with rfl|rfl
 .obtain ⟨f,J,g,j⟩:=e.fact 12 δ
  refine(show Dm _ _ _ _ _ [_,_] _ _ from ?_);refine Ae (by rw[cE];rfl) l (λV _=>cI V) ?_;rw[dG];refine cH _ w c f ?_ ?_ (AT.ob Br (no 0)) e.hi g j ?_
  .rw [A0 _ _ _ _ φ,e.act,show(GS a0 (Xep q x) d [12,10,8,6,4,1]).tmps[x]?=H (d 12)from NB (i:=12) (λd f g=>Xgn cD d (e.sub d f) 12 δ g) δ (show x<_ by omega),J]
   rfl
  .rw [CA _ _ _ K]
   rfl
  rintro _ _ _ _ _ _ rfl rfl rfl rfl rfl rfl;rw[e.act,<- J];rfl
 refine(show Dm _ _ _ _ _ [_,_,_] _ _ from ?_);refine De ?_;refine Ae (by simp[waits,cU]) l (λV _=>cI V) ?_;rw[dG];have f:([(13,bX)].all λd=>d.1 !=12 && [(12,cT),(13,bX)].any (waits d))=ϑ:=by have:=dH 12 δ;simp only[List.contains_iff_mem]at this;simp[waits,this]
 refine AH f ?_;let⟨V,bW⟩:=ε (w.alloc (Z #[D,D,D,X 0,X 0,D,D,D,D,D,D,X 0,X 0] 39));let⟨t,C,E⟩:=Hf (c:=c) (tag:=1) (.inl bW);have d:(H x:Option Nat)≠H (q+10):=by simp;omega
 have B:=Lh (ϟ (z V _ (e.chg.trans t)) (cH ((a.put (H (q+10)) l).put (H x) (.pointer (H (U w 0)))) V _ (w:Nat) (by rw[CA _ _ _ (by rw[BQ];omega)];rfl) (by rw[A0 _ _ _ _ d,CA _ _ _ K];rfl) t (E e.hi) C (if_pos rfl) (by
  rintro _ _ _ _ _ _ rfl rfl rfl rfl rfl rfl;rw[O0 _ _ _ K,e.act];rfl)))
 clear t C E cH cO z cP cN e cM y s cR h cI cJ;rw[bW]at B;go_simp;exact B.o
def Xmn{c:AQ}{x:Bi}(a:0<=fuel/\fuel<=1048576):AS c x fuel=AS c x 0:=by
 have b:¬(fuel<0\/1048576<fuel):=K;have a:¬((0:Int)<0\/(1048576:Int)<0):=K;unfold AS;rw[if_neg b,if_neg a]
def Xje:An 33:=λ_ _=>by kernel_rfl
structure NrB(cd:AQ)(m:Mm)(cs:List (List Bi))(c0 c1 c2 g0 g1 lv:ϒ)(w V:Ϣ):Prop where
 c:V.cell? (U w 0)=H c0/\V.cell? (U w 1)=H c1/\V.cell? (U w 2)=H c2/\(w:Nat)<V
 g:V.cell? (U (w+1) 0)=H g0/\V.cell? (U (w+1) 1)=H g1/\(w:Nat)+1<V
 t:V.heap[(w:Nat)+1+1]?=H (Z #[D,D,D,X 0,X 0,D,D,D,D,D,D,X 0,X 0] 39 (0,0))
 L:C8 V
 cod:BF w V (.agg #[c0,c1,c2]) cd
 mm:Lw w V (.agg #[g0,g1]) m
 cs:AE w V 1 (Bg 2 (DA w) w) lv cs
 b:ϐ w w V
 s:(w:Nat)+3<=V
def Xow(a:W=((w.alloc (Z #[c0,c1,c2] 25)).alloc (Z #[g0,g1] 28)).alloc (Z #[D,D,D,X 0,X 0,D,D,D,D,D,D,X 0,X 0] 39))(h:C8 w)(i:BF w w (.agg #[c0,c1,c2]) cd)(g:Lw w w (.agg #[g0,g1]) m)(hl:AE w w 1 (Bg 2 (DA w) w) lv cs):∀V,ϐ W W V->NrB cd m cs c0 c1 c2 g0 g1 lv w V:=λV b=>by
 have f:=bl3 a;have:=sz3 a;have c:=(b.block (w:Nat) K).trans (Xda a);have d:=(b.block ((w:Nat)+1) K).trans (Xcs a);have e:=(b.block ((w:Nat)+1+1) K).trans (Xbs a);have a:=f.th b;exact⟨⟨Cr c rfl,Cr c rfl,Cr c rfl,(La c)⟩,⟨Cr d rfl,Cr d rfl,(La d)⟩,e,h.below a,i.below a,g.below a,hl.calss a,a,by have:=b.size;omega⟩
def Xer{b:Func}(j:b.results=#[.cell 8 39,.tmp 9])(d:NrB cd m cs c0 c1 c2 g0 g1 lv w V){e:Int}(c:GO cd m cs fuel=e)(i:e≠0)(h:a.tmps.getD 8 undef=.pointer (H (U (w+1+1) 0)))(g:a.tmps.getD 9 undef=X e)(f:a.defers=[]):bodyPost prog b (Xdj cd m cs fuel w) .ret a (Xaa V ((w:Nat)+1+1) 0 [D,D,D,X 0,X 0,D,D,D,D,D,D,X 0,X 0]):=
 ϖ (Xa0 j (Xab d.t D D D (X 0) (X 0) D D D D D D (X 0) (X 0)) _ h g) f ⟨Xal K _ _ d.b,.inl ⟨by rw[c];exact i,by rw[c]⟩⟩
def Xey(m:Mm):List (List Int):=ϱ m.G.length 0::m.N.map λx=>ϱ x.f.length 0
def Xjk{k:Nat}(a:k<=m.N.length):(Xey m)[k]?=H (ϱ (Xc6 m k).toNat 0)/\0<=Xc6 m k:=by
 unfold Xc6;rw[if_neg K];refine⟨?_,In _⟩;rw[Int.toNat_natCast];unfold Bd Xaw;cases k with
 |zero=>simp[Xey];rw[if_neg K]
 |succ k=>
  let⟨x,a⟩:=Ϡ m.N k;dsimp only;rw[if_neg K,if_pos K];have b:(((k+1:Nat):Int)-1).toNat=k:=K;rw[b,a];simp[Xey,a]
def nrS(m:Mm)(fuel:Int)(n p:Nat)(cs:List (List Bi)):Tra:={nr0 m n fuel with q6:=(Xey m).take p,A:=cs}
structure Xo3(m:Mm)(cs:List (List Bi))(fuel:Int)(W:Ϣ)(C0:A1)(bo k:Nat)(wr:Ϣ)(c:A1):Prop where
 st:SAt wr c bo (nrS m fuel cs.length (m.N.length+1) (cs.take k))
 chg:AT NZ C0 c W wr
def Xmo(cd:AQ)(m:Mm)(cs:List (List Bi))(fuel:Int)(C G lv:ϒ)(w:Ϣ)(t:C8 w)(e:BF w w C cd)(d:Lw w w G m)(hl:AE w w 1 (Bg 2 (DA w) w) lv cs)(z:in64 fuel)(s:Xe m cs) :
  ϙ prog 10 #[C,G,lv,X fuel] w (Xdj cd m cs fuel w):=by
 obtain⟨_,_,rfl,o,r,y⟩:=id e;obtain⟨lQ,lR,rfl⟩:=o.u1;obtain⟨lS,lT,rfl⟩:=r.u1;obtain⟨_,_,rfl,f,l⟩:=id d;obtain⟨lB,lC,rfl⟩:=f.u1;obtain⟨lD,lE,rfl⟩:=l.u1;have:cs.length<=140737488355328:=by let⟨_,_,_,h,_⟩:=hl;exact h
 obtain⟨_,_,rfl⟩:=hl.u1;have jV:=Lh s;have:=Lh hl;let⟨W,a⟩:=ε (((w.alloc (Z (Bc lQ lR lS lT cd) 25)).alloc (Z (Bm lB lC lD lE m) 28)).alloc (Z #[D,D,D,X 0,X 0,D,D,D,D,D,D,X 0,X 0] 39));have g:=Lh (Xow a t e d hl);clear o r y t e d hl f l s z;obtain⟨⟨c0,c1,c2,f⟩,⟨g0,g1,e⟩,-⟩:=g.o W Br;go_in;go_upto_region 1 with fail;rw[<-a];clear a;go_wp2_with fail;refine(PR cd _ (w:Nat) W (g.o W Br).b.size (g.o W Br).cod).mono ?_;rintro C a⟨rfl,d⟩;have o:=Lh d;clear c0 c1 c2 f g0 g1 e d;cases mC:DW cd with
 |false=>have jE:=Lh mC;clear mC;have:=ϵ (g.o a o.o).t;have:=ϴ (g.o a o.o).t;go_wp2_with fail;rw[Xaf];exact Xer rfl (g.o a o.o) (TT (.inl jE.o)) K rfl rfl rfl
 |true=>
 have kJ:=Lh mC;clear mC;obtain⟨⟨c0,c1,c2,f⟩,⟨g0,g1,d⟩,-⟩:=g.o a o.o;go_wp2_with fail;refine(Rl cd _ m _ (w:Nat) a (g.o a o.o).b.size (g.o a o.o).cod (g.o a o.o).mm).mono ?_;rintro C w2⟨rfl,a⟩;have e:=Lh (o.o.th a);clear c0 c1 c2 f g0 g1 d a;cases mB:Bb cd m with
 |false=>have jF:=Lh mB;clear mB;have:=ϵ (g.o w2 e.o).t;have:=ϴ (g.o w2 e.o).t;go_wp2_with fail;rw[Xaf];exact Xer rfl (g.o w2 e.o) (TT (.inr jF.o)) K rfl rfl rfl
 |true=>
 have P:=Lh (ϟ kJ.o mB);clear mB;go_wp2_with fail;refine(Xhz fuel 0 1048576 w2).mono ?_;rintro C G⟨rfl,a⟩;rw[a];clear a;cases lZ:Xiz fuel 0 1048576 with
 |false=>have jN:=@Lh (fuel<0\/1048576<fuel) (by simp[Xiz]at lZ;omega);clear lZ;have:=ϵ (g.o w2 e.o).t;have:=ϴ (g.o w2 e.o).t;go_wp2_with fail;rw[Xaf];exact Xer rfl (g.o w2 e.o) (TY P.o jN.o) K rfl rfl rfl
 |true=>
 have lN:=Lh (by simpa[Xiz]using lZ);clear lZ;by_cases iV:cs.length=0
 .have jO:=Lh iV
  have:((cs:Int)==0)=ϑ:=by simp[iV]
  clear iV;have:=ϵ (g.o w2 e.o).t;have:=ϴ (g.o w2 e.o).t;go_wp2_with fail;rw[Xaf];exact Xer rfl (g.o w2 e.o) (Wm P.o lN.o jO.o) K rfl rfl rfl
 have jR:=Lh iV;have:((cs:Int)==0)=ϝ:=by simp[iV]
 clear iV;by_cases mW:8<(cs:Int)
 .have jI:=Lh mW
  have:=ϵ (g.o w2 e.o).t;have:=ϴ (g.o w2 e.o).t;go_wp2_with fail;rw[Xaf];exact Xer rfl (g.o w2 e.o) (TU P.o lN.o jR.o (.inl (by have:=jI.o;omega))) K rfl rfl rfl
 have mP:=@Lh (cs.length<=8) K;go_wp2_with fail;go_loopw[11] (λi wr=>∃k:Nat,k<=cs.length/\i=X k/\Hid (ϐ W W wr)/\Hid (∀(j:Nat) d,j<k->cs[j]?=H d->d.length<=2000)) (λi _=>cs.length-(intOf i).toNat);exact⟨0,Nat.zero_le _,rfl,e,Lh (λj d h=>by omega)⟩;obtain⟨k,_,rfl,f,r⟩:=hrel;obtain⟨L,rfl⟩:=ε (wr:Ϣ);by_cases mV:k<cs.length
 .obtain ⟨d,hl⟩:=Ϡ cs k mV
  obtain⟨_,_,rfl,t,_,jJ,l⟩:=(g.o L f.o).cs.nth hl;obtain⟨_,_,rfl⟩:=l.u1;have:d.length<=140737488355328:=by let⟨_,_,_,h,_⟩:=l;exact h
  rw[Nat.mul_one]at jJ;have iT:=Lh hl;have:=In k;have nB:(k:Int)<(cs:Int):=K;clear hl l t;by_cases mU:2000<(d:Int)
  .have jW:=@Lh (cs.any (λd=>decide (2000<(d:Int)))=ϑ) (List.any_eq_true.2 ⟨d,Lm iT.o,by simpa using mU⟩)
   have:=ϵ (g.o L f.o).t;have:=ϴ (g.o L f.o).t;go_wp2_with fail;rw[Xaf];exact Xer rfl (g.o L f.o) (TU P.o lN.o jR.o (.inr jW.o)) K rfl rfl rfl
  have jU:Hid (∀(j:Nat) d,j<k+1->cs[j]?=H d->d.length<=2000):=Lh (λj s a E=>by
   by_cases hF:j=k
   .subst hF;rw[iT.o]at E;cases E;omega
   exact r.o j s K E)
  go_wp2;go_roundw;exact⟨k+1,K,by go_num,f,jU⟩;simp[intOf];omega
 obtain rfl:k=cs.length:=K;have mN:Hid (∀d∈cs,d.length<=2000):=Lh (λd hl=>by
  obtain⟨j,y,rfl⟩:=List.getElem_of_mem hl;exact r.o j _ y (Lg y))
 have mT:=Lh (Wn P.o lN.o jR.o mP.o (List.any_eq_false.2 (λd hl=>by have:=mN.o d hl;simp;omega)));have jB:=f;clear f e o r;obtain⟨-,⟨g0,g1,e⟩,-⟩:=g.o L jB.o;go_upto_region 15 with fail;have a:=g.o L.drew (AG jB.o 1);refine wp_region_bel (λV h=>ϟ (AB h g0) (AB h g1)) [1,4,6,8,10,11,12,13] ϑ 14 rfl κ κ ?_;refine Xac ?_;clear g0 g1 e;refine Xmd (q:=53) (x:=12) (C0:=(λb=>if b=(w:Nat)+1+1 then 14 else 0)) fuel (.agg (Bm lB lC lD lE m)) δ Xje rfl κ δ (n:=cs.length) (m:=m) (by have:=mP.o;omega) ψ ⟨rfl,rfl,rfl,rfl⟩ rfl rfl (λV y h=>⟨h.cell a.g.1 (no _),h.cell a.g.2.1 (no _)⟩) (λb C=>if_neg (by have:=a.s;omega)) (λV y h=>?_) (λu1 u4 u6 u8 y G t c C iQ e=>?_)
 .have y:=(⟨h.os,h.tape,h.output,h.size,λb G=>h.kp b G (no _)⟩:ϐ L.drew.heap.size L.drew V).mono a.b.size
  exact Nq m _ (w:Nat) V (Nt a.b.size y.size) (a.mm.below y) jV.o.g jV.o.n jV.o.f
 simp only[Ap];have Y:Hid (SAt C c t (nrS m fuel cs.length 0 [])/\AT NZ (λb=>if b=(w:Nat)+1+1 then 14 else 0) c L.drew C):=Lh ⟨iQ,e.nz⟩;clear iQ e a;have mE:Hid (∀(V:Ϣ)(a:A1),AT NZ (λb=>if b=(w:Nat)+1+1 then 14 else 0) a L.drew V->ϐ W W V/\a ((w:Nat)+1+1)=14):=Lh (λV a h=>by
  have y:=g.o L.drew (AG jB.o 1);exact⟨(AG jB.o 1).th ⟨h.os,h.tape,h.output,h.size,λb a=>h.kp b a (by show ¬NZ (if _ then _ else _);split;exact Io;exact Qx)⟩,(h.old _ (by have:=y.s;omega)).trans (if_pos rfl)⟩)
 go_upto_block 2 with fail;go_cut[] (λa=>Hid (∃c,SAt a c t (nrS m fuel cs.length (m.N.length+1) [])/\AT NZ (λb=>if b=(w:Nat)+1+1 then 14 else 0) c L.drew a))
 .have:=jV.o.n;go_wp2_with fail;go_loopw[13] (λi wr=>∃k:Nat,k<=m.N.length+1/\i=X k/\Hid (∃c,SAt wr c t (nrS m fuel cs.length k [])/\AT NZ (λb=>if b=(w:Nat)+1+1 then 14 else 0) c L.drew wr)) (λi _=>m.N.length+1-(intOf i).toNat);exact⟨0,Nat.zero_le _,rfl,Lh ⟨_,Y.o⟩⟩
  obtain⟨k,_,rfl,iQ⟩:=hrel;let⟨c,iQ⟩:=iQ.o;have kF:=Lh iQ;have a:=Lh (g.o wr (mE.o wr c iQ.2).1);obtain⟨-,⟨g0,g1,A⟩,-⟩:=a.o;clear iQ;by_cases lV:k<=m.N.length
  .have nA:(k:Int)<=(m.N:Int):=K
   have lY:=Lh lV;let⟨q,mG⟩:∃q:Nat,Xc6 m k=q:=⟨(Xc6 m k).toNat,by have:=(Xjk lV).2;omega⟩;have r:(Xey m)[k]?=H (ϱ q 0):=by rw[(Xjk lV).1,mG];rfl
   have mQ:=Lh r;have kX:=@Lh (q<=1000000) (by
    have o:=Lm r;unfold Xey at o;rcases ϰ.1 o with e|e
    .have:=congrArg List.length e;simp at this;have:=jV.o.g;omega
    obtain⟨x,o,a⟩:=List.mem_map.1 e;have:=congrArg List.length a;simp at this;have:=jV.o.f x o;omega)
   have lK:=Lh (λe o=>by
    have a:=g.o e ((mE.o wr c kF.o.2).1.th o);have:=Xhp m _ (k:Int) (w:Nat) e a.b.size a.mm (In _) (by have:=jV.o.n;omega);rw[mG]at this;exact this)
   let⟨z,a⟩:=ε (nrS m fuel cs.length k []);have mO:=Lh a;have o:z.q6.length=k:=by rw[a];show((Xey m).take k).length=k;rw[List.length_take];simp[Xey];omega
   have VS:=@Lh (SAt wr c t z) (by rw[a];exact kF.o.1);let⟨lH,lI,mH,f,l,e⟩:=VS.o.growV;have mF:=Lh l;have mK:=Lh e;have mI:=Lh o;have iZ:Hid (c t=1/\t<wr/\(∀b,(wr:Nat)<=b->c b=0)/\wr.frozen? (U t 2)=ϝ):=Lh ⟨VS.o.lab,VS.o.lt,VS.o.hi,VS.o.frz 2⟩;have lM:=@Lh (c ((w:Nat)+1)=0) (by rw[kF.o.2.old _ (by have:=(g.o L.drew (AG jB.o 1)).s;omega)];exact if_neg K);clear a o mG r lV l e;go_upto_region 19 with fail;refine wp_region_bel (λV h=>ϟ (AB h f) (ϟ (AB h g0) (AB h g1))) [4,5,6,7,9] ϑ 10 rfl κ κ ?_;refine Xac ?_;have C:=Lh (ϟ f (ϟ g0 g1));clear f g0 g1 A;refine AH κ ?_;go_simp;refine(lK.o _ (AG Br 1)).mono ?_;rintro o a⟨rfl,e⟩;have y:=Lh ((AG Br 1).th e:ϐ wr wr a);clear e;refine⟨Θ3 y.o C.o,?_⟩;have e:=λWq=>FK Wq q (by have:=kX.o;omega);refine AH κ ?_;go_simp;clear e;have e:ϐ a a (a.alloc (Z (Ad (ϱ q 0)) 3)):=AA _ _;refine⟨⟨AB e (AB y.o C.o.1),AB e (AB y.o C.o.2.1),AB e (AB y.o C.o.2.2)⟩,?_⟩;let⟨U4,f⟩:=ε (a.alloc (Z (Ad (ϱ q 0)) 3));rw[<-f];rw[<-f]at e;have P:=Lh (y.o.th e);have jB:Hid (∀o:A1,o (a:Nat)=100+16*z.q6.length+2->Dq U4 o (100+16*z.q6.length+2) (O (H (U a 0)) q q) (ϱ q 0)):=Lh (λo G=>by
    rw[f];exact QB (w:=a) (c:=o) (k:=q) (by have:=kX.o;omega) G)
   have l:(U4:Nat)=(a:Nat)+1:=by rw[f];simp
   have G:=Lh l;clear f e l;refine AH κ ?_;go_simp;have A:ϐ U4 U4 (U4.alloc (Z #[O (H (U a 0)) q q] 22)):=AA _ _;refine⟨Θ3 (P.o.th A) C.o,?_⟩;let⟨o,r⟩:=ε (λb=>if b=(a:Nat)then 100+16*z.q6.length+2 else c b:A1);have f:o (a:Nat)=100+16*z.q6.length+2:=by rw[r];exact if_pos rfl
   have N:AT NO c o wr (U4.alloc (Z #[O (H (U a 0)) q q] 22)):=by have e:=P.o.th A;have:=y.o.size;exact⟨e.os,e.tape,e.output,e.size,λb h _=>e.block b h,λb h=>by rw[r];exact if_neg K,no 0⟩
   have Q:∀b,(U4.alloc (Z #[O (H (U a 0)) q q] 22)).heap.size<=b->o b=0:=λb h=>by have:=G.o;have:=y.o.size;simp at h;rw[r];show(if b=(a:Nat)then _ else _)=0;rw[if_neg K];exact iZ.o.2.2.1 b K
   have e:=Lh N;have iT:=Lh ((jB.o o f).kp (T:=NO) (AT.ob A (no 0)) (no _));clear f;refine AH κ ?_;refine Dz (λk=>k=22) (.tmp 72) (.tmp 77) 34 22 rfl underlying34 Xa8 rfl δ δ (c:=o) (tag:=22) (v:=O lH z.q6 lI) (n:=z.q6.length) (xs:=mH) rfl (mF.o.kp N (no _)) (U U4 0) 1 1 [O (H (U a 0)) q q] rfl rfl (λj u R=>by rw[GB,Nat.zero_add,B6];simpa using R) (by simp[Value.oneCell']) δ (by have:=mI.o;have:=jV.o.n;have:=lY.o;omega) rfl K Q (λy G o P jA F iW S=>?_);let⟨f,cg⟩:=mK.o o P (O (H (U y 0)) (z.q6.length+1) G) (O (H (U a 0)) q q) _ (ϱ q 0) (F.aft e.o) iW jA ⟨q,by
    have:=iT.o.1.kp F K;simpa using this⟩
   have a:=F.aft e.o;have M:=a.cell C.o.1 (Ϟ iZ.o.1 ω);have J:=a.cell C.o.2.1 (by show ¬c ((w:Nat)+1)=22;rw[lM.o];omega);have B:=a.cell C.o.2.2 (by show ¬c ((w:Nat)+1)=22;rw[lM.o];omega);have C:=a.frozen iZ.o.2.1 iZ.o.2.2.2 (Ϟ iZ.o.1 ω);let⟨e,l⟩:=ε (o.setCell (U t 2) (O (H (U y 0)) (z.q6.length+1) G));rw[<-l]at f cg;have kQ:Hid (∃c,SAt e c t (nrS m fuel cs.length (k+1) [])/\AT NZ (λb=>if b=(w:Nat)+1+1 then 14 else 0) c L.drew e):=Lh ⟨P,by
    rw[mO.o]at f;have e:({nrS m fuel cs.length k []with q6:=(nrS m fuel cs.length k []).q6++[ϱ q 0]}:Tra)=nrS m fuel cs.length (k+1) []:=by unfold nrS;dsimp only;rw[Xa2 mQ.o]
    rw[<-e];exact f,kF.o.2.trans (cg.mono (λiR e=>by unfold NZ;omega) Qx)⟩
   have e:=Lh l;clear F iW jA S f cg a r N Q A l;refine⟨.inl ⟨M,J,B⟩,?_⟩;refine AH κ ?_;go_simp;refine BH ?_;clear M J B C;rw[<-e.o];clear e;have mZ:=lY.o;go_wp2;go_roundw;exact⟨k+1,K,by go_num,kQ⟩;simp[intOf];omega
  have mY:¬(k:Int)<=(m.N:Int):=K;obtain rfl:k=m.N.length+1:=K;go_wp2;go_meet;exact Lh ⟨c,kF.o⟩
 let⟨o,e,a⟩:=hcut.o;have kH:Hid (Xo3 m cs fuel L.drew (λb=>if b=(w:Nat)+1+1 then 14 else 0) t 0 wc o):=Lh ⟨e,a⟩;clear hcut e a Y;go_wp2_with fail;go_loopw[14] (λi wr=>∃k:Nat,k<=cs.length/\i=X k/\Hid (∃c,Xo3 m cs fuel L.drew (λb=>if b=(w:Nat)+1+1 then 14 else 0) t k wr c)/\Hid (∀d∈cs.take k,∀s∈d,AS cd s 0=0)) (λi _=>cs.length-(intOf i).toNat);exact⟨0,Nat.zero_le _,rfl,Lh ⟨_,kH.o⟩,Lh ψ⟩;obtain⟨k,_,rfl,iQ,mA⟩:=hrel;let⟨c,iQ⟩:=iQ.o;have jG:=Lh iQ;clear iQ;obtain⟨Y,rfl⟩:=ε (wr:Ϣ);have jX:=Lh (mE.o Y c jG.o.chg).1;have kN:=Lh (g.o Y jX.o);by_cases mS:k<cs.length
 .obtain ⟨d,hl⟩:=Ϡ cs k mS
  obtain⟨iU,jM,rfl,r,_,l,f⟩:=kN.o.cs.nth hl;obtain⟨_,jL,rfl⟩:=f.u1;rw[Nat.mul_one]at l;have lO:=Lh hl;have lA:=Lh f;have kS:=Lh l;have mD:=Lh (mN.o d (Lm hl));have:=In k;have mX:(k:Int)<(cs:Int):=K;have lX:=Lh r;clear hl f r;go_wp2_with fail;clear l;go_loopw[15,16] (λv i wr=>∃(p:Nat)(e:Option Addr)(a:Nat),p<=d.length/\v=O e p a/\i=X p/\Hid (∃c xs,Pa d Y p (O e p a) c xs wr)/\Hid (∀s∈d.take p,AS cd s 0=0)) (λ_ i _=>d.length-(intOf i).toNat);exact⟨0,none,0,Nat.zero_le _,rfl,rfl,Lh ⟨_,_,Ao.nil _ _ _ _ _,AT.ob Br δ,Ee,λi x a=>by omega,rfl⟩,Lh ψ⟩;obtain⟨p,jS,jT,_,rfl,rfl,f,lP⟩:=hrel;let⟨c2,xs,f⟩:=f.o;have jP:=Lh f;have kA:=Lh (f.chg.below0 δ);clear f;have cQ:=Lh (jX.o.th kA.o);obtain⟨⟨c0,c1,iX,iY⟩,-⟩:=g.o wr cQ.o;have S:=AB kA.o kS.o;by_cases mR:p<d.length
  .obtain ⟨x,r⟩:=Ϡ d p mR
   obtain⟨f,l,rfl,iS,J,⟨_,B,A⟩,Q⟩:=(lA.o.cals (kA.o.mono kN.o.b.size)).nth r;obtain⟨M,N,rfl⟩:=A.u1;have lJ:=Lh r;have lW:=Lh Q;have mM:=Lh (jV.o.a d (Lm lO.o) x (Lm r));have lG:=Lh A;have:=In p;have:(p:Int)<(d:Int):=K;have lF:=@Lh (DD [((U f (l+p*2)),.string x.proc),((U f (l+p*2+1)),O M x.args N),((U iU (jM+k)),O (H (U f l)) d jL),((U w 0),O lQ cd.H lR),((U w 1),X cd.G),((U w 2),O lS cd.q0 lT)] wr) (.cons J (.cons B (.cons S (.cons c0 (.cons c1 (.cons iX .nil))))));have kG:=@Lh (∀V,DD [((U f (l+p*2)),.string x.proc),((U f (l+p*2+1)),O M x.args N),((U iU (jM+k)),O (H (U f l)) d jL),((U w 0),O lQ cd.H lR),((U w 1),X cd.G),((U w 2),O lS cd.q0 lT)] V->V.cell? (U f (l+p*2))=H (.string x.proc)/\V.cell? (U f (l+p*2+1))=H (O M x.args N)/\V.cell? (U iU (jM+k))=H (O (H (U f l)) d jL)/\V.cell? (U w 0)=H (O lQ cd.H lR)/\V.cell? (U w 1)=H (X cd.G)/\V.cell? (U w 2)=H (O lS cd.q0 lT)) (λV h=>⟨h.get 0 rfl,h.get 1 rfl,h.get 2 rfl,h.get 3 rfl,h.get 4 rfl,h.get 5 rfl⟩);have kR:=@Lh (f<Y/\iU<Y) (by have:=kN.o.b.size;have:=lX.o;omega);clear J B r A iS c0 c1 iX iY Q;go_upto_region 27 with fail;have o:=Lh (lF.o.kp (AG Br 1));have e:=Lh (AG cQ.o 1);have a:=Lh (g.o wr.drew e.o);have y:Hid (Gh w wr.drew (.agg #[.string x.proc,O M x.args N]) x):=Lh ⟨_,rfl,lG.o.ints ((AG Br 1).mono (g.o wr cQ.o).b.size),lW.o⟩;clear S;refine Gq (DD [((U f (l+p*2)),.string x.proc),((U f (l+p*2+1)),O M x.args N),((U iU (jM+k)),O (H (U f l)) d jL),((U w 0),O lQ cd.H lR),((U w 1),X cd.G),((U w 2),O lS cd.q0 lT)]) [9] κ κ o.o ?_;refine Xcy kG ?_;refine E5 (Eq.refl ϑ) rfl ?_;go_simp;go_at_call 35;refine(PS cd _ x _ fuel (w:Nat) wr.drew a.o.b.size a.o.cod y.o).mono ?_;rintro y kB⟨rfl,a⟩;rw[Xmn lN.o];have Q:=Lh (o.o.kp a);have jZ:=Lh (e.o.th a);have iS:=Lh ((AG Br 1).th a);refine⟨Q.o,?_⟩;clear a;let⟨kL,a⟩:=ε (AS cd x 0);rw[<-a];have lL:=Lh a;clear a;refine Xcy kG ?_;refine Fp ?_;by_cases kI:kL=0
   .subst kI
    have mJ:Hid (∀s∈d.take (p+1),AS cd s 0=0):=Lh (λs E=>by
     rw[List.take_add_one,lJ.o]at E;rcases List.mem_append.1 E with E|E
     .exact lP.o s E
     simp at E;subst E;exact lL.o.symm)
    go_upto_region 30 with fail;let⟨V,a⟩:=ε kB;rw[<-a]at Q jZ iS ⊢;clear a;have G:=Lh (λb a=>jP.o.hi b (Nt iS.o.size a));have C:=@Lh ((V.alloc (Z #[] 3)).drew.heap[(V:Nat)]?=H (Z #[] 3 (0,0))) (Hn V _);have y:=@Lh (ϐ V V (V.alloc (Z #[] 3)).drew) (Cb V _);have z:=Lh (lG.o.ints ((iS.o.th y.o).mono (g.o wr cQ.o).b.size));obtain⟨a,e,r,-⟩:=kG.o V Q.o;have o:=Lh (ϟ a (ϟ e r));refine wp_region_bel (λV h=>ϟ (AB h a) (ϟ (AB h e) (AB h r))) [9,18,19,20,21,22] ϑ 23 rfl κ κ ?_;refine Xac ?_;clear a e r;refine AH κ ?_;go_simp;refine⟨Θ3 (AA _ _) o.o,?_⟩;refine AH κ ?_;refine IT (w0:=V) (.tmp 117) (.tmp 125) rfl (c:=c2) V C.o rfl y.o (Nr _) M x.args.length N x.args (w:Nat) rfl z.o mM.o G.o (λg1 z l f e _=>?_);have G:=Lh f;have a:=Lh e;clear f e;refine⟨.inl (Θ3 a.o o.o),?_⟩
    (refine' Ae κ _ (λf e=>?_) ?_;rotate_left;(clear e;go_simp);(try with_reducible rfl);try simp only[Ap])
    refine AH κ ?_;go_simp;refine⟨⟨AB (AA _ _) (AB a.o o.o.1),AB (AA _ _) (AB a.o o.o.2.1),AB (AA _ _) (AB a.o o.o.2.2)⟩,?_⟩;have y:=Lh (iS.o.th a.o);have e:=@Lh (ϐ wr wr (l.alloc (Z #[.string x.proc,O (H (U g1 0)) x.args z] 64))) (y.o.th (AA _ _));have C:=Lh (λb f=>jP.o.hi b (Nt e.o.size f));refine AH κ ?_;refine Dz (λiR=>iR=1) (.tmp 108) (.tmp 128) 65 64 rfl underlying65 PX rfl δ δ (c:=c2) (tag:=1) (v:=O jS p jT) (n:=p) (xs:=xs) rfl (jP.o.row.kp (T:=NO) (AT.ob (c:=c2) e.o (λh=>h)) (λh=>h)) (U l 0) 1 1 [.string x.proc,O (H (U g1 0)) x.args z] rfl rfl (λj u R=>(Cy l _ _ j).trans (by simpa using R)) (by simp[Value.oneCell']) δ (by have:=mD.o;omega) rfl δ C.o (λf l z e jA F iW r=>?_);have l:=jP.o.next lJ.o lW.o y.o G.o F iW jA;have kK:=Lh l;have e:∀b,b<(Y:Nat)->¬c2 b=1:=λb f=>by rw[jP.o.chg.old b f,Mv f];decide
    refine⟨.inl ⟨F.cell (AB (AA _ _) (AB a.o o.o.1)) (e _ (by have:=kR.o.1;omega)),F.cell (AB (AA _ _) (AB a.o o.o.2.1)) (e _ (by have:=kR.o.1;omega)),F.cell (AB (AA _ _) (AB a.o o.o.2.2)) (e _ (by have:=kR.o.2;omega))⟩,?_⟩;clear jA F iW r l e;refine AH κ ?_;go_simp;refine BH ?_;have:=mD.o;go_wp2;go_roundw;exact⟨p+1,_,_,K,rfl,by go_num,Lh ⟨_,_,kK.o⟩,mJ⟩;simp[intOf];omega
   have kE:=Lh kI;have:=τ kL 0 kI;have jY:=@Lh (Ed cd cs=kL) (by
    have h:=lL.o;rw[h];exact Km lO.o mA.o lJ.o lP.o (by rw[<-h];exact kI))
   clear kI;have:=ϵ (g.o kB jZ.o).t;have:=ϴ (g.o kB jZ.o).t;go_wp2_with fail;rw[Xaf];exact Xer rfl (g.o kB jZ.o) (mT.o.trans jY.o) kE.o rfl rfl rfl
  obtain rfl:p=d.length:=K;have a:=jP.o.post;let⟨kC,kD,B,S,J⟩:=a;have kZ:=Lh J;have mL:Hid (∀A∈cs.take (k+1),∀s∈A,AS cd s 0=0):=Lh (λA iV s E=>by
   rw[List.take_add_one,lO.o]at iV;rcases List.mem_append.1 iV with iV|iV
   .exact mA.o A iV s E
   simp at iV;subst iV;exact lP.o s (by rw[List.take_length];exact E))
  obtain⟨rfl,rfl⟩:jS=kC/\jT=kD:=by simpa using B
  have kT:=@Lh ((cs.take k).length=k) (by rw[List.length_take];omega);have r:Hid (c t=1/\t<Y/\(∀b,(Y:Nat)<=b->c b=0)/\∀j,Y.frozen? (U t j)=ϝ):=Lh ⟨jG.o.st.lab,jG.o.st.lt,jG.o.st.hi,jG.o.st.frz⟩;have lU:Hid (∀(k2:Nat) u s,([O jS d jT]:List ϒ)[k2]?=H u->([.i (Xbz d)]:List Xad)[k2]?=H s->X6 wr c (100+16*(((nrS m fuel cs.length (m.N.length+1) (cs.take k)).A.map λd=>Xad.i (Xbz d)).length+k2)+6) u s):=Lh (λk2 u s R E=>by
   match k2,R,E with
   |0,R,E=>cases R;cases E;exact⟨Xeh _,by unfold Xbz;rw[Hk];exact kZ.o c (λb a=>r.o.2.2.1 b a)⟩
   |k2+1,R,E=>simp at R)
  let⟨kU,kV,kW,f,e,a⟩:=X5.growG (show X5 Y c _ t (Xag _)from jG.o.st) (j:=6) (n:=k) rfl (by rw[List.length_map,Nat.mul_one];exact kT.o) K;have kO:=Lh e;have kY:=Lh a;have jH:=AB kA.o f;clear e a B S J f c0 c1 iX iY;have jQ:=@Lh (AT (λiR=>iR=19) c c Y wr) (AT.ob kA.o K);have jK:=Lh (λb a=>r.o.2.2.1 b (Nt kA.o.size a));have kM:=@Lh (∀b,(wr.alloc (Z #[O jS d jT] 65)).heap.size<=b->c b=0) (λb a=>jK.o b (by simp at a;omega));have J:=@Lh (AT (λiR=>iR=19) c c Y (wr.alloc (Z #[O jS d jT] 65))) (jQ.o.trans (AT.ob (AA _ _) K));go_wp2_with(at_builtin;refine wpList_plain rfl (λa e=>?_);refine Dz (λiR=>iR=26) (.tmp 131) (.tmp 133) 29 65 rfl underlying29 Kl rfl δ δ (c:=c) (tag:=26) (v:=O kU k kV) (n:=k) (xs:=kW) rfl (kO.o.kp J.o K) (U wr 0) 1 1 [O jS d jT] rfl rfl (λj u R=>(Cy wr _ _ j).trans (by simpa using R)) (by simp[Value.oneCell']) δ (by have:=mP.o;omega) rfl δ kM.o (λiX iY B jD jA F iW kP=>?_);let⟨iQ,S⟩:=kY.o (λiR=>iR=19) wr c B jD [O jS d jT] [.i (Xbz d)] (O (H (U iX 0)) (k+1) iY) (k+1) jQ.o jK.o K (Xai λiR a=>by omega) ((AT.ob (AA _ _) K).trans F) iW jA rfl lU.o;have:=F.cell (AB (AA _ _) jH) (Ϟ r.o.1 ω);have:B.frozen? (U t 6)=ϝ:=F.frozen (Nl r.o.2.1 J.o.size) (J.o.frozen r.o.2.1 (r.o.2.2.2 6) (Ϟ r.o.1 ω)) (Ϟ r.o.1 ω);have:t<B:=Nl r.o.2.1 (Nt J.o.size F.size));let⟨e,a⟩:=ε (B.setCell (U t 6) (O (H (U iX 0)) (k+1) iY));rw[<-a]at iQ S;have f:Hid (Xo3 m cs fuel L.drew (λb=>if b=(w:Nat)+1+1 then 14 else 0) t (k+1) e jD):=Lh ⟨(by
   have e:(Xag (nrS m fuel cs.length (m.N.length+1) (cs.take k))).set 6 (.r 65 1 (((cs.take k).map λd=>Xad.i (Xbz d))++[.i (Xbz d)]))=Xag (nrS m fuel cs.length (m.N.length+1) (cs.take (k+1))):=by rw[Xa2 lO.o];unfold nrS Xag;simp
   exact SAt.of iQ e),(jG.o.chg.trans jQ.o.nz).trans (S.mono (λiR d=>by unfold NZ;omega) Qx)⟩
  rw[<-a];clear iQ S jA F iW kP a jH;go_roundw;exact⟨k+1,K,by go_num,Lh ⟨_,f.o⟩,mL⟩;simp[intOf];omega
 obtain rfl:k=cs.length:=K;have jD:=Lh (mT.o.trans (Gp (by
  have h:=mA.o;rw[List.take_length]at h;exact h)))
 have iQ:=jG.o.st;have jC:nrS m fuel cs.length (m.N.length+1) (cs.take cs.length)=ff m fuel cs:=by rw[List.take_length];unfold nrS nr0 ff Xey;simp[List.take_of_length_le]
 rw[jC]at iQ;have iT:=kN.o.t;have jB:Xez (ff m fuel cs):=Xez.newS kN.o.mm;let⟨a,d,e,f,g,h,l,o,r,s,t,y,z,A,B,C,E,F,G,J,L,M,N,P,Q,R,S,jA,iZ⟩:=iQ.cells;have:=ϵ jA;have:=ϵ iT;have:=ϴ iT;have iY:AT (λiR=>iR=14) c c Y (Xaa Y ((w:Nat)+1+1) 0 [O a d e,O f g h,O l o r,X (ff m fuel cs).q3,X (ff m fuel cs).Y,O s t y,O z A B,O C E F,O G J L,O M N P,O Q R S,X (ff m fuel cs).q5,X (ff m fuel cs).U]):=Xak (mE.o Y c jG.o.chg).2 K _ _ _;have iX:=Xab iT (O a d e) (O f g h) (O l o r) (X (ff m fuel cs).q3) (X (ff m fuel cs).Y) (O s t y) (O z A B) (O C E F) (O G J L) (O M N P) (O Q R S) (X (ff m fuel cs).q5) (X (ff m fuel cs).U);have iU:=Xal (b:=(w:Nat)+1+1) K [O a d e,O f g h,O l o r,X (ff m fuel cs).q3,X (ff m fuel cs).Y,O s t y,O z A B,O C E F,O G J L,O M N P,O Q R S,X (ff m fuel cs).q5,X (ff m fuel cs).U] 0 kN.o.b;let⟨WE,iS⟩:=ε (Xaa Y ((w:Nat)+1+1) 0 [O a d e,O f g h,O l o r,X (ff m fuel cs).q3,X (ff m fuel cs).Y,O s t y,O z A B,O C E F,O G J L,O M N P,O Q R S,X (ff m fuel cs).q5,X (ff m fuel cs).U]);rw[<-iS]at iY iX iU;have kP:Hid (Xdj cd m cs fuel w (.returned (.tuple #[.agg #[O a d e,O f g h,O l o r,X (ff m fuel cs).q3,X (ff m fuel cs).Y,O s t y,O z A B,O C E F,O G J L,O M N P,O Q R S,X (ff m fuel cs).q5,X (ff m fuel cs).U],X 0])) WE):=Lh ⟨iU,.inr ⟨jD.o,[O a d e,O f g h,O l o r,X (ff m fuel cs).q3,X (ff m fuel cs).Y,O s t y,O z A B,O C E F,O G J L,O M N P,O Q R S,X (ff m fuel cs).q5,X (ff m fuel cs).U],rfl,(iZ.kp iY (Xai λiR a=>by omega)).q4 jB⟩⟩;have jH:=Lh iX;have iW:=Lh iS;clear iQ jC iT jB jA iZ iY iX iU iS;go_wp2_with fail;rw[Xaf,<- iW.o];exact ϖ (Xa0 (p:=8) (u:=9) rfl jH.o _ rfl rfl) rfl kP.o