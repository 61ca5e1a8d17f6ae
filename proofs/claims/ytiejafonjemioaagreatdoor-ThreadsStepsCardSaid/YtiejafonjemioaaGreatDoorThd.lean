import Derived.Test.YtiejafonjemioaaGreatDoorThp
set_option maxHeartbeats 4000000
set_option maxRecDepth 100000
set_option linter.all false
open Go renaming World→Ϣ,Value→ϒ,Calls→ϙ,heap_setCell_same→ϡ
open Option renaming some→ς
open And renaming intro→ϟ
open Go.Value renaming slice→σ
open Go.Obj renaming cells→χ
namespace Go.Proofs.YtiejafonjemioaaGreatDoor
open Go.RowKit Proofs.Tryz
variable {B b vc M C fc:Nat} {w w' wx:Ϣ} {fv:ϒ} {m:AV} {c c1:A1} {va fa:Option Addr} {cvs:Array ϒ}
def WS:Tl (λ_=>JW):=λ_ _ _ _ _ _ _ _ a h=>⟨a _ _ h.1,a _ _ h.2.1,h.2.2⟩
def WR:Tl CW:=λ_ _ _ _ _ _ _ j a h=>by
 obtain ⟨b,c,d,e,⟨v,f,g⟩,i⟩:=h;exact ⟨a _ _ b,a _ _ c,a _ _ d,a _ _ e,⟨v,a _ _ f,g.ups WS j a⟩,i⟩
def BF.ups {a:Nat} {v:ϒ} {cd:AQ} (b:B<=a) (c:JT w w') (h:BF B w v cd):BF a w' v cd:=by
 obtain ⟨fv,d,e,f,g,i⟩:=h;exact ⟨fv,d,e,f.ups B5 b c,g.ups WR b c,i⟩
structure Pf (cd:AQ) (s:A3) (t:Nat) (m0:AV) (n:Int) (l:List Bi) (r:List CD) (b e:List Int):Prop where
 hm:s.R[t]?=ς m0
 hn:s.N[t]?=ς n
 hl:s.A[t]?=ς l
 hr:s.results[t]?=ς r
 hb:s.Z[t]?=ς b
 he:s.P[t]?=ς e
 rl:r.length<=1000000
 bl:b.length<=1000000
 el:e.length<=1000000
 cnt:0<=n/\n<=4611686018427387904
 U:0<=s.U/\s.U<=4611686018427387904
 head:(m0.J=[]/\∃ x l',l=x::l'/\AS cd x s.Y=0)\/(m0.J≠[]/\Ax cd m0/\Cs m0=true)
def CE.below (h:CE w fv m w'):Below w w w':=by obtain ⟨F,_,_,h⟩:=h;exact h
def Au.local_ {d:Ϣ} {f:Nat} {s:A3} (h:Au w c f s) (a:Below w w d) (k:(w:Nat)<=b) (j:b<d):∃ c1:A1,Au d c1 f s/\AT NO c c1 w d/\c1 b=14:=by
 have i:=h.lab.2.2.1;have g:AT NO c (λx=>if x=b then 14 else c x) w d:=⟨a.os,a.tape,a.output,a.size,λx e _=>a.block x e,λx e=>if_neg ω,no 0⟩
 exact ⟨_,h.chg g (λx e=>by show (if x=b then 14 else c x)=0;rw [if_neg ω];exact i x (Nt a.size e)) (λt l=>l.elim),g,if_pos rfl⟩
def CE.fras (h:CE w (σ va m.J vc) m w') (a:∀ b,(w:Nat)<=b->c b=0) (d:IK m):AE w' (mask w' c) 4 (CK w') (σ va m.J vc) m.J:=by
 obtain ⟨F,e,f,i⟩:=h;have:=(e.kp (w':=mask w' c) (λb g=>Jj (a b (f b g)))).reads d.1 d.2;rw [Hk] at this;exact this
def Pq (h:c M=14):AT (λk=>k=14) c c w (Ai w M fv m):=
 ((((((((AT.set (T:=λk=>k=14) h ω).trans (AT.set h ω)).trans (AT.set h ω)).trans (AT.set h ω)).trans (AT.set h ω)).trans (AT.set h ω)).trans (AT.set h ω)).trans (AT.set h ω)).trans (AT.set h ω)
def JC (w:Ϣ) (M:Nat) (fv:ϒ) (m:AV):(Ai w M fv m).heap.size=(w:Nat):=by simp [Ai]
def AE.tail {α:Type} {sz:Nat} {E:Ϣ->Nat->Nat->α->Prop} {o cap:Nat} {x:α} {l:List α} {a:Option Addr} (h:AE B w sz E (σ (ς (π b o)) (x::l).length cap) (x::l)) (d:(if cap=1 then ς ((π b o):Addr) else ς (π b (o+sz)))=a):AE B w sz E (σ a l (cap - 1)) l:=by
 obtain ⟨k,m,e,f,g,n,c⟩:=h;cases e;simp only [List.length_cons] at f g;refine ⟨a,cap - 1,rfl,ω,ω,ω,?_⟩;split at d
 .left;exact List.eq_nil_of_length_eq_zero ω
 .rcases c with c|⟨b',o',e,hb,c⟩
  .cases c
  .cases e
   refine .inr ⟨b,o+sz,d.symm,hb,λi y j=>?_⟩;have:=c (i+1) y (by simpa using j);rwa [Nat.add_mul,Nat.one_mul,show o+(i*sz+sz)=o+sz+i*sz by omega] at this
structure Ks (cvs:Array ϒ) (M C:Nat) (w:Ϣ) (c:A1) (wx:Ϣ) (c1:A1) (m:AV) (fa:Option Addr) (fc:Nat):Prop where
 chg:AT NZ c c1 w wx
 low:(w:Nat)<=M
 box:wx.heap[M]?=ς (χ (AC (σ fa m.J fc) m) 51 (0,0))
 lab:c1 M=14
 code:wx.heap[C]?=ς (χ cvs 25 (0,0))
 lab0:c1 C=0
 fr:AE wx (mask wx c1) 4 (CK wx) (σ fa m.J fc) m.J
def Ks.go {wy:Ϣ} {b:A1} {T:Nat->Prop} (h:Ks cvs M C w c wx c1 m fa fc) (a:AT T c1 b wx wy) (e:¬T 14):Ks cvs M C w c wy b m fa fc:=by
 have d:=(La h.box)
 have f:=(La h.code)
 exact ⟨h.chg.trans (a.nz e),h.low,by rw [a.kp M d (by rw [h.lab];exact e)];exact h.box,by rw [a.old M d];exact h.lab,by rw [a.kp C f (by rw [h.lab0];exact a.zero)];exact h.code,by rw [a.old C f];exact h.lab0,h.fr.ups Dx a.size a.sub⟩
def Ks.put {m':AV} (h:Ks cvs M C w c wx c1 m fa fc) (g:AE wx (mask wx c1) 4 (CK wx) (σ va m'.J vc) m'.J):Ks cvs M C w c (Ai wx M (σ va m'.J vc) m') c1 m' va vc:=by
 have a:AT (λk=>k=14) c1 c1 wx (Ai wx M (σ va m'.J vc) m'):=Pq h.lab;have f:=(La h.code)
 exact ⟨⟨a.os.trans h.chg.os,a.tape.trans h.chg.tape,a.output.trans h.chg.output,Nt h.chg.size a.size,λb d i=>by rw [((AZ h.box (σ va m'.J vc) m').2).block b (Nl d h.chg.size) (λe=>by simp at e;have:=h.low;omega),h.chg.kp b d i],h.chg.old,Qx⟩,h.low,(AZ h.box _ m').1,h.lab,by rw [a.kp C f (by rw [h.lab0];omega)];exact h.code,h.lab0,g.ups Dx a.size a.sub⟩
structure YC (cd:AQ) (cvs:Array ϒ) (s:A3) (t:Nat) (m0:AV) (bt M C:Nat) (w:Ϣ) (c:A1) (wx:Ϣ) (c1:A1) (s1:A3) (m:AV) (fa:Option Addr) (fc:Nat):Prop where
 st:Au wx c1 bt s1
 beg:Nu cd s t m0 m s1
 loc:Ks cvs M C w c wx c1 m fa fc
 wf:GC m
 ok:Cs m=true->Ax cd m
def YD (cd:AQ) (cvs:Array ϒ) (s:A3) (t:Nat) (m0:AV) (bt M C:Nat) (w:Ϣ) (c:A1) (wx:Ϣ):Prop:=∃ c1 s1 m fa fc,YC cd cvs s t m0 bt M C w c wx c1 s1 m fa fc
def MJ (cd:AQ) (fa ga:Option Addr) (fc gc B:Nat) (s:A3) (c:A1) (A t:Nat) (m0:AV) (n:Int) (l:List Bi) (r:List CD) (b e:List Int) (w0 w:Ϣ) (iQ:C8 w0) (iP:(w0:Nat)=B) (iR:Below B w0 w) (hs:AU cd) (iI:Bv cd) (hB:B<=w) (hc:BF B w (.agg (Bc fa fc ga gc cd)) cd) (iN:∀ b,b<B->¬NZ (c b)) (h:Au w c A s) (iO:Dp cd s.M) (hp:Pf cd s t m0 n l r b e) :
  ϙ prog 68 #[.agg (Bc fa fc ga gc cd),.pointer (ς (π A 0)),ι t] w λz w'=>z=.returned (ι 0)/\∃ s',Dg cd s t s'/\EL c A s' w w':=by
 have hL:=iQ.below (by rw [iP];exact iR);have HL:=Lh hL;have cH:=@Lh (∀ V,Below B w V->C8 V) (λV hV=>iQ.below (by rw [iP];exact iR.trans hV));obtain ⟨HC,bM,H0,HM,D⟩:=Λ5 hc iN h iO hp;have i0:=In t;have i1:(t:Int)<(s.R:Int):=by have:=(Ll hp.hm);omega
 obtain ⟨W,hW⟩:=ε (w.alloc (χ (Bc fa fc ga gc cd) 25));have cC:=Lh (bl1 hW);have iA:=Lh (sz1 hW);have HS:=Lh (H0.o.grow cC.o);have fU:=ro11 hW;have hD:=Lh fU;have zR:(w:Nat)<W:=by rw [hW];simp
 obtain ⟨rb,rc,ua,uc,b3,hx,iC,iD,-,fO,fX,-⟩:=HS.o.viewR D.o.hm;have gV:=Lh fO;have hK:=Lh fX;have x0:W.cell? (π rb (t*9))=ς (σ ua m0.J uc):=hx 0 _ rfl;have x1:=Γ9 hx;clear hx iC iD fO fX hL hc iN h iO hp fU iQ iP iR;obtain ⟨E,cR⟩:=ε (W.alloc (χ #[σ ua m0.J uc,ι m0.Q.K,ι m0.Q.O,ι m0.Q.D,ι m0.Q.V,ι m0.Q.X,ι m0.Y,ι m0.C,ι m0.I] 51));have cT:=Lh (bl1 cR);have H:E.heap[(W:Nat)]?=ς (χ (AC (σ ua m0.J uc) m0) 51 (0,0)):=by rw [cR];exact Hn _ _
 have dQ:=Lh H;have gA:=sz1 cR;obtain ⟨U,fV,dY,fQ⟩:=HS.o.local_ cT.o (Nr _) ω;obtain ⟨cA,eX,dM,fF⟩:=Λ4 fV dY fQ gA;have eY:=Lh (gV.o.ups Dx cT.o.size (dY.sub));have M:=ε (W:Nat);have kM:E.cell? (π W 0)=ς (σ ua m0.J uc):=AD H 0 _ rfl;have zM:(W:Nat)<E:=ω;clear fV dY fQ H gA;go_enter func68,ntmps68;go_upto_region 1 with fail;rw [<-hW];clear hW;go_upto_region 2 with fail;rw [<-cR];clear cR x0 x1 b3 i1;go_upto_if 25 with fail
 go_cut [9] (λs9 wx=>Hid (YD cd (Bc fa fc ga gc cd) s t m0 A W (w:Nat) w c wx))
 case first=>
  have bI:=(cT.o.block _ zR).trans hD.o;have cU:=AT.pre cC.o eX.o.nz;have bJ:U (w:Nat)=0:=by rw [eX.o.old _ zR];exact H0.o.lab.2.2.1 _ (Nr _)
  have aJ:=Lh (ϟ bI (ϟ cU bJ));clear bI cU bJ;by_cases cD:m0.J.length=0;rotate_left
  .have d0:(m0.J.length == 0)=false:=by simpa using cD
   have d1:((m0.J:Int) == 0)=false:=by simp only [beq_eq_false_iff_ne,ne_eq];omega
   have gS:=Lh cD;clear cD;go_wp2;go_meet
   case rel=>
    have dF:m0.J≠[]:=λe=>gS.o (by rw [e];rfl);refine Lh ⟨U,s,m0,ua,uc,cA.o,.inl ⟨dF,rfl,rfl⟩,⟨aJ.o.2.1,cC.o.size,dQ.o,dM.o,aJ.o.1,aJ.o.2.2,eY.o⟩,hK.o,λha=>?_⟩;rcases D.o.head with ⟨h,_⟩|⟨_,h,_⟩
    .exact absurd h dF
    .exact h
  .have dD:=List.eq_nil_of_length_eq_zero cD
   obtain ⟨x,l',rfl,hg⟩:∃ x l',l=x::l'/\AS cd x s.Y=0:=by
    rcases D.o.head with ⟨_,h⟩|⟨h,_⟩
    .exact h
    .exact absurd dD h
   have gU:=Lh dD;have HG:=Lh hg;obtain ⟨cb,cc,la,lc,b5,y0,hQ,fK,-,eB,-⟩:=cA.o.viewC D.o.hl;have iG:=Lh eB;obtain ⟨lb,lo,rfl,fR,⟨eF,⟨av,eG,eH⟩,fZ⟩⟩:=eB.nth (k:=0) rfl;rw [Nat.zero_mul,Nat.add_zero] at eF eG;obtain ⟨xa,xc,rfl⟩:=eH.fm;have u0:=JT.mask E U _ _ eF;have u1:=JT.mask E U _ _ eG;obtain ⟨b2,hZ⟩:=cA.o.Y;obtain ⟨g0,g1,g2⟩:=Ω3 aJ.o.1;have fD:Hid (∀ V,Below E E V->ϙ prog 69 #[.agg (Bc fa fc ga gc cd),.agg #[.string x.proc,σ xa x.args xc],ι s.Y] V (λe w'=>∃ m va vc,Cf cd (CF cd x s.Y) m/\e=.returned (.tuple #[.agg #[σ va m.J vc,ι m.Q.K,ι m.Q.O,ι m.Q.D,ι m.Q.V,ι m.Q.X,ι m.Y,ι m.C,ι m.I],ι 0])/\CE V (σ va m.J vc) m w')):=Lh (λV hV=>by
    have hU:=(JT.mask E U).trans (JT.below hV);have hS:B<=E:=by have:=fF.o;have:=iA.o;omega
    have i:=((cC.o.th cT.o).th hV).mono hB;refine (ME cd x s.Y _ _ (V:Nat) V (HL.o.below ((cC.o.th cT.o).th hV)) (Nr _) ((HC.o.below i).up (Nt hS hV.size)) ⟨_,rfl,eH.ups B5 hV.size hU,fZ⟩ iI).mono ?_;rintro e w' (⟨h,_⟩|⟨_,⟨h,_⟩|⟨_,d,fv,h1,h2,h3⟩⟩)
    .exact absurd hs h
    .exact absurd HG.o h
    .obtain ⟨F,k1,k2⟩:=h3
     obtain ⟨va,vc,rfl⟩:=k1.form;exact ⟨d,va,vc,h1,h2,F,k1,k2⟩)
   have d0:(m0.J.length == 0)=true:=by simpa using cD
   have d1:((m0.J:Int) == 0)=true:=by simp;exact dD
   have i2:(t:Int)<(s.A:Int):=by have:=(Ll D.o.hl);omega
   clear cD dD hg eB eF eG eH fZ hZ hQ;go_upto_region 3 with fail;have Z:=Lh (ϟ zR (ϟ zM fR));have gO:=Lh fK
   go_cut [8,9] (λs8 s9 wx=>s9=ι 0/\∃ (X:Nat) (m:AV) (va:Option Addr) (vc:Nat),s8=.pointer (ς (π X 0))/\Hid (Cf cd (CF cd x s.Y) m)/\Hid (CE E (σ va m.J vc) m wx/\wx.heap[X]?=ς (χ (AC (σ va m.J vc) m) 51 (0,0))/\(E:Nat)<=X))
   case first=>
    refine Ac (λq=>q.cell? (π w 0)=ς (σ fa cd.H fc)/\q.cell? (π w 1)=ς (ι cd.G)/\q.cell? (π w 2)=ς (σ ga cd.funcs gc)/\q.cell? (π A 5)=ς (σ (ς (π cb 0)) s.A cc)/\q.cell? (π cb t)=ς (Value.slice (ς (π lb lo)) (x::l').length lc)/\q.cell? (π lb lo)=ς (.string x.proc)/\q.cell? (π lb (lo+1))=ς (σ xa x.args xc)/\q.cell? (π A 2)=ς (ι s.Y)) [14,15,16,17,18,19,20] true 21 rfl κ κ ⟨g0,g1,g2,b5,y0,u0,u1,b2⟩ ?_;refine softA ?_;have HK:=Lh (ϟ g0 (ϟ g1 (ϟ g2 (ϟ b5 (ϟ y0 (ϟ u0 (ϟ u1 b2)))))));clear g0 g1 g2 b5 y0 u0 u1 b2 zR zM fR fK kM d0 d1 i2;refine GW [_,_,_] ?_;refine Dv κ κ ?_ ?_
    .go_simp
     refine (fD.o _ (AG Br 1)).mono ?_;rintro e w1 ⟨m,va,vc,hR,rfl,hN⟩;have i:=(AG Br 1).th hN.below;have HR:=Lh hR;have HN:=Lh hN;have S:=Lh i;clear hR hN i;refine ⟨Θ8 S.o HK.o,?_⟩;refine De ?_
     (refine' Ae κ _ (λwV p=>?_) ?_;rotate_left;(clear p;go_simp);(try with_reducible rfl);try simp only [Ap])
     refine De ?_
     (refine' Ae κ _ (λwV p=>?_) ?_;rotate_left;(clear p;go_simp);(try with_reducible rfl);try simp only [Ap])
     refine De ?_
     (refine' Ae κ _ (λwV p=>?_) ?_;rotate_left;(clear p;go_simp);(try with_reducible rfl);try simp only [Ap])
     refine AH κ ?_;go_simp;refine ⟨Θ8 (S.o.th (AA _ _)) HK.o,?_⟩;refine AH κ ?_;go_simp;refine ⟨Θ8 (S.o.th (AA _ _)) HK.o,?_⟩;refine AH κ ?_;go_simp;refine BH ?_;go_wp2;go_meet
     case rel=>refine ⟨rfl,_,m,va,vc,rfl,HR,Lh ⟨?_,Hn _ _,S.o.size⟩⟩;obtain ⟨F,k1,k2,k3⟩:=HN.o;exact ⟨F,k1.kp (λb i=>Ha _ _ _ (k1.lt b i)),k2,S.o.th (AA _ _)⟩
    .go_simp
     refine ⟨Θ8 (AA _ _) HK.o,?_⟩;obtain ⟨W2,bD⟩:=ε ((E.alloc (χ #[ν,ι 0,ι 0,ι 0,ι 0,ι 0,ι 0,ι 0,ι 0] 51)).drew);have bW:=@Lh (Below E E W2) (by rw [bD];exact Cb _ _);have bZ:=@Lh (W2.heap[(E:Nat)]?=ς (χ #[ν,ι 0,ι 0,ι 0,ι 0,ι 0,ι 0,ι 0,ι 0] 51 (0,0))) (by rw [bD];exact Hn E _);rw [<-bD];clear bD;refine AH κ ?_;go_simp;refine (fD.o _ bW.o).mono ?_;rintro e w1 ⟨m,va,vc,hR,rfl,hN⟩;have i:=bW.o.th hN.below;have HR:=Lh hR;have HN:=Lh hN;have S:=Lh i;have I:w1.heap[(E:Nat)]?=ς (χ #[ν,ι 0,ι 0,ι 0,ι 0,ι 0,ι 0,ι 0,ι 0] 51 (0,0)):=by rw [hN.below.block _ (La bZ.o)];exact bZ.o
     have dR:=Lh I;clear hR hN i;refine ⟨Θ8 S.o HK.o,?_⟩
     (refine' Ae κ _ (λwV p=>?_) ?_;rotate_left;(clear p;go_simp);(try with_reducible rfl);try simp only [Ap])
     (refine' Ae κ _ (λwV p=>?_) ?_;rotate_left;(clear p;go_simp);(try with_reducible rfl);try simp only [Ap])
     (refine' Ae κ _ (λwV p=>?_) ?_;rotate_left;(clear p;go_simp);(try with_reducible rfl);try simp only [Ap])
     have t0:=Ω9 I;have f0:=Ψ 0 I;have f1:=Ψ 1 I;have f2:=Ψ 2 I;have f3:=Ψ 3 I;have f4:=Ψ 4 I;have f5:=Ψ 5 I;have f6:=Ψ 6 I;have f7:=Ψ 7 I;have f8:=Ψ 8 I;have N:(w:Nat)≠(E:Nat):=by have:=Z.o.1;have:=fF.o;omega
     have J:A≠(E:Nat):=by have:=cA.o.lab.2.1;omega
     have K:cb≠(E:Nat):=by have:=gO.o;omega
     have L:lb≠(E:Nat):=by have:=Z.o.2.2;omega
     clear I;refine AH κ ?_;go_simp;clear t0 f0 f1 f2 f3 f4 f5 f6 f7 f8 N J K L;refine ⟨Θ8 S.o HK.o,?_⟩;refine AH κ ?_;go_simp;refine BH ?_;go_wp2;go_meet
     case rel=>
      obtain ⟨p1,p2⟩:=AZ (m0:=AI) (fv0:=ν) dR.o (σ va m.J vc) m;have hT:Below E E (Ai w1 E (σ va m.J vc) m):=S.o.trans (p2.below (λb i=>by simp at i;omega) S.o.size);refine ⟨rfl,_,m,va,vc,rfl,HR,Lh ⟨?_,p1,Nr _⟩⟩;obtain ⟨F,k1,k2,k3⟩:=HN.o;have dF:∀ b∈F,b∉[(E:Nat)]:=λb i e=>by
       have h1:=k2 b i;have h2:=(La bZ.o)
       simp at e;omega
      exact ⟨F,k1.kp (λb i=>p2.block b (k1.lt b i) (dF b i)),λb i=>Nt bW.o.size (k2 b i),hT⟩
   obtain ⟨rfl,X,m,va,vc,rfl,fA,dV⟩:=hcut;have aV:=Jn hs HG.o fA.o;have bE:=dV.o.1.below;have HE:=Lh aV;have hJ:=Lh bE;have fE:=Lh (cA.o.grow bE);have gW:=Lh (dV.o.1.fras cA.o.lab.2.2.1 (aV.1.modest hs iI));have H:=(bE.block _ zM).trans dQ.o;have h8:=dV.o.2.1;have N:wc.cell? (π X 0)=ς (σ va m.J vc):=AD h8 0 _ rfl;have J:wc.cell? (π X 1)=ς (ι m.Q.K):=AD h8 1 _ rfl;have K:wc.cell? (π X 2)=ς (ι m.Q.O):=AD h8 2 _ rfl;have L:wc.cell? (π X 3)=ς (ι m.Q.D):=AD h8 3 _ rfl;have P:wc.cell? (π X 4)=ς (ι m.Q.V):=AD h8 4 _ rfl;have Q:wc.cell? (π X 5)=ς (ι m.Q.X):=AD h8 5 _ rfl;have Y:wc.cell? (π X 6)=ς (ι m.Y):=AD h8 6 _ rfl;have e7:wc.cell? (π X 7)=ς (ι m.C):=AD h8 7 _ rfl;have e8:wc.cell? (π X 8)=ς (ι m.I):=AD h8 8 _ rfl;have o0:wc.cell? (π W 0)=ς (σ ua m0.J uc):=AD H 0 _ rfl;have o1:wc.cell? (π W 1)=ς (ι m0.Q.K):=AD H 1 _ rfl;have o2:wc.cell? (π W 2)=ς (ι m0.Q.O):=AD H 2 _ rfl;have o3:wc.cell? (π W 3)=ς (ι m0.Q.D):=AD H 3 _ rfl;have o4:wc.cell? (π W 4)=ς (ι m0.Q.V):=AD H 4 _ rfl;have o5:wc.cell? (π W 5)=ς (ι m0.Q.X):=AD H 5 _ rfl;have o6:wc.cell? (π W 6)=ς (ι m0.Y):=AD H 6 _ rfl;have o7:wc.cell? (π W 7)=ς (ι m0.C):=AD H 7 _ rfl;have o8:wc.cell? (π W 8)=ς (ι m0.I):=AD H 8 _ rfl;have eL:=Ψ 0 H;have eM:=Ψ 1 H;have eN:=Ψ 2 H;have eO:=Ψ 3 H;have eP:=Ψ 4 H;have eQ:=Ψ 5 H;have eR:=Ψ 6 H;have eS:=Ψ 7 H;have eT:=Ψ 8 H;clear H h8 aV bE;go_upto_region 7 with fail;change Code.wp _ _ _ _ (Ai wc W (σ va m.J vc) m);obtain ⟨w7,cW⟩:=ε (Ai wc W (σ va m.J vc) m);rw [<-cW];have fM:AT (λk=>k=14) U U wc w7:=by rw [cW];exact Pq dM.o
   have cK:=Lh ((Ks.go (T:=NO) ⟨aJ.o.2.1,cC.o.size,dQ.o,dM.o,aJ.o.1,aJ.o.2.2,eY.o⟩ (AT.ob hJ.o (no 0)) (no 14)));have cI:=@Lh (Ks (Bc fa fc ga gc cd) W w w c w7 U m va vc) (by rw [cW];exact cK.o.put gW.o);have hG:=Lh (fE.o.chg fM (λb i=>fE.o.lab.2.2.1 b (by rw [cW,JC] at i;exact i)) (λt ht=>ht));clear fM cW N J K L P Q Y e7 e8 o0 o1 o2 o3 o4 o5 o6 o7 o8 eL eM eN eO eP eQ eR eS eT;obtain ⟨dX,hP,iL,eJ,hO,iF,cM,cP,cO,bR,cN⟩:=hG.o.viewC D.o.hl;obtain ⟨eI,eK,rfl,-⟩:=bR.nth (k:=0) rfl;have gN:=Lh cN;have cz:=cO t;have i4:(1:Int)<=(l':Int)+1:=ω;obtain ⟨pa,fT⟩:∃ a,(if eJ=1 then ς ((π eI eK):Addr) else ς (π eI (eK+2)))=a:=⟨_,rfl⟩
   have hH:=Lh (bR.tail fT);have gM:=Lh (ϟ cM cP);clear bR cN cO cM cP;refine Ac (λq=>q.cell? (π A 5)=ς (σ (ς (π dX 0)) s.A hP)/\q.cell? (π dX t)=ς (Value.slice (ς (π eI eK)) (x::l').length eJ)) [14] true 15 rfl κ κ ⟨hO,iF⟩ ?_;refine softA ?_;refine AH κ ?_;go_simp;refine BH ?_;obtain ⟨w8,dH⟩:=ε ((w7.setCell (π dX t) (σ pa l' (eJ - 1))).drew);rw [<-dH];obtain ⟨gL,-⟩:=gN.o l' _ hH.o;have fN:AT (λk=>k=6) U U w7 w8:=by rw [dH];exact (AT.set (T:=λk=>k=6) gM.o.1 ω).trans (AT.ob (AG Br 1) ω)
   obtain ⟨s8,dG⟩:∃ x:A3,x={ s with A:=s.A.set t l' }:=⟨_,rfl⟩
   have cZ:=@Lh (Au w8 U A s8) (by rw [dH,dG];exact gL.grow (AG Br 1));have cJ:=Lh (cI.o.go fN ω);have gR:=Lh dG;have eW:=@Lh (s8.Z[t]?=ς b) (by rw [dG];exact D.o.hb);have i5:(t:Int)<(s8.Z:Int):=by have:=(Ll eW.o);omega
   have b9:=cZ.o.U.1;clear dH gL fN dG i2 i4 fT cz;go_upto_region 8 with fail;obtain ⟨bV,iB,gH,gI,X,o8,gE,gF,gG,cY,cQ⟩:=cZ.o.viewB eW.o;have dW:=Lh cZ.o.lab;have bN:=Lh (ϟ gE (ϟ gF gG));have hI:=Lh cY;have gP:=Lh cQ;clear gE gF gG cY cQ;refine Ac (λq=>q.cell? (π A 7)=ς (σ (ς (π bV 0)) s8.Z iB)/\q.cell? (π bV t)=ς (σ gH b gI)/\q.cell? (π A 9)=ς (ι s8.U)) [16,17,19] true 20 rfl κ κ ⟨X,o8,b9⟩ ?_;refine softA ?_;have cB:=Lh (ϟ X (ϟ o8 (b9)));clear X o8 b9;refine AH κ ?_;go_simp;refine ⟨Θ3 (AA _ _) cB.o,?_⟩;have bP:AT NO U U w8 (w8.alloc (χ #[ι s8.U] 3)).drew:=AT.ob (Cb w8 _) (no 0);refine AH κ ?_;refine Dz (λk=>k=12+5*t) (.tmp 73) (.tmp 78) 22 3 rfl underlying22 Cx rfl δ δ (c:=U) (tag:=12+5*t) (v:=σ gH b gI) (n:=b.length) (xs:=b.map (Value.int .i64)) rfl (hI.o.kp bP (no _)) (π w8 0) 1 1 ([ι s8.U]) rfl rfl (λj u hu=>(Cy w8 _ _ j).trans (by simpa [Dw] using hu)) (by simp [Dw,Value.oneCell']) δ (by have:=D.o.bl;omega) rfl ω (λb i=>dW.o.2.2.1 b (by simp at i;omega)) (λg8 bQ eU fH I hC fP hX=>?_);have hF:=Lh I;have dK:=Lh hC;have gX:=Lh fP;have q0:=hC.cell (bP.cell cB.o.1 (no _)) (by show ¬U A=_;rw [dW.o.1];omega);have q1:=hC.cell (bP.cell cB.o.2.1 (no _)) (by show ¬U bV=_;rw [bN.o.1];omega);have q2:=hC.cell (bP.cell cB.o.2.2 (no _)) (by show ¬U A=_;rw [dW.o.1];omega);have qf:=hC.frozen (by have:=bN.o.2.1;show bV<_;simp;omega) (bP.frozen bN.o.2.1 (bN.o.2.2 t) (no _)) (by show ¬U bV=_;rw [bN.o.1];omega);have dI:=Lh bP;clear I hC fP hX bP;refine ⟨.inl ⟨q0,q1,q2⟩,?_⟩;clear q0 q2;refine AH κ ?_;go_simp;refine BH ?_;have fG:=Lh ((cJ.o.go (dK.o.aft dI.o) ω).go (T:=λk=>k=8) (AT.set (by rw [(dK.o.aft dI.o).old _ bN.o.2.1];exact bN.o.1) ω) ω (wy:=eU.setCell (π bV t) (σ (ς (π g8 0)) (b.length+1) bQ)));clear q1 qf;obtain ⟨st,cg⟩:=gP.o eU fH (σ (ς (π g8 0)) (b.length+1) bQ) s8.U (dK.o.aft dI.o) gX.o hF.o cZ.o.U.2;obtain ⟨iM,hw⟩:=ε (eU.setCell (π bV t) (σ (ς (π g8 0)) (b.length+1) bQ));rw [<-hw] at st cg ⊢ fG;have hM:=Lh st;clear hw st cg;go_wp2;go_meet
   case rel=>
    have eA:({ s8 with Z:=s8.Z.modify t (·++[s8.U]) }:A3)=XD s t l':=by rw [gR.o];rfl
    have hE:=HE.o;refine Lh ⟨fH,_,m,va,vc,hM.o,.inr ⟨gU.o,x,l',D.o.hl,fA.o,eA⟩,fG.o,RN hs (.inl hE.1) hE.2.1,λha=>(Kn hE.1 ha hE.2.1 hE.2.2).valid hs⟩
 obtain ⟨c1,g,m,va,vc,bH⟩:=hcut.o;have bY:=Lh bH;obtain ⟨f1,f2,f3,f4,f5,f6,f7⟩:=bH.beg.same;have HX:=Lh (ϟ (show g.R[t]?=ς m0 by rw [f1];exact D.o.hm) (ϟ (show g.N[t]?=ς n by rw [f2];exact D.o.hn) (ϟ (show g.results[t]?=ς r by rw [f3];exact D.o.hr) (show g.P[t]?=ς e by rw [f4];exact D.o.he))));have cG:=Lh (ϟ f5 (ϟ f6 f7));have bC:=bH.loc.box;have N:wc.cell? (π W 0)=ς (σ va m.J vc):=AD bC 0 _ rfl;have J:wc.cell? (π W 1)=ς (ι m.Q.K):=AD bC 1 _ rfl;have K:wc.cell? (π W 2)=ς (ι m.Q.O):=AD bC 2 _ rfl;have L:wc.cell? (π W 3)=ς (ι m.Q.D):=AD bC 3 _ rfl;have P:wc.cell? (π W 4)=ς (ι m.Q.V):=AD bC 4 _ rfl;have Q:wc.cell? (π W 5)=ς (ι m.Q.X):=AD bC 5 _ rfl;have Y:wc.cell? (π W 6)=ς (ι m.Y):=AD bC 6 _ rfl;have e7:wc.cell? (π W 7)=ς (ι m.C):=AD bC 7 _ rfl;have e8:wc.cell? (π W 8)=ς (ι m.I):=AD bC 8 _ rfl;clear hcut bH f1 f2 f3 f4 f5 f6 f7 kM zM zR;go_wp2_with fail;refine (Jp m va _ vc _).mono ?_;rintro e9 o ⟨rfl,dZ⟩;have aL:=Lh (bY.o.loc.go (T:=NO) (AT.ob dZ (no 0)) (no 14));have cL:=Lh (bY.o.st.grow dZ);have O:=aL.o.box;clear dZ bC N J K L P Q Y e7 e8;have bS:Hid (∀ (s2:A3) (c2:A1) (w2:Ϣ),s2.U=s.U->Au w2 c2 A s2->AT NZ c c2 w w2->Xg cd g t m n (Im s2)->w2.cell? (π A 9)=ς (ι s.U)/\w2.frozen? (π A 9)=false/\A<w2/\∃ s',Dg cd s t s'/\EL c A s' w (w2.setCell (π A 9) (ι (s.U+1)))):=Lh (λs2 c2 w2 he eE hY aW=>by
  obtain ⟨h1,h2⟩:=eE.U;obtain ⟨_,h3,_,h4⟩:=eE.lab;obtain ⟨k1,k2⟩:=eE.setStep (s.U+1) (by have:=D.o.U;unfold in64;omega);rw [he] at h1;refine ⟨h1,h4 9,h3,Im s2,⟨m0,n,m,g,D.o.hm,D.o.hn,bY.o.beg,aW⟩,c2,?_,hY.trans k2⟩;unfold Im;rw [he];exact k1)
 have iJ:IntKind.i64.wrap (s.U+1)=s.U+1:=by rw [IntKind.wrap_i64]<;>(have:=D.o.U;omega)
 cases ha:Cs m with
 | false=>have HA:=Lh ha;clear ha;have N:o.cell? (π W 0)=ς (σ va m.J vc):=AD O 0 _ rfl;have J:o.cell? (π W 1)=ς (ι m.Q.K):=AD O 1 _ rfl;have K:o.cell? (π W 2)=ς (ι m.Q.O):=AD O 2 _ rfl;have L:o.cell? (π W 3)=ς (ι m.Q.D):=AD O 3 _ rfl;have P:o.cell? (π W 4)=ς (ι m.Q.V):=AD O 4 _ rfl;have Q:o.cell? (π W 5)=ς (ι m.Q.X):=AD O 5 _ rfl;have Y:o.cell? (π W 6)=ς (ι m.Y):=AD O 6 _ rfl;have e7:o.cell? (π W 7)=ς (ι m.C):=AD O 7 _ rfl;have e8:o.cell? (π W 8)=ς (ι m.I):=AD O 8 _ rfl;go_wp2_with fail;refine (Lj g c1 A t n r e m0 m va vc o cL.o HX.o.1 HX.o.2.1 HX.o.2.2.1 HX.o.2.2.2 D.o.rl D.o.el aL.o.fr bY.o.wf).mono ?_;rintro z w2 ⟨rfl,c2,bL,aY⟩;obtain ⟨y9,yf,yz,aN⟩:=bS.o _ c2 w2 (by rw [FX];exact cG.o.2.1) bL (aL.o.chg.trans aY) (.inl ⟨HA.o,rfl⟩);have aS:=Lh aN;clear bL aY aN N J K L P Q Y e7 e8 O;go_wp2;go_ret;exact ⟨rfl,aS.o⟩
 | true=>
  have HV:=Lh (bY.o.ok ha);have HA:=Lh ha;have dE:=FB ha;have bX:=Lh dE;obtain ⟨iH,f0,fY⟩:=HV.o.waits dE.1 dE.2;have bO:=Lh (fY.Q hs);clear ha fY dE;have N:o.cell? (π W 0)=ς (σ va m.J vc):=AD O 0 _ rfl;have J:o.cell? (π W 1)=ς (ι m.Q.K):=AD O 1 _ rfl;have K:o.cell? (π W 2)=ς (ι m.Q.O):=AD O 2 _ rfl;have L:o.cell? (π W 3)=ς (ι m.Q.D):=AD O 3 _ rfl;have P:o.cell? (π W 4)=ς (ι m.Q.V):=AD O 4 _ rfl;have Q:o.cell? (π W 5)=ς (ι m.Q.X):=AD O 5 _ rfl;have Y:o.cell? (π W 6)=ς (ι m.Y):=AD O 6 _ rfl;have e7:o.cell? (π W 7)=ς (ι m.C):=AD O 7 _ rfl;have e8:o.cell? (π W 8)=ς (ι m.I):=AD O 8 _ rfl;have cF:=@Lh (∀ V,Below o o V->ϙ prog 71 #[.pointer (ς (π A 0)),.agg #[ι m.Q.K,ι m.Q.O,ι m.Q.D,ι m.Q.V,ι m.Q.X]] V (TZ V (DR g.M m.Q))) (λV hV=>K2 g.M A m.Q V (cL.o.grow hV).memAt bO.o.O bO.o.D bO.o.q.nodeV);go_upto_region 10 with fail
  go_cut [10] (λiE wx=>∃ aX:Nat,iE=.pointer (ς (π aX 0))/\Hid (Below o o wx/\wx.heap[aX]?=ς (χ #[ι (DR g.M m.Q).K,ι (DR g.M m.Q).O,ι (DR g.M m.Q).D] 64 (0,0))/\(o:Nat)<=aX))
  case first=>
   refine Ac (λq=>q.cell? (π W 1)=ς (ι m.Q.K)/\q.cell? (π W 2)=ς (ι m.Q.O)/\q.cell? (π W 3)=ς (ι m.Q.D)/\q.cell? (π W 4)=ς (ι m.Q.V)/\q.cell? (π W 5)=ς (ι m.Q.X)) [5,6,7] true 8 rfl κ κ ⟨J,K,L,P,Q⟩ ?_;refine softA ?_;have aB:=Lh (ϟ J (ϟ K (ϟ L (ϟ P Q))));clear N J K L P Q Y e7 e8 O;refine Dv κ κ ?_ ?_
   .go_simp
    refine (cF.o _ (AG Br 1)).mono ?_;rintro e wa ⟨rfl,i⟩;have S:=Lh ((AG (Below.refl (o:Nat) o) 1).th i);clear i;unfold VW;refine ⟨Θ5 S.o aB.o,?_⟩;refine AH κ ?_;go_simp;refine ⟨Θ5 (S.o.th (AA _ _)) aB.o,?_⟩;refine AH κ ?_;go_simp;refine BH ?_;go_wp2;go_meet
    case rel=>exact ⟨_,rfl,Lh ⟨S.o.th (AA _ _),Hn _ _,S.o.size⟩⟩
   .go_simp
    refine ⟨Θ5 (AA _ _) aB.o,?_⟩;obtain ⟨W2,bD⟩:=ε ((o.alloc (χ #[ι 0,ι 0,ι 0] 64)).drew);have bW:=@Lh (Below o o W2) (by rw [bD];exact Cb _ _);have bZ:=@Lh (W2.heap[(o:Nat)]?=ς (χ #[ι 0,ι 0,ι 0] 64 (0,0))) (by rw [bD];exact Hn o _);rw [<-bD];clear bD;refine AH κ ?_;go_simp;refine (cF.o _ bW.o).mono ?_;rintro e wa ⟨rfl,i⟩;have S:=Lh (bW.o.th i);have I:wa.heap[(o:Nat)]?=ς (χ #[ι 0,ι 0,ι 0] 64 (0,0)):=by rw [i.block _ (La bZ.o)];exact bZ.o
    have dR:=Lh I;clear i;unfold VW;refine ⟨Θ5 S.o aB.o,?_⟩;have t0:=Ω3 I;have f0:=Ψ 0 I;have f1:=Ψ 1 I;have f2:=Ψ 2 I;have N:(W:Nat)≠(o:Nat):=by have:=(La aL.o.box);omega
    clear I;refine AH κ ?_;go_simp;clear t0 f0 f1 f2 N;refine BH ?_;go_wp2;go_meet
    case rel=>have h1:=ϡ _ (o:Nat) 0 _ _ (ι (DR g.M m.Q).K) dR.o;have h2:=ϡ _ (o:Nat) 1 _ _ (ι (DR g.M m.Q).O) h1;have h3:=ϡ _ (o:Nat) 2 _ _ (ι (DR g.M m.Q).D) h2;exact ⟨_,rfl,Lh ⟨Ay (Ay (Ay S.o (Nr _)) (Nr _)) (Nr _),h3,Nr _⟩⟩
  obtain ⟨aX,rfl,aM⟩:=hcut;have aD:=Lh (aL.o.go (T:=NO) (AT.ob aM.o.1 (no 0)) (no 14));have dT:=Lh (cL.o.grow aM.o.1);have aI:=aD.o.box;have bF:=aD.o.code;have dJ:Hid (∀ V,Below wc wc V->ϙ prog 102 #[.agg (Bc fa fc ga gc cd),.pointer (ς (π A 0)),.agg #[ι m.Q.K,ι m.Q.O,ι m.Q.D,ι m.Q.V,ι m.Q.X]] V (Ip c1 A g (Fx cd g.M m.Q) V)):=Lh (λV hV=>by
   have hz:=aD.o.chg.size;have i:=(aD.o.chg.belowN bM.o hB).trans (hV.mono ω);exact PK cd fa ga fc gc B g c1 A m.Q V (dT.o.grow hV) (by have:=hV.size;omega) (HC.o.below i) bO.o.q (aD.o.chg.lowN bM.o hB) bO.o.f64)
  have g0:=Ω3 bF;have N:wc.cell? (π W 0)=ς (σ va m.J vc):=AD aI 0 _ rfl;have J:wc.cell? (π W 1)=ς (ι m.Q.K):=AD aI 1 _ rfl;have K:wc.cell? (π W 2)=ς (ι m.Q.O):=AD aI 2 _ rfl;have L:wc.cell? (π W 3)=ς (ι m.Q.D):=AD aI 3 _ rfl;have P:wc.cell? (π W 4)=ς (ι m.Q.V):=AD aI 4 _ rfl;have Q:wc.cell? (π W 5)=ς (ι m.Q.X):=AD aI 5 _ rfl;have Y:wc.cell? (π W 6)=ς (ι m.Y):=AD aI 6 _ rfl;have e7:wc.cell? (π W 7)=ς (ι m.C):=AD aI 7 _ rfl;have e8:wc.cell? (π W 8)=ς (ι m.I):=AD aI 8 _ rfl;clear bF aI N Y e7 e8;go_upto_region 11 with fail;refine Ac (λq=>q.cell? (π w 0)=ς (σ fa cd.H fc)/\q.cell? (π w 1)=ς (ι cd.G)/\q.cell? (π w 2)=ς (σ ga cd.funcs gc)/\q.cell? (π W 1)=ς (ι m.Q.K)/\q.cell? (π W 2)=ς (ι m.Q.O)/\q.cell? (π W 3)=ς (ι m.Q.D)/\q.cell? (π W 4)=ς (ι m.Q.V)/\q.cell? (π W 5)=ς (ι m.Q.X)) [6,7,8,9,10,11] false 12 rfl κ κ ⟨g0.1,g0.2.1,g0.2.2,J,K,L,P,Q⟩ ?_;refine softA ?_;clear g0 J K L P Q;refine AH κ ?_;go_simp;refine (dJ.o _ (AG Br 1)).mono ?_;rintro e wa (⟨fS,rfl,c2,bL,aY⟩|⟨mm,x,bK,rfl,c2,bL,aY⟩)
  .have eZ:=Lh fS
   clear fS;have aF:=Lh ((aD.o.go (T:=NO) (AT.ob (AG (Below.refl (wc:Nat) wc) 1) (no 0)) (no 14)).go aY Io);have G:=aF.o.box;have bG:=aF.o.code;have aU:wa.heap[aX]?=ς (χ #[ι (DR g.M m.Q).K,ι (DR g.M m.Q).O,ι (DR g.M m.Q).D] 64 (0,0)):=by
    have eC:=(La aM.o.2.1)
    have h0:=cL.o.lab.2.2.1 aX aM.o.2.2;rw [aY.kp aX eC (by rw [h0];exact Qx)];exact aM.o.2.1
   have dA:=Lh bL;refine ⟨⟨Cr bG rfl,Cr bG rfl,Cr bG rfl,AD G 1 _ rfl,AD G 2 _ rfl,AD G 3 _ rfl,AD G 4 _ rfl,AD G 5 _ rfl⟩,?_⟩
   (refine' Ae κ _ (λwV p=>?_) ?_;rotate_left;(clear p;go_simp);(try with_reducible rfl);try simp only [Ap])
   (refine' Ae κ _ (λwV p=>?_) ?_;rotate_left;(clear p;go_simp);(try with_reducible rfl);try simp only [Ap])
   (refine' Ae κ _ (λwV p=>?_) ?_;rotate_left;(clear p;go_simp);(try with_reducible rfl);try simp only [Ap])
   (refine' Ae κ _ (λwV p=>?_) ?_;rotate_left;(clear p;go_simp);(try with_reducible rfl);try simp only [Ap])
   (refine' Ae κ _ (λwV p=>?_) ?_;rotate_left;(clear p;go_simp);(try with_reducible rfl);try simp only [Ap])
   refine BH ?_;have a1:=Cw aU 1 rfl;clear bL aY aU bG;have d0:((DR g.M m.Q).O != 0)=false:=by rw [Ms eZ.o];rfl
   have N:wa.cell? (π W 0)=ς (σ va m.J vc):=AD G 0 _ rfl;have J:wa.cell? (π W 1)=ς (ι m.Q.K):=AD G 1 _ rfl;have K:wa.cell? (π W 2)=ς (ι m.Q.O):=AD G 2 _ rfl;have L:wa.cell? (π W 3)=ς (ι m.Q.D):=AD G 3 _ rfl;have P:wa.cell? (π W 4)=ς (ι m.Q.V):=AD G 4 _ rfl;have Q:wa.cell? (π W 5)=ς (ι m.Q.X):=AD G 5 _ rfl;have Y:wa.cell? (π W 6)=ς (ι m.Y):=AD G 6 _ rfl;have e7:wa.cell? (π W 7)=ς (ι m.C):=AD G 7 _ rfl;have e8:wa.cell? (π W 8)=ς (ι m.I):=AD G 8 _ rfl;clear G;go_wp2_with fail;refine (NI g c2 A t 11 0 m.C n r e m0 wa dA.o HX.o.1 HX.o.2.1 HX.o.2.2.1 HX.o.2.2.2 D.o.rl D.o.el (by unfold in64;simp) (by unfold in64;simp) bY.o.wf.2.2.1).mono ?_;rintro z w2 ⟨rfl,c3,gJ,fI⟩;obtain ⟨y9,yf,yz,aN⟩:=bS.o (Ly g t 11 0 m.C n) c3 w2 cG.o.2.1 gJ (aF.o.chg.trans fI) (.inr (.inl ⟨HA.o,eZ.o,rfl⟩));have aS:=Lh aN;clear gJ fI aN N J K L P Q Y e7 e8 a1 d0;go_wp2;go_ret;exact ⟨rfl,aS.o⟩
  have aT:=Lh bK;clear bK;have aF:=Lh ((aD.o.go (T:=NO) (AT.ob (AG (Below.refl (wc:Nat) wc) 1) (no 0)) (no 14)).go aY Io);have G:=aF.o.box;have bG:=aF.o.code;have aU:wa.heap[aX]?=ς (χ #[ι (DR g.M m.Q).K,ι (DR g.M m.Q).O,ι (DR g.M m.Q).D] 64 (0,0)):=by
   have eC:=(La aM.o.2.1)
   have h0:=cL.o.lab.2.2.1 aX aM.o.2.2;rw [aY.kp aX eC (by rw [h0];exact Qx)];exact aM.o.2.1
  have dA:=Lh bL;refine ⟨⟨Cr bG rfl,Cr bG rfl,Cr bG rfl,AD G 1 _ rfl,AD G 2 _ rfl,AD G 3 _ rfl,AD G 4 _ rfl,AD G 5 _ rfl⟩,?_⟩
  (refine' Ae κ _ (λwV p=>?_) ?_;rotate_left;(clear p;go_simp);(try with_reducible rfl);try simp only [Ap])
  (refine' Ae κ _ (λwV p=>?_) ?_;rotate_left;(clear p;go_simp);(try with_reducible rfl);try simp only [Ap])
  (refine' Ae κ _ (λwV p=>?_) ?_;rotate_left;(clear p;go_simp);(try with_reducible rfl);try simp only [Ap])
  (refine' Ae κ _ (λwV p=>?_) ?_;rotate_left;(clear p;go_simp);(try with_reducible rfl);try simp only [Ap])
  (refine' Ae κ _ (λwV p=>?_) ?_;rotate_left;(clear p;go_simp);(try with_reducible rfl);try simp only [Ap])
  refine BH ?_;have a1:=Cw aU 1 rfl;clear bL aY aU bG;go_upto_if 101 with fail
  go_cut [108] (λ_ wx=>Hid (∃ c3,Au wx c3 A { g with M:=mm,N:=g.N.set t (n+EU g.M m.Q) }/\Ks (Bc fa fc ga gc cd) W w w c wx c3 m va vc))
  case first=>
   have gZ:=@Lh (({ g with M:=mm }:A3).N[t]?=ς n) HX.o.2.1;by_cases cE:(DR g.M m.Q).O=0
   .have d0:((DR g.M m.Q).O != 0)=false:=by simp [cE]
    have dN:=@Lh (n+EU g.M m.Q=n) (by unfold EU;rw [if_neg (by simp [cE])];omega);clear cE G;go_wp2;go_meet
    case rel=>exact Lh ⟨c2,by rw [dN.o,Uu HX.o.2.1];exact dA.o,aF.o⟩
   .have d0:((DR g.M m.Q).O != 0)=true:=by simp [cE]
    have dN:=@Lh (n+EU g.M m.Q=n+1) (by unfold EU;rw [if_pos (by simp [cE])]);obtain ⟨kb,kc,k4,k0,gB,gD,gC,-,cX⟩:=dA.o.viewK gZ.o;have gY:=Lh (cX (n+1) (by have:=D.o.cnt;unfold in64;omega));have KC:=Lh (ϟ gB gD);have kf:=gC t;have i6:(t:Int)<(g.N:Int):=by have:=(Ll HX.o.2.1);omega
    have iK:IntKind.i64.wrap (n+1)=n+1:=by rw [IntKind.wrap_i64]<;>(have:=D.o.cnt;omega)
    clear cE G cX gC gB gD;go_wp2;go_meet
    case rel=>exact Lh ⟨c2,by rw [dN.o];exact gY.o.1,aF.o.go (T:=λk=>k=5) (AT.set KC.o.1 ω) ω⟩
  obtain ⟨c3,cV,aQ⟩:=hcut.o;have dU:=Lh cV;have aO:=Lh aQ;obtain ⟨s3,eD⟩:∃ y:A3,y={ g with M:=mm,N:=g.N.set t (n+EU g.M m.Q) }:=⟨_,rfl⟩
  rw [<-eD] at dU;have dL:=Lh eD;have bA:=aQ.box;have dC:=aQ.code;have hA:=@Lh (ϙ prog 104 #[.agg (Bc fa fc ga gc cd),.agg #[σ va m.J vc,ι m.Q.K,ι m.Q.O,ι m.Q.D,ι m.Q.V,ι m.Q.X,ι m.Y,ι m.C,ι m.I],ι x] wc (λe w'=>∃ d na nc,ED cd m x d/\e=.returned (.tuple #[.agg #[σ na d.J nc,ι d.Q.K,ι d.Q.O,ι d.Q.D,ι d.Q.V,ι d.Q.X,ι d.Y,ι d.C,ι d.I],ι 0])/\CE wc (σ na d.J nc) d w')) (by
   have hz:=aO.o.chg.size;have i:=aO.o.chg.belowN bM.o hB;refine (TP cd _ m (σ va m.J vc) x (wc:Nat) wc (cH.o _ i) (Nr _) ((HC.o.below i).up ω) (aO.o.fr.ups Dx (Nr _) (JT.mask _ _)) iI).mono ?_;have aW:=IN (by rw [cG.o.1];exact HM.o) bO.o aT.o;rintro e w' (⟨h,_⟩|⟨_,h,_⟩|⟨_,_,h,_⟩|⟨_,_,_,d,fv,h1,h2,F,k1,k2⟩)
   .exact absurd HV.o h
   .exact absurd h (λh=>h.elim bX.o.1 bX.o.2)
   .rw [aW] at h;cases h
   .obtain ⟨na,nc,rfl⟩:=k1.form
    exact ⟨d,na,nc,h1,h2,F,k1,k2⟩)
  have g0:=Ω3 dC;have N:wc.cell? (π W 0)=ς (σ va m.J vc):=AD bA 0 _ rfl;have J:wc.cell? (π W 1)=ς (ι m.Q.K):=AD bA 1 _ rfl;have K:wc.cell? (π W 2)=ς (ι m.Q.O):=AD bA 2 _ rfl;have L:wc.cell? (π W 3)=ς (ι m.Q.D):=AD bA 3 _ rfl;have P:wc.cell? (π W 4)=ς (ι m.Q.V):=AD bA 4 _ rfl;have Q:wc.cell? (π W 5)=ς (ι m.Q.X):=AD bA 5 _ rfl;have Y:wc.cell? (π W 6)=ς (ι m.Y):=AD bA 6 _ rfl;have e7:wc.cell? (π W 7)=ς (ι m.C):=AD bA 7 _ rfl;have e8:wc.cell? (π W 8)=ς (ι m.I):=AD bA 8 _ rfl;clear hcut cV aQ eD bA dC G a1;go_wp2_with fail;refine hA.o.mono ?_;rintro e wd ⟨d,na,nc,hN,rfl,bT⟩;have dP:=Lh hN;have dO:=Lh bT;have gQ:=Lh bT.below;clear hN bT g0 N J K L P Q Y e7 e8;go_upto_region 21 with fail;obtain ⟨C,cS⟩:=ε (wd.alloc (χ #[σ na d.J nc,ι d.Q.K,ι d.Q.O,ι d.Q.D,ι d.Q.V,ι d.Q.X,ι d.Y,ι d.C,ι d.I] 51));rw [<-cS];have eV:=@Lh (Below wc wc C) (by rw [cS];exact gQ.o.th (AA _ _));have aZ:C.heap[(wd:Nat)]?=ς (χ (AC (σ na d.J nc) d) 51 (0,0)):=by rw [cS];exact Hn _ _
  have bU:(DQ cd d\/(d.J=[]/\d.Q=Ah 21/\EB d))/\GC d/\IK d:=by
   have aW:=IN (by rw [cG.o.1];exact HM.o) bO.o aT.o;have hE:DQ cd m:=⟨HV.o.nums,.inr (.inr (HV.o.waits bX.o.1 bX.o.2))⟩
   have h1:=(IR hs hE bX.o.1 bX.o.2 aW dP.o).1;have h2:d.Y<=1048576:=by
    have hf:=HV.o.Y.2;rcases dP.o with ⟨_,_,rfl⟩|⟨_,fs,f,_,hr⟩|⟨_,hr⟩
    .exact hf
    .exact Int.le_trans (JN hr HV.o.I.2).1 hf
    .exact Int.le_trans (JN hr HV.o.I.2).1 hf
   exact ⟨h1,RN hs h1 h2,OO hs iI h1⟩
  have dS:=Lh bU;have gT:=@Lh (AE C (mask C c3) 4 (CK C) (σ na d.J nc) d.J) (by
   have:=dO.o.fras dU.o.lab.2.2.1 bU.2.2;rw [cS];exact this.ups Dx ψ (AT.sub (T:=NO) (AT.ob (AA _ _) (no 0))))
  have aR:=Lh (aO.o.go (T:=NO) (AT.ob eV.o (no 0)) (no 14));have fB:=Lh (dU.o.grow eV.o);have R:=aR.o.box;have N:C.cell? (π wd 0)=ς (σ na d.J nc):=AD aZ 0 _ rfl;have J:C.cell? (π wd 1)=ς (ι d.Q.K):=AD aZ 1 _ rfl;have K:C.cell? (π wd 2)=ς (ι d.Q.O):=AD aZ 2 _ rfl;have L:C.cell? (π wd 3)=ς (ι d.Q.D):=AD aZ 3 _ rfl;have P:C.cell? (π wd 4)=ς (ι d.Q.V):=AD aZ 4 _ rfl;have Q:C.cell? (π wd 5)=ς (ι d.Q.X):=AD aZ 5 _ rfl;have Y:C.cell? (π wd 6)=ς (ι d.Y):=AD aZ 6 _ rfl;have e7:C.cell? (π wd 7)=ς (ι d.C):=AD aZ 7 _ rfl;have e8:C.cell? (π wd 8)=ς (ι d.I):=AD aZ 8 _ rfl;have o0:C.cell? (π W 0)=ς (σ va m.J vc):=AD R 0 _ rfl;have o1:C.cell? (π W 1)=ς (ι m.Q.K):=AD R 1 _ rfl;have o2:C.cell? (π W 2)=ς (ι m.Q.O):=AD R 2 _ rfl;have o3:C.cell? (π W 3)=ς (ι m.Q.D):=AD R 3 _ rfl;have o4:C.cell? (π W 4)=ς (ι m.Q.V):=AD R 4 _ rfl;have o5:C.cell? (π W 5)=ς (ι m.Q.X):=AD R 5 _ rfl;have o6:C.cell? (π W 6)=ς (ι m.Y):=AD R 6 _ rfl;have o7:C.cell? (π W 7)=ς (ι m.C):=AD R 7 _ rfl;have o8:C.cell? (π W 8)=ς (ι m.I):=AD R 8 _ rfl;have eL:=Ψ 0 R;have eM:=Ψ 1 R;have eN:=Ψ 2 R;have eO:=Ψ 3 R;have eP:=Ψ 4 R;have eQ:=Ψ 5 R;have eR:=Ψ 6 R;have eS:=Ψ 7 R;have eT:=Ψ 8 R;clear cS aZ bU R;go_upto_region 22 with fail;change Code.wp _ _ _ _ (Ai C W (σ na d.J nc) d);have aP:=Lh (aR.o.put gT.o);have fL:AT (λk=>k=14) c3 c3 C (Ai C W (σ na d.J nc) d):=Pq aR.o.lab;have fC:=Lh (fB.o.chg fL (λb i=>fB.o.lab.2.2.1 b (by rw [JC] at i;exact i)) (λt ht=>ht));obtain ⟨w5,fW⟩:=ε (Ai C W (σ na d.J nc) d);rw [<-fW] at aP fC ⊢;have bB:=aP.o.box;clear fW fL N J K L P Q Y e7 e8 o0 o1 o2 o3 o4 o5 o6 o7 o8 eL eM eN eO eP eQ eR eS eT;have N:w5.cell? (π W 0)=ς (σ na d.J nc):=AD bB 0 _ rfl;have J:w5.cell? (π W 1)=ς (ι d.Q.K):=AD bB 1 _ rfl;have K:w5.cell? (π W 2)=ς (ι d.Q.O):=AD bB 2 _ rfl;have L:w5.cell? (π W 3)=ς (ι d.Q.D):=AD bB 3 _ rfl;have P:w5.cell? (π W 4)=ς (ι d.Q.V):=AD bB 4 _ rfl;have Q:w5.cell? (π W 5)=ς (ι d.Q.X):=AD bB 5 _ rfl;have Y:w5.cell? (π W 6)=ς (ι d.Y):=AD bB 6 _ rfl;have e7:w5.cell? (π W 7)=ς (ι d.C):=AD bB 7 _ rfl;have e8:w5.cell? (π W 8)=ς (ι d.I):=AD bB 8 _ rfl;have dB:=@Lh (s3.R[t]?=ς m0/\s3.N[t]?=ς (n+EU g.M m.Q)/\s3.results[t]?=ς r/\s3.P[t]?=ς e) (by
   rw [dL.o];exact ⟨HX.o.1,Li HX.o.2.1,HX.o.2.2.1,HX.o.2.2.2⟩)
  clear bB;go_wp2_with fail;refine (Lj s3 c3 A t (n+EU g.M m.Q) r e m0 d na nc w5 fC.o dB.o.1 dB.o.2.1 dB.o.2.2.1 dB.o.2.2.2 D.o.rl D.o.el aP.o.fr dS.o.2.1).mono ?_;rintro z w2 ⟨rfl,c4,gK,fJ⟩;obtain ⟨y9,yf,yz,aN⟩:=bS.o (CC s3 t d (n+EU g.M m.Q)) c4 w2 (by rw [FX,dL.o];exact cG.o.2.1) gK (aP.o.chg.trans fJ) (.inr (.inr ⟨HA.o,mm,x,d,aT.o,dP.o,by rw [dL.o]⟩));have aS:=Lh aN;clear gK fJ aN N J K L P Q Y e7 e8;go_wp2;go_ret;exact ⟨rfl,aS.o⟩
