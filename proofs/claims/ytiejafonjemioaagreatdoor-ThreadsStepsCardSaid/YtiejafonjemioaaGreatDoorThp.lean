import Derived.Test.YtiejafonjemioaaGreatDoorThu
import Derived.Test.YtiejafonjemioaaGreatDoorReg
set_option maxHeartbeats 2000000
set_option maxRecDepth 100000
set_option linter.all false
open Go renaming World→Ϣ,Value→ϒ,Calls→ϙ,bodyPost_ret→ϖ
open Go.RowKit renaming Below→ϐ
open Option renaming some→ς
open Bool renaming false→ϝ,true→ϑ
open And renaming intro→ϟ
open List renaming replicate→ϱ
open Go.Value renaming slice→σ
open Go.Obj renaming cells→χ
namespace Go.Proofs.YtiejafonjemioaaGreatDoor
open Go.RowKit Proofs.Tryz
variable {o tag B bt b j t:Nat} {a w w' d:Ϣ} {c:AQ} {v:ϒ} {n:Int} {c':A1} {s:A3} {m m':AV} {r:Rq}
def Dz {o:Oper} {a:Act} {K:Act->Ϣ->Prop} {Q:Exit->Act->Ϣ->Prop} (T:Nat->Prop) (s x:Operand) (t e:TypeId) (P:o.op=.call { callee:=.builtin .append,args:=#[s,x],argTypes:=#[t,t] }) (R:prog.underlying t=ς (.slice e)) {z:ϒ} {sz bytes:Nat} (N:(prog.info? e).map (λi=>(i.zero,i.size,i.bytes))=ς (ς z,sz,bytes)) (U:z.cells.size=sz) (D:0<sz) (f:bytes<=128)
  {c:A1} {n:Nat} {xs:List ϒ} (hs:a.eval s=v) (A:Ao w c tag e sz v n xs) (y:Addr) (m E:Nat) (d:List ϒ) (S:a.eval x=σ (ς y) m E) (hl:d.length=m*sz) (l:∀ (j:Nat) u,d[j]?=ς u->w.cell? (y.add j)=ς u) (q:∀ u∈d,u.oneCell'=ϑ) (O:0<m) (C:n+m<=1000000000000) (M:T tag) (J:¬T 0) (B:∀ b,(w:Nat)<=b->c b=0)
  (h:∀ g k w' c',Ao w' c' tag e sz (σ (ς (π g 0)) (n+m) k) (n+m) (xs++d)->AT T c c' w w'->(∀ b,w'.heap.size<=b->c' b=0)->c' g=tag->K (a.put o.dst (σ (ς (π g 0)) (n+m) k)) w'):o.wp prog a w K Q:=by
 obtain ⟨V,F,G,H,I⟩:=info_parts N;refine wp_append_lies w s x t P 0 e V z sz bytes R F G H I U D v n xs hs A.1 y m E d S hl l q O (by unfold maxLen;omega) ?_ (Nat.zero_le _) (w:Nat) rfl (λg k w' L p r X=>?_)
 .exact Nt (Nat.mul_le_mul C f) δ
 .have aA:g<w->c g=tag:=λW=>by
   rcases r with r|r
   .exact A.2.1 g (by rw [r];simp)
   .omega
  refine h g k w' (λb=>if b=g then tag else c b) ⟨L,λb f=>?_,ω⟩ ⟨p.os,p.tape,p.output,p.size,λb f C=>p.block b f (λe=>C ?_),λb f=>?_,J⟩ (λb f=>?_) (if_pos rfl)
  .simp [Value.ownBlock] at f
   exact if_pos f
  .rw [A.2.1 b (by rw [<-e];simp)];exact M
  .split
   .rename_i e;subst e;exact (aA f).symm
   .rfl
  .rw [if_neg ω]
   exact B b (Nt p.size f)
def JB:(prog.info? 84).map (λi=>(i.zero,i.size,i.bytes))=ς (ς (.agg #[ι 0,ι 0,ι 0,ι 0,ι 0]),5,40):=by kernel_rfl
def Ly (s:A3) (t:Nat) (f v k n:Int):A3:={ s with results:=s.results.modify t (·++[⟨f,v,k,n,0⟩]),P:=s.P.modify t (·++[s.U]),R:=s.R.set t AI,N:=s.N.set t 0 }
def EL (c:A1) (bt:Nat) (s':A3) (w w':Ϣ):Prop:=∃ c',Au w' c' bt s'/\AT NZ c c' w w'
def NI (s:A3) (c:A1) (bt t:Nat) (f v k n:Int) (r:List CD) (e:List Int) (m:AV) (w:Ϣ) (h:Au w c bt s) (hm:s.R[t]?=ς m) (V:s.N[t]?=ς n) (hr:s.results[t]?=ς r) (he:s.P[t]?=ς e) (bG:r.length<=1000000) (bF:e.length<=1000000) (hf:in64 f) (hv:in64 v) (hk:in64 k) :
  ϙ prog 103 #[.pointer (ς (π bt 0)),ι t,ι f,ι v,ι k] w λz w'=>z=.returned (.tuple #[])/\EL c bt (Ly s t f v k n) w w':=by
 have i0:=In t;have H0:=Lh h;obtain ⟨kb,kc,b4,k0,bI,bJ,cU,kn,-⟩:=h.viewK V;have A:=Lh (ϟ hm (ϟ V (ϟ hr (ϟ he (ϟ bG bF)))));have cP:Hid (Q9 ⟨f,v,k,n,0⟩):=Lh ⟨hf,hv,hk,kn,by unfold in64;simp⟩;have i1:(t:Int)<(s.results:Int):=by have:=(Ll hr);omega
 have i2:(t:Int)<(s.N:Int):=by have:=(Ll V);omega
 have KC:=Lh bI;clear h hm V hr he bG bF hf hv hk bI bJ cU kn;go_enter func103,ntmps103;go_upto_region 0 with fail;obtain ⟨C,cV,bQ,P,b0,o0,bK,bM,bO,aU,aO⟩:=H0.o.viewO A.o.2.2.1;have X:=Lh H0.o.lab;have H:=Lh (ϟ bK (ϟ bM bO));have cM:=Lh aU;have cA:=Lh aO;clear bK bM bO aU aO;refine Ac (λi=>i.cell? (π bt 6)=ς (σ (ς (π C 0)) s.results cV)/\i.cell? (π C t)=ς (σ bQ r P)/\i.cell? (π bt 4)=ς (σ (ς (π kb 0)) s.N kc)/\i.cell? (π kb t)=ς (ι n)) [24,25,27] ϑ 28 rfl κ κ ⟨b0,o0,b4,k0⟩ ?_;refine softA ?_;have G:=Lh (ϟ b0 (ϟ o0 (ϟ b4 (k0))));clear b0 o0 b4 k0;refine AH κ ?_;go_simp;refine ⟨Θ4 (AA _ _) G.o,?_⟩;have q:AT NO c c w (w.alloc (χ #[ι f,ι v,ι k,ι n,ι 0] 84)).drew:=AT.ob (Cb w _) (no 0);refine AH κ ?_;refine Dz (λk=>k=11+5*t) (.tmp 21) (.tmp 34) 78 84 rfl underlying78 JB rfl δ δ (c:=c) (tag:=11+5*t) (v:=σ bQ r P) (n:=r.length) (xs:=Dk r) rfl (cM.o.kp q (no _)) (π w 0) 1 1 (Dw ⟨f,v,k,n,0⟩) rfl rfl (λj u hu=>(Cy w _ _ j).trans (by simpa [Dw] using hu)) (by simp [Dw,Value.oneCell']) δ (by have:=A.o.2.2.2.2.1;omega) rfl ω (λb hb=>X.o.2.2.1 b (by simp at hb;omega)) (λg0 aM bS a F d K Z=>?_);have cK:=Lh F;have cC:=Lh d;have cG:=Lh K;have R:=d.cell (q.cell G.o.1 (no _)) (by show ¬c bt=_;rw [X.o.1];omega);have S:=d.cell (q.cell G.o.2.1 (no _)) (by show ¬c C=_;rw [H.o.1];omega);have T:=d.cell (q.cell G.o.2.2.1 (no _)) (by show ¬c bt=_;rw [X.o.1];omega);have q3:=d.cell (q.cell G.o.2.2.2 (no _)) (by show ¬c kb=_;rw [KC.o];omega);have qf:=d.frozen (by have:=H.o.2.1;show C<_;simp;omega) (q.frozen H.o.2.1 (H.o.2.2 t) (no _)) (by show ¬c C=_;rw [H.o.1];omega);have bV:=Lh q;clear F d K Z q;refine ⟨.inl ⟨R,S,T,q3⟩,?_⟩;clear R T q3;refine AH κ ?_;go_simp;refine BH ?_;clear S qf;obtain ⟨o,l⟩:=cA.o bS a (σ (ς (π g0 0)) (r.length+1) aM) ⟨f,v,k,n,0⟩ (cC.o.aft bV.o) cG.o cK.o cP.o;obtain ⟨M,O⟩:=ε (bS.setCell (π C t) (σ (ς (π g0 0)) (r.length+1) aM));rw [<-O] at o l ⊢;have J:=Lh o;have bX:=Lh l;clear O o l;obtain ⟨g,B⟩:∃ x:A3,x={ s with results:=s.results.modify t (·++[⟨f,v,k,n,0⟩]) }:=⟨_,rfl⟩
 rw [<-B] at J;have cE:=Lh B;have bB:=@Lh (g.P[t]?=ς e) (by rw [B];exact A.o.2.2.2.1);have cJ:=@Lh (g.R[t]?=ς m) (by rw [B];exact A.o.1);have cI:=@Lh (g.N[t]?=ς n) (by rw [B];exact A.o.2.1);have i3:(t:Int)<(g.P:Int):=by have:=(Ll bB.o);omega
 have b9:=J.o.U.1;clear B i1 i2;go_upto_region 1 with fail;obtain ⟨D,cW,bR,Q,b1,o1,bL,bN,bP,aV,aP⟩:=J.o.viewE bB.o;have Y:=Lh J.o.lab;have I:=Lh (ϟ bL (ϟ bN bP));have cN:=Lh aV;have cB:=Lh aP;clear bL bN bP aV aP;refine Ac (λi=>i.cell? (π bt 8)=ς (σ (ς (π D 0)) g.P cW)/\i.cell? (π D t)=ς (σ bR e Q)/\i.cell? (π bt 9)=ς (ι g.U)) [16,17,19] ϑ 20 rfl κ κ ⟨b1,o1,b9⟩ ?_;refine softA ?_;have U:=Lh (ϟ b1 (ϟ o1 (b9)));clear b1 o1 b9;refine AH κ ?_;go_simp;refine ⟨Θ3 (AA _ _) U.o,?_⟩;have y:AT NO a a M (M.alloc (χ #[ι g.U] 3)).drew:=AT.ob (Cb M _) (no 0);refine AH κ ?_;refine Dz (λk=>k=13+5*t) (.tmp 48) (.tmp 53) 22 3 rfl underlying22 Cx rfl δ δ (c:=a) (tag:=13+5*t) (v:=σ bR e Q) (n:=e.length) (xs:=e.map (Value.int .i64)) rfl (cN.o.kp y (no _)) (π M 0) 1 1 ([ι g.U]) rfl rfl (λj u hu=>(Cy M _ _ j).trans (by simpa [Dw] using hu)) (by simp [Dw,Value.oneCell']) δ (by have:=A.o.2.2.2.2.2;omega) rfl ω (λb hb=>Y.o.2.2.1 b (by simp at hb;omega)) (λg1 aN bT N F d K Z=>?_);have cL:=Lh F;have cD:=Lh d;have cH:=Lh K;have R:=d.cell (y.cell U.o.1 (no _)) (by show ¬a bt=_;rw [Y.o.1];omega);have S:=d.cell (y.cell U.o.2.1 (no _)) (by show ¬a D=_;rw [I.o.1];omega);have T:=d.cell (y.cell U.o.2.2 (no _)) (by show ¬a bt=_;rw [Y.o.1];omega);have qf:=d.frozen (by have:=I.o.2.1;show D<_;simp;omega) (y.frozen I.o.2.1 (I.o.2.2 t) (no _)) (by show ¬a D=_;rw [I.o.1];omega);have bW:=Lh y;clear F d K Z y;refine ⟨.inl ⟨R,S,T⟩,?_⟩;clear R T;refine AH κ ?_;go_simp;refine BH ?_;clear S qf;obtain ⟨o,l⟩:=cB.o bT N (σ (ς (π g1 0)) (e.length+1) aN) g.U (cD.o.aft bW.o) cH.o cL.o J.o.U.2;obtain ⟨bU,O⟩:=ε (bT.setCell (π D t) (σ (ς (π g1 0)) (e.length+1) aN));rw [<-O] at o l ⊢;have bE:=Lh o;have bY:=Lh l;clear O o l;obtain ⟨E,L⟩:∃ x:A3,x={ g with P:=g.P.modify t (·++[g.U]) }:=⟨_,rfl⟩
 rw [<-L] at bE;have cF:=Lh L;have bD:=@Lh (E.R[t]?=ς m) (by rw [L];exact cJ.o);have bC:=@Lh (E.N[t]?=ς n) (by rw [L];exact cI.o);have i4:(t:Int)<(E.R:Int):=by have:=(Ll bD.o);omega
 have i5:(t:Int)<(E.N:Int):=by have:=(Ll bC.o);omega
 clear L i3;obtain ⟨rb,rc,bH,cT,fa,fc,r3,k4,p,aT,cX,bJ,cS,cR,hx,y1,o,l⟩:=bE.o.viewRK bD.o bC.o;obtain ⟨W,bA⟩:=ε ((GK bU rb (t*9) (FW ν AI)).setCell (π bH t) (ι 0));rw [<-bA] at o l;have cQ:=Lh o;have bZ:=Lh l;have cO:=Lh bA;have z0:=p (t*9);have z1:=p (t*9+1);have z2:=p (t*9+2);have z3:=p (t*9+3);have z4:=p (t*9+4);have z5:=p (t*9+5);have z6:=p (t*9+6);have z7:=p (t*9+7);have z8:=p (t*9+8);have y0:=aT t;have x0:bU.cell? (π rb (t*9))=ς (σ fa m.J fc):=hx 0 _ rfl;have x1:=Γ9 hx;have HZ:=Lh (ϟ r3 (ϟ k4 (ϟ cS cR)));clear p aT bA o l hx;go_upto_region 2 with fail;refine Ac (λi=>i.cell? (π bt 3)=ς (σ (ς (π rb 0)) E.R rc)/\i.cell? (π bt 4)=ς (σ (ς (π bH 0)) E.N cT)) [12,14] ϑ 15 rfl κ κ ⟨r3,k4⟩ ?_;refine softA ?_;clear r3 k4;refine AH κ ?_;go_simp;refine ⟨⟨HZ.o.1,HZ.o.2.1⟩,?_⟩;refine AH κ ?_;go_simp;refine BH ?_
 go_end0
 refine ⟨rfl,?_⟩;have hd:ϐ W W W.drew:=AG Br 1;have aQ:EL c bt (Ly s t f v k n) w W.drew:=⟨N,by
  have:=cQ.o.grow hd;rw [cF.o,cE.o] at this;exact this,((bX.o.trans bY.o).trans bZ.o).trans (AT.ob hd Qx)⟩
 rw [cO.o] at aQ;exact aQ
structure Xn (cd:AQ) (r:Rq):Prop where
 D:0<=r.D
 O:0<=r.O
 nodeV:r.O<=1099511627776
 V:in64 r.V
 alloc:r.K=3->∃ n,cd.H[r.D.toNat]?=ς n/\0<=n/\n<=12
def O8 (r:Rq):Array ϒ:=#[ι r.K,ι r.O,ι r.D,ι r.V,ι r.X]
def AT.belowN {c:A1} (h:AT NZ c c' w w') (d:∀ b,b<B->¬NZ (c b)) (e:B<=w):ϐ B w w':=⟨h.os,h.tape,h.output,h.size,λb a=>h.kp b ω (d b a)⟩
def AT.lowN {c:A1} (h:AT NZ c c' w w') (d:∀ b,b<B->¬NZ (c b)) (e:B<=w):∀ b,b<B->¬NZ (c' b):=λb a=>by rw [h.old b ω];exact d b a
structure Kt (w:Ϣ) (bt:Nat) (m:Mm):Prop where
 g:∃ ga gc,w.cell? (π bt 0)=ς (σ ga m.G gc)/\∀ (j:Nat) v,m.G[j]?=ς v->∃ b o,ga=ς (π b o)
 n:∃ na nc,w.cell? (π bt 1)=ς (σ na m.N nc)/\∀ (i:Nat) x,m.N[i]?=ς x->∃ nb no la lc,na=ς (π nb no)/\w.cell? (π nb (no+i*2+1))=ς (σ la x.f lc)/\∀ (j:Nat) v,x.f[j]?=ς v->∃ b o,la=ς (π b o)
def Au.memAt {c:A1} (h:Au w c bt s):Kt w bt s.M:=by
 obtain ⟨f,g,d,m⟩:=h.viewG;obtain ⟨r,u,e,k⟩:=h.viewN;exact ⟨⟨f,g,d,λj v a=>by
  obtain ⟨b,h,-⟩:=m j v a;exact ⟨b,0,h⟩⟩,r,u,e,λi x n=>by
  obtain ⟨t,o,p,h,-,q,-,l⟩:=k i x n;exact ⟨t,0,o,p,h,by rw [Nat.zero_add];exact q,λj v a=>by
   obtain ⟨b,h,-⟩:=l j v a;exact ⟨b,0,h⟩⟩⟩
def Kt.grow {m:Mm} (h:Kt w bt m) (a:ϐ w w w'):Kt w' bt m:=by
 obtain ⟨⟨d,e,b,j⟩,p,r,c,f⟩:=h;exact ⟨⟨d,e,AB a b,j⟩,p,r,AB a c,λi x k=>by
  obtain ⟨q,no,l,n,h,o,g⟩:=f i x k;exact ⟨q,no,l,n,h,AB a o,g⟩⟩
def Wv (w:Ϣ) (bt:Nat) (r:Rq) (b o:Nat):Prop:=(r.O=0/\∃ n k,w.cell? (π bt 0)=ς (σ (ς (π b o)) n k))\/(1<=r.O/\∃ nb no n k n2 k2,w.cell? (π bt 1)=ς (σ (ς (π nb no)) n k)/\w.cell? (π nb (no+(r.O - 1).toNat*2+1))=ς (σ (ς (π b o)) n2 k2))
def Au.plc {c:A1} (h:Au w c bt s) (m:Wv w bt r b o) (l:0<=r.D) (hl:r.D<((Bd s.M r).length:Int)):o=0/\Th w bt r b:=by
 rcases m with ⟨a,n,k,d⟩|⟨a,y,no,n,k,v,q,d,e⟩
 .obtain ⟨ga,gc,b0,hg⟩:=h.viewG
  rw [Gm a] at hl;obtain ⟨j,rfl,-⟩:=hg r.D.toNat _ (Lg ω);rw [b0] at d;cases d;exact ⟨rfl,.inl ⟨a,_,_,b0⟩⟩
 .obtain ⟨na,nc,b1,hN⟩:=h.viewN
  obtain ⟨x,f⟩:=Jt a l hl;rw [IJ a f] at hl;obtain ⟨p,t,u,rfl,-,g,-,i⟩:=hN _ x f;obtain ⟨j,rfl,-⟩:=i r.D.toNat _ (Lg ω);rw [b1] at d;cases d;rw [Nat.zero_add,g] at e;cases e;exact ⟨rfl,.inr ⟨a,_,_,_,_,_,b1,g⟩⟩
def Pb (w:Ϣ) (bt:Nat) (m:Mm) (r:Rq) (e:Ending) (w':Ϣ):Prop:=ϐ w w w'/\((((Bd m r).length:Int)<=r.D/\e=.returned (.pointer none))\/(r.D<((Bd m r).length:Int)/\∃ b o,Wv w bt r b o/\e=.returned (.pointer (ς (π b (o+r.D.toNat))))))
def Gz {m:Mm} (a:ϐ w w w') (h:((Bd m r).length:Int)<=r.D):Pb w bt m r (.returned (.pointer none)) w':=⟨a,.inl ⟨h,rfl⟩⟩
def J2 {m:Mm} (a:ϐ w w w') (h:r.D<((Bd m r).length:Int)) (d:Wv w bt r b o) (c:j=o+r.D.toNat):Pb w bt m r (.returned (.pointer (ς (π b j)))) w':=⟨a,.inr ⟨h,b,o,d,by rw [c]⟩⟩
def OI (m:Mm) (bt:Nat) (r:Rq) (w:Ϣ) (h:Kt w bt m) (u:0<=r.O) (s:0<=r.D) (e:r.O<=1099511627776) :
  ϙ prog 108 #[.pointer (ς (π bt 0)),.agg (O8 r)] w (Pb w bt m r):=by
 obtain ⟨V,W,k,t⟩:=h.g;obtain ⟨na,nc,p,q⟩:=h.n;obtain ⟨d,j,g,c,a⟩:=r;dsimp only at u s e;unfold O8;dsimp only;obtain ⟨f,rfl⟩:∃ f:Nat,g=f:=⟨g.toNat,ω⟩
 have O:=θ ((f:Int)<0);have S:=In f;have J:=Lh k;have K:=Lh p;by_cases A:j=0
 .subst A
  have n:Bd m ⟨d,0,f,c,a⟩=m.G:=Gm rfl;by_cases y:m.G.length<=f
  .have l:=@Lh (((Bd m ⟨d,0,f,c,a⟩).length:Int)<=(f:Int)) (by rw [n];omega)
   have F:=η (m.G.length<=f);have G:=AB (AA w (χ #[ι d,ι 0,ι (f:Int),ι c,ι a] 49)) k;clear h t q n y u s e k p;go_enter func108,ntmps108;go_wp2;go_ret;exact Gz (AA _ _) l.o
  .obtain ⟨v,hv⟩:∃ v,m.G[f]?=ς v:=⟨_,Lg ω⟩
   obtain ⟨b,o,rfl⟩:=t f v hv;have l:=@Lh ((f:Int)<((Bd m ⟨d,0,f,c,a⟩).length:Int)) (by rw [n];omega);have F:=θ (m.G.length<=f);have M:(f:Int)<(m.G:Int):=ω;have G:=AB (AA w (χ #[ι d,ι 0,ι (f:Int),ι c,ι a] 49)) k;clear h t q n y u s e k p hv;go_enter func108,ntmps108;go_wp2;go_ret;exact J2 (AA _ _) l.o (.inl ⟨rfl,_,_,J.o⟩) ψ
 obtain ⟨i,rfl⟩:∃ i:Nat,j=(i:Int)+1:=⟨(j - 1).toNat,ω⟩
 have P:=τ ((i:Int)+1) 0;have Q:=θ ((i:Int)+1<1);have T:=In i;have U:IntKind.i64.wrap ((i:Int)+1 - 1)=(i:Int):=by rw [IntKind.wrap_i64]<;>omega
 have R:IntKind.i64.wrap (i:Int)=(i:Int):=by rw [IntKind.wrap_i64]<;>omega
 have z:((i:Int)+1 - 1).toNat=i:=ω;by_cases B:i<m.N.length;rotate_left
 .have l:=@Lh (((Bd m ⟨d,(i:Int)+1,f,c,a⟩).length:Int)<=(f:Int)) (by unfold Bd;rw [if_pos (by dsimp only;omega)];simp)
  have F:=η ((m.N:Int)<(i:Int)+1);have N:=AB (AA w (χ #[ι d,ι ((i:Int)+1),ι (f:Int),ι c,ι a] 49)) p;clear h t q u s e p B A;have G:=AB (AA w (χ #[ι d,ι ((i:Int)+1),ι (f:Int),ι c,ι a] 49)) k;clear k;go_enter func108,ntmps108;go_wp2_with fail;go_quiet (fail);go_wp2;go_ret;exact Gz (AG (AA _ _) _) l.o
 obtain ⟨x,C⟩:∃ x,m.N[i]?=ς x:=⟨_,Lg B⟩
 have n:Bd m ⟨d,(i:Int)+1,f,c,a⟩=x.f:=IJ (by dsimp only;omega) (by dsimp only;rw [z];exact C);obtain ⟨nb,no,Z,lc,rfl,D,E⟩:=q i x C;have I:=Lh D;have F:=θ ((m.N:Int)<(i:Int)+1);have X:(i:Int)<(m.N:Int):=ω;have G:=AB (AA w (χ #[ι d,ι ((i:Int)+1),ι (f:Int),ι c,ι a] 49)) k;have N:=AB (AA w (χ #[ι d,ι ((i:Int)+1),ι (f:Int),ι c,ι a] 49)) p;have Y:=AB (AA w (χ #[ι d,ι ((i:Int)+1),ι (f:Int),ι c,ι a] 49)) D;by_cases y:x.f.length<=f
 .have l:=@Lh (((Bd m ⟨d,(i:Int)+1,f,c,a⟩).length:Int)<=(f:Int)) (by rw [n];omega)
  have L:=η (x.f.length<=f);clear h t q n y u s e k p D B A C E z;go_enter func108,ntmps108;go_wp2_with fail;go_quiet (fail);go_wp2_with fail;go_quiet (fail);go_wp2;go_ret;exact Gz (AG (AA _ _) _) l.o
 .obtain ⟨v,hv⟩:∃ v,x.f[f]?=ς v:=⟨_,Lg ω⟩
  obtain ⟨b,o,rfl⟩:=E f v hv;have l:=@Lh ((f:Int)<((Bd m ⟨d,(i:Int)+1,f,c,a⟩).length:Int)) (by rw [n];omega);have L:=θ (x.f.length<=f);have M:(f:Int)<(x.f:Int):=ω;have H:=Lh z;clear h t q n y u s e k p D B A C E z hv;go_enter func108,ntmps108;go_wp2_with fail;go_quiet (fail);go_wp2_with fail;go_quiet (fail);go_wp2;go_ret;exact J2 (AG (AA _ _) _) l.o (.inr ⟨by dsimp only;omega,_,_,_,_,_,_,K.o,by dsimp only;rw [H.o];exact I.o⟩) ψ
def DR (m:Mm) (r:Rq):PT:=if r.K=3 then (if m.N.length<4096 then ⟨3,(m.N:Int)+1,r.D⟩ else ⟨0,0,0⟩) else if ((Bd m r).length:Int)<=r.D then ⟨0,0,0⟩ else ⟨r.K,r.O,r.D⟩
def VW (a:PT):ϒ:=.agg #[ι a.K,ι a.O,ι a.D]
def TZ (w:Ϣ) (a:PT) (e:Ending) (w':Ϣ):Prop:=e=.returned (VW a)/\ϐ w w w'
def RE {a:PT} {x y z:Int} (b:ϐ w w w') (h:a=⟨x,y,z⟩):TZ w a (.returned (.agg #[ι x,ι y,ι z])) w':=by subst h;exact ⟨rfl,b⟩
def Ay (a:ϐ w w w') (d:(w:Nat)<=b):ϐ w w (w'.setCell (π b j) v):=
 ⟨a.os,a.tape,a.output,by simpa using a.size,λk c=>by rw [heap_setCell_other _ _ _ _ (by show k≠b;omega)];exact a.block k c⟩
def K2 (m:Mm) (bt:Nat) (r:Rq) (w:Ϣ) (h:Kt w bt m) (G:0<=r.O) (F:0<=r.D) (D:r.O<=1099511627776) :
  ϙ prog 71 #[.pointer (ς (π bt 0)),.agg (O8 r)] w (TZ w (DR m r)):=by
 obtain ⟨S,T,E,-⟩:=h.n;have K:=Lh h;have t:=Lh (ϟ G (ϟ F D));obtain ⟨W,a⟩:=ε ((w.alloc (χ (O8 r) 49)).alloc (χ #[ι 0,ι 0,ι 0] 64));have l:=Lh (bl2 a);have M:=Lh (sz2 a);have L:=Lh (K.o.grow l.o);have H:=AB l.o E;have B:=ro21 a;have i:=ro22 a;have s:(w:Nat)+1<W:=by have:=M.o;omega
 obtain ⟨I,J,x,V,X⟩:=Ω5 B;obtain ⟨g,j,k⟩:=Ω3 i;have O:=Ψ 0 i;have P:=Ψ 1 i;have Q:=Ψ 2 i;have u:=Lh i;clear h G F D B i E;unfold O8;unfold O8 at a;by_cases c:r.K=3
 .have e3:=ζ r.K 3 c
  by_cases p:m.N.length<4096
  .have d1:=η (m.N.length<4096)
   have N:=η ((m.N:Int)<4096);have d:=@Lh (DR m r=⟨3,(m.N:Int)+1,r.D⟩) (by unfold DR;rw [if_pos c,if_pos p]);have U:IntKind.i64.wrap ((m.N:Int)+1)=(m.N:Int)+1:=by rw [IntKind.wrap_i64]<;>omega
   clear p c;go_enter func71,ntmps71;go_upto_region 1 with fail;rw [<-a];clear a;go_upto_region 2 with fail;refine Ac (λA=>A.cell? (π bt 1)=ς (σ S m.N T)/\A.cell? (π w 2)=ς (ι r.D)) [9] ϑ 10 rfl κ κ ⟨H,x⟩ ?_;refine softA ?_;refine AH κ ?_;go_simp;refine BH ?_;go_wp2_with fail;refine ϖ (v:=.agg #[ι 3,ι ((m.N:Int)+1),ι r.D]) (by simp [results,results71,go_sem,g,j,k]) rfl ?_;exact RE (AG (Ay (Ay (Ay l.o ω) ω) ω) 1) d.o
  .have d1:=θ (m.N.length<4096)
   have N:=θ ((m.N:Int)<4096);have d:=@Lh (DR m r=⟨0,0,0⟩) (by unfold DR;rw [if_pos c,if_neg p]);clear p c;go_enter func71,ntmps71;go_upto_region 1 with fail;rw [<-a];clear a;go_wp2_with fail;refine ϖ (v:=.agg #[ι 0,ι 0,ι 0]) (by simp [results,results71,go_sem,g,j,k]) rfl ?_;exact RE (Ay (Ay (Ay l.o ω) ω) ω) d.o
 .have e3:=ξ r.K 3 c
  have y:=Lh c;have z:=Lh (OI m bt r W L.o t.o.1 t.o.2.1 t.o.2.2);unfold O8 at z;clear c H;go_enter func71,ntmps71;go_upto_region 1 with fail;rw [<-a];clear a;go_wp2_with fail;refine z.o.mono ?_;rintro e q ⟨f,R⟩;obtain ⟨I,J,x,g,j⟩:=Δ5 f I J x g j;have k:=AB f k;have O:q.frozen? (π (w+1) 0)=ϝ:=Fz ((f.block _ s).trans u.o);have P:q.frozen? (π (w+1) 1)=ϝ:=Fz ((f.block _ s).trans u.o);have Q:q.frozen? (π (w+1) 2)=ϝ:=Fz ((f.block _ s).trans u.o);have s:(w:Nat)+1<q:=Bl g;have C:=Lh (l.o.th f);clear f;rcases R with ⟨n,rfl⟩|⟨n,b,o,-,rfl⟩
  .have d:=@Lh (DR m r=⟨0,0,0⟩) (by unfold DR;rw [if_neg y.o,if_pos n])
   clear n;go_wp2_with fail;refine ϖ (v:=.agg #[ι 0,ι 0,ι 0]) (by simp [results,results71,go_sem,g,j,k]) rfl ?_;exact RE (Ay (Ay (Ay C.o ω) ω) ω) d.o
  .have d:=@Lh (DR m r=⟨r.K,r.O,r.D⟩) (by unfold DR;rw [if_neg y.o,if_neg ω])
   clear n;go_wp2_with fail;refine ϖ (v:=.agg #[ι r.K,ι r.O,ι r.D]) (by simp [results,results71,go_sem,g,j,k]) rfl ?_;exact RE (Ay (Ay (Ay C.o ω) ω) ω) d.o
def Fx (cd:AQ) (m:Mm) (r:Rq):Option (Mm×Int):=
 if r.K=3 then (if m.N.length<4096 then ς ({ m with N:=m.N++[⟨r.D,ϱ (cd.H.getD r.D.toNat 0).toNat 0⟩] },(m.N:Int)+1) else ς (m,0))
 else if ((Bd m r).length:Int)<=r.D then none
 else if r.K=2 then ς (setM m r r.V,r.V) else ς (m,(Bd m r).getD r.D.toNat 0)
def Ip (c:A1) (bt:Nat) (s:A3) (o:Option (Mm×Int)) (w:Ϣ) (e:Ending) (w':Ϣ):Prop:=
 (o=none/\e=.returned (.tuple #[ι 0,.bool ϝ])/\EL c bt s w w')\/∃ m n,o=ς (m,n)/\e=.returned (.tuple #[ι n,.bool ϑ])/\EL c bt { s with M:=m } w w'
def Au.post {c:A1} (h:Au w c bt s) (a:ϐ w w w'):EL c bt s w w':=⟨c,h.grow a,AT.ob a Qx⟩
def S7 {c:A1} {o:Option (Mm×Int)} (h:o=none) (a:EL c bt s w w'):Ip c bt s o w (.returned (.tuple #[ι 0,.bool ϝ])) w':=.inl ⟨h,rfl,a⟩
def Hr {c:A1} {o:Option (Mm×Int)} {m:Mm} (h:o=ς (m,n)) (a:EL c bt { s with M:=m } w w'):Ip c bt s o w (.returned (.tuple #[ι n,.bool ϑ])) w':=.inr ⟨m,n,h,rfl,a⟩
def IZ:(prog.info? 74).map (λi=>(i.zero,i.size,i.bytes))=ς (ς (.agg #[ι 0,ν]),2,32):=by kernel_rfl
def QB {c:A1} {k:Nat} (f:k<=1000000) (e:c (w:Nat)=tag):Dq (w.alloc (χ (Ad (ϱ k 0)) 3)) c tag (σ (ς (π w 0)) k k) (ϱ k 0):=by
 refine ⟨⟨⟨?_,.inr ⟨(w:Nat),k,Ad (ϱ k 0),ψ,Nat.zero_le _,Hn w _,ψ,by unfold maxLen;omega,by simp [Ad],?_⟩⟩,λb a=>?_,by simp;omega⟩,λn d=>?_⟩
 .simp
 .simp [Ad]
 .simp [Value.ownBlock] at a;subst a;exact e
 .simp at d;rw [d.2];unfold in64;omega
def PK (cd:AQ) (fa ga:Option Addr) (K gc B:Nat) (s:A3) (c:A1) (bt:Nat) (r:Rq) (w:Ϣ) (h:Au w c bt s) (hB:B<=w) (hc:BF B w (.agg (Bc fa K ga gc cd)) cd) (hr:Xn cd r) (D:∀ b,b<B->¬NZ (c b)) (C:r.D<=1000000) :
  ϙ prog 102 #[.agg (Bc fa K ga gc cd),.pointer (ς (π bt 0)),.agg (O8 r)] w (Ip c bt s (Fx cd s.M r) w):=by
 obtain ⟨na,nc,nx,b1,N,aL⟩:=h.viewA;obtain ⟨x,HH,Gt,aQ,y,bD⟩:=Λ6 h.lab h N aL hr D;have aP:=Lh C;clear D C;obtain ⟨W,l⟩:=ε ((w.alloc (χ (Bc fa K ga gc cd) 25)).alloc (χ (O8 r) 49));have z:=Lh (bl2 l);have P:=Lh (sz2 l);have HS:=Lh (HH.o.grow z.o);have k1:=AB z.o b1;have bA:=ro21 l;have aI:=ro22 l;have zR:(w:Nat)<W:=by have:=P.o;omega
 have zQ:(w:Nat)+1<W:=by have:=P.o;omega
 have c0:=Cw bA 0 rfl;obtain ⟨X,q1,G,q3,q4⟩:=Ω5 aI;have zt:=x.o.2.1;have HC:=Lh hc;have bC:=Lh b1;clear h N aL hr bA aI b1 hc;unfold O8;unfold O8 at l;by_cases t:r.K=3
 .have e3:=ζ r.K 3 t
  by_cases V:s.M.N.length<4096
  .have d1:=θ (4096<=s.M.N.length)
   have d2:=θ ((4096:Int)<=(s.M.N:Int));obtain ⟨k,U,bS,bO⟩:=y.o.alloc t;obtain ⟨a,rfl⟩:∃ a:Nat,k=a:=⟨k.toNat,ω⟩
   obtain ⟨f,hf⟩:∃ f:Nat,r.D=f:=⟨r.D.toNat,by have:=y.o.D;omega⟩
   have m:=@Lh (Fx cd s.M r=ς ({ s.M with N:=s.M.N++[⟨(f:Int),ϱ a 0⟩] },(s.M.N:Int)+1)) (by
    unfold Fx;rw [if_pos t,if_pos V,List.getD_eq_getElem?_getD,U,hf];rfl)
   rw [hf,Int.toNat_natCast] at U;obtain ⟨fv,gv,e,aX,-⟩:=HC.o;have e1:fv=σ fa cd.H K:=by simp at e;exact e.1.symm
   subst e1;obtain ⟨J,fo,rfl,bN,aY⟩:=aX.nth U;have m1:=AB z.o aY.1;rw [Nat.mul_one] at m1;rw [hf] at G;have i0:=In f;have i1:(f:Int)<(cd.H:Int):=by have:=(Ll U);omega
   have aT:=bN;have HF:=@Lh ((f:Int)<=1000000) (by have:=aP.o;omega);have bH:=Lh V;clear e;clear V t U aX aY hf;go_enter func102,ntmps102;go_upto_region 1 with fail;rw [<-l];clear l;go_upto_region 4 with fail;refine Ac (λVs=>Vs.cell? (π bt 1)=ς (σ na s.M.N nc)/\Vs.cell? (π (w+1) 2)=ς (ι (f:Int))/\Vs.cell? (π w 0)=ς (σ (ς (π J fo)) cd.H K)/\Vs.cell? (π J (fo+f))=ς (ι (a:Int))) [13,14,15,16,19] ϑ 20 rfl κ κ ⟨k1,G,c0,m1⟩ ?_;refine softA ?_;have H:=Lh (ϟ k1 (ϟ G (ϟ c0 m1)));clear k1 G c0 m1 X q1 q3 q4 zR zQ zt;have bP:=λW=>FK W a ω;refine AH κ ?_;go_simp;clear bP;have d:ϐ W W (W.alloc (χ (Ad (ϱ a 0)) 3)).drew:=Cb W _;refine ⟨Θ4 (AA _ _) H.o,?_⟩;obtain ⟨p,O⟩:=ε ((W.alloc (χ (Ad (ϱ a 0)) 3)).drew);rw [<-O];have I:=@Lh (ϐ W W p) (by rw [O];exact d);have bF:Hid (∀ c',c' W.heap.size=10+5*s.M.N.length->Dq p c' (10+5*s.M.N.length) (σ (ς (π W 0)) a a) (ϱ a 0)):=Lh (λc' h'=>by
    have:=QB (w:=W) (c:=c') (k:=a) ω h';rw [O];exact this.kp (T:=NO) (AT.ob (AG Br 1) (no 0)) (no _))
   have bB:(p:Nat)=(W:Nat)+1:=by rw [O];simp
   have bI:=Lh bB;clear O d bB;refine AH κ ?_;go_simp;refine ⟨Θ4 I.o H.o,?_⟩;refine AH κ ?_;go_simp;have E:ϐ p p (p.alloc (χ #[ι (f:Int),σ (ς (π W 0)) a a] 74)):=AA _ _;refine ⟨Θ4 (I.o.th E) H.o,?_⟩;obtain ⟨q,F⟩:=ε (λb=>if b=(W:Nat) then 10+5*s.M.N.length else c b:A1);have aK:q (W:Nat)=10+5*s.M.N.length:=by rw [F];exact if_pos rfl
   have aR:AT NO c q w (p.alloc (χ #[ι (f:Int),σ (ς (π W 0)) a a] 74)):=by have S:=(z.o.th I.o).th E;exact ⟨S.os,S.tape,S.output,S.size,λb h _=>S.block b h,λb h=>by rw [F];exact if_neg (by have:=z.o.size;omega),no 0⟩
   have aG:∀ b,(p.alloc (χ #[ι (f:Int),σ (ς (π W 0)) a a] 74)).heap.size<=b->q b=0:=λb h=>by have A:=bI.o;have i:=z.o.size;simp at h;rw [F];show (if b=(W:Nat) then _ else _)=0;rw [if_neg ω];exact x.o.2.2.1 b ω
   have aU:=Lh aR;have bE:=Lh aG;have bG:=Lh ((bF.o q aK).kp (T:=NO) (AT.ob E (no 0)) (no _));clear aK;refine AH κ ?_;refine Dz (λk=>k=3) (.tmp 22) (.tmp 33) 26 74 rfl underlying26 IZ rfl δ δ (c:=q) (tag:=3) (v:=σ na s.M.N nc) (n:=s.M.N.length) (xs:=nx) rfl (Gt.o.kp aR (no _)) (π p 0) 1 1 [ι (f:Int),σ (ς (π W 0)) a a] rfl rfl (λj u hu=>by rw [GB,Nat.zero_add,B6];simpa using hu) (by simp [Value.oneCell']) δ (by have:=bH.o;omega) rfl ω aG (λg Q Z c2 N L aZ bM=>?_);obtain ⟨Y,R⟩:=aQ.o _ q Z c2 _ ⟨(f:Int),ϱ a 0⟩ (σ (ς (π g 0)) (s.M.N.length+1) Q) aU.o bE.o bG.o (by show in64 (f:Int);have:=HF.o;unfold in64;omega) L aZ N;have i:=L.aft aU.o;have y1:=i.cell bC.o (by show ¬c bt=3;rw [x.o.1];omega);have yf:=i.frozen x.o.2.1 (x.o.2.2.2 1) (by show ¬c bt=3;rw [x.o.1];omega);obtain ⟨W3,aS⟩:=ε (Z.setCell (π bt 1) (σ (ς (π g 0)) (s.M.N.length+1) Q));rw [<-aS] at Y R;have ST:=Lh Y;have CG:=Lh R;have aW:=Lh aS;have bK:Hid (Z.cell? (π (w+1) 2)=ς (ι (f:Int))/\Z.cell? (π w 0)=ς (σ (ς (π J fo)) cd.H K)/\Z.cell? (π J (fo+f))=ς (ι (a:Int))):=Lh ⟨L.cell (AB (I.o.th E) H.o.2.1) (by show ¬q _=3;rw [F];dsimp only;have:=P.o;rw [if_neg ω,x.o.2.2.1 _ ω];omega),L.cell (AB (I.o.th E) H.o.2.2.1) (by show ¬q _=3;rw [F];dsimp only;have:=P.o;rw [if_neg ω,x.o.2.2.1 _ ω];omega),L.cell (AB (I.o.th E) H.o.2.2.2) (by show ¬q J=3;rw [F];dsimp only;have:=P.o;rw [if_neg ω];exact λe=>bD.o J aT (by rw [e];exact ⟨δ,δ⟩))⟩;clear L aZ N bM Y R i F aR aG E;refine ⟨.inl ⟨y1,bK.o⟩,?_⟩;refine AH κ ?_;go_simp;refine BH ?_;clear aS;go_wp2_with fail;refine ϖ (v:=.tuple #[ι ((s.M.N:Int)+1),.bool ϑ]) (by simp [results,results102,go_sem]) rfl ?_;exact Hr m.o ⟨c2,by rw [<-aW.o];exact ST.o,by rw [<-aW.o];exact CG.o⟩
  .have d1:=η (4096<=s.M.N.length)
   have d2:=η ((4096:Int)<=(s.M.N:Int));have m:=@Lh (Fx cd s.M r=ς (s.M,0)) (by unfold Fx;rw [if_pos t,if_neg V]);clear V t;go_enter func102,ntmps102;go_upto_region 1 with fail;rw [<-l];clear l;go_wp2_with fail;refine ϖ (v:=.tuple #[ι 0,.bool ϑ]) (by simp [results,results102,go_sem]) rfl ?_;exact Hr m.o (HH.o.post z.o)
 .have e3:=ξ r.K 3 t
  have H3:=Lh t;have aV:=Lh (OI s.M bt r W HS.o.memAt y.o.O y.o.D y.o.nodeV);unfold O8 at aV;clear t k1 c0 zt;go_enter func102,ntmps102;go_upto_region 1 with fail;rw [<-l];clear l;go_wp2_with fail;refine aV.o.mono ?_;rintro e w1 ⟨d,hr⟩;have aO:=Lh (z.o.th d);have bJ:=Lh (HS.o.grow d);rcases hr with ⟨A,rfl⟩|⟨A,b,o,M,rfl⟩
  .have m:=@Lh (Fx cd s.M r=none) (by unfold Fx;rw [if_neg H3.o,if_pos A])
   clear A d X q1 G q3 q4;go_wp2_with fail;refine ϖ (v:=.tuple #[ι 0,.bool ϝ]) (by simp [results,results102,go_sem]) rfl ?_;exact S7 m.o (HH.o.post aO.o)
  have bQ:=HS.o.plc M y.o.D A;clear M;obtain ⟨rfl,M⟩:=bQ;rw [Nat.zero_add];have X:=AB d X;have q3:=AB d q3;obtain ⟨hv,bL,bR,aN,aH⟩:=bJ.o.put (M.kp d) y.o.D A;have HP:=Lh aH;have zQ:(w:Nat)+1<w1:=Bl X;by_cases i:r.K=2
  .have e2:=ζ r.K 2 i
   have m:=@Lh (Fx cd s.M r=ς (setM s.M r r.V,r.V)) (by unfold Fx;rw [if_neg H3.o,if_neg ω,if_pos i]);clear A d i q1 G q4 M aH aN;go_wp2_with fail;refine ϖ (v:=.tuple #[ι r.V,.bool ϑ]) (by simp [results,results102,go_sem]) rfl ?_;obtain ⟨Y,R⟩:=HP.o r.V y.o.V;exact Hr m.o ⟨c,Y,(AT.ob aO.o Qx).trans R⟩
  .have e2:=ξ r.K 2 i
   have m:=@Lh (Fx cd s.M r=ς (s.M,(Bd s.M r).getD r.D.toNat 0)) (by unfold Fx;rw [if_neg H3.o,if_neg ω,if_neg i]);clear A d i q1 G q4 M aH aN;go_wp2_with fail;refine ϖ (v:=.tuple #[ι ((Bd s.M r).getD r.D.toNat 0),.bool ϑ]) (by simp [results,results102,go_sem]) rfl ?_;exact Hr m.o (HH.o.post aO.o)
def CC (s:A3) (t:Nat) (m:AV) (n:Int):A3:=if m.Q.K=4 then Ly s t 0 m.Q.V m.C n else if m.Q.K=5 then Ly s t m.Q.X 0 m.C n else { s with R:=s.R.set t m }
def AT.pre {c:A1} {b:Ϣ} (h:ϐ a a b) (k:AT NZ c c' b d):AT NZ c c' a d:=(AT.ob h Qx).trans k
def EL.pre {c:A1} {b:Ϣ} (h:ϐ a a b) (k:EL c bt s b d):EL c bt s a d:=by
 obtain ⟨c',e,f⟩:=k;exact ⟨c',e,AT.pre h f⟩
def Lj (s:A3) (c:A1) (bt t:Nat) (n:Int) (r:List CD) (e:List Int) (m0 m:AV) (j:Option Addr) (k:Nat) (w:Ϣ) (h:Au w c bt s) (P:s.R[t]?=ς m0) (Q:s.N[t]?=ς n) (R:s.results[t]?=ς r) (N:s.P[t]?=ς e) (K:r.length<=1000000) (J:e.length<=1000000)
  (O:AE w (mask w c) 4 (CK w) (σ j m.J k) m.J) (u:GC m) :
  ϙ prog 105 #[.pointer (ς (π bt 0)),ι t,.agg (AC (σ j m.J k) m)] w λz w'=>z=.returned (.tuple #[])/\EL c bt (CC s t m n) w w':=by
 have H0:=Lh h;have a:=Lh (ϟ P (ϟ Q (ϟ R (ϟ N (ϟ K J)))));have HF:=Lh O;have p:=Lh u;obtain ⟨W,f⟩:=ε (w.alloc (χ (AC (σ j m.J k) m) 51));have i:=Lh (bl1 f);have A:=Lh (H0.o.grow i.o);have G:=ro11 f;obtain ⟨S,U,V,X,Y,Z,q6,q7,q8⟩:=Ω9 G;have aK:=Lh (HF.o.ups Dx i.o.size (AT.sub (T:=NO) (AT.ob i.o (no 0))));clear h P Q R N K J O u G;unfold AC;unfold AC at f;by_cases g:m.Q.K=4
 .have e4:=ζ m.Q.K 4 g
  have o:=@Lh (CC s t m n=Ly s t 0 m.Q.V m.C n) (by unfold CC;rw [if_pos g]);have x:=Lh (NI s c bt t 0 m.Q.V m.C n r e m0 W A.o a.o.1 a.o.2.1 a.o.2.2.1 a.o.2.2.2.1 a.o.2.2.2.2.1 a.o.2.2.2.2.2 (by unfold in64;simp) p.o.1.2.2.2.1 p.o.2.2.1);clear g;go_enter func105,ntmps105;go_upto_region 1 with fail;rw [<-f];clear f;go_wp2_with fail;refine x.o.mono ?_;rintro z w1 ⟨rfl,q⟩;have y:=Lh q;clear q;go_wp2_with fail
  go_end0
  exact ⟨rfl,by rw [o.o];exact y.o.pre i.o⟩
 have e4:=ξ m.Q.K 4 g;by_cases l:m.Q.K=5
 .have e5:=ζ m.Q.K 5 l
  have o:=@Lh (CC s t m n=Ly s t m.Q.X 0 m.C n) (by unfold CC;rw [if_neg g,if_pos l]);have x:=Lh (NI s c bt t m.Q.X 0 m.C n r e m0 W A.o a.o.1 a.o.2.1 a.o.2.2.1 a.o.2.2.2.1 a.o.2.2.2.2.1 a.o.2.2.2.2.2 p.o.1.2.2.2.2 (by unfold in64;simp) p.o.2.2.1);clear g l;go_enter func105,ntmps105;go_upto_region 1 with fail;rw [<-f];clear f;go_wp2_with fail;refine x.o.mono ?_;rintro z w1 ⟨rfl,q⟩;have y:=Lh q;clear q;go_wp2_with fail
  go_end0
  exact ⟨rfl,by rw [o.o];exact y.o.pre i.o⟩
 have e5:=ξ m.Q.K 5 l;have o:=@Lh (CC s t m n={ s with R:=s.R.set t m }) (by unfold CC;rw [if_neg g,if_neg l]);obtain ⟨E,rc,ga,gc,L,D,aN,aO,d,-,-,I⟩:=A.o.viewR a.o.1;obtain ⟨F,C⟩:=I m (σ j m.J k) aK.o p.o;obtain ⟨v,B⟩:=ε (GK W E (t*9) (FW (σ j m.J k) m));rw [<-B] at F C;have aM:=Lh F;have aJ:=Lh C;have aL:=Lh B;have i0:=In t;have i1:(t:Int)<(s.R:Int):=by have:=(Ll a.o.1);omega
 have z0:=d (t*9);have z1:=d (t*9+1);have z2:=d (t*9+2);have z3:=d (t*9+3);have z4:=d (t*9+4);have z5:=d (t*9+5);have z6:=d (t*9+6);have z7:=d (t*9+7);have z8:=d (t*9+8);have x0:W.cell? (π E (t*9))=ς (σ ga m0.J gc):=D 0 _ rfl;have x1:=Γ9 D;clear d B F C D I aN g l;go_enter func105,ntmps105;go_upto_region 1 with fail;rw [<-f];clear f;go_upto_region 2 with fail;refine Ac (λb=>b.cell? (π bt 3)=ς (σ (ς (π E 0)) s.R rc)/\b.cell? (π w 0)=ς (σ j m.J k)/\b.cell? (π w 1)=ς (ι m.Q.K)/\b.cell? (π w 2)=ς (ι m.Q.O)/\b.cell? (π w 3)=ς (ι m.Q.D)/\b.cell? (π w 4)=ς (ι m.Q.V)/\b.cell? (π w 5)=ς (ι m.Q.X)/\b.cell? (π w 6)=ς (ι m.Y)/\b.cell? (π w 7)=ς (ι m.C)/\b.cell? (π w 8)=ς (ι m.I)) [7] ϑ 8 rfl κ κ ⟨L,S,U,V,X,Y,Z,q6,q7,q8⟩ ?_;refine softA ?_;clear L S U V X Y Z q6 q7 q8;refine AH κ ?_;go_simp;refine BH ?_
 go_end0
 refine ⟨rfl,?_⟩;have M:ϐ v v v.drew:=AG Br 1;have H:EL c bt (CC s t m n) w v.drew:=⟨c,by rw [o.o];exact aM.o.grow M,(AT.pre i.o aJ.o).trans (AT.ob M Qx)⟩
 rw [aL.o] at H;exact H
inductive H7 (m:AV):KM->Prop
 | go (m1:AV):m1.Y<=m.Y/\m1.C+Co m1<=m.C+Co m/\m1.I<=100000->H7 m (.go m1)
 | stop (r:Rq) (m1:AV):m1.Y<=m.Y/\m1.C+Co m1<=m.C+Co m/\m1.I<=100000->H7 m (.stop r m1)
def H7.ite {p:Prop} [Decidable p] {a b:KM} (c:H7 m a) (d:H7 m b):H7 m (if p then a else b):=by split<;>assumption
def Uy (c:AQ) (m:AV) (fs:List AY) (f:AY) (y:BK) (x:Cd) (h:m.I<100000):H7 m (Df c m fs f y x):=by
 have b:∀ a:List AY,({ m with I:=m.I+1,J:=a }:AV).Y<=m.Y/\({ m with I:=m.I+1,J:=a }:AV).C+Co { m with I:=m.I+1,J:=a }<=m.C+Co m/\({ m with I:=m.I+1,J:=a }:AV).I<=100000:=λa=>by unfold Co;simp only [];omega
 have d:∀ a:List AY,({ m with I:=m.I+1,C:=m.C+DS x.op,J:=a }:AV).Y<=m.Y/\({ m with I:=m.I+1,C:=m.C+DS x.op,J:=a }:AV).C+Co { m with I:=m.I+1,C:=m.C+DS x.op,J:=a }<=m.C+Co m/\({ m with I:=m.I+1,C:=m.C+DS x.op,J:=a }:AV).I<=100000:=λa=>by
  have:DS x.op<=1:=by unfold DS;split<;>omega
  unfold Co;simp only [];omega
 have g:∀ a:List AY,({ m with Y:=m.Y - 1,I:=0,J:=a }:AV).Y<=m.Y/\({ m with Y:=m.Y - 1,I:=0,J:=a }:AV).C+Co { m with Y:=m.Y - 1,I:=0,J:=a }<=m.C+Co m/\({ m with Y:=m.Y - 1,I:=0,J:=a }:AV).I<=100000:=λa=>by unfold Co;simp only [];omega
 have e:m.Y<=m.Y/\m.C+Co m<=m.C+Co m/\m.I<=100000:=ω;unfold Df;simp only []
 repeat' apply H7.ite
 all_goals first|exact .go _ (b _)|exact .stop _ _ (b _)|exact .go _ (d _)|exact .stop _ _ (d _)|exact .go _ (g _)|skip
 .cases Dt c x.a with
  | none=>exact .stop _ _ e
  | some z=>
   simp only [];apply H7.ite
   .exact .go _ (b _)
   .exact .stop _ _ (b _)
 .cases fs.getLast? with
  | none=>exact .stop _ _ (b _)
  | some z=>exact .go _ (b _)
def PI (c:AQ) (m:AV) (b:m.I<=100000):H7 m (stepP c m):=by
 have a:m.Y<=m.Y/\m.C+Co m<=m.C+Co m/\m.I<=100000:=ω;unfold stepP;split
 .exact .stop _ _ a
 .cases m.J.getLast? with
  | none=>exact .stop _ _ a
  | some f=>
   simp only [];cases c.funcs[f.fn.toNat]? with
   | none=>exact .stop _ _ a
   | some y=>
    simp only [];cases y.code[f.pc.toNat]? with
    | none=>exact .stop _ _ a
    | some x=>exact Uy c m _ f y x ω
def JN (h:Cf c m m'):m.I<=100000->m'.Y<=m.Y/\m'.C+Co m'<=m.C+Co m/\m'.I<=100000:=by
 induction h with
 | stop a=>
  intro b;have:=PI c _ b;rw [a] at this;cases this with
  | stop _ _ h=>exact h
 | go a _ d=>
  intro b;have:=PI c _ b;rw [a] at this;cases this with
  | go _ h=>have:=d h.2.2;omega
def Tt {x:Cd} (h:Ko x r):AP x r=ϑ:=by
 unfold AP;rcases h with ⟨a,rfl⟩|⟨v,a,c,rfl⟩|⟨n,a,d,b,rfl⟩|⟨n,v,a,d,b,c,rfl⟩|⟨a,rfl⟩
 .rw [a];simp [Aa,Ag]
 .rw [a];simp [Aa,Ag];exact .inr (Aq.2 c)
 .rw [a];simp [Aa,Ag];unfold BP at b;omega
 .rw [a];simp [Aa,Ag];unfold BP at b;exact ⟨⟨d,b.2⟩,.inr (Aq.2 c)⟩
 .rw [a];simp [Aa,Ag]
def Oi :∀ (l:List AY) (g:AY),Ge c l g.fn->∀ (j:Nat) f,l[j]?=ς f->DL c f (λx=>x.op=9/\x.a=((if j=0 then ς g else l[j - 1]?).map (·.fn)).getD 0)
 | [],g,_,j,f,h=>by simp at h
 | a::l,g,h,0,f,hf=>by simp at hf;subst hf;exact h.1
 | a::l,g,h,j+1,f,hf=>by
  have:=Oi l a h.2 j f (by simpa using hf);refine this.imp (λx b=>⟨b.1,?_⟩);rw [b.2];cases j with
  | zero=>simp
  | succ j=>simp
def Lv (hs:AU c) {fs:List AY} {f:AY} (h:C9 c m m.Q fs f) (e:EB m) (p:m.Y<=1048576) (o:m.C<=1099511627776):Ax c m:=by
 have r:=h.len;have a:=h.fr;refine ⟨hs,⟨e.Y,p⟩,⟨e.cmp0,o⟩,⟨e.idle0,e.idle1⟩,by rw [a];simp;omega,.inr ⟨by rw [a];simp,λk g b=>?_⟩⟩;have q:m.J.length=fs.length+1:=by rw [a];simp
 unfold BU;by_cases j:k<fs.length
 .rw [a,Al j] at b
  have n:fs.reverse[fs.length - 1 - k]?=ς g:=by rw [List.getElem?_reverse ω];rw [show fs.length - 1 - (fs.length - 1 - k)=k by omega];exact b
  refine (Oi _ _ h.low _ _ n).imp (λx d=>?_);rw [if_neg ω];refine ⟨d.1,?_⟩;by_cases l:k+1=fs.length
  .refine ⟨f,by rw [a,Ar ω,l];simp,?_⟩
   rw [d.2,if_pos ω];rfl
  .obtain ⟨i,aB⟩:∃ i,fs[k+1]?=ς i:=⟨_,Lg ω⟩
   refine ⟨i,by rw [a,Al ω];exact aB,?_⟩;rw [d.2,if_neg ω,List.getElem?_reverse ω,show fs.length - 1 - (fs.length - 1 - k - 1)=k+1 by omega,aB];rfl
 .have aC:k=fs.length:=by
   have:=(Ll b)
   omega
  rw [a,aC] at b;simp at b;subst b;refine h.top.imp (λx d=>?_);rw [if_pos ω];exact Tt d
structure Iv (c:AQ) (m:AV):Prop where
 waits:∃ fs f,C9 c m m.Q fs f
 nums:EB m
 Y:m.Y<=1048576
 cmp:m.C+Co m<=1000000000000
def Iv.valid (hs:AU c) (h:Iv c m):Ax c m:=by
 obtain ⟨d,f,b⟩:=h.waits;refine Lv hs b h.nums h.Y ?_;have e:=h.nums.Y;have g:=h.nums.idle1;have a:=h.cmp;unfold Co at a;omega
def Iv.K (h:Iv c m):m.Q.K=1\/m.Q.K=2\/m.Q.K=3:=by
 obtain ⟨d,f,b⟩:=h.waits;obtain ⟨_,x,_,_,_,_,a,_⟩:=b.top;exact EW a
def Iv.asks (h:Iv c m):Cs m=ϑ:=by
 unfold Cs;rcases h.K with e|e|e<;>simp [e]
def FB (h:Cs m=ϑ):m.Q.K≠4/\m.Q.K≠5:=by
 unfold Cs at h;simp at h;omega
def Fy.q (h:Fy c r):Xn c r:=⟨h.D,h.O,h.nodeV.2,by have:=h.V;unfold BP at this;unfold in64;omega,h.alloc⟩
def Kn (h:DQ c m) (d:Cs m=ϑ) (g:m.Y<=1048576) (f:m.C+Co m<=1000000000000):Iv c m:=by
 obtain ⟨i,h⟩:=h;have b:=FB d;rcases h with ⟨e,_,a,_⟩|⟨v,_,a,_⟩|j
 .exact absurd (by rw [a];rfl) b.2
 .exact absurd (by rw [a];rfl) b.1
 .exact ⟨j,i,g,f⟩
def Jn (hs:AU c) {x:Bi} {fuel:Int} (h:AS c x fuel=0) (a:Cf c (CF c x fuel) m):DQ c m/\m.Y<=1048576/\m.C+Co m<=1000000000000:=by
 have g:0<=fuel/\fuel<=1048576:=by
  unfold AS at h;by_cases f:fuel<0\/1048576<fuel
  .rw [if_pos f] at h;omega
  .omega
 have e:=JN a (by show (0:Int)<=100000;omega);have b:(CF c x fuel).Y=fuel:=rfl;have d:(CF c x fuel).C+Co (CF c x fuel)=0+(fuel*100001+(100000 - 0)):=rfl;rw [b,d] at e;exact ⟨(Nn hs h a).1,ω,ω⟩
def TX (hs:AU c) (h:Iv c m) (o:Bj m.Q n=ϑ) (k:ED c m n m'):(DQ c m'\/(m'.J=[]/\m'.Q=Ah 21/\EB m'))/\m'.Y<=1048576/\m'.C+Co m'<=1000000000000:=by
 have j:=FB h.asks;have l:DQ c m:=⟨h.nums,.inr (.inr h.waits)⟩
 refine ⟨(IR hs l j.1 j.2 o k).1,?_⟩;have a:=h.Y;have b:=h.cmp;have i:=h.nums.idle1;rcases k with ⟨_,_,rfl⟩|⟨_,g,f,_,d⟩|⟨_,d⟩
 .exact ⟨a,b⟩
 .have:=JN d i
  have e:({ m with Q:=Eg,J:=g++[{ f with S:=f.S++[n] }] }:AV).C+Co { m with Q:=Eg,J:=g++[{ f with S:=f.S++[n] }] }=m.C+Co m:=rfl;rw [e] at this;exact ⟨Int.le_trans this.1 a,Int.le_trans this.2.1 b⟩
 .have:=JN d i
  have e:({ m with Q:=Eg }:AV).C+Co { m with Q:=Eg }=m.C+Co m:=rfl;rw [e] at this;exact ⟨Int.le_trans this.1 a,Int.le_trans this.2.1 b⟩
def Im (s:A3):A3:={ s with U:=s.U+1 }
def XD (s:A3) (t:Nat) (l:List Bi):A3:={ s with A:=s.A.set t l,Z:=s.Z.modify t (·++[s.U]) }
def Nu (c:AQ) (s:A3) (t:Nat) (m0:AV) (m:AV) (s1:A3):Prop:=
 (m0.J≠[]/\m=m0/\s1=s)\/(m0.J=[]/\∃ x l,s.A[t]?=ς (x::l)/\Cf c (CF c x s.Y) m/\s1=XD s t l)
def EU (m:Mm) (r:Rq):Int:=if (DR m r).O≠0 then 1 else 0
def Xg (c:AQ) (s1:A3) (t:Nat) (m:AV) (n:Int) (s':A3):Prop:=
 (Cs m=ϝ/\s'=Im (CC s1 t m n))\/
 (Cs m=ϑ/\Fx c s1.M m.Q=none/\s'=Im (Ly s1 t 11 0 m.C n))\/
 (Cs m=ϑ/\∃ mm a m',Fx c s1.M m.Q=ς (mm,a)/\ED c m a m'/\s'=Im (CC { s1 with M:=mm,N:=s1.N.set t (n+EU s1.M m.Q) } t m' (n+EU s1.M m.Q)))
def Dg (c:AQ) (s:A3) (t:Nat) (s':A3):Prop:=∃ m0 n m s1,s.R[t]?=ς m0/\s.N[t]?=ς n/\Nu c s t m0 m s1/\Xg c s1 t m n s'
def IN {m e:Mm} (a:Dp c m) (d:Fy c r) (h:Fx c m r=ς (e,n)):Bj r n=ϑ:=by
 have:∃ p,Ka c ⟨m,[],0⟩ r=ς (p,n):=by
  unfold Fx at h;unfold Ka;split at h
  .rename_i h3
   rw [if_pos h3];split at h
   .rename_i hl;rw [if_pos hl];cases h;exact ⟨_,rfl⟩
   .rename_i hl;rw [if_neg hl];cases h;exact ⟨_,rfl⟩
  .rename_i h3
   rw [if_neg h3];split at h
   .cases h
   .rename_i hl
    rw [if_neg hl];split at h
    .rename_i h2;cases h;exact ⟨_,by rw [if_pos h2]⟩
    .rename_i h2;cases h;exact ⟨_,by rw [if_neg h2]⟩
 obtain ⟨p,b⟩:=this;exact Kc a d b
def Fy.wf (h:Fy c r) (d:r.X=0):r.wf:=by
 have e:=h.K;have f:=h.D;have g:=h.field2;have i:=h.O;have a:=h.nodeV;have b:=h.V;unfold BP at a b;unfold Rq.wf in64;rw [d];omega
def RN (hs:AU c) (h:DQ c m\/(m.J=[]/\m.Q=Ah 21/\EB m)) (d:m.Y<=1048576):GC m:=by
 have g:∀ m:AV,EB m->m.Y<=1048576->in64 m.Y/\in64 m.C/\in64 m.I:=λm a d=>by have p:=a.Y;have q:=a.idle0;have r:=a.idle1;have s:=a.cmp0;have j:=a.potle;unfold Co at j;unfold in64;omega
 rcases h with ⟨a,h⟩|⟨_,b,a⟩
 .refine ⟨?_,g m a d⟩
  rcases h with ⟨e,t,b,_⟩|⟨v,l,b,_⟩|⟨o,f,i⟩
  .rw [b];unfold Ah Rq.wf in64;simp;omega
  .rw [b];unfold BP at l;unfold EE Rq.wf in64;simp;omega
  .refine (i.Q hs).wf ?_
   obtain ⟨_,x,_,_,_,_,k,_⟩:=i.top;rcases k with ⟨_,e⟩|⟨v,_,_,e⟩|⟨n,_,_,_,e⟩|⟨n,v,_,_,_,_,e⟩|⟨_,e⟩<;>rw [e]
 .exact ⟨by rw [b];unfold Ah Rq.wf in64;simp,g m a d⟩
def OO (hs:AU c) (a:Bv c) (h:DQ c m\/(m.J=[]/\m.Q=Ah 21/\EB m)):IK m:=by
 rcases h with h|⟨h,_⟩
 .exact h.modest hs a
 .exact IQ h
def Nu.same {a:A3} {m0:AV} (h:Nu c s t m0 m a):a.R=s.R/\a.N=s.N/\a.results=s.results/\a.P=s.P/\a.M=s.M/\a.U=s.U/\a.Y=s.Y:=by
 rcases h with ⟨_,_,rfl⟩|⟨_,x,l,_,_,rfl⟩
 .exact ⟨rfl,rfl,rfl,rfl,rfl,rfl,rfl⟩
 .exact ⟨rfl,rfl,rfl,rfl,rfl,rfl,rfl⟩
def FX (s:A3) (t:Nat) (m:AV) (n:Int):(CC s t m n).U=s.U:=by
 unfold CC Ly;split
 .rfl
 split<;>rfl
def Ms {m:Mm} (h:Fx c m r=none):DR m r=⟨0,0,0⟩:=by
 unfold Fx at h;unfold DR;split at h
 .split at h<;>cases h
 .rename_i h3
  rw [if_neg h3];split at h
  .rename_i hl;rw [if_pos hl]
  .split at h<;>cases h
def Uu {α:Type} {l:List α} {x:α} (h:l[t]?=ς x):l.set t x=l:=by
 obtain ⟨a,rfl⟩:=List.getElem?_eq_some_iff.1 h;exact List.set_getElem_self a
def Fy.f64 (h:Fy c r):r.D<=1000000:=by have:=h.field2;omega
