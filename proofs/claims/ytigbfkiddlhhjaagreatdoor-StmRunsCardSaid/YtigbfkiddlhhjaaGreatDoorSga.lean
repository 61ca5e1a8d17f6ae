import Derived.Test.YtigbfkiddlhhjaaGreatDoorPst3
set_option maxHeartbeats 8000000
set_option maxRecDepth 100000
set_option linter.all false
open Option renaming some→X
open Go.Value renaming slice→H
open Go.Obj renaming cells→K
namespace Go.Proofs.YtigbfkiddlhhjaaGreatDoor
open Go.RowKit Proofs.Tryz
open Go.RowKit renaming ω→O,π→D,ι→U
variable{w w':World}{bm fb cap:Nat}{cur:Array Value}{cs:List Value}{fs:List AY}{f f':AY}{lv sv:Value}{m:AV}{Fi Fl Fs F:List Nat}{op a b:Int}{e:Ending}
def Qi(j k:Option Addr)(c b h d:Nat)(g:Int)(p:AN w bm fb cap cur cs fs f lv sv m Fi Fl Fs)(q:m.J=fs++[f])
  (a:100000<=m.I/\m.I<=100000) :
  Calls prog 168 #[DH (H j c b) (H k h d) g bm] w (EM w bm (bm::fb::(Fi++(Fl++Fs))) (.stop (Ah 6) m)):=by
 have i:=AA w (K #[H j c b,U g,H k h d,.pointer (X (D bm 0))] 199);have a:=p.kp i;have:=a.cIdle;have l:=Lh a;have n:=Lh q;have o:=Lh i;unfold DH;go_in;go_wp2_with fail;refine(Ek j k c b h d g bm 6 _).mono ?_;rintro e b⟨rfl,a⟩;refine⟨rfl,?_⟩;exact⟨rfl,_,(l.o.kp a).own n.o,AW.ob (o.o.th a)⟩
def Es(E cE:Option Addr)(C A t:Nat)(g:Int)(r:AN w bm fb cap cur cs fs f lv sv m Fi Fl Fs)(cT:fs.length<200)
  (B:Nat) (l:∀b∈bm::fb::(Fi++(Fl++Fs)),B<=b) (q:List BK) (cS:q.length<=1000000) (i:AE B w 5 (CW B) (H cE q t) q) (k:Nat) (j:f.fn=k) (y:BK) (cD:q[k]?=X y) (p:Nat) (c:f.pc=p) (x:Cd) (cR:y.q9[p]?=X x) (cP:y.q9.length<=1000000)
  (cO:0<=m.I/\m.I<100000) (o:KM)
  (a:((x.op=1)/\(f.S.length<1000000)/\o=.go {m with I:=m.I+1,J:=fs++[{f with pc:=f.pc+1,S:=f.S++[x.a]}]})\/((x.op=4)/\o=.stop ⟨1,0,x.a,0,0⟩ {m with I:=m.I+1,J:=fs++[{f with pc:=f.pc+1}]})\/((x.op=8)/\o=.stop ⟨3,0,x.a,0,0⟩ {m with I:=m.I+1,J:=fs++[{f with pc:=f.pc+1}]})\/((x.op=11)/\o=.go {m with I:=m.I+1,J:=fs++[{f with pc:=x.a}]})\/((x.op=5)/\∃(d:List Int),∃(h:Int),(f.S=d++[h])/\o=.stop ⟨2,0,x.a,h,0⟩ {m with I:=m.I+1,J:=fs++[{f with pc:=f.pc+1,S:=d}]})\/((x.op=30)/\∃(d:List Int),∃(h:Int),(f.S=d++[h])/\o=.go {m with I:=m.I+1,J:=fs++[{f with pc:=f.pc+1,S:=d}]})\/((x.op=12)/\∃(d:List Int),∃(h:Int),(f.S=d++[h])/\(h≠0)/\o=.go {m with I:=m.I+1,J:=fs++[{f with pc:=f.pc+1,S:=d}]})\/((x.op=12)/\∃(d:List Int),(f.S=d++[0])/\o=.go {m with I:=m.I+1,J:=fs++[{f with pc:=x.a,S:=d}]})) :
  Calls prog 168 #[DH (H E C A) (H cE q t) g bm] w (EM w bm (bm::fb::(Fi++(Fl++Fs))) o):=by
 have v:=Lh a;clear a;let⟨u,G⟩:=x;obtain⟨_,bX,a,-,-,-,z⟩:=id i;rcases z with L|⟨b,o,rfl,-,-⟩
 .rw [L]at cD;simp at cD
 obtain⟨rfl,rfl⟩:cE=X (D b o)/\t=bX:=by simpa using a
 clear a;refine(Xb E b o C A t g (Lh r) cT B (Lh l) q cS (Lh i) k (Lh j) y cD p (Lh c) u G cR cP cO _).2 (Lh ?_);intro z z z z z z cM z n z z z z z z z z z z z cJ s F z bY bZ cA cB z cK z cC z z z z;have J:=Lh c;clear r l i j c;rcases v.o with ⟨c,cF,rfl⟩|⟨c,rfl⟩|⟨c,rfl⟩|⟨c,rfl⟩|⟨c,d,h,i,rfl⟩|⟨c,d,h,i,rfl⟩|⟨c,d,h,i,cU,rfl⟩|⟨c,d,i,rfl⟩
 .have M:=Lh c
  clear c v;obtain rfl:u=1:=M.o;go_wp2_with fail;refine(Da E (X (D b o)) C A q.length t g s.o O G cM cF).mono ?_;rintro e z⟨rfl,_,_,_,j,a⟩;go_wp2_with fail;go_end0;rw[J.o];exact⟨rfl,_,(j.reframe _).own rfl,F.o.trans a⟩
 .have N:=Lh c
  clear c v;obtain rfl:u=4:=N.o;go_wp2_with fail;refine(GU E (X (D b o)) C A q.length t g bm 1 0 G 0 0 _).mono ?_;rintro e L⟨rfl,z⟩;refine⟨rfl,?_⟩;rw[J.o];exact⟨rfl,_,((s.o.kp z).reframe _).own rfl,F.o.trans (AW.ob z)⟩
 .have P:=Lh c
  clear c v;obtain rfl:u=8:=P.o;go_wp2_with fail;refine(GU E (X (D b o)) C A q.length t g bm 3 0 G 0 0 _).mono ?_;rintro e L⟨rfl,z⟩;refine⟨rfl,?_⟩;rw[J.o];exact⟨rfl,_,((s.o.kp z).reframe _).own rfl,F.o.trans (AW.ob z)⟩
 .have R:=Lh c
  clear c v;obtain rfl:u=11:=R.o;have:=s.o.cPc;have:=s.o.frf (fs.length*4+1);let⟨l,a⟩:=Jl s.o G cM;have W:=Lh l;have r:=Lh (F.o.trans a);clear l a;go_wp2_with fail;go_end0;exact⟨rfl,_,(W.o.reframe _).own rfl,r.o⟩
 .have Q:=Lh c
  clear c v;obtain rfl:u=5:=Q.o;have cI:=Lh i;clear i;have cG:Hid (AN cJ.drew bm fb cap (cur.setIfInBounds (fs.length*4+1) (U ((p:Int)+1))) cs fs {f with pc:=(p:Int)+1} lv sv {m with I:=m.I+1} Fi Fl Fs):=s.o.kp (AG Br 1);have cH:Hid (AW (bm::fb::(Fi++(Fl++Fs))) (bm::fb::(Fi++(Fl++Fs))) w cJ.drew):=F.o.trans (AW.ob (AG Br 1));go_upto_region 18 with fail;go_region_with (first|(go_at_call 181;refine(Cm E (X (D b o)) C A q.length t g cG.o O d h cI.o).mono ?_;rintro e cN⟨rfl,_,_,_,j,a⟩;have:=a.cd bY n;have:=a.cd bZ n;have:=a.cd cA n;have:=a.cd cB n;have:=a.cd cC cK;have l:=Lh j;have r:=Lh (cH.o.trans a);clear j a)|(go_at_call 182;refine(GU E (X (D b o)) C A q.length t g bm 2 0 G h 0 _).mono ?_;rintro e w9 i;obtain⟨rfl,hF⟩|⟨rfl,hb9⟩:(e=.returned (.tuple #[])/\Hid False)\/Ky ⟨2,0,G,h,0⟩ _ e w9:=.inr i;rotate_left;(refine⟨rfl,?_⟩;rw[J.o];exact⟨rfl,_,((l.o.kp hb9).reframe _).own rfl,r.o.trans (AW.ob hb9)⟩)));all_goals exact hF.o.elim
 .have S:=Lh c
  clear c v;obtain rfl:u=30:=S.o;have Y:=Lh i;clear i;go_wp2_with fail;refine(Cm E (X (D b o)) C A q.length t g s.o O d h Y.o).mono ?_;rintro e z⟨rfl,_,_,_,j,a⟩;have l:=Lh j;have r:=Lh (F.o.trans a);clear j a;go_wp2_with fail;go_end0;rw[J.o];exact⟨rfl,_,(l.o.reframe _).own rfl,r.o⟩
 .have T:=Lh c
  clear c v;obtain rfl:u=12:=T.o;have bW:=Lh i;clear i;go_wp2_with fail;refine(Cm E (X (D b o)) C A q.length t g s.o O d h bW.o).mono ?_;rintro e z⟨rfl,_,_,_,j,a⟩;have bY:=a.cell bY n;have bZ:=a.cell bZ n;have cA:=a.cell cA n;have cB:=a.cell cB n;have cC:=a.cell cC cK;have l:=Lh j;have r:=Lh (F.o.trans a);clear j a;have cL:¬h=0:=cU;go_wp2_with fail;go_end0;rw[J.o];exact⟨rfl,_,(l.o.reframe _).own rfl,r.o⟩
 have V:=Lh c;clear c v;obtain rfl:u=12:=V.o;have c:=Lh i;clear i;go_wp2_with fail;refine(Cm E (X (D b o)) C A q.length t g s.o O d 0 c.o).mono ?_;rintro e c⟨rfl,_,_,_,j,a⟩;have bY:=a.cell bY n;have bZ:=a.cell bZ n;have cA:=a.cell cA n;have cB:=a.cell cB n;have cC:=a.cell cC cK;have l:=Lh j;have r:=Lh (F.o.trans a);clear j a;have:=l.o.cPc;have:=l.o.frf (fs.length*4+1);let⟨c,a⟩:=Jl l.o G cM;have i:=Lh c;have j:=Lh (r.o.trans a);clear c a;go_wp2_with fail;go_end0;exact⟨rfl,_,(i.o.reframe _).own rfl,j.o⟩
def Iq.ok(f:Iq op a b w bm fb cap cs fs f' lv m Fi Fl F e w')(g:BG op a b=0) :
  e=.returned (U (Du op a b))/\Bn w bm fb cap cs fs f' lv {m with C:=m.C+DS op} Fi Fl F w':=by
 rcases f with ⟨_,c,d⟩|⟨c,_⟩
 .exact ⟨c,d⟩
 exact absurd g c
def Iq.no(f:Iq op a b w bm fb cap cs fs f' lv m Fi Fl F e w')(d:¬BG op a b=0) :
  GR (Ah (BG op a b)) w bm fb cap cs fs f' lv {m with C:=m.C+DS op} Fi Fl F e w':=by
 rcases f with ⟨c,_⟩|⟨_,c⟩
 .exact absurd c d
 exact c
def PD(F P:Option Addr)(E C r:Nat)(g:Int)(v:AN w bm fb cap cur cs fs f lv sv m Fi Fl Fs)(dV:fs.length<200)
  (B:Nat) (u:∀b∈bm::fb::(Fi++(Fl++Fs)),B<=b) (l:List BK) (dQ:l.length<=1000000) (q:AE B w 5 (CW B) (H P l r) l) (k:Nat) (t:f.fn=k) (y:BK) (G:l[k]?=X y) (p:Nat) (i:f.pc=p) (x:Cd) (dK:y.q9[p]?=X x) (dI:y.q9.length<=1000000)
  (dH:0<=m.I/\m.I<100000) (o:KM)
  (a:((BB x.op)/\(f.S.length<1000000)/\∃(j:List Int),∃(d h:Int),(f.S=j++[d]++[h])/\(-1099511627776<=d/\d<=1099511627776)/\(-1099511627776<=h/\h<=1099511627776)/\(-1<=m.C/\m.C<=4611686018427387904)/\(BG x.op d h=0)/\(in64 (Du x.op d h))/\o=.go {m with I:=m.I+1,C:=m.C+DS x.op,J:=fs++[{f with pc:=f.pc+1,S:=j++[Du x.op d h]}]})\/((BB x.op)/\(f.S.length<1000000)/\∃(j:List Int),∃(d h:Int),(f.S=j++[d]++[h])/\(-1099511627776<=d/\d<=1099511627776)/\(-1099511627776<=h/\h<=1099511627776)/\(-1<=m.C/\m.C<=4611686018427387904)/\(¬BG x.op d h=0)/\o=.stop (Ah (BG x.op d h)) {m with I:=m.I+1,C:=m.C+DS x.op,J:=fs++[{f with pc:=f.pc+1,S:=j}]})) :
  Calls prog 168 #[DH (H F E C) (H P l r) g bm] w (EM w bm (bm::fb::(Fi++(Fl++Fs))) o):=by
 have cL:=Lh a;clear a;let⟨a,cP⟩:=x;obtain⟨_,M,c,-,-,-,n⟩:=id q;rcases n with z|⟨b,o,rfl,-,-⟩
 .rw [z]at G;simp at G
 obtain⟨rfl,rfl⟩:P=X (D b o)/\r=M:=by simpa using c
 clear c;refine(Xb F b o E C r g (Lh v) dV B (Lh u) l dQ (Lh q) k (Lh t) y G p (Lh i) a cP dK dI dH _).2 (Lh ?_);intro z z z z z z z z s z z z z z z z z z z z T dG dJ z cM cN cO cR cK S eC cV cW eB z z;have dT:=Lh i;clear v u q t i;rcases cL.o with ⟨u,A,j,d,h,t,cT,cU,cS,n,c,rfl⟩|⟨u,A,j,d,h,t,cT,cU,cS,n,rfl⟩
 .have H_hst:=Lh t
  have H_hE:=Lh n;have H_hr:=Lh c;clear t n c;have cJ:=Lh u;clear u cL;have c:BB a:=cJ.o;unfold BB at c;have eR:¬a=1:=O;have DU:¬a=2:=O;have FV:¬a=3:=O;have ET:¬a=4:=O;have eQ:¬a=5:=O;have eP:¬a=6:=O;have eO:¬a=7:=O;have eN:¬a=8:=O;have eM:¬a=9:=O;have eL:¬a=10:=O;have eK:¬a=11:=O;have eJ:¬a=12:=O;have eI:¬a=13:=O;have eH:¬a=14:=O;have eG:¬a=26:=O;have eF:¬a=29:=O;have eE:¬a=30:=O;have eD:¬a=31:=O;clear c;have dL:j.length<1000000:=by have:=congrArg List.length H_hst.o;simp at this;omega
  have dC:Hid (AN T.drew bm fb cap (cur.setIfInBounds (fs.length*4+1) (U ((p:Int)+1))) cs fs {f with pc:=(p:Int)+1} lv sv {m with I:=m.I+1} Fi Fl Fs):=dG.o.kp (AG Br 1);have dF:Hid (AW (bm::fb::(Fi++(Fl++Fs))) (bm::fb::(Fi++(Fl++Fs))) w T.drew):=dJ.o.trans (AW.ob (AG Br 1));go_upto_region 8 with fail;have dE:=H_hr.o;go_region_held3 (λc=>c.cell? (D w 0)=X (H F E C)/\c.cell? (D w 1)=X (U g)/\c.cell? (D w 2)=X (H (X (D b o)) l r)/\c.cell? (D w 3)=X (.pointer (X (D bm 0)))/\c.cell? (D cK 1)=X (U cP)/\c.cell? (D cK 0)=X (U a))
   (first|exact⟨cM,cN,cO,cR,cV,cW⟩|exact⟨cX,cY,cZ,dA,dB,dD⟩|exact⟨W,Y,cG,cH,Q,R⟩)
   (first|(go_at_call 189;refine(LA a cJ.o F (X (D b o)) E C l.length r g dC.o O j d h H_hst.o cT cU cS).mono ?_;rintro e q V;obtain⟨rfl,cur5,sv5,Fs5,hT5,hM5⟩:=V.ok H_hE.o;have W:=hM5.cd cM s;have Y:=hM5.cd cN s;have cG:=hM5.cd cO s;have cH:=hM5.cd cR s;have Q:=hM5.cd cV S;have R:=hM5.cd cW S;have i:=hM5.notin (by exact eB) s;have v:=hM5.notin (by exact eC) S;have N:=Lh hT5;have cI:=Lh (dF.o.trans hM5);clear hT5 hM5)|(go_at_call 147;refine(Da F (X (D b o)) E C l.length r g N.o O (Du a d h) ?_ ?_).mono ?_;(exact dE);(exact dL);rintro e w7⟨rfl,cur7,sv7,Fs7,hT7,hM7⟩;have cX:=hM7.cell W i;have cY:=hM7.cell Y i;have cZ:=hM7.cell cG i;have dA:=hM7.cell cH i;have dB:=hM7.cell Q v;have dD:=hM7.cell R v;have J:=Lh hT7;have L:=Lh (cI.o.trans hM7);clear hT7 hM7))
  go_wp2_with fail;go_end0;rw[dT.o];exact⟨rfl,_,(J.o.reframe _).own rfl,L.o⟩
 have H_hst:=Lh t;have H_hE:=Lh n;clear t n;have n:=Lh u;clear u cL;have c:BB a:=n.o;unfold BB at c;have eA:¬a=1:=O;have DU:¬a=2:=O;have FV:¬a=3:=O;have ET:¬a=4:=O;have dZ:¬a=5:=O;have dY:¬a=6:=O;have dX:¬a=7:=O;have dW:¬a=8:=O;have dU:¬a=9:=O;have dS:¬a=10:=O;have dR:¬a=11:=O;have dP:¬a=12:=O;have dO:¬a=13:=O;have dN:¬a=14:=O;have dM:¬a=26:=O;have dL:¬a=29:=O;have dE:¬a=30:=O;have cL:¬a=31:=O;clear c;have:j.length<1000000:=by have:=congrArg List.length H_hst.o;simp at this;omega
 have t:Hid (AN T.drew bm fb cap (cur.setIfInBounds (fs.length*4+1) (U ((p:Int)+1))) cs fs {f with pc:=(p:Int)+1} lv sv {m with I:=m.I+1} Fi Fl Fs):=dG.o.kp (AG Br 1);have u:Hid (AW (bm::fb::(Fi++(Fl++Fs))) (bm::fb::(Fi++(Fl++Fs))) w T.drew):=dJ.o.trans (AW.ob (AG Br 1));go_upto_region 8 with fail;go_region_with (first|(go_at_call 189;refine(LA a n.o F (X (D b o)) E C l.length r g t.o O j d h H_hst.o cT cU cS).mono ?_;rintro e q V;obtain⟨rfl,hF⟩|⟨rfl,cur5,sv5,Fs5,hT5,hM5⟩:(e=.returned (U 0)/\Hid False)\/GR (Ah (BG a d h)) _ bm fb cap cs fs _ lv _ Fi Fl _ e q:=.inr (V.no H_hE.o);rotate_left;(refine⟨rfl,?_⟩;rw[dT.o];exact⟨rfl,_,(hT5.reframe _).own rfl,u.o.trans hM5⟩);have W:q.cell? (D w 0)=X (H F E C):=hF.o.elim;have Y:q.cell? (D w 1)=X (U g):=hF.o.elim;have cG:q.cell? (D w 2)=X (H (X (D b o)) l r):=hF.o.elim;have cH:q.cell? (D w 3)=X (.pointer (X (D bm 0))):=hF.o.elim)|(go_at_call 147;refine(show Calls prog 147 _ _ (λe _=>e=.returned (.tuple #[]))from hF.o.elim).mono ?_;rintro e w6 rfl));all_goals exact hF.o.elim
