import Derived.Test.YtigbfkiddlhhjaaGreatDoorSgp
set_option maxHeartbeats 8000000
set_option maxRecDepth 100000
set_option linter.all false
open Option renaming some→ς
open Go.Value renaming slice→σ
open Go.Obj renaming cells→χ
namespace Go.Proofs.YtigbfkiddlhhjaaGreatDoor
open Go.RowKit Proofs.Tryz
variable {op a b:Int} {w w':World} {bm fb cap:Nat} {cs:List Value} {fs:List AY} {f' f:AY} {lv sv:Value} {m:AV} {Fi Fl F Fs:List Nat} {e:Ending} {cur:Array Value}
def Iq.ok (h:Iq op a b w bm fb cap cs fs f' lv m Fi Fl F e w') (d:BG op a b=0) :
  e=.returned (ι (Du op a b))/\Bn w bm fb cap cs fs f' lv { m with C:=m.C+DS op } Fi Fl F w':=by
 rcases h with ⟨_,c,f⟩|⟨c,_⟩
 .exact ⟨c,f⟩
 .exact absurd d c
def Iq.no (h:Iq op a b w bm fb cap cs fs f' lv m Fi Fl F e w') (d:¬BG op a b=0) :
  GR (Ah (BG op a b)) w bm fb cap cs fs f' lv { m with C:=m.C+DS op } Fi Fl F e w':=by
 rcases h with ⟨c,_⟩|⟨_,c⟩
 .exact absurd c d
 .exact c
def PD (i N:Option Addr) (n j d:Nat) (g:Int) (h:AN w bm fb cap cur cs fs f lv sv m Fi Fl Fs) (hn:fs.length<200)
  (B:Nat) (hB:∀ b∈bm::fb::(Fi++(Fl++Fs)),B<=b) (a:List BK) (Q:a.length<=1000000) (r:AE B w 5 (CW B) (σ N a d) a) (k:Nat) (hk:f.fn=k) (y:BK) (V:a[k]?=ς y) (p:Nat) (S:f.pc=p) (x:Cd) (hx:y.code[p]?=ς x) (P:y.code.length<=1000000)
  (R:0<=m.I/\m.I<100000) (o:KM)
  (E:((BB x.op)/\(f.S.length<1000000)/\∃ (l:List Int),∃ (u v:Int),(f.S=l++[u]++[v])/\(-1099511627776<=u/\u<=1099511627776)/\(-1099511627776<=v/\v<=1099511627776)/\(-1<=m.C/\m.C<=4611686018427387904)/\(BG x.op u v=0)/\(in64 (Du x.op u v))/\o=.go { m with I:=m.I+1,C:=m.C+DS x.op,J:=fs++[{ f with pc:=f.pc+1,S:=l++[Du x.op u v] }] })\/((BB x.op)/\(f.S.length<1000000)/\∃ (l:List Int),∃ (u v:Int),(f.S=l++[u]++[v])/\(-1099511627776<=u/\u<=1099511627776)/\(-1099511627776<=v/\v<=1099511627776)/\(-1<=m.C/\m.C<=4611686018427387904)/\(¬BG x.op u v=0)/\o=.stop (Ah (BG x.op u v)) { m with I:=m.I+1,C:=m.C+DS x.op,J:=fs++[{ f with pc:=f.pc+1,S:=l }] })) :
  Calls prog 168 #[DH (σ i n j) (σ N a d) g bm] w (EM w bm (bm::fb::(Fi++(Fl++Fs))) o):=by
 have J:=Lh E;clear E;obtain ⟨c,xa⟩:=x;obtain ⟨a0,aL,bA,-,-,-,q⟩:=id r;rcases q with h0|⟨b,o,rfl,-,-⟩
 .rw [h0] at V;simp at V
 obtain ⟨rfl,rfl⟩:N=ς (π b o)/\d=aL:=by simpa using bA
 clear bA;refine (Xb i b o n j d g (Lh h) hn B (Lh hB) a Q (Lh r) k (Lh hk) y V p (Lh S) c xa hx P R _).2 (Lh ?_);intro cC bS cF yb yo bI bB cD t bW bV bX bU cE bY bZ cA cB K hK F H4 aZ bK k0 k1 k2 k3 ib M bH d1 d0 aP bJ bT;have HP:=Lh S;clear h hB r hk S;rcases J.o with ⟨C,bL,l,u,v,D,T,U,O,q,hr,rfl⟩|⟨C,bL,l,u,v,D,T,U,O,q,rfl⟩
 .have H_hst:=Lh D
  have H_hE:=Lh q;have H_hr:=Lh hr;clear D q hr;have A:=Lh C;clear C J;have z:BB c:=A.o;unfold BB at z;have bM:¬c=1:=ω;have DU:¬c=2:=ω;have FV:¬c=3:=ω;have ET:¬c=4:=ω;have bN:¬c=5:=ω;have bO:¬c=6:=ω;have bP:¬c=7:=ω;have bQ:¬c=8:=ω;have bR:¬c=9:=ω;have aQ:¬c=10:=ω;have aR:¬c=11:=ω;have aS:¬c=12:=ω;have aT:¬c=13:=ω;have aU:¬c=14:=ω;have aV:¬c=26:=ω;have aW:¬c=29:=ω;have aX:¬c=30:=ω;have aY:¬c=31:=ω;clear z;have bC:l.length<1000000:=by have:=congrArg List.length H_hst.o;simp at this;omega
  have I:Hid (AN F.drew bm fb cap (cur.setIfInBounds (fs.length*4+1) (ι ((p:Int)+1))) cs fs { f with pc:=(p:Int)+1 } lv sv { m with I:=m.I+1 } Fi Fl Fs):=H4.o.kp (AG Br 1);have H:Hid (AW (bm::fb::(Fi++(Fl++Fs))) (bm::fb::(Fi++(Fl++Fs))) w F.drew):=aZ.o.trans (AW.ob (AG Br 1));go_upto_region 8 with fail;have aO:=H_hr.o;go_region_held3 (λW=>W.cell? (π w 0)=ς (σ i n j)/\W.cell? (π w 1)=ς (ι g)/\W.cell? (π w 2)=ς (σ (ς (π b o)) a d)/\W.cell? (π w 3)=ς (.pointer (ς (π bm 0)))/\W.cell? (π ib 1)=ς (ι xa)/\W.cell? (π ib 0)=ς (ι c))
   (first|exact ⟨k0,k1,k2,k3,d1,d0⟩|exact ⟨p0,p1,p2,p3,p4,p5⟩|exact ⟨X,Y,Z,j3,j4,j5⟩)
   (first|(go_at_call 189;refine (LA c A.o i (ς (π b o)) n j a.length d g I.o ω l u v H_hst.o T U O).mono ?_;rintro e s L;obtain ⟨rfl,cur5,sv5,Fs5,hT5,hM5⟩:=L.ok H_hE.o;have X:=hM5.cd k0 t;have Y:=hM5.cd k1 t;have Z:=hM5.cd k2 t;have j3:=hM5.cd k3 t;have j4:=hM5.cd d1 M;have j5:=hM5.cd d0 M;have G:=hM5.notin (by exact aP) t;have aG:=hM5.notin (by exact bH) M;have bF:=Lh hT5;have bD:=Lh (H.o.trans hM5);clear hT5 hM5)|(go_at_call 147;refine (Da i (ς (π b o)) n j a.length d g bF.o ω (Du c u v) ?_ ?_).mono ?_;(exact aO);(exact bC);rintro e w7 ⟨rfl,cur7,sv7,Fs7,hT7,hM7⟩;have p0:=hM7.cell X G;have p1:=hM7.cell Y G;have p2:=hM7.cell Z G;have p3:=hM7.cell j3 G;have p4:=hM7.cell j4 aG;have p5:=hM7.cell j5 aG;have bG:=Lh hT7;have bE:=Lh (bD.o.trans hM7);clear hT7 hM7))
  go_wp2_with fail
  go_end0
  rw [HP.o];exact ⟨rfl,_,(bG.o.reframe _).own rfl,bE.o⟩
 .have H_hst:=Lh D
  have H_hE:=Lh q;clear D q;have A:=Lh C;clear C J;have z:BB c:=A.o;unfold BB at z;have bM:¬c=1:=ω;have DU:¬c=2:=ω;have FV:¬c=3:=ω;have ET:¬c=4:=ω;have bN:¬c=5:=ω;have bO:¬c=6:=ω;have bP:¬c=7:=ω;have bQ:¬c=8:=ω;have bR:¬c=9:=ω;have aQ:¬c=10:=ω;have aR:¬c=11:=ω;have aS:¬c=12:=ω;have aT:¬c=13:=ω;have aU:¬c=14:=ω;have aV:¬c=26:=ω;have aW:¬c=29:=ω;have aX:¬c=30:=ω;have aY:¬c=31:=ω;clear z;have bC:l.length<1000000:=by have:=congrArg List.length H_hst.o;simp at this;omega
  have I:Hid (AN F.drew bm fb cap (cur.setIfInBounds (fs.length*4+1) (ι ((p:Int)+1))) cs fs { f with pc:=(p:Int)+1 } lv sv { m with I:=m.I+1 } Fi Fl Fs):=H4.o.kp (AG Br 1);have H:Hid (AW (bm::fb::(Fi++(Fl++Fs))) (bm::fb::(Fi++(Fl++Fs))) w F.drew):=aZ.o.trans (AW.ob (AG Br 1));go_upto_region 8 with fail
  go_region_with (first|(go_at_call 189;refine (LA c A.o i (ς (π b o)) n j a.length d g I.o ω l u v H_hst.o T U O).mono ?_;rintro e s L;obtain ⟨rfl,hF⟩|⟨rfl,cur5,sv5,Fs5,hT5,hM5⟩:(e=.returned (ι 0)/\Hid False)\/GR (Ah (BG c u v)) _ bm fb cap cs fs _ lv _ Fi Fl _ e s:=.inr (L.no H_hE.o);rotate_left;(refine ⟨rfl,?_⟩;rw [HP.o];exact ⟨rfl,_,(hT5.reframe _).own rfl,H.o.trans hM5⟩);have X:s.cell? (π w 0)=ς (σ i n j):=hF.o.elim;have Y:s.cell? (π w 1)=ς (ι g):=hF.o.elim;have Z:s.cell? (π w 2)=ς (σ (ς (π b o)) a d):=hF.o.elim;have j3:s.cell? (π w 3)=ς (.pointer (ς (π bm 0))):=hF.o.elim)|(go_at_call 147;refine (show Calls prog 147 _ _ (λe _=>e=.returned (.tuple #[])) from hF.o.elim).mono ?_;rintro e w6 rfl))
  all_goals exact hF.o.elim
def PE (q L:Option Addr) (s r d:Nat) (g:Int) (h:AN w bm fb cap cur cs fs f lv sv m Fi Fl Fs) (hn:fs.length<200)
  (B:Nat) (V:∀ b∈bm::fb::(Fi++(Fl++Fs)),B<=b) (a:List BK) (N:a.length<=1000000) (j:AE B w 5 (CW B) (σ L a d) a) (k:Nat) (W:f.fn=k) (y:BK) (Q:a[k]?=ς y) (p:Nat) (P:f.pc=p) (x:Cd) (hx:y.code[p]?=ς x) (M:y.code.length<=1000000)
  (O:0<=m.I/\m.I<100000) (o:KM)
  (v:((x.op=6)/\∃ (l:List Int),∃ (u:Int),(f.S=l++[u])/\(u<1)/\o=.stop (Ah 17) { m with I:=m.I+1,J:=fs++[{ f with pc:=f.pc+1,S:=l }] })\/((x.op=6)/\∃ (l:List Int),∃ (u:Int),(f.S=l++[u])/\(1<=u)/\o=.stop ⟨1,u,x.a,0,0⟩ { m with I:=m.I+1,J:=fs++[{ f with pc:=f.pc+1,S:=l }] })) :
  Calls prog 168 #[DH (σ q s r) (σ L a d) g bm] w (EM w bm (bm::fb::(Fi++(Fl++Fs))) o):=by
 have G:=Lh v;clear v;obtain ⟨J,D⟩:=x;obtain ⟨a0,X,U,-,-,-,hE⟩:=id j;rcases hE with h0|⟨b,o,rfl,-,-⟩
 .rw [h0] at Q;simp at Q
 obtain ⟨rfl,rfl⟩:L=ς (π b o)/\d=X:=by simpa using U
 clear U;refine (Xb q b o s r d g (Lh h) hn B (Lh V) a N (Lh j) k (Lh W) y Q p (Lh P) J D hx M O _).2 (Lh ?_);intro bM bB bP yb yo aW aQ bN A bF bE bH bD bO bI bJ bK bL K hK z R T aY k0 k1 k2 k3 ib aV bG d1 d0 aZ aX bC;have S:=Lh P;clear h V j W P;rcases G.o with ⟨t,l,u,i,I,rfl⟩|⟨t,l,u,i,I,rfl⟩
 .have aI:=Lh t
  clear t G;obtain rfl:J=6:=aI.o;have H:=Lh i;clear i;have F:Hid (AN z.drew bm fb cap (cur.setIfInBounds (fs.length*4+1) (ι ((p:Int)+1))) cs fs { f with pc:=(p:Int)+1 } lv sv { m with I:=m.I+1 } Fi Fl Fs):=R.o.kp (AG Br 1);have E:Hid (AW (bm::fb::(Fi++(Fl++Fs))) (bm::fb::(Fi++(Fl++Fs))) w z.drew):=T.o.trans (AW.ob (AG Br 1));go_upto_region 20 with fail
  go_region_with (first|(go_at_call 183;refine (JI q (ς (π b o)) s r a.length d g F.o ω l u H.o I).mono ?_;rintro e n aU;obtain ⟨rfl,hF⟩|⟨rfl,Y,bA,Z,C,c⟩:(e=.returned (ι 0)/\Hid False)\/GR (Ah 17) _ bm fb cap cs fs _ lv _ Fi Fl _ e n:=.inr aU;rotate_left;(refine ⟨rfl,?_⟩;rw [S.o];exact ⟨rfl,_,(C.reframe _).own rfl,E.o.trans c⟩);have j0:n.cell? (π w 0)=ς (σ q s r):=hF.o.elim;have j1:n.cell? (π w 1)=ς (ι g):=hF.o.elim;have j2:n.cell? (π w 2)=ς (σ (ς (π b o)) a d):=hF.o.elim;have j3:n.cell? (π w 3)=ς (.pointer (ς (π bm 0))):=hF.o.elim;have j4:n.cell? (π ib 1)=ς (ι D):=hF.o.elim)|(go_at_call 182;refine (show Calls prog 182 _ _ (λe _=>e=.returned (.tuple #[])) from hF.o.elim).mono ?_;rintro e w7 rfl))
  all_goals exact hF.o.elim
 .have aI:=Lh t
  clear t G;obtain rfl:J=6:=aI.o;have H:=Lh i;clear i;have F:Hid (AN z.drew bm fb cap (cur.setIfInBounds (fs.length*4+1) (ι ((p:Int)+1))) cs fs { f with pc:=(p:Int)+1 } lv sv { m with I:=m.I+1 } Fi Fl Fs):=R.o.kp (AG Br 1);have E:Hid (AW (bm::fb::(Fi++(Fl++Fs))) (bm::fb::(Fi++(Fl++Fs))) w z.drew):=T.o.trans (AW.ob (AG Br 1));go_upto_region 20 with fail
  go_region_with (first|(go_at_call 183;refine (IG q (ς (π b o)) s r a.length d g F.o ω l u H.o I).mono ?_;rintro e n ⟨rfl,Y,bA,Z,C,c⟩;have j0:=c.cd k0 A;have j1:=c.cd k1 A;have j2:=c.cd k2 A;have j3:=c.cd k3 A;have j4:=c.cd d1 aV;have aT:=Lh C;have aS:=Lh (E.o.trans c);clear C c)|(go_at_call 182;refine (GU q (ς (π b o)) s r a.length d g bm 1 u D 0 0 _).mono ?_;rintro e w9 i;obtain ⟨rfl,hF⟩|⟨rfl,hb9⟩:(e=.returned (.tuple #[])/\Hid False)\/Ky ⟨1,u,D,0,0⟩ _ e w9:=.inr i;rotate_left;(refine ⟨rfl,?_⟩;rw [S.o];exact ⟨rfl,_,((aT.o.kp hb9).reframe _).own rfl,aS.o.trans (AW.ob hb9)⟩)))
  all_goals exact hF.o.elim
def PF (q ga:Option Addr) (s r i:Nat) (g:Int) (h:AN w bm fb cap cur cs fs f lv sv m Fi Fl Fs) (hn:fs.length<200)
  (B:Nat) (hB:∀ b∈bm::fb::(Fi++(Fl++Fs)),B<=b) (a:List BK) (cC:a.length<=1000000) (A:AE B w 5 (CW B) (σ ga a i) a) (k:Nat) (hk:f.fn=k) (y:BK) (hy:a[k]?=ς y) (p:Nat) (hp:f.pc=p) (x:Cd) (hx:y.code[p]?=ς x) (cB:y.code.length<=1000000)
  (cD:0<=m.I/\m.I<100000) (o:KM)
  (I:((x.op=7)/\∃ (l:List Int),∃ (u v:Int),(f.S=l++[u]++[v])/\(u<1)/\o=.stop (Ah 17) { m with I:=m.I+1,J:=fs++[{ f with pc:=f.pc+1,S:=l }] })\/((x.op=7)/\∃ (l:List Int),∃ (u v:Int),(f.S=l++[u]++[v])/\(1<=u)/\o=.stop ⟨2,u,x.a,v,0⟩ { m with I:=m.I+1,J:=fs++[{ f with pc:=f.pc+1,S:=l }] })) :
  Calls prog 168 #[DH (σ q s r) (σ ga a i) g bm] w (EM w bm (bm::fb::(Fi++(Fl++Fs))) o):=by
 have T:=Lh I;clear I;obtain ⟨Z,P⟩:=x;obtain ⟨a0,aU,bD,-,-,-,hE⟩:=id A;rcases hE with h0|⟨b,o,rfl,-,-⟩
 .rw [h0] at hy;simp at hy
 obtain ⟨rfl,rfl⟩:ga=ς (π b o)/\i=aU:=by simpa using bD
 clear bD;refine (Xb q b o s r i g (Lh h) hn B (Lh hB) a cC (Lh A) k (Lh hk) y hy p (Lh hp) Z P hx cB cD _).2 (Lh ?_);intro bX bN cA yb yo bJ bE bY d bR bQ bS bP bZ bT bU bV bW K hK W4 H4 bB bL C J L M ib O bC z d0 aL bK bO;have HP:=Lh hp;clear h hB A hk hp;rcases T.o with ⟨H,l,u,v,t,X,rfl⟩|⟨H,l,u,v,t,X,rfl⟩
 .have aR:=Lh H
  clear H T;obtain rfl:Z=7:=aR.o;have V:=Lh t;clear t;go_wp2_with fail;refine (Cm q (ς (π b o)) s r a.length i g H4.o ω (l++[u]) v V.o).mono ?_;rintro e n ⟨rfl,R,Y,F,G,c⟩;have C:=c.cell C d;have J:=c.cell J d;have L:=c.cell L d;have M:=c.cell M d;have z:=c.cell z O;have E:=c.notin aL d;have aJ:=c.notin bC O;have aX:(w:Nat)<n:=Bl C;have aW:ib<n:=Bl z;have W:=Lh G;have U:=Lh (bB.o.trans c);clear G c;have S:Hid (AN n.drew bm fb cap R cs fs _ lv Y _ Fi Fl F):=W.o.kp (AG Br 1);have Q:Hid (AW (bm::fb::(Fi++(Fl++Fs))) (bm::fb::(Fi++(Fl++F))) w n.drew):=U.o.trans (AW.ob (AG Br 1));go_upto_region 23 with fail
  go_region_with (first|(go_at_call 183;refine (JI q (ς (π b o)) s r a.length i g S.o ω l u rfl X).mono ?_;rintro e D bI;obtain ⟨rfl,hF⟩|⟨rfl,aV,bM,bF,N,j⟩:(e=.returned (ι 0)/\Hid False)\/GR (Ah 17) _ bm fb cap cs fs _ lv _ Fi Fl _ e D:=.inr bI;rotate_left;(refine ⟨rfl,?_⟩;rw [HP.o];exact ⟨rfl,_,(N.reframe _).own rfl,Q.o.trans j⟩);have j0:D.cell? (π w 0)=ς (σ q s r):=hF.o.elim;have j1:D.cell? (π w 1)=ς (ι g):=hF.o.elim;have j2:D.cell? (π w 2)=ς (σ (ς (π b o)) a i):=hF.o.elim;have j3:D.cell? (π w 3)=ς (.pointer (ς (π bm 0))):=hF.o.elim;have j4:D.cell? (π ib 1)=ς (ι P):=hF.o.elim)|(go_at_call 182;refine (show Calls prog 182 _ _ (λe _=>e=.returned (.tuple #[])) from hF.o.elim).mono ?_;rintro e w7 rfl))
  all_goals exact hF.o.elim
 .have aR:=Lh H
  clear H T;obtain rfl:Z=7:=aR.o;have V:=Lh t;clear t;go_wp2_with fail;refine (Cm q (ς (π b o)) s r a.length i g H4.o ω (l++[u]) v V.o).mono ?_;rintro e n ⟨rfl,R,Y,F,G,c⟩;have C:=c.cell C d;have J:=c.cell J d;have L:=c.cell L d;have M:=c.cell M d;have z:=c.cell z O;have E:=c.notin aL d;have aJ:=c.notin bC O;have aX:(w:Nat)<n:=Bl C;have aW:ib<n:=Bl z;have W:=Lh G;have U:=Lh (bB.o.trans c);clear G c;have S:Hid (AN n.drew bm fb cap R cs fs _ lv Y _ Fi Fl F):=W.o.kp (AG Br 1);have Q:Hid (AW (bm::fb::(Fi++(Fl++Fs))) (bm::fb::(Fi++(Fl++F))) w n.drew):=U.o.trans (AW.ob (AG Br 1));go_upto_region 23 with fail
  go_region_with (first|(go_at_call 183;refine (IG q (ς (π b o)) s r a.length i g S.o ω l u rfl X).mono ?_;rintro e D ⟨rfl,aV,bM,bF,N,j⟩;have j0:=j.cd C E;have j1:=j.cd J E;have j2:=j.cd L E;have j3:=j.cd M E;have j4:=j.cd z aJ;have bH:=Lh N;have bG:=Lh (Q.o.trans j);clear N j)|(go_at_call 182;refine (GU q (ς (π b o)) s r a.length i g bm 2 u P v 0 _).mono ?_;rintro e w9 t;obtain ⟨rfl,hF⟩|⟨rfl,hb9⟩:(e=.returned (.tuple #[])/\Hid False)\/Ky ⟨2,u,P,v,0⟩ _ e w9:=.inr t;rotate_left;(refine ⟨rfl,?_⟩;rw [HP.o];exact ⟨rfl,_,((bH.o.kp hb9).reframe _).own rfl,bG.o.trans (AW.ob hb9)⟩)))
  all_goals exact hF.o.elim
