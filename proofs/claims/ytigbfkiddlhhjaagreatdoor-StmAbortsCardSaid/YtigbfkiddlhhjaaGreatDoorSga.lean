import Derived.Test.YtigbfkiddlhhjaaGreatDoorSgp
set_option maxHeartbeats 8000000
set_option maxRecDepth 100000
set_option linter.all false
open Option renaming some→ς
open Go.Value renaming slice→σ
open Go.Obj renaming cells→χ
namespace Go.Proofs.YtigbfkiddlhhjaaGreatDoor
open Go.RowKit Proofs.Tryz
variable {w:World} {bm fb cap:Nat} {cur:Array Value} {cs:List Value} {fs:List AY} {f:AY} {lv sv:Value} {m:AV} {Fi Fl Fs:List Nat}
def Qi (b i:Option Addr) (d c k j:Nat) (g:Int) (h:AN w bm fb cap cur cs fs f lv sv m Fi Fl Fs) (o:m.J=fs++[f])
  (s:100000<=m.I/\m.I<=100000) :
  Calls prog 168 #[DH (σ b d c) (σ i k j) g bm] w (EM w bm (bm::fb::(Fi++(Fl++Fs))) (.stop (Ah 6) m)):=by
 have a:=AA w (χ #[σ b d c,ι g,σ i k j,.pointer (ς (π bm 0))] 199);have l:=h.kp a;have t:=l.cIdle;have p:=Lh l;have q:=Lh o;have r:=Lh a;clear l h o a;unfold DH;go_enter func168,ntmps168;go_wp2_with fail;refine (Ek b i d c k j g bm 6 _).mono ?_;rintro e u ⟨rfl,n⟩;refine ⟨rfl,?_⟩;exact ⟨rfl,_,(p.o.kp n).own q.o,AW.ob (r.o.th n)⟩
def Es (s X:Option Addr) (u t q:Nat) (g:Int) (h:AN w bm fb cap cur cs fs f lv sv m Fi Fl Fs) (hn:fs.length<200)
  (B:Nat) (hB:∀ b∈bm::fb::(Fi++(Fl++Fs)),B<=b) (a:List BK) (Z:a.length<=1000000) (J:AE B w 5 (CW B) (σ X a q) a) (k:Nat) (hk:f.fn=k) (y:BK) (hy:a[k]?=ς y) (p:Nat) (hp:f.pc=p) (x:Cd) (hx:y.code[p]?=ς x) (Y:y.code.length<=1000000)
  (cA:0<=m.I/\m.I<100000) (o:KM)
  (P:((x.op=1)/\(f.S.length<1000000)/\o=.go { m with I:=m.I+1,J:=fs++[{ f with pc:=f.pc+1,S:=f.S++[x.a] }] })\/((x.op=4)/\o=.stop ⟨1,0,x.a,0,0⟩ { m with I:=m.I+1,J:=fs++[{ f with pc:=f.pc+1 }] })\/((x.op=8)/\o=.stop ⟨3,0,x.a,0,0⟩ { m with I:=m.I+1,J:=fs++[{ f with pc:=f.pc+1 }] })\/((x.op=11)/\o=.go { m with I:=m.I+1,J:=fs++[{ f with pc:=x.a }] })\/((x.op=5)/\∃ (l:List Int),∃ (v:Int),(f.S=l++[v])/\o=.stop ⟨2,0,x.a,v,0⟩ { m with I:=m.I+1,J:=fs++[{ f with pc:=f.pc+1,S:=l }] })\/((x.op=30)/\∃ (l:List Int),∃ (v:Int),(f.S=l++[v])/\o=.go { m with I:=m.I+1,J:=fs++[{ f with pc:=f.pc+1,S:=l }] })\/((x.op=12)/\∃ (l:List Int),∃ (v:Int),(f.S=l++[v])/\(v≠0)/\o=.go { m with I:=m.I+1,J:=fs++[{ f with pc:=f.pc+1,S:=l }] })\/((x.op=12)/\∃ (l:List Int),(f.S=l++[0])/\o=.go { m with I:=m.I+1,J:=fs++[{ f with pc:=x.a,S:=l }] })) :
  Calls prog 168 #[DH (σ s u t) (σ X a q) g bm] w (EM w bm (bm::fb::(Fi++(Fl++Fs))) o):=by
 have A:=Lh P;clear P;obtain ⟨E,G⟩:=x;obtain ⟨a0,aV,bB,-,-,-,hE⟩:=id J;rcases hE with h0|⟨b,o,rfl,-,-⟩
 .rw [h0] at hy;simp at hy
 obtain ⟨rfl,rfl⟩:X=ς (π b o)/\q=aV:=by simpa using bB
 clear bB;refine (Xb s b o u t q g (Lh h) hn B (Lh hB) a Z (Lh J) k (Lh hk) y hy p (Lh hp) E G hx Y cA _).2 (Lh ?_);intro bV bL bY yb yo bG W bW i bP bO bQ bN bX bR bS bT bU K hK W4 r F bI L Q R S ib O bA I d0 aR bH bM;have M:=Lh hp;clear h hB J hk hp;rcases A.o with ⟨d,bJ,rfl⟩|⟨d,rfl⟩|⟨d,rfl⟩|⟨d,rfl⟩|⟨d,l,v,n,rfl⟩|⟨d,l,v,n,rfl⟩|⟨d,l,v,n,bK,rfl⟩|⟨d,l,n,rfl⟩
 .have aD:=Lh d
  clear d A;obtain rfl:E=1:=aD.o;go_wp2_with fail;refine (Da s (ς (π b o)) u t a.length q g r.o ω G W bJ).mono ?_;rintro e z ⟨rfl,T,V,U,j,c⟩;go_wp2_with fail
  go_end0
  rw [M.o];exact ⟨rfl,_,(j.reframe _).own rfl,F.o.trans c⟩
 .have aD:=Lh d
  clear d A;obtain rfl:E=4:=aD.o;go_wp2_with fail;refine (GU s (ς (π b o)) u t a.length q g bm 1 0 G 0 0 _).mono ?_;rintro e z ⟨rfl,N⟩;refine ⟨rfl,?_⟩;rw [M.o];exact ⟨rfl,_,((r.o.kp N).reframe _).own rfl,F.o.trans (AW.ob N)⟩
 .have aD:=Lh d
  clear d A;obtain rfl:E=8:=aD.o;go_wp2_with fail;refine (GU s (ς (π b o)) u t a.length q g bm 3 0 G 0 0 _).mono ?_;rintro e z ⟨rfl,N⟩;refine ⟨rfl,?_⟩;rw [M.o];exact ⟨rfl,_,((r.o.kp N).reframe _).own rfl,F.o.trans (AW.ob N)⟩
 .have aD:=Lh d
  clear d A;obtain rfl:E=11:=aD.o;have bE:=r.o.cPc;have bF:=r.o.frf (fs.length*4+1);obtain ⟨h5,c⟩:=Jl r.o G W;have H5:=Lh h5;have C:=Lh (F.o.trans c);clear h5 c;go_wp2_with fail
  go_end0
  exact ⟨rfl,_,(H5.o.reframe _).own rfl,C.o⟩
 .have aD:=Lh d
  clear d A;obtain rfl:E=5:=aD.o;have H:=Lh n;clear n;have bC:Hid (AN W4.drew bm fb cap (cur.setIfInBounds (fs.length*4+1) (ι ((p:Int)+1))) cs fs { f with pc:=(p:Int)+1 } lv sv { m with I:=m.I+1 } Fi Fl Fs):=r.o.kp (AG Br 1);have aU:Hid (AW (bm::fb::(Fi++(Fl++Fs))) (bm::fb::(Fi++(Fl++Fs))) w W4.drew):=F.o.trans (AW.ob (AG Br 1));go_upto_region 18 with fail
  go_region_with (first|(go_at_call 181;refine (Cm s (ς (π b o)) u t a.length q g bC.o ω l v H.o).mono ?_;rintro e z ⟨rfl,T,V,U,j,c⟩;have j0:=c.cd L i;have j1:=c.cd Q i;have j2:=c.cd R i;have j3:=c.cd S i;have j4:=c.cd I O;have D:=Lh j;have C:=Lh (aU.o.trans c);clear j c)|(go_at_call 182;refine (GU s (ς (π b o)) u t a.length q g bm 2 0 G v 0 _).mono ?_;rintro e w9 n;obtain ⟨rfl,hF⟩|⟨rfl,hb9⟩:(e=.returned (.tuple #[])/\Hid False)\/Ky ⟨2,0,G,v,0⟩ _ e w9:=.inr n;rotate_left;(refine ⟨rfl,?_⟩;rw [M.o];exact ⟨rfl,_,((D.o.kp hb9).reframe _).own rfl,C.o.trans (AW.ob hb9)⟩)))
  all_goals exact hF.o.elim
 .have aD:=Lh d
  clear d A;obtain rfl:E=30:=aD.o;have H:=Lh n;clear n;go_wp2_with fail;refine (Cm s (ς (π b o)) u t a.length q g r.o ω l v H.o).mono ?_;rintro e z ⟨rfl,T,V,U,j,c⟩;have D:=Lh j;have C:=Lh (F.o.trans c);clear j c;go_wp2_with fail
  go_end0
  rw [M.o];exact ⟨rfl,_,(D.o.reframe _).own rfl,C.o⟩
 .have aD:=Lh d
  clear d A;obtain rfl:E=12:=aD.o;have H:=Lh n;clear n;go_wp2_with fail;refine (Cm s (ς (π b o)) u t a.length q g r.o ω l v H.o).mono ?_;rintro e z ⟨rfl,T,V,U,j,c⟩;have L:=c.cell L i;have Q:=c.cell Q i;have R:=c.cell R i;have S:=c.cell S i;have I:=c.cell I O;have aQ:=c.notin aR i;have aW:=c.notin bA O;have aY:(w:Nat)<z:=Bl L;have aX:ib<z:=Bl I;have D:=Lh j;have C:=Lh (F.o.trans c);clear j c;have bZ:¬v=0:=bK;go_wp2_with fail
  go_end0
  rw [M.o];exact ⟨rfl,_,(D.o.reframe _).own rfl,C.o⟩
 .have aD:=Lh d
  clear d A;obtain rfl:E=12:=aD.o;have H:=Lh n;clear n;go_wp2_with fail;refine (Cm s (ς (π b o)) u t a.length q g r.o ω l 0 H.o).mono ?_;rintro e z ⟨rfl,T,V,U,j,c⟩;have L:=c.cell L i;have Q:=c.cell Q i;have R:=c.cell R i;have S:=c.cell S i;have I:=c.cell I O;have aQ:=c.notin aR i;have aW:=c.notin bA O;have aY:(w:Nat)<z:=Bl L;have aX:ib<z:=Bl I;have D:=Lh j;have C:=Lh (F.o.trans c);clear j c;have bE:=D.o.cPc;have bF:=D.o.frf (fs.length*4+1);obtain ⟨h6,aZ⟩:=Jl D.o G W;have H6:=Lh h6;have bD:=Lh (C.o.trans aZ);clear h6 aZ;go_wp2_with fail
  go_end0
  exact ⟨rfl,_,(H6.o.reframe _).own rfl,bD.o⟩
def Et (D ga:Option Addr) (F E A:Nat) (g:Int) (h:AN w bm fb cap cur cs fs f lv sv m Fi Fl Fs) (hn:fs.length<200)
  (B:Nat) (hB:∀ b∈bm::fb::(Fi++(Fl++Fs)),B<=b) (a:List BK) (dI:a.length<=1000000) (O:AE B w 5 (CW B) (σ ga a A) a) (k:Nat) (hk:f.fn=k) (y:BK) (hy:a[k]?=ς y) (p:Nat) (hp:f.pc=p) (x:Cd) (hx:y.code[p]?=ς x) (dL:y.code.length<=1000000)
  (dM:0<=m.I/\m.I<100000) (o:KM)
  (dJ:((x.op=31)/\(f.S.length<999999)/\∃ (l:List Int),∃ (v:Int),(f.S=l++[v])/\(in64 v)/\o=.go { m with I:=m.I+1,J:=fs++[{ f with pc:=f.pc+1,S:=l++[v]++[v] }] })\/((x.op=13)/\(m.Y=0)/\o=.stop (Ah 20) { m with I:=m.I+1,J:=fs++[{ f with pc:=f.pc+1 }] })\/((x.op=13)/\(¬m.Y=0)/\(0<=m.Y/\m.Y<=9223372036854775807)/\o=.go { m with Y:=m.Y - 1,I:=0,J:=fs++[{ f with pc:=f.pc+1 }] })\/((x.op=9)/\∃ (c:Nat),(x.a=c)/\∃ (z:BK),(a[c]?=ς z)/\∃ (l d:List Int),(f.S=l++d)/\(z.params=d.length)/\∃ (q:Nat),(z.L=d.length+q)/\(d.length+q<=100)/\(∀ n∈f.S,in64 n)/\(fs.length+1<200)/\o=.go { m with I:=m.I+1,J:=fs++[{ f with pc:=f.pc+1,S:=l }]++[⟨c,0,d++List.replicate q 0,[]⟩] })\/((x.op=9)/\∃ (c:Nat),(x.a=c)/\∃ (z:BK),(a[c]?=ς z)/\∃ (l d:List Int),(f.S=l++d)/\(z.params=d.length)/\∃ (q:Nat),(z.L=d.length+q)/\(d.length+q<=100)/\(∀ n∈f.S,in64 n)/\(¬fs.length+1<200)/\o=.stop (Ah 19) { m with I:=m.I+1,J:=fs++[{ f with pc:=f.pc+1,S:=l }] })\/((x.op=10)/\∃ (v:Int),(f.S=if y.result then [v] else [])/\(y.result=false->v=0)/\(in64 v)/\(∀ f∈fs,f.S.length<1000000)/\(fs=[])/\o=.stop (EE v) { m with I:=m.I+1,J:=[] })\/((x.op=10)/\∃ (v:Int),(f.S=if y.result then [v] else [])/\(y.result=false->v=0)/\(in64 v)/\(∀ f∈fs,f.S.length<1000000)/\∃ (aR:List AY),∃ (f':AY),(fs=aR++[f'])/\o=.go { m with I:=m.I+1,J:=aR++[Sh f' y.result v] })\/((x.op=2)/\∃ (i:Nat),(x.a=i)/\∃ (n:Int),(f.L[i]?=ς n)/\(in64 n)/\(f.S.length<1000000)/\(f.L.length<=1000)/\o=.go { m with I:=m.I+1,J:=fs++[{ f with pc:=f.pc+1,S:=f.S++[n] }] })) :
  Calls prog 168 #[DH (σ D F E) (σ ga a A) g bm] w (EM w bm (bm::fb::(Fi++(Fl++Fs))) o):=by
 have J:=Lh dJ;clear dJ;obtain ⟨N,xa⟩:=x;obtain ⟨a0,bC,bQ,-,-,-,hE⟩:=id O;rcases hE with h0|⟨b,o,rfl,-,-⟩
 .rw [h0] at hy;simp at hy
 obtain ⟨rfl,rfl⟩:ga=ς (π b o)/\A=bC:=by simpa using bQ
 clear bQ;refine (Xb D b o F E A g (Lh h) hn B (Lh hB) a dI (Lh O) k (Lh hk) y hy p (Lh hp) N xa hx dL dM _).2 (Lh ?_);intro dC cR dF yb yo cI bT dD I cW cV cY aX dE cG cH dA dB K hK W4 s C cO k0 k1 k2 k3 ib bD cE Y d0 bI cJ cU;obtain ⟨aW,HK,HP,P⟩:=Λ4 O hk hp hB;clear h hB O hk hp;rcases J.o with ⟨r,Q,l,v,u,aU,rfl⟩|⟨r,bF,rfl⟩|⟨r,bF,cX,rfl⟩|⟨r,c,R,z,hz,l,d,u,aT,q,hq,bH,L,G,rfl⟩|⟨r,c,R,z,hz,l,d,u,aT,q,hq,bH,L,G,rfl⟩|⟨r,v,u,hv,L,Q,G,rfl⟩|⟨r,v,u,hv,L,Q,aR,f',G,rfl⟩|⟨r,i,R,n,hi,bG,Q,cN,rfl⟩
 .have t:=Lh r
  clear r J;obtain rfl:N=31:=t.o;have cN:l.length<999999:=by have:=congrArg List.length u;simp at this;omega
  have bY:=Lh u;clear u;go_wp2_with fail;refine (Cm D (ς (π b o)) F E a.length A g s.o ω l v bY.o).mono ?_;rintro e S ⟨rfl,aS,bV,bK,M,j⟩;have k0:=j.cell k0 I;have k1:=j.cell k1 I;have k2:=j.cell k2 I;have k3:=j.cell k3 I;have Y:=j.cell Y bD;have aG:=j.notin bI I;have bE:=j.notin cE bD;have cP:(w:Nat)<S:=Bl k0;have cF:ib<S:=Bl Y;have bB:=Lh M;have U:=Lh (C.o.trans j);clear M j;go_wp2_with fail;refine (Da D (ς (π b o)) F E a.length A g bB.o ω v aU (by show l.length<_;omega)).mono ?_;rintro e w6 ⟨rfl,cB,dG,cS,bN,H⟩;have k0:=H.cell k0 aG;have k1:=H.cell k1 aG;have k2:=H.cell k2 aG;have k3:=H.cell k3 aG;have Y:=H.cell Y bE;have bZ:=Lh bN;have aZ:=Lh (U.o.trans H);clear bN H;go_wp2_with fail;refine (Da D (ς (π b o)) F E a.length A g bZ.o ω v aU (by show (l++[v]).length<_;simp;omega)).mono ?_;rintro e w7 ⟨rfl,cC,dH,cT,bO,bM⟩;have cA:=Lh bO;have bX:=Lh (aZ.o.trans bM);clear bO bM;go_wp2_with fail
  go_end0
  rw [HP.o];exact ⟨rfl,_,(cA.o.reframe _).own rfl,bX.o⟩
 .have t:=Lh r
  clear r J;obtain rfl:N=13:=t.o;have c6:=s.o.cFuel;dsimp only at c6;rw [bF] at c6;clear bF;go_wp2_with fail;refine (Ek D (ς (π b o)) F E a.length A g bm 20 _).mono ?_;rintro e S ⟨rfl,bP⟩;refine ⟨rfl,?_⟩;rw [HP.o];exact ⟨rfl,_,((s.o.kp bP).reframe _).own rfl,C.o.trans (AW.ob bP)⟩
 .have t:=Lh r
  clear r J;obtain rfl:N=13:=t.o;have c6:=s.o.cFuel;have f6:=s.o.frm 6;have f8:=s.o.frm 8;have c8:=s.o.cIdle;dsimp only at c6 c8;obtain ⟨h5,j⟩:=KD (m':={ m with I:=m.I+1,Y:=m.Y - 1 }) s.o Br 6 (ι (m.Y - 1)) rfl;obtain ⟨h6,H⟩:=KD (m':={ m with I:=0,Y:=m.Y - 1 }) h5 Br 8 (ι 0) rfl;have H6:=Lh h6;have aZ:=Lh ((C.o.trans j).trans H);clear h5 j h6 H;go_wp2_with fail
  go_end0
  rw [HP.o];exact ⟨rfl,_,(H6.o.reframe _).own rfl,aZ.o⟩
 .obtain ⟨H_ha,H_hst,H_hpz,H_hq,H_h64,H_hz⟩:=Λ6 R u aT hq L hz
  have H_hd:=Lh G;clear R u aT hq L hz G;have t:=Lh r;clear r J;obtain rfl:xa=c:=H_ha.o;obtain rfl:N=9:=t.o;have T:=Lh (aW.o.funs (C.o.below P.o aX));go_wp2_with fail;refine (OG D (ς (π b o)) F E A g (s.o.reframe (fs++[{ f with pc:=(p:Int)+1 }])) hn B P.o a dI T.o c z H_hz.o l d H_hst.o H_hpz.o q H_hq.o bH H_h64.o rfl).mono ?_;rintro e S Z;rcases Z with ⟨-,rfl,F5,V,j⟩|⟨X,-⟩
  .have bA:=Lh V
   have U:=Lh (C.o.trans j);clear V j;go_wp2_with fail
   go_end0
   rw [HP.o];exact ⟨rfl,F5,bA.o,U.o⟩
  .exact absurd H_hd.o X
 .obtain ⟨H_ha,H_hst,H_hpz,H_hq,H_h64,H_hz⟩:=Λ6 R u aT hq L hz
  have H_hd:=Lh G;clear R u aT hq L hz G;have t:=Lh r;clear r J;obtain rfl:xa=c:=H_ha.o;obtain rfl:N=9:=t.o;have T:=Lh (aW.o.funs (C.o.below P.o aX));go_wp2_with fail;refine (OG D (ς (π b o)) F E A g (s.o.reframe (fs++[{ f with pc:=(p:Int)+1 }])) hn B P.o a dI T.o c z H_hz.o l d H_hst.o H_hpz.o q H_hq.o bH H_h64.o rfl).mono ?_;rintro e S Z;rcases Z with ⟨bJ,-⟩|⟨-,rfl,aS,bV,bK,M,j⟩
  .exact absurd bJ H_hd.o
  .refine ⟨rfl,?_⟩
   rw [HP.o];exact ⟨rfl,_,(M.reframe _).own rfl,C.o.trans j⟩
 .obtain ⟨H_hst,H_hv,H_hsl,H_hd⟩:=Λ4 u hv Q G
  clear u hv Q G;have t:=Lh r;clear r J;obtain rfl:N=10:=t.o;have T:=Lh (aW.o.funs (C.o.below P.o aX));have HY:=Lh hy;clear hy;go_wp2_with fail;refine (OD D (ς (π b o)) F E A g s.o hn B P.o a T.o k HK.o y HY.o v H_hst.o H_hv.o L H_hsl.o).mono ?_;rintro e S Z;rcases Z with ⟨-,rfl,F5,V,j⟩|⟨aR,f',X,-⟩
  .refine ⟨rfl,?_⟩
   exact ⟨rfl,F5,V,C.o.trans j⟩
  .rw [H_hd.o] at X;simp at X
 .obtain ⟨H_hst,H_hv,H_hsl,H_hd⟩:=Λ4 u hv Q G
  clear u hv Q G;have t:=Lh r;clear r J;obtain rfl:N=10:=t.o;have T:=Lh (aW.o.funs (C.o.below P.o aX));have HY:=Lh hy;clear hy;go_wp2_with fail;refine (OD D (ς (π b o)) F E A g s.o hn B P.o a T.o k HK.o y HY.o v H_hst.o H_hv.o L H_hsl.o).mono ?_;rintro e S Z;rcases Z with ⟨X,-⟩|⟨bL,f2,bR,rfl,F5,V,j⟩
  .rw [H_hd.o] at X;simp at X
  .have bS:aR++[f']=bL++[f2]:=by rw [<-H_hd.o,bR]
   obtain ⟨rfl,rfl⟩:aR=bL/\f'=f2:=by simpa using List.append_inj' bS rfl
   have bA:=Lh V;have U:=Lh (C.o.trans j);clear V j bR bS;go_wp2_with fail
   go_end0
   exact ⟨rfl,F5,bA.o,U.o⟩
 .have H_ha:=Lh R
  have H_hi:=Lh hi;clear R hi;have t:=Lh r;clear r J;obtain rfl:xa=i:=H_ha.o;obtain rfl:N=2:=t.o;have cZ:=(Ll H_hi.o)
  obtain ⟨lb,aV,bU,cD,cK,cM⟩:=s.o.loc.form (by show 0<f.L.length;omega);dsimp only at bU cD cK;subst bU;have bW:Hid (AN W4.drew bm fb cap (cur.setIfInBounds (fs.length*4+1) (ι ((p:Int)+1))) cs fs { f with pc:=(p:Int)+1 } (σ (ς (π lb 0)) f.L aV) sv { m with I:=m.I+1 } Fi Fl Fs):=s.o.kp (AG Br 1);have aY:Hid (AW (bm::fb::(Fi++(Fl++Fs))) (bm::fb::(Fi++(Fl++Fs))) w W4.drew):=C.o.trans (AW.ob (AG Br 1));have dK:=s.o.cLv;have cL:=s.o.loc.cellAt H_hi.o;have cG:=In i;have cH:(i:Int)<(f.L:Int):=ω;go_upto_region 12 with fail;go_region_held3 (λW=>W.cell? (π w 0)=ς (σ D F E)/\W.cell? (π w 1)=ς (ι g)/\W.cell? (π w 2)=ς (σ (ς (π b o)) a A)/\W.cell? (π w 3)=ς (.pointer (ς (π bm 0)))/\W.cell? (π ib 1)=ς (ι (i:Int))/\W.cell? (π fb (fs.length*4+2))=ς (σ (ς (π lb 0)) f.L aV)/\W.cell? (π lb i)=ς (ι n))
   (first|exact ⟨k0,k1,k2,k3,Y,dK,cL⟩|exact ⟨j0,j1,j2,j3,j4,cQ,jL⟩)
   (first|(go_at_call 147;refine (Da D (ς (π b o)) F E a.length A g bW.o ω n bG Q).mono ?_;rintro e S ⟨rfl,aS,bV,bK,M,j⟩;have j0:=j.cd k0 I;have j1:=j.cd k1 I;have j2:=j.cd k2 I;have j3:=j.cd k3 I;have j4:=j.cd Y bD;have cQ:=M.cLv;have jL:=M.loc.cellAt H_hi.o;have bB:=Lh M;have U:=Lh (aY.o.trans j);clear M j))
  go_wp2_with fail
  go_end0
  rw [HP.o];exact ⟨rfl,_,(bB.o.reframe _).own rfl,U.o⟩
def JP (s ga:Option Addr) (u t j:Nat) (g:Int) (h:AN w bm fb cap cur cs fs f lv sv m Fi Fl Fs) (hn:fs.length<200)
  (B:Nat) (hB:∀ b∈bm::fb::(Fi++(Fl++Fs)),B<=b) (a:List BK) (cS:a.length<=1000000) (Q:AE B w 5 (CW B) (σ ga a j) a) (k:Nat) (hk:f.fn=k) (y:BK) (hy:a[k]?=ς y) (p:Nat) (hp:f.pc=p) (x:Cd) (hx:y.code[p]?=ς x) (cR:y.code.length<=1000000)
  (cT:0<=m.I/\m.I<100000) (o:KM)
  (cQ:((x.op=3)/\∃ (i:Nat),(x.a=i)/\(i<f.L.length)/\∃ (l:List Int),∃ (v:Int),(f.S=l++[v])/\(in64 v)/\(f.L.length<=1000)/\o=.go { m with I:=m.I+1,J:=fs++[{ f with pc:=f.pc+1,L:=f.L.set i v,S:=l }] })\/((x.op=14)/\(f.S.length<1000000)/\∃ (l:List Int),∃ (v:Int),(f.S=l++[v])/\(-1099511627776<=v/\v<=1099511627776)/\o=.go { m with I:=m.I+1,J:=fs++[{ f with pc:=f.pc+1,S:=l++[-v] }] })\/((x.op=26)/\(f.S.length<1000000)/\∃ (l:List Int),∃ (v:Int),(f.S=l++[v])/\o=.go { m with I:=m.I+1,J:=fs++[{ f with pc:=f.pc+1,S:=l++[D0 (v == 0)] }] })\/((x.op=29)/\(f.S.length<1000000)/\∃ (l:List Int),∃ (v:Int),(f.S=l++[v])/\(-1099511627776<=v/\v<=1099511627776)/\o=.go { m with I:=m.I+1,J:=fs++[{ f with pc:=f.pc+1,S:=l++[(Lib.bitLen (max 1 v).toNat:Int) - 1] }] })) :
  Calls prog 168 #[DH (σ s u t) (σ ga a j) g bm] w (EM w bm (bm::fb::(Fi++(Fl++Fs))) o):=by
 have aR:=Lh cQ;clear cQ;obtain ⟨aV,xa⟩:=x;obtain ⟨a0,aZ,bG,-,-,-,hE⟩:=id Q;rcases hE with h0|⟨b,o,rfl,-,-⟩
 .rw [h0] at hy;simp at hy
 obtain ⟨rfl,rfl⟩:ga=ς (π b o)/\j=aZ:=by simpa using bG
 clear bG;refine (Xb s b o u t j g (Lh h) hn B (Lh hB) a cS (Lh Q) k (Lh hk) y hy p (Lh hp) aV xa hx cR cT _).2 (Lh ?_);intro cJ bZ cM yb yo bT bH cK d cF cE cG cC cL bR bS cH cI K hK H V aW bY R S T U ib O bA P d0 aP bU cA;have HP:=Lh hp;clear h hB Q hk hp;rcases aR.o with ⟨z,i,ha,hi,l,v,A,bD,X,rfl⟩|⟨z,bK,l,v,A,hv,rfl⟩|⟨z,bK,l,v,A,rfl⟩|⟨z,bK,l,v,A,hv,rfl⟩
 .have H_ha:=Lh ha
  have H_hi:=Lh hi;have H_hst:=Lh A;clear ha hi A;have M:=Lh z;clear z aR;obtain rfl:xa=i:=H_ha.o;obtain rfl:aV=3:=M.o;have bV:=H_hi.o;have bN:=Lh H_hst.o;obtain ⟨n,bJ⟩:∃ n,f.L[i]?=ς n:=⟨_,Lg bV⟩
  have bM:=Lh bJ;clear bJ;obtain ⟨lb,bE,bI,bP,bW,bX⟩:=V.o.loc.form (by show 0<f.L.length;omega);dsimp only at bI bP bW;subst bI;have J:Hid (AN H.drew bm fb cap (cur.setIfInBounds (fs.length*4+1) (ι ((p:Int)+1))) cs fs { f with pc:=(p:Int)+1 } (σ (ς (π lb 0)) f.L bE) sv { m with I:=m.I+1 } Fi Fl Fs):=V.o.kp (AG Br 1);have I:Hid (AW (bm::fb::(Fi++(Fl++Fs))) (bm::fb::(Fi++(Fl++Fs))) w H.drew):=aW.o.trans (AW.ob (AG Br 1));have cU:=V.o.cLv;have bR:=In i;have bS:(i:Int)<(f.L:Int):=ω;go_upto_region 14 with fail
  go_region_with (first|(go_at_call 181;refine (Cm s (ς (π b o)) u t a.length j g J.o ω l v bN.o).mono ?_;rintro e w5 ⟨rfl,aN,bF,aX,r,c⟩;have C:=c.cd R d;have D:=c.cd S d;have E:=c.cd T d;have F:=c.cd U d;have G:=c.cd P O;have cP:=r.cLv;have jL:=r.loc.cellAt bM.o;have cB:=r.loc.1.frozenAt i;have N:=Lh r;have L:=Lh (I.o.trans c);clear r c))
  all_goals (go_wp2_with fail)
  all_goals go_end0
  all_goals (rw [HP.o];obtain ⟨h6,bQ⟩:=RS N.o i v bD;exact ⟨rfl,_,(h6.reframe _).own rfl,L.o.trans bQ⟩)
 .have H_hst:=Lh A
  clear A;have M:=Lh z;clear z aR;obtain rfl:aV=14:=M.o;have X:l.length<1000000:=by have:=congrArg List.length H_hst.o;simp at this;omega
  have Z:in64 (-v):=⟨ω,ω⟩
  have aU:Af (-v)=true:=by unfold Af;simp;omega
  have aY:=Lh aU;clear aU;have hw:IntKind.i64.wrap (-v) = -v:=by rw [IntKind.wrap_i64];omega
  have J:Hid (AN H.drew bm fb cap (cur.setIfInBounds (fs.length*4+1) (ι ((p:Int)+1))) cs fs { f with pc:=(p:Int)+1 } lv sv { m with I:=m.I+1 } Fi Fl Fs):=V.o.kp (AG Br 1);have I:Hid (AW (bm::fb::(Fi++(Fl++Fs))) (bm::fb::(Fi++(Fl++Fs))) w H.drew):=aW.o.trans (AW.ob (AG Br 1));go_upto_region 41 with fail;go_region_held3 (λW=>W.cell? (π w 0)=ς (σ s u t)/\W.cell? (π w 1)=ς (ι g)/\W.cell? (π w 2)=ς (σ (ς (π b o)) a j)/\W.cell? (π w 3)=ς (.pointer (ς (π bm 0)))/\W.cell? (π ib 1)=ς (ι xa))
   (first|exact ⟨R,S,T,U,P⟩|exact ⟨p0,p1,p2,p3,p4⟩|exact ⟨q0,q1,q2,q3,q4⟩|exact ⟨C,D,E,F,G⟩)
   (first|(go_at_call 181;refine (Cm s (ς (π b o)) u t a.length j g J.o ω l v H_hst.o).mono ?_;rintro e w5 ⟨rfl,aN,bF,aX,r,c⟩;have C:=c.cd R d;have D:=c.cd S d;have E:=c.cd T d;have F:=c.cd U d;have G:=c.cd P O;have q:=c.notin (by exact aP) d;have Y:=c.notin (by exact bA) O;have N:=Lh r;have L:=Lh (I.o.trans c);clear r c)|(go_at_call 186;refine (J1 s (ς (π b o)) u t a.length j g bm (-v) _ aY.o).mono ?_;rintro e w6 ⟨rfl,hb6⟩;have q0:=AB hb6 C;have q1:=AB hb6 D;have q2:=AB hb6 E;have q3:=AB hb6 F;have q4:=AB hb6 G;have bO:=Lh (N.o.kp hb6);have bL:=Lh (L.o.trans (AW.ob hb6));clear hb6)|(go_at_call 147;refine (Da s (ς (π b o)) u t a.length j g bO.o ω (-v) ?_ ?_).mono ?_;(exact Z);(exact X);rintro e w7 ⟨rfl,cur7,sv7,Fs7,hT7,hM7⟩;have p0:=hM7.cell q0 q;have p1:=hM7.cell q1 q;have p2:=hM7.cell q2 q;have p3:=hM7.cell q3 q;have p4:=hM7.cell q4 Y;have aT:=Lh hT7;have aS:=Lh (bL.o.trans hM7);clear hT7 hM7))
  go_wp2_with fail
  go_end0
  rw [HP.o];exact ⟨rfl,_,(aT.o.reframe _).own rfl,aS.o⟩
 .have H_hst:=Lh A
  clear A;have M:=Lh z;clear z aR;obtain rfl:aV=26:=M.o;have X:l.length<1000000:=by have:=congrArg List.length H_hst.o;simp at this;omega
  have Z:in64 (D0 (v == 0)):=by unfold D0;split<;>exact ⟨δ,δ⟩
  have J:Hid (AN H.drew bm fb cap (cur.setIfInBounds (fs.length*4+1) (ι ((p:Int)+1))) cs fs { f with pc:=(p:Int)+1 } lv sv { m with I:=m.I+1 } Fi Fl Fs):=V.o.kp (AG Br 1);have I:Hid (AW (bm::fb::(Fi++(Fl++Fs))) (bm::fb::(Fi++(Fl++Fs))) w H.drew):=aW.o.trans (AW.ob (AG Br 1));go_upto_region 43 with fail;go_region_held3 (λW=>W.cell? (π w 0)=ς (σ s u t)/\W.cell? (π w 1)=ς (ι g)/\W.cell? (π w 2)=ς (σ (ς (π b o)) a j)/\W.cell? (π w 3)=ς (.pointer (ς (π bm 0)))/\W.cell? (π ib 1)=ς (ι xa))
   (first|exact ⟨R,S,T,U,P⟩|exact ⟨p0,p1,p2,p3,p4⟩|exact ⟨q0,q1,q2,q3,q4⟩|exact ⟨C,D,E,F,G⟩)
   (first|(go_at_call 181;refine (Cm s (ς (π b o)) u t a.length j g J.o ω l v H_hst.o).mono ?_;rintro e w5 ⟨rfl,aN,bF,aX,r,c⟩;have C:=c.cd R d;have D:=c.cd S d;have E:=c.cd T d;have F:=c.cd U d;have G:=c.cd P O;have q:=c.notin (by exact aP) d;have Y:=c.notin (by exact bA) O;have N:=Lh r;have L:=Lh (I.o.trans c);clear r c)|(go_at_call 187;refine (Jr (v == 0) _).mono ?_;rintro e w6 ⟨rfl,rfl⟩)|(go_at_call 147;refine (Da s (ς (π b o)) u t a.length j g N.o ω (D0 (v == 0)) ?_ ?_).mono ?_;(exact Z);(exact X);rintro e w7 ⟨rfl,cur7,sv7,Fs7,hT7,hM7⟩;have p0:=hM7.cell C q;have p1:=hM7.cell D q;have p2:=hM7.cell E q;have p3:=hM7.cell F q;have p4:=hM7.cell G Y;have aT:=Lh hT7;have aS:=Lh (L.o.trans hM7);clear hT7 hM7))
  go_wp2_with fail
  go_end0
  rw [HP.o];exact ⟨rfl,_,(aT.o.reframe _).own rfl,aS.o⟩
 .have H_hst:=Lh A
  clear A;have M:=Lh z;clear z aR;obtain rfl:aV=29:=M.o;have X:l.length<1000000:=by have:=congrArg List.length H_hst.o;simp at this;omega
  have cD:Lib.bitLen (max 1 v).toNat<=64:=E6 64 _;have Z:in64 ((Lib.bitLen (max 1 v).toNat:Int) - 1):=⟨ω,ω⟩
  have bB:0<=max 1 v:=ω;have bC:max 1 v<=18446744073709551615:=ω;have cO:IntKind.u64.wrap (max 1 v)=max 1 v:=by rw [IntKind.wrap_u64];omega
  have cN:IntKind.i64.wrap ((Lib.bitLen (max 1 v).toNat:Int) - 1)=(Lib.bitLen (max 1 v).toNat:Int) - 1:=by rw [IntKind.wrap_i64];omega
  have J:Hid (AN H.drew bm fb cap (cur.setIfInBounds (fs.length*4+1) (ι ((p:Int)+1))) cs fs { f with pc:=(p:Int)+1 } lv sv { m with I:=m.I+1 } Fi Fl Fs):=V.o.kp (AG Br 1);have I:Hid (AW (bm::fb::(Fi++(Fl++Fs))) (bm::fb::(Fi++(Fl++Fs))) w H.drew):=aW.o.trans (AW.ob (AG Br 1));go_upto_region 45 with fail;go_region_held3 (λW=>W.cell? (π w 0)=ς (σ s u t)/\W.cell? (π w 1)=ς (ι g)/\W.cell? (π w 2)=ς (σ (ς (π b o)) a j)/\W.cell? (π w 3)=ς (.pointer (ς (π bm 0)))/\W.cell? (π ib 1)=ς (ι xa))
   (first|exact ⟨R,S,T,U,P⟩|exact ⟨p0,p1,p2,p3,p4⟩|exact ⟨q0,q1,q2,q3,q4⟩|exact ⟨C,D,E,F,G⟩)
   (first|(go_at_call 181;refine (Cm s (ς (π b o)) u t a.length j g J.o ω l v H_hst.o).mono ?_;rintro e w5 ⟨rfl,aN,bF,aX,r,c⟩;have C:=c.cd R d;have D:=c.cd S d;have E:=c.cd T d;have F:=c.cd U d;have G:=c.cd P O;have q:=c.notin (by exact aP) d;have Y:=c.notin (by exact bA) O;have N:=Lh r;have L:=Lh (I.o.trans c);clear r c)|(go_at_call 188;refine (bits_Len (max 1 v) _ bB bC).mono ?_;rintro e w6 ⟨rfl,rfl⟩)|(go_at_call 147;refine (Da s (ς (π b o)) u t a.length j g N.o ω ((Lib.bitLen (max 1 v).toNat:Int) - 1) ?_ ?_).mono ?_;(exact Z);(exact X);rintro e w7 ⟨rfl,cur7,sv7,Fs7,hT7,hM7⟩;have p0:=hM7.cell C q;have p1:=hM7.cell D q;have p2:=hM7.cell E q;have p3:=hM7.cell F q;have p4:=hM7.cell G Y;have aT:=Lh hT7;have aS:=Lh (L.o.trans hM7);clear hT7 hM7))
  go_wp2_with fail
  go_end0
  rw [HP.o];exact ⟨rfl,_,(aT.o.reframe _).own rfl,aS.o⟩
