import Derived.Test.YtigbfkiddlhhjaaGreatDoorStep0
set_option maxHeartbeats 8000000
set_option maxRecDepth 100000
set_option linter.all false
open Option renaming some→ς
open Go.Value renaming slice→σ
open Go.Obj renaming cells→χ
namespace Go.Proofs.YtigbfkiddlhhjaaGreatDoor
open Go.RowKit Proofs.Tryz
noncomputable def Xb {w:World} {bm j cap:Nat} {aW:Array Value} {cs:List Value} {fs:List AY} {f:AY} {lv sv:Value} {m:AV} {M Fl Fs:List Nat} (fa:Option Addr) (b o:Nat) (fn fc D:Nat) (g:Int) (H:Hid (AN w bm j cap aW cs fs f lv sv m M Fl Fs)) (hn:fs.length<200)
  (B:Nat) (HB:Hid (∀ b∈bm::j::(M++(Fl++Fs)),B<=b)) (a:List BK) (bM:a.length<=1000000) (aT:Hid (AE B w 5 (CW B) (σ (ς (π b o)) a D) a)) (k:Nat) (HK:Hid (f.fn=k)) (y:BK) (hy:a[k]?=ς y) (p:Nat) (HP:Hid (f.pc=p)) (L xa:Int) (hx:y.code[p]?=ς ⟨L,xa⟩) (bL:y.code.length<=1000000)
  (bN:0<=m.I/\m.I<100000) (oo:KM) :
  Σ' T:Prop,(Hid T->Calls prog 168 #[DH (σ fa fn fc) (σ (ς (π b o)) a D) g bm] w (EM w bm (bm::j::(M++(Fl++Fs))) oo)):=by
 refine' ⟨?_,λW=>?_⟩;rotate_left;have h:=H.o;have hB:=HB.o;obtain ⟨a0,Y,aI,bO,bP,bQ,hE⟩:=aT.o;obtain ⟨e0,rfl⟩:ς (π b o)=a0/\D=Y:=by simpa using aI
 have bH:k<a.length:=(Ll hy)
 rcases hE with h0|⟨b',o',e1,bA,hE⟩
 .rw [h0] at hy;simp at hy
 obtain ⟨rfl,rfl⟩:b=b'/\o=o':=by simpa using e0.trans e1
 clear e0 e1;have E:=Lh (hE k y hy);obtain ⟨yv,q4,bJ⟩:=E.o.2.2.2.2.1;obtain ⟨ya,aR,rfl,bK,aP,aQ,v⟩:=bJ;have bI:p<y.code.length:=(Ll hx)
 rcases v with h0|⟨yb,yo,rfl,s,v⟩
 .rw [h0] at hx;simp at hx
 obtain ⟨N,i1,C,q⟩:=v p _ hx;dsimp only at N i1 C q;obtain ⟨WA,n⟩:=ε (w.alloc (χ #[σ fa fn fc,ι g,σ (ς (π b o)) a D,.pointer (ς (π bm 0))] 199));have A:=Lh (ce11 n);have i:=bl1 n;have aZ:=sz1 n;have J:=Lh h.lt;have r:(w:Nat)∉bm::j::(M++(Fl++Fs)):=λe=>by have:=J.o _ e;omega
 obtain ⟨h2,F⟩:=KD (m':={ m with I:=m.I+1 }) h i 8 (ι (m.I+1)) rfl;obtain ⟨X,d⟩:=ε (WA.setCell (π bm 8) (ι (m.I+1)));rw [<-d] at h2 F;have H2:=Lh h2;have S:=Lh F;have hA:=h.kp i;have c8:=hA.cIdle;have f8:=hA.frm 8;have O:=Γ4 A.o;have bB:¬(w:Nat)=bm:=λe=>r (by simp [e]);have aE:bm<w:=h.lt bm ψ;have bC:j<w:=h.lt j ψ;obtain ⟨V,Q,R,U⟩:=Λ4 i N i1 q4;clear h hB aI hE v h2 F hA N i1 q4 i;unfold DH;go_enter func168,ntmps168;go_upto_region 1 with fail;rw [<-n];clear n;go_upto_region 4 with fail;rw [<-d];have aB:Hid (Below w WA X->True):=λ_=>trivial;have O:X.cell? (π w 0)=ς (σ fa fn fc):=by rw [d];go_simp
 have k1:X.cell? (π w 1)=ς (ι g):=by rw [d];go_simp
 have k2:X.cell? (π w 2)=ς (σ (ς (π b o)) a D):=by rw [d];go_simp
 have k3:X.cell? (π w 3)=ς (.pointer (ς (π bm 0))):=by rw [d];go_simp
 have aV:=Lh d;clear d c8 f8 aB;go_wp2_with fail;refine (KX fa (ς (π b o)) fn fc a.length D g H2.o ω).mono ?_;rintro e t ⟨rfl,x⟩;have P:=Lh (H2.o.kp x);have l:=Lh (S.o.trans (AW.ob x));have aY:B<=w:=Nat.le_of_lt (Nat.lt_of_le_of_lt (HB.o bm ψ) aE);have z:∀ bb,bb<B->bb∉bm::j::(M++(Fl++Fs)):=λbb hb e=>by have:=HB.o bb e;omega
 have O:=Δ4 x O k1 k2 k3;have N:=l.o.cell Q.o (z _ s);have i1:=l.o.cell R.o (z _ s);have q4:=l.o.cell U.o (z _ bA);have Z:=P.o.cFn;have aA:=P.o.cPc;rw [HK.o] at Z;rw [HP.o] at aA;have aX:=P.o.frf (fs.length*4+1);have aM:(w:Nat)<t:=Bl O.1;have aJ:j<t:=ω;have aF:bm<t:=ω;have bD:=In k;have bE:(k:Int)<(a:Int):=ω;have bF:=In p;have bG:(p:Int)<(y.code:Int):=ω;have aO:=Bl N;have aD:=Bl q4;clear x;go_wp2_with fail
 go_region
 go_upto_region 7 with fail;obtain ⟨h4,aC⟩:=Jl P.o ((p:Int)+1) ⟨ω,ω⟩;obtain ⟨u,c⟩:=ε (((t.setCell ⟨j,fs.length*4+1,(none)⟩ (ι ((p:Int)+1))).alloc (χ #[ι L,ι xa] 96)).drew);have G:Below (t.setCell ⟨j,fs.length*4+1,(none)⟩ (ι ((p:Int)+1))).heap.size (t.setCell ⟨j,fs.length*4+1,(none)⟩ (ι ((p:Int)+1))) u:=by rw [c];exact AG (AA _ _) 1
 have H4:=Lh (h4.kp G);have aU:=Lh ((l.o.trans aC).trans (AW.ob G));have d0:u.cell? (π t 0)=ς (ι L):=by rw [c];go_simp
 have d1:u.cell? (π t 1)=ς (ι xa):=by rw [c];go_simp
 have aL:¬(w:Nat)=j:=λe=>r (by simp [e]);have O:u.cell? ⟨(w:Nat),0,(none)⟩=ς (σ fa fn fc):=by rw [c];go_simp
 have k1:u.cell? ⟨(w:Nat),1,(none)⟩=ς (ι g):=by rw [c];go_simp
 have k2:u.cell? ⟨(w:Nat),2,(none)⟩=ς (σ (ς ⟨b,o,(none)⟩) a D):=by rw [c];go_simp
 have k3:u.cell? ⟨(w:Nat),3,(none)⟩=ς (.pointer (ς ⟨bm,0,(none)⟩)):=by rw [c];go_simp
 have aH:(t:Nat)<u:=Bl d0;have aG:(t:Nat)∉bm::j::(M++(Fl++Fs)):=λe=>by have:=J.o _ e;omega
 have bR:=H.o.nodup;rw [<-c];obtain ⟨ib,I⟩:=ε (t:Nat);rw [<-I];rw [<-I] at d0 d1 aH aG;have aN:(w:Nat)<u:=ω;have aK:(w:Nat)<ib:=ω;have aS:=Lh E.o;clear c I P l H2 S aV G h4 aC N i1 q4 Z aA aX aJ aF aO aD aM Q R U A V aZ E;rename_i K hK;clear aP aQ s;revert aR yb yo bH bI C q J r bB aE bC aY z bD bE bF bG K hK u H4 aU d0 d1 aL O k1 k2 k3 aH aG ib aN aK aS;exact W.o
