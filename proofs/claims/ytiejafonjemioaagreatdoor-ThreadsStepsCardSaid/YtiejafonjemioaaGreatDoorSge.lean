import Derived.Test.YtiejafonjemioaaGreatDoorStep0
set_option maxHeartbeats 8000000
set_option maxRecDepth 100000
set_option linter.all false
open Go.Value renaming slice→σ
open Go.Obj renaming cells→χ
namespace Go.Proofs.YtiejafonjemioaaGreatDoor
open Go.RowKit Proofs.Tryz
def PE {w:World} {bm d cap:Nat} {q:Array Value} {G:List Value} {fs:List AY} {f:AY} {lv V:Value} {m:AV} {c Fl Fs:List Nat} (t P:Option Addr) (z v j:Nat) (g:Int) (h:AN w bm d cap q G fs f lv V m c Fl Fs) (hn:fs.length<200)
  (B:Nat) (hB:∀ b∈bm::d::(c++(Fl++Fs)),B<=b) (a:List BK) (R:a.length<=1000000) (r:AE B w 5 (CW B) (σ P a j) a) (k:Nat) (hk:f.fn=k) (y:BK) (U:a[k]?=some y) (p:Nat) (T:f.pc=p) (x:Cd) (hx:y.code[p]?=some x) (Q:y.code.length<=1000000)
  (S:0<=m.I/\m.I<100000) (o:KM)
  (C:((x.op=6)/\∃ (l:List Int),∃ (u:Int),(f.S=l++[u])/\(u<1)/\o=.stop (Ah 17) { m with I:=m.I+1,J:=fs++[{ f with pc:=f.pc+1,S:=l }] })\/((x.op=6)/\∃ (l:List Int),∃ (u:Int),(f.S=l++[u])/\(1<=u)/\o=.stop ⟨1,u,x.a,0,0⟩ { m with I:=m.I+1,J:=fs++[{ f with pc:=f.pc+1,S:=l }] })) :
  Calls prog 170 #[DH (σ t z v) (σ P a j) g bm] w (EM w bm (bm::d::(c++(Fl++Fs))) o):=by
 have L:=Lh C;clear C;obtain ⟨O,H⟩:=x;obtain ⟨a0,aK,Z,-,-,-,hE⟩:=id r;rcases hE with h0|⟨b,o,rfl,-,-⟩
 .rw [h0] at U;simp at U
 obtain ⟨rfl,rfl⟩:P=some (π b o)/\j=aK:=by simpa using Z
 clear Z;refine (Xb t b o z v j g (Lh h) hn B (Lh hB) a R (Lh r) k (Lh hk) y U p (Lh T) O H hx Q S _).2 (Lh ?_);intro bM bB bP yb yo aW aQ bN E bF bE bH bD bO bI bJ bK bL K hK D W Y aY k0 k1 k2 k3 ib aV bG d1 d0 aZ aX bC;have X:=Lh T;clear h hB r hk T;rcases L.o with ⟨A,l,u,n,N,rfl⟩|⟨A,l,u,n,N,rfl⟩
 .have aI:=Lh A
  clear A L;obtain rfl:O=6:=aI.o;have M:=Lh n;clear n;have J:Hid (AN D.drew bm d cap (q.setIfInBounds (fs.length*4+1) (ι ((p:Int)+1))) G fs { f with pc:=(p:Int)+1 } lv V { m with I:=m.I+1 } c Fl Fs):=W.o.kp (AG Br 1);have I:Hid (AW (bm::d::(c++(Fl++Fs))) (bm::d::(c++(Fl++Fs))) w D.drew):=Y.o.trans (AW.ob (AG Br 1));go_upto_region 20 with fail
  go_region_with (first|(go_at_call 190;refine (JI t (some (π b o)) z v a.length j g J.o ω l u M.o N).mono ?_;rintro e s aU;obtain ⟨rfl,hF⟩|⟨rfl,aL,bA,aR,F,i⟩:(e=.returned (ι 0)/\Hid False)\/GR (Ah 17) _ bm d cap G fs _ lv _ c Fl _ e s:=.inr aU;rotate_left;(refine ⟨rfl,?_⟩;rw [X.o];exact ⟨rfl,_,(F.reframe _).own rfl,I.o.trans i⟩);have j0:s.cell? (π w 0)=some (σ t z v):=hF.o.elim;have j1:s.cell? (π w 1)=some (ι g):=hF.o.elim;have j2:s.cell? (π w 2)=some (σ (some (π b o)) a j):=hF.o.elim;have j3:s.cell? (π w 3)=some (.pointer (some (π bm 0))):=hF.o.elim;have j4:s.cell? (π ib 1)=some (ι H):=hF.o.elim)|(go_at_call 189;refine (show Calls prog 189 _ _ (λe _=>e=.returned (.tuple #[])) from hF.o.elim).mono ?_;rintro e w7 rfl))
  all_goals exact hF.o.elim
 .have aI:=Lh A
  clear A L;obtain rfl:O=6:=aI.o;have M:=Lh n;clear n;have J:Hid (AN D.drew bm d cap (q.setIfInBounds (fs.length*4+1) (ι ((p:Int)+1))) G fs { f with pc:=(p:Int)+1 } lv V { m with I:=m.I+1 } c Fl Fs):=W.o.kp (AG Br 1);have I:Hid (AW (bm::d::(c++(Fl++Fs))) (bm::d::(c++(Fl++Fs))) w D.drew):=Y.o.trans (AW.ob (AG Br 1));go_upto_region 20 with fail
  go_region_with (first|(go_at_call 190;refine (IG t (some (π b o)) z v a.length j g J.o ω l u M.o N).mono ?_;rintro e s ⟨rfl,aL,bA,aR,F,i⟩;have j0:=i.cd k0 E;have j1:=i.cd k1 E;have j2:=i.cd k2 E;have j3:=i.cd k3 E;have j4:=i.cd d1 aV;have aT:=Lh F;have aS:=Lh (I.o.trans i);clear F i)|(go_at_call 189;refine (GU t (some (π b o)) z v a.length j g bm 1 u H 0 0 _).mono ?_;rintro e w9 n;obtain ⟨rfl,hF⟩|⟨rfl,hb9⟩:(e=.returned (.tuple #[])/\Hid False)\/Ky ⟨1,u,H,0,0⟩ _ e w9:=.inr n;rotate_left;(refine ⟨rfl,?_⟩;rw [X.o];exact ⟨rfl,_,((aT.o.kp hb9).reframe _).own rfl,aS.o.trans (AW.ob hb9)⟩)))
  all_goals exact hF.o.elim
