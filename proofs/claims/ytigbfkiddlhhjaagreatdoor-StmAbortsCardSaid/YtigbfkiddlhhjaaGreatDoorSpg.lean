import Derived.Test.YtigbfkiddlhhjaaGreatDoorSpf
set_option maxHeartbeats 4000000
set_option maxRecDepth 100000
set_option linter.all false
open Go.Value renaming slice→σ
open Go.Obj renaming cells→χ
namespace Go.Proofs.YtigbfkiddlhhjaaGreatDoor
open Go.RowKit Proofs.Tryz
def svalid_any (cd:AQ) (s:Tra) (j:Nat) (u A:Option Addr) (v B:Nat) (w:World) (hL:C8 w) (N:Bv cd) (hc:BF w w (.agg (Bc u v A B cd)) cd) (h:BoxR w j s) (o:InvS cd s) (h1:1<=s.active.length) (h8:s.active.length<=8) (h6:s.U<=65536) :
  Calls prog 39 #[.agg (Bc u v A B cd),.pointer (some (π j 0))] w λz w'=>z=.returned (.bool true)/\Below w w w':=by
 obtain ⟨gv,nv,vv,av,cv,ov,bv,ev,dv,d⟩:=h.opened;obtain ⟨aO,aP,rfl⟩:=d.g.1.form;obtain ⟨na,nc,rfl⟩:=d.n.1.form;obtain ⟨aa,ac,rfl⟩:=d.a.1.form;obtain ⟨ca,cc,rfl⟩:=d.c.1.form;obtain ⟨oa,oc,rfl⟩:=d.o.1.form;obtain ⟨ba,bc,rfl⟩:=d.b.1.form;obtain ⟨ea,ec,rfl⟩:=d.e.1.form;obtain ⟨W,M⟩:=ε (w.alloc (χ (Bc u v A B cd) 25));have g:=bl1 M;have aZ:=Lh (sz1 M);have aK:W.heap[w.heap.size]?=some (χ (Bc u v A B cd) 25 (0,0)):=ro11 M;obtain ⟨y,K,L⟩:=Ω3 aK;obtain ⟨G,H,I,J,b5,b6,S,b8,b9⟩:=Δ9 g d.g.2 d.n.2 d.clock d.Y d.a.2 d.c.2 d.o.2 d.b.2 d.e.2;have E:=AB g d.aborts;have F:=AB g d.U;rw [o.A] at b6;rw [o.results] at S;rw [o.Z] at b8;rw [o.P] at b9;have X:=Lh (λ(V:World) (p:Below W W V)=>hL.below (g.th p));have Q:=Lh (λ(V:World) (p:Below W W V)=>(hc.below (g.th p)).up (g.th p).size);have O:=Lh (λ(V:World) (p:Below W W V)=>h.below (g.th p));have aS:=Lh (λ(V:World) (p:Below W W V)=>(show Lw V V (.agg (Bm aO aP na nc s.M)) s.M from ⟨_,_,rfl,d.g.1.ups B5 (g.th p).size (JT.below (g.th p)),d.n.1.ups WU (g.th p).size (JT.below (g.th p))⟩));obtain ⟨HS,HF,f,aN,aV,H6⟩:=Λ6 (CZ o.sound) (Ik.2 o.M) o N g h6;have dd:=o.clock;have de:=o.aborts;have df:=o.Y;have e1:=θ (s.U<0);have e2:=θ (65536<s.U);have e3:=θ (s.clock<0);have e4:=θ (s.U<s.clock);have e5:=θ (s.aborts<0);have e6:=θ (s.U<s.aborts);have e7:=θ (s.Y<0);have e8:=θ (1048576<s.Y);obtain ⟨n,hn⟩:=ε s.active.length;rw [<-hn] at h1 h8 b5 b6 S b8 b9;have HN:=Lh hn;have e9:=θ ((n:Int)<1);have aW:=θ ((8:Int)<(n:Int));clear hL N hc h o h6 d g aK dd de df hn;go_enter func39,ntmps39;go_upto_region 1 with fail;rw [<-M];clear M;go_upto_region 2 with fail;simp only [List.append_eq,List.cons_append,List.nil_append];have aT:=Lh (ssound_any cd (.agg (Bc u v A B cd)) W.drew.heap.size W.drew (X.o _ (AG Br 1)) (Nr _) (Q.o W.drew (AG Br 1)));go_region_held3 (λV=>V.cell? (π w 0)=some (σ u cd.H v)/\V.cell? (π w 1)=some (ι cd.G)/\V.cell? (π w 2)=some (σ A cd.funcs B)/\V.cell? (π j 0)=some (σ aO s.M.G aP)/\V.cell? (π j 1)=some (σ na s.M.N nc)/\V.cell? (π j 3)=some (ι s.clock)/\V.cell? (π j 4)=some (ι s.Y)/\V.cell? (π j 11)=some (ι s.aborts)/\V.cell? (π j 12)=some (ι s.U))
  (first|exact ⟨y,K,L,G,H,I,J,E,F⟩|exact ⟨AB ((a.th c).th m) y,AB ((a.th c).th m) K,AB ((a.th c).th m) L,AB ((a.th c).th m) G,AB ((a.th c).th m) H,AB ((a.th c).th m) I,AB ((a.th c).th m) J,AB ((a.th c).th m) E,AB ((a.th c).th m) F⟩|exact ⟨AB (a.th c) y,AB (a.th c) K,AB (a.th c) L,AB (a.th c) G,AB (a.th c) H,AB (a.th c) I,AB (a.th c) J,AB (a.th c) E,AB (a.th c) F⟩|exact ⟨AB a y,AB a K,AB a L,AB a G,AB a H,AB a I,AB a J,AB a E,AB a F⟩)
  (first
   | (go_at_call 25;refine aT.o.mono ?_;rintro e8 P ⟨rfl,a⟩;rw [HS.o])
   | (go_at_call 26;refine (sfits_any cd _ s.M _ P.heap.size P (Nr _) (Q.o P ((AG Br 1).th a)) (aS.o P ((AG Br 1).th a))).mono ?_;rintro e9 W9 ⟨rfl,c⟩;rw [HF.o])
   | (go_at_call 69;refine (versions_any s j W9 (O.o W9 (((AG Br 1).th a).th c)) f.o.vers).mono ?_;rintro aW R ⟨rfl,m⟩))
 have Y:=Lh ((((AG Br 1).th a).th c).th m);have y:=Δ5 Y.o y K L b5 b6;have S:=Δ3 Y.o S b8 b9;clear a c m G H I J E F;go_wp2_with fail;go_loopw [136] (λi wr=>∃ k:Nat,k<=n/\i=ι k/\Below R R wr) (λi _=>n - (intOf i).toNat)
 case atStart=>exact ⟨0,Nat.zero_le _,rfl,Below.refl _ _⟩
 case round=>
  obtain ⟨k,hk,rfl,T⟩:=hrel;have C:=Lh (Y.o.th T);have aR:=Lh T;have q0:=Δ3 T y.1 y.2.1 y.2.2.1;clear T;by_cases aX:k<n;rotate_left
  .go_wp2_with fail
   refine (ordered_any s j wr (O.o wr C.o) (by rw [<-HN.o];exact h8) f.o.results f.o.P f.o.order ?_).mono ?_
   .intro t r e hr he
    obtain ⟨x,U⟩:∃ x,s.active[t]?=some x:=⟨_,Lg (by rw [<-f.o.P];exact (Ll he))⟩
    obtain ⟨l,r',b,e',D⟩:=InvK.row f.o U;have h1:=D.r.symm.trans hr;have h2:=D.e.symm.trans he;cases h1;cases h2;exact (f.o.all _ _ _ _ _ _ D).P
   .rintro e w4 ⟨rfl,Z⟩
    go_wp2;go_ret;exact ⟨rfl,aV.o.th (C.o.th Z)⟩
  obtain ⟨x,U⟩:∃ x,s.active[k]?=some x:=⟨_,Lg (by rw [<-HN.o];exact aX)⟩
  obtain ⟨l,r,b,e,D⟩:=InvK.row f.o U;have q:=f.o.all _ _ _ _ _ _ D;have aU:=@Lh (Calls prog 70 #[.agg (Bc u v A B cd),.pointer (some (π j 0)),ι k] wr λz w'=>z=.returned (.bool true)/\Below wr wr w') (by
   rcases q.act with ⟨rfl,aM⟩|⟨ho,aY,aM⟩
   .exact thread_zero cd s j k l r b e u A v B wr (X.o wr C.o) aN.o f.o.sound (Q.o wr C.o) (O.o wr C.o) f.o.M D aM q.right q.P q.ops q.times H6.o
   .exact thread_run cd s j k x l r b e u A v B wr (X.o wr C.o) aN.o f.o.sound (Q.o wr C.o) (O.o wr C.o) f.o.M D ho aY aM q.right q.P q.ops q.times H6.o)
  clear U D q;have k0:=In k;go_wp2_with fail;refine aU.o.mono ?_;rintro e w4 ⟨rfl,Z⟩;have aQ:=@Lh (Below R R w4) (aR.o.th Z);go_wp2;go_roundw
  case rel=>exact ⟨k+1,ω,by go_num,aQ.o⟩
  case measure=>simp [intOf];omega
