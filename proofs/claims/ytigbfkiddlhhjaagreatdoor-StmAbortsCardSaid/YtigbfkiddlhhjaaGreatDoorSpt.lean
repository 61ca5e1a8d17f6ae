import Derived.Test.YtigbfkiddlhhjaaGreatDoorSps
set_option maxHeartbeats 2000000
set_option maxRecDepth 100000
set_option linter.all false
open Go renaming World→Ϣ
open Go.Value renaming slice→σ
open Go.Obj renaming cells→χ
namespace Go.Proofs.YtigbfkiddlhhjaaGreatDoor
open Go.RowKit Proofs.Tryz
variable {w:Ϣ} {bt k:Nat} {s:Tra}
structure CallsR (w:Ϣ) (bt:Nat) (s:Tra) (ca:Option Addr) (cc:Nat):Prop where
 hd:w.cell? (π bt 6)=some (σ ca s.A cc)
 el:∀ (i:Nat) l,s.A[i]?=some l->∃ b o la lc,ca=some (π b o)/\w.cell? (π b (o+i))=some (σ la l lc)
 U:w.cell? (π bt 12)=some (ι s.U)
def SAt.callsR {c:A1} (h:SAt w c bt s):∃ g k,CallsR w bt s g k:=by
 obtain ⟨a,d,m,_,_,o⟩:=GStAt.at1 (show GStAt w c _ bt (traG s) from h) (j:=6) (n:=s.A.length) rfl ψ ω;refine ⟨a,d,m,λi l e=>?_,GStAt.p0 (show GStAt w c _ bt (traG s) from h) (j:=12) rfl⟩;have x:=(Ll e)
 obtain ⟨b,rfl,_,_,_,p⟩:=o ω;obtain ⟨v,q,r⟩:=p i _ (map_get (f:=λl=>.i (calP l)) e);obtain ⟨t,u,rfl⟩:=AE.form (LeafAt.i_reads r);exact ⟨b,0,t,u,rfl,by rw [Nat.zero_add];exact q⟩
def BoxR.callsR (h:BoxR w bt s):∃ f g,CallsR w bt s f g:=by
 obtain ⟨x,y,A,p,r,z,q,u,t,h⟩:=h.opened;obtain ⟨⟨a,c,rfl,-,-,-,d⟩,k⟩:=h.c;refine ⟨a,c,k,λi l e=>?_,h.U⟩;rcases d with j|⟨b,o,rfl,_,d⟩
 .rw [j] at e;simp at e
 .obtain ⟨v,h3,h4⟩:=d i l e
  obtain ⟨m,n,rfl⟩:=h4.form;rw [Nat.mul_one] at h3;exact ⟨b,o,m,n,rfl,h3⟩
def CallsR.below {w':Ϣ} {c:Option Addr} {d:Nat} (h:CallsR w bt s c d) (a:Below w w w'):CallsR w' bt s c d:=
 ⟨AB a h.hd,λi l f=>by obtain ⟨b,o,g,j,e,k⟩:=h.el i l f;exact ⟨b,o,g,j,e,AB a k⟩,AB a h.U⟩
def refE (s:Tra) (i:Int):Int:=if i<0\/(s.A:Int)<=i then 2 else if s.A.getD i.toNat []=[] then 14 else if 65536<=s.U then 6 else 0
def refused_any (s:Tra) (bt:Nat) (i:Int) (p:Option Addr) (q:Nat) (w:Ϣ) (h:CallsR w bt s p q):Calls prog 40 #[.pointer (some (π bt 0)),ι i] w λe y=>e=.returned (ι (refE s i))/\Below w w y:=by
 have A:=h.hd;have z:=h.U;by_cases c:i<0
 .have r:=η (i<0) c
  have a:=@Lh (refE s i=2) (by unfold refE;rw [if_pos (.inl c)]);clear h c;go_enter func40,ntmps40;go_wp2;go_ret;exact ⟨by rw [a.o];rfl,Below.refl _ _⟩
 have r:=θ (i<0) c;obtain ⟨k,rfl⟩:∃ k:Nat,i=k:=⟨i.toNat,ω⟩
 by_cases m:s.A.length<=k
 .have t:=η (s.A.length<=k)
  have u:=η ((s.A:Int)<=(k:Int));have a:=@Lh (refE s k=2) (by unfold refE;rw [if_pos (.inr ω)]);clear h c m;go_enter func40,ntmps40;go_wp2;go_ret;exact ⟨by rw [a.o];rfl,Below.refl _ _⟩
 have t:=θ (s.A.length<=k);have u:=θ ((s.A:Int)<=(k:Int));obtain ⟨l,g⟩:∃ l,s.A[k]?=some l:=⟨_,Lg ω⟩
 obtain ⟨b,o,D,E,rfl,F⟩:=h.el k l g;have B:=In k;have C:(k:Int)<(s.A:Int):=ω;have n:=@Lh (refE s k=if l=[] then 14 else if 65536<=s.U then 6 else 0) (by unfold refE;rw [if_neg ω,Int.toNat_natCast,getD_at g]);by_cases d:l.length=0
 .have v:(l.length == 0)=true:=by simpa using d
  have x:((l:Int) == 0)=true:=by simp;exact List.eq_nil_of_length_eq_zero d
  have a:=@Lh (refE s k=14) (by rw [n.o,if_pos (List.eq_nil_of_length_eq_zero d)]);clear h c m d g;go_enter func40,ntmps40;go_wp2;go_ret;exact ⟨by rw [a.o];rfl,Below.refl _ _⟩
 have v:(l.length == 0)=false:=by simpa using d
 have x:((l:Int) == 0)=false:=by simp only [beq_eq_false_iff_ne,ne_eq];omega
 have j:l≠[]:=λe=>d (by rw [e];rfl);by_cases f:65536<=s.U
 .have d5:=η (65536<=s.U) f
  have a:=@Lh (refE s k=6) (by rw [n.o,if_neg j,if_pos f]);clear h c m d g j f;go_enter func40,ntmps40;go_wp2;go_ret;exact ⟨by rw [a.o];rfl,Below.refl _ _⟩
 .have d5:=θ (65536<=s.U) f
  have a:=@Lh (refE s k=0) (by rw [n.o,if_neg j,if_neg f]);clear h c m d g j f;go_enter func40,ntmps40;go_wp2;go_ret;exact ⟨by rw [a.o];rfl,Below.refl _ _⟩
def enB4 (s:Tra) (i:Nat):Bool:=decide (0<(s.A.getD i []).length)
def enS (s:Tra) (k:Nat):List Int:=((List.range k).filter (enB4 s)).map Int.ofNat
def enS_yes (h:enB4 s k=true):enS s (k+1)=enS s k++[(k:Int)]:=by
 unfold enS;rw [List.range_succ,List.filter_append,List.map_append];simp [h]
def enS_no (h:enB4 s k=false):enS s (k+1)=enS s k:=by
 unfold enS;rw [List.range_succ,List.filter_append,List.map_append];simp [h]
structure EnS4 (s:Tra) (W:Ϣ) (k:Nat) (v:Value) (c:A1) (wr:Ϣ):Prop where
 row:Dq wr c 1 v (enS s k)
 chg:AT (λt=>t=1) (λ_=>0) c W wr
 hi:∀ b,(wr:Nat)<=b->c b=0
def EnPost (s:Tra) (w:Ϣ) (e:Ending) (w':Ϣ):Prop:=∃ a cap,e=.returned (σ a (enS s s.A.length).length cap)/\Below w w w'/\AE w' w' 1 Aj (σ a (enS s s.A.length).length cap) (enS s s.A.length)
def senabled_any (s:Tra) (bt:Nat) (R:Option Addr) (S:Nat) (w:Ϣ) (h:CallsR w bt s R S) (z:s.A.length<=1000000):Calls prog 45 #[.pointer (some (π bt 0))] w (EnPost s w):=by
 have P:=h.hd;have A:=Lh h;have F:Hid (EnS4 s w 0 ν (λ_=>0) w):=Lh ⟨⟨Ao.nil _ _ _ _ _,λn z=>by simp [enS] at z⟩,AT.ob Br δ,λ_ _=>rfl⟩;clear h;go_enter func45,ntmps45;go_wp2_with fail;clear P;go_loopw [3,11] (λv i wr=>∃ (k:Nat) (a:Option Addr) (n d:Nat),k<=s.A.length/\n<=k/\v=σ a n d/\i=ι k/\Hid (n=(enS s k).length/\∃ c,EnS4 s w k (σ a n d) c wr)) (λ_ i _=>s.A.length - (intOf i).toNat)
 case atStart=>exact ⟨0,none,0,0,Nat.zero_le _,Nr _,rfl,rfl,Lh ⟨rfl,_,F.o⟩⟩
 case round=>
  obtain ⟨k,a,n,d,Y,X,rfl,rfl,j⟩:=hrel;obtain ⟨u,c,j⟩:=j.o;have f:=Lh u;have PU:=Lh j;clear j u;have r:=@Lh (Below w w wr) (PU.o.chg.below (B:=(w:Nat)) (λ_ _=>rfl) (Nr _));by_cases O:k<s.A.length
  .obtain ⟨l,hl⟩:∃ l,s.A[k]?=some l:=⟨_,Lg O⟩
   obtain ⟨b,o,la,lc,rfl,m⟩:=A.o.el k l hl;have y1:=AB r.o m;have Z:=In k;have i1:(k:Int)<(s.A:Int):=ω;have p:=@Lh (enB4 s k=decide (0<l.length)) (by unfold enB4;rw [getD_at hl]);by_cases q:0<l.length
   .have d1:=η (0<l.length)
    have U:=η ((0:Int)<(l:Int));have e:=@Lh (enB4 s k=true) (by rw [p.o,d1]);have D:=@Lh (Dq (wr.alloc (χ #[ι (k:Int)] 3)) c 1 (σ a n d) (enS s k)) (PU.o.row.kp (T:=NO) (AT.ob (AA _ _) (no 0)) (no _));have C:=@Lh (∀ b,(wr.alloc (χ #[ι (k:Int)] 3)).heap.size<=b->c b=0) (λb V=>PU.o.hi b (by simp at V;omega));have H:=@Lh ((wr.alloc (χ #[ι (k:Int)] 3)).cell? (π wr 0)=some (ι (k:Int))) (B6 wr _ _ 0);have L:=@Lh (n<=1000000) ω;have K:=@Lh (in64 (k:Int)) (by unfold in64;omega);clear q m;go_upto_region 7 with ((with_reducible refine ju rfl (.tmp 19) (.tmp 21) rfl (c:=c) a n d (enS s k) rfl f.o D.o (wr:Nat) (k:Int) rfl H.o K.o L.o C.o ?_);intro g E W Q y x t;have J:=Lh y;have G:=Lh x;have I:=Lh t;clear y x t)
    have N:Hid (EnS4 s w (k+1) (σ (some (π g 0)) (n+1) E) Q W):=Lh ⟨by rw [enS_yes e.o];exact J.o,PU.o.chg.trans ((AT.ob (AA _ _) δ).trans G.o),I.o⟩;go_wp2;go_roundw
    case rel=>exact ⟨k+1,_,n+1,_,ω,ω,rfl,by go_num,Lh ⟨by rw [enS_yes e.o,List.length_append,f.o];rfl,_,N.o⟩⟩
    case measure=>simp [intOf];omega
   .have d1:=θ (0<l.length)
    have U:=θ ((0:Int)<(l:Int));have e:=@Lh (enB4 s k=false) (by rw [p.o,d1]);clear q m;go_wp2;go_roundw
    case rel=>exact ⟨k+1,_,n,_,ω,ω,rfl,by go_num,Lh ⟨by rw [enS_no e.o,f.o],_,by rw [enS_no e.o];exact PU.o.row,PU.o.chg,PU.o.hi⟩⟩
    case measure=>simp [intOf];omega
  .have aP:k=s.A.length:=ω
   subst aP;have M:=f.o;subst M;go_wp2;go_ret;exact ⟨a,d,rfl,r.o,PU.o.row.reads⟩
def sDone_any (s:Tra) (vs:List Value) (w:Ϣ) (T:vs.length=13) (h:TraVs (w:Nat) w vs s) (M:s.A.length<=1000000):Calls prog 18 #[.agg vs.toArray] w λe Q=>e=.returned (.bool (decide (enS s s.A.length=[])))/\Below w w Q:=by
 obtain ⟨B,N,P,q,y,O,r,A,z,rfl,C,D,E,F,G,H,I,J,K⟩:=id h;obtain ⟨W,c⟩:=ε (w.alloc (χ #[B,N,P,ι s.clock,ι s.Y,q,y,O,r,A,z,ι s.aborts,ι s.U] 39));have f:=Lh (bl1 c);have k:BoxR W (w:Nat) s:=⟨_,h.ups f.o.size (JT.below f.o),λj v L=>by
  rw [cell_of_row _ _ _ _ _ _ (ro11 c),List.getElem?_toArray];exact L⟩
 obtain ⟨t,x,l⟩:=k.callsR;have o:=Lh (senabled_any s (w:Nat) t x W l M);obtain ⟨n,m⟩:=ε (enS s s.A.length).length;have d:=Lh m;clear h C D E F G H I J K k l m;go_enter func18,ntmps18;go_upto_region 1 with fail;rw [<-c];clear c;go_wp2_with fail;refine o.o.mono ?_;rintro e U ⟨a,u,rfl,i,p⟩;have g:=Lh (f.o.th i);clear i p;rw [<-d.o];by_cases b:n=0
 .have HR:=@Lh (decide (enS s s.A.length=[])=true) (by rw [decide_eq_true_eq];exact List.eq_nil_of_length_eq_zero (by rw [<-d.o];exact b))
  subst b;go_wp2;go_ret;exact ⟨by rw [HR.o];rfl,g.o⟩
 .have HR:=@Lh (decide (enS s s.A.length=[])=false) (by rw [decide_eq_false_iff_not];intro e;apply b;rw [d.o,e];rfl)
  have R:=ξ n 0 b;have S:((n:Int) == 0)=false:=by simp only [beq_eq_false_iff_ne,ne_eq];omega
  clear b;go_wp2;go_ret;exact ⟨by rw [HR.o];rfl,g.o⟩
