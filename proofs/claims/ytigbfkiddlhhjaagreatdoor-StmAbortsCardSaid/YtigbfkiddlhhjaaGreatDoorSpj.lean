import Derived.Test.YtigbfkiddlhhjaaGreatDoorSpi
import Derived.Test.YtigbfkiddlhhjaaGreatDoorSpe
set_option maxHeartbeats 1000000
set_option maxRecDepth 100000
set_option linter.all false
open Go renaming World→Ϣ,Value→ϒ,Calls→ϙ
open Option renaming some→ς
open Go.Value renaming slice→σ
open Go.Obj renaming cells→χ
namespace Go.Proofs.YtigbfkiddlhhjaaGreatDoor
open Go.RowKit Proofs.Tryz
variable {k bt i n ab cap n2:Nat} {y:Int×Int×Int} {w w1:Ϣ} {c c1:A1} {s:Tra} {x:Trx} {u v:ϒ}
def indexFunc_Wr (s:Nat) (c:Array ϒ) (p:(Int×Int×Int)->Bool) (l:List (Int×Int×Int)) (v:ϒ) (B:Nat) (w:Ϣ) (J:An s) (S:B<=w) (m:AE B w 3 WrE v l)
  (C:∀ (x:Int×Int×Int) (w1:Ϣ),Below w w w1->ϙ prog s (#[.agg #[ι x.1,ι x.2.1,ι x.2.2]]++c) w1 (λe t=>e=.returned (.bool (p x))/\Below w1 w1 t)) :
  ϙ prog 107 #[v,.func (.func s) #[] c] w λe L=>e=.returned (ι (Cz p l))/\Below w w L:=by
 obtain ⟨a,cap,rfl,U,N,O,m⟩:=m;have F:=Lh m;have E:=Lh C;unfold An at J;clear m C;go_enter func107,ntmps107;go_wp2;go_loopw [8] (λi wr=>∃ k:Nat,k<=l.length/\i=ι k/\Below w w wr/\Hid (∀ j x,j<k->l[j]?=ς x->p x=false)) (λi _=>l.length - (intOf i).toNat)
 case atStart=>exact ⟨0,Nat.zero_le _,rfl,Below.refl _ _,λj x D=>by omega⟩
 case round=>
  obtain ⟨k,T,rfl,f,q⟩:=hrel;by_cases I:k<l.length
  .obtain ⟨x,hx⟩:∃ x,l[k]?=ς x:=⟨_,Lg I⟩
   rcases F.o with h|⟨b,o,rfl,M,r⟩
   .subst h;simp at hx
   have r:=ups_wr B B w wr b (o+k*3) x (Nr _) (λV u K=>AB f K) (r k x hx);obtain ⟨P,Q,R⟩:=r;have z:=Lh hx;clear hx;go_wp2_with fail;refine (E.o x wr f).mono ?_;rintro e t ⟨rfl,G⟩;have A:Below w w t:=f.trans (G.mono f.size);cases g:p x with
   | true=>have d:=Lh (DO z.o g q);clear g;go_wp2;go_ret;exact ⟨by rw [d.o];rfl,A⟩
   | false=>
    have d:Hid (∀ j x,j<k+1->l[j]?=ς x->p x=false):=by
     intro j y D n;by_cases H:j=k
     .subst H;have:=z.o.symm.trans n;simp at this;rw [<-this];exact g
     .exact q j y ω n
    clear g;go_wp2;go_roundw
    case rel=>exact ⟨k+1,ω,by go_num,A,d⟩
    case measure=>simp [intOf];omega
  .have d:=Lh (CR (p:=p) (l:=l) (λj y D n=>q j y ω n))
   go_wp2;go_ret;exact ⟨by rw [d.o];rfl,f⟩
def enters_access1:An 108:=λ_ _=>by kernel_rfl
def access1_any (r:Rq) (x:Int×Int×Int) (br:Nat) (w:Ϣ) (h:w.cell? (π br 1)=ς (ι r.O)) (i:w.cell? (π br 2)=ς (ι r.D)) :
  ϙ prog 108 #[.agg #[ι x.1,ι x.2.1,ι x.2.2],.pointer (ς (π br 0))] w λe j=>e=.returned (.bool (wrAt r x))/\Below w w j:=by
 obtain ⟨W,b⟩:=ε (w.alloc (χ #[ι x.1,ι x.2.1,ι x.2.2] 120));have a:=Lh (bl1 b);have g:W.heap[(w:Nat)]?=ς (χ #[ι x.1,ι x.2.1,ι x.2.2] 120 (0,0)):=ro11 b;have k:=Ω2 g;have l:=AB a.o h;have m:=AB a.o i;have f:=@Lh (wrAt r x=((x.1 == r.O) && (x.2.1 == r.D))) rfl;clear h i g;go_enter func108,ntmps108;go_upto_region 1 with fail;rw [<-b];clear b;by_cases c:x.1=r.O
 .have d1:=ζ x.1 r.O c
  have d:=@Lh (wrAt r x=(x.2.1 == r.D)) (by rw [f.o,d1,Bool.true_and]);clear c;go_wp2;go_ret;exact ⟨by rw [d.o];rfl,a.o⟩
 .have d1:=ξ x.1 r.O c
  have d:=@Lh (wrAt r x=false) (by rw [f.o,d1,Bool.false_and]);clear c;go_wp2;go_ret;exact ⟨by rw [d.o];rfl,a.o⟩
def access1_fn (r:Rq) (br:Nat) (w:Ϣ) (b:w.cell? (π br 1)=ς (ι r.O)) (c:w.cell? (π br 2)=ς (ι r.D)):∀ (x:Int×Int×Int) (w1:Ϣ),Below w w w1->ϙ prog 108 (#[.agg #[ι x.1,ι x.2.1,ι x.2.2]]++#[.pointer (ς (π br 0))]) w1 (λe d=>e=.returned (.bool (wrAt r x))/\Below w1 w1 d):=
 λx w1 a=>access1_any r x br w1 (AB a b) (AB a c)
def pair_run (a b c d:Int) (w:Ϣ):(Go.binOp .eql 85 (.agg #[ι a,ι b]) (.agg #[ι c,ι d])).run prog w=.ok (.bool (a == c && b == d)) w:=by
 simp only [Go.binOp];simp [pair_eq a b c d w]
def index_Rd (c d:Int) (l:List (Int×Int)) (v:ϒ) (B:Nat) (w:Ϣ) (U:B<=w) (q:AE B w 2 RdE v l) :
  ϙ prog 140 #[v,.agg #[ι c,ι d]] w λe M=>e=.returned (ι (Cz (λr:Int×Int=>c == r.1 && d == r.2) l))/\Below w w M:=by
 obtain ⟨a,cap,rfl,X,O,P,q⟩:=q;obtain ⟨W,n⟩:=ε (w.alloc (χ #[ι c,ι d] 85));have F:=Lh (bl1 n);have E:W.heap[(w:Nat)]?=ς (χ #[ι c,ι d] 85 (0,0)):=ro11 n;have A:=Ω2 E;have H:=Lh q;clear q E;go_enter func140,ntmps140;go_upto_region 1 with fail;rw [<-n];clear n;go_wp2;go_loopw [8] (λi wr=>∃ k:Nat,k<=l.length/\i=ι k/\Below W W wr/\Hid (∀ j x,j<k->l[j]?=ς x->(c == x.1 && d == x.2)=false)) (λi _=>l.length - (intOf i).toNat)
 case atStart=>exact ⟨0,Nat.zero_le _,rfl,Below.refl _ _,λj x G=>by omega⟩
 case round=>
  obtain ⟨k,V,rfl,m,z⟩:=hrel;have t:=Lh (Below.trans F.o (m.mono F.o.size));by_cases K:k<l.length
  .obtain ⟨x,hx⟩:∃ x,l[k]?=ς x:=⟨_,Lg K⟩
   rcases H.o with h|⟨b,o,rfl,N,C⟩
   .subst h;simp at hx
   have C:=ups_rd B B w _ b (o+k*2) x (Nr _) (λY u L=>AB t.o L) (C k x hx);obtain ⟨S,T⟩:=C;have Q:=AB m A.1;have R:=AB m A.2;have D:=Lh hx;have I:=Lh m;have PE:=pair_run c d x.1 x.2;clear hx A m;cases f:(c == x.1 && d == x.2) with
   | true=>have g:=Lh (DO (p:=λr:Int×Int=>c == r.1 && d == r.2) D.o f z);rw [f] at PE;clear f;go_upto_region 4 with fail;go_quiet (fail);go_wp2;go_ret;exact ⟨by rw [g.o];rfl,AG t.o _⟩
   | false=>
    have g:Hid (∀ j x,j<k+1->l[j]?=ς x->(c == x.1 && d == x.2)=false):=by
     intro j y G s;by_cases J:j=k
     .subst J;have:=D.o.symm.trans s;simp only [Option.some.injEq] at this;rw [<-this];exact f
     .exact z j y ω s
    rw [f] at PE;clear f;go_upto_region 4 with fail;go_quiet (fail);go_wp2;go_roundw
    case rel=>exact ⟨k+1,ω,by go_num,AG I.o _,g⟩
    case measure=>simp [intOf];omega
  .have g:=Lh (CR (p:=λr:Int×Int=>c == r.1 && d == r.2) (l:=l) (λj y G s=>z j y ω s))
   go_wp2;go_ret;exact ⟨by rw [g.o];rfl,t.o⟩
def pair_mem (r:Int×Int) (l:List (Int×Int)):decide (0<=Cz (λy:Int×Int=>r.1 == y.1 && r.2 == y.2) l)=decide (r∈l):=by
 rw [Ci,Bool.eq_iff_iff,decide_eq_true_iff,List.any_eq_true];constructor
 .rintro ⟨y,hy,h⟩
  simp only [Bool.and_eq_true,beq_iff_eq] at h;have:y=r:=Prod.ext h.1.symm h.2.symm;exact this▸hy
 .intro h
  exact ⟨r,h,ψ⟩
def contains_Rd (a b:Int) (l:List (Int×Int)) (v:ϒ) (B:Nat) (w:Ϣ) (m:B<=w) (g:AE B w 2 RdE v l) :
  ϙ prog 109 #[v,.agg #[ι a,ι b]] w λe p=>e=.returned (.bool (decide ((a,b)∈l)))/\Below w w p:=by
 obtain ⟨W,d⟩:=ε (w.alloc (χ #[ι a,ι b] 85));have c:=Lh (bl1 d);have f:W.heap[(w:Nat)]?=ς (χ #[ι a,ι b] 85 (0,0)):=ro11 d;have q:=Ω2 f;have h:=@Lh (AE B W 2 RdE v l) (g.ups (E:=λ_=>RdE) ups_rd (Nr _) (λr u o=>AB c.o o));have i:B<=W:=Nt m c.o.size;have n:=Lh (pair_mem (a,b) l);clear g f;go_enter func109,ntmps109;go_upto_region 1 with fail;rw [<-d];clear d;go_wp2_with fail;refine (index_Rd a b l v B W i h.o).mono ?_;rintro e s ⟨rfl,j⟩;have k:=Lh (c.o.trans (j.mono c.o.size));go_wp2;go_ret;exact ⟨by rw [<-n.o];rfl,k.o⟩
def flat_put {l:List (Int×Int×Int)} (b:l[k]?=ς y) (o:Int):(l.flatMap wrL).set (k*3+2) (ι o)=(l.modify k (λw=>(w.1,w.2.1,o))).flatMap wrL:=by
 have e:l.modify k (λw=>(w.1,w.2.1,o))=l.set k (y.1,y.2.1,o):=by
  apply List.ext_getElem?;intro j;rw [List.getElem?_modify,List.getElem?_set];by_cases a:k=j
  .subst a;have:=(Ll b);rw [b,if_pos rfl,if_pos this];simp
  .rw [if_neg a];cases l[j]?<;>simp [a]
 rw [e];exact flat_set (f:=wrL) (sz:=3) (x':=(y.1,y.2.1,o)) (λ_=>rfl) b 2 (ι o) ω rfl
def SAt.modW (h:SAt w c bt s) {b a:Nat} (o:Int) (e:s.active[i]?=ς x) (q:x.writes[k]?=ς y) (p:w.cell? (π bt 5)=ς (σ (ς (π ab 0)) n cap)) (m:w.cell? (π ab (i*13+12))=ς (σ (ς (π b 0)) n2 a))
  (l:LeafAt w c (100+16*(i*13+12)+5) (σ (ς (π b 0)) n2 a) (wrQ x.writes)) :
  SAt (w.setCell (π b (k*3+2)) (ι o)) c bt { s with active:=s.active.set i { x with writes:=x.writes.modify k (λw=>(w.1,w.2.1,o)) } }/\AT (λt=>t=100+16*(i*13+12)+5) c c w (w.setCell (π b (k*3+2)) (ι o)):=by
 obtain ⟨d,g⟩:=GStAt.put2 h (j:=5) (k:=k*3+2) (u:=ι o) rfl p m (flat_at (f:=trxL) (sz:=13) (λ_=>rfl) e 12 (wrQ x.writes) rfl) l;rw [flat5 s i { x with writes:=x.writes.modify k (λw=>(w.1,w.2.1,o)) }] at d
 .exact ⟨d,g⟩
 .exact flat_set (f:=trxL) (sz:=13) (λ_=>rfl) e 12 _ ω (by rw [flat_put q];rfl)
def SAt.addRd (h:SAt w c bt s) {o:Int×Int} (e:s.active[i]?=ς x) (p:w.cell? (π bt 5)=ς (σ (ς (π ab 0)) n cap)) (l:w.cell? (π ab (i*13+11))=ς u)
  (k:AT (λt=>t=100+16*(i*13+11)+5) c c1 w w1) (a:∀ b,(w1:Nat)<=b->c1 b=0) (m:Ao w1 c1 (100+16*(i*13+11)+5) 85 2 v n2 (x.reads.flatMap rdL++rdL o)) :
  SAt (w1.setCell (π ab (i*13+11)) v) c1 bt { s with active:=s.active.set i { x with reads:=x.reads++[o] } }/\AT (λt=>20<=t) c c1 w (w1.setCell (π ab (i*13+11)) v):=by
 obtain ⟨d,g⟩:=GStAt.app2 h (j:=5) rfl p l (flat_at (f:=trxL) (sz:=13) (λ_=>rfl) e 11 (rdQ x.reads) rfl) k a m;rw [flat5 s i { x with reads:=x.reads++[o] }] at d
 .exact ⟨d,g⟩
 .exact flat_set (f:=trxL) (sz:=13) (λ_=>rfl) e 11 _ ω (by simp [trxL,machLf])
def SAt.addWr (h:SAt w c bt s) {o:Int×Int×Int} (e:s.active[i]?=ς x) (p:w.cell? (π bt 5)=ς (σ (ς (π ab 0)) n cap)) (l:w.cell? (π ab (i*13+12))=ς u)
  (k:AT (λt=>t=100+16*(i*13+12)+5) c c1 w w1) (a:∀ b,(w1:Nat)<=b->c1 b=0) (m:Ao w1 c1 (100+16*(i*13+12)+5) 120 3 v n2 (x.writes.flatMap wrL++wrL o)) :
  SAt (w1.setCell (π ab (i*13+12)) v) c1 bt { s with active:=s.active.set i { x with writes:=x.writes++[o] } }/\AT (λt=>20<=t) c c1 w (w1.setCell (π ab (i*13+12)) v):=by
 obtain ⟨d,g⟩:=GStAt.app2 h (j:=5) rfl p l (flat_at (f:=trxL) (sz:=13) (λ_=>rfl) e 12 (wrQ x.writes) rfl) k a m;rw [flat5 s i { x with writes:=x.writes++[o] }] at d
 .exact ⟨d,g⟩
 .exact flat_set (f:=trxL) (sz:=13) (λ_=>rfl) e 12 _ ω (by simp [trxL,machLf])
def SAt.placeC (h:SAt w c bt s) {r:Rq} {b o:Nat} (j:Wv w bt r b o) (i:0<=r.D) (hl:r.D<((Bd s.M r).length:Int)) :
  w.cell? (π b (o+r.D.toNat))=ς (ι ((Bd s.M r).getD r.D.toNat 0))/\(c b=20\/∃ k,c b=100+16*k+1):=by
 obtain ⟨rfl,u,-⟩:=h.place j i hl 0;refine ⟨by rw [Nat.zero_add];exact u,?_⟩;rcases j with ⟨d,n,k,a⟩|⟨d,D,no,n,k,n2,A,a,g⟩
 .obtain ⟨ga,gc,b0,hg⟩:=h.globs
  rw [Gm d] at hl;have f:s.M.G[r.D.toNat]?=ς (s.M.G[r.D.toNat]'ω):=Lg ω;obtain ⟨p,rfl,q,e,t⟩:=hg r.D.toNat _ f;rw [b0] at a;cases a;exact .inl e
 .obtain ⟨na,nc,b1,hN⟩:=h.nods
  obtain ⟨y,l⟩:=Jt d i hl;rw [IJ d l] at hl;obtain ⟨z,B,C,rfl,v,x,m⟩:=hN _ y l;have f:y.f[r.D.toNat]?=ς (y.f[r.D.toNat]'ω):=Lg ω;obtain ⟨p,rfl,q,e,t⟩:=m r.D.toNat _ f;rw [b1] at a;cases a;rw [Nat.zero_add,v] at g;cases g;exact .inr ⟨_,e⟩
