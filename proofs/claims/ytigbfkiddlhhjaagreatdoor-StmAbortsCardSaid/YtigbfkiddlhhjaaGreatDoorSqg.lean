import Derived.Test.YtigbfkiddlhhjaaGreatDoorSqf
import Derived.Test.YtigbfkiddlhhjaaGreatDoorNwn
set_option linter.all false
open Go renaming World→Ϣ,Value→ϒ
open Option renaming some→ς
open List renaming replicate→ϱ,mem_cons→ϰ
open Go.Value renaming slice→σ
open Go.Obj renaming cells→χ
namespace Go.Proofs.YtigbfkiddlhhjaaGreatDoor
open Go.RowKit Proofs.Tryz
variable {α:Type} {e t:TypeId} {n j sz i q bo:Nat} {Q:Exit->Act->Ϣ->Prop} {fin bb:Bool} {a a0:Act} {w W:Ϣ} {o:Oper} {c C0:A1} {v:ϒ} {s:Tra} {done:List Nat}
def hard_each {P:Program} {S:Ϣ->Prop} (fs:List (Nat×Oper)) (b:List Nat->Act->Ϣ->Prop) (C:b [] a w) (l:(fs.map (·.1)).Nodup)
  (c:∀ p∈fs,∀ done a w,p.1∉done->DE p (fs.filter (λq=>!done.contains q.1))=true->b done a w->p.2.wp P a w (λi g=>(S g\/(fin && p.1+1 == n)=true)/\b (p.1::done) i g) (NoPanic Q))
  (d:∀ done a w,(∀ p∈fs,p.1∈done)->b done a w->Q .normal a w):Dm P n Q S fin fs a w:=by
 have B:∀ (k:Nat) (done:List Nat) (a:Act) (w:Ϣ),(fs.filter (λq=>!done.contains q.1)).length=k->b done a w->Gu P n Q S fin k (fs.filter (λq=>!done.contains q.1)) a w:=by
  intro k;induction k with
  | zero=>
   intro done a w f j;have o:=List.eq_nil_of_length_eq_zero f;refine ⟨o,d done a w (λp D=>?_) j⟩;by_cases r:p.1∈done
   .exact r
   .have:p∈fs.filter (λq=>!done.contains q.1):=List.mem_filter.2 ⟨D,by simpa using r⟩
    rw [o] at this;cases this
  | succ k E=>
   intro done a w f j;refine .inr ⟨λe=>(by rw [e] at f;cases f),λx s t=>?_⟩;obtain ⟨A,z⟩:=List.mem_filter.1 s;have y:x.1∉done:=by simpa using z
   have v:((fs.filter (λq=>!done.contains q.1)).map (·.1)).Nodup:=List.Nodup.sublist (List.filter_sublist.map _) l;have m:(fs.filter (λq=>!done.contains q.1)).filter (λq=>q.1 != x.1)=fs.filter (λq=>!(x.1::done).contains q.1):=by rw [List.filter_filter];refine List.filter_congr (λq _=>?_);by_cases e:q.1=x.1<;>simp [e]
   have u:=Px v s;rw [m,f] at u;refine Oper.wp_mono (λi g h=>⟨h.1,?_⟩) (c x A done a w y t j);rw [m];exact E _ i g ω h.2
 have:=B _ [] a w rfl C;rw [List.filter_eq_self.2 (λp _=>by simp)] at this;exact ⟨this⟩
def wp_st {K:Act->Ϣ->Prop} (t:TypeId) (x y:Nat) (l:o.op=.store t (.tmp x) (.tmp y)) (i:o.dst=none) (b j:Nat) (d:Option Addr) (n cap:Nat) (m:a.eval (.tmp x)=.pointer (ς (π b j))) (p:a.eval (.tmp y)=σ d n cap) {u:ϒ} (g:w.cell? (π b j)=ς u) (k:w.frozen? (π b j)=false)
  (c:∀ w,(sizeOf t).run prog w=.ok 1 w) (h:K a (w.setCell (π b j) (σ d n cap))):o.wp prog a w K Q:=by
 have e:a.tmps[x]?.getD undef=.pointer (ς (π b j)):=by rw [<-Array.getD_eq_getD_getElem?];exact m
 have f:a.tmps[y]?.getD undef=σ d n cap:=by rw [<-Array.getD_eq_getD_getElem?];exact p
 unfold Oper.wp;simp [go_sem,execOp,l,i,e,f,g,k,c];exact h
def made_leaf {Z:Array ϒ} {x0:α} {f:α->List LeafK} (h:Ao w c (20+j) e sz v n (madeCells Z (n*sz)).toList) (t:Z.size=sz) (a:∀ x,(f x).length=sz) (s:0<sz) (B:∀ (k:Nat) (x:LeafK),(f x0)[k]?=ς x->∀ d,LeafAt w c d Z[k]! x):RowLf w c j v e sz ((ϱ n x0).flatMap f):=by
 refine ⟨n,_,h,by rw [flat_len a,List.length_replicate,Array.length_toList,size_madeCells],λi y x b r=>?_⟩;have m:i<n*sz:=by
  have:=(Ll r)
  rwa [flat_len a,List.length_replicate] at this
 have z:i / sz<n:=Nat.div_lt_of_lt_mul (by rw [Nat.mul_comm];exact m);have A:i % sz<sz:=Nat.mod_lt _ s;have u:i / sz*sz+i % sz=i:=Nat.div_add_mod' i sz;obtain ⟨g,o⟩:∃ g,(f x0)[i % sz]?=ς g:=⟨_,Lg (by rw [a];exact A)⟩
 have q:=flat_at a (l:=ϱ n x0) (i:=i / sz) (x:=x0) (by rw [List.getElem?_replicate,if_pos z]) (i % sz) g o;rw [u,r] at q;cases q;rw [Array.getElem?_toList] at b;unfold madeCells at b;rw [Array.getElem?_map,Array.getElem?_range,if_pos m] at b;have p:ς (Z[i % Z.size]!)=ς y:=b;rw [t] at p;cases p;exact B _ _ o _
def trxZ:Array ϒ:=#[ν,ι 0,ι 0,ι 0,ι 0,ι 0,ι 0,ι 0,ι 0,ι 0,ι 0,ν,ν]
def made_trx (h:Ao w c 25 62 13 v n (madeCells trxZ (n*13)).toList):RowLf w c 5 v 62 13 ((ϱ n zeroX).flatMap trxL):=by
 refine made_leaf (j:=5) h rfl (λ_=>rfl) ω (λk x a b=>?_)
 match k,a with
 | 0,a=>cases a;exact ⟨fraP_mono _,fraNil⟩
 | 1,a=>cases a;rfl
 | 2,a=>cases a;rfl
 | 3,a=>cases a;rfl
 | 4,a=>cases a;rfl
 | 5,a=>cases a;rfl
 | 6,a=>cases a;rfl
 | 7,a=>cases a;rfl
 | 8,a=>cases a;rfl
 | 9,a=>cases a;rfl
 | 10,a=>cases a;rfl
 | 11,a=>cases a;exact ⟨0,Ao.nil _ _ _ _ _⟩
 | 12,a=>cases a;exact ⟨0,Ao.nil _ _ _ _ _⟩
 | k+13,a=>simp [trxL,machLf] at a
def made_rows {b:TypeId} (x0:α) {f:α->LeafK} (d:f x0=.q b sz []) (h:Ao w c (20+j) e 1 v n (madeCells #[ν] (n*1)).toList):RowLf w c j v e 1 ((ϱ n x0).map f):=by
 rw [map_flat];refine made_leaf h rfl (λ_=>rfl) ω (λk x a g=>?_)
 match k,a with
 | 0,a=>simp at a;rw [<-a,d];exact ⟨0,Ao.nil _ _ _ _ _⟩
 | k+1,a=>simp at a
def nsC (n i:Nat):CellK:=if i=1 then .r 62 13 ((ϱ n zeroX).flatMap trxL) else if i=3 then .r 127 1 ((ϱ n ([]:List CD)).map outQ) else .r 22 1 ((ϱ n ([]:List Int)).map intQ)
def nsJ (i:Nat):Nat:=if i=1 then 5 else if i=3 then 7 else if i=5 then 8 else 9
def nsS (s:Tra) (n:Nat) (done:List Nat):Tra:={ s with active:=if 9∈done then ϱ n zeroX else s.active,results:=if 11∈done then ϱ n [] else s.results,Z:=if 13∈done then ϱ n [] else s.Z,P:=if 15∈done then ϱ n [] else s.P }
def nsC_ok (a:j<16):okCell (λt=>t=1) j (nsC n i):=by
 unfold nsC;split
 .exact ⟨by show ¬_=_;omega,okLeaf_lt (λi=>by show ¬_=_;omega)⟩
 .split
  .exact ⟨by show ¬_=_;omega,okLeaf_lt (λi=>by show ¬_=_;omega)⟩
  .exact ⟨by show ¬_=_;omega,okLeaf_lt (λi=>by show ¬_=_;omega)⟩
def nsJ_lt (i:Nat):nsJ i<16:=by unfold nsJ;split;omega;split;omega;split<;>omega
structure NsI (q n:Nat) (s:Tra) (W:Ϣ) (C0:A1) (bo:Nat) (a0:Act) (done:List Nat) (a:Act) (w:Ϣ) (f:Nat->ϒ) (c:A1):Prop where
 act:a=GS a0 (λi=>q+i) f (done.filter λi=>decide (i<8))
 nd:done.Nodup
 sub:∀ i∈done,i∈[1,3,5,7,9,11,13,15]
 st:SAt w c bo (nsS s n done)
 chg:AT (λt=>t=1) C0 c W w
 fact:∀ i∈done,i<8->CellAt w c (nsJ i) (f i) (nsC n i)/\∃ va,f i=σ va n n
def NsInv (q n:Nat) (s:Tra) (W:Ϣ) (C0:A1) (bo:Nat) (a0:Act) (done:List Nat) (a:Act) (w:Ϣ):Prop:=∃ f c,NsI q n s W C0 bo a0 done a w f c
def okCell_no {x:CellK}:okCell NO j x:=by
 cases x with
 | p x=>trivial
 | r e sz a=>exact ⟨no _,λi x _=>by cases x<;>first|trivial|exact no _⟩
 | i P=>trivial
def NsInv.eval {f:Nat->ϒ} (h:NsI q n s W C0 bo a0 done a w f c) {d:Nat} (b:∀ i∈[1,3,5,7],q+i≠d):a.eval (.tmp d)=a0.eval (.tmp d):=by
 rw [h.act];refine SA (λi k=>?_);obtain ⟨g,j⟩:=List.mem_filter.1 k;have e:=h.sub i g;have l:i<8:=by simpa using j
 simp only [ϰ,List.mem_nil_iff,or_false] at e;rcases e with rfl|rfl|rfl|rfl|rfl|rfl|rfl|rfl
 .exact b _ ψ
 .exact b _ ψ
 .exact b _ ψ
 .exact b _ ψ
 all_goals omega
def ns_mk (d:NsInv q n s W C0 bo a0 done a w) (y:i∉done) (G:i∈[1,3,5,7]) {z:ϒ} {bytes:Nat} (I:o.op=.makeSlice t (.tmp (q+(i - 1))) (.tmp (q+(i - 1)))) (p:o.dst=ς (q+i)) (J:prog.underlying t=ς (.slice e)) (F:(prog.info? e).map (λi=>(i.zero,i.size,i.bytes))=ς (ς z,sz,bytes)) (E:bytes<=1024)
  (K:a0.eval (.tmp (q+(i - 1)))=ι (n:Int)) (H:n<=1000) (hF:∀ h m v,Ao h m (20+nsJ i) e sz v n (madeCells z.cells (n*sz)).toList->CellAt h m (nsJ i) v (nsC n i)):o.wp prog a w (λA h=>(True\/bb=true)/\NsInv q n s W C0 bo a0 (i::done) A h) Q:=by
 obtain ⟨f,c,d⟩:=d;have C:=G;simp only [ϰ,List.mem_nil_iff,or_false] at C;refine X4 (q+(i - 1)) t e I J F E n ((NsInv.eval d (λj b=>?_)).trans K) H (λh M B=>?_)
 .simp only [ϰ,List.mem_nil_iff,or_false] at b
  omega
 .obtain ⟨m,hC,hh,hr⟩:=B c (20+nsJ i) d.st.hi
  rw [p];have x:∀ j∈done,(if j=i then Value.slice (ς (π w 0)) n n else f j)=f j:=λj b=>if_neg (λe=>y (by rw [<-e];exact b));refine ⟨.inl trivial,λj=>if j=i then σ (ς (π w 0)) n n else f j,m,?_,List.nodup_cons.2 ⟨y,d.nd⟩,λj b=>?_,?_,d.chg.trans (hC.mono (λt u=>absurd u (no t)) ω),λj b D=>?_⟩
  .have e1:(i::done).filter (λi=>decide (i<8))=i::done.filter (λi=>decide (i<8)):=by rw [List.filter_cons,if_pos φ]
   rw [e1];show _=(GS a0 (λi=>q+i) (λj=>if j=i then σ (ς (π w 0)) n n else f j) (done.filter λi=>decide (i<8))).put (ς (q+i)) (if i=i then σ (ς (π w 0)) n n else f i);rw [if_pos rfl,K4 (l:=done.filter λi=>decide (i<8)) (g:=f) (λj b=>x j (List.mem_filter.1 b).1),d.act]
  .rcases ϰ.1 b with rfl|b
   .simp only [ϰ,List.mem_nil_iff,or_false];omega
   .exact d.sub j b
  .have e2:nsS s n (i::done)=nsS s n done:=by
    unfold nsS;have r:∀ k,8<k->(k∈i::done↔k∈done):=λk N=>by simp [show k≠i by omega]
    simp only [r 9 ω,r 11 ω,r 13 ω,r 15 ω]
   rw [e2];exact d.st.chg hC hh (λt u=>absurd u (no t))
  .rcases ϰ.1 b with rfl|b
   .show CellAt h m (nsJ j) (if j=j then _ else _) _/\∃ L,(if j=j then _ else _)=_
    rw [if_pos rfl];exact ⟨hF _ _ _ hr,_,rfl⟩
   .obtain ⟨k1,k2⟩:=d.fact j b D
    show CellAt h m (nsJ j) (if j=i then _ else _) _/\∃ L,(if j=i then _ else _)=_;rw [x j b];exact ⟨k1.kp hC okCell_no,k2⟩
def ns_st (b:NsInv q n s W C0 bo a0 done a w) (C:i+8∉done) (D:i∈[1,3,5,7]) (g:i∈done) (x:Nat) (E:o.op=.store t (.tmp x) (.tmp (q+i))) (e:o.dst=none) (h:∀ w,(sizeOf t).run prog w=.ok 1 w)
  (H:q+7<x) (G:a0.eval (.tmp x)=.pointer (ς (π bo (nsJ i)))) (L:q+7<a0.tmps.size) (A:(traG (nsS s n done)).set (nsJ i) (nsC n i)=traG (nsS s n ((i+8)::done))) (B:∃ u,(traG (nsS s n done))[nsJ i]?=ς u):o.wp prog a w (λr K=>(True\/bb=true)/\NsInv q n s W C0 bo a0 ((i+8)::done) r K) Q:=by
 obtain ⟨f,c,b⟩:=b;have v:=D;simp only [ϰ,List.mem_nil_iff,or_false] at v;obtain ⟨k,p,m⟩:=b.fact i g ω;have I:a.eval (.tmp (q+i))=σ p n n:=by show a.tmps.getD (q+i) undef=_;have:=NB (a:=a0) (sl:=λi=>q+i) (f:=f) (i:=i) (l:=done.filter λi=>decide (i<8)) (λj _ d=>by have:q+j=q+i:=d;omega) (List.mem_filter.2 ⟨g,by simp;omega⟩) (by show q+i<_;omega);rw [<-b.act] at this;rw [Array.getD_eq_getD_getElem?,show a.tmps[q+i]?=ς (f i) from this,m];rfl
 obtain ⟨u0,y⟩:=B;obtain ⟨u,F,-⟩:=GStAt.at0 (show GStAt w c _ bo (traG (nsS s n done)) from b.st) y;rw [m] at k;obtain ⟨J,cg⟩:=GStAt.put0 (show GStAt w c _ bo (traG (nsS s n done)) from b.st) k;refine wp_st t x (q+i) E e bo (nsJ i) p n n ((NsInv.eval b (λj d=>?_)).trans G) I F (GStAt.frz (show GStAt w c _ bo (traG (nsS s n done)) from b.st) _) h ⟨.inl trivial,f,c,?_,List.nodup_cons.2 ⟨C,b.nd⟩,λj d=>?_,SAt.of J A,b.chg.trans cg,λj d z=>?_⟩
 .simp only [ϰ,List.mem_nil_iff,or_false] at d
  omega
 .rw [b.act,List.filter_cons,if_neg ψ]
 .rcases ϰ.1 d with rfl|d
  .simp only [ϰ,List.mem_nil_iff,or_false];omega
  .exact b.sub j d
 .rcases ϰ.1 d with rfl|d
  .omega
  .obtain ⟨k3,k4⟩:=b.fact j d z
   exact ⟨k3.kp cg (nsC_ok (nsJ_lt j)),k4⟩
def ns_region {N:Nat} {u x y z o9 d e g:Oper} (hs:SAt W C0 bo s) (F:n<=1000) (H:q+7<a0.tmps.size)
  (O:u.op=.makeSlice 35 (.tmp q) (.tmp q)/\u.dst=ς (q+1)) (P:x.op=.makeSlice 36 (.tmp (q+2)) (.tmp (q+2))/\x.dst=ς (q+3)) (R:y.op=.makeSlice 34 (.tmp (q+4)) (.tmp (q+4))/\y.dst=ς (q+5)) (S:z.op=.makeSlice 34 (.tmp (q+6)) (.tmp (q+6))/\z.dst=ς (q+7))
  (T:o9.op=.store 35 (.tmp (q+8)) (.tmp (q+1))/\o9.dst=none) (B:d.op=.store 36 (.tmp (q+9)) (.tmp (q+3))/\d.dst=none) (C:e.op=.store 34 (.tmp (q+10)) (.tmp (q+5))/\e.dst=none) (D:g.op=.store 34 (.tmp (q+11)) (.tmp (q+7))/\g.dst=none)
  (I:waits (9,o9) (1,u)=true/\waits (11,d) (3,x)=true/\waits (13,e) (5,y)=true/\waits (15,g) (7,z)=true)
  (J:a0.eval (.tmp q)=ι (n:Int)/\a0.eval (.tmp (q+2))=ι (n:Int)/\a0.eval (.tmp (q+4))=ι (n:Int)/\a0.eval (.tmp (q+6))=ι (n:Int))
  (G:a0.eval (.tmp (q+8))=.pointer (ς (π bo 5))/\a0.eval (.tmp (q+9))=.pointer (ς (π bo 7))/\a0.eval (.tmp (q+10))=.pointer (ς (π bo 8))/\a0.eval (.tmp (q+11))=.pointer (ς (π bo 9)))
  (Z:∀ (f:Nat->ϒ) (c:A1) (w:Ϣ),SAt w c bo { s with active:=ϱ n zeroX,results:=ϱ n [],Z:=ϱ n [],P:=ϱ n [] }->AT (λt=>t=1) C0 c W w->Q .normal (GS a0 (λi=>q+i) f [7,5,3,1]) w) :
  Dm prog N Q (λ_=>True) fin [(1,u),(3,x),(5,y),(7,z),(9,o9),(11,d),(13,e),(15,g)] a0 W:=by
 have E:∀ {done:List Nat} {p r:Nat×Oper},r∈[(1,u),(3,x),(5,y),(7,z),(9,o9),(11,d),(13,e),(15,g)]->DE p ([(1,u),(3,x),(5,y),(7,z),(9,o9),(11,d),(13,e),(15,g)].filter (λq=>!done.contains q.1))=true->waits p r=true->r.1∈done:=fun {done p r} m o Y=>by
  by_cases l:r.1∈done
  .exact l
  .unfold DE at o
   rw [List.all_eq_true] at o;have:=o r (List.mem_filter.2 ⟨m,by simpa using l⟩);rw [Y] at this;cases this
 refine hard_each _ (NsInv q n s W C0 bo a0) ⟨λ_=>undef,C0,rfl,List.nodup_nil,ψ,hs,AT.ob Br ω,ψ⟩ ψ ?_ ?_
 .intro p aF done a w l o b
  simp only [ϰ,List.mem_nil_iff,or_false] at aF;rcases aF with rfl|rfl|rfl|rfl|rfl|rfl|rfl|rfl
  .exact ns_mk b l ψ O.1 O.2 underlying35 info_strx δ J.1 F (λM L v m=>made_trx m)
  .exact ns_mk b l ψ P.1 P.2 underlying36 info_souts δ J.2.1 F (λM L v m=>made_rows (f:=outQ) [] rfl m)
  .exact ns_mk b l ψ R.1 R.2 underlying34 info_sints δ J.2.2.1 F (λM L v m=>made_rows (f:=intQ) [] rfl m)
  .exact ns_mk b l ψ S.1 S.2 underlying34 info_sints δ J.2.2.2 F (λM L v m=>made_rows (f:=intQ) [] rfl m)
  .exact ns_st (i:=1) b l ψ (E (r:=(1,u)) ψ o I.1) (q+8) T.1 T.2 (λw=>by kernel_rfl) ω G.1 H (by simp [nsS,nsJ,nsC,traG]) ⟨_,rfl⟩
  .exact ns_st (i:=3) b l ψ (E (r:=(3,x)) ψ o I.2.1) (q+9) B.1 B.2 (λw=>by kernel_rfl) ω G.2.1 H (by simp [nsS,nsJ,nsC,traG]) ⟨_,rfl⟩
  .exact ns_st (i:=5) b l ψ (E (r:=(5,y)) ψ o I.2.2.1) (q+10) C.1 C.2 (λw=>by kernel_rfl) ω G.2.2.1 H (by simp [nsS,nsJ,nsC,traG]) ⟨_,rfl⟩
  .exact ns_st (i:=7) b l ψ (E (r:=(7,z)) ψ o I.2.2.2) (q+11) D.1 D.2 (λw=>by kernel_rfl) ω G.2.2.2 H (by simp [nsS,nsJ,nsC,traG]) ⟨_,rfl⟩
 .intro done a w aA b
  obtain ⟨f,c,b⟩:=b;have A:∀ i∈[1,3,5,7,9,11,13,15],i∈done:=λi V=>by
   simp only [ϰ,List.mem_nil_iff,or_false] at V;rcases V with rfl|rfl|rfl|rfl|rfl|rfl|rfl|rfl
   .exact aA (1,u) ψ
   .exact aA (3,x) ψ
   .exact aA (5,y) ψ
   .exact aA (7,z) ψ
   .exact aA (9,o9) ψ
   .exact aA (11,d) ψ
   .exact aA (13,e) ψ
   .exact aA (15,g) ψ
  have K:=b.st;unfold nsS at K;rw [if_pos (A 9 ψ),if_pos (A 11 ψ),if_pos (A 13 ψ),if_pos (A 15 ψ)] at K;have X:(done.filter λi=>decide (i<8)).Perm [7,5,3,1]:=by
   refine (List.perm_ext_iff_of_nodup (b.nd.sublist List.filter_sublist) ψ).2 (λi=>?_);rw [List.mem_filter];constructor
   .rintro ⟨k1,k2⟩
    have k3:=b.sub i k1;have k4:i<8:=by simpa using k2
    simp only [ϰ,List.mem_nil_iff,or_false] at k3 ⊢;omega
   .intro k
    simp only [ϰ,List.mem_nil_iff,or_false] at k;exact ⟨A i (by simp only [ϰ,List.mem_nil_iff,or_false];omega),by simp;omega⟩
  have U:=b.act;rw [SB X (λi _ j _ h=>by have:q+i=q+j:=h;omega)] at U;rw [U];exact Z f c w K b.chg
