import Derived.ChangeKeysEq
import Derived.DeepKeys3
import Derived.Test.YtigbfkiddlhhjaaGreatDoorSpd
set_option maxHeartbeats 4000000
set_option maxRecDepth 100000
set_option linter.all false
open Go renaming World→Ϣ
open Option renaming some→ς
open Go.Value renaming slice→σ
open Go.Obj renaming cells→χ
namespace Go.Proofs.YtigbfkiddlhhjaaGreatDoor
open Go.RowKit Proofs.Tryz
variable {α:Type} {l:List (Int×Int)} {a b f:Int} {w w':Ϣ} {mb k B n cap bt:Nat} {m:Mm} {x:α}
def part_two (a b:Int) (i:Nat) (v:Value) (h:(#[ι a,ι b]:Array Value)[i]?=ς v) (w:Ϣ):(part 3 #[ι a,ι b] i).run prog w=.ok v w:=
 run_part_plain w κ h
def pair_eq (a b c d:Int) (w:Ϣ):(Op.equal 85 (.agg #[ι a,ι b]) (.agg #[ι c,ι d])).run prog w=.ok (a == c && b == d) w:=by
 obtain ⟨i,j,-⟩:=info_parts (P:=prog) (e:=3) (z:=ι 0) (size:=1) (bytes:=8) κ;have g:prog.cellsOf 3=1:=by kernel_rfl
 unfold Op.equal Op.maxDepth;rw [run_equalIn_array w 9999 _ _ underlying85 j,g];simp only [List.range,List.range.loop,Op.eqItems,Sem.run_bind,Nat.zero_mul,Nat.one_mul];rw [part_two a b 0 (ι a) rfl,Result.andThen_ok,part_two c d 0 (ι c) rfl,Result.andThen_ok,run_equalIn_int w 9998 _ _ _ _ _ underlying3,Result.andThen_ok];by_cases h:a=c
 .subst h
  simp only [beq_self_eq_true,Bool.not_true,Bool.false_eq_true,if_false,Sem.run_bind];rw [part_two a b 1 (ι b) rfl,Result.andThen_ok,part_two a d 1 (ι d) rfl,Result.andThen_ok,run_equalIn_int w 9998 _ _ _ _ _ underlying3,Result.andThen_ok];by_cases f:b=d
  .subst f;simp
  .simp [f]
 .simp [h]
def pairE (l:List (Int×Int)):List MapEntry:=l.zipIdx.map λp=>⟨.agg #[ι p.1.1,ι p.1.2],.bool true,p.2⟩
def pairE_add (l:List (Int×Int)) (r:Int×Int):pairE (l++[r])=pairE l++[⟨.agg #[ι r.1,ι r.2],.bool true,l.length⟩]:=by
 unfold pairE;rw [List.zipIdx_append,List.map_append];simp
def pair_check' (a b:Int) (e:Bool) (n:Nat) (w:Ϣ):(Instr.checkKey e (n+1+1) 85 (.agg #[ι a,ι b])).run prog w=.ok () w:=by
 obtain ⟨i,d,f,c,g⟩:=info_parts (P:=prog) (e:=3) (z:=ι 0) (size:=1) (bytes:=8) κ;simp [Instr.checkKey,run_underlying underlying85,Std.Legacy.Range.forIn_eq_forIn_range',Std.Legacy.Range.size,List.range',sizeOf,typeInfo,d,c,part_two a b 0 (ι a) rfl,part_two a b 1 (ι b) rfl,run_underlying underlying3]
def pair_check (a b:Int) (e:Bool) (w:Ϣ):(Instr.checkKey e 10000 85 (.agg #[ι a,ι b])).run prog w=.ok () w:=pair_check' a b e 9998 w
def pair_find (a b:Int) (w:Ϣ):∀ (l:List MapEntry) (k:Nat),(∀ e∈l,∃ c d:Int,e.key=.agg #[ι c,ι d]/\¬(a=c/\b=d))->(Instr.findAsking 85 (.agg #[ι a,ι b]) l k).run prog w=.ok none w
 | [],_,_=>by simp [Instr.findAsking]
 | e::l,k,h=>by
  obtain ⟨c,d,f,i⟩:=h e (List.mem_cons_self ..);have:(a == c && b == d)=false:=by
   rw [Bool.and_eq_false_iff];by_cases g:a=c
   .exact .inr (by simp;exact λj=>i ⟨g,j⟩)
   .exact .inl (by simpa using g)
  simp only [Instr.findAsking,Sem.run_bind,f,pair_eq,Result.andThen_ok,this,Bool.false_eq_true,if_false];exact pair_find a b w l (k+1) (λe f=>h e (List.mem_cons_of_mem _ f))
def pairE_mem {r:Int×Int} (h:r∉l):∀ e∈pairE l,∃ c d:Int,e.key=.agg #[ι c,ι d]/\¬(r.1=c/\r.2=d):=λe a=>by
 unfold pairE at a;obtain ⟨⟨⟨c,d⟩,i⟩,k,rfl⟩:=List.mem_map.1 a;refine ⟨c,d,rfl,λ⟨b,f⟩=>h ?_⟩;have:(c,d)∈l:=by have:=List.mem_zipIdx k;simp at this;obtain ⟨g,j⟩:=this;rw [j];exact List.getElem_mem g
 rw [show r=(c,d) from Prod.ext b f];exact this
def pair_fkey (a b:Int) (w:Ϣ) (l:List MapEntry):(Instr.findKey 85 (.agg #[ι a,ι b]) l).run prog w=(Instr.findAsking 85 (.agg #[ι a,ι b]) l).run prog w:=run_findKey_eq w κ _ _
def zero_bool (w:Ϣ):(zeroValue 4).run prog w=.ok (.bool false) w:=by kernel_rfl
def pair_look (h:(a,b)∉l) (d:w.heap[mb]?=ς (.map (pairE l).toArray k)) :
  (Instr.lookup 188 (.map (ς mb)) (.agg #[ι a,ι b]) false).run prog w=.ok (.bool false) w:=by
 have c:=pair_find a b w (pairE l) 0 (pairE_mem h);simp [Instr.lookup,run_underlying underlying188,MapKept.run_getObj_map d,pair_check,pair_fkey,c,zero_bool]
def pair_store (h:(a,b)∉l) (c:w.heap[mb]?=ς (.map (pairE l).toArray l.length)) :
  (Instr.mapUpdate 188 (.map (ς mb)) (.agg #[ι a,ι b]) (.bool true)).run prog w=.ok () { w with heap:=w.heap.setIfInBounds mb (.map (pairE (l++[(a,b)])).toArray (l++[(a,b)]).length) }:=by
 have d:=pair_find a b w (pairE l) 0 (pairE_mem h);rw [pairE_add];simp [Instr.mapUpdate,run_underlying underlying188,MapKept.run_getObj_map c,pair_check,pair_fkey,d,MapKept.run_setObj_map _ c,Result.andThen]
def below_setMap (h:Below B w w') (c:B<=mb) (o:Obj):Below B w { w' with heap:=w'.heap.setIfInBounds mb o }:=
 ⟨h.os,h.tape,h.output,by simpa using h.size,λb a=>by
  rw [Array.getElem?_setIfInBounds,if_neg ω];exact h.block b a⟩
def heap_setMap {o p:Obj} (h:w.heap[mb]?=ς p):({ w with heap:=w.heap.setIfInBounds mb o }:Ϣ).heap[mb]?=ς o:=by
 have:=(La h)
 show (w.heap.setIfInBounds mb o)[mb]?=ς o;rw [Array.getElem?_setIfInBounds,if_pos rfl,if_pos this]
def rd_at {a:Option Addr} (h:AE B w 2 RdE (σ a n cap) l) {x:Int×Int} (f:l[k]?=ς x):∃ b o,a=ς (π b o)/\w.cell? (π b (o+k*2))=ς (ι x.1)/\w.cell? (π b (o+k*2+1))=ς (ι x.2):=by
 obtain ⟨b,o,c,_,d,e⟩:=h.nth f;exact ⟨b,o,c,d,e⟩
def wr_at {a:Option Addr} {l:List (Int×Int×Int)} (h:AE B w 3 WrE (σ a n cap) l) {x:Int×Int×Int} (g:l[k]?=ς x):∃ b o,a=ς (π b o)/\w.cell? (π b (o+k*3))=ς (ι x.1)/\w.cell? (π b (o+k*3+1))=ς (ι x.2.1)/\w.cell? (π b (o+k*3+2))=ς (ι x.2.2):=by
 obtain ⟨b,o,c,_,d,e,f⟩:=h.nth g;exact ⟨b,o,c,d,e,f⟩
def BoxR.memRd {s:Tra} (h:BoxR w bt s):Kt w bt s.M:=by
 obtain ⟨y,z,B,p,r,A,q,u,t,a⟩:=h.opened;obtain ⟨g,k,rfl⟩:=a.g.1.form;obtain ⟨m,n,rfl⟩:=a.n.1.form;refine ⟨⟨g,k,a.g.2,λj v c=>?_⟩,m,n,a.n.2,λi x l=>?_⟩
 .obtain ⟨b,o,e,_⟩:=a.g.1.nth c
  exact ⟨b,o,e⟩
 .obtain ⟨nb,no,e,_,_,⟨fv,h2,h3⟩,_⟩:=a.n.1.nth l
  obtain ⟨d,f,rfl⟩:=h3.form;exact ⟨nb,no,d,f,e,h2,λj v c=>by
   obtain ⟨b,o,e,_⟩:=h3.nth c;exact ⟨b,o,e⟩⟩
def Pb.there {e:Ending} (h:Pb w bt m (plcR a f) e w') (k:PlaceOk m a f):Below w w w'/\∃ b o,Wv w bt (plcR a f) b o/\e=.returned (.pointer (ς (π b (o+f.toNat)))):=by
 obtain ⟨i,⟨j,_⟩|⟨_,b,o,d,g⟩⟩:=h
 .have:=k.2.2
  have c:(plcR a f).D=f:=rfl;rw [c] at j;omega
 .exact ⟨i,b,o,d,g⟩
def place_le {c:AQ} (d:Dp c m) (h:PlaceOk m a f):a<=1099511627776:=by
 have b:=h.2.2;have e:=d.len;unfold Bd plcR at b;dsimp only at b;split at b
 .simp at b;have:=h.2.1;omega
 .omega
def nodup_take {l:List α} (h:l.Nodup) (b:l[k]?=ς x):x∉l.take k:=λc=>by
 obtain ⟨j,a⟩:=List.mem_iff_getElem?.1 c;rw [List.getElem?_take] at a;split at a
 .have h1:=(Ll b)
  have:=(List.getElem?_inj (Nat.lt_trans (by assumption) h1) h).1 (a.trans b.symm);omega
 .cases a
def take_succ {l:List α} (a:l[k]?=ς x):l.take (k+1)=l.take k++[x]:=by rw [List.take_add_one,a];rfl
def transaction_any (cd:AQ) (s:Tra) (bt:Nat) (x:Trx) (M O:Option Addr) (N P:Nat) (fv D wv:Value) (w:Ϣ) (hL:C8 w) (R:Bv cd) (hs:AU cd) (hc:BF w w (.agg (Bc M N O P cd)) cd) (h:BoxR w bt s) (hm:Dp cd s.M)
  (hf:AE w w 4 (CK w) fv x.run.J) (Y:AE w w 2 RdE D x.reads) (Z:AE w w 3 WrE wv x.writes) (Q:TrxOk cd s.M s.clock s.U x) (h6:s.U<=65536) :
  Calls prog 101 #[.agg (Bc M N O P cd),.pointer (ς (π bt 0)),.agg (trxC fv D wv x).toArray] w λz w'=>z=.returned (.bool true)/\Below w w w':=by
 obtain ⟨ma,mc,rfl⟩:=hf.form;obtain ⟨ra,rc,rfl⟩:=Y.form;obtain ⟨wa,wc,rfl⟩:=Z.form;have c:w.cell? (π bt 3)=ς (ι s.clock):=by obtain ⟨gv,nv,vv,av,cv,ov,bv,ev,dv,hC⟩:=h.opened;exact hC.clock
 have cM:x.reads.length<=140737488355328:=by obtain ⟨_,_,_,hh,_⟩:=Y;exact hh
 have cN:x.writes.length<=140737488355328:=by obtain ⟨_,_,_,hh,_⟩:=Z;exact hh
 unfold trxC FW;simp only [List.cons_append,List.nil_append];obtain ⟨W,C⟩:=ε ((w.alloc (χ (Bc M N O P cd) 25)).alloc (χ #[σ ma x.run.J mc,ι x.run.Q.K,ι x.run.Q.O,ι x.run.Q.D,ι x.run.Q.V,ι x.run.Q.X,ι x.run.Y,ι x.run.C,ι x.run.I,ι x.start,ι x.N,σ ra x.reads rc,σ wa x.writes wc] 62));have n:=bl2 C;have cG:=Lh (sz2 C);have aV:W.heap[(w:Nat)]?=ς (χ (Bc M N O P cd) 25 (0,0)):=ro21 C;have b:W.heap[(w:Nat)+1]?=ς (χ #[σ ma x.run.J mc,ι x.run.Q.K,ι x.run.Q.O,ι x.run.Q.D,ι x.run.Q.V,ι x.run.Q.X,ι x.run.Y,ι x.run.C,ι x.run.I,ι x.start,ι x.N,σ ra x.reads rc,σ wa x.writes wc] 62 (0,0)):=ro22 C;have HV:=Lh (MG cd _ x.run (σ ma x.run.J mc) (w:Nat) W.drew (hL.below (AG n 1)) (by have:=cG.o;show (w:Nat)<=W;omega) (hc.below (AG n 1)) (hf.fras (AG n 1)) R);have bP:=Lh (CP (Q.mach.valid hs));have S:=Lh Q;have HM:=Lh hm;have HB:=Lh (h.below n);have HR:=Lh (Y.ups (E:=λ_=>RdE) ups_rd (Nr _) (JT.below n));have HW:=Lh (Z.ups (E:=λ_=>WrE) ups_wr (Nr _) (JT.below n));have cD:=Lh n;have c3:=AB n c;have bL:=Q.start;have cF:=Q.N;have d1:=θ (x.start<0);have d2:=θ (s.clock<x.start);have d3:=θ (x.N<0);have d4:=θ (1099511627776<x.N);have bZ:=Cw b 11 rfl;have cA:=Cw b 12 rfl;have bO:=Lh (And.intro bZ cA);obtain ⟨g0,g1,g2⟩:=Ω3 aV;have g3:=Cw b 0 rfl;have g4:=Cw b 1 rfl;have g5:=Cw b 2 rfl;have g6:=Cw b 3 rfl;have g7:=Cw b 4 rfl;have g8:=Cw b 5 rfl;have g9:=Cw b 6 rfl;have bT:=Cw b 7 rfl;have bU:=Cw b 8 rfl;have bV:=Cw b 9 rfl;have bW:=Cw b 10 rfl;clear aV b;clear hL R hs hc h hm hf Y Z Q h6 c bL cF n bZ cA;go_enter func101,ntmps101;go_upto_region 1 with fail;rw [<-C];clear C;go_region_held3 (λV=>V.cell? (π w 0)=ς (σ M cd.H N)/\V.cell? (π w 1)=ς (ι cd.G)/\V.cell? (π w 2)=ς (σ O cd.funcs P)/\V.cell? (π (w+1) 0)=ς (σ ma x.run.J mc)/\V.cell? (π (w+1) 1)=ς (ι x.run.Q.K)/\V.cell? (π (w+1) 2)=ς (ι x.run.Q.O)/\V.cell? (π (w+1) 3)=ς (ι x.run.Q.D)/\V.cell? (π (w+1) 4)=ς (ι x.run.Q.V)/\V.cell? (π (w+1) 5)=ς (ι x.run.Q.X)/\V.cell? (π (w+1) 6)=ς (ι x.run.Y)/\V.cell? (π (w+1) 7)=ς (ι x.run.C)/\V.cell? (π (w+1) 8)=ς (ι x.run.I)/\V.cell? (π (w+1) 9)=ς (ι x.start)/\V.cell? (π (w+1) 10)=ς (ι x.N)/\V.cell? (π bt 3)=ς (ι s.clock))
  (first|exact ⟨g0,g1,g2,g3,g4,g5,g6,g7,g8,g9,bT,bU,bV,bW,c3⟩|exact ⟨AB a g0,AB a g1,AB a g2,AB a g3,AB a g4,AB a g5,AB a g6,AB a g7,AB a g8,AB a g9,AB a bT,AB a bU,AB a bV,AB a bW,AB a c3⟩)
  (first|(go_at_call 110;refine HV.o.mono ?_;rintro e l ⟨rfl,a⟩;rw [bP.o]))
 have bM:=Lh ((AG Br 1).th a);clear a;obtain ⟨V1,bF⟩:=ε (l.alloc (.map #[] 0));have X:(Instr.makeMap 188 none).run prog l=.ok (.map (ς (l:Nat))) V1:=by rw [bF];simp [Instr.makeMap]
 have bE:=@Lh (Below l l V1/\V1.heap[(l:Nat)]?=ς (.map #[] 0)) (by rw [bF];exact ⟨AA _ _,Hn _ _⟩);have cC:Hid (Below W W l):=bM;have cO:=AB (bM.o.th bE.o.1) bO.o.1;clear bF d1 d2 d3 d4 c3 HV bP;go_wp2_with fail;clear X;go_loopw [47] (λi wr=>∃ k:Nat,k<=x.reads.length/\i=ι k/\Below l l wr/\Hid (wr.heap[(l:Nat)]?=ς (.map (pairE (x.reads.take k)).toArray (x.reads.take k).length))) (λi _=>x.reads.length - (intOf i).toNat)
 case atStart=>exact ⟨0,Nat.zero_le _,rfl,bE.o.1,Lh bE.o.2⟩
 case round=>
  obtain ⟨k,hk,rfl,q,p⟩:=hrel;have d:=cC.o.th q;by_cases bI:k<x.reads.length;rotate_left
  .have bY:=AB d bO.o.2
   have bN:=Lh d;clear q d p;obtain ⟨V2,bG⟩:=ε (wr.alloc (.map #[] 0));have X:(Instr.makeMap 188 none).run prog wr=.ok (.map (ς (wr:Nat))) V2:=by rw [bG];simp [Instr.makeMap]
   have U:=@Lh (Below wr wr V2/\V2.heap[wr.heap.size]?=ς (.map #[] 0)) (by rw [bG];exact ⟨AA _ _,Hn _ _⟩);have bY:=AB U.o.1 bY;obtain ⟨V0,bX⟩:=ε wr;rw [<-bX] at X U bN ⊢;clear bG bX;go_wp2_with fail;clear X;obtain ⟨K,hK⟩:=ε (x.writes.map λy=>(y.1,y.2.1));have HK:=Lh hK;clear hK;go_loopw [70] (λi wr=>∃ k:Nat,k<=x.writes.length/\i=ι k/\Below V0 V0 wr/\Hid (wr.heap[(V0:Nat)]?=ς (.map (pairE (K.take k)).toArray (K.take k).length))) (λi _=>x.writes.length - (intOf i).toNat)
   case atStart=>exact ⟨0,Nat.zero_le _,rfl,U.o.1,Lh U.o.2⟩
   case round=>
    obtain ⟨k,hk,rfl,q,p⟩:=hrel;have d:=bN.o.th q;by_cases bI:k<x.writes.length;rotate_left
    .have aZ:=Lh (cD.o.th d)
     clear q d p;go_wp2;go_ret;exact ⟨rfl,aZ.o⟩
    obtain ⟨⟨g,rf,D⟩,m⟩:∃ y,x.writes[k]?=ς y:=⟨_,Lg bI⟩
    obtain ⟨f,bJ⟩:=S.o.writesP _ (Lm m);have J:K[k]?=ς (g,rf):=by rw [HK.o,List.getElem?_map,m];rfl
    have B:=nodup_take (by rw [HK.o];exact S.o.writes) J;dsimp only at f bJ;obtain ⟨b1,o1,rfl,r,t,x2⟩:=wr_at HW.o m;obtain ⟨r,t,x2⟩:=Δ3 d r t x2;dsimp only at r t x2;obtain ⟨u,j⟩:=ε ((wr.alloc (χ #[ι g,ι rf,ι D] 120)).alloc (χ #[ι g,ι rf] 85));have o:=bl2 j;have aX:u.heap[(wr:Nat)]?=ς (χ #[ι g,ι rf,ι D] 120 (0,0)):=ro21 j;have bK:u.heap[(wr:Nat)+1]?=ς (χ #[ι g,ι rf] 85 (0,0)):=ro22 j;have L:=Ω3 aX;have bR:=Ω2 bK;have v:=(o.block _ (La p.o)).trans p.o;have bH:=pair_look B v;have bC:=Lh (place_any s.M bt g rf u (HB.o.below (d.th o)).memRd f.1 f.2.1 (place_le HM.o f));obtain ⟨T,I,bB,bD⟩:=Λ4 (And.intro f bJ) v B (take_succ J);have cB:=@Lh (min k K.length=k) (Nat.min_eq_left (by have:=(Ll J);omega));have bA:=@Lh ((K.take k++[(g,rf)]).length=k+1) (by have:=(Ll J);simp;omega);have aY:=Lh (q.th o);have F:=Lh j;have t0:=In k;have t1:(k:Int)<(x.writes:Int):=ω;clear q d p m J f bJ B o v j aX bK;go_upto_region 16 with fail;rw [<-F.o];clear F r t x2;go_wp2_with fail;refine bC.o.mono ?_;rintro e w3 G;obtain ⟨c,pb,po,-,rfl⟩:=G.there T.o.1;have cL:=Δ3 c L.2.2 bR.1 bR.2;have A:=(c.block _ (La I.o)).trans I.o;have bL:=pair_store bB.o A;have H:=Lh (And.intro (aY.o.th c) A);have cE:=Aq.2 T.o.2;clear bH L bR c A G;go_wp2_with (go_at_call 50;refine (sother_any D _).mono ?_;rintro e w' ⟨rfl,rfl⟩;rw [cE]);go_roundw
    case rel=>exact ⟨k+1,ω,by go_num,below_setMap H.o.1 (Nr _) _,Lh (by rw [bD.o,bA.o,cB.o];exact heap_setMap H.o.2)⟩
    case measure=>simp [intOf];omega
  obtain ⟨⟨g,rf⟩,m⟩:∃ y,x.reads[k]?=ς y:=⟨_,Lg bI⟩
  have f:=S.o.readsP _ (Lm m);have B:=nodup_take S.o.reads m;dsimp only at f;obtain ⟨b1,o1,rfl,r,t⟩:=rd_at HR.o m;have r:=AB d r;have t:=AB d t;dsimp only at r t;obtain ⟨u,j⟩:=ε (wr.alloc (χ #[ι g,ι rf] 85));have o:=bl1 j;have L:u.cell? (π wr 0)=ς (ι g):=by rw [j,B6];rfl
  have aU:u.cell? (π wr 1)=ς (ι rf):=by rw [j,B6];rfl
  have v:=(o.block _ (La p.o)).trans p.o;have bH:=pair_look B v;have bC:=Lh (place_any s.M bt g rf u (HB.o.below (d.th o)).memRd f.1 f.2.1 (place_le HM.o f));obtain ⟨T,I,bB,bD⟩:=Λ4 f v B (take_succ m);have bA:=@Lh ((x.reads.take k++[(g,rf)]).length=k+1) φ;have aY:=Lh (q.th o);have F:=Lh j;have t0:=In k;have t1:(k:Int)<(x.reads:Int):=ω;clear q d p m f B o v j;go_upto_region 7 with fail;rw [<-F.o];clear F r t;go_wp2_with fail;refine bC.o.mono ?_;rintro e w3 G;obtain ⟨c,pb,po,-,rfl⟩:=G.there T.o;have cJ:=AB c L;have cK:=AB c aU;have A:=(c.block _ (La I.o)).trans I.o;have bL:=pair_store bB.o A;have H:=Lh (And.intro (aY.o.th c) A);clear bH L aU c A G;go_wp2;go_roundw
  case rel=>exact ⟨k+1,ω,by go_num,below_setMap H.o.1 (Nr _) _,Lh (by rw [bD.o,bA.o];exact heap_setMap H.o.2)⟩
  case measure=>simp [intOf];omega
