import Derived.Test.YtiejafonjemioaaGreatDoorCpm
set_option maxHeartbeats 4000000
set_option maxRecDepth 100000
set_option linter.unusedVariables false
set_option linter.unusedSimpArgs false
open Go.Value renaming slice→σ
open Go.Obj renaming cells→χ
namespace Go.Proofs.YtiejafonjemioaaGreatDoor
open Go.RowKit
variable {o:Oper} {a:Act} {Q:Exit->Act->World->Prop} {w w' wr W:World} {c c':Clr} {v gv nv x0 x1 x2 x3 x4 x5 x6 x7 x8 x9:Value} {n bi br bo k R bt:Nat} {xs nx:List Value} {m:Mm} {iv:Array Value} {fn:Func} {p:Tmp} {s:Thr} {T:Nat->Prop}
theorem X2q {ops:Array Oper} {rest:List Oper} (hgd:o.guard=none) (tag:Nat) (s x:Operand) (ho:o.op=.call { callee:=.builtin .append,args:=#[s,x],argTypes:=#[22,22] })
  (e1:Nat) (he:w.heap[e1]?=some (χ #[] 3 (0,0))) (hs:a.eval s=σ (some (π e1 0)) 0 0) (xa:Option Addr) (n xc:Nat) (l:List Int) (B:Nat) (hx:a.eval x=σ xa n xc) (hl:Xf B w 1 Zd (σ xa n xc) l) (hm:l.length<=1000000) (hc:c e1=tag) (h0:tag≠0) (hhi:∀ b,w.heap.size<=b->c b=0)
  (h:∀ g cap w' c',Xsp w' c' tag (σ (some (π g 0)) n cap) l->Chg (fun k=>k=tag) c c' w w'->(∀ b,w'.heap.size<=b->c' b=0)->wpList Tryz.prog ops Q rest (a.put o.dst (σ (some (π g 0)) n cap)) w'):wpList Tryz.prog ops Q (o::rest) a w:=by
 refine wpList_plain hgd fun _ hK=>?_
 obtain ⟨aC,aD,aB,aE,aF,aG,hE⟩:=hl
 obtain ⟨rfl,rfl,rfl⟩:xa=aC/\n=l.length/\xc=aD:=by simpa using aB
 refine Xxy tag s x 22 3 ho Tryz.underlying22 Uc rfl δ δ e1 he hs xa l.length xc (l.map (Value.int .i64)) hx ψ ?_ (fun u hu=>?_) hm hc h0 hhi (fun g cap w' c' h1 h2 h3=>hK _ _ (h g cap w' c' ⟨h1,fun q hq=>?_⟩ h2 h3))
 ·rcases hE with h0|⟨b,oo,rfl,aA,hE⟩
  ·left;rw [h0];rfl
  ·exact .inr ⟨_,rfl,fun j u hu=>by
    rw [List.getElem?_map] at hu
    cases hg:l[j]? with
    | none=>rw [hg] at hu;simp at hu
    | some q=>
     rw [hg] at hu
     simp at hu
     subst hu
     have:=(hE j q hg).1
     rw [Nat.mul_one] at this
     rw [Xtf];exact this⟩
 ·obtain ⟨_,_,rfl⟩:=List.mem_map.1 hu;rfl
 ·rcases hE with h0|⟨b,oo,rfl,aA,hE⟩
  ·subst h0;cases hq
  ·obtain ⟨i,hi,rfl⟩:=List.getElem_of_mem hq
   exact (hE i _ (Lg hi)).2
theorem Xtj {K:Act->World->Prop} (tag:Nat) (s x:Operand) (ho:o.op=.call { callee:=.builtin .append,args:=#[s,x],argTypes:=#[22,22] })
  (e1:Nat) (he:w.heap[e1]?=some (χ #[] 3 (0,0))) (hs:a.eval s=σ (some (π e1 0)) 0 0) (xa:Option Addr) (n xc:Nat) (l:List Int) (B:Nat) (hx:a.eval x=σ xa n xc) (hl:Xf B w 1 Zd (σ xa n xc) l) (hm:l.length<=1000000) (hc:c e1=tag) (h0:tag≠0) (hhi:∀ b,w.heap.size<=b->c b=0)
  (h:∀ g cap w' c',Xsp w' c' tag (σ (some (π g 0)) n cap) l->Chg (fun k=>k=tag) c c' w w'->(∀ b,w'.heap.size<=b->c' b=0)->K (a.put o.dst (σ (some (π g 0)) n cap)) w'):o.wp Tryz.prog a w K Q:=by
 obtain ⟨aC,aD,aB,aE,aF,aG,hE⟩:=hl
 obtain ⟨rfl,rfl,rfl⟩:xa=aC/\n=l.length/\xc=aD:=by simpa using aB
 refine Xxy tag s x 22 3 ho Tryz.underlying22 Uc rfl δ δ e1 he hs xa l.length xc (l.map (Value.int .i64)) hx ψ ?_ (fun u hu=>?_) hm hc h0 hhi (fun g cap w' c' h1 h2 h3=>h g cap w' c' ⟨h1,fun q hq=>?_⟩ h2 h3)
 ·rcases hE with h0|⟨b,oo,rfl,aA,hE⟩
  ·left;rw [h0];rfl
  ·exact .inr ⟨_,rfl,fun j u hu=>by
    rw [List.getElem?_map] at hu
    cases hg:l[j]? with
    | none=>rw [hg] at hu;simp at hu
    | some q=>
     rw [hg] at hu
     simp at hu
     subst hu
     have:=(hE j q hg).1
     rw [Nat.mul_one] at this
     rw [Xtf];exact this⟩
 ·obtain ⟨_,_,rfl⟩:=List.mem_map.1 hu;rfl
 ·rcases hE with h0|⟨b,oo,rfl,aA,hE⟩
  ·subst h0;cases hq
  ·obtain ⟨i,hi,rfl⟩:=List.getElem_of_mem hq
   exact (hE i _ (Lg hi)).2
def TM (t:Nat):Prop:=t≠0/\t≠99
theorem tm0:¬TM 0:=fun h=>h.1 rfl
theorem X25:¬TM 99:=fun h=>h.2 rfl
theorem Chg.tm {t:Nat} (h:Chg (fun k=>k=t) c c' w w') (h0:t≠0) (h9:t≠99):Chg TM c c' w w':=h.mono (fun k hk=>by subst hk;exact ⟨h0,h9⟩) tm0
theorem Chg.ntm (h:Chg NO c c' w w'):Chg TM c c' w w':=h.mono (fun k hk=>hk.elim) tm0
structure Xzh (m:Mm) (w:World) (bi br bo k:Nat) (iv:Array Value) (gv v:Value) (c:Clr) (xs:List Value) (wr:World):Prop where
 g:Xsp wr c 2 gv m.globals
 row:V3 wr c 3 74 2 v k xs
 chg:Chg TM (Xti w.heap.size) c w wr
 hi:∀ b,wr.heap.size<=b->c b=0
 box:wr.heap[bo]?=some (χ #[gv,v] 28 (0,0))
 cbo:c bo=4
 res:wr.heap[br]?=some (χ #[ν,ν] 28 (0,0))
 cbr:c br=5
 inp:wr.heap[bi]?=some (χ iv 28 (0,0))
 cbi:c bi=0
 elem:∀ (i:Nat) x,i<k->m.nodes[i]?=some x->∃ lv,xs[i*2]?=some (ι x.type)/\xs[i*2+1]?=some lv/\in64 x.type/\Xsp wr c (10+5*i) lv x.f
 len:xs.length=k*2
structure Xxp (w:World) (c:Clr) (m:Mm) (gv nv:Value) (nx:List Value):Prop where
 hi:∀ b,w.heap.size<=b->c b=0
 g:Xsp w c 2 gv m.globals
 n:V3 w c 3 74 2 nv m.nodes.length nx
 nn:∀ (i:Nat) x,m.nodes[i]?=some x->∃ lv,nx[i*2]?=some (ι x.type)/\nx[i*2+1]?=some lv/\in64 x.type/\Xsp w c (10+5*i) lv x.f
def Xwp (m:Mm) (w:World) (e:Ending) (w':World):Prop:=∃ ga gc na nc,e=.returned (.agg (Bm ga gc na nc m))/\Below w.heap.size w w'/\∀ c:Clr,(∀ b,w.heap.size<=b->c b=0)->∃ c' nx,Chg NO c c' w w'/\Xxp w' c' m (σ ga m.globals.length gc) (σ na m.nodes.length nc) nx
theorem V3.recol {tag:Nat} {e:TypeId} {sz:Nat} (h:V3 w c tag e sz v n xs) (hc:∀ b,c b=tag->c' b=tag):V3 w c' tag e sz v n xs:=⟨h.1,fun b hb=>hc b (h.2.1 b hb),h.2.2⟩
theorem Xzh.post {ga na:Option Addr} {gc nc:Nat} (h:Xzh m w bi br bo m.nodes.length iv (σ ga m.globals.length gc) (σ na m.nodes.length nc) c xs wr):Xwp m w (.returned (.agg (Bm ga gc na nc m))) ((wr.setCell (π br 0) (σ ga m.globals.length gc)).setCell (π br 1) (σ na m.nodes.length nc)):=by
 obtain ⟨W',hW⟩:∃ W',W'=(wr.setCell (π br 0) (σ ga m.globals.length gc)).setCell (π br 1) (σ na m.nodes.length nc):=⟨_,rfl⟩
 have h3:Chg (fun t=>t=5) c c wr W':=by rw [hW];exact (Chg.set (T:=fun t=>t=5) h.cbr ω).trans (Chg.set h.cbr ω)
 have hT:Chg TM (Xti w.heap.size) c w W':=h.chg.trans (h3.tm δ δ)
 have aB:W'.heap.size=wr.heap.size:=by rw [hW];simp
 rw [<-hW]
 refine ⟨ga,gc,na,nc,rfl,hT.below0 X25,fun c' aC=>?_⟩
 have aA:∀ tag,tag≠99->∀ b,c b=tag->(if b<w.heap.size then c' b else c b)=tag:=fun tag ht b hb=>by
  rw [if_neg (Nat.not_lt.2 (hT.fresh hb ht))];exact hb
 have hB:=hT.below0 X25
 refine ⟨fun b=>if b<w.heap.size then c' b else c b,xs,⟨hB.os,hB.tape,hB.output,hB.size,fun b hb _=>hB.block b hb,fun b hb=>if_pos hb,no 0⟩,fun b hb=>?_,⟨(h.g.1.keep h3 ω).recol (aA 2 δ),h.g.2⟩,(h.row.keep h3 ω).recol (aA 3 δ),fun i x hx=>?_⟩
 ·show (if _ then _ else _)=_
  rw [if_neg (by have:=hB.size;omega)]
  exact h.hi b (by rw [<-aB];exact hb)
 ·obtain ⟨lv,h1,h2,h4,h5⟩:=h.elem i x (Ll hx) hx
  exact ⟨lv,h1,h2,h4,⟨(h5.1.keep h3 ω).recol (aA _ ω),h5.2⟩⟩
theorem Xzh.next {w8 w9:World} {g1 c1:Nat} {v':Value} {c8 c9:Clr} {x:Nod} (h:Xzh m w bi br bo k iv gv v c xs wr) (hx:m.nodes[k]?=some x) (h64:in64 x.type) (hb:Chg (fun t=>t=10+5*k) c c8 wr w8) (hl:Xsp w8 c8 (10+5*k) (σ (some (π g1 0)) x.f.length c1) x.f)
  (hC:Chg (fun t=>t=3) c8 c9 (w8.alloc (χ #[ι x.type,σ (some (π g1 0)) x.f.length c1] 74)) w9) (hhi:∀ b,w9.heap.size<=b->c9 b=0) (hr:V3 w9 c9 3 74 2 v' (k+1) (xs++[ι x.type,σ (some (π g1 0)) x.f.length c1])) :
  Xzh m w bi br bo (k+1) iv gv v' c9 (xs++[ι x.type,σ (some (π g1 0)) x.f.length c1]) (w9.setCell (π bo 1) v'):=by
 have aD:Chg (fun t=>t=3) c8 c9 w8 w9:=(Chg.of_below (Xa _ _) δ).trans hC
 have h9:Chg (fun t=>t=10+5*k\/t=3) c c9 wr w9:=(hb.mono (fun t h=>.inl h) ω).trans (aD.mono (fun t h=>.inr h) ω)
 have aG:=(La h.box)
 have aC:c9 bo=4:=by rw [h9.old _ aG];exact h.cbo
 have hs:Chg (fun t=>t=4) c9 c9 w9 (w9.setCell (π bo 1) v'):=Chg.set aC ω
 have hA:Chg (fun t=>(t=10+5*k\/t=3)\/t=4) c c9 wr (w9.setCell (π bo 1) v'):=(h9.mono (fun t h=>.inl h) ω).trans (hs.mono (fun t h=>.inr h) ω)
 have aB:w9.heap[bo]?=some (χ #[gv,v] 28 (0,0)):=by rw [h9.keep _ aG (by rw [h.cbo];omega)];exact h.box
 have aF:=(La h.res)
 have aE:=(La h.inp)
 have aA:=h.len
 have aI:w9.heap.size=(w9.setCell (π bo 1) v').heap.size:=by simp
 refine ⟨h.g.keep hA ω,hr.keep hs ω,h.chg.trans (hA.mono (fun t h=>by unfold TM;omega) tm0),fun b hb=>hhi b (by rw [aI];exact hb),?_,aC,?_,by rw [hA.old _ aF];exact h.cbr,?_,by rw [hA.old _ aE];exact h.cbi,fun i y hi hy=>?_,by simp [h.len];omega⟩
 ·rw [heap_setCell_same _ _ _ _ _ _ aB];rfl
 ·rw [hA.keep _ aF (by rw [h.cbr];omega)];exact h.res
 ·rw [hA.keep _ aE (by rw [h.cbi];omega)];exact h.inp
 ·by_cases aH:i<k
  ·obtain ⟨lv,e1,e2,e3,e4⟩:=h.elem i y aH hy
   exact ⟨lv,by rw [Al ω];exact e1,by rw [Al ω];exact e2,e3,e4.keep hA ω⟩
  ·obtain rfl:i=k:=ω
   rw [hx] at hy;cases hy
   exact ⟨_,by rw [Ar ω,aA,Nat.sub_self];rfl,by rw [Ar ω,aA,show i*2+1 - i*2=1 by omega];rfl,h64,(hl.keep aD ω).keep hs ω⟩
theorem X0c (h:W.heap[R]?=some (χ #[gv,nv] 28 (0,0))):(loadVar 28 (π R 0)).run Tryz.prog W=.ok (.agg #[gv,nv]) W:=by
 have c0:=Cw h 0 rfl
 have c1:=Cw h 1 rfl
 simp [go_sem,c0,c1]
theorem Xx4 (hf:fn.results=#[.cell p 28]) (h:W.heap[R]?=some (χ #[gv,nv] 28 (0,0))) (tmps:Array Value) (h1:tmps.getD p undef=.pointer (some (π R 0))) :
  (results fn tmps).run Tryz.prog W=.ok (.agg #[gv,nv]) W:=by
 simp only [results,hf]
 rw [Array.getD_eq_getD_getElem?] at h1
 simp [h1,asAddr,X0c h,Result.andThen,Sem.run_bind]
theorem Xyr (m:Mm) (mv:Value) (B:Nat) (w:World) (hB:B<=w.heap.size) (hm:MmV B w mv m) (hg6:m.globals.length<=1000000) (hn4:m.nodes.length<=4096) (hf6:∀ x∈m.nodes,x.f.length<=1000000) :
  Calls Tryz.prog 50 #[mv] w (Xwp m w):=by
 obtain ⟨gv,nv,rfl,hg,hn⟩:=hm
 obtain ⟨va,vc,rfl⟩:=hg.form
 obtain ⟨na,nc,rfl⟩:=hn.form
 obtain ⟨gn,aP⟩:∃ n,n=m.globals.length:=⟨_,rfl⟩
 obtain ⟨nn,bI⟩:∃ n,n=m.nodes.length:=⟨_,rfl⟩
 rw [<-aP] at hg hg6 ⊢
 rw [<-bI] at hn hn4 ⊢
 have HG:=Lh hg
 have HN:=Lh hn
 have bY:=Lh aP
 have aW:=Lh bI
 have bV:=Lh hf6
 have HB:=Lh hB
 obtain ⟨W,hW⟩:∃ W,W=(w.alloc (χ #[σ va gn vc,σ na nn nc] 28)).alloc (χ #[ν,ν] 28):=⟨_,rfl⟩
 have bC:Hid (Below w.heap.size w W):=by rw [hW];exact Lh ((Xa _ _).then (Xa _ _))
 have bJ:Hid (W.heap.size=w.heap.size+2):=by rw [hW];exact Lh ψ
 have b0:W.heap[w.heap.size]?=some (χ #[σ va gn vc,σ na nn nc] 28 (0,0)):=by
  rw [hW,Ha _ _ _ ψ]
  exact Hn _ _
 have b1:W.heap[w.heap.size+1]?=some (χ #[ν,ν] 28 (0,0)):=by
  rw [hW]
  have:=Hn (w.alloc (χ #[σ va gn vc,σ na nn nc] 28)) (χ #[ν,ν] 28)
  simpa using this
 have B0:=Lh b0
 have B1:=Lh b1
 have i0:=Cw b0 0 rfl
 have zi:=Bl i0
 have bU:Hid ((W.alloc (χ #[] 3)).heap[W.heap.size]?=some (χ #[] 3 (0,0))):=Lh (Hn _ _)
 have bX:Hid (Xf B (W.alloc (χ #[] 3)) 1 Zd (σ va gn vc) m.globals):=Lh ((hg.ints (bC.o.mono hB)).ints ((Xa _ _).mono (Nt hB bC.o.size)))
 have cI:m.globals.length<=1000000:=by rw [<-aP];exact hg6
 have bS:Hid (Chg NO (Xti w.heap.size) (fun x=>if x=W.heap.size then 2 else if x=w.heap.size+1 then 5 else Xti w.heap.size x) w (W.alloc (χ #[] 3))):=Lh (by
  have hb:=bC.o.then (Xa W (χ #[] 3))
  exact ⟨hb.os,hb.tape,hb.output,hb.size,fun x hx _=>hb.block x hx,fun x hx=>by have:=bJ.o;show (if _ then _ else if _ then _ else _)=_;rw [if_neg ω,if_neg ω],no 0⟩)
 have aU:Hid (∀ x,(W.alloc (χ #[] 3)).heap.size<=x->(fun x=>if x=W.heap.size then 2 else if x=w.heap.size+1 then 5 else Xti w.heap.size x) x=0):=Lh (fun x hx=>by
  have:=bJ.o
  simp at hx
  show (if _ then _ else if _ then _ else _)=_
  rw [if_neg ω,if_neg ω];exact Xt4 x ω)
 clear b0 b1 hg hn aP bI hf6 hB
 go_enter Tryz.func50,Tryz.ntmps50
 go_upto_region 1 with fail
 rw [<-hW]
 have HW:=Lh hW
 clear hW
 go_upto_region 2 with (with_reducible refine X2q rfl 2 (.tmp 6) (.tmp 8) rfl (c:=fun x=>if x=W.heap.size then 2 else if x=w.heap.size+1 then 5 else Xti w.heap.size x) W.heap.size bU.o rfl va gn vc m.globals B rfl bX.o cI (if_pos rfl) δ aU.o ?_;intro gg aA w2 c2 hI hC aF;have HI:=Lh hI;have HC:=Lh hC;have HH:=Lh aF;clear hI hC aF)
 obtain ⟨W3,aM⟩:∃ V,V=w2.alloc (χ #[σ (some (π gg 0)) gn aA,ν] 28):=⟨_,rfl⟩
 have aI:Hid (Xzh m w w.heap.size (w.heap.size+1) w2.heap.size 0 #[σ va gn vc,σ na nn nc] (σ (some (π gg 0)) gn aA) ν (fun x=>if x=w2.heap.size then 4 else c2 x) [] W3):=Lh (by
  have hz:=bJ.o
  have hP:Chg NO c2 (fun x=>if x=w2.heap.size then 4 else c2 x) w2 W3:=Chg.paint _ _ (by rw [aM];exact Xa _ _) (Nr _)
  have h2:=HC.o.size
  have hE:(W.alloc (χ #[] 3)).heap.size=W.heap.size+1:=by simp
  have aO:∀ b v,b<W.heap.size->(if b=w.heap.size+1 then 5 else Xti w.heap.size b)≠2->W.heap[b]?=v->W3.heap[b]?=v:=fun b v hb hc hv=>by
   rw [hP.keep b ω (no _),HC.o.keep b ω (by rw [if_neg ω];exact hc),Ha _ _ _ hb];exact hv
  have cl:∀ b,b<W.heap.size->(if b=w2.heap.size then 4 else c2 b)=(if b=w.heap.size+1 then 5 else Xti w.heap.size b):=fun b hb=>by
   rw [if_neg ω,HC.o.old b ω,if_neg ω]
  refine ⟨HI.o.keep hP (no _),V3.nil _ _ _ _ _,(bS.o.ntm.trans (HC.o.tm δ δ)).trans hP.ntm,fun b hb=>?_,by rw [aM];exact Hn _ _,if_pos rfl,aO _ _ ω (by rw [if_pos rfl];decide) B1.o,?_,aO _ _ ω (by rw [if_neg ω,Xt4 _ (Nr _)];decide) B0.o,?_,fun i x hi=>by omega,rfl⟩
  ·have cN:w2.heap.size+1<=b:=by rw [aM] at hb;simpa using hb
   show (if _ then _ else _)=_
   rw [if_neg ω];exact HH.o b ω
  ·exact (cl _ ω).trans (if_pos rfl)
  ·exact (cl _ ω).trans (by rw [if_neg ω];exact Xt4 _ (Nr _)))
 obtain ⟨bo,bD⟩:∃ b,b=w2.heap.size:=⟨_,rfl⟩
 rw [<-aM,<- bD]
 rw [<-bD] at aI
 clear aM bD i0 zi
 have i1:=Cw aI.o.inp 1 rfl
 have zi:=Bl i1
 go_wp2_with fail
 clear i1 zi
 go_loopw [14] (fun i wr=>∃ k:Nat,k<=nn/\i=ι k/\Hid (∃ a cap c xs,Xzh m w w.heap.size (w.heap.size+1) bo k #[σ va gn vc,σ na nn nc] (σ (some (π gg 0)) gn aA) (σ a k cap) c xs wr)) (fun i _=>nn - (intOf i).toNat)
 case atStart=>exact ⟨0,Nat.zero_le _,rfl,Lh ⟨_,_,_,_,aI.o⟩⟩
 case round=>
  obtain ⟨k,hk,rfl,aR⟩:=hrel
  obtain ⟨oa,aB,c,xs,aR⟩:=aR.o
  have aC:=Lh aR
  clear aR
  by_cases cO:k<nn
  ·obtain ⟨x,hx⟩:∃ y,m.nodes[k]?=some y:=⟨_,Lg (by have:=aW.o;omega)⟩
   have HX:=Lh hx
   have bM:Below B w wr:=(aC.o.chg.below0 X25).mono HB.o
   obtain ⟨nb,no_,cL,cM,cF⟩:∃ nb no,na=some (π nb no)/\nb<B/\Xbc B wr nb (no+k*2) x:=by
    obtain ⟨a0,aX,cH,_,_,_,hE⟩:=HN.o
    obtain ⟨rfl,_,rfl⟩:na=a0/\nn=m.nodes.length/\nc=aX:=by have:=aW.o;simpa [this] using cH
    rcases hE with h0|⟨nb,no,rfl,hb,hE⟩
    ·rw [h0] at hx;simp at hx
    ·exact ⟨nb,no,rfl,hb,(hE k x hx).below bM hb⟩
   subst cL
   obtain ⟨n0,⟨lv,n1,bH⟩,bL⟩:=cF
   obtain ⟨la,lc,rfl⟩:=bH.form
   have bP:=bV.o x (Lm hx)
   obtain ⟨V,hV⟩:∃ V,V=wr.alloc (χ #[ι x.type,σ la x.f.length lc] 74):=⟨_,rfl⟩
   have aK:Hid (Below wr.heap.size wr V):=Lh (by rw [hV];exact Xa _ _)
   have bB:V.heap[wr.heap.size]?=some (χ #[ι x.type,σ la x.f.length lc] 74 (0,0)):=by rw [hV];exact Hn _ _
   have v0:=Cw bB 0 rfl
   have v1:=Cw bB 1 rfl
   have v2:V.cell? (π bo 1)=some (σ oa k aB):=Xc aK.o (Cr aC.o.box rfl)
   have zn:=Bl n0
   have cJ:(0:Int)<=(k:Int):=In _
   have cK:(k:Int)<(nn:Int):=ω
   have bR:=Lh bL
   have bW:=Lh bP
   have aZ:B<=wr.heap.size:=Nt HB.o aC.o.chg.size
   have bT:Hid ((V.alloc (χ #[] 3)).drew.heap[V.heap.size]?=some (χ #[] 3 (0,0))):=Lh (Hn V _)
   have aJ:Hid (Below V.heap.size V (V.alloc (χ #[] 3)).drew):=Lh (Xsh V _)
   have cC:Hid (Xf B (V.alloc (χ #[] 3)).drew 1 Zd (σ la x.f.length lc) x.f):=Lh ((bH.ints (aK.o.mono aZ)).ints (aJ.o.mono (Nt aZ aK.o.size)))
   have aL:Hid (V.heap.size=wr.heap.size+1):=Lh (by rw [hV];simp)
   have HP:Hid (Chg NO c (fun y=>if y=V.heap.size then 10+5*k else c y) wr (V.alloc (χ #[] 3)).drew):=Lh (Chg.paint _ _ (aK.o.then aJ.o) aK.o.size)
   have cA:Hid (∀ y,(V.alloc (χ #[] 3)).drew.heap.size<=y->(fun y=>if y=V.heap.size then 10+5*k else c y) y=0):=Lh (fun y hy=>by
    have cP:V.heap.size+1<=y:=by simpa using hy
    show (if _ then _ else _)=_
    rw [if_neg ω];exact aC.o.hi y (by have:=aL.o;omega))
   clear hx bM bH bL bP bB aZ
   go_upto_region 5 with fail
   rw [<-hV]
   clear hV n0 n1 zn cJ cK
   refine X6 (fun Vs=>Vs.cell? (π wr.heap.size 0)=some (ι x.type)/\Vs.cell? (π wr.heap.size 1)=some (σ la x.f.length lc)/\Vs.cell? (π bo 1)=some (σ oa k aB)) [4,7,8,9,10,12] true 13 rfl κ κ ⟨v0,v1,v2⟩ ?_
   repeat (first|(refine' Xr4.take (Eq.refl false) _ (fun wV bA=>?_) ?_;rotate_left;(try dsimp only at bA);go_simp;(try with_reducible rfl);try simp only [Ap])|refine Xr4.skip (Eq.refl true) ?_)
   refine Xr4.stop ?_
   simp only [List.nil_append,List.cons_append]
   have HS:=Lh (And.intro v0 (And.intro v1 (v2)))
   clear v0 v1 v2
   refine X5 κ ?_
   go_simp
   refine ⟨⟨Xc (Xa _ _) HS.o.1,Xc (Xa _ _) HS.o.2.1,Xc (Xa _ _) HS.o.2.2⟩,?_⟩
   refine X5 κ ?_
   refine Xtj (10+5*k) (.tmp 22) (.tmp 24) rfl (c:=fun y=>if y=V.heap.size then 10+5*k else c y) V.heap.size bT.o rfl la x.f.length lc x.f B rfl cC.o bW.o (if_pos rfl) ω cA.o (fun g1 c1 w8 c8 hI hC aF=>?_)
   have cB:=Lh hI
   have bK:=Lh hC
   have bZ:=Lh aF
   have bF:¬(fun y=>if y=V.heap.size then 10+5*k else c y) wr.heap.size=10+5*k:=by
    show ¬(if _ then _ else _)=_
    rw [if_neg (by have:=aL.o;omega),aC.o.hi _ (Nr _)];omega
   have bO:¬(fun y=>if y=V.heap.size then 10+5*k else c y) bo=10+5*k:=by
    have:=(La aC.o.box)
    show ¬(if _ then _ else _)=_
    rw [if_neg (by have:=aL.o;omega),aC.o.cbo];omega
   have e0:=hC.cell (Xc aJ.o HS.o.1) bF
   have e1:=hC.cell (Xc aJ.o HS.o.2.1) bF
   have e2:=hC.cell (Xc aJ.o HS.o.2.2) bO
   have aD:=Lh (And.intro e0 (And.intro e1 e2))
   clear hI hC aF bF bO e0 e1 e2
   refine ⟨.inl ⟨aD.o.1,aD.o.2.1,aD.o.2.2⟩,?_⟩
   (refine' Z6 κ _ (fun wV bA=>?_) ?_;rotate_left;(clear bA;go_simp);(try with_reducible rfl);try simp only [Ap])
   refine X5 κ ?_
   go_simp
   refine ⟨⟨Xc (Xa _ _) aD.o.1,Xc (Xa _ _) aD.o.2.1,Xc (Xa _ _) aD.o.2.2⟩,?_⟩
   have aS:Hid (Chg (fun t=>t=10+5*k) c c8 wr w8):=Lh ((HP.o.mono (fun t h=>h.elim) ω).trans bK.o)
   have aT:Hid (Chg (fun t=>t=10+5*k) c c8 wr (w8.alloc (χ #[ι x.type,σ (some (π g1 0)) x.f.length c1] 74))):=Lh (aS.o.trans (Chg.of_below (Xa _ _) ω))
   have aV:Hid (∀ b,(w8.alloc (χ #[ι x.type,σ (some (π g1 0)) x.f.length c1] 74)).heap.size<=b->c8 b=0):=Lh (fun b hb=>bZ.o b (by simp at hb;omega))
   refine X5 κ ?_
   refine Xsy (fun t=>t=3) (.tmp 19) (.tmp 27) 26 74 rfl Tryz.underlying26 Xwg rfl δ δ (c:=c8) (tag:=3) (v:=σ oa k aB) (n:=k) (xs:=xs) rfl (aC.o.row.keep aT.o ω) (π w8.heap.size 0) 1 1 [ι x.type,σ (some (π g1 0)) x.f.length c1] rfl rfl (fun j u hu=>(Xso w8 _ _ j).trans (by simpa using hu)) (by simp [Value.oneCell']) δ ω rfl δ aV.o (fun g3 aY w9 c9 aN hC aF cG=>?_)
   have bQ:=aC.o.next HX.o bR.o aS.o cB.o hC aF aN
   have aQ:=(La aC.o.box)
   have aE:¬c8 wr.heap.size=3:=by rw [bK.o.old _ (Nl (by have:=aL.o;omega) aJ.o.size),if_neg (by have:=aL.o;omega),aC.o.hi _ (Nr _)];decide
   have bE:¬c8 bo=3:=by rw [aS.o.old _ aQ,aC.o.cbo];decide
   have q0:=hC.cell (Xc (Xa _ _) aD.o.1) aE
   have q1:=hC.cell (Xc (Xa _ _) aD.o.2.1) aE
   have q2:=hC.cell (Xc (Xa _ _) aD.o.2.2) bE
   have qf:w9.frozen? (π bo 1)=false:=hC.frozen (Nl aQ aT.o.size) (aT.o.frozen aQ (Fz aC.o.box) (by show ¬c bo=_;rw [aC.o.cbo];omega)) bE
   refine ⟨.inl ⟨q0,q1,q2⟩,?_⟩
   have cE:=Lh bQ
   clear aN hC aF cG bQ aE bE q0 q1 aQ
   refine X5 κ ?_
   go_simp
   refine Xr3 ?_
   obtain ⟨W9,bN⟩:∃ u,u=w9.setCell (π bo 1) (σ (some (π g3 0)) (k+1) aY):=⟨_,rfl⟩
   have aG:=cE.o
   rw [<-bN] at aG ⊢
   have cD:=Lh aG
   clear aG bN q2 qf
   go_wp2
   go_roundw
   case rel=>exact ⟨k+1,ω,by go_num,Lh ⟨_,_,_,_,cD.o⟩⟩
   case measure=>simp [intOf];omega
  ·obtain rfl:k=nn:=ω
   have bG:Hid (Xwp m w (.returned (.agg #[σ (some (π gg 0)) gn aA,σ oa k aB])) ((wr.setCell (π (w.heap.size+1) 0) (σ (some (π gg 0)) gn aA)).setCell (π (w.heap.size+1) 1) (σ oa k aB))):=Lh (by
    have h:=aC.o
    rw [aW.o,bY.o] at h ⊢
    exact h.post)
   have aE:=aC.o.box
   have aH:=aC.o.res
   have k0:=Cw aE 0 rfl
   have k1:=Cw aE 1 rfl
   have r0:=Cw aH 0 rfl
   have r1:=Cw aH 1 rfl
   have q0:wr.frozen? (π (w.heap.size+1) 0)=false:=Fz aH
   have q1:wr.frozen? (π (w.heap.size+1) 1)=false:=Fz aH
   have y1:=(La aH)
   have y2:=(La aE)
   have Q1:Hid (((wr.setCell (π (w.heap.size+1) 0) (σ (some (π gg 0)) gn aA)).setCell (π (w.heap.size+1) 1) (σ oa k aB)).heap[w.heap.size+1]?=some (χ #[σ (some (π gg 0)) gn aA,σ oa k aB] 28 (0,0))):=Lh (by
    have h1:=heap_setCell_same wr (w.heap.size+1) 0 _ _ (σ (some (π gg 0)) gn aA) aH
    exact heap_setCell_same _ (w.heap.size+1) 1 _ _ (σ oa k aB) h1)
   clear aE aH
   go_wp2
   exact bodyPost_ret (v:=.agg #[σ (some (π gg 0)) gn aA,σ oa k aB]) (Xx4 (p:=2) rfl Q1.o _ rfl) rfl bG.o
theorem ne4 {a b d e:Nat} (h:a≠b) (k:a≠d) (l:a≠e):¬(((NO a\/a=b)\/a=d)\/a=e):=fun x=>by
 rcases x with ((x|x)|x)|x
 ·exact x
 ·exact h x
 ·exact k x
 ·exact l x
theorem V2.pushR (h:V2 w c bt s):∃ na nc nx,w.cell? (π bt 3)=some (σ na s.running.length nc)/\V3 w c 4 51 9 (σ na s.running.length nc) s.running.length nx/\
  ∀ w1 c1 w2 c2 fv (m:Mch) v',Chg (fun k=>k=19) c c1 w w1->(∀ b,w1.heap.size<=b->c1 b=0)->Xf w1.heap.size (mask w1 c1) 4 (Qp w1.heap.size) fv m.frames->Xt0 m->Chg (fun k=>k=4) c1 c2 w1 w2->(∀ b,w2.heap.size<=b->c2 b=0)->V3 w2 c2 4 51 9 v' (s.running.length+1) (nx++Xtv fv m)->
   V2 (w2.setCell (π bt 3) v') c2 bt { s with running:=s.running++[m] }/\Chg NZ c c2 w (w2.setCell (π bt 3) v'):=by
 obtain ⟨V,h,hB⟩:=h
 have hr:=h.r (no _)
 obtain ⟨oa,oc,eo,-⟩:=hr.form
 have b1:=hB.cell 3 (v:=V.rv) rfl
 have aI:=hr.1.1
 rw [eo] at hr b1
 refine ⟨oa,oc,V.rx,b1,hr,fun w1 c1 w2 c2 fv m v' aB aG aE aF aA aD hR=>?_⟩
 have hC:Chg (fun k=>k=19\/k=4) c c2 w w2:=(aB.mono (fun k hk=>.inl hk) ω).trans (aA.mono (fun k hk=>.inr hk) ω)
 have aC:c2 bt=1:=by rw [hC.old bt hB.lt];exact hB.lab
 have hS:Chg (fun k=>k=1) c2 c2 w2 (w2.setCell (π bt 3) v'):=Chg.set aC ω
 have aH:∀ b,(w2.setCell (π bt 3) v').heap.size<=b->c2 b=0:=fun b hb=>aD b (by simpa using hb)
 have K:=((h.kept aB aG).kept aA aD).kept hS aH
 refine ⟨⟨{ V with rv:=v',rx:=V.rx++Xtv fv m },⟨K.hi,
  fun _=>K.g (ne4 ω ω ω),
  fun _=>K.n (ne4 ω ω ω),
  fun i y hy=>by
   obtain ⟨q,q1,q2,q3,q4⟩:=K.nn i y hy
   exact ⟨q,q1,q2,q3,fun _=>q4 (ne4 ω ω ω)⟩,
  fun _=>by rw [List.length_append];exact hR.keep hS ω,
  fun i y hy=>by
   by_cases hi:i<s.running.length
   ·rw [Al hi] at hy
    obtain ⟨q,q1,q2,q3⟩:=K.rr i y hy
    exact ⟨q,fun j v hv=>by rw [Al (by have:=Xx1 hv;omega)];exact q1 j v hv,q2,q3⟩
   ·obtain ⟨rfl,rfl⟩:i=s.running.length/\y=m:=by
     rw [Ar ω] at hy
     have:i - s.running.length=0:=by have:=(Ll hy);simp at this;omega
     rw [this] at hy;simp at hy;exact ⟨ω,hy.symm⟩
    exact ⟨fv,fun j v hv=>by rw [Ar ω,aI,Nat.add_sub_cancel_left];exact hv,aE.ups Xsw (Nt aA.size hS.size) (aA.sub.trans hS.sub),aF⟩,
  fun _=>K.k (ne4 ω ω ω),
  fun _=>K.cr (ne4 ω ω ω),
  K.cl,
  fun _=>K.o (ne4 ω ω ω),
  fun u l hl=>by
   obtain ⟨v,h1,h2⟩:=K.ol u l hl
   exact ⟨v,h1,fun _=>h2 (ne4 ω ω ω)⟩,
  fun _=>K.b (ne4 ω ω ω),
  fun u l hl=>by
   obtain ⟨v,h1,h2⟩:=K.bl u l hl
   exact ⟨v,h1,fun _=>h2 (ne4 ω ω ω)⟩,
  fun _=>K.e (ne4 ω ω ω),
  fun u l hl=>by
   obtain ⟨v,h1,h2⟩:=K.el u l hl
   exact ⟨v,h1,fun _=>h2 (ne4 ω ω ω)⟩,
  K.f64,
  K.s64⟩,
  ⟨by rw [heap_setCell_same _ _ _ _ _ _ (by rw [hC.keep bt hB.lt (by rw [hB.lab];omega)];exact hB.row)];rfl,aC⟩⟩,(hC.nz ω).trans (hS.nz ω)⟩
theorem V2.pushC (h:V2 w c bt s):∃ na nc nx,w.cell? (π bt 5)=some (σ na s.calls.length nc)/\V3 w c 6 54 1 (σ na s.calls.length nc) s.calls.length nx/\
  ∀ w1 c1 w2 c2 lv (l:List Cal) v',Chg (fun k=>k=19) c c1 w w1->(∀ b,w1.heap.size<=b->c1 b=0)->Xf w1.heap.size (mask w1 c1) 2 (Xsr w1.heap.size) lv l->Chg (fun k=>k=6) c1 c2 w1 w2->(∀ b,w2.heap.size<=b->c2 b=0)->V3 w2 c2 6 54 1 v' (s.calls.length+1) (nx++[lv])->
   V2 (w2.setCell (π bt 5) v') c2 bt { s with calls:=s.calls++[l] }/\Chg NZ c c2 w (w2.setCell (π bt 5) v'):=by
 obtain ⟨V,h,hB⟩:=h
 have hr:=h.cr (no _)
 obtain ⟨oa,oc,eo,-⟩:=hr.form
 have b1:=hB.cell 5 (v:=V.cv) rfl
 have aH:=hr.1.1
 rw [eo] at hr b1
 refine ⟨oa,oc,V.cx,b1,hr,fun w1 c1 w2 c2 lv l v' aB aF aE aA aD hR=>?_⟩
 have hC:Chg (fun k=>k=19\/k=6) c c2 w w2:=(aB.mono (fun k hk=>.inl hk) ω).trans (aA.mono (fun k hk=>.inr hk) ω)
 have aC:c2 bt=1:=by rw [hC.old bt hB.lt];exact hB.lab
 have hS:Chg (fun k=>k=1) c2 c2 w2 (w2.setCell (π bt 5) v'):=Chg.set aC ω
 have aG:∀ b,(w2.setCell (π bt 5) v').heap.size<=b->c2 b=0:=fun b hb=>aD b (by simpa using hb)
 have K:=((h.kept aB aF).kept aA aD).kept hS aG
 refine ⟨⟨{ V with cv:=v',cx:=V.cx++[lv] },⟨K.hi,
  fun _=>K.g (ne4 ω ω ω),
  fun _=>K.n (ne4 ω ω ω),
  fun i y hy=>by
   obtain ⟨q,q1,q2,q3,q4⟩:=K.nn i y hy
   exact ⟨q,q1,q2,q3,fun _=>q4 (ne4 ω ω ω)⟩,
  fun _=>K.r (ne4 ω ω ω),
  K.rr,
  fun _=>K.k (ne4 ω ω ω),
  fun _=>by rw [List.length_append];exact hR.keep hS ω,
  fun i y hy=>by
   by_cases hi:i<s.calls.length
   ·rw [Al hi] at hy
    obtain ⟨q,q1,q2⟩:=K.cl i y hy
    exact ⟨q,by rw [Al ω];exact q1,q2⟩
   ·obtain ⟨rfl,rfl⟩:i=s.calls.length/\y=l:=by
     rw [Ar ω] at hy
     have:i - s.calls.length=0:=by have:=(Ll hy);simp at this;omega
     rw [this] at hy;simp at hy;exact ⟨ω,hy.symm⟩
    exact ⟨lv,by rw [Ar ω,aH,Nat.mul_one,Nat.sub_self];rfl,aE.ups Xuk (Nt aA.size hS.size) (aA.sub.trans hS.sub)⟩,
  fun _=>K.o (ne4 ω ω ω),
  fun u l hl=>by
   obtain ⟨v,h1,h2⟩:=K.ol u l hl
   exact ⟨v,h1,fun _=>h2 (ne4 ω ω ω)⟩,
  fun _=>K.b (ne4 ω ω ω),
  fun u l hl=>by
   obtain ⟨v,h1,h2⟩:=K.bl u l hl
   exact ⟨v,h1,fun _=>h2 (ne4 ω ω ω)⟩,
  fun _=>K.e (ne4 ω ω ω),
  fun u l hl=>by
   obtain ⟨v,h1,h2⟩:=K.el u l hl
   exact ⟨v,h1,fun _=>h2 (ne4 ω ω ω)⟩,
  K.f64,
  K.s64⟩,
  ⟨by rw [heap_setCell_same _ _ _ _ _ _ (by rw [hC.keep bt hB.lt (by rw [hB.lab];omega)];exact hB.row)];rfl,aC⟩⟩,(hC.nz ω).trans (hS.nz ω)⟩
theorem V2.pushO (h:V2 w c bt s):∃ na nc nx,w.cell? (π bt 6)=some (σ na s.results.length nc)/\V3 w c 7 78 1 (σ na s.results.length nc) s.results.length nx/\
  ∀ w1 c1 w2 c2 lv (l:List Xr7) v',Chg (fun k=>k=(11+5*s.results.length)) c c1 w w1->(∀ b,w1.heap.size<=b->c1 b=0)->Xup w1 c1 (11+5*s.results.length) lv l->Chg (fun k=>k=7) c1 c2 w1 w2->(∀ b,w2.heap.size<=b->c2 b=0)->V3 w2 c2 7 78 1 v' (s.results.length+1) (nx++[lv])->
   V2 (w2.setCell (π bt 6) v') c2 bt { s with results:=s.results++[l] }/\Chg NZ c c2 w (w2.setCell (π bt 6) v'):=by
 obtain ⟨V,h,hB⟩:=h
 have hr:=h.o (no _)
 obtain ⟨oa,oc,eo,-⟩:=hr.form
 have b1:=hB.cell 6 (v:=V.ov) rfl
 have aH:=hr.1.1
 rw [eo] at hr b1
 refine ⟨oa,oc,V.ox,b1,hr,fun w1 c1 w2 c2 lv l v' aB aF aE aA aD hR=>?_⟩
 have hC:Chg (fun k=>k=(11+5*s.results.length)\/k=7) c c2 w w2:=(aB.mono (fun k hk=>.inl hk) ω).trans (aA.mono (fun k hk=>.inr hk) ω)
 have aC:c2 bt=1:=by rw [hC.old bt hB.lt];exact hB.lab
 have hS:Chg (fun k=>k=1) c2 c2 w2 (w2.setCell (π bt 6) v'):=Chg.set aC ω
 have aG:∀ b,(w2.setCell (π bt 6) v').heap.size<=b->c2 b=0:=fun b hb=>aD b (by simpa using hb)
 have K:=((h.kept aB aF).kept aA aD).kept hS aG
 refine ⟨⟨{ V with ov:=v',ox:=V.ox++[lv] },⟨K.hi,
  fun _=>K.g (ne4 ω ω ω),
  fun _=>K.n (ne4 ω ω ω),
  fun i y hy=>by
   obtain ⟨q,q1,q2,q3,q4⟩:=K.nn i y hy
   exact ⟨q,q1,q2,q3,fun _=>q4 (ne4 ω ω ω)⟩,
  fun _=>K.r (ne4 ω ω ω),
  K.rr,
  fun _=>K.k (ne4 ω ω ω),
  fun _=>K.cr (ne4 ω ω ω),
  K.cl,
  fun _=>by rw [List.length_append];exact hR.keep hS ω,
  fun i y hy=>by
   by_cases hi:i<s.results.length
   ·rw [Al hi] at hy
    obtain ⟨q,q1,q2⟩:=K.ol i y hy
    exact ⟨q,by rw [Al ω];exact q1,fun _=>q2 (ne4 ω ω ω)⟩
   ·obtain ⟨rfl,rfl⟩:i=s.results.length/\y=l:=by
     rw [Ar ω] at hy
     have:i - s.results.length=0:=by have:=(Ll hy);simp at this;omega
     rw [this] at hy;simp at hy;exact ⟨ω,hy.symm⟩
    exact ⟨lv,by rw [Ar ω,aH,Nat.mul_one,Nat.sub_self];rfl,fun _=>(aE.keep aA ω).keep hS ω⟩,
  fun _=>K.b (ne4 ω ω ω),
  fun u l hl=>by
   obtain ⟨v,h1,h2⟩:=K.bl u l hl
   exact ⟨v,h1,fun _=>h2 (ne4 ω ω ω)⟩,
  fun _=>K.e (ne4 ω ω ω),
  fun u l hl=>by
   obtain ⟨v,h1,h2⟩:=K.el u l hl
   exact ⟨v,h1,fun _=>h2 (ne4 ω ω ω)⟩,
  K.f64,
  K.s64⟩,
  ⟨by rw [heap_setCell_same _ _ _ _ _ _ (by rw [hC.keep bt hB.lt (by rw [hB.lab];omega)];exact hB.row)];rfl,aC⟩⟩,(hC.nz ω).trans (hS.nz ω)⟩
theorem V2.pushB (h:V2 w c bt s):∃ na nc nx,w.cell? (π bt 7)=some (σ na s.begins.length nc)/\V3 w c 8 22 1 (σ na s.begins.length nc) s.begins.length nx/\
  ∀ w1 c1 w2 c2 lv (l:List Int) v',Chg (fun k=>k=(12+5*s.begins.length)) c c1 w w1->(∀ b,w1.heap.size<=b->c1 b=0)->Xsp w1 c1 (12+5*s.begins.length) lv l->Chg (fun k=>k=8) c1 c2 w1 w2->(∀ b,w2.heap.size<=b->c2 b=0)->V3 w2 c2 8 22 1 v' (s.begins.length+1) (nx++[lv])->
   V2 (w2.setCell (π bt 7) v') c2 bt { s with begins:=s.begins++[l] }/\Chg NZ c c2 w (w2.setCell (π bt 7) v'):=by
 obtain ⟨V,h,hB⟩:=h
 have hr:=h.b (no _)
 obtain ⟨oa,oc,eo,-⟩:=hr.form
 have b1:=hB.cell 7 (v:=V.bv) rfl
 have aH:=hr.1.1
 rw [eo] at hr b1
 refine ⟨oa,oc,V.bx,b1,hr,fun w1 c1 w2 c2 lv l v' aB aF aE aA aD hR=>?_⟩
 have hC:Chg (fun k=>k=(12+5*s.begins.length)\/k=8) c c2 w w2:=(aB.mono (fun k hk=>.inl hk) ω).trans (aA.mono (fun k hk=>.inr hk) ω)
 have aC:c2 bt=1:=by rw [hC.old bt hB.lt];exact hB.lab
 have hS:Chg (fun k=>k=1) c2 c2 w2 (w2.setCell (π bt 7) v'):=Chg.set aC ω
 have aG:∀ b,(w2.setCell (π bt 7) v').heap.size<=b->c2 b=0:=fun b hb=>aD b (by simpa using hb)
 have K:=((h.kept aB aF).kept aA aD).kept hS aG
 refine ⟨⟨{ V with bv:=v',bx:=V.bx++[lv] },⟨K.hi,
  fun _=>K.g (ne4 ω ω ω),
  fun _=>K.n (ne4 ω ω ω),
  fun i y hy=>by
   obtain ⟨q,q1,q2,q3,q4⟩:=K.nn i y hy
   exact ⟨q,q1,q2,q3,fun _=>q4 (ne4 ω ω ω)⟩,
  fun _=>K.r (ne4 ω ω ω),
  K.rr,
  fun _=>K.k (ne4 ω ω ω),
  fun _=>K.cr (ne4 ω ω ω),
  K.cl,
  fun _=>K.o (ne4 ω ω ω),
  fun u l hl=>by
   obtain ⟨v,h1,h2⟩:=K.ol u l hl
   exact ⟨v,h1,fun _=>h2 (ne4 ω ω ω)⟩,
  fun _=>by rw [List.length_append];exact hR.keep hS ω,
  fun i y hy=>by
   by_cases hi:i<s.begins.length
   ·rw [Al hi] at hy
    obtain ⟨q,q1,q2⟩:=K.bl i y hy
    exact ⟨q,by rw [Al ω];exact q1,fun _=>q2 (ne4 ω ω ω)⟩
   ·obtain ⟨rfl,rfl⟩:i=s.begins.length/\y=l:=by
     rw [Ar ω] at hy
     have:i - s.begins.length=0:=by have:=(Ll hy);simp at this;omega
     rw [this] at hy;simp at hy;exact ⟨ω,hy.symm⟩
    exact ⟨lv,by rw [Ar ω,aH,Nat.mul_one,Nat.sub_self];rfl,fun _=>(aE.keep aA ω).keep hS ω⟩,
  fun _=>K.e (ne4 ω ω ω),
  fun u l hl=>by
   obtain ⟨v,h1,h2⟩:=K.el u l hl
   exact ⟨v,h1,fun _=>h2 (ne4 ω ω ω)⟩,
  K.f64,
  K.s64⟩,
  ⟨by rw [heap_setCell_same _ _ _ _ _ _ (by rw [hC.keep bt hB.lt (by rw [hB.lab];omega)];exact hB.row)];rfl,aC⟩⟩,(hC.nz ω).trans (hS.nz ω)⟩
theorem V2.pushE (h:V2 w c bt s):∃ na nc nx,w.cell? (π bt 8)=some (σ na s.ends.length nc)/\V3 w c 9 22 1 (σ na s.ends.length nc) s.ends.length nx/\
  ∀ w1 c1 w2 c2 lv (l:List Int) v',Chg (fun k=>k=(13+5*s.ends.length)) c c1 w w1->(∀ b,w1.heap.size<=b->c1 b=0)->Xsp w1 c1 (13+5*s.ends.length) lv l->Chg (fun k=>k=9) c1 c2 w1 w2->(∀ b,w2.heap.size<=b->c2 b=0)->V3 w2 c2 9 22 1 v' (s.ends.length+1) (nx++[lv])->
   V2 (w2.setCell (π bt 8) v') c2 bt { s with ends:=s.ends++[l] }/\Chg NZ c c2 w (w2.setCell (π bt 8) v'):=by
 obtain ⟨V,h,hB⟩:=h
 have hr:=h.e (no _)
 obtain ⟨oa,oc,eo,-⟩:=hr.form
 have b1:=hB.cell 8 (v:=V.ev) rfl
 have aH:=hr.1.1
 rw [eo] at hr b1
 refine ⟨oa,oc,V.ex,b1,hr,fun w1 c1 w2 c2 lv l v' aB aF aE aA aD hR=>?_⟩
 have hC:Chg (fun k=>k=(13+5*s.ends.length)\/k=9) c c2 w w2:=(aB.mono (fun k hk=>.inl hk) ω).trans (aA.mono (fun k hk=>.inr hk) ω)
 have aC:c2 bt=1:=by rw [hC.old bt hB.lt];exact hB.lab
 have hS:Chg (fun k=>k=1) c2 c2 w2 (w2.setCell (π bt 8) v'):=Chg.set aC ω
 have aG:∀ b,(w2.setCell (π bt 8) v').heap.size<=b->c2 b=0:=fun b hb=>aD b (by simpa using hb)
 have K:=((h.kept aB aF).kept aA aD).kept hS aG
 refine ⟨⟨{ V with ev:=v',ex:=V.ex++[lv] },⟨K.hi,
  fun _=>K.g (ne4 ω ω ω),
  fun _=>K.n (ne4 ω ω ω),
  fun i y hy=>by
   obtain ⟨q,q1,q2,q3,q4⟩:=K.nn i y hy
   exact ⟨q,q1,q2,q3,fun _=>q4 (ne4 ω ω ω)⟩,
  fun _=>K.r (ne4 ω ω ω),
  K.rr,
  fun _=>K.k (ne4 ω ω ω),
  fun _=>K.cr (ne4 ω ω ω),
  K.cl,
  fun _=>K.o (ne4 ω ω ω),
  fun u l hl=>by
   obtain ⟨v,h1,h2⟩:=K.ol u l hl
   exact ⟨v,h1,fun _=>h2 (ne4 ω ω ω)⟩,
  fun _=>K.b (ne4 ω ω ω),
  fun u l hl=>by
   obtain ⟨v,h1,h2⟩:=K.bl u l hl
   exact ⟨v,h1,fun _=>h2 (ne4 ω ω ω)⟩,
  fun _=>by rw [List.length_append];exact hR.keep hS ω,
  fun i y hy=>by
   by_cases hi:i<s.ends.length
   ·rw [Al hi] at hy
    obtain ⟨q,q1,q2⟩:=K.el i y hy
    exact ⟨q,by rw [Al ω];exact q1,fun _=>q2 (ne4 ω ω ω)⟩
   ·obtain ⟨rfl,rfl⟩:i=s.ends.length/\y=l:=by
     rw [Ar ω] at hy
     have:i - s.ends.length=0:=by have:=(Ll hy);simp at this;omega
     rw [this] at hy;simp at hy;exact ⟨ω,hy.symm⟩
    exact ⟨lv,by rw [Ar ω,aH,Nat.mul_one,Nat.sub_self];rfl,fun _=>(aE.keep aA ω).keep hS ω⟩,
  K.f64,
  K.s64⟩,
  ⟨by rw [heap_setCell_same _ _ _ _ _ _ (by rw [hC.keep bt hB.lt (by rw [hB.lab];omega)];exact hB.row)];rfl,aC⟩⟩,(hC.nz ω).trans (hS.nz ω)⟩
theorem Xze {P:Program} {S:World->Prop} {fin:Bool} {i j:Nat} {u v:Oper} {rest:List (Nat×Oper)} (hij:(i != j && i != k && j != k)=true) (hc:(rest.all fun r=>r.1 != i && r.1 != j && r.1 != k && ((i,o)::(j,u)::(k,v)::rest).any (waits r))=true)
  (h:o.wp P a w (fun a' w'=>(S w'\/(fin && i+1 == n)=true)/\Xsz P n Q S fin ((j,u)::(k,v)::rest) a' w') (NoPanic Q)) (h2:u.wp P a w (fun a' w'=>(S w'\/(fin && j+1 == n)=true)/\Xsz P n Q S fin ((i,o)::(k,v)::rest) a' w') (NoPanic Q)) (h3:v.wp P a w (fun a' w'=>(S w'\/(fin && k+1 == n)=true)/\Xsz P n Q S fin ((i,o)::(j,u)::rest) a' w') (NoPanic Q)):Xsz P n Q S fin ((i,o)::(j,u)::(k,v)::rest) a w:=by
 rw [List.all_eq_true] at hc
 simp only [Bool.and_eq_true,bne_iff_ne] at hij
 obtain ⟨⟨aC,aD⟩,aE⟩:=hij
 have aA:∀ r∈rest,r.1≠i/\r.1≠j/\r.1≠k:=fun r hr=>by
  have:=hc r hr
  simp only [Bool.and_eq_true,bne_iff_ne] at this
  exact ⟨this.1.1.1,this.1.1.2,this.1.2⟩
 refine ⟨.inr ⟨fun h=>(by cases h),fun x hx aB=>?_⟩⟩
 rcases List.mem_cons.1 hx with rfl|hx
 ·have e:((i,o)::(j,u)::(k,v)::rest).filter (fun r=>r.1 != i)=(j,u)::(k,v)::rest:=by
   rw [List.filter_cons,if_neg ψ,List.filter_cons,if_pos (by simpa using Ne.symm aC),List.filter_cons,if_pos (by simpa using Ne.symm aD)]
   exact congrArg _ (congrArg _ (List.filter_eq_self.2 (fun r hr=>by simpa using (aA r hr).1)))
  rw [e]
  exact Oper.wp_mono (fun a' w' h=>⟨h.1,h.2.1⟩) h
 rcases List.mem_cons.1 hx with rfl|hx
 ·have e:((i,o)::(j,u)::(k,v)::rest).filter (fun r=>r.1 != j)=(i,o)::(k,v)::rest:=by
   rw [List.filter_cons,if_pos (by simpa using aC),List.filter_cons,if_neg ψ,List.filter_cons,if_pos (by simpa using Ne.symm aE)]
   exact congrArg _ (congrArg _ (List.filter_eq_self.2 (fun r hr=>by simpa using (aA r hr).2.1)))
  rw [e]
  exact Oper.wp_mono (fun a' w' h=>⟨h.1,h.2.1⟩) h2
 rcases List.mem_cons.1 hx with rfl|hx
 ·have e:((i,o)::(j,u)::(k,v)::rest).filter (fun r=>r.1 != k)=(i,o)::(j,u)::rest:=by
   rw [List.filter_cons,if_pos (by simpa using aD),List.filter_cons,if_pos (by simpa using aE),List.filter_cons,if_neg ψ]
   exact congrArg _ (congrArg _ (List.filter_eq_self.2 (fun r hr=>by simpa using (aA r hr).2.2)))
  rw [e]
  exact Oper.wp_mono (fun a' w' h=>⟨h.1,h.2.1⟩) h3
 ·have:=hc x hx
  rw [Bool.and_eq_true] at this
  obtain ⟨r,aF,aG⟩:=List.any_eq_true.1 this.2
  unfold Xsj at aB
  rw [List.all_eq_true] at aB
  have:=aB r aF
  rw [aG] at this
  cases this
theorem Xxp.keep (h:Xxp w c m gv nv nx) (hC:Chg T c c' w w') (hhi:∀ b,w'.heap.size<=b->c' b=0) (hT:∀ t,T t->t=5):Xxp w' c' m gv nv nx:=
 ⟨hhi,h.g.keep hC (fun h=>by have:=hT _ h;omega),h.n.keep hC (fun h=>by have:=hT _ h;omega),fun i x hx=>by
  obtain ⟨lv,h1,h2,h3,h4⟩:=h.nn i x hx
  exact ⟨lv,h1,h2,h3,h4.keep hC (fun h=>by
   have:=hT _ h
   omega)⟩⟩
def Xr6 (W:World) (R:Nat) (v0 v1 v2 v3 v4 v5 v6 v7 v8 v9:Value):World:=((((((((((W.setCell (π R 0) v0).setCell (π R 1) v1).setCell (π R 2) v2).setCell (π R 3) v3).setCell (π R 4) v4).setCell (π R 5) v5).setCell (π R 6) v6).setCell (π R 7) v7).setCell (π R 8) v8).setCell (π R 9) v9)
theorem ten {T:TypeId} (h:W.heap[R]?=some (χ #[x0,x1,x2,x3,x4,x5,x6,x7,x8,x9] T (0,0))):(W.cell? (π R 0)=some x0/\W.cell? (π R 1)=some x1/\W.cell? (π R 2)=some x2/\W.cell? (π R 3)=some x3/\W.cell? (π R 4)=some x4/\W.cell? (π R 5)=some x5/\W.cell? (π R 6)=some x6/\W.cell? (π R 7)=some x7/\W.cell? (π R 8)=some x8/\W.cell? (π R 9)=some x9)/\(W.frozen? (π R 0)=false/\W.frozen? (π R 1)=false/\W.frozen? (π R 2)=false/\W.frozen? (π R 3)=false/\W.frozen? (π R 4)=false/\W.frozen? (π R 5)=false/\W.frozen? (π R 6)=false/\W.frozen? (π R 7)=false/\W.frozen? (π R 8)=false/\W.frozen? (π R 9)=false)/\R<W.heap.size:=
 ⟨⟨Cr h rfl,Cr h rfl,Cr h rfl,Cr h rfl,Cr h rfl,Cr h rfl,Cr h rfl,Cr h rfl,Cr h rfl,Cr h rfl⟩,⟨Fz h,Fz h,Fz h,Fz h,Fz h,Fz h,Fz h,Fz h,Fz h,Fz h⟩,(La h)⟩
theorem V4 {T:TypeId} (h:W.heap[R]?=some (χ #[x0,x1,x2,x3,x4,x5,x6,x7,x8,x9] T (0,0))) (v0 v1 v2 v3 v4 v5 v6 v7 v8 v9:Value):(Xr6 W R v0 v1 v2 v3 v4 v5 v6 v7 v8 v9).heap[R]?=some (χ #[v0,v1,v2,v3,v4,v5,v6,v7,v8,v9] T (0,0)):=by
 unfold Xr6
 have h0:=heap_setCell_same W R 0 _ _ v0 h
 have h1:=heap_setCell_same _ R 1 _ _ v1 h0
 have h2:=heap_setCell_same _ R 2 _ _ v2 h1
 have h3:=heap_setCell_same _ R 3 _ _ v3 h2
 have h4:=heap_setCell_same _ R 4 _ _ v4 h3
 have h5:=heap_setCell_same _ R 5 _ _ v5 h4
 have h6:=heap_setCell_same _ R 6 _ _ v6 h5
 have h7:=heap_setCell_same _ R 7 _ _ v7 h6
 have h8:=heap_setCell_same _ R 8 _ _ v8 h7
 have h9:=heap_setCell_same _ R 9 _ _ v9 h8
 exact h9.trans (congrArg (fun q=>some (Obj.cells q T (0,0))) (show (((((((((((#[x0,x1,x2,x3,x4,x5,x6,x7,x8,x9]:Array Value).setIfInBounds 0 v0).setIfInBounds 1 v1).setIfInBounds 2 v2).setIfInBounds 3 v3).setIfInBounds 4 v4).setIfInBounds 5 v5).setIfInBounds 6 v6).setIfInBounds 7 v7).setIfInBounds 8 v8).setIfInBounds 9 v9)=#[v0,v1,v2,v3,v4,v5,v6,v7,v8,v9] by kernel_rfl))
theorem Xs2 {v0 v1 v2 v3 v4 v5 v6 v7 v8 v9:Value} (h:T (c R)) (h0:¬T 0):Chg T c c W (Xr6 W R v0 v1 v2 v3 v4 v5 v6 v7 v8 v9):=
 ((((((((((Chg.set (T:=T) h h0).trans (Chg.set h h0)).trans (Chg.set h h0)).trans (Chg.set h h0)).trans (Chg.set h h0)).trans (Chg.set h h0)).trans (Chg.set h h0)).trans (Chg.set h h0)).trans (Chg.set h h0)).trans (Chg.set h h0))
theorem Xtg (W:World) (R:Nat) (v0 v1 v2 v3 v4 v5 v6 v7 v8 v9:Value):(Xr6 W R v0 v1 v2 v3 v4 v5 v6 v7 v8 v9).heap.size=W.heap.size:=by simp [Xr6]
theorem Xwv (h:W.heap[R]?=some (χ #[x0,x1,x2,x3,x4,x5,x6,x7,x8,x9] 34 (0,0))):(loadVar 34 (π R 0)).run Tryz.prog W=.ok (.agg #[x0,x1,x2,x3,x4,x5,x6,x7,x8,x9]) W:=by
 obtain ⟨⟨c0,c1,c2,c3,c4,c5,c6,c7,c8,c9⟩,-⟩:=ten h
 simp [go_sem,c0,c1,c2,c3,c4,c5,c6,c7,c8,c9]
theorem Xyk (hf:fn.results=#[.cell p 34]) (h:W.heap[R]?=some (χ #[x0,x1,x2,x3,x4,x5,x6,x7,x8,x9] 34 (0,0))) (tmps:Array Value) (h1:tmps.getD p undef=.pointer (some (π R 0))) :
  (results fn tmps).run Tryz.prog W=.ok (.agg #[x0,x1,x2,x3,x4,x5,x6,x7,x8,x9]) W:=by
 simp only [results,hf]
 rw [Array.getD_eq_getD_getElem?] at h1
 simp [h1,asAddr,Xwv h,Result.andThen,Sem.run_bind]
def tk5 (s:Thr) (a b c d e:Nat):Thr:=⟨s.mem,s.fuel,s.running.take a,s.nodes,s.calls.take b,s.results.take c,s.begins.take d,s.ends.take e,s.step⟩
structure Xw7 (s:Thr):Prop where
 g:s.mem.globals.length<=1000000
 n:s.mem.nodes.length<=4096
 f:∀ x∈s.mem.nodes,x.f.length<=1000000
 rl:s.running.length<=1000000
 r:∀ m∈s.running,m.frames.length<=1000/\∀ f∈m.frames,f.locals.length<=1000000/\f.stack.length<=1000000
 kl:s.nodes.length<=1000000
 cl:s.calls.length=s.running.length
 c:∀ l∈s.calls,l.length<=1000000/\∀ x∈l,x.args.length<=1000000
 ol:s.results.length=s.running.length
 o:∀ l∈s.results,l.length<=1000000
 bl:s.begins.length=s.running.length
 b:∀ l∈s.begins,l.length<=1000000
 el:s.ends.length=s.running.length
 e:∀ l∈s.ends,l.length<=1000000
theorem Xw7.all (h:Xw7 s) (hn:n=s.running.length):tk5 s n n n n n=s:=by
 subst hn
 unfold tk5
 rw [List.take_length,<- h.cl,List.take_length,h.cl,<- h.ol,List.take_length,h.ol,<- h.bl,List.take_length,h.bl,<- h.el,List.take_length]
def o14 (n:Nat):Clr:=fun b=>if b<n then 14 else 0
def Xvo (s:Thr) (w:World) (e:Ending) (w':World):Prop:=∃ V c',e=.returned (.agg (tvC V s))/\TK NO w' c' s V/\Chg NO (o14 w.heap.size) c' w w'
theorem Xvo.own {V:TV} (h:TK NO w' c' s V) (hC:Chg NO (o14 w.heap.size) c' w w') (hc:∀ b,w.heap.size<=b->c b=0):∃ c1,TK NO w' c1 s V/\Chg NO c c1 w w':=by
 have aB:∀ b,b<w.heap.size->c' b=14:=fun b hb=>by rw [hC.old b hb];exact if_pos hb
 have aA:∀ tag,tag≠14->∀ b,c' b=tag->(if b<w.heap.size then c b else c' b)=tag:=fun tag ht b hb=>by
  rw [if_neg (fun aC=>ht (by rw [<-hb,aB b aC]))];exact hb
 have hS:Sub (mask w' c') (mask w' (fun b=>if b<w.heap.size then c b else c' b)):=fun a v ha=>by
  rw [Xtw] at ha ⊢
  split at ha
  ·rename_i h1
   rw [if_pos (aA 0 δ _ h1)];exact ha
  ·cases ha
 refine ⟨fun b=>if b<w.heap.size then c b else c' b,⟨fun b hb=>?_,fun n=>⟨(h.g n).1.recol (aA _ δ),(h.g n).2⟩,fun n=>(h.n n).recol (aA _ δ),fun i x hx=>?_,fun n=>(h.r n).recol (aA _ δ),fun t m hm=>?_,fun n=>⟨(h.k n).1.recol (aA _ δ),(h.k n).2⟩,fun n=>(h.cr n).recol (aA _ δ),fun t l hl=>?_,fun n=>(h.o n).recol (aA _ δ),fun t l hl=>?_,fun n=>(h.b n).recol (aA _ δ),fun t l hl=>?_,fun n=>(h.e n).recol (aA _ δ),fun t l hl=>?_,h.f64,h.s64⟩,⟨hC.os,hC.tape,hC.output,hC.size,fun b hb _=>hC.keep b hb (no _),fun b hb=>if_pos hb,no 0⟩⟩
 ·show (if _ then _ else _)=_
  rw [if_neg (by have:=hC.size;omega)];exact h.hi b hb
 ·obtain ⟨lv,h1,h2,h3,h4⟩:=h.nn i x hx
  exact ⟨lv,h1,h2,h3,fun n=>⟨(h4 n).1.recol (aA _ ω),(h4 n).2⟩⟩
 ·obtain ⟨fv,h1,h2,h3⟩:=h.rr t m hm
  exact ⟨fv,h1,h2.ups Xsw (Nr _) hS,h3⟩
 ·obtain ⟨v,h1,h2⟩:=h.cl t l hl
  exact ⟨v,h1,h2.ups Xuk (Nr _) hS⟩
 ·obtain ⟨v,h1,h2⟩:=h.ol t l hl
  exact ⟨v,h1,fun n=>⟨(h2 n).1.recol (aA _ ω),(h2 n).2⟩⟩
 ·obtain ⟨v,h1,h2⟩:=h.bl t l hl
  exact ⟨v,h1,fun n=>⟨(h2 n).1.recol (aA _ ω),(h2 n).2⟩⟩
 ·obtain ⟨v,h1,h2⟩:=h.el t l hl
  exact ⟨v,h1,fun n=>⟨(h2 n).1.recol (aA _ ω),(h2 n).2⟩⟩
theorem X06 {kv:Value} (hM:Xxp w c s.mem gv nv nx) (hK:Xsp w c 5 kv s.nodes) (hbox:w.heap[bo]?=some (χ #[gv,nv,ι s.fuel,ν,kv,ν,ν,ν,ν,ι s.step] 34 (0,0))) (hb:c bo=1) (f64:in64 s.fuel) (s64:in64 s.step):V2 w c bo (tk5 s 0 0 0 0 0):=
 ⟨⟨gv,nv,ν,kv,ν,ν,ν,ν,nx,[],[],[],[],[]⟩,⟨hM.hi,fun _=>hM.g,fun _=>hM.n,fun i x hx=>by
  obtain ⟨lv,h1,h2,h3,h4⟩:=hM.nn i x hx
  exact ⟨lv,h1,h2,h3,fun _=>h4⟩,fun _=>V3.nil _ _ _ _ _,fun t m hm=>by simp [tk5] at hm,fun _=>hK,fun _=>V3.nil _ _ _ _ _,fun t m hm=>by simp [tk5] at hm,fun _=>V3.nil _ _ _ _ _,fun t m hm=>by simp [tk5] at hm,fun _=>V3.nil _ _ _ _ _,fun t m hm=>by simp [tk5] at hm,fun _=>V3.nil _ _ _ _ _,fun t m hm=>by simp [tk5] at hm,f64,s64⟩,⟨hbox,hb⟩⟩
structure X13 (s:Thr) (W:World) (c0:Clr) (bo k:Nat) (wr:World) (c:Clr):Prop where
 st:V2 wr c bo (tk5 s k k k k k)
 chg:Chg NZ c0 c W wr
theorem X13.post (ok:Xw7 s) (hn:n=s.running.length) (hW:Below w.heap.size w W) (hbr:w.heap.size<=br) (hres:W.heap[br]?=some (χ Bz 34 (0,0))) (h:X13 s W (fun b=>if b<w.heap.size\/b=br then 14 else 0) bo n wr c) :
  ∃ ga gc ma mc ra rc ka kc ca cc oa oc ba bc ea ec,wr.heap[bo]?=some (χ (Bt ga gc ma mc ra rc ka kc ca cc oa oc ba bc ea ec s) 34 (0,0))/\
   wr.heap[br]?=some (χ Bz 34 (0,0))/\
   Xvo s w (.returned (.agg (Bt ga gc ma mc ra rc ka kc ca cc oa oc ba bc ea ec s))) (Xr6 wr br (σ ga s.mem.globals.length gc) (σ ma s.mem.nodes.length mc) (ι s.fuel) (σ ra s.running.length rc) (σ ka s.nodes.length kc) (σ ca s.calls.length cc) (σ oa s.results.length oc) (σ ba s.begins.length bc) (σ ea s.ends.length ec) (ι s.step)):=by
 have aD:=h.st
 rw [ok.all hn] at aD
 obtain ⟨V,hK,hB⟩:=aD
 obtain ⟨gv,nv,rv,kv,cv,ov,bv,ev,nx,rx,cx,ox,bx,ex⟩:=V
 obtain ⟨ga,gc,e1,-⟩:=(hK.g (no _)).1.form
 obtain ⟨ma,mc,e2,-⟩:=(hK.n (no _)).form
 obtain ⟨ra,rc,e3,-⟩:=(hK.r (no _)).form
 obtain ⟨ka,kc,e4,-⟩:=(hK.k (no _)).1.form
 obtain ⟨ca,cc,e5,-⟩:=(hK.cr (no _)).form
 obtain ⟨oa,oc,e6,-⟩:=(hK.o (no _)).form
 obtain ⟨ba,bc,e7,-⟩:=(hK.b (no _)).form
 obtain ⟨ea,ec,e8,-⟩:=(hK.e (no _)).form
 dsimp only at e1 e2 e3 e4 e5 e6 e7 e8
 subst e1 e2 e3 e4 e5 e6 e7 e8
 have aC:=(La hres)
 have aG:c br=14:=by rw [h.chg.old _ aC];exact if_pos (.inr rfl)
 refine ⟨ga,gc,ma,mc,ra,rc,ka,kc,ca,cc,oa,oc,ba,bc,ea,ec,hB.row,by rw [h.chg.keep br aC (by rw [if_pos (.inr rfl)];exact Xvf)];exact hres,⟨σ ga s.mem.globals.length gc,σ ma s.mem.nodes.length mc,σ ra s.running.length rc,σ ka s.nodes.length kc,σ ca s.calls.length cc,σ oa s.results.length oc,σ ba s.begins.length bc,σ ea s.ends.length ec,nx,rx,cx,ox,bx,ex⟩,c,rfl,?_,?_⟩
 ·have hS:=Xs2 (T:=fun t=>t=14) (c:=c) (W:=wr) (R:=br) (v0:=σ ga s.mem.globals.length gc) (v1:=σ ma s.mem.nodes.length mc) (v2:=ι s.fuel) (v3:=σ ra s.running.length rc) (v4:=σ ka s.nodes.length kc) (v5:=σ ca s.calls.length cc) (v6:=σ oa s.results.length oc) (v7:=σ ba s.begins.length bc) (v8:=σ ea s.ends.length ec) (v9:=ι s.step) aG ω
  have K:=hK.kept hS (fun b hb=>hK.hi b (by rw [Xtg] at hb;exact hb))
  have n:∀ t,t≠14->¬(NO t\/t=14):=fun t ht hh=>by
   rcases hh with hh|hh
   ·exact hh
   ·exact ht hh
  exact ⟨K.hi,fun _=>K.g (n _ ω),fun _=>K.n (n _ ω),fun i x hx=>by
   obtain ⟨lv,h1,h2,h3,h4⟩:=K.nn i x hx
   exact ⟨lv,h1,h2,h3,fun _=>h4 (n _ ω)⟩,fun _=>K.r (n _ ω),K.rr,fun _=>K.k (n _ ω),fun _=>K.cr (n _ ω),K.cl,fun _=>K.o (n _ ω),fun t l hl=>by
   obtain ⟨v,h1,h2⟩:=K.ol t l hl
   exact ⟨v,h1,fun _=>h2 (n _ ω)⟩,fun _=>K.b (n _ ω),fun t l hl=>by
   obtain ⟨v,h1,h2⟩:=K.bl t l hl
   exact ⟨v,h1,fun _=>h2 (n _ ω)⟩,fun _=>K.e (n _ ω),fun t l hl=>by
   obtain ⟨v,h1,h2⟩:=K.el t l hl
   exact ⟨v,h1,fun _=>h2 (n _ ω)⟩,K.f64,K.s64⟩
 ·have aB:∀ b,b<w.heap.size->c b=14:=fun b hb=>by rw [h.chg.old b (Nl hb hW.size)];exact if_pos (.inl hb)
  have aF:Below w.heap.size W wr:=⟨h.chg.os,h.chg.tape,h.chg.output,h.chg.size,fun b hb=>h.chg.keep b (Nl hb hW.size) (by rw [if_pos (.inl hb)];exact Xvf)⟩
  have aA:Below w.heap.size w wr:=hW.trans aF
  have hq:=Xs2 (T:=fun t=>t=1) (c:=fun x=>if x=br then 1 else 0) (W:=wr) (R:=br) (v0:=σ ga s.mem.globals.length gc) (v1:=σ ma s.mem.nodes.length mc) (v2:=ι s.fuel) (v3:=σ ra s.running.length rc) (v4:=σ ka s.nodes.length kc) (v5:=σ ca s.calls.length cc) (v6:=σ oa s.results.length oc) (v7:=σ ba s.begins.length bc) (v8:=σ ea s.ends.length ec) (v9:=ι s.step) (if_pos rfl) ω
  obtain ⟨WF,aE⟩:∃ u,u=Xr6 wr br (σ ga s.mem.globals.length gc) (σ ma s.mem.nodes.length mc) (ι s.fuel) (σ ra s.running.length rc) (σ ka s.nodes.length kc) (σ ca s.calls.length cc) (σ oa s.results.length oc) (σ ba s.begins.length bc) (σ ea s.ends.length ec) (ι s.step):=⟨_,rfl⟩
  rw [<-aE] at hq ⊢
  exact ⟨hq.os.trans aA.os,hq.tape.trans aA.tape,hq.output.trans aA.output,Nt aA.size hq.size,fun b hb _=>(hq.keep b (Nl hb aA.size) (by rw [if_neg ω];omega)).trans (aA.block b hb),fun b hb=>by rw [aB b hb];exact (if_pos hb).symm,no 0⟩
