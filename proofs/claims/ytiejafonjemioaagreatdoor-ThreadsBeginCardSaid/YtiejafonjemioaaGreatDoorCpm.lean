import Derived.Test.YtiejafonjemioaaGreatDoorThp
import Derived.Test.YtiejafonjemioaaGreatDoorTh3
set_option maxHeartbeats 4000000
set_option maxRecDepth 100000
set_option linter.unusedVariables false
set_option linter.unusedSimpArgs false
open Go.Value renaming slice→σ
open Go.Obj renaming cells→χ
namespace Go.Proofs.YtiejafonjemioaaGreatDoor
open Go.RowKit
variable {e:TypeId} {w w' wr w8 w9 W:World} {c c1 c9:Clr} {tag sz n b cap k g1 R bi br bo:Nat} {o:Oper} {a:Act} {K:Act->World->Prop} {Q:Exit->Act->World->Prop} {T:Nat->Prop} {v v' fv fv0:Value} {xs:List Value} {l:List Cal} {m:Mch}
theorem Xx6 {t:TypeId} (ti:TypeInfo) (hu:Tryz.prog.underlying t=some (.slice e)) (hti:Tryz.prog.info? e=some ti) (ty:TypeId) (b c:Nat) (w:World):(Builtin.append_ #[t,t] ty #[σ (some (π b 0)) 0 0,σ none 0 c]).run Tryz.prog w=.ok (σ (some (π b 0)) 0 0) w:=by
 simp [Builtin.append_,run_underlying hu,sizeOf,typeInfo,hti,Builtin.lenOf,Builtin.firstCells,storeCells]
theorem X12 {e1:Nat} (he:w.heap[e1]?=some (χ #[] e (0,0))) (hc:c e1=tag):V3 w c tag e sz (σ (some (π e1 0)) 0 0) 0 []:=
 ⟨⟨ψ,.inr ⟨e1,0,#[],rfl,Nat.zero_le _,he,Nr _,by unfold maxLen;omega,ψ,ψ⟩⟩,fun b hb=>by simp [Value.ownBlock] at hb;subst hb;exact hc,ω⟩
theorem Xxy (tag:Nat) (s x:Operand) (t e:TypeId) (ho:o.op=.call { callee:=.builtin .append,args:=#[s,x],argTypes:=#[t,t] }) (hu:Tryz.prog.underlying t=some (.slice e)) {z:Value} {bytes:Nat} (hi:(Tryz.prog.info? e).map (fun i=>(i.zero,i.size,i.bytes))=some (some z,sz,bytes)) (hz:z.cells.size=sz) (hsz:0<sz) (hb:bytes<=128)
  (e1:Nat) (he:w.heap[e1]?=some (χ #[] e (0,0))) (hs:a.eval s=σ (some (π e1 0)) 0 0) (xa:Option Addr) (n xc:Nat) (news:List Value) (hx:a.eval x=σ xa n xc) (hl:news.length=n*sz) (hn:n=0\/∃ ad,xa=some ad/\∀ (j:Nat) u,news[j]?=some u->w.cell? (ad.add j)=some u) (hone:∀ u∈news,u.oneCell'=true) (hm:n<=1000000) (hc:c e1=tag) (h0:tag≠0) (hhi:∀ b,w.heap.size<=b->c b=0)
  (h:∀ g cap w' c',V3 w' c' tag e sz (σ (some (π g 0)) n cap) n news->Chg (fun k=>k=tag) c c' w w'->(∀ b,w'.heap.size<=b->c' b=0)->K (a.put o.dst (σ (some (π g 0)) n cap)) w'):o.wp Tryz.prog a w K Q:=by
 have aA:=X12 (sz:=sz) he hc
 by_cases aD:n=0
 ·subst aD
  obtain rfl:news=[]:=List.eq_nil_of_length_eq_zero ω
  obtain ⟨ti,aE,aG,aF,aH⟩:=info_parts hi
  cases xa with
  | none=>
   have aB:=Xx6 ti hu aE o.type e1 xc w
   unfold Oper.wp
   simp [execOp,ho,resolve,invoke,builtin,hs,hx,aB,Result.andThen]
   exact h e1 0 w c aA (Chg.of_below Br (fun e=>h0 e.symm)) hhi
  | some ad=>
   obtain ⟨w',aB,r1,r2⟩:=run_append_fits (P:=Tryz.prog) w 0 t o.type e ti sz hu aE aF e1 0 0 [] aA.1 ad 0 xc [] ψ ψ ψ (Nr _)
   unfold Oper.wp
   simp [execOp,ho,resolve,invoke,builtin,hs,hx,aB,Result.andThen]
   exact h e1 0 w' c ⟨by simpa using r1,aA.2⟩ ⟨r2.os,r2.tape,r2.output,r2.size,fun b hb hk=>r2.block b hb (fun e=>hk (by simp at e;subst e;exact hc)),fun _ _=>rfl,fun e=>h0 e.symm⟩ (fun b hb=>hhi b (Nt r2.size hb))
 ·obtain ⟨ad,rfl,aC⟩:=hn.resolve_left aD
  refine Xsy (fun k=>k=tag) s x t e ho hu hi hz hsz hb hs aA ad n xc news hx hl aC hone ω ω rfl (fun e=>h0 e.symm) hhi (fun g cap w' c' h1 h2 h3 _=>?_)
  rw [Nat.zero_add] at h1 ⊢
  rw [List.nil_append] at h1
  exact h g cap w' c' h1 h2 h3
theorem Chg.paint (b tag:Nat) (h:Below w.heap.size w w') (hb:w.heap.size<=b):Chg NO c (fun x=>if x=b then tag else c x) w w':=
 ⟨h.os,h.tape,h.output,h.size,fun x hx _=>h.block x hx,fun x hx=>if_neg ω,no 0⟩
def Xti (n:Nat):Clr:=fun b=>if b<n then 99 else 0
theorem Xt4 :∀ b,n<=b->Xti n b=0:=fun b hb=>if_neg ω
theorem Xxq (h:b<n):Xti n b=99:=if_pos h
theorem Chg.seen (h:Chg T (Xti w.heap.size) c1 w w') (hc:∀ b,w.heap.size<=b->c b=0):Sub (mask w' c1) (mask w' c):=fun a v ha=>by
 rw [Xtw] at ha ⊢
 split at ha
 ·rename_i h1
  rw [if_pos (hc _ (Nat.le_of_not_lt fun aA=>by rw [h.old _ aA,Xxq aA] at h1;cases h1))]
  exact ha
 ·cases ha
theorem Chg.fresh (h:Chg T (Xti w.heap.size) c1 w w') (hb:c1 b=tag) (ht:tag≠99:=by decide):w.heap.size<=b:=Nat.le_of_not_lt fun aA=>by
 rw [h.old _ aA,Xxq aA] at hb;exact ht hb.symm
theorem Chg.below0 (h:Chg T (Xti w.heap.size) c1 w w') (ht:¬T 99):Below w.heap.size w w':=
 ⟨h.os,h.tape,h.output,h.size,fun b hb=>h.keep b hb (by rw [Xxq hb];exact ht)⟩
theorem V3.seen (h:Chg T (Xti w.heap.size) c1 w w') (hc:∀ b,w.heap.size<=b->c b=0) (hr:V3 w' c1 tag e sz v n xs) (ht:tag≠99:=by decide):V3 (mask w' c) c1 tag e sz v n xs:=
 ⟨Xvt hr.1 (fun b hb=>Xvm (hc b (h.fresh (hr.2.1 b hb) ht))),hr.2⟩
theorem Xuy {w0:World} (s x:Operand) (ho:o.op=.call { callee:=.builtin .append,args:=#[s,x],argTypes:=#[22,22] })
  (e1:Nat) (he:w.heap[e1]?=some (χ #[] 3 (0,0))) (hs:a.eval s=σ (some (π e1 0)) 0 0) (hb0:Below w0.heap.size w0 w) (h1:w0.heap.size<=e1) (xa:Option Addr) (n xc:Nat) (l:List Int) (B:Nat) (hx:a.eval x=σ xa n xc) (hl:Xf B w 1 Zd (σ xa n xc) l) (hsz:l.length<=1000000) (hhi:∀ b,w0.heap.size<=b->c b=0)
  (h:∀ g cap w',Xf w'.heap.size (mask w' c) 1 Zd (σ (some (π g 0)) n cap) l->Below w0.heap.size w0 w'->((∀ b,b<w.heap.size->b≠e1->w'.heap[b]?=w.heap[b]?)/\Sub w w'/\w.heap.size<=w'.heap.size)->K (a.put o.dst (σ (some (π g 0)) n cap)) w'):o.wp Tryz.prog a w K Q:=by
 have aJ:e1<w.heap.size:=(La he)
 obtain ⟨aH,aI,aG,aK,aL,aM,hE⟩:=hl
 obtain ⟨rfl,rfl,rfl⟩:xa=aH/\n=l.length/\xc=aI:=by simpa using aG
 have aC:∀ q∈l,in64 q:=fun q hq=>by
  rcases hE with h0|⟨b,oo,rfl,aD,hE⟩
  ·subst h0;cases hq
  ·obtain ⟨i,hi,rfl⟩:=List.getElem_of_mem hq
   exact (hE i _ (Lg hi)).2
 refine Xxy 1 s x 22 3 ho Tryz.underlying22 (z:=ι 0) (sz:=1) (bytes:=8) Uc rfl δ δ (c:=fun b=>if b=e1 then 1 else 0) e1 he hs xa l.length xc (l.map (Value.int .i64)) hx ψ ?_ (fun u hu=>?_) hsz (if_pos rfl) δ (fun b hb=>if_neg ω) (fun g cap w' c' r1 r2 _=>?_)
 ·rcases hE with h0|⟨b,oo,rfl,aD,hE⟩
  ·left;rw [h0];rfl
  ·refine .inr ⟨_,rfl,fun j u hu=>?_⟩
   rw [List.getElem?_map] at hu
   cases hg:l[j]? with
   | none=>rw [hg] at hu;simp at hu
   | some q=>
    rw [hg] at hu
    simp at hu
    subst hu
    have:=(hE j q hg).1
    rw [Nat.mul_one] at this
    rw [Xtf];exact this
 ·obtain ⟨_,_,rfl⟩:=List.mem_map.1 hu;rfl
 ·have aE:w0.heap.size<=g:=by
   have hg:c' g=1:=r1.2.1 g (by simp [Value.ownBlock])
   by_cases aF:g<w.heap.size
   ·rw [r2.old g aF] at hg
    by_cases e:g=e1
    ·omega
    ·rw [if_neg e] at hg;cases hg
   ·have:=hb0.size;omega
  have hk:∀ b,b<w.heap.size->b≠e1->w'.heap[b]?=w.heap[b]?:=fun b hb aA=>r2.keep b hb (by rw [if_neg aA];decide)
  have aB:Sub w w':=fun q v hv=>by
   have aA:q.block≠e1:=fun e=>by
    unfold World.cell? at hv
    rw [e,he] at hv
    simp at hv
   rw [World.cell?_of_block (w:=w) (hk _ (World.block_lt_of_cell? w q hv) aA)];exact hv
  refine (fun h1 h2=>h g cap w' h1 h2 ⟨hk,aB,r2.size⟩) ?_ ⟨r2.os.trans hb0.os,r2.tape.trans hb0.tape,r2.output.trans hb0.output,Nt hb0.size r2.size,fun b hb=>?_⟩
  ·have hR:Xsp (mask w' c) c' 1 (σ (some (π g 0)) l.length cap) l:=⟨⟨Xvt r1.1 (fun b hb=>by
    simp [Value.ownBlock] at hb;subst hb;exact Xvm (hhi _ aE)),r1.2⟩,aC⟩
   have:=hR.reads
   rw [Xul] at this
   exact this
  ·rw [r2.keep b (Nl hb hb0.size) (by rw [if_neg ω];decide)]
   exact hb0.block b hb
theorem Xvr (h:Sub w w'):Sub (mask w c) (mask w' c):=fun a v ha=>by
 rw [Xtw] at ha ⊢
 split at ha
 ·rename_i h1
  rw [if_pos h1];exact h _ _ ha
 ·cases ha
structure Xzb (l:List Cal) (w:World) (k:Nat) (v:Value) (c:Clr) (xs:List Value) (wr:World):Prop where
 row:V3 wr c 1 80 2 v k xs
 chg:Chg (fun t=>t=1) (Xti w.heap.size) c w wr
 hi:∀ b,wr.heap.size<=b->c b=0
 elem:∀ (i:Nat) x,i<k->l[i]?=some x->∃ av,xs[i*2]?=some (.string x.proc)/\xs[i*2+1]?=some av/\Xf wr.heap.size (mask wr c) 1 Zd av x.args/\x.proc.size<=140737488355328
 len:xs.length=k*2
theorem Xzd:(Tryz.prog.info? 80).map (fun i=>(i.zero,i.size,i.bytes))=some (some (.agg #[.string ⟨#[]⟩,ν]),2,40):=by kernel_rfl
def Xwd (l:List Cal) (w:World) (e:Ending) (w':World):Prop:=∃ a cap,e=.returned (σ a l.length cap)/\Below w.heap.size w w'/\∀ c:Clr,(∀ b,w.heap.size<=b->c b=0)->Xf w'.heap.size (mask w' c) 2 (Xsr w'.heap.size) (σ a l.length cap) l
theorem Xzb.post {a:Option Addr} (h:Xzb l w l.length (σ a l.length cap) c xs wr):Xwd l w (.returned (σ a l.length cap)) wr:=by
 refine ⟨a,cap,rfl,h.chg.below0 δ,fun c' aA=>?_⟩
 have hR:=h.row.seen h.chg aA δ
 have:=hR.reads (l:=l) (E:=Xsr wr.heap.size) (fun i x hx=>?_) (fun i x g hx hc=>?_)
 ·rw [Xul] at this;exact this
 ·obtain ⟨av,h1,_⟩:=h.elem i x (Ll hx) hx
  exact ⟨_,h1⟩
 ·obtain ⟨av,h1,h2,h3,h4⟩:=h.elem i x (Ll hx) hx
  exact ⟨hc _ _ h1,⟨av,hc _ _ h2,h3.ups Xr9 (Nr _) (h.chg.seen aA)⟩,h4⟩
theorem Xzb.next {c1:Nat} {x:Cal} (h:Xzb l w k v c xs wr) (hx:l[k]?=some x) (hs:x.proc.size<=140737488355328) (hb:Below wr.heap.size wr w8) (hl:Xf w8.heap.size (mask w8 c) 1 Zd (σ (some (π g1 0)) x.args.length c1) x.args)
  (hC:Chg (fun t=>t=1) c c9 (w8.alloc (χ #[.string x.proc,σ (some (π g1 0)) x.args.length c1] 80)) w9) (hhi:∀ b,w9.heap.size<=b->c9 b=0) (hr:V3 w9 c9 1 80 2 v' (k+1) (xs++[.string x.proc,σ (some (π g1 0)) x.args.length c1])):Xzb l w (k+1) v' c9 (xs++[.string x.proc,σ (some (π g1 0)) x.args.length c1]) w9:=by
 have h8:Chg (fun t=>t=1) c c wr w8:=Chg.of_below hb δ
 have aA:Chg (fun t=>t=1) c c9 w8 w9:=(Chg.of_below (Xa _ _) δ).trans hC
 refine ⟨hr,(h.chg.trans h8).trans aA,hhi,fun i y hi hy=>?_,by simp [h.len];omega⟩
 by_cases aB:i<k
 ·obtain ⟨av,e1,e2,e3,e4⟩:=h.elem i y aB hy
  exact ⟨av,by rw [Al (by rw [h.len];omega)];exact e1,by rw [Al (by rw [h.len];omega)];exact e2,e3.ups Xr9 (h8.trans aA).size (h8.trans aA).sub,e4⟩
 ·obtain rfl:i=k:=ω
  rw [hx] at hy;cases hy
  exact ⟨_,by rw [Ar (by rw [h.len];omega),h.len,Nat.sub_self];rfl,by rw [Ar (by rw [h.len];omega),h.len,show i*2+1 - i*2=1 by omega];rfl,hl.ups Xr9 aA.size aA.sub,hs⟩
theorem Xwm (l:List Cal) (v:Value) (B:Nat) (w:World) (hB:B<=w.heap.size) (hv:Xf B w 2 (Xsr B) v l) (hn:l.length<=1000000) (ha:∀ x∈l,x.args.length<=1000000) :
  Calls Tryz.prog 51 #[v] w (Xwd l w):=by
 obtain ⟨va,vc,rfl⟩:=hv.form
 have HV:=Lh hv
 have HA:=Lh ha
 have HB:=Lh hB
 obtain ⟨n,aN⟩:∃ n,n=l.length:=⟨_,rfl⟩
 rw [<-aN] at hn ⊢
 have HN:=Lh aN
 have aO:Hid (Xzb l w 0 ν (Xti w.heap.size) [] w):=Lh ⟨V3.nil _ _ _ _ _,Chg.of_below Br δ,Xt4,fun i x hi=>by omega,rfl⟩
 clear hv ha hB aN
 go_enter Tryz.func51,Tryz.ntmps51
 go_wp2_with fail
 go_loopw [3,8] (fun v i wr=>∃ (k:Nat) (a:Option Addr) (cap:Nat),k<=n/\v=σ a k cap/\i=ι k/\Hid (∃ c xs,Xzb l w k (σ a k cap) c xs wr)) (fun _ i _=>n - (intOf i).toNat)
 case atStart=>exact ⟨0,none,0,Nat.zero_le _,rfl,rfl,Lh ⟨_,_,aO.o⟩⟩
 case round=>
  obtain ⟨k,oa,aC,hk,rfl,rfl,aF⟩:=hrel
  obtain ⟨c,xs,aF⟩:=aF.o
  have aA:=Lh aF
  clear aF
  by_cases bN:k<n
  ·obtain ⟨x,hx⟩:∃ y,l[k]?=some y:=⟨_,Lg (by have:=HN.o;omega)⟩
   have HX:=Lh hx
   have aI:Below B w wr:=(aA.o.chg.below0 δ).mono HB.o
   obtain ⟨nb,no,bJ,bK,bG⟩:∃ nb no,va=some (π nb no)/\nb<B/\Xsr B wr nb (no+k*2) x:=by
    obtain ⟨a0,aH,bI,_,_,_,hE⟩:=HV.o
    obtain ⟨rfl,_,rfl⟩:va=a0/\n=l.length/\vc=aH:=by have:=HN.o;simpa [this] using bI
    rcases hE with h0|⟨nb,no,rfl,hb,hE⟩
    ·rw [h0] at hx;simp at hx
    ·exact ⟨nb,no,rfl,hb,(hE k x hx).below aI hb⟩
   subst bJ
   obtain ⟨n0,⟨lv,n1,aM⟩,aW⟩:=bG
   obtain ⟨la,lc,rfl⟩:=aM.form
   have aY:=HA.o x (Lm hx)
   obtain ⟨V,hV⟩:∃ V,V=wr.alloc (χ #[.string x.proc,σ la x.args.length lc] 80):=⟨_,rfl⟩
   have aD:Hid (Below wr.heap.size wr V):=Lh (by rw [hV];exact Xa _ _)
   have aK:V.heap[wr.heap.size]?=some (χ #[.string x.proc,σ la x.args.length lc] 80 (0,0)):=by rw [hV];exact Hn _ _
   have v0:=Cw aK 0 rfl
   have v1:=Cw aK 1 rfl
   have zn:=Bl n0
   have aT:(0:Int)<=(k:Int):=In _
   have aU:(k:Int)<(n:Int):=ω
   have bB:=Lh aW
   have bD:=Lh aY
   have bL:Hid (wr.heap.size<V.heap.size):=Lh (by rw [hV];simp)
   have bF:Below B w V:=aI.trans (aD.o.mono (Nt HB.o (aA.o.chg.size)))
   have HE:Hid ((V.alloc (χ #[] 3)).drew.heap[V.heap.size]?=some (χ #[] 3 (0,0))):=Lh (Hn V _)
   have aP:Hid (Below V.heap.size V (V.alloc (χ #[] 3)).drew):=Lh (Xsh V _)
   have HL:Hid (Xf B (V.alloc (χ #[] 3)).drew 1 Zd (σ la x.args.length lc) x.args):=Lh ((aM.ints (aD.o.mono (Nt HB.o aA.o.chg.size))).ints (aP.o.mono (Nt HB.o (Nt aA.o.chg.size aD.o.size))))
   have aZ:Hid (∀ b,V.heap.size<=b->c b=0):=Lh (fun b hb=>aA.o.hi b (Nt aD.o.size hb))
   have HZ:=Lh zn
   have HI:=Lh (And.intro aT aU)
   clear hx aI aM aW aK bF aY
   go_upto_region 5 with fail
   rw [<-hV]
   clear hV n0 n1 zn aT aU
   refine X6 (fun Vs=>Vs.cell? (π wr.heap.size 0)=some (.string x.proc)/\Vs.cell? (π wr.heap.size 1)=some (σ la x.args.length lc)) [3,6,7,8,9,10] true 11 rfl κ κ ⟨v0,v1⟩ ?_
   repeat (first|(refine' Xr4.take (Eq.refl false) _ (fun wV aJ=>?_) ?_;rotate_left;(try dsimp only at aJ);go_simp;(try with_reducible rfl);try simp only [Ap])|refine Xr4.skip (Eq.refl true) ?_)
   refine Xr4.stop ?_
   simp only [List.nil_append,List.cons_append]
   have HS:=Lh (And.intro v0 v1)
   have bM:=bL
   clear v0 v1
   refine X5 κ ?_
   go_simp
   refine ⟨⟨Xc (Xa _ _) HS.o.1,Xc (Xa _ _) HS.o.2⟩,?_⟩
   refine X5 κ ?_
   refine Xuy (w0:=V) (.tmp 15) (.tmp 17) rfl (c:=c) V.heap.size HE.o rfl aP.o (Nr _) la x.args.length lc x.args B rfl HL.o bD.o aZ.o (fun g1 c1 w8 aX aR _=>?_)
   have bC:=Lh aX
   have aB:=Lh aR
   clear aX aR
   refine ⟨.inl ⟨Xc aB.o HS.o.1,Xc aB.o HS.o.2⟩,?_⟩
   (refine' Z6 κ _ (fun wV aJ=>?_) ?_;rotate_left;(clear aJ;go_simp);(try with_reducible rfl);try simp only [Ap])
   refine X5 κ ?_
   go_simp
   refine ⟨⟨Xc (Xa _ _) (Xc aB.o HS.o.1),Xc (Xa _ _) (Xc aB.o HS.o.2)⟩,?_⟩
   have aQ:Hid (Below wr.heap.size wr (w8.alloc (χ #[.string x.proc,σ (some (π g1 0)) x.args.length c1] 80))):=Lh ((aD.o.then aB.o).then (Xa _ _))
   have aG:Hid (∀ b,(w8.alloc (χ #[.string x.proc,σ (some (π g1 0)) x.args.length c1] 80)).heap.size<=b->c b=0):=Lh (fun b hb=>aA.o.hi b (Nt aQ.o.size hb))
   refine X5 κ ?_
   refine Xsy (fun t=>t=1) (.tmp 12) (.tmp 20) 54 80 rfl Tryz.underlying54 Xzd rfl δ δ (c:=c) (tag:=1) (v:=σ oa k aC) (n:=k) (xs:=xs) rfl (aA.o.row.keep (T:=NO) (Chg.of_below (c:=c) aQ.o (fun h=>h)) (fun h=>h)) (π w8.heap.size 0) 1 1 [.string x.proc,σ (some (π g1 0)) x.args.length c1] rfl rfl (fun j u hu=>(Xso w8 _ _ j).trans (by simpa using hu)) (by simp [Value.oneCell']) δ ω rfl δ aG.o (fun g2 bE w9 c9 aE hC aS bH=>?_)
   have aV:=aA.o.next HX.o bB.o (aD.o.then aB.o) bC.o hC aS aE
   have bA:=Lh aV
   have aL:¬c wr.heap.size=1:=by rw [aA.o.hi _ (Nr _)];decide
   have q0:=hC.cell (Xc (Xa _ _) (Xc aB.o HS.o.1)) aL
   have q1:=hC.cell (Xc (Xa _ _) (Xc aB.o HS.o.2)) aL
   refine ⟨.inl ⟨q0,q1⟩,?_⟩
   clear aE hC aS bH aV aL q0 q1
   refine X5 κ ?_
   go_simp
   refine Xr3 ?_
   go_wp2
   go_roundw
   case rel=>exact ⟨k+1,_,_,ω,rfl,by go_num,Lh ⟨_,_,bA.o⟩⟩
   case measure=>simp [intOf];omega
  ·obtain rfl:k=n:=ω
   have hp:Xwd l w (.returned (σ oa k aC)) wr:=by
    have h:=aA.o
    rw [HN.o] at h ⊢
    exact h.post
   have HP:=Lh hp
   clear hp
   go_wp2
   exact bodyPost_ret (v:=σ oa k aC) (by simp [results,Tryz.results51,go_sem]) rfl HP.o
def T3 (t:Nat):Prop:=t=1\/t=2\/t=3
theorem Xzo:¬T3 0:=by unfold T3;omega
theorem X2z:¬T3 99:=by unfold T3;omega
theorem Xy2 (h:W.heap[R]?=some (χ (Xb fv m) 51 (0,0))) :
  W.cell? (π R 0)=some fv/\W.cell? (π R 1)=some (ι m.req.kind)/\W.cell? (π R 2)=some (ι m.req.node)/\W.cell? (π R 3)=some (ι m.req.field)/\W.cell? (π R 4)=some (ι m.req.value)/\W.cell? (π R 5)=some (ι m.req.fault)/\W.cell? (π R 6)=some (ι m.fuel)/\W.cell? (π R 7)=some (ι m.compares)/\W.cell? (π R 8)=some (ι m.idle):=
 ⟨Xe h 0 _ rfl,Xe h 1 _ rfl,Xe h 2 _ rfl,Xe h 3 _ rfl,Xe h 4 _ rfl,Xe h 5 _ rfl,Xe h 6 _ rfl,Xe h 7 _ rfl,Xe h 8 _ rfl⟩
theorem X37 {c:Array Value} {T:TypeId} (h:W.heap[R]?=some (χ c T (0,0))) :
  W.frozen? (π R 0)=false/\W.frozen? (π R 1)=false/\W.frozen? (π R 2)=false/\W.frozen? (π R 3)=false/\W.frozen? (π R 4)=false/\W.frozen? (π R 5)=false/\W.frozen? (π R 6)=false/\W.frozen? (π R 7)=false/\W.frozen? (π R 8)=false:=
 ⟨Fz h,Fz h,Fz h,Fz h,Fz h,Fz h,Fz h,Fz h,Fz h⟩
theorem X10 {M:Nat} (h:T (c M)) (h0:¬T 0):Chg T c c w (Yp w M fv m):=
 ((((((((Chg.set (T:=T) h h0).trans (Chg.set h h0)).trans (Chg.set h h0)).trans (Chg.set h h0)).trans (Chg.set h h0)).trans (Chg.set h h0)).trans (Chg.set h h0)).trans (Chg.set h h0)).trans (Chg.set h h0)
structure Xzm (m:Mch) (w:World) (bi br bo k:Nat) (fv0 v:Value) (c:Clr) (xs:List Value) (wr:World):Prop where
 row:V3 wr c 1 129 4 v k xs
 chg:Chg T3 (Xti w.heap.size) c w wr
 hi:∀ b,wr.heap.size<=b->c b=0
 box:wr.heap[bo]?=some (χ (Xb v m) 51 (0,0))
 cbo:c bo=2
 res:wr.heap[br]?=some (χ (Xb ν Xl) 51 (0,0))
 cbr:c br=3
 inp:wr.heap[bi]?=some (χ (Xb fv0 m) 51 (0,0))
 cbi:c bi=0
 elem:∀ (i:Nat) f,i<k->m.frames[i]?=some f->∃ lv sv,xs[i*4]?=some (ι f.fn)/\xs[i*4+1]?=some (ι f.pc)/\xs[i*4+2]?=some lv/\xs[i*4+3]?=some sv/\Xf wr.heap.size (mask wr c) 1 Zd lv f.locals/\Xf wr.heap.size (mask wr c) 1 Zd sv f.stack/\in64 f.fn/\in64 f.pc
 len:xs.length=k*4
def Xzg (m:Mch) (w:World) (e:Ending) (w':World):Prop:=∃ a cap,e=.returned (Xi (σ a m.frames.length cap) m)/\Below w.heap.size w w'/\∀ c:Clr,(∀ b,w.heap.size<=b->c b=0)->Xf w'.heap.size (mask w' c) 4 (Qp w'.heap.size) (σ a m.frames.length cap) m.frames
theorem Xzm.post {a:Option Addr} (h:Xzm m w bi br bo m.frames.length fv0 (σ a m.frames.length cap) c xs wr):Xzg m w (.returned (Xi (σ a m.frames.length cap) m)) (Yp wr br (σ a m.frames.length cap) m):=by
 obtain ⟨W',hW⟩:∃ W',W'=Yp wr br (σ a m.frames.length cap) m:=⟨_,rfl⟩
 have h3:Chg (fun t=>t=3) c c wr W':=by rw [hW];exact X10 h.cbr ω
 have hT:Chg T3 (Xti w.heap.size) c w W':=h.chg.trans (h3.mono (fun t ht=>.inr (.inr ht)) Xzo)
 rw [<-hW]
 refine ⟨a,cap,rfl,hT.below0 X2z,fun c' aA=>?_⟩
 have hR:=(h.row.keep h3 ω).seen hT aA δ
 have:=hR.reads (l:=m.frames) (E:=Qp W'.heap.size) (fun i x hx=>?_) (fun i x g hx hc=>?_)
 ·rw [Xul] at this;exact this
 ·obtain ⟨lv,sv,h1,_⟩:=h.elem i x (Ll hx) hx
  exact ⟨_,h1⟩
 ·obtain ⟨lv,sv,h1,h2,h4,h5,h6,h7,h8⟩:=h.elem i x (Ll hx) hx
  have hs:Sub (mask wr c) (mask W' c'):=h3.sub.trans (hT.seen aA)
  exact ⟨hc _ _ h1,hc _ _ h2,⟨lv,hc _ _ h4,h6.ups Xr9 h3.size hs⟩,⟨sv,hc _ _ h5,h7.ups Xr9 h3.size hs⟩,h8⟩
theorem Xzm.next {c1 g2 c2:Nat} {f:Fra} (h:Xzm m w bi br bo k fv0 v c xs wr) (hx:m.frames[k]?=some f) (h64:in64 f.fn/\in64 f.pc) (hb:Below wr.heap.size wr w8) (hl:Xf w8.heap.size (mask w8 c) 1 Zd (σ (some (π g1 0)) f.locals.length c1) f.locals) (hl2:Xf w8.heap.size (mask w8 c) 1 Zd (σ (some (π g2 0)) f.stack.length c2) f.stack)
  (hC:Chg (fun t=>t=1) c c9 (w8.alloc (χ #[ι f.fn,ι f.pc,σ (some (π g1 0)) f.locals.length c1,σ (some (π g2 0)) f.stack.length c2] 129)) w9) (hhi:∀ b,w9.heap.size<=b->c9 b=0) (hr:V3 w9 c9 1 129 4 v' (k+1) (xs++[ι f.fn,ι f.pc,σ (some (π g1 0)) f.locals.length c1,σ (some (π g2 0)) f.stack.length c2])) :
  Xzm m w bi br bo (k+1) fv0 v' c9 (xs++[ι f.fn,ι f.pc,σ (some (π g1 0)) f.locals.length c1,σ (some (π g2 0)) f.stack.length c2]) (w9.setCell (π bo 0) v'):=by
 have h8:Chg (fun t=>t=1) c c wr w8:=Chg.of_below hb δ
 have aK:Chg (fun t=>t=1) c c9 w8 w9:=(Chg.of_below (Xa _ _) δ).trans hC
 have h9:=h8.trans aK
 have aL:=(La h.box)
 have aG:c9 bo=2:=by rw [h9.old _ aL];exact h.cbo
 have hs:Chg (fun t=>t=2) c9 c9 w9 (w9.setCell (π bo 0) v'):=Chg.set aG ω
 have aI:∀ t,t=1->T3 t:=fun t h=>.inl h
 have aJ:∀ t,t=2->T3 t:=fun t h=>.inr (.inl h)
 have hA:=(h9.mono aI Xzo).trans (hs.mono aJ Xzo)
 have aD:w9.heap[bo]?=some (χ (Xb v m) 51 (0,0)):=by rw [h9.keep _ aL (by rw [h.cbo];omega)];exact h.box
 have aE:=(La h.res)
 have aC:=(La h.inp)
 have aH:c9 br=3:=by rw [h9.old _ aE];exact h.cbr
 have aF:c9 bi=0:=by rw [h9.old _ aC];exact h.cbi
 have aA:=h.len
 have aN:w9.heap.size=(w9.setCell (π bo 0) v').heap.size:=by simp
 refine ⟨hr.keep hs ω,h.chg.trans hA,fun b hb=>hhi b (by rw [aN];exact hb),?_,aG,?_,aH,?_,aF,fun i y hi hy=>?_,by simp [h.len];omega⟩
 ·rw [heap_setCell_same _ _ _ _ _ _ aD,Qo]
 ·rw [hs.keep _ (Nl aE h9.size) (by rw [aH];omega),h9.keep _ aE (by rw [h.cbr];omega)];exact h.res
 ·rw [hs.keep _ (Nl aC h9.size) (by rw [aF];omega),h9.keep _ aC (by rw [h.cbi];omega)];exact h.inp
 ·by_cases aM:i<k
  ·obtain ⟨lv,sv,e1,e2,e3,e4,e5,e6,e7⟩:=h.elem i y aM hy
   exact ⟨lv,sv,by rw [Al ω];exact e1,by rw [Al ω];exact e2,by rw [Al ω];exact e3,by rw [Al ω];exact e4,e5.ups Xr9 hA.size hA.sub,e6.ups Xr9 hA.size hA.sub,e7⟩
  ·obtain rfl:i=k:=ω
   rw [hx] at hy;cases hy
   have aB:=(aK.mono aI Xzo).trans (hs.mono aJ Xzo)
   exact ⟨_,_,by rw [Ar ω,aA,Nat.sub_self];rfl,by rw [Ar ω,aA,show i*4+1 - i*4=1 by omega];rfl,by rw [Ar ω,aA,show i*4+2 - i*4=2 by omega];rfl,by rw [Ar ω,aA,show i*4+3 - i*4=3 by omega];rfl,hl.ups Xr9 aB.size aB.sub,hl2.ups Xr9 aB.size aB.sub,h64⟩
theorem X0n (m:Mch) (fv:Value) (B:Nat) (w:World) (hB:B<=w.heap.size) (hm:Xf B w 4 (Qp B) fv m.frames) (hsz:m.frames.length<=1000) (hfsz:∀ f∈m.frames,f.locals.length<=1000000/\f.stack.length<=1000000) :
  Calls Tryz.prog 101 #[Xi fv m] w (Xzg m w):=by
 obtain ⟨ma,mc,rfl⟩:=hm.form
 have cD:=Lh hm
 have cC:=Lh hfsz
 have HB:=Lh hB
 obtain ⟨n,hn⟩:∃ n,n=m.frames.length:=⟨_,rfl⟩
 rw [<-hn] at hsz ⊢
 have HN:=Lh hn
 obtain ⟨W2,aJ⟩:∃ W,W=((w.alloc (χ (Xb (σ ma n mc) m) 51)).alloc (χ (Xb ν Xl) 51)).alloc (χ (Xb (σ ma n mc) m) 51):=⟨_,rfl⟩
 have aH:Below w.heap.size w W2:=by rw [aJ];exact ((Xa _ _).then (Xa _ _)).then (Xa _ _)
 have bZ:W2.heap.size=w.heap.size+3:=by rw [aJ];simp
 have b0:W2.heap[w.heap.size]?=some (χ (Xb (σ ma n mc) m) 51 (0,0)):=by
  rw [aJ,Ha _ _ _ φ,Ha _ _ _ ψ]
  exact Hn _ _
 have b1:W2.heap[w.heap.size+1]?=some (χ (Xb ν Xl) 51 (0,0)):=by
  rw [aJ,Ha _ _ _ ψ]
  have:=Hn (w.alloc (χ (Xb (σ ma n mc) m) 51)) (χ (Xb ν Xl) 51)
  simpa using this
 have b2:W2.heap[w.heap.size+1+1]?=some (χ (Xb (σ ma n mc) m) 51 (0,0)):=by
  rw [aJ]
  have:=Hn ((w.alloc (χ (Xb (σ ma n mc) m) 51)).alloc (χ (Xb ν Xl) 51)) (χ (Xb (σ ma n mc) m) 51)
  simpa using this
 obtain ⟨W,hW⟩:∃ V,V=W2.setCell (π (w.heap.size+1+1) 0) ν:=⟨_,rfl⟩
 have aT:Hid (Xzm m w w.heap.size (w.heap.size+1) (w.heap.size+1+1) 0 (σ ma n mc) ν (fun b=>if b=w.heap.size+1+1 then 2 else if b=w.heap.size+1 then 3 else Xti w.heap.size b) [] W):=Lh (by
  have hC:Chg T3 (Xti w.heap.size) (fun b=>if b=w.heap.size+1+1 then 2 else if b=w.heap.size+1 then 3 else Xti w.heap.size b) w W2:=⟨aH.os,aH.tape,aH.output,aH.size,fun b hb _=>aH.block b hb,fun b hb=>by show (if _ then _ else if _ then _ else _)=_;rw [if_neg ω,if_neg ω],Xzo⟩
  have hS:Chg (fun t=>t=2) (fun b=>if b=w.heap.size+1+1 then 2 else if b=w.heap.size+1 then 3 else Xti w.heap.size b) (fun b=>if b=w.heap.size+1+1 then 2 else if b=w.heap.size+1 then 3 else Xti w.heap.size b) W2 W:=by rw [hW];exact Chg.set (if_pos rfl) ω
  have hz:W.heap.size=w.heap.size+3:=by rw [hW];simpa using bZ
  refine ⟨V3.nil _ _ _ _ _,hC.trans (hS.mono (fun t ht=>.inr (.inl ht)) Xzo),fun b hb=>?_,by rw [hW,heap_setCell_same _ _ _ _ _ _ b2,Qo],if_pos rfl,?_,?_,?_,?_,fun i x hi=>by omega,rfl⟩
  ·show (if _ then _ else if _ then _ else _)=_
   rw [if_neg ω,if_neg ω];exact Xt4 b ω
  ·rw [hS.keep _ ω (by rw [if_neg ω,if_pos rfl];omega)];exact b1
  ·show (if _ then _ else if _ then _ else _)=_
   rw [if_neg ω,if_pos rfl]
  ·rw [hS.keep _ ω (by rw [if_neg ω,if_neg ω];rw [Xt4 _ (Nr _)];omega)];exact b0
  ·show (if _ then _ else if _ then _ else _)=_
   rw [if_neg ω,if_neg ω];exact Xt4 _ (Nr _))
 obtain ⟨k0,k1,k2,k3,k4,k5,k6,k7,k8⟩:=Xy2 b0
 obtain ⟨j0,-⟩:=Xy2 b2
 obtain ⟨g0,-⟩:=X37 b2
 have z0:=(La b0)
 have z2:=(La b2)
 clear b0 b1 b2 aH hn hm hfsz bZ hB
 unfold Xi
 unfold Xb Xl at aJ
 unfold Xb
 dsimp only at aJ ⊢
 go_enter Tryz.func101,Tryz.ntmps101
 have HW:=Lh hW
 clear hW
 go_upto_region 2 with fail
 rw [<-aJ]
 have cP:=Lh aJ
 clear aJ
 go_upto_region 3 with fail
 rw [<-HW.o]
 have cL:=(Xy2 aT.o.inp).1
 have cO:=(La aT.o.inp)
 clear k0 k1 k2 k3 k4 k5 k6 k7 k8 j0 g0 z0 z2
 go_wp2_with fail
 clear cL cO
 go_loopw [11] (fun i wr=>∃ (k:Nat),k<=n/\i=ι k/\Hid (∃ a cap c xs,Xzm m w w.heap.size (w.heap.size+1) (w.heap.size+1+1) k (σ ma n mc) (σ a k cap) c xs wr)) (fun i _=>n - (intOf i).toNat)
 case atStart=>exact ⟨0,Nat.zero_le _,rfl,Lh ⟨_,_,_,_,aT.o⟩⟩
 case round=>
  obtain ⟨k,hk,rfl,bD⟩:=hrel
  obtain ⟨oa,aF,c,xs,bD⟩:=bD.o
  have aE:=Lh bD
  clear bD
  by_cases cQ:k<n
  ·obtain ⟨f,hf⟩:∃ y,m.frames[k]?=some y:=⟨_,Lg (by have:=HN.o;omega)⟩
   have HF:=Lh hf
   have bS:Below B w wr:=(aE.o.chg.below0 X2z).mono HB.o
   obtain ⟨nb,no,cM,cN,cG⟩:∃ nb no,ma=some (π nb no)/\nb<B/\Qp B wr nb (no+k*4) f:=by
    obtain ⟨a0,bI,cI,_,_,_,hE⟩:=cD.o
    obtain ⟨rfl,_,rfl⟩:ma=a0/\n=m.frames.length/\mc=bI:=by have:=HN.o;simpa [this] using cI
    rcases hE with h0|⟨nb,no,rfl,hb,hE⟩
    ·rw [h0] at hf;simp at hf
    ·exact ⟨nb,no,rfl,hb,(hE k f hf).below bS hb⟩
   subst cM
   obtain ⟨n0,n1,⟨lv,n2,bN⟩,⟨sv,n3,bO⟩,bR⟩:=cG
   obtain ⟨la,lc,rfl⟩:=bN.form
   obtain ⟨sa,sc,rfl⟩:=bO.form
   have bV:=cC.o f (Lm hf)
   have bU:=aE.o.box
   have i0:=(Xy2 aE.o.inp).1
   obtain ⟨V,hV⟩:∃ V,V=wr.alloc (χ #[ι f.fn,ι f.pc,σ la f.locals.length lc,σ sa f.stack.length sc] 129):=⟨_,rfl⟩
   have aS:Hid (Below wr.heap.size wr V):=Lh (by rw [hV];exact Xa _ _)
   have aX:V.heap[wr.heap.size]?=some (χ #[ι f.fn,ι f.pc,σ la f.locals.length lc,σ sa f.stack.length sc] 129 (0,0)):=by rw [hV];exact Hn _ _
   have v0:=Cw aX 0 rfl
   have v1:=Cw aX 1 rfl
   have v2:=Cw aX 2 rfl
   have v3:=Cw aX 3 rfl
   have v4:V.cell? (π (w.heap.size+1+1) 0)=some (σ oa k aF):=Xc aS.o (Xy2 bU).1
   have zn:=Bl n0
   have zi:=Bl i0
   have cJ:(0:Int)<=(k:Int):=In _
   have cK:(k:Int)<(n:Int):=ω
   have cA:=Lh bR
   have aV:=Lh bV
   have bC:B<=wr.heap.size:=Nt HB.o aE.o.chg.size
   have bF:Hid (Xf B V 1 Zd (σ la f.locals.length lc) f.locals):=Lh (bN.ints (aS.o.mono bC))
   have bH:Hid (Xf B V 1 Zd (σ sa f.stack.length sc) f.stack):=Lh (bO.ints (aS.o.mono bC))
   have aU:Hid (B<=V.heap.size):=Lh (Nt bC aS.o.size)
   have aW:Hid (∀ b,V.heap.size<=b->c b=0):=Lh (fun b hb=>aE.o.hi b (Nt aS.o.size hb))
   clear hf bS bN bO bR bV bU aX bC
   go_upto_region 6 with fail
   rw [<-hV]
   clear hV n0 n1 n2 n3 zn zi i0 cJ cK
   refine X6 (fun Vs=>Vs.cell? (π wr.heap.size 0)=some (ι f.fn)/\Vs.cell? (π wr.heap.size 1)=some (ι f.pc)/\Vs.cell? (π wr.heap.size 2)=some (σ la f.locals.length lc)/\Vs.cell? (π wr.heap.size 3)=some (σ sa f.stack.length sc)/\Vs.cell? (π (w.heap.size+1+1) 0)=some (σ oa k aF)) [6,9,10,13,14,15,16,18] true 19 rfl κ κ ⟨v0,v1,v2,v3,v4⟩ ?_
   repeat (first|(refine' Xr4.take (Eq.refl false) _ (fun wV bK=>?_) ?_;rotate_left;(try dsimp only at bK);go_simp;(try with_reducible rfl);try simp only [Ap])|refine Xr4.skip (Eq.refl true) ?_)
   refine Xr4.stop ?_
   simp only [List.nil_append,List.cons_append]
   have HS:=Lh (And.intro v0 (And.intro v1 (And.intro v2 (And.intro v3 (v4)))))
   clear v0 v1 v2 v3 v4
   have cB:Hid ((V.alloc (χ #[] 3)).drew.heap[V.heap.size]?=some (χ #[] 3 (0,0))):=Lh (Hn V _)
   have bP:Hid (((V.alloc (χ #[] 3)).alloc (χ #[] 3)).drew.heap[V.heap.size]?=some (χ #[] 3 (0,0))):=Lh ((Ha (V.alloc (χ #[] 3)) _ _ ψ).trans (Hn V _))
   have bQ:Hid (((V.alloc (χ #[] 3)).alloc (χ #[] 3)).drew.heap[V.heap.size+1]?=some (χ #[] 3 (0,0))):=Lh (by
    have:=Hn (V.alloc (χ #[] 3)) (χ #[] 3)
    rw [show (V.alloc (χ #[] 3)).heap.size=V.heap.size+1 by simp] at this
    exact this)
   have aD:Hid (Below V.heap.size V (V.alloc (χ #[] 3)).drew):=Lh (Xsh V _)
   have aB:Hid (Below V.heap.size V ((V.alloc (χ #[] 3)).alloc (χ #[] 3)).drew):=Lh (Xh ((Xa V _).then (Xa _ _)) 1)
   refine Xu2 [_] ?_
   refine Xs3 κ κ ?_ ?_
   all_goals (go_simp;refine ⟨⟨Xc aD.o HS.o.1,Xc aD.o HS.o.2.1,Xc aD.o HS.o.2.2.1,Xc aD.o HS.o.2.2.2.1,Xc aD.o HS.o.2.2.2.2⟩,?_⟩)
   rotate_left
   refine X5 κ ?_
   go_simp
   refine ⟨⟨Xc aB.o HS.o.1,Xc aB.o HS.o.2.1,Xc aB.o HS.o.2.2.1,Xc aB.o HS.o.2.2.2.1,Xc aB.o HS.o.2.2.2.2⟩,?_⟩
   refine X5 κ ?_
   refine Xuy (w0:=V) (.tmp 21) (.tmp 23) rfl (c:=c) (V.heap.size+1) bQ.o rfl aB.o (Nat.le_succ _) la f.locals.length lc f.locals B rfl (bF.o.ints (aB.o.mono aU.o)) aV.o.1 aW.o (fun g1 c1 w1 aO aG aM=>?_)
   have aK:=Lh aO
   have aI:=Lh aG
   have aA:=Lh aM
   clear aO aG aM
   refine ⟨.inl ⟨aA.o.2.1 _ _ (Xc aB.o HS.o.1),aA.o.2.1 _ _ (Xc aB.o HS.o.2.1),aA.o.2.1 _ _ (Xc aB.o HS.o.2.2.1),aA.o.2.1 _ _ (Xc aB.o HS.o.2.2.2.1),aA.o.2.1 _ _ (Xc aB.o HS.o.2.2.2.2)⟩,?_⟩
   refine X5 κ ?_
   refine Xuy (w0:=V) (.tmp 25) (.tmp 27) rfl (c:=c) (V.heap.size) ((aA.o.1 _ φ ω).trans bP.o) rfl aI.o (Nr _) sa f.stack.length sc f.stack B rfl (bH.o.ints (aI.o.mono aU.o)) aV.o.2 aW.o (fun g2 c2 w2 aP aL aN=>?_)
   have bG:=Lh aP
   have bA:=Lh aL
   have aC:=Lh aN
   clear aP aL aN
   refine ⟨.inl ⟨aC.o.2.1 _ _ (aA.o.2.1 _ _ (Xc aB.o HS.o.1)),aC.o.2.1 _ _ (aA.o.2.1 _ _ (Xc aB.o HS.o.2.1)),aC.o.2.1 _ _ (aA.o.2.1 _ _ (Xc aB.o HS.o.2.2.1)),aC.o.2.1 _ _ (aA.o.2.1 _ _ (Xc aB.o HS.o.2.2.2.1)),aC.o.2.1 _ _ (aA.o.2.1 _ _ (Xc aB.o HS.o.2.2.2.2))⟩,?_⟩
   have F1:Hid (Xf w2.heap.size (mask w2 c) 1 Zd (σ (some (π g1 0)) f.locals.length c1) f.locals):=Lh (aK.o.ups Xr9 (aC.o.2.2) (Xvr (aC.o.2.1)))
   have FS:Hid (_):=Lh (And.intro (aC.o.2.1 _ _ (aA.o.2.1 _ _ (Xc aB.o HS.o.1))) (And.intro (aC.o.2.1 _ _ (aA.o.2.1 _ _ (Xc aB.o HS.o.2.1))) (And.intro (aC.o.2.1 _ _ (aA.o.2.1 _ _ (Xc aB.o HS.o.2.2.1))) (And.intro (aC.o.2.1 _ _ (aA.o.2.1 _ _ (Xc aB.o HS.o.2.2.2.1))) ((aC.o.2.1 _ _ (aA.o.2.1 _ _ (Xc aB.o HS.o.2.2.2.2))))))))
   clear aA aC aK aI
   rotate_left
   refine Xs3 κ κ ?_ ?_
   go_simp
   refine ⟨⟨Xc aB.o HS.o.1,Xc aB.o HS.o.2.1,Xc aB.o HS.o.2.2.1,Xc aB.o HS.o.2.2.2.1,Xc aB.o HS.o.2.2.2.2⟩,?_⟩
   refine X5 κ ?_
   refine Xuy (w0:=V) (.tmp 21) (.tmp 23) rfl (c:=c) (V.heap.size) bP.o rfl aB.o (Nr _) la f.locals.length lc f.locals B rfl (bF.o.ints (aB.o.mono aU.o)) aV.o.1 aW.o (fun g1 c1 w1 aO aG aM=>?_)
   have aK:=Lh aO
   have aI:=Lh aG
   have aA:=Lh aM
   clear aO aG aM
   refine ⟨.inl ⟨aA.o.2.1 _ _ (Xc aB.o HS.o.1),aA.o.2.1 _ _ (Xc aB.o HS.o.2.1),aA.o.2.1 _ _ (Xc aB.o HS.o.2.2.1),aA.o.2.1 _ _ (Xc aB.o HS.o.2.2.2.1),aA.o.2.1 _ _ (Xc aB.o HS.o.2.2.2.2)⟩,?_⟩
   refine X5 κ ?_
   refine Xuy (w0:=V) (.tmp 25) (.tmp 27) rfl (c:=c) (V.heap.size+1) ((aA.o.1 _ ψ ω).trans bQ.o) rfl aI.o (Nat.le_succ _) sa f.stack.length sc f.stack B rfl (bH.o.ints (aI.o.mono aU.o)) aV.o.2 aW.o (fun g2 c2 w2 aP aL aN=>?_)
   have bG:=Lh aP
   have bA:=Lh aL
   have aC:=Lh aN
   clear aP aL aN
   refine ⟨.inl ⟨aC.o.2.1 _ _ (aA.o.2.1 _ _ (Xc aB.o HS.o.1)),aC.o.2.1 _ _ (aA.o.2.1 _ _ (Xc aB.o HS.o.2.1)),aC.o.2.1 _ _ (aA.o.2.1 _ _ (Xc aB.o HS.o.2.2.1)),aC.o.2.1 _ _ (aA.o.2.1 _ _ (Xc aB.o HS.o.2.2.2.1)),aC.o.2.1 _ _ (aA.o.2.1 _ _ (Xc aB.o HS.o.2.2.2.2))⟩,?_⟩
   have F1:Hid (Xf w2.heap.size (mask w2 c) 1 Zd (σ (some (π g1 0)) f.locals.length c1) f.locals):=Lh (aK.o.ups Xr9 (aC.o.2.2) (Xvr (aC.o.2.1)))
   have FS:Hid (_):=Lh (And.intro (aC.o.2.1 _ _ (aA.o.2.1 _ _ (Xc aB.o HS.o.1))) (And.intro (aC.o.2.1 _ _ (aA.o.2.1 _ _ (Xc aB.o HS.o.2.1))) (And.intro (aC.o.2.1 _ _ (aA.o.2.1 _ _ (Xc aB.o HS.o.2.2.1))) (And.intro (aC.o.2.1 _ _ (aA.o.2.1 _ _ (Xc aB.o HS.o.2.2.2.1))) ((aC.o.2.1 _ _ (aA.o.2.1 _ _ (Xc aB.o HS.o.2.2.2.2))))))))
   clear aA aC aK aI
   rotate_left
   refine Xuy (w0:=V) (.tmp 21) (.tmp 23) rfl (c:=c) (V.heap.size) cB.o rfl aD.o (Nr _) la f.locals.length lc f.locals B rfl (bF.o.ints (aD.o.mono aU.o)) aV.o.1 aW.o (fun g1 c1 w1 aO aG aM=>?_)
   have aK:=Lh aO
   have aI:=Lh aG
   have aA:=Lh aM
   clear aO aG aM
   refine ⟨.inl ⟨aA.o.2.1 _ _ (Xc aD.o HS.o.1),aA.o.2.1 _ _ (Xc aD.o HS.o.2.1),aA.o.2.1 _ _ (Xc aD.o HS.o.2.2.1),aA.o.2.1 _ _ (Xc aD.o HS.o.2.2.2.1),aA.o.2.1 _ _ (Xc aD.o HS.o.2.2.2.2)⟩,?_⟩
   refine X5 κ ?_
   go_simp
   refine ⟨⟨Xc (Xa w1 _) (aA.o.2.1 _ _ (Xc aD.o HS.o.1)),Xc (Xa w1 _) (aA.o.2.1 _ _ (Xc aD.o HS.o.2.1)),Xc (Xa w1 _) (aA.o.2.1 _ _ (Xc aD.o HS.o.2.2.1)),Xc (Xa w1 _) (aA.o.2.1 _ _ (Xc aD.o HS.o.2.2.2.1)),Xc (Xa w1 _) (aA.o.2.1 _ _ (Xc aD.o HS.o.2.2.2.2))⟩,?_⟩
   have aQ:Hid (Below V.heap.size V (w1.alloc (χ #[] 3))):=Lh (aI.o.then (Xa _ _))
   refine X5 κ ?_
   refine Xuy (w0:=V) (.tmp 25) (.tmp 27) rfl (c:=c) (w1.heap.size) (Hn w1 _) rfl aQ.o (aI.o.size) sa f.stack.length sc f.stack B rfl (bH.o.ints (aQ.o.mono aU.o)) aV.o.2 aW.o (fun g2 c2 w2 aP aL aN=>?_)
   have bG:=Lh aP
   have bA:=Lh aL
   have aC:=Lh aN
   clear aP aL aN
   refine ⟨.inl ⟨aC.o.2.1 _ _ (Xc (Xa w1 _) (aA.o.2.1 _ _ (Xc aD.o HS.o.1))),aC.o.2.1 _ _ (Xc (Xa w1 _) (aA.o.2.1 _ _ (Xc aD.o HS.o.2.1))),aC.o.2.1 _ _ (Xc (Xa w1 _) (aA.o.2.1 _ _ (Xc aD.o HS.o.2.2.1))),aC.o.2.1 _ _ (Xc (Xa w1 _) (aA.o.2.1 _ _ (Xc aD.o HS.o.2.2.2.1))),aC.o.2.1 _ _ (Xc (Xa w1 _) (aA.o.2.1 _ _ (Xc aD.o HS.o.2.2.2.2)))⟩,?_⟩
   have F1:Hid (Xf w2.heap.size (mask w2 c) 1 Zd (σ (some (π g1 0)) f.locals.length c1) f.locals):=Lh (aK.o.ups Xr9 (Nt (Xa w1 _).size aC.o.2.2) (Xvr ((Sub.below (Xa w1 _)).trans aC.o.2.1)))
   have FS:Hid (_):=Lh (And.intro (aC.o.2.1 _ _ (Xc (Xa w1 _) (aA.o.2.1 _ _ (Xc aD.o HS.o.1)))) (And.intro (aC.o.2.1 _ _ (Xc (Xa w1 _) (aA.o.2.1 _ _ (Xc aD.o HS.o.2.1)))) (And.intro (aC.o.2.1 _ _ (Xc (Xa w1 _) (aA.o.2.1 _ _ (Xc aD.o HS.o.2.2.1)))) (And.intro (aC.o.2.1 _ _ (Xc (Xa w1 _) (aA.o.2.1 _ _ (Xc aD.o HS.o.2.2.2.1)))) ((aC.o.2.1 _ _ (Xc (Xa w1 _) (aA.o.2.1 _ _ (Xc aD.o HS.o.2.2.2.2)))))))))
   clear aA aC aK aI
   clear aQ
   all_goals
    (refine' Z6 κ _ (fun wV bK=>?_) ?_;rotate_left;(clear bK;go_simp);(try with_reducible rfl);try simp only [Ap])
    refine X5 κ ?_
    go_simp
    refine ⟨⟨Xc (Xa _ _) FS.o.1,Xc (Xa _ _) FS.o.2.1,Xc (Xa _ _) FS.o.2.2.1,Xc (Xa _ _) FS.o.2.2.2.1,Xc (Xa _ _) FS.o.2.2.2.2⟩,?_⟩
    have bB:Hid (Below wr.heap.size wr (w2.alloc (χ #[ι f.fn,ι f.pc,σ (some (π g1 0)) f.locals.length c1,σ (some (π g2 0)) f.stack.length c2] 129))):=Lh ((aS.o.then bA.o).then (Xa _ _))
    have bE:Hid (∀ b,(w2.alloc (χ #[ι f.fn,ι f.pc,σ (some (π g1 0)) f.locals.length c1,σ (some (π g2 0)) f.stack.length c2] 129)).heap.size<=b->c b=0):=Lh (fun b hb=>aE.o.hi b (Nt bB.o.size hb))
    refine X5 κ ?_
    refine Xsy (fun t=>t=1) (.tmp 16) (.tmp 30) 47 129 rfl Tryz.underlying47 Vb rfl δ δ (c:=c) (tag:=1) (v:=σ oa k aF) (n:=k) (xs:=xs) rfl (aE.o.row.keep (T:=NO) (Chg.of_below (c:=c) bB.o (fun h=>h)) (fun h=>h)) (π w2.heap.size 0) 1 1 [ι f.fn,ι f.pc,σ (some (π g1 0)) f.locals.length c1,σ (some (π g2 0)) f.stack.length c2] rfl rfl (fun j u hu=>(Xso w2 _ _ j).trans (by simpa using hu)) (by simp [Value.oneCell']) δ ω rfl δ bE.o (fun g3 bJ w9 c9 aZ hC bW cH=>?_)
    have bY:=aE.o.next HF.o cA.o (aS.o.then bA.o) F1.o bG.o hC bW aZ
    have aY:¬c wr.heap.size=1:=by rw [aE.o.hi _ (Nr _)];decide
    have bL:¬c (w.heap.size+1+1)=1:=by rw [aE.o.cbo];decide
    have q0:=hC.cell (Xc (Xa _ _) FS.o.1) aY
    have q1:=hC.cell (Xc (Xa _ _) FS.o.2.1) aY
    have q2:=hC.cell (Xc (Xa _ _) FS.o.2.2.1) aY
    have q3:=hC.cell (Xc (Xa _ _) FS.o.2.2.2.1) aY
    have q4:=hC.cell (Xc (Xa _ _) FS.o.2.2.2.2) bL
    have qf:w9.frozen? (π (w.heap.size+1+1) 0)=false:=by
     have bX:=(La aE.o.box)
     exact hC.frozen (Nl bX bB.o.size) (((Chg.of_below bB.o (fun h=>h):Chg NO c c _ _)).frozen bX (Fz aE.o.box) (fun h=>h)) bL
    refine ⟨.inl ⟨q0,q1,q2,q3,q4⟩,?_⟩
    have cF:=Lh bY
    clear aZ hC bW cH bY aY bL q0 q1 q2 q3
    refine X5 κ ?_
    go_simp
    refine Xr3 ?_
    obtain ⟨W9,bT⟩:∃ u,u=w9.setCell (π (w.heap.size+1+1) 0) (σ (some (π g3 0)) (k+1) bJ):=⟨_,rfl⟩
    have aR:=cF.o
    rw [<-bT] at aR ⊢
    have cE:=Lh aR
    clear aR bT q4 qf
    go_wp2
    go_roundw
    case rel=>exact ⟨k+1,ω,by go_num,Lh ⟨_,_,_,_,cE.o⟩⟩
    case measure=>simp [intOf];omega
  ·obtain rfl:k=n:=ω
   have bM:Hid (Xzg m w (.returned (Xi (σ oa k aF) m)) (Yp wr (w.heap.size+1) (σ oa k aF) m)):=Lh (by
    have h:=aE.o
    rw [HN.o] at h ⊢
    exact h.post)
   obtain ⟨k0,k1,k2,k3,k4,k5,k6,k7,k8⟩:=Xy2 aE.o.box
   have aG:=aE.o.res
   obtain ⟨p1,-⟩:=Xz aG (σ oa k aF) m
   have Q1:=Lh p1
   obtain ⟨r0,r1,r2,r3,r4,r5,r6,r7,r8⟩:=Xy2 aG
   obtain ⟨q0,q1,q2,q3,q4,q5,q6,q7,q8⟩:=X37 aG
   have y1:=(La aG)
   have y2:=(La aE.o.box)
   clear aG p1
   go_wp2
   exact bodyPost_ret (v:=Xi (σ oa k aF) m) (Xn (p:=2) rfl Q1.o _ rfl) rfl bM.o
