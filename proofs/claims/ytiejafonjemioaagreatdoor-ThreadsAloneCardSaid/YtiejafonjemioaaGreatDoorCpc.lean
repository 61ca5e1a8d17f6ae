import Derived.Test.YtiejafonjemioaaGreatDoorThp
import Derived.Test.YtiejafonjemioaaGreatDoorPly
import Derived.Test.YtiejafonjemioaaGreatDoorTh3
set_option maxHeartbeats 2000000
set_option maxRecDepth 100000
set_option linter.unusedVariables false
set_option linter.unusedSimpArgs false
namespace Go.Proofs.YtiejafonjemioaaGreatDoor
open Go.RowKit
variable {e:TypeId} {w w' wr:World} {c c1:Clr} {tag sz n b:Nat} {o:Oper} {a:Act} {K:Act→World→Prop} {Q:Exit→Act→World→Prop} {T:Nat→Prop} {v:Value} {xs:List Value} {l:List Cal}
theorem Xx6 {t:TypeId} (ti:TypeInfo) (hu:Tryz.prog.underlying t=some (.slice e)) (hti:Tryz.prog.info? e=some ti) (ty:TypeId) (b c:Nat) (w:World):(Builtin.append_ #[t,t] ty #[.slice (some ⟨b,0,none⟩) 0 0,.slice none 0 c]).run Tryz.prog w=.ok (.slice (some ⟨b,0,none⟩) 0 0) w:=by
 simp [Builtin.append_,run_underlying hu,sizeOf,typeInfo,hti,Builtin.lenOf,Builtin.firstCells,storeCells]
theorem X12 {e1:Nat} (he:w.heap[e1]?=some (.cells #[] e (0,0))) (hc:c e1=tag):V3 w c tag e sz (.slice (some ⟨e1,0,none⟩) 0 0) 0 []:=
 ⟨⟨by simp,.inr ⟨e1,0,#[],rfl,Nat.zero_le _,he,Nr _,by unfold maxLen;omega,by simp,by simp⟩⟩,fun b hb=>by simp [Value.ownBlock] at hb;subst hb;exact hc,by omega⟩
theorem Xxy (tag:Nat) (s x:Operand) (t e:TypeId) (ho:o.op=.call { callee:=.builtin .append,args:=#[s,x],argTypes:=#[t,t] }) (hu:Tryz.prog.underlying t=some (.slice e)) {z:Value} {bytes:Nat} (hi:(Tryz.prog.info? e).map (fun i=>(i.zero,i.size,i.bytes))=some (some z,sz,bytes)) (hz:z.cells.size=sz) (hsz:0<sz) (hb:bytes≤128)
  (e1:Nat) (he:w.heap[e1]?=some (.cells #[] e (0,0))) (hs:a.eval s=.slice (some ⟨e1,0,none⟩) 0 0) (xa:Option Addr) (n xc:Nat) (news:List Value) (hx:a.eval x=.slice xa n xc) (hl:news.length=n*sz) (hn:n=0∨∃ ad,xa=some ad∧∀ (j:Nat) u,news[j]?=some u→w.cell? (ad.add j)=some u) (hone:∀ u∈news,u.oneCell'=true) (hm:n≤1000000) (hc:c e1=tag) (h0:tag≠0) (hhi:∀ b,w.heap.size≤b→c b=0)
  (h:∀ g cap w' c',V3 w' c' tag e sz (.slice (some ⟨g,0,none⟩) n cap) n news→Chg (fun k=>k=tag) c c' w w'→(∀ b,w'.heap.size≤b→c' b=0)→K (a.put o.dst (.slice (some ⟨g,0,none⟩) n cap)) w'):o.wp Tryz.prog a w K Q:=by
 have aA:=X12 (sz:=sz) he hc
 by_cases aD:n=0
 ·subst aD
  obtain rfl:news=[]:=List.eq_nil_of_length_eq_zero (by omega)
  obtain ⟨ti,aE,aG,aF,aH⟩:=info_parts hi
  cases xa with
  | none=>
   have aB:=Xx6 ti hu aE o.type e1 xc w
   unfold Oper.wp
   simp [execOp,ho,resolve,invoke,builtin,hs,hx,aB,Result.andThen]
   exact h e1 0 w c aA (Chg.of_below Br (fun e=>h0 e.symm)) hhi
  | some ad=>
   obtain ⟨w',aB,r1,r2⟩:=run_append_fits (P:=Tryz.prog) w 0 t o.type e ti sz hu aE aF e1 0 0 [] aA.1 ad 0 xc [] (by simp) (by simp) (by simp) (Nr _)
   unfold Oper.wp
   simp [execOp,ho,resolve,invoke,builtin,hs,hx,aB,Result.andThen]
   exact h e1 0 w' c ⟨by simpa using r1,aA.2⟩ ⟨r2.os,r2.tape,r2.output,r2.size,fun b hb hk=>r2.block b hb (fun e=>hk (by simp at e;subst e;exact hc)),fun _ _=>rfl,fun e=>h0 e.symm⟩ (fun b hb=>hhi b (Nt r2.size hb))
 ·obtain ⟨ad,rfl,aC⟩:=hn.resolve_left aD
  refine Xsy (fun k=>k=tag) s x t e ho hu hi hz hsz hb hs aA ad n xc news hx hl aC hone (by omega) (by omega) rfl (fun e=>h0 e.symm) hhi (fun g cap w' c' h1 h2 h3 _=>?_)
  rw [Nat.zero_add] at h1 ⊢
  rw [List.nil_append] at h1
  exact h g cap w' c' h1 h2 h3
theorem Chg.paint (b tag:Nat) (h:Below w.heap.size w w') (hb:w.heap.size≤b):Chg NO c (fun x=>if x=b then tag else c x) w w':=
 ⟨h.os,h.tape,h.output,h.size,fun x hx _=>h.block x hx,fun x hx=>if_neg (by omega),no 0⟩
def Xti (n:Nat):Clr:=fun b=>if b<n then 99 else 0
theorem Xt4 :∀ b,n≤b→Xti n b=0:=fun b hb=>if_neg (by omega)
theorem Xxq (h:b<n):Xti n b=99:=if_pos h
theorem Chg.seen (h:Chg T (Xti w.heap.size) c1 w w') (hc:∀ b,w.heap.size≤b→c b=0):Sub (mask w' c1) (mask w' c):=fun a v ha=>by
 rw [Xtw] at ha ⊢
 split at ha
 ·rename_i h1
  rw [if_pos (hc _ (Nat.le_of_not_lt fun aA=>by rw [h.old _ aA,Xxq aA] at h1;cases h1))]
  exact ha
 ·cases ha
theorem Chg.fresh (h:Chg T (Xti w.heap.size) c1 w w') (hb:c1 b=tag) (ht:tag≠99:=by decide):w.heap.size≤b:=Nat.le_of_not_lt fun aA=>by
 rw [h.old _ aA,Xxq aA] at hb;exact ht hb.symm
theorem Chg.below0 (h:Chg T (Xti w.heap.size) c1 w w') (ht:¬T 99):Below w.heap.size w w':=
 ⟨h.os,h.tape,h.output,h.size,fun b hb=>h.keep b hb (by rw [Xxq hb];exact ht)⟩
theorem V3.seen (h:Chg T (Xti w.heap.size) c1 w w') (hc:∀ b,w.heap.size≤b→c b=0) (hr:V3 w' c1 tag e sz v n xs) (ht:tag≠99:=by decide):V3 (mask w' c) c1 tag e sz v n xs:=
 ⟨Xvt hr.1 (fun b hb=>Xvm (hc b (h.fresh (hr.2.1 b hb) ht))),hr.2⟩
theorem Xuy {w0:World} (s x:Operand) (ho:o.op=.call { callee:=.builtin .append,args:=#[s,x],argTypes:=#[22,22] })
  (e1:Nat) (he:w.heap[e1]?=some (.cells #[] 3 (0,0))) (hs:a.eval s=.slice (some ⟨e1,0,none⟩) 0 0) (hb0:Below w0.heap.size w0 w) (h1:w0.heap.size≤e1) (xa:Option Addr) (n xc:Nat) (l:List Int) (B:Nat) (hx:a.eval x=.slice xa n xc) (hl:Xf B w 1 Zd (.slice xa n xc) l) (hsz:l.length≤1000000) (hhi:∀ b,w0.heap.size≤b→c b=0)
  (h:∀ g cap w',Xf w'.heap.size (mask w' c) 1 Zd (.slice (some ⟨g,0,none⟩) n cap) l→Below w0.heap.size w0 w'→((∀ b,b<w.heap.size→b≠e1→w'.heap[b]?=w.heap[b]?)∧Sub w w'∧w.heap.size≤w'.heap.size)→K (a.put o.dst (.slice (some ⟨g,0,none⟩) n cap)) w'):o.wp Tryz.prog a w K Q:=by
 have aJ:e1<w.heap.size:=(La he)
 obtain ⟨aH,aI,aG,aK,aL,aM,hE⟩:=hl
 obtain ⟨rfl,rfl,rfl⟩:xa=aH∧n=l.length∧xc=aI:=by simpa using aG
 have aC:∀ q∈l,in64 q:=fun q hq=>by
  rcases hE with h0|⟨b,oo,rfl,aD,hE⟩
  ·subst h0;cases hq
  ·obtain ⟨i,hi,rfl⟩:=List.getElem_of_mem hq
   exact (hE i _ (Lg hi)).2
 refine Xxy 1 s x 22 3 ho Tryz.underlying22 (z:=.int .i64 0) (sz:=1) (bytes:=8) Uc rfl (by decide) (by decide) (c:=fun b=>if b=e1 then 1 else 0) e1 he hs xa l.length xc (l.map (Value.int .i64)) hx (by simp) ?_ (fun u hu=>?_) hsz (if_pos rfl) (by decide) (fun b hb=>if_neg (by omega)) (fun g cap w' c' r1 r2 _=>?_)
 ·rcases hE with h0|⟨b,oo,rfl,aD,hE⟩
  ·left;rw [h0];rfl
  ·refine .inr ⟨_,rfl,fun j u hu=>?_⟩
   rw [List.getElem?_map] at hu
   cases hg:l[j]? with
   | none=>rw [hg] at hu;simp at hu
   | some q=>
    rw [hg] at hu
    simp at hu
    subst hu
    have:=(hE j q hg).1
    rw [Nat.mul_one] at this
    rw [Xtf];exact this
 ·obtain ⟨_,_,rfl⟩:=List.mem_map.1 hu;rfl
 ·have aE:w0.heap.size≤g:=by
   have hg:c' g=1:=r1.2.1 g (by simp [Value.ownBlock])
   by_cases aF:g<w.heap.size
   ·rw [r2.old g aF] at hg
    by_cases e:g=e1
    ·omega
    ·rw [if_neg e] at hg;cases hg
   ·have:=hb0.size;omega
  have hk:∀ b,b<w.heap.size→b≠e1→w'.heap[b]?=w.heap[b]?:=fun b hb aA=>r2.keep b hb (by rw [if_neg aA];decide)
  have aB:Sub w w':=fun q v hv=>by
   have aA:q.block≠e1:=fun e=>by
    unfold World.cell? at hv
    rw [e,he] at hv
    simp at hv
   rw [World.cell?_of_block (w:=w) (hk _ (World.block_lt_of_cell? w q hv) aA)];exact hv
  refine (fun h1 h2=>h g cap w' h1 h2 ⟨hk,aB,r2.size⟩) ?_ ⟨r2.os.trans hb0.os,r2.tape.trans hb0.tape,r2.output.trans hb0.output,Nt hb0.size r2.size,fun b hb=>?_⟩
  ·have hR:Xsp (mask w' c) c' 1 (.slice (some ⟨g,0,none⟩) l.length cap) l:=⟨⟨Xvt r1.1 (fun b hb=>by
    simp [Value.ownBlock] at hb;subst hb;exact Xvm (hhi _ aE)),r1.2⟩,aC⟩
   have:=hR.reads
   rw [Xul] at this
   exact this
  ·rw [r2.keep b (Nl hb hb0.size) (by rw [if_neg (by omega)];decide)]
   exact hb0.block b hb
theorem Xvr (h:Sub w w'):Sub (mask w c) (mask w' c):=fun a v ha=>by
 rw [Xtw] at ha ⊢
 split at ha
 ·rename_i h1
  rw [if_pos h1];exact h _ _ ha
 ·cases ha
structure Xzb (l:List Cal) (w:World) (k:Nat) (v:Value) (c:Clr) (xs:List Value) (wr:World):Prop where
 row:V3 wr c 1 80 2 v k xs
 chg:Chg (fun t=>t=1) (Xti w.heap.size) c w wr
 hi:∀ b,wr.heap.size≤b→c b=0
 elem:∀ (i:Nat) x,i<k→l[i]?=some x→∃ av,xs[i*2]?=some (.string x.proc)∧xs[i*2+1]?=some av∧Xf wr.heap.size (mask wr c) 1 Zd av x.args∧x.proc.size≤140737488355328
 len:xs.length=k*2
theorem Xzd:(Tryz.prog.info? 80).map (fun i=>(i.zero,i.size,i.bytes))=some (some (.agg #[.string ⟨#[]⟩,.slice none 0 0]),2,40):=by kernel_rfl
def Xwd (l:List Cal) (w:World) (e:Ending) (w':World):Prop:=∃ a cap,e=.returned (.slice a l.length cap)∧Below w.heap.size w w'∧∀ c:Clr,(∀ b,w.heap.size≤b→c b=0)→Xf w'.heap.size (mask w' c) 2 (Xsr w'.heap.size) (.slice a l.length cap) l
theorem Xzb.post {a:Option Addr} {cap:Nat} (h:Xzb l w l.length (.slice a l.length cap) c xs wr):Xwd l w (.returned (.slice a l.length cap)) wr:=by
 refine ⟨a,cap,rfl,h.chg.below0 (by decide),fun c' aA=>?_⟩
 have hR:=h.row.seen h.chg aA (by decide)
 have:=hR.reads (l:=l) (E:=Xsr wr.heap.size) (fun i x hx=>?_) (fun i x g hx hc=>?_)
 ·rw [Xul] at this;exact this
 ·obtain ⟨av,h1,_⟩:=h.elem i x (Ll hx) hx
  exact ⟨_,h1⟩
 ·obtain ⟨av,h1,h2,h3,h4⟩:=h.elem i x (Ll hx) hx
  exact ⟨hc _ _ h1,⟨av,hc _ _ h2,h3.ups Xr9 (Nr _) (h.chg.seen aA)⟩,h4⟩
theorem Xzb.next {w8 w9:World} {k g1 c1:Nat} {v':Value} {c9:Clr} {x:Cal} (h:Xzb l w k v c xs wr) (hx:l[k]?=some x) (hs:x.proc.size≤140737488355328) (hb:Below wr.heap.size wr w8) (hl:Xf w8.heap.size (mask w8 c) 1 Zd (.slice (some ⟨g1,0,none⟩) x.args.length c1) x.args)
  (hC:Chg (fun t=>t=1) c c9 (w8.alloc (.cells #[.string x.proc,.slice (some ⟨g1,0,none⟩) x.args.length c1] 80)) w9) (hhi:∀ b,w9.heap.size≤b→c9 b=0) (hr:V3 w9 c9 1 80 2 v' (k+1) (xs++[.string x.proc,.slice (some ⟨g1,0,none⟩) x.args.length c1])):Xzb l w (k+1) v' c9 (xs++[.string x.proc,.slice (some ⟨g1,0,none⟩) x.args.length c1]) w9:=by
 have h8:Chg (fun t=>t=1) c c wr w8:=Chg.of_below hb (by decide)
 have aA:Chg (fun t=>t=1) c c9 w8 w9:=(Chg.of_below (Xa _ _) (by decide)).trans hC
 refine ⟨hr,(h.chg.trans h8).trans aA,hhi,fun i y hi hy=>?_,by simp [h.len];omega⟩
 by_cases aB:i<k
 ·obtain ⟨av,e1,e2,e3,e4⟩:=h.elem i y aB hy
  exact ⟨av,by rw [Al (by rw [h.len];omega)];exact e1,by rw [Al (by rw [h.len];omega)];exact e2,e3.ups Xr9 (h8.trans aA).size (h8.trans aA).sub,e4⟩
 ·obtain rfl:i=k:=by omega
  rw [hx] at hy;cases hy
  exact ⟨_,by rw [Ar (by rw [h.len];omega),h.len,Nat.sub_self];rfl,by rw [Ar (by rw [h.len];omega),h.len,show i*2+1 - i*2=1 by omega];rfl,hl.ups Xr9 aA.size aA.sub,hs⟩
theorem Xwm (l:List Cal) (v:Value) (B:Nat) (w:World) (hB:B≤w.heap.size) (hv:Xf B w 2 (Xsr B) v l) (hn:l.length≤1000000) (ha:∀ x∈l,x.args.length≤1000000) :
  Calls Tryz.prog 51 #[v] w (Xwd l w):=by
 obtain ⟨va,vc,rfl⟩:=hv.form
 have HV:=Lh hv
 have HA:=Lh ha
 have HB:=Lh hB
 obtain ⟨n,aN⟩:∃ n,n=l.length:=⟨_,rfl⟩
 rw [←aN] at hn ⊢
 have HN:=Lh aN
 have aO:Hid (Xzb l w 0 (.slice none 0 0) (Xti w.heap.size) [] w):=Lh ⟨V3.nil _ _ _ _ _,Chg.of_below Br (by decide),Xt4,fun i x hi=>by omega,rfl⟩
 clear hv ha hB aN
 go_enter Tryz.func51,Tryz.ntmps51
 go_wp2_with fail
 go_loopw [3,8] (fun v i wr=>∃ (k:Nat) (a:Option Addr) (cap:Nat),k≤n∧v=.slice a k cap∧i=.int .i64 k∧Hid (∃ c xs,Xzb l w k (.slice a k cap) c xs wr)) (fun _ i _=>n - (intOf i).toNat)
 case atStart=>exact ⟨0,none,0,Nat.zero_le _,rfl,rfl,Lh ⟨_,_,aO.out⟩⟩
 case round=>
  obtain ⟨k,oa,aC,hk,rfl,rfl,aF⟩:=hrel
  obtain ⟨c,xs,aF⟩:=aF.out
  have aA:=Lh aF
  clear aF
  by_cases bN:k<n
  ·obtain ⟨x,hx⟩:∃ y,l[k]?=some y:=⟨_,Lg (by have:=HN.out;omega)⟩
   have HX:=Lh hx
   have aI:Below B w wr:=(aA.out.chg.below0 (by decide)).mono HB.out
   obtain ⟨nb,no,bJ,bK,bG⟩:∃ nb no,va=some ⟨nb,no,none⟩∧nb<B∧Xsr B wr nb (no+k*2) x:=by
    obtain ⟨a0,aH,bI,_,_,_,hE⟩:=HV.out
    obtain ⟨rfl,_,rfl⟩:va=a0∧n=l.length∧vc=aH:=by have:=HN.out;simpa [this] using bI
    rcases hE with h0|⟨nb,no,rfl,hb,hE⟩
    ·rw [h0] at hx;simp at hx
    ·exact ⟨nb,no,rfl,hb,(hE k x hx).below aI hb⟩
   subst bJ
   obtain ⟨n0,⟨lv,n1,aM⟩,aW⟩:=bG
   obtain ⟨la,lc,rfl⟩:=aM.form
   have aY:=HA.out x (Lm hx)
   obtain ⟨V,hV⟩:∃ V,V=wr.alloc (.cells #[.string x.proc,.slice la x.args.length lc] 80):=⟨_,rfl⟩
   have aD:Hid (Below wr.heap.size wr V):=Lh (by rw [hV];exact Xa _ _)
   have aK:V.heap[wr.heap.size]?=some (.cells #[.string x.proc,.slice la x.args.length lc] 80 (0,0)):=by rw [hV];exact Hn _ _
   have v0:=Cw aK 0 rfl
   have v1:=Cw aK 1 rfl
   have zn:=Bl n0
   have aT:(0:Int)≤(k:Int):=In _
   have aU:(k:Int)<(n:Int):=by omega
   have bB:=Lh aW
   have bD:=Lh aY
   have bL:Hid (wr.heap.size<V.heap.size):=Lh (by rw [hV];simp)
   have bF:Below B w V:=aI.trans (aD.out.mono (Nt HB.out (aA.out.chg.size)))
   have HE:Hid ((V.alloc (.cells #[] 3)).drew.heap[V.heap.size]?=some (.cells #[] 3 (0,0))):=Lh (Hn V _)
   have aP:Hid (Below V.heap.size V (V.alloc (.cells #[] 3)).drew):=Lh (Xsh V _)
   have HL:Hid (Xf B (V.alloc (.cells #[] 3)).drew 1 Zd (.slice la x.args.length lc) x.args):=Lh ((aM.ints (aD.out.mono (Nt HB.out aA.out.chg.size))).ints (aP.out.mono (Nt HB.out (Nt aA.out.chg.size aD.out.size))))
   have aZ:Hid (∀ b,V.heap.size≤b→c b=0):=Lh (fun b hb=>aA.out.hi b (Nt aD.out.size hb))
   have HZ:=Lh zn
   have HI:=Lh (And.intro aT aU)
   clear hx aI aM aW aK bF aY
   go_upto_region 5 with fail
   rw [←hV]
   clear hV n0 n1 zn aT aU
   refine X6 (fun Vs=>Vs.cell? ⟨wr.heap.size,0,none⟩=some (.string x.proc)∧Vs.cell? ⟨wr.heap.size,1,none⟩=some (.slice la x.args.length lc)) [3,6,7,8,9,10] true 11 rfl (by kernel_rfl) (by kernel_rfl) ⟨v0,v1⟩ ?_
   repeat (first|(refine' Xr4.take (Eq.refl false) _ (fun wV aJ=>?_) ?_;rotate_left;(try dsimp only at aJ);go_simp;(try with_reducible rfl);try simp only [Ap])|refine Xr4.skip (Eq.refl true) ?_)
   refine Xr4.stop ?_
   simp only [List.nil_append,List.cons_append]
   have HS:=Lh (And.intro v0 v1)
   have bM:=bL
   clear v0 v1
   refine X5 (by kernel_rfl) ?_
   go_simp
   refine ⟨⟨Xc (Xa _ _) HS.out.1,Xc (Xa _ _) HS.out.2⟩,?_⟩
   refine X5 (by kernel_rfl) ?_
   refine Xuy (w0:=V) (.tmp 15) (.tmp 17) rfl (c:=c) V.heap.size HE.out rfl aP.out (Nr _) la x.args.length lc x.args B rfl HL.out bD.out aZ.out (fun g1 c1 w8 aX aR _=>?_)
   have bC:=Lh aX
   have aB:=Lh aR
   clear aX aR
   refine ⟨.inl ⟨Xc aB.out HS.out.1,Xc aB.out HS.out.2⟩,?_⟩
   (refine' Z6 (by kernel_rfl) _ (fun wV aJ=>?_) ?_;rotate_left;(clear aJ;go_simp);(try with_reducible rfl);try simp only [Ap])
   refine X5 (by kernel_rfl) ?_
   go_simp
   refine ⟨⟨Xc (Xa _ _) (Xc aB.out HS.out.1),Xc (Xa _ _) (Xc aB.out HS.out.2)⟩,?_⟩
   have aQ:Hid (Below wr.heap.size wr (w8.alloc (.cells #[.string x.proc,.slice (some ⟨g1,0,none⟩) x.args.length c1] 80))):=Lh ((aD.out.then aB.out).then (Xa _ _))
   have aG:Hid (∀ b,(w8.alloc (.cells #[.string x.proc,.slice (some ⟨g1,0,none⟩) x.args.length c1] 80)).heap.size≤b→c b=0):=Lh (fun b hb=>aA.out.hi b (Nt aQ.out.size hb))
   refine X5 (by kernel_rfl) ?_
   refine Xsy (fun t=>t=1) (.tmp 12) (.tmp 20) 54 80 rfl Tryz.underlying54 Xzd rfl (by decide) (by decide) (c:=c) (tag:=1) (v:=.slice oa k aC) (n:=k) (xs:=xs) rfl (aA.out.row.keep (T:=NO) (Chg.of_below (c:=c) aQ.out (fun h=>h)) (fun h=>h)) ⟨w8.heap.size,0,none⟩ 1 1 [.string x.proc,.slice (some ⟨g1,0,none⟩) x.args.length c1] rfl rfl (fun j u hu=>(Xso w8 _ _ j).trans (by simpa using hu)) (by simp [Value.oneCell']) (by decide) (by omega) rfl (by decide) aG.out (fun g2 bE w9 c9 aE hC aS bH=>?_)
   have aV:=aA.out.next HX.out bB.out (aD.out.then aB.out) bC.out hC aS aE
   have bA:=Lh aV
   have aL:¬c wr.heap.size=1:=by rw [aA.out.hi _ (Nr _)];decide
   have q0:=hC.cell (Xc (Xa _ _) (Xc aB.out HS.out.1)) aL
   have q1:=hC.cell (Xc (Xa _ _) (Xc aB.out HS.out.2)) aL
   refine ⟨.inl ⟨q0,q1⟩,?_⟩
   clear aE hC aS bH aV aL q0 q1
   refine X5 (by kernel_rfl) ?_
   go_simp
   refine Xr3 ?_
   go_wp2_with fail
   go_roundw
   case rel=>exact ⟨k+1,_,_,by omega,rfl,by go_num,Lh ⟨_,_,bA.out⟩⟩
   case measure=>simp [intOf];omega
  ·obtain rfl:k=n:=by omega
   have hp:Xwd l w (.returned (.slice oa k aC)) wr:=by
    have h:=aA.out
    rw [HN.out] at h ⊢
    exact h.post
   have HP:=Lh hp
   clear hp
   go_wp2_with fail
   exact bodyPost_ret (v:=.slice oa k aC) (by simp [results,Tryz.results51,go_sem]) rfl HP.out
