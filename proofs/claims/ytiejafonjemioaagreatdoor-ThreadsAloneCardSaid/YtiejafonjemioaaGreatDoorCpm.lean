import Derived.Test.YtiejafonjemioaaGreatDoorCpc
import Derived.Test.YtiejafonjemioaaGreatDoorSta4
set_option maxHeartbeats 4000000
set_option maxRecDepth 100000
set_option linter.unusedVariables false
set_option linter.unusedSimpArgs false
namespace Go.Proofs.YtiejafonjemioaaGreatDoor
open Go.RowKit
variable {W w wr:World} {R bi br bo:Nat} {fv fv0:Value} {m:Mch} {c:Clr} {xs:List Value}
def T3 (t:Nat):Prop:=t=1∨t=2∨t=3
theorem Xzo:¬T3 0:=by unfold T3;omega
theorem X2z:¬T3 99:=by unfold T3;omega
theorem Xy2 (h:W.heap[R]?=some (.cells (Xb fv m) 51 (0,0))) :
  W.cell? ⟨R,0,none⟩=some fv∧W.cell? ⟨R,1,none⟩=some (.int .i64 m.req.kind)∧W.cell? ⟨R,2,none⟩=some (.int .i64 m.req.node)∧W.cell? ⟨R,3,none⟩=some (.int .i64 m.req.field)∧W.cell? ⟨R,4,none⟩=some (.int .i64 m.req.value)∧W.cell? ⟨R,5,none⟩=some (.int .i64 m.req.fault)∧W.cell? ⟨R,6,none⟩=some (.int .i64 m.fuel)∧W.cell? ⟨R,7,none⟩=some (.int .i64 m.compares)∧W.cell? ⟨R,8,none⟩=some (.int .i64 m.idle):=
 ⟨Xe h 0 _ rfl,Xe h 1 _ rfl,Xe h 2 _ rfl,Xe h 3 _ rfl,Xe h 4 _ rfl,Xe h 5 _ rfl,Xe h 6 _ rfl,Xe h 7 _ rfl,Xe h 8 _ rfl⟩
theorem X37 {c:Array Value} {T:TypeId} (h:W.heap[R]?=some (.cells c T (0,0))) :
  W.frozen? ⟨R,0,none⟩=false∧W.frozen? ⟨R,1,none⟩=false∧W.frozen? ⟨R,2,none⟩=false∧W.frozen? ⟨R,3,none⟩=false∧W.frozen? ⟨R,4,none⟩=false∧W.frozen? ⟨R,5,none⟩=false∧W.frozen? ⟨R,6,none⟩=false∧W.frozen? ⟨R,7,none⟩=false∧W.frozen? ⟨R,8,none⟩=false:=
 ⟨Fz h,Fz h,Fz h,Fz h,Fz h,Fz h,Fz h,Fz h,Fz h⟩
theorem X10 {T:Nat→Prop} {M:Nat} (h:T (c M)) (h0:¬T 0):Chg T c c w (Yp w M fv m):=
 ((((((((Chg.set (T:=T) h h0).trans (Chg.set h h0)).trans (Chg.set h h0)).trans (Chg.set h h0)).trans (Chg.set h h0)).trans (Chg.set h h0)).trans (Chg.set h h0)).trans (Chg.set h h0)).trans (Chg.set h h0)
structure Xzm (m:Mch) (w:World) (bi br bo k:Nat) (fv0 v:Value) (c:Clr) (xs:List Value) (wr:World):Prop where
 row:V3 wr c 1 129 4 v k xs
 chg:Chg T3 (Xti w.heap.size) c w wr
 hi:∀ b,wr.heap.size≤b→c b=0
 box:wr.heap[bo]?=some (.cells (Xb v m) 51 (0,0))
 cbo:c bo=2
 res:wr.heap[br]?=some (.cells (Xb (.slice none 0 0) Xl) 51 (0,0))
 cbr:c br=3
 inp:wr.heap[bi]?=some (.cells (Xb fv0 m) 51 (0,0))
 cbi:c bi=0
 elem:∀ (i:Nat) f,i<k→m.frames[i]?=some f→∃ lv sv,xs[i*4]?=some (.int .i64 f.fn)∧xs[i*4+1]?=some (.int .i64 f.pc)∧xs[i*4+2]?=some lv∧xs[i*4+3]?=some sv∧Xf wr.heap.size (mask wr c) 1 Zd lv f.locals∧Xf wr.heap.size (mask wr c) 1 Zd sv f.stack∧in64 f.fn∧in64 f.pc
 len:xs.length=k*4
def Xzg (m:Mch) (w:World) (e:Ending) (w':World):Prop:=∃ a cap,e=.returned (Xi (.slice a m.frames.length cap) m)∧Below w.heap.size w w'∧∀ c:Clr,(∀ b,w.heap.size≤b→c b=0)→Xf w'.heap.size (mask w' c) 4 (Qp w'.heap.size) (.slice a m.frames.length cap) m.frames
theorem Xzm.post {a:Option Addr} {cap:Nat} (h:Xzm m w bi br bo m.frames.length fv0 (.slice a m.frames.length cap) c xs wr):Xzg m w (.returned (Xi (.slice a m.frames.length cap) m)) (Yp wr br (.slice a m.frames.length cap) m):=by
 obtain ⟨W',hW⟩:∃ W',W'=Yp wr br (.slice a m.frames.length cap) m:=⟨_,rfl⟩
 have h3:Chg (fun t=>t=3) c c wr W':=by rw [hW];exact X10 h.cbr (by omega)
 have hT:Chg T3 (Xti w.heap.size) c w W':=h.chg.trans (h3.mono (fun t ht=>.inr (.inr ht)) Xzo)
 rw [←hW]
 refine ⟨a,cap,rfl,hT.below0 X2z,fun c' aA=>?_⟩
 have hR:=(h.row.keep h3 (by omega)).seen hT aA (by decide)
 have:=hR.reads (l:=m.frames) (E:=Qp W'.heap.size) (fun i x hx=>?_) (fun i x g hx hc=>?_)
 ·rw [Xul] at this;exact this
 ·obtain ⟨lv,sv,h1,_⟩:=h.elem i x (Ll hx) hx
  exact ⟨_,h1⟩
 ·obtain ⟨lv,sv,h1,h2,h4,h5,h6,h7,h8⟩:=h.elem i x (Ll hx) hx
  have hs:Sub (mask wr c) (mask W' c'):=h3.sub.trans (hT.seen aA)
  exact ⟨hc _ _ h1,hc _ _ h2,⟨lv,hc _ _ h4,h6.ups Xr9 h3.size hs⟩,⟨sv,hc _ _ h5,h7.ups Xr9 h3.size hs⟩,h8⟩
theorem Xzm.next {w8 w9:World} {k g1 c1 g2 c2:Nat} {v v':Value} {c9:Clr} {f:Fra} (h:Xzm m w bi br bo k fv0 v c xs wr) (hx:m.frames[k]?=some f) (h64:in64 f.fn∧in64 f.pc) (hb:Below wr.heap.size wr w8) (hl:Xf w8.heap.size (mask w8 c) 1 Zd (.slice (some ⟨g1,0,none⟩) f.locals.length c1) f.locals) (hl2:Xf w8.heap.size (mask w8 c) 1 Zd (.slice (some ⟨g2,0,none⟩) f.stack.length c2) f.stack)
  (hC:Chg (fun t=>t=1) c c9 (w8.alloc (.cells #[.int .i64 f.fn,.int .i64 f.pc,.slice (some ⟨g1,0,none⟩) f.locals.length c1,.slice (some ⟨g2,0,none⟩) f.stack.length c2] 129)) w9) (hhi:∀ b,w9.heap.size≤b→c9 b=0) (hr:V3 w9 c9 1 129 4 v' (k+1) (xs++[.int .i64 f.fn,.int .i64 f.pc,.slice (some ⟨g1,0,none⟩) f.locals.length c1,.slice (some ⟨g2,0,none⟩) f.stack.length c2])) :
  Xzm m w bi br bo (k+1) fv0 v' c9 (xs++[.int .i64 f.fn,.int .i64 f.pc,.slice (some ⟨g1,0,none⟩) f.locals.length c1,.slice (some ⟨g2,0,none⟩) f.stack.length c2]) (w9.setCell ⟨bo,0,none⟩ v'):=by
 have h8:Chg (fun t=>t=1) c c wr w8:=Chg.of_below hb (by decide)
 have aK:Chg (fun t=>t=1) c c9 w8 w9:=(Chg.of_below (Xa _ _) (by decide)).trans hC
 have h9:=h8.trans aK
 have aL:=(La h.box)
 have aG:c9 bo=2:=by rw [h9.old _ aL];exact h.cbo
 have hs:Chg (fun t=>t=2) c9 c9 w9 (w9.setCell ⟨bo,0,none⟩ v'):=Chg.set aG (by omega)
 have aI:∀ t,t=1→T3 t:=fun t h=>.inl h
 have aJ:∀ t,t=2→T3 t:=fun t h=>.inr (.inl h)
 have hA:=(h9.mono aI Xzo).trans (hs.mono aJ Xzo)
 have aD:w9.heap[bo]?=some (.cells (Xb v m) 51 (0,0)):=by rw [h9.keep _ aL (by rw [h.cbo];omega)];exact h.box
 have aE:=(La h.res)
 have aC:=(La h.inp)
 have aH:c9 br=3:=by rw [h9.old _ aE];exact h.cbr
 have aF:c9 bi=0:=by rw [h9.old _ aC];exact h.cbi
 have aA:=h.len
 have aN:w9.heap.size=(w9.setCell ⟨bo,0,none⟩ v').heap.size:=by simp
 refine ⟨hr.keep hs (by omega),h.chg.trans hA,fun b hb=>hhi b (by rw [aN];exact hb),?_,aG,?_,aH,?_,aF,fun i y hi hy=>?_,by simp [h.len];omega⟩
 ·rw [heap_setCell_same _ _ _ _ _ _ aD,Qo]
 ·rw [hs.keep _ (Nl aE h9.size) (by rw [aH];omega),h9.keep _ aE (by rw [h.cbr];omega)];exact h.res
 ·rw [hs.keep _ (Nl aC h9.size) (by rw [aF];omega),h9.keep _ aC (by rw [h.cbi];omega)];exact h.inp
 ·by_cases aM:i<k
  ·obtain ⟨lv,sv,e1,e2,e3,e4,e5,e6,e7⟩:=h.elem i y aM hy
   exact ⟨lv,sv,by rw [Al (by omega)];exact e1,by rw [Al (by omega)];exact e2,by rw [Al (by omega)];exact e3,by rw [Al (by omega)];exact e4,e5.ups Xr9 hA.size hA.sub,e6.ups Xr9 hA.size hA.sub,e7⟩
  ·obtain rfl:i=k:=by omega
   rw [hx] at hy;cases hy
   have aB:=(aK.mono aI Xzo).trans (hs.mono aJ Xzo)
   exact ⟨_,_,by rw [Ar (by omega),aA,Nat.sub_self];rfl,by rw [Ar (by omega),aA,show i*4+1 - i*4=1 by omega];rfl,by rw [Ar (by omega),aA,show i*4+2 - i*4=2 by omega];rfl,by rw [Ar (by omega),aA,show i*4+3 - i*4=3 by omega];rfl,hl.ups Xr9 aB.size aB.sub,hl2.ups Xr9 aB.size aB.sub,h64⟩
theorem X0n (m:Mch) (fv:Value) (B:Nat) (w:World) (hB:B≤w.heap.size) (hm:Xf B w 4 (Qp B) fv m.frames) (hsz:m.frames.length≤1000) (hfsz:∀ f∈m.frames,f.locals.length≤1000000∧f.stack.length≤1000000) :
  Calls Tryz.prog 101 #[Xi fv m] w (Xzg m w):=by
 obtain ⟨ma,mc,rfl⟩:=hm.form
 have cD:=Lh hm
 have cC:=Lh hfsz
 have HB:=Lh hB
 obtain ⟨n,hn⟩:∃ n,n=m.frames.length:=⟨_,rfl⟩
 rw [←hn] at hsz ⊢
 have HN:=Lh hn
 obtain ⟨W2,aJ⟩:∃ W,W=((w.alloc (.cells (Xb (.slice ma n mc) m) 51)).alloc (.cells (Xb (.slice none 0 0) Xl) 51)).alloc (.cells (Xb (.slice ma n mc) m) 51):=⟨_,rfl⟩
 have aH:Below w.heap.size w W2:=by rw [aJ];exact ((Xa _ _).then (Xa _ _)).then (Xa _ _)
 have bZ:W2.heap.size=w.heap.size+3:=by rw [aJ];simp
 have b0:W2.heap[w.heap.size]?=some (.cells (Xb (.slice ma n mc) m) 51 (0,0)):=by
  rw [aJ,Ha _ _ _ (by simp;omega),Ha _ _ _ (by simp)]
  exact Hn _ _
 have b1:W2.heap[w.heap.size+1]?=some (.cells (Xb (.slice none 0 0) Xl) 51 (0,0)):=by
  rw [aJ,Ha _ _ _ (by simp)]
  have:=Hn (w.alloc (.cells (Xb (.slice ma n mc) m) 51)) (.cells (Xb (.slice none 0 0) Xl) 51)
  simpa using this
 have b2:W2.heap[w.heap.size+1+1]?=some (.cells (Xb (.slice ma n mc) m) 51 (0,0)):=by
  rw [aJ]
  have:=Hn ((w.alloc (.cells (Xb (.slice ma n mc) m) 51)).alloc (.cells (Xb (.slice none 0 0) Xl) 51)) (.cells (Xb (.slice ma n mc) m) 51)
  simpa using this
 obtain ⟨W,hW⟩:∃ V,V=W2.setCell ⟨w.heap.size+1+1,0,none⟩ (.slice none 0 0):=⟨_,rfl⟩
 have aT:Hid (Xzm m w w.heap.size (w.heap.size+1) (w.heap.size+1+1) 0 (.slice ma n mc) (.slice none 0 0) (fun b=>if b=w.heap.size+1+1 then 2 else if b=w.heap.size+1 then 3 else Xti w.heap.size b) [] W):=Lh (by
  have hC:Chg T3 (Xti w.heap.size) (fun b=>if b=w.heap.size+1+1 then 2 else if b=w.heap.size+1 then 3 else Xti w.heap.size b) w W2:=⟨aH.os,aH.tape,aH.output,aH.size,fun b hb _=>aH.block b hb,fun b hb=>by show (if _ then _ else if _ then _ else _)=_;rw [if_neg (by omega),if_neg (by omega)],Xzo⟩
  have hS:Chg (fun t=>t=2) (fun b=>if b=w.heap.size+1+1 then 2 else if b=w.heap.size+1 then 3 else Xti w.heap.size b) (fun b=>if b=w.heap.size+1+1 then 2 else if b=w.heap.size+1 then 3 else Xti w.heap.size b) W2 W:=by rw [hW];exact Chg.set (if_pos rfl) (by omega)
  have hz:W.heap.size=w.heap.size+3:=by rw [hW];simpa using bZ
  refine ⟨V3.nil _ _ _ _ _,hC.trans (hS.mono (fun t ht=>.inr (.inl ht)) Xzo),fun b hb=>?_,by rw [hW,heap_setCell_same _ _ _ _ _ _ b2,Qo],if_pos rfl,?_,?_,?_,?_,fun i x hi=>by omega,rfl⟩
  ·show (if _ then _ else if _ then _ else _)=_
   rw [if_neg (by omega),if_neg (by omega)];exact Xt4 b (by omega)
  ·rw [hS.keep _ (by omega) (by rw [if_neg (by omega),if_pos rfl];omega)];exact b1
  ·show (if _ then _ else if _ then _ else _)=_
   rw [if_neg (by omega),if_pos rfl]
  ·rw [hS.keep _ (by omega) (by rw [if_neg (by omega),if_neg (by omega)];rw [Xt4 _ (Nr _)];omega)];exact b0
  ·show (if _ then _ else if _ then _ else _)=_
   rw [if_neg (by omega),if_neg (by omega)];exact Xt4 _ (Nr _))
 obtain ⟨k0,k1,k2,k3,k4,k5,k6,k7,k8⟩:=Xy2 b0
 obtain ⟨j0,-⟩:=Xy2 b2
 obtain ⟨g0,-⟩:=X37 b2
 have z0:=(La b0)
 have z2:=(La b2)
 clear b0 b1 b2 aH hn hm hfsz bZ hB
 unfold Xi
 unfold Xb Xl at aJ
 unfold Xb
 dsimp only at aJ ⊢
 go_enter Tryz.func101,Tryz.ntmps101
 have HW:=Lh hW
 clear hW
 go_upto_region 2 with fail
 rw [←aJ]
 have cP:=Lh aJ
 clear aJ
 go_upto_region 3 with fail
 rw [←HW.out]
 have cL:=(Xy2 aT.out.inp).1
 have cO:=(La aT.out.inp)
 clear k0 k1 k2 k3 k4 k5 k6 k7 k8 j0 g0 z0 z2
 go_wp2_with fail
 clear cL cO
 go_loopw [11] (fun i wr=>∃ (k:Nat),k≤n∧i=.int .i64 k∧Hid (∃ a cap c xs,Xzm m w w.heap.size (w.heap.size+1) (w.heap.size+1+1) k (.slice ma n mc) (.slice a k cap) c xs wr)) (fun i _=>n - (intOf i).toNat)
 case atStart=>exact ⟨0,Nat.zero_le _,rfl,Lh ⟨_,_,_,_,aT.out⟩⟩
 case round=>
  obtain ⟨k,hk,rfl,bD⟩:=hrel
  obtain ⟨oa,aF,c,xs,bD⟩:=bD.out
  have aE:=Lh bD
  clear bD
  by_cases cQ:k<n
  ·obtain ⟨f,hf⟩:∃ y,m.frames[k]?=some y:=⟨_,Lg (by have:=HN.out;omega)⟩
   have HF:=Lh hf
   have bS:Below B w wr:=(aE.out.chg.below0 X2z).mono HB.out
   obtain ⟨nb,no,cM,cN,cG⟩:∃ nb no,ma=some ⟨nb,no,none⟩∧nb<B∧Qp B wr nb (no+k*4) f:=by
    obtain ⟨a0,bI,cI,_,_,_,hE⟩:=cD.out
    obtain ⟨rfl,_,rfl⟩:ma=a0∧n=m.frames.length∧mc=bI:=by have:=HN.out;simpa [this] using cI
    rcases hE with h0|⟨nb,no,rfl,hb,hE⟩
    ·rw [h0] at hf;simp at hf
    ·exact ⟨nb,no,rfl,hb,(hE k f hf).below bS hb⟩
   subst cM
   obtain ⟨n0,n1,⟨lv,n2,bN⟩,⟨sv,n3,bO⟩,bR⟩:=cG
   obtain ⟨la,lc,rfl⟩:=bN.form
   obtain ⟨sa,sc,rfl⟩:=bO.form
   have bV:=cC.out f (Lm hf)
   have bU:=aE.out.box
   have i0:=(Xy2 aE.out.inp).1
   obtain ⟨V,hV⟩:∃ V,V=wr.alloc (.cells #[.int .i64 f.fn,.int .i64 f.pc,.slice la f.locals.length lc,.slice sa f.stack.length sc] 129):=⟨_,rfl⟩
   have aS:Hid (Below wr.heap.size wr V):=Lh (by rw [hV];exact Xa _ _)
   have aX:V.heap[wr.heap.size]?=some (.cells #[.int .i64 f.fn,.int .i64 f.pc,.slice la f.locals.length lc,.slice sa f.stack.length sc] 129 (0,0)):=by rw [hV];exact Hn _ _
   have v0:=Cw aX 0 rfl
   have v1:=Cw aX 1 rfl
   have v2:=Cw aX 2 rfl
   have v3:=Cw aX 3 rfl
   have v4:V.cell? ⟨w.heap.size+1+1,0,none⟩=some (.slice oa k aF):=Xc aS.out (Xy2 bU).1
   have zn:=Bl n0
   have zi:=Bl i0
   have cJ:(0:Int)≤(k:Int):=In _
   have cK:(k:Int)<(n:Int):=by omega
   have cA:=Lh bR
   have aV:=Lh bV
   have bC:B≤wr.heap.size:=Nt HB.out aE.out.chg.size
   have bF:Hid (Xf B V 1 Zd (.slice la f.locals.length lc) f.locals):=Lh (bN.ints (aS.out.mono bC))
   have bH:Hid (Xf B V 1 Zd (.slice sa f.stack.length sc) f.stack):=Lh (bO.ints (aS.out.mono bC))
   have aU:Hid (B≤V.heap.size):=Lh (Nt bC aS.out.size)
   have aW:Hid (∀ b,V.heap.size≤b→c b=0):=Lh (fun b hb=>aE.out.hi b (Nt aS.out.size hb))
   clear hf bS bN bO bR bV bU aX bC
   go_upto_region 6 with fail
   rw [←hV]
   clear hV n0 n1 n2 n3 zn zi i0 cJ cK
   refine X6 (fun Vs=>Vs.cell? ⟨wr.heap.size,0,none⟩=some (.int .i64 f.fn)∧Vs.cell? ⟨wr.heap.size,1,none⟩=some (.int .i64 f.pc)∧Vs.cell? ⟨wr.heap.size,2,none⟩=some (.slice la f.locals.length lc)∧Vs.cell? ⟨wr.heap.size,3,none⟩=some (.slice sa f.stack.length sc)∧Vs.cell? ⟨w.heap.size+1+1,0,none⟩=some (.slice oa k aF)) [6,9,10,13,14,15,16,18] true 19 rfl (by kernel_rfl) (by kernel_rfl) ⟨v0,v1,v2,v3,v4⟩ ?_
   repeat (first|(refine' Xr4.take (Eq.refl false) _ (fun wV bK=>?_) ?_;rotate_left;(try dsimp only at bK);go_simp;(try with_reducible rfl);try simp only [Ap])|refine Xr4.skip (Eq.refl true) ?_)
   refine Xr4.stop ?_
   simp only [List.nil_append,List.cons_append]
   have HS:=Lh (And.intro v0 (And.intro v1 (And.intro v2 (And.intro v3 (v4)))))
   clear v0 v1 v2 v3 v4
   have cB:Hid ((V.alloc (.cells #[] 3)).drew.heap[V.heap.size]?=some (.cells #[] 3 (0,0))):=Lh (Hn V _)
   have bP:Hid (((V.alloc (.cells #[] 3)).alloc (.cells #[] 3)).drew.heap[V.heap.size]?=some (.cells #[] 3 (0,0))):=Lh ((Ha (V.alloc (.cells #[] 3)) _ _ (by simp)).trans (Hn V _))
   have bQ:Hid (((V.alloc (.cells #[] 3)).alloc (.cells #[] 3)).drew.heap[V.heap.size+1]?=some (.cells #[] 3 (0,0))):=Lh (by
    have:=Hn (V.alloc (.cells #[] 3)) (.cells #[] 3)
    rw [show (V.alloc (.cells #[] 3)).heap.size=V.heap.size+1 by simp] at this
    exact this)
   have aD:Hid (Below V.heap.size V (V.alloc (.cells #[] 3)).drew):=Lh (Xsh V _)
   have aB:Hid (Below V.heap.size V ((V.alloc (.cells #[] 3)).alloc (.cells #[] 3)).drew):=Lh (Xh ((Xa V _).then (Xa _ _)) 1)
   refine Xu2 [_] ?_
   refine Xs3 (by kernel_rfl) (by kernel_rfl) ?_ ?_
   all_goals (go_simp;refine ⟨⟨Xc aD.out HS.out.1,Xc aD.out HS.out.2.1,Xc aD.out HS.out.2.2.1,Xc aD.out HS.out.2.2.2.1,Xc aD.out HS.out.2.2.2.2⟩,?_⟩)
   rotate_left
   refine X5 (by kernel_rfl) ?_
   go_simp
   refine ⟨⟨Xc aB.out HS.out.1,Xc aB.out HS.out.2.1,Xc aB.out HS.out.2.2.1,Xc aB.out HS.out.2.2.2.1,Xc aB.out HS.out.2.2.2.2⟩,?_⟩
   refine X5 (by kernel_rfl) ?_
   refine Xuy (w0:=V) (.tmp 21) (.tmp 23) rfl (c:=c) (V.heap.size+1) bQ.out rfl aB.out (Nat.le_succ _) la f.locals.length lc f.locals B rfl (bF.out.ints (aB.out.mono aU.out)) aV.out.1 aW.out (fun g1 c1 w1 aO aG aM=>?_)
   have aK:=Lh aO
   have aI:=Lh aG
   have aA:=Lh aM
   clear aO aG aM
   refine ⟨.inl ⟨aA.out.2.1 _ _ (Xc aB.out HS.out.1),aA.out.2.1 _ _ (Xc aB.out HS.out.2.1),aA.out.2.1 _ _ (Xc aB.out HS.out.2.2.1),aA.out.2.1 _ _ (Xc aB.out HS.out.2.2.2.1),aA.out.2.1 _ _ (Xc aB.out HS.out.2.2.2.2)⟩,?_⟩
   refine X5 (by kernel_rfl) ?_
   refine Xuy (w0:=V) (.tmp 25) (.tmp 27) rfl (c:=c) (V.heap.size) ((aA.out.1 _ (by simp;omega) (by omega)).trans bP.out) rfl aI.out (Nr _) sa f.stack.length sc f.stack B rfl (bH.out.ints (aI.out.mono aU.out)) aV.out.2 aW.out (fun g2 c2 w2 aP aL aN=>?_)
   have bG:=Lh aP
   have bA:=Lh aL
   have aC:=Lh aN
   clear aP aL aN
   refine ⟨.inl ⟨aC.out.2.1 _ _ (aA.out.2.1 _ _ (Xc aB.out HS.out.1)),aC.out.2.1 _ _ (aA.out.2.1 _ _ (Xc aB.out HS.out.2.1)),aC.out.2.1 _ _ (aA.out.2.1 _ _ (Xc aB.out HS.out.2.2.1)),aC.out.2.1 _ _ (aA.out.2.1 _ _ (Xc aB.out HS.out.2.2.2.1)),aC.out.2.1 _ _ (aA.out.2.1 _ _ (Xc aB.out HS.out.2.2.2.2))⟩,?_⟩
   have F1:Hid (Xf w2.heap.size (mask w2 c) 1 Zd (.slice (some ⟨g1,0,none⟩) f.locals.length c1) f.locals):=Lh (aK.out.ups Xr9 (aC.out.2.2) (Xvr (aC.out.2.1)))
   have FS:Hid (_):=Lh (And.intro (aC.out.2.1 _ _ (aA.out.2.1 _ _ (Xc aB.out HS.out.1))) (And.intro (aC.out.2.1 _ _ (aA.out.2.1 _ _ (Xc aB.out HS.out.2.1))) (And.intro (aC.out.2.1 _ _ (aA.out.2.1 _ _ (Xc aB.out HS.out.2.2.1))) (And.intro (aC.out.2.1 _ _ (aA.out.2.1 _ _ (Xc aB.out HS.out.2.2.2.1))) ((aC.out.2.1 _ _ (aA.out.2.1 _ _ (Xc aB.out HS.out.2.2.2.2))))))))
   clear aA aC aK aI
   rotate_left
   refine Xs3 (by kernel_rfl) (by kernel_rfl) ?_ ?_
   go_simp
   refine ⟨⟨Xc aB.out HS.out.1,Xc aB.out HS.out.2.1,Xc aB.out HS.out.2.2.1,Xc aB.out HS.out.2.2.2.1,Xc aB.out HS.out.2.2.2.2⟩,?_⟩
   refine X5 (by kernel_rfl) ?_
   refine Xuy (w0:=V) (.tmp 21) (.tmp 23) rfl (c:=c) (V.heap.size) bP.out rfl aB.out (Nr _) la f.locals.length lc f.locals B rfl (bF.out.ints (aB.out.mono aU.out)) aV.out.1 aW.out (fun g1 c1 w1 aO aG aM=>?_)
   have aK:=Lh aO
   have aI:=Lh aG
   have aA:=Lh aM
   clear aO aG aM
   refine ⟨.inl ⟨aA.out.2.1 _ _ (Xc aB.out HS.out.1),aA.out.2.1 _ _ (Xc aB.out HS.out.2.1),aA.out.2.1 _ _ (Xc aB.out HS.out.2.2.1),aA.out.2.1 _ _ (Xc aB.out HS.out.2.2.2.1),aA.out.2.1 _ _ (Xc aB.out HS.out.2.2.2.2)⟩,?_⟩
   refine X5 (by kernel_rfl) ?_
   refine Xuy (w0:=V) (.tmp 25) (.tmp 27) rfl (c:=c) (V.heap.size+1) ((aA.out.1 _ (by simp) (by omega)).trans bQ.out) rfl aI.out (Nat.le_succ _) sa f.stack.length sc f.stack B rfl (bH.out.ints (aI.out.mono aU.out)) aV.out.2 aW.out (fun g2 c2 w2 aP aL aN=>?_)
   have bG:=Lh aP
   have bA:=Lh aL
   have aC:=Lh aN
   clear aP aL aN
   refine ⟨.inl ⟨aC.out.2.1 _ _ (aA.out.2.1 _ _ (Xc aB.out HS.out.1)),aC.out.2.1 _ _ (aA.out.2.1 _ _ (Xc aB.out HS.out.2.1)),aC.out.2.1 _ _ (aA.out.2.1 _ _ (Xc aB.out HS.out.2.2.1)),aC.out.2.1 _ _ (aA.out.2.1 _ _ (Xc aB.out HS.out.2.2.2.1)),aC.out.2.1 _ _ (aA.out.2.1 _ _ (Xc aB.out HS.out.2.2.2.2))⟩,?_⟩
   have F1:Hid (Xf w2.heap.size (mask w2 c) 1 Zd (.slice (some ⟨g1,0,none⟩) f.locals.length c1) f.locals):=Lh (aK.out.ups Xr9 (aC.out.2.2) (Xvr (aC.out.2.1)))
   have FS:Hid (_):=Lh (And.intro (aC.out.2.1 _ _ (aA.out.2.1 _ _ (Xc aB.out HS.out.1))) (And.intro (aC.out.2.1 _ _ (aA.out.2.1 _ _ (Xc aB.out HS.out.2.1))) (And.intro (aC.out.2.1 _ _ (aA.out.2.1 _ _ (Xc aB.out HS.out.2.2.1))) (And.intro (aC.out.2.1 _ _ (aA.out.2.1 _ _ (Xc aB.out HS.out.2.2.2.1))) ((aC.out.2.1 _ _ (aA.out.2.1 _ _ (Xc aB.out HS.out.2.2.2.2))))))))
   clear aA aC aK aI
   rotate_left
   refine Xuy (w0:=V) (.tmp 21) (.tmp 23) rfl (c:=c) (V.heap.size) cB.out rfl aD.out (Nr _) la f.locals.length lc f.locals B rfl (bF.out.ints (aD.out.mono aU.out)) aV.out.1 aW.out (fun g1 c1 w1 aO aG aM=>?_)
   have aK:=Lh aO
   have aI:=Lh aG
   have aA:=Lh aM
   clear aO aG aM
   refine ⟨.inl ⟨aA.out.2.1 _ _ (Xc aD.out HS.out.1),aA.out.2.1 _ _ (Xc aD.out HS.out.2.1),aA.out.2.1 _ _ (Xc aD.out HS.out.2.2.1),aA.out.2.1 _ _ (Xc aD.out HS.out.2.2.2.1),aA.out.2.1 _ _ (Xc aD.out HS.out.2.2.2.2)⟩,?_⟩
   refine X5 (by kernel_rfl) ?_
   go_simp
   refine ⟨⟨Xc (Xa w1 _) (aA.out.2.1 _ _ (Xc aD.out HS.out.1)),Xc (Xa w1 _) (aA.out.2.1 _ _ (Xc aD.out HS.out.2.1)),Xc (Xa w1 _) (aA.out.2.1 _ _ (Xc aD.out HS.out.2.2.1)),Xc (Xa w1 _) (aA.out.2.1 _ _ (Xc aD.out HS.out.2.2.2.1)),Xc (Xa w1 _) (aA.out.2.1 _ _ (Xc aD.out HS.out.2.2.2.2))⟩,?_⟩
   have aQ:Hid (Below V.heap.size V (w1.alloc (.cells #[] 3))):=Lh (aI.out.then (Xa _ _))
   refine X5 (by kernel_rfl) ?_
   refine Xuy (w0:=V) (.tmp 25) (.tmp 27) rfl (c:=c) (w1.heap.size) (Hn w1 _) rfl aQ.out (aI.out.size) sa f.stack.length sc f.stack B rfl (bH.out.ints (aQ.out.mono aU.out)) aV.out.2 aW.out (fun g2 c2 w2 aP aL aN=>?_)
   have bG:=Lh aP
   have bA:=Lh aL
   have aC:=Lh aN
   clear aP aL aN
   refine ⟨.inl ⟨aC.out.2.1 _ _ (Xc (Xa w1 _) (aA.out.2.1 _ _ (Xc aD.out HS.out.1))),aC.out.2.1 _ _ (Xc (Xa w1 _) (aA.out.2.1 _ _ (Xc aD.out HS.out.2.1))),aC.out.2.1 _ _ (Xc (Xa w1 _) (aA.out.2.1 _ _ (Xc aD.out HS.out.2.2.1))),aC.out.2.1 _ _ (Xc (Xa w1 _) (aA.out.2.1 _ _ (Xc aD.out HS.out.2.2.2.1))),aC.out.2.1 _ _ (Xc (Xa w1 _) (aA.out.2.1 _ _ (Xc aD.out HS.out.2.2.2.2)))⟩,?_⟩
   have F1:Hid (Xf w2.heap.size (mask w2 c) 1 Zd (.slice (some ⟨g1,0,none⟩) f.locals.length c1) f.locals):=Lh (aK.out.ups Xr9 (Nt (Xa w1 _).size aC.out.2.2) (Xvr ((Sub.below (Xa w1 _)).trans aC.out.2.1)))
   have FS:Hid (_):=Lh (And.intro (aC.out.2.1 _ _ (Xc (Xa w1 _) (aA.out.2.1 _ _ (Xc aD.out HS.out.1)))) (And.intro (aC.out.2.1 _ _ (Xc (Xa w1 _) (aA.out.2.1 _ _ (Xc aD.out HS.out.2.1)))) (And.intro (aC.out.2.1 _ _ (Xc (Xa w1 _) (aA.out.2.1 _ _ (Xc aD.out HS.out.2.2.1)))) (And.intro (aC.out.2.1 _ _ (Xc (Xa w1 _) (aA.out.2.1 _ _ (Xc aD.out HS.out.2.2.2.1)))) ((aC.out.2.1 _ _ (Xc (Xa w1 _) (aA.out.2.1 _ _ (Xc aD.out HS.out.2.2.2.2)))))))))
   clear aA aC aK aI
   clear aQ
   all_goals
    (refine' Z6 (by kernel_rfl) _ (fun wV bK=>?_) ?_;rotate_left;(clear bK;go_simp);(try with_reducible rfl);try simp only [Ap])
    refine X5 (by kernel_rfl) ?_
    go_simp
    refine ⟨⟨Xc (Xa _ _) FS.out.1,Xc (Xa _ _) FS.out.2.1,Xc (Xa _ _) FS.out.2.2.1,Xc (Xa _ _) FS.out.2.2.2.1,Xc (Xa _ _) FS.out.2.2.2.2⟩,?_⟩
    have bB:Hid (Below wr.heap.size wr (w2.alloc (.cells #[.int .i64 f.fn,.int .i64 f.pc,.slice (some ⟨g1,0,none⟩) f.locals.length c1,.slice (some ⟨g2,0,none⟩) f.stack.length c2] 129))):=Lh ((aS.out.then bA.out).then (Xa _ _))
    have bE:Hid (∀ b,(w2.alloc (.cells #[.int .i64 f.fn,.int .i64 f.pc,.slice (some ⟨g1,0,none⟩) f.locals.length c1,.slice (some ⟨g2,0,none⟩) f.stack.length c2] 129)).heap.size≤b→c b=0):=Lh (fun b hb=>aE.out.hi b (Nt bB.out.size hb))
    refine X5 (by kernel_rfl) ?_
    refine Xsy (fun t=>t=1) (.tmp 16) (.tmp 30) 47 129 rfl Tryz.underlying47 Vb rfl (by decide) (by decide) (c:=c) (tag:=1) (v:=.slice oa k aF) (n:=k) (xs:=xs) rfl (aE.out.row.keep (T:=NO) (Chg.of_below (c:=c) bB.out (fun h=>h)) (fun h=>h)) ⟨w2.heap.size,0,none⟩ 1 1 [.int .i64 f.fn,.int .i64 f.pc,.slice (some ⟨g1,0,none⟩) f.locals.length c1,.slice (some ⟨g2,0,none⟩) f.stack.length c2] rfl rfl (fun j u hu=>(Xso w2 _ _ j).trans (by simpa using hu)) (by simp [Value.oneCell']) (by decide) (by omega) rfl (by decide) bE.out (fun g3 bJ w9 c9 aZ hC bW cH=>?_)
    have bY:=aE.out.next HF.out cA.out (aS.out.then bA.out) F1.out bG.out hC bW aZ
    have aY:¬c wr.heap.size=1:=by rw [aE.out.hi _ (Nr _)];decide
    have bL:¬c (w.heap.size+1+1)=1:=by rw [aE.out.cbo];decide
    have q0:=hC.cell (Xc (Xa _ _) FS.out.1) aY
    have q1:=hC.cell (Xc (Xa _ _) FS.out.2.1) aY
    have q2:=hC.cell (Xc (Xa _ _) FS.out.2.2.1) aY
    have q3:=hC.cell (Xc (Xa _ _) FS.out.2.2.2.1) aY
    have q4:=hC.cell (Xc (Xa _ _) FS.out.2.2.2.2) bL
    have qf:w9.frozen? ⟨w.heap.size+1+1,0,none⟩=false:=by
     have bX:=(La aE.out.box)
     exact hC.frozen (Nl bX bB.out.size) (((Chg.of_below bB.out (fun h=>h):Chg NO c c _ _)).frozen bX (Fz aE.out.box) (fun h=>h)) bL
    refine ⟨.inl ⟨q0,q1,q2,q3,q4⟩,?_⟩
    have cF:=Lh bY
    clear aZ hC bW cH bY aY bL q0 q1 q2 q3
    refine X5 (by kernel_rfl) ?_
    go_simp
    refine Xr3 ?_
    obtain ⟨W9,bT⟩:∃ u,u=w9.setCell ⟨w.heap.size+1+1,0,none⟩ (.slice (some ⟨g3,0,none⟩) (k+1) bJ):=⟨_,rfl⟩
    have aR:=cF.out
    rw [←bT] at aR ⊢
    have cE:=Lh aR
    clear aR bT q4 qf
    go_wp2_with fail
    go_roundw
    case rel=>exact ⟨k+1,by omega,by go_num,Lh ⟨_,_,_,_,cE.out⟩⟩
    case measure=>simp [intOf];omega
  ·obtain rfl:k=n:=by omega
   have bM:Hid (Xzg m w (.returned (Xi (.slice oa k aF) m)) (Yp wr (w.heap.size+1) (.slice oa k aF) m)):=Lh (by
    have h:=aE.out
    rw [HN.out] at h ⊢
    exact h.post)
   obtain ⟨k0,k1,k2,k3,k4,k5,k6,k7,k8⟩:=Xy2 aE.out.box
   have aG:=aE.out.res
   obtain ⟨p1,-⟩:=Xz aG (.slice oa k aF) m
   have Q1:=Lh p1
   obtain ⟨r0,r1,r2,r3,r4,r5,r6,r7,r8⟩:=Xy2 aG
   obtain ⟨q0,q1,q2,q3,q4,q5,q6,q7,q8⟩:=X37 aG
   have y1:=(La aG)
   have y2:=(La aE.out.box)
   clear aG p1
   go_wp2_with fail
   exact bodyPost_ret (v:=Xi (.slice oa k aF) m) (Xn (p:=2) rfl Q1.out _ rfl) rfl bM.out
