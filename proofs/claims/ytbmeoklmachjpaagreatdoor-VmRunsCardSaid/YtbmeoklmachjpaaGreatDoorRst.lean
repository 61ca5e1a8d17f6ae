/- The contract of the reference's Start. -/
import Derived.Test.YtbmeoklmachjpaaGreatDoorRz
import Derived.Test.YtbmeoklmachjpaaGreatDoorRe
set_option maxHeartbeats 2000000
set_option maxRecDepth 100000
set_option linter.unusedVariables false
set_option linter.unusedSimpArgs false
namespace Go.Proofs.YtbmeoklmachjpaaGreatDoor
open Go.RowKit
theorem Xje {w:World} {bl:Nat} {l:List Int} (h:w.heap[bl]?=some (.cells (Xx l) 3 (0,0))) (hl:l.length≤1000000) (h64:∀ n∈l,in64 n):Yv w (.slice (some ⟨bl,0,none⟩) l.length l.length) l [bl]:=
 ⟨⟨by simp,.inr ⟨bl,l.length,_,rfl,Nat.zero_le _,h,Nat.le_refl _,by unfold maxLen;omega,by simp [Xx],by simp only [Xx,Nat.mul_one];exact List.take_of_length_le (by simp)⟩⟩,rfl,h64⟩
theorem Xmw {w:World} {fb bl n:Nat} {k:Int} {l:List Int} (hf:w.heap[fb]?=some (.cells #[.int .i64 k,.int .i64 0,.slice (some ⟨bl,0,none⟩) n n,.slice none 0 0] 83 (0,0)))
  (hl:w.heap[bl]?=some (.cells (Xx l) 3 (0,0))) (hn:n=l.length) (hll:l.length≤1000000) (h64:∀ n∈l,in64 n) (h1:in64 k) (n3:fb≠bl):Z9 w (.slice (some ⟨fb,0,none⟩) 1 1) [⟨k,0,l,[]⟩] [fb,bl]:=by
 subst hn
 refine ⟨[.int .i64 k,.int .i64 0,.slice (some ⟨bl,0,none⟩) l.length l.length,.slice none 0 0],[bl],?_,?_,rfl,by simp [n3]⟩
 ·exact ⟨rfl,.inr ⟨fb,1,_,rfl,Nat.zero_le _,hf,Nat.le_refl _,by unfold maxLen;omega,rfl,rfl⟩⟩
 ·exact ⟨_,_,[],[bl],[],[],rfl,Xje hl hll h64,⟨World.ownsRow_nil _ _ _ _,rfl,by simp⟩,h1,⟨by show (_:Int)≤0;omega,by show (0:Int)≤_;omega⟩,⟨rfl,rfl⟩,by simp⟩
/-- a call that is given rightly -/
theorem Xgv {c:Cod} {x:Cal} {fuel:Int} (h:Yd c x fuel=0):(0≤fuel∧fuel≤1048576)∧∃ (k:Nat) (y:Fun),Q8 c x.proc=k∧c.funcs[k]?=some y∧(x.args.length:Int)=y.params∧∀ n∈x.args,isV n:=by
 unfold Yd at h
 split at h
 ·cases h
 ·rename_i hr
  refine ⟨by omega,?_⟩
  split at h
  ·cases h
  ·rename_i y hy
   split at h
   ·cases h
   ·rename_i hp
    split at h
    ·cases h
    ·rename_i hl
     split at h
     ·cases h
     ·rename_i hv
      refine ⟨(Q8 c x.proc).toNat,y,by omega,hy,by simpa using hl,fun n hn=>?_⟩
      rw [Bool.not_eq_true,List.any_eq_false] at hv
      have:=hv n hn
      simp at this
      exact Ye.1 this
theorem Xg9 {c:Cod} (hs:Xv c) {x:Cal} {fuel:Int} (hg:Yd c x fuel=0):∃ (k q:Nat) (y:Fun),Q8 c x.proc=k∧c.funcs[k]?=some y∧y.params=x.args.length∧y.locals=x.args.length+q∧x.args.length+q≤1000∧
  Zo c x fuel=⟨[⟨k,0,x.args++List.replicate q 0,[]⟩],noR,fuel,0,0⟩∧Ja c ⟨[⟨k,0,x.args++List.replicate q 0,[]⟩],noR,fuel,0,0⟩ [] ⟨k,0,x.args++List.replicate q 0,[]⟩∧∀ n∈x.args++List.replicate q 0,isV n:=by
 obtain ⟨hf,k,y,hi,hy,hl,hv⟩:=Xgv hg
 have hfo:=hs.fok hy
 unfold Zr at hfo
 obtain ⟨q,hq⟩:∃ q:Nat,q=(y.locals - y.params).toNat:=⟨_,rfl⟩
 have hloc:∀ n∈x.args++List.replicate q 0,isV n:=fun n hn=>by
  rw [List.mem_append,List.mem_replicate] at hn
  rcases hn with h|h
  ·exact hv n h
  ·rw [h.2];unfold isV;omega
 refine ⟨k,q,y,hi,hy,hl.symm,by omega,by omega,?_,⟨rfl,⟨y,⟨by show (0:Int)≤(k:Int);omega,by show c.funcs[(k:Int).toNat]?=some y;rw [Int.toNat_natCast];exact hy,by show (0:Int)≤0;omega,by show ((x.args++List.replicate q 0).length:Int)=y.locals;rw [List.length_append,List.length_replicate];omega,hloc,by simp⟩,Reach.zero c y⟩,trivial,by simp,⟨hf.1,by show (0:Int)≤0;omega,by show (0:Int)≤100000;omega,by show (0:Int)≤0;omega,by show (0:Int)+(fuel*100001+(100000 - 0))≤_;omega⟩⟩,hloc⟩
 unfold Zo
 rw [hi]
 simp only [Int.toNat_natCast,hy,Option.map_some,Option.getD_some]
 rw [←hq];rfl
def Xdj (c:Cod) (x:Cal) (fuel:Int) (w:World) (e:Ending) (w':World):Prop:=∃ m' fv,Zm c (Zo c x fuel) m'∧e=.returned (Xi fv m')∧Qq w fv m' w'
theorem Xdg {W w3 w9:World} {G F9:List Nat} (hb:Below W.heap.size W w3) (hM:Xp G F9 w3 w9) (hG:∀ b∈G,W.heap.size≤b):Xp [] F9 W w9:=
 ⟨hM.os.trans hb.os,hM.tape.trans hb.tape,hM.output.trans hb.output,Nat.le_trans hb.size hM.size,fun k hk _=>by rw [hM.block k (Nat.lt_of_lt_of_le hk hb.size) (fun e=>by have:=hG k e;omega),hb.block k hk],fun b hb'=>by
  rcases hM.new b hb' with h|h
  ·exact .inr (hG b h)
  ·exact .inr (Nat.le_trans hb.size h)⟩
theorem Xjx {c:Cod} {x:Cal} {fuel:Int} {w w':World} {m':Mch} {fv:Value} (hR:Zm c (Zo c x fuel) m') (h:Qh w [] m' (.returned (Xi fv m')) w'):Xdj c x fuel w (.returned (Xi fv m')) w':=by
 obtain ⟨fv2,F9,he,hV,hM⟩:=h
 refine ⟨m',fv2,hR,he,F9,hV,fun b hb=>?_,hM.below (by simp) (Nat.le_refl _)⟩
 rcases hM.new b hb with h|h
 ·simp at h
 ·exact h
theorem Xji (c:Cod) (cv:Value) (x:Cal) (xv:Value) (fuel:Int) (B:Nat) (w:World) (hB:B≤w.heap.size) (hc:Yj B w cv c) (hx:J8 B w xv x) (hs:Xv c) (hsm:Zb c) (hgv:Yd c x fuel=0) :
  Calls Tryz.prog 14 #[cv,xv,.int .i64 fuel] w (Xdj c x fuel w):=by
 obtain ⟨fv,gv,rfl,hf,hg,hg64⟩:=id hc
 obtain ⟨fa,fc,rfl⟩:=hf.form
 obtain ⟨ga,gc,rfl⟩:=hg.form
 obtain ⟨av,rfl,hxs,hxp⟩:=hx
 obtain ⟨xa,xc,rfl⟩:=hxs.form
 obtain ⟨k,q,y,hi,hy,hpy,hqy,hq2,hsM,hgood,hloc⟩:=Xg9 hs hgv
 obtain ⟨W,hW⟩:∃ W,W=((w.alloc (.cells #[.slice fa c.fields.length fc,.int .i64 c.globals,.slice ga c.funcs.length gc] 25)).alloc (.cells #[.string x.proc,.slice xa x.args.length xc] 27)).alloc (.cells (Xb (.slice none 0 0) Xl) 36):=⟨_,rfl⟩
 have hWb:Hid (Below w.heap.size w W):=by rw [hW];exact Lh (((Xa _ _).then (Xa _ _)).then (Xa _ _))
 have hsz:Hid (W.heap.size=w.heap.size+3):=by rw [hW];exact Lh (by simp)
 have b0:Xo W w.heap.size [.slice fa c.fields.length fc,.int .i64 c.globals,.slice ga c.funcs.length gc]:=by rw [hW];exact (Xd.alloc _).alloc _
 have b1:Xo W (w.heap.size+1) [.string x.proc,.slice xa x.args.length xc]:=by rw [hW];exact K1.alloc _
 have b2:W.heap[w.heap.size+1+1]?=some (.cells (Xb (.slice none 0 0) Xl) 36 (0,0)):=by
  rw [hW]
  have:=heap_alloc_new ((w.alloc (.cells #[.slice fa c.fields.length fc,.int .i64 c.globals,.slice ga c.funcs.length gc] 25)).alloc (.cells #[.string x.proc,.slice xa x.args.length xc] 27)) (.cells (Xb (.slice none 0 0) Xl) 36)
  simpa using this
 have B2:=Lh b2
 have i0:=b0 0 _ rfl
 have i1:=b0 1 _ rfl
 have i2:=b0 2 _ rfl
 have x0:=b1 0 _ rfl
 have x1:=b1 1 _ rfl
 have hWB:B≤W.heap.size:=Nat.le_trans hB hWb.out.size
 have HCd:Hid (Yj B W.drew (.agg #[.slice fa c.fields.length fc,.int .i64 c.globals,.slice ga c.funcs.length gc]) c):=Lh ((hc.below (hWb.out.mono hB)).below (Xh (Below.refl _ _) 1))
 have HXd:Hid (Xf B W.drew 1 Zd (.slice xa x.args.length xc) x.args):=Lh ((hxs.ints (hWb.out.mono hB)).ints (Xh (Below.refl _ _) 1))
 have HGd:Hid (Xf B W.drew 5 (Zl B) (.slice ga c.funcs.length gc) c.funcs):=Lh ((hg.funs (hWb.out.mono hB)).funs (Xh (Below.refl _ _) 1))
 have HI:Hid (Qw (fun f=>Zt f.name x.proc) c.funcs=(k:Int)):=Lh hi
 have HY:=Lh hy
 have HPY:=Lh hpy
 have HQY:=Lh hqy
 have HSM:=Lh hsM
 have HGOOD:=Lh hgood
 have HLOC:=Lh hloc
 have HGV:=Lh hgv
 have hfl:c.funcs.length≤1000000:=by have:=hs.1.2.2.2.2.1;omega
 have hk0:(0:Int)≤(k:Int):=Int.natCast_nonneg _
 have hkl:k<c.funcs.length:=(Ll hy)
 have hll:(x.args++List.replicate q 0).length=x.args.length+q:=by simp
 have HLL:=Lh hll
 have z0:w.heap.size<W.heap.size:=by have:=hsz.out;omega
 have z1:w.heap.size+1<W.heap.size:=by have:=hsz.out;omega
 clear hf hg hxs hc b0 b1 b2 hi hy hpy hqy hsM hgood hloc hgv hll
 unfold Xb Xl at hW
 dsimp only at hW
 go_enter Tryz.func14,Tryz.ntmps14
 go_upto_region 1 with fail
 rw [←hW]
 have HW:=Lh hW
 clear hW
 go_region_held3 (fun V=>V.cell? ⟨w.heap.size,0,none⟩=some (.slice fa c.fields.length fc)∧V.cell? ⟨w.heap.size,1,none⟩=some (.int .i64 c.globals)∧V.cell? ⟨w.heap.size,2,none⟩=some (.slice ga c.funcs.length gc)∧V.cell? ⟨w.heap.size+1,0,none⟩=some (.string x.proc)∧V.cell? ⟨w.heap.size+1,1,none⟩=some (.slice xa x.args.length xc))
  (first|with_reducible exact ⟨n0,n1,n2,u0,u1⟩|with_reducible exact ⟨p0,p1,p2,s0,s1⟩|with_reducible exact ⟨l0,l1,l2,v0,v1⟩|with_reducible exact ⟨j0,j1,j2,y0,y1⟩|exact ⟨g0,g1,g2,h0,h1⟩|exact ⟨i0,i1,i2,x0,x1⟩)
  (first
   | (go_at_call 35;refine (Xay c _ x.proc B W.drew hWB HCd.out).mono ?_;rintro e w1 ⟨rfl,hb1⟩;rw [HI.out];have j0:=Xc hb1 (show W.drew.cell? _=_ from i0);have j1:=Xc hb1 (show W.drew.cell? _=_ from i1);have j2:=Xc hb1 (show W.drew.cell? _=_ from i2);have y0:=Xc hb1 (show W.drew.cell? _=_ from x0);have y1:=Xc hb1 (show W.drew.cell? _=_ from x1);have HB1:Hid (Below W.heap.size W w1):=Lh ((Xh (Below.refl _ _) 1).trans hb1);have HX1:=Lh (HXd.out.ints (hb1.mono hWB));have HG1:=Lh (HGd.out.funs (hb1.mono hWB));clear hb1)
   | (go_at_call 39;refine (Xeb fa ga xa _ fc gc xc c.globals B B w1 (Nat.le_trans hWB HB1.out.size) c.funcs HG1.out k y HY.out x.args (Nat.le_trans hWB HB1.out.size) HX1.out q HQY.out hq2 hfl).mono ?_;rintro e w2 ⟨bl,rfl,hbl,hble,hb2⟩;have l0:=Xc hb2 j0;have l1:=Xc hb2 j1;have l2:=Xc hb2 j2;have v0:=Xc hb2 y0;have v1:=Xc hb2 y1;have HB2:=Lh (HB1.out.then hb2);have HBL2:=Lh hbl;have hbls:bl<w2.heap.size:=(La hbl);have HG2:=Lh (HG1.out.funs (hb2.mono (Nat.le_trans hWB HB1.out.size)));have hble1:W.heap.size≤bl:=Nat.le_trans HB1.out.size hble;have HW3:Hid (Below W.heap.size W (w2.alloc (.cells #[.int .i64 (k:Int),.int .i64 0,.slice (some ⟨bl,0,none⟩) (x.args.length+q) (x.args.length+q),.slice none 0 0] 83))):=Lh (HB2.out.then (Xa _ _));have HV3:Hid (Z9 (w2.alloc (.cells #[.int .i64 (k:Int),.int .i64 0,.slice (some ⟨bl,0,none⟩) (x.args.length+q) (x.args.length+q),.slice none 0 0] 83)) (.slice (some ⟨w2.heap.size,0,none⟩) 1 1) [⟨k,0,x.args++List.replicate q 0,[]⟩] [w2.heap.size,bl]):=Lh (Xmw (heap_alloc_new _ _) (by rw [Below.heap_alloc _ _ _ hbls];exact HBL2.out) HLL.out.symm (by rw [HLL.out];omega) (fun n hn=>(HLOC.out n hn).in64) ⟨by omega,by omega⟩ (by omega));have HG3:Hid (Xf B (w2.alloc (.cells #[.int .i64 (k:Int),.int .i64 0,.slice (some ⟨bl,0,none⟩) (x.args.length+q) (x.args.length+q),.slice none 0 0] 83)) 5 (Zl B) (.slice ga c.funcs.length gc) c.funcs):=Lh (HG2.out.funs ((Xa _ _).mono (Nat.le_trans hWB HB2.out.size)));have hws2:W.heap.size≤w2.heap.size:=HB2.out.size;have p0:=Xc (Xa w2 (.cells #[.int .i64 (k:Int),.int .i64 0,.slice (some ⟨bl,0,none⟩) (x.args.length+q) (x.args.length+q),.slice none 0 0] 83)) l0;have p1:=Xc (Xa w2 (.cells #[.int .i64 (k:Int),.int .i64 0,.slice (some ⟨bl,0,none⟩) (x.args.length+q) (x.args.length+q),.slice none 0 0] 83)) l1;have p2:=Xc (Xa w2 (.cells #[.int .i64 (k:Int),.int .i64 0,.slice (some ⟨bl,0,none⟩) (x.args.length+q) (x.args.length+q),.slice none 0 0] 83)) l2;have s0:=Xc (Xa w2 (.cells #[.int .i64 (k:Int),.int .i64 0,.slice (some ⟨bl,0,none⟩) (x.args.length+q) (x.args.length+q),.slice none 0 0] 83)) v0;have s1:=Xc (Xa w2 (.cells #[.int .i64 (k:Int),.int .i64 0,.slice (some ⟨bl,0,none⟩) (x.args.length+q) (x.args.length+q),.slice none 0 0] 83)) v1;clear hbl hb2)
   | (go_at_call 38;refine (Xd8 (m:=⟨[⟨k,0,x.args++List.replicate q 0,[]⟩],noR,fuel,0,0⟩) hs hsm fa ga _ fc gc c.globals HGOOD.out B (Nat.le_trans hWB HW3.out.size) HG3.out HV3.out (fun b hb=>by simp at hb;omega)).mono ?_;rintro e w9 ⟨m',hR,fv9,F9,rfl,hV9,hM9⟩;obtain ⟨a9,c9,rfl⟩:=hV9.form;have HR9:=Lh hR;have hMW:=Xdg HW3.out hM9 (fun b hb=>by simp at hb;omega);have HV9:=Lh hV9;have hMR:=hMW.wide (F:=[w.heap.size+1]) (F':=F9) (by simp) (fun b hb=>.inl hb);obtain ⟨t1,t2,t3⟩:=J2 (R:=w.heap.size+1+1) (bm:=w.heap.size+1) (F:=[]) hWb.out hV9 hMR (fun b hb=>hb) (by simp) (by omega) (by omega) (by omega) (by have:=hsz.out;omega) B2.out;obtain ⟨r0,r1,r2,r3,r4,r5,r6,r7,r8⟩:=Xq t1;obtain ⟨q0,q1,q2,q3,q4,q5,q6,q7,q8⟩:=Xu t1;have zR:=(La t1);obtain ⟨n9,hn9⟩:∃ u,u=m'.frames.length:=⟨_,rfl⟩;rw [←hn9] at t2 t3 ⊢;have HN9:=Lh hn9;have Q2:=Lh t2;have Q3:=Lh t3;have n0:=hMW.cell i0 (by simp);have n1:=hMW.cell i1 (by simp);have n2:=hMW.cell i2 (by simp);have u0:=hMW.cell x0 (by simp);have u1:=hMW.cell x1 (by simp);have hput:=(Xz t1 (.slice a9 n9 c9) m').2;have g0:=hput.cell n0 (by simp;omega);have g1:=hput.cell n1 (by simp;omega);have g2:=hput.cell n2 (by simp;omega);have h0:=hput.cell u0 (by simp);have h1:=hput.cell u1 (by simp);clear hput;clear hR hV9 hM9 hMW hMR t1 t2 t3 hn9;unfold Xi Xb))
 all_goals
  go_wp2_with fail
  exact bodyPost_ret (v:=Xi (.slice a9 n9 c9) m') (Xn (p:=6) rfl Q2.out _ rfl) rfl (Xjx (by rw [HSM.out];exact HR9.out) Q3.out)
end Go.Proofs.YtbmeoklmachjpaaGreatDoor
