/- Valid of a machine with frames. MADE BY wip/gen_vld.py -/
import Derived.Test.YtbmeoklmachjpaaGreatDoorVld
import Derived.Deep.RegionHeld3
import Derived.Outline
set_option maxHeartbeats 8000000
set_option maxRecDepth 1000000
set_option linter.unusedVariables false
set_option linter.unusedSimpArgs false
namespace Go.Proofs.YtbmeoklmachjpaaGreatDoor
open Go.RowKit
theorem Xgf (W:World):(Instr.makeMap 94 none).run Tryz.prog W=.ok (.map (some W.heap.size)) (W.alloc (.map #[] 0)):=by simp [Instr.makeMap]
theorem Xkr {l:List Int} (h:l.any (fun n=>!X1 n)=false):∀ n∈l,isV n:=fun n hn=>by
 rw [List.any_eq_false] at h
 have:=h n hn
 simp at this
 exact Ye.1 this
theorem Xkh {l:List Int} (h:l.any (fun n=>!X1 n)=true):¬∀ n∈l,isV n:=fun hh=>by
 rw [List.any_eq_true] at h
 obtain ⟨n,hn,h⟩:=h
 have:=Ye.2 (hh n hn)
 rw [this] at h
 cases h
theorem Xjn (c:Cod) (fs:List Fra) (kind node field value fault fuel compares idle:Int) (fa ga ma:Option Addr) (fc gc mc:Nat) (B:Nat) (w:World) (hL:Qa w) (hB:B≤w.heap.size) (hc:Yj B w (.agg #[.slice fa c.fields.length fc,.int .i64 c.globals,.slice ga c.funcs.length gc]) c) (hm:Xf B w 4 (Qp B) (.slice ma fs.length mc) fs) (hs:Xv c) (hsm:Zb c) (h0:¬fuel<0) (h1:¬1048576<fuel) (h2:¬compares<0) (h3:¬1099511627776<compares) (h4:¬idle<0) (h5:¬100000<idle) (h6:¬200<(fs.length:Int)) (hne:0<fs.length) :
  Calls Tryz.prog 17 #[.agg #[.slice fa c.fields.length fc,.int .i64 c.globals,.slice ga c.funcs.length gc],.agg #[.slice ma fs.length mc,.int .i64 kind,.int .i64 node,.int .i64 field,.int .i64 value,.int .i64 fault,.int .i64 fuel,.int .i64 compares,.int .i64 idle]] w fun e w'=>e=.returned (.bool (pB (∀ k f,fs[k]?=some f→Yx c fs ⟨kind,node,field,value,fault⟩ k f)))∧Below w.heap.size w w':=by
 have d0:decide (fuel<0)=false:=by simp;omega
 have d1:decide (1048576<fuel)=false:=by simp;omega
 have d2:decide (compares<0)=false:=by simp;omega
 have d3:decide (1099511627776<compares)=false:=by simp;omega
 have d4:decide (idle<0)=false:=by simp;omega
 have d5:decide (100000<idle)=false:=by simp;omega
 have d6:decide (200<fs.length)=false:=by simp;omega
 have hz0:¬fs.length=0:=by omega
 have hz1:((fs.length:Int) == 0)=false:=by rw [beq_eq_false_iff_ne];omega
 have d6i:decide ((200:Int)<(fs.length:Int))=false:=by simp;omega
 have HM:=Lh hm
 have hfl40:c.funcs.length≤40:=hs.1.2.2.2.2.1
 have hmm:=Xgf
 clear hm
 obtain ⟨W,hW⟩:∃ W,W=(w.alloc (.cells #[.slice fa c.fields.length fc,.int .i64 c.globals,.slice ga c.funcs.length gc] 25)).alloc (.cells #[.slice ma fs.length mc,.int .i64 kind,.int .i64 node,.int .i64 field,.int .i64 value,.int .i64 fault,.int .i64 fuel,.int .i64 compares,.int .i64 idle] 36):=⟨_,rfl⟩
 have hWb:Hid (Below w.heap.size w W):=by rw [hW];exact (Xa _ _).then (Xa _ _)
 have hsz:Hid (W.heap.size=w.heap.size+2):=by rw [hW];exact Lh (by simp)
 have b0:Hid (Xo W w.heap.size [.slice fa c.fields.length fc,.int .i64 c.globals,.slice ga c.funcs.length gc]):=by rw [hW];exact Lh (Xd.alloc _)
 have b1:Hid (Xo W (w.heap.size+1) [.slice ma fs.length mc,.int .i64 kind,.int .i64 node,.int .i64 field,.int .i64 value,.int .i64 fault,.int .i64 fuel,.int .i64 compares,.int .i64 idle]):=by
  rw [hW]
  have:=@Xd (w.alloc (.cells #[.slice fa c.fields.length fc,.int .i64 c.globals,.slice ga c.funcs.length gc] 25)) #[.slice ma fs.length mc,.int .i64 kind,.int .i64 node,.int .i64 field,.int .i64 value,.int .i64 fault,.int .i64 fuel,.int .i64 compares,.int .i64 idle] 36
  exact Lh (by simpa using this)
 have HC:=Lh hc
 have hcW:=Lh (hc.below (hWb.out.mono hB))
 have HL:=Lh hL
 have hWB:B≤W.heap.size:=by have:=hsz.out;omega
 clear hc hL
 have i0:=b0.out 0 _ rfl
 have i1:=b0.out 1 _ rfl
 have i2:=b0.out 2 _ rfl
 have m0:=b1.out 0 _ rfl
 have m1:=b1.out 1 _ rfl
 have m2:=b1.out 2 _ rfl
 have m3:=b1.out 3 _ rfl
 have m4:=b1.out 4 _ rfl
 have m5:=b1.out 5 _ rfl
 have m6:=b1.out 6 _ rfl
 have m7:=b1.out 7 _ rfl
 have m8:=b1.out 8 _ rfl
 have z0:w.heap.size<W.heap.size:=by have:=hsz.out;omega
 have z1:w.heap.size+1<W.heap.size:=by have:=hsz.out;omega
 go_enter Tryz.func17,Tryz.ntmps17
 go_upto_region 1 with fail
 rw [←hW]
 have HW:=Lh hW
 clear hW
 go_wp2_with fail
 refine (Jm c _ B W (HL.out.below hWb.out) hWB hcW.out).mono ?_
 rintro e w1 ⟨rfl,hb1⟩
 rw [Zg hs]
 have i0:=Xc hb1 i0
 have i1:=Xc hb1 i1
 have i2:=Xc hb1 i2
 have m0:=Xc hb1 m0
 have m1:=Xc hb1 m1
 have m2:=Xc hb1 m2
 have m3:=Xc hb1 m3
 have m4:=Xc hb1 m4
 have m5:=Xc hb1 m5
 have m6:=Xc hb1 m6
 have m7:=Xc hb1 m7
 have m8:=Xc hb1 m8
 have z0:=Bl i0
 have z1:=Bl m0
 have HB1:=Lh (hWb.out.then hb1)
 clear hb1
 have hfin:Hid (∀ k f,fs[k]?=some f→¬Yx c fs ⟨kind,node,field,value,fault⟩ k f→pB (∀ k f,fs[k]?=some f→Yx c fs ⟨kind,node,field,value,fault⟩ k f)=false):=Lh (fun k f hf hn=>K8 (fun h=>hn (h k f hf)))
 obtain ⟨mb,mo,rfl,hmbB,hME⟩:∃ mb mo,ma=some ⟨mb,mo,none⟩∧mb<B∧∀ (i:Nat) f,fs[i]?=some f→Qp B w mb (mo+i*4) f:=by
  obtain ⟨a0,cap0,he0,hl1,hl2,hl3,hE⟩:=HM.out
  obtain ⟨rfl,rfl⟩:ma=a0∧mc=cap0:=by simpa using he0
  rcases hE with h0|⟨mb,mo,rfl,hb,hE⟩
  ·rw [h0] at hne;simp at hne
  ·exact ⟨mb,mo,rfl,hb,hE⟩
 have HME:=Lh hME
 obtain ⟨bk,hbk⟩:∃ b,b=w1.heap.size:=⟨_,rfl⟩
 have HBK:=Lh hbk
 obtain ⟨W1,hW1⟩:∃ W,W=w1.alloc (.map #[] 0):=⟨_,rfl⟩
 have hK0:Hid (Vy c bk W1 bk #[] 0):=Lh ⟨by rw [hW1,hbk];exact heap_alloc_new _ _,by simp⟩
 have hb11:Hid (Below bk w1 W1):=Lh (by rw [hW1,hbk];exact Xa _ _)
 have hwbk:w.heap.size+1<bk:=by rw [hbk];exact z1
 clear hME
 go_wp2_with fail
 rw [←hW1,← hbk]
 have HW1:=Lh hW1
 clear hW1 hbk
 go_loopg [91] (fs.length+1) (fun gk i wr=>∃ k:Nat,k≤fs.length∧i=.int .i64 k∧fs.length - k<gk∧Hid (Below bk w1 wr)∧Hid (∃ es clock,Vy c bk wr bk es clock)∧Hid (∀ j f,j<k→fs[j]?=some f→Yx c fs ⟨kind,node,field,value,fault⟩ j f))
 case atStart=>exact ⟨0,Nat.zero_le _,rfl,by omega,hb11,Lh ⟨_,_,hK0.out⟩,Lh (fun j f hj=>by omega)⟩
 case round=>
  obtain ⟨k,hk,rfl,hgk,hbr,hkn,hall⟩:=hrel
  have HBR:Hid (Below w.heap.size w wr):=Lh (HB1.out.trans (hbr.out.mono (by omega)))
  have i0:=(hbr.out.cell (p:=⟨w.heap.size,0,none⟩) (show w.heap.size<bk by omega)).trans i0
  have i1:=(hbr.out.cell (p:=⟨w.heap.size,1,none⟩) (show w.heap.size<bk by omega)).trans i1
  have i2:=(hbr.out.cell (p:=⟨w.heap.size,2,none⟩) (show w.heap.size<bk by omega)).trans i2
  have m0:=(hbr.out.cell (p:=⟨w.heap.size+1,0,none⟩) (show w.heap.size+1<bk by omega)).trans m0
  have m1:=(hbr.out.cell (p:=⟨w.heap.size+1,1,none⟩) (show w.heap.size+1<bk by omega)).trans m1
  have m2:=(hbr.out.cell (p:=⟨w.heap.size+1,2,none⟩) (show w.heap.size+1<bk by omega)).trans m2
  have m3:=(hbr.out.cell (p:=⟨w.heap.size+1,3,none⟩) (show w.heap.size+1<bk by omega)).trans m3
  have m4:=(hbr.out.cell (p:=⟨w.heap.size+1,4,none⟩) (show w.heap.size+1<bk by omega)).trans m4
  have m5:=(hbr.out.cell (p:=⟨w.heap.size+1,5,none⟩) (show w.heap.size+1<bk by omega)).trans m5
  have m6:=(hbr.out.cell (p:=⟨w.heap.size+1,6,none⟩) (show w.heap.size+1<bk by omega)).trans m6
  have m7:=(hbr.out.cell (p:=⟨w.heap.size+1,7,none⟩) (show w.heap.size+1<bk by omega)).trans m7
  have m8:=(hbr.out.cell (p:=⟨w.heap.size+1,8,none⟩) (show w.heap.size+1<bk by omega)).trans m8
  have z0:=Bl i0
  have z1:=Bl m0
  obtain ⟨es,clock,hKn⟩:=hkn.out
  have HKN:=Lh hKn
  have hbkr:bk<wr.heap.size:=(La hKn.map)
  clear hkn hKn
  by_cases hlt:k<fs.length
  ·obtain ⟨f,hf⟩:∃ f,fs[k]?=some f:=⟨_,List.getElem?_eq_getElem hlt⟩
   have HF:=Lh hf
   have hNO:Hid (¬Yx c fs ⟨kind,node,field,value,fault⟩ k f→pB (∀ k f,fs[k]?=some f→Yx c fs ⟨kind,node,field,value,fault⟩ k f)=false):=Lh (hfin.out k f hf)
   obtain ⟨q0,q1,⟨lv,q2,q2s⟩,⟨sv,q3,q3s⟩,q64,p64⟩:=(HME.out k f hf).below (HBR.out.mono hB) hmbB
   have HLV:=Lh q2s
   have HSV:=Lh q3s
   obtain ⟨la,lc,rfl⟩:=q2s.form
   obtain ⟨sa,sc,rfl⟩:=q3s.form
   have hll:f.locals.length≤140737488355328:=by obtain ⟨_,_,_,h,_⟩:=q2s;exact h
   have hsl:f.stack.length≤140737488355328:=by obtain ⟨_,_,_,h,_⟩:=q3s;exact h
   have hi0:(0:Int)≤(k:Int):=Int.natCast_nonneg _
   have hi1:(k:Int)<(fs.length:Int):=by omega
   have zq:=Bl q0
   obtain ⟨W2,hW2⟩:∃ W,W=wr.alloc (.cells #[.int .i64 f.fn,.int .i64 f.pc,.slice la f.locals.length lc,.slice sa f.stack.length sc] 83):=⟨_,rfl⟩
   have hb2:Below wr.heap.size wr W2:=by rw [hW2];exact Xa _ _
   have HB2:=Lh hb2
   have hc2:Hid (Xo W2 wr.heap.size [.int .i64 f.fn,.int .i64 f.pc,.slice la f.locals.length lc,.slice sa f.stack.length sc]):=by rw [hW2];exact Lh Xd
   clear hf q2s q3s
   unfold in64 at q64 p64
   go_upto_region 16 with fail
   rw [←hW2]
   have HW2:=Lh hW2
   have i0:=Xc hb2 i0
   have i1:=Xc hb2 i1
   have i2:=Xc hb2 i2
   have m0:=Xc hb2 m0
   have m1:=Xc hb2 m1
   have m2:=Xc hb2 m2
   have m3:=Xc hb2 m3
   have m4:=Xc hb2 m4
   have m5:=Xc hb2 m5
   have m6:=Xc hb2 m6
   have m7:=Xc hb2 m7
   have m8:=Xc hb2 m8
   have n0:=hc2.out 0 _ rfl
   have n1:=hc2.out 1 _ rfl
   have n2:=hc2.out 2 _ rfl
   have n3:=hc2.out 3 _ rfl
   have z0:=Bl i0
   have z1:=Bl m0
   have zn:=Bl n0
   have HBW2:=Lh (HBR.out.then hb2)
   have HK2:=Lh (HKN.out.keep hb2)
   clear hW2 hb2 q0 q1 q2 q3 zq
   by_cases c1:f.fn<0
   ·have d:decide (f.fn<0)=true:=by simp [c1]
    have hv:=Lh (hNO.out (fun ⟨_,_,_,hb,_⟩=>by have:=hb.fn0;omega))
    go_wp2_with fail
    go_ret
    exact ⟨by rw [hv.out];rfl,HBW2.out⟩
   obtain ⟨n,hn⟩:∃ n:Nat,f.fn=n:=⟨f.fn.toNat,by omega⟩
   have HN:=Lh hn
   rw [hn] at n0
   have dn:decide ((n:Int)<0)=false:=by simp
   clear hn c1
   by_cases c2:c.funcs.length≤n
   ·have d:decide (c.funcs.length≤n)=true:=by simp [c2]
    have hv:=Lh (hNO.out (fun ⟨y,_,_,hb,_⟩=>by
     have h1:=hb.fn
     rw [HN.out,Int.toNat_natCast,List.getElem?_eq_none c2] at h1
     cases h1))
    go_wp2_with fail
    go_ret
    exact ⟨by rw [hv.out];rfl,HBW2.out⟩
   have d2:decide (c.funcs.length≤n)=false:=by simp;omega
   obtain ⟨y,hy⟩:∃ y,c.funcs[n]?=some y:=⟨_,List.getElem?_eq_getElem (by omega)⟩
   have HY:=Lh hy
   obtain ⟨yb,yo,hga,hybB,hFE⟩:∃ yb yo,ga=some ⟨yb,yo,none⟩∧yb<B∧Zl B w yb (yo+n*5) y:=by
    obtain ⟨fv0,gv0,heq,_,hg,_⟩:=HC.out
    simp only [Value.agg.injEq,Array.mk.injEq,List.cons.injEq,and_true] at heq
    obtain ⟨_,_,rfl⟩:=heq
    obtain ⟨a0,cap0,he0,hl1,hl2,hl3,hE⟩:=hg
    obtain ⟨rfl,rfl⟩:ga=a0∧gc=cap0:=by simpa using he0
    rcases hE with h0|⟨yb,yo,rfl,hybB,hE⟩
    ·rw [h0] at hy;simp at hy
    ·exact ⟨yb,yo,rfl,hybB,hE n y hy⟩
   subst hga
   have hB2:B≤W2.heap.size:=Nat.le_trans hB HBW2.out.size
   obtain ⟨g1,g2,g3,g4,⟨xv,g5,g6⟩,g7,g8,g9⟩:=hFE.below (HBW2.out.mono hB) hybB
   obtain ⟨ca,cc,rfl⟩:=g6.form
   have HG6:=Lh g6
   have hcl0:=hsm y (List.mem_of_getElem? hy)
   have hfo:=hs.fok hy
   unfold Zr at hfo
   have zy:=Bl g1
   have hn0:(0:Int)≤(n:Int):=Int.natCast_nonneg _
   have hn1:(n:Int)<(c.funcs.length:Int):=by omega
   obtain ⟨W3,hW3⟩:∃ W,W=W2.alloc (.cells #[.string y.name,.int .i64 y.params,.int .i64 y.locals,.bool y.result,.slice ca y.code.length cc] 75):=⟨_,rfl⟩
   have hb3:Below W2.heap.size W2 W3:=by rw [hW3];exact Xa _ _
   have hc3:Hid (Xo W3 W2.heap.size [.string y.name,.int .i64 y.params,.int .i64 y.locals,.bool y.result,.slice ca y.code.length cc]):=by rw [hW3];exact Lh Xd
   clear hy g6 g7 g8 g9 hFE
   go_upto_region 19 with fail
   rw [←hW3]
   have HW3:=Lh hW3
   have i0:=Xc hb3 i0
   have i1:=Xc hb3 i1
   have i2:=Xc hb3 i2
   have m0:=Xc hb3 m0
   have m1:=Xc hb3 m1
   have m2:=Xc hb3 m2
   have m3:=Xc hb3 m3
   have m4:=Xc hb3 m4
   have m5:=Xc hb3 m5
   have m6:=Xc hb3 m6
   have m7:=Xc hb3 m7
   have m8:=Xc hb3 m8
   have n0:=Xc hb3 n0
   have n1:=Xc hb3 n1
   have n2:=Xc hb3 n2
   have n3:=Xc hb3 n3
   have y0:=hc3.out 0 _ rfl
   have y1:=hc3.out 1 _ rfl
   have y2:=hc3.out 2 _ rfl
   have y3:=hc3.out 3 _ rfl
   have y4:=hc3.out 4 _ rfl
   have z0:=Bl i0
   have z1:=Bl m0
   have zn:=Bl n0
   have zy:=Bl y0
   have HBW3:=Lh (HBW2.out.then hb3)
   have HK3:=Lh (HK2.out.keep hb3)
   obtain ⟨ib,hib⟩:∃ b,b=wr.heap.size:=⟨_,rfl⟩
   obtain ⟨yc,hyc⟩:∃ b,b=W2.heap.size:=⟨_,rfl⟩
   rw [←hib] at n0 n1 n2 n3 zn
   rw [←hyc] at y0 y1 y2 y3 y4 zy
   rw [←hib,← hyc]
   have HIB:=Lh hib
   have HYC:=Lh hyc
   clear hW3 hb3 hib hyc g1 g2 g3 g4 g5
   by_cases c3:f.pc<1
   ·have d:decide (f.pc<1)=true:=by simp [c3]
    have hv:=Lh (hNO.out (fun ⟨_,_,_,_,h1,_⟩=>by omega))
    go_wp2_with fail
    go_ret
    exact ⟨by rw [hv.out];rfl,HBW3.out⟩
   obtain ⟨p,hp⟩:∃ p:Nat,f.pc=(p:Int)+1:=⟨(f.pc - 1).toNat,by omega⟩
   have HP:=Lh hp
   rw [hp] at n1
   have dp:decide ((p:Int)+1<1)=false:=by simp;omega
   have hpb:(p:Int)+1≤9223372036854775807:=by omega
   clear hp c3
   by_cases c4:(y.code.length:Int)<(p:Int)+1
   ·have d:decide ((y.code.length:Int)<(p:Int)+1)=true:=by simp;omega
    have hv:=Lh (hNO.out (fun ⟨y',x',_,hb,_,hx,_⟩=>by
     have h1:=hb.fn
     rw [HN.out,Int.toNat_natCast,HY.out] at h1
     cases h1
     rw [HP.out,show ((p:Int)+1 - 1).toNat=p by omega,List.getElem?_eq_none (by omega)] at hx
     cases hx))
    go_wp2_with fail
    go_ret
    exact ⟨by rw [hv.out];rfl,HBW3.out⟩
   have d4:decide ((y.code.length:Int)<(p:Int)+1)=false:=by simp;omega
   by_cases c5:(f.locals.length:Int)=y.locals
   rotate_left
   ·have d:((f.locals.length:Int) == y.locals)=false:=by simp [c5]
    have d':((f.locals.length:Int) != y.locals)=true:=by simp [c5]
    have hv:=Lh (hNO.out (fun ⟨y',x',_,hb,_⟩=>by
     have h1:=hb.fn
     rw [HN.out,Int.toNat_natCast,HY.out] at h1
     cases h1
     exact c5 hb.loc))
    go_wp2_with fail
    go_ret
    exact ⟨by rw [hv.out];rfl,HBW3.out⟩
   have HLOC:=Lh c5
   rw [←c5] at y2
   clear c5
   have hB3:B≤W3.heap.size:=Nat.le_trans hB HBW3.out.size
   have hbr3:Hid (Below B wr W3):=Lh (by
    have h1:=HB2.out.mono (Nat.le_trans hB HBR.out.size)
    have h2:Below W2.heap.size W2 W3:=by rw [HW3.out];exact Xa _ _
    exact h1.trans (h2.mono hB2))
   have HLV3:=Lh (HLV.out.ints hbr3.out)
   go_wp2_with fail
   refine (Y3 47 #[] (fun n=>!X1 n) f.locals _ B W3 Xat hB3 HLV3.out (Xe1 _)).mono ?_
   rintro e W4 ⟨rfl,hb4⟩
   have i0:=Xc hb4 i0
   have i1:=Xc hb4 i1
   have i2:=Xc hb4 i2
   have m0:=Xc hb4 m0
   have m1:=Xc hb4 m1
   have m2:=Xc hb4 m2
   have m3:=Xc hb4 m3
   have m4:=Xc hb4 m4
   have m5:=Xc hb4 m5
   have m6:=Xc hb4 m6
   have m7:=Xc hb4 m7
   have m8:=Xc hb4 m8
   have n0:=Xc hb4 n0
   have n1:=Xc hb4 n1
   have n2:=Xc hb4 n2
   have n3:=Xc hb4 n3
   have y0:=Xc hb4 y0
   have y1:=Xc hb4 y1
   have y2:=Xc hb4 y2
   have y3:=Xc hb4 y3
   have y4:=Xc hb4 y4
   have z0:=Bl i0
   have z1:=Bl m0
   have zn:=Bl n0
   have zy:=Bl y0
   have HBW4:=Lh (HBW3.out.then hb4)
   have HK4:=Lh (HK3.out.keep hb4)
   have HSV4:=Lh ((HSV.out.ints hbr3.out).ints (hb4.mono hB3))
   have HB4:=Lh hb4
   clear hb4
   cases hv6:f.locals.any (fun n=>!X1 n) with
   | true=>
    have hv:=Lh (hNO.out (fun ⟨_,_,_,hb,_⟩=>Xkh hv6 hb.lv))
    clear hv6
    go_wp2_with fail
    go_ret
    exact ⟨by rw [hv.out];rfl,HBW4.out⟩
   | false=>
   have HLVV:=Lh (Xkr hv6)
   clear hv6
   go_wp2_with fail
   refine (Y3 47 #[] (fun n=>!X1 n) f.stack _ B W4 Xat (Nat.le_trans hB HBW4.out.size) HSV4.out (Xe1 _)).mono ?_
   rintro e W5 ⟨rfl,hb5⟩
   have i0:=Xc hb5 i0
   have i1:=Xc hb5 i1
   have i2:=Xc hb5 i2
   have m0:=Xc hb5 m0
   have m1:=Xc hb5 m1
   have m2:=Xc hb5 m2
   have m3:=Xc hb5 m3
   have m4:=Xc hb5 m4
   have m5:=Xc hb5 m5
   have m6:=Xc hb5 m6
   have m7:=Xc hb5 m7
   have m8:=Xc hb5 m8
   have n0:=Xc hb5 n0
   have n1:=Xc hb5 n1
   have n2:=Xc hb5 n2
   have n3:=Xc hb5 n3
   have y0:=Xc hb5 y0
   have y1:=Xc hb5 y1
   have y2:=Xc hb5 y2
   have y3:=Xc hb5 y3
   have y4:=Xc hb5 y4
   have z0:=Bl i0
   have z1:=Bl m0
   have zn:=Bl n0
   have zy:=Bl y0
   have HBW5:=Lh (HBW4.out.then hb5)
   have HK5:=Lh (HK4.out.keep hb5)
   have hb25:Hid (Below B W2 W5):=Lh (by
    have h2:Below W2.heap.size W2 W3:=by rw [HW3.out];exact Xa _ _
    exact ((h2.mono hB2).trans (HB4.out.mono hB3)).trans (hb5.mono (Nat.le_trans hB HBW4.out.size)))
   have hbk5:Hid (Below bk w1 W5):=Lh (by
    have h1:=hbr.out.trans (HB2.out.mono (Nat.le_of_lt hbkr))
    have h2:Below W2.heap.size W2 W3:=by rw [HW3.out];exact Xa _ _
    have e2:bk≤W2.heap.size:=Nat.le_trans (Nat.le_of_lt hbkr) HB2.out.size
    have e3:bk≤W3.heap.size:=Nat.le_trans e2 h2.size
    have e4:bk≤W4.heap.size:=Nat.le_trans e3 HB4.out.size
    exact ((h1.trans (h2.mono e2)).trans (HB4.out.mono e3)).trans (hb5.mono e4))
   clear hb5
   cases hv7:f.stack.any (fun n=>!X1 n) with
   | true=>
    have hv:=Lh (hNO.out (fun ⟨_,_,_,hb,_⟩=>Xkh hv7 hb.sv))
    clear hv7
    go_wp2_with fail
    go_ret
    exact ⟨by rw [hv.out];rfl,HBW5.out⟩
   | false=>
   have HSVV:=Lh (Xkr hv7)
   clear hv7
   have hpl:p<y.code.length:=by omega
   clear p64 q64 hpb hll hsl
   obtain ⟨x,hx⟩:∃ x,y.code[p]?=some x:=⟨_,List.getElem?_eq_getElem hpl⟩
   have HX:=Lh hx
   have hBASE:Hid (Xaa c f y):=Lh ⟨by rw [HN.out];omega,by rw [HN.out,Int.toNat_natCast];exact HY.out,by rw [HP.out];omega,HLOC.out,HLVV.out,HSVV.out⟩
   have hops:=(hs.wf HY.out).op x (List.mem_of_getElem? hx)
   have h9:Hid (x.op=9→0≤x.a∧x.a<c.funcs.length):=Lh (fun e=>hs.lim HY.out hx (by rw [e];rfl))
   have hpv:Hid (0≤Qb c x∧Qb c x≤6):=Lh (by
    unfold Qb
    split
    ·omega
    split
    ·omega
    split
    ·rename_i e _ e9
     have:=h9.out e9
     cases hg:Je c x.a with
     | none=>simp
     | some z=>have:=hs.fok (show c.funcs[x.a.toNat]?=some z from hg);unfold Zr at this;simp only [];omega
    ·omega)
   clear hx
   have key:Hid (∀ es' clock',True):=Lh (fun (_:Nat) (_:Nat)=>trivial)
   clear key
   rcases HK5.out.find n y HY.out with hno|⟨jf,g,hs5,hfd,hrow,hA⟩
   ·have hlk:(Instr.lookup 94 (.map (some bk)) (.int .i64 (n:Int)) true).run Tryz.prog W5=.ok (.tuple #[.slice none 0 0,.bool false]) W5:=Xki HK5.out.map n none hno
    have HNO:=Lh hno
    have hB5:B≤W5.heap.size:=Nat.le_trans hB HBW5.out.size
    have hbk5s:=(La HK5.out.map)
    clear hno
    go_wp2_with fail
    refine (Xhn c _ n y B W5 (HL.out.below HBW5.out) hB5 (HC.out.below (HBW5.out.mono hB)) hs HY.out).mono ?_
    rintro e W6 ⟨g,hs5,rfl,hg6,hrow6,hA,hb6⟩
    have HK6:=Lh (HK5.out.keep hb6)
    have hup:(Instr.mapUpdate 94 (.map (some bk)) (.int .i64 (n:Int)) (.slice (some ⟨g,0,none⟩) y.code.length y.code.length)).run Tryz.prog W6=.ok () (Kr W6 bk (.map (es.push ⟨.int .i64 n,.slice (some ⟨g,0,none⟩) y.code.length y.code.length,clock⟩) (clock+1))):=Xnc HK6.out.map n _ HNO.out
    obtain ⟨WY,hWY⟩:∃ W,W=Kr W6 bk (.map (es.push ⟨.int .i64 n,.slice (some ⟨g,0,none⟩) y.code.length y.code.length,clock⟩) (clock+1)):=⟨_,rfl⟩
    rw [←hWY] at hup
    have hgk:g≠bk:=by omega
    have HKY:Hid (Vy c bk WY bk _ _):=Lh (by rw [hWY];exact HK6.out.add n y HY.out g hs5 hrow6 hA (by omega) hgk)
    have hMY:Xp [bk] [bk] W6 WY:=by rw [hWY];exact Xh4
    have hrow:WY.heap[g]?=some (.cells (Xx hs5) 3 (0,0)):=by rw [hMY.block g (La hrow6) (by simp;exact hgk)];exact hrow6
    have HBWY:Hid (Below w.heap.size w WY):=Lh ((HBW5.out.then hb6).trans (hMY.below (fun b hb=>by simp at hb;omega) (HBW5.out.then hb6).size))
    have hbkY:Hid (Below bk w1 WY):=Lh ((hbk5.out.trans (hb6.mono (Nat.le_of_lt hbk5s))).trans (hMY.below (fun b hb=>by simp at hb;omega) (Nat.le_of_lt (La HK6.out.map))))
    have hbB:Hid (Below B W2 WY):=Lh ((hb25.out.trans (hb6.mono hB5)).trans (hMY.below (fun b hb=>by simp at hb;omega) (Nat.le_trans hB5 hb6.size)))
    have i0:=Xc hb6 i0
    have i1:=Xc hb6 i1
    have i2:=Xc hb6 i2
    have m0:=Xc hb6 m0
    have m1:=Xc hb6 m1
    have m2:=Xc hb6 m2
    have m3:=Xc hb6 m3
    have m4:=Xc hb6 m4
    have m5:=Xc hb6 m5
    have m6:=Xc hb6 m6
    have m7:=Xc hb6 m7
    have m8:=Xc hb6 m8
    have n0:=Xc hb6 n0
    have n1:=Xc hb6 n1
    have n2:=Xc hb6 n2
    have n3:=Xc hb6 n3
    have y0:=Xc hb6 y0
    have y1:=Xc hb6 y1
    have y2:=Xc hb6 y2
    have y3:=Xc hb6 y3
    have y4:=Xc hb6 y4
    have z0:=Bl i0
    have z1:=Bl m0
    have zn:=Bl n0
    have zy:=Bl y0
    clear hWY
    go_upto_region 26 with fail
    have hcY:∀ {a:Addr} {u:Value},W6.cell? a=some u→a.block≠bk→WY.cell? a=some u:=fun h1 h2=>hMY.cell h1 (by simp;exact h2)
    have eib:ib≠bk:=by rw [HIB.out];omega
    have eyc:yc≠bk:=by rw [HYC.out];have:=HB2.out.size;omega
    have i0:=hcY i0 (show w.heap.size≠bk by omega)
    have i1:=hcY i1 (show w.heap.size≠bk by omega)
    have i2:=hcY i2 (show w.heap.size≠bk by omega)
    have m0:=hcY m0 (show w.heap.size+1≠bk by omega)
    have m1:=hcY m1 (show w.heap.size+1≠bk by omega)
    have m2:=hcY m2 (show w.heap.size+1≠bk by omega)
    have m3:=hcY m3 (show w.heap.size+1≠bk by omega)
    have m4:=hcY m4 (show w.heap.size+1≠bk by omega)
    have m5:=hcY m5 (show w.heap.size+1≠bk by omega)
    have m6:=hcY m6 (show w.heap.size+1≠bk by omega)
    have m7:=hcY m7 (show w.heap.size+1≠bk by omega)
    have m8:=hcY m8 (show w.heap.size+1≠bk by omega)
    have n0:=hcY n0 eib
    have n1:=hcY n1 eib
    have n2:=hcY n2 eib
    have n3:=hcY n3 eib
    have y0:=hcY y0 eyc
    have y1:=hcY y1 eyc
    have y2:=hcY y2 eyc
    have y3:=hcY y3 eyc
    have y4:=hcY y4 eyc
    have z0:=Bl i0
    have z1:=Bl m0
    have zn:=Bl n0
    have zy:=Bl y0
    clear hcY hlk hup hb6 hMY hrow6
    obtain ⟨v,hv⟩:∃ v,hs5[p]?=some v:=⟨_,List.getElem?_eq_getElem (by rw [hA.1];omega)⟩
    have hT:Hid (Vu c f y x v):=Lh ⟨hBASE.out,by rw [HP.out];omega,by rw [HP.out,show ((p:Int)+1 - 1).toNat=p by omega];exact HX.out,by rw [HP.out,show ((p:Int)+1 - 1).toNat=p by omega];exact hA.2 p v hv⟩
    have hvb:-1≤v∧v≤100000:=by
     rcases hA.2 p v hv with ⟨h,_⟩|⟨h,hr⟩
     ·omega
     ·have:=Qu (hs.wf HY.out) (hs.snd HY.out) hr;omega
    have r0:WY.cell? ⟨g,p,none⟩=some (.int .i64 v):=by rw [cell_of_row _ _ _ _ _ _ hrow];exact Qe hv
    have zg:=Bl r0
    obtain ⟨cb,co,hca,hcbB,hIE⟩:∃ cb co,ca=some ⟨cb,co,none⟩∧cb<B∧Xbu WY cb (co+p*2) x:=by
     obtain ⟨a0,cap0,he0,_,_,_,hE⟩:=HG6.out.inss hbB.out
     obtain ⟨rfl,rfl⟩:ca=a0∧cc=cap0:=by simpa using he0
     rcases hE with h0|⟨cb,co,rfl,hb,hE⟩
     ·rw [h0] at hpl;simp at hpl
     ·exact ⟨cb,co,rfl,hb,hE p x HX.out⟩
    subst hca
    obtain ⟨x0,x1,hx64,hxa64⟩:=hIE
    have zx:=Bl x0
    have hp0:(0:Int)≤(p:Int):=Int.natCast_nonneg _
    have hp1:(p:Int)<(y.code.length:Int):=by omega
    obtain ⟨xop,xa⟩:=x
    dsimp only at x0 x1 hops
    obtain ⟨W7,hW7⟩:∃ W,W=WY.alloc (.cells #[.int .i64 xop,.int .i64 xa] 100):=⟨_,rfl⟩
    have hb7:Below WY.heap.size WY W7:=by rw [hW7];exact Xa _ _
    have hc7:Hid (Xo W7 WY.heap.size [.int .i64 xop,.int .i64 xa]):=by rw [hW7];exact Lh Xd
    have HA:=Lh hA
    have HV:=Lh hv
    clear hA hv hrow
    go_upto_region 27 with fail
    rw [←hW7]
    have i0:=Xc hb7 i0
    have i1:=Xc hb7 i1
    have i2:=Xc hb7 i2
    have m0:=Xc hb7 m0
    have m1:=Xc hb7 m1
    have m2:=Xc hb7 m2
    have m3:=Xc hb7 m3
    have m4:=Xc hb7 m4
    have m5:=Xc hb7 m5
    have m6:=Xc hb7 m6
    have m7:=Xc hb7 m7
    have m8:=Xc hb7 m8
    have n0:=Xc hb7 n0
    have n1:=Xc hb7 n1
    have n2:=Xc hb7 n2
    have n3:=Xc hb7 n3
    have y0:=Xc hb7 y0
    have y1:=Xc hb7 y1
    have y2:=Xc hb7 y2
    have y3:=Xc hb7 y3
    have y4:=Xc hb7 y4
    have r0:=Xc hb7 r0
    have z0:=Bl i0
    have z1:=Bl m0
    have zn:=Bl n0
    have zy:=Bl y0
    have x0:=hc7.out 0 _ rfl
    have x1:=hc7.out 1 _ rfl
    have zx:=Bl x0
    have zg:=Bl r0
    have HB7:=Lh (HBWY.out.then hb7)
    have HK7:=Lh (HKY.out.keep hb7)
    have hbk7:Hid (Below bk w1 W7):=Lh (hbkY.out.trans (hb7.mono (Nat.le_of_lt (La HKY.out.map))))
    have hB7:B≤W7.drew.heap.size:=Nat.le_trans hB HB7.out.size
    have HC7:Hid (Yj B W7.drew (.agg #[.slice fa c.fields.length fc,.int .i64 c.globals,.slice (some ⟨yb,yo,none⟩) c.funcs.length gc]) c):=Lh (HC.out.below ((Xh HB7.out 1).mono hB))
    obtain ⟨xb,hxb⟩:∃ b,b=WY.heap.size:=⟨_,rfl⟩
    rw [←hxb] at x0 x1 zx
    rw [←hxb]
    clear hW7 hb7 hxb hc7
    by_cases c8:v<0
    ·have d:decide (v<0)=true:=by simp [c8]
     have hv:=Lh (hNO.out (hT.out.neg c8))
     go_quiet (fail)
     go_wp2_with fail
     go_ret
     exact ⟨by rw [hv.out];rfl,Xh HB7.out _⟩
    have d8:decide (v<0)=false:=by simp;omega
    have hw:IntKind.i64.wrap (v - Qb c ⟨xop,xa⟩)=v - Qb c ⟨xop,xa⟩:=by have:=hpv.out;rw [IntKind.wrap_i64];omega
    have HW7:=Lh hw
    go_region_held3 (fun V=>V.cell? ⟨g,p,none⟩=some (.int .i64 v)∧V.cell? ⟨ib,3,none⟩=some (.slice sa f.stack.length sc)∧V.cell? ⟨w.heap.size,0,none⟩=some (.slice fa c.fields.length fc)∧V.cell? ⟨w.heap.size,1,none⟩=some (.int .i64 c.globals)∧V.cell? ⟨w.heap.size,2,none⟩=some (.slice (some ⟨yb,yo,none⟩) c.funcs.length gc)∧V.cell? ⟨xb,0,none⟩=some (.int .i64 xop)∧V.cell? ⟨xb,1,none⟩=some (.int .i64 xa))
     (first|exact ⟨r0,n3,i0,i1,i2,x0,x1⟩|exact ⟨Xc hb8 r0,Xc hb8 n3,Xc hb8 i0,Xc hb8 i1,Xc hb8 i2,Xc hb8 x0,Xc hb8 x1⟩)
     (first|(go_at_call 50;refine (Xhe c _ ⟨xop,xa⟩ B W7.drew hB7 HC7.out h9.out).mono ?_;rintro e W8 ⟨rfl,hb8⟩))
    have HB8:=Lh ((Xh HB7.out 1).then hb8)
    have HK8:=Lh ((HK7.out.keep (Xh (Below.refl _ _) 1)).keep hb8)
    have hbk8:Hid (Below bk w1 W8):=Lh ((hbk7.out.trans (Xh (Below.refl _ _) 1)).trans (hb8.mono (Nat.le_of_lt (La HK7.out.map))))
    have i0:=Xc hb8 (show W7.drew.cell? _=_ from i0)
    have i1:=Xc hb8 (show W7.drew.cell? _=_ from i1)
    have i2:=Xc hb8 (show W7.drew.cell? _=_ from i2)
    have m0:=Xc hb8 (show W7.drew.cell? _=_ from m0)
    have m1:=Xc hb8 (show W7.drew.cell? _=_ from m1)
    have m2:=Xc hb8 (show W7.drew.cell? _=_ from m2)
    have m3:=Xc hb8 (show W7.drew.cell? _=_ from m3)
    have m4:=Xc hb8 (show W7.drew.cell? _=_ from m4)
    have m5:=Xc hb8 (show W7.drew.cell? _=_ from m5)
    have m6:=Xc hb8 (show W7.drew.cell? _=_ from m6)
    have m7:=Xc hb8 (show W7.drew.cell? _=_ from m7)
    have m8:=Xc hb8 (show W7.drew.cell? _=_ from m8)
    have n0:=Xc hb8 (show W7.drew.cell? _=_ from n0)
    have n1:=Xc hb8 (show W7.drew.cell? _=_ from n1)
    have n2:=Xc hb8 (show W7.drew.cell? _=_ from n2)
    have n3:=Xc hb8 (show W7.drew.cell? _=_ from n3)
    have y0:=Xc hb8 (show W7.drew.cell? _=_ from y0)
    have y1:=Xc hb8 (show W7.drew.cell? _=_ from y1)
    have y2:=Xc hb8 (show W7.drew.cell? _=_ from y2)
    have y3:=Xc hb8 (show W7.drew.cell? _=_ from y3)
    have y4:=Xc hb8 (show W7.drew.cell? _=_ from y4)
    have x0:=Xc hb8 (show W7.drew.cell? _=_ from x0)
    have x1:=Xc hb8 (show W7.drew.cell? _=_ from x1)
    have z0:=Bl i0
    have z1:=Bl m0
    have zn:=Bl n0
    have zy:=Bl y0
    have zx:=Bl x0
    clear hb8 hw
    by_cases c9:(f.stack.length:Int)=v - Qb c ⟨xop,xa⟩
    rotate_left
    ·have d:((f.stack.length:Int) == v - Qb c ⟨xop,xa⟩)=false:=by simp [c9]
     have d':((f.stack.length:Int) != v - Qb c ⟨xop,xa⟩)=true:=by simp [c9]
     have hv:=Lh (hNO.out (fun hf=>c9 (hT.out.ht hs hf).1))
     go_wp2_with fail
     go_ret
     exact ⟨by rw [hv.out];rfl,HB8.out⟩
    have HC9:=Lh c9
    have d9:((f.stack.length:Int) == v - Qb c ⟨xop,xa⟩)=true:=by simp [c9]
    have d9':((f.stack.length:Int) != v - Qb c ⟨xop,xa⟩)=false:=by simp [c9]
    clear c9
    by_cases cl:k+1=fs.length
    ·have HCL:=Lh cl
     have dl:((k:Int) == (fs.length:Int) - 1)=true:=by simp;omega
     clear cl
     go_wp2_with fail
     refine (Xfe ⟨xop,xa⟩ ⟨kind,node,field,value,fault⟩ W8).mono ?_
     rintro e W9 ⟨rfl,hb9⟩
     have HB9:=Lh (HB8.out.then hb9)
     have HK9:=Lh (HK8.out.keep hb9)
     have hbk9:Hid (Below bk w1 W9):=Lh (hbk8.out.trans (hb9.mono (Nat.le_of_lt (La HK8.out.map))))
     clear hb9
     cases hak:Xr ⟨xop,xa⟩ ⟨kind,node,field,value,fault⟩ with
     | false=>
      have hv:=Lh (hNO.out (fun hf=>by
       have:=(hT.out.ht hs hf).2
       rw [if_pos HCL.out,hak] at this
       cases this))
      clear hak
      go_wp2_with fail
      go_ret
      exact ⟨by rw [hv.out];rfl,HB9.out⟩
     | true=>
      have hyes:Hid (Yx c fs ⟨kind,node,field,value,fault⟩ k f):=Lh (hT.out.yes (by omega) HC9.out (by rw [if_pos HCL.out];exact hak))
      clear hak
      go_wp2_with fail
      go_roundg (gk - 1)
      case measure=>omega
      case rel=>exact ⟨k+1,by omega,by go_num,by omega,hbk9,Lh ⟨_,_,HK9.out⟩,Lh (fun j f' hj hf'=>by
       by_cases e:j=k
       ·subst e;rw [HF.out] at hf';cases hf';exact hyes.out
       ·exact hall.out j f' (by omega) hf')⟩
    ·have dl:((k:Int) == (fs.length:Int) - 1)=false:=by simp;omega
     obtain ⟨f2,hf2⟩:∃ f2,fs[k+1]?=some f2:=⟨_,List.getElem?_eq_getElem (by omega)⟩
     have q0:=((HME.out (k+1) f2 hf2).below (HB8.out.mono hB) hmbB).1
     have q64':=(HME.out (k+1) f2 hf2).2.2.2.2.1
     have zq:=Bl q0
     have HF2:=Lh hf2
     have HCL:=Lh cl
     have hk0':(0:Int)≤(k:Int)+1:=by omega
     have hk1':(k:Int)+1<(fs.length:Int):=by omega
     have hkt:((k:Int)+1).toNat=k+1:=by omega
     have hwk:IntKind.i64.wrap ((k:Int)+1)=(k:Int)+1:=by rw [IntKind.wrap_i64];omega
     clear hf2 cl
     go_upto_region 32 with fail
     by_cases c11:xop=9
     rotate_left
     ·have d:(xop == 9)=false:=by simp [c11]
      have d':(xop != 9)=true:=by simp [c11]
      have hv:=Lh (hNO.out (fun hf=>by
       have:=(hT.out.ht hs hf).2
       rw [if_neg HCL.out] at this
       exact c11 this.1))
      go_quiet (fail)
      go_wp2_with fail
      go_ret
      exact ⟨by rw [hv.out];rfl,Xh HB8.out _⟩
     have d11:(xop == 9)=true:=by simp [c11]
     have d11':(xop != 9)=false:=by simp [c11]
     have HC11:=Lh c11
     clear c11
     by_cases c12:xa=f2.fn
     ·have d:(xa == f2.fn)=true:=by simp [c12]
      have d':(xa != f2.fn)=false:=by simp [c12]
      have hyes:Hid (Yx c fs ⟨kind,node,field,value,fault⟩ k f):=Lh (hT.out.yes (by omega) HC9.out (by rw [if_neg HCL.out];exact ⟨HC11.out,f2,HF2.out,c12⟩))
      clear c12
      go_quiet (fail)
      have HK9:=Lh (HK8.out.keep (Xh (Below.refl _ _) nq))
      have hbk9:Hid (Below bk w1 (W8.drewN nq)):=Lh (hbk8.out.trans (Xh (Below.refl _ _) nq))
      clear hkt hwk
      go_wp2_with fail
      go_roundg (gk - 1)
      case measure=>omega
      case rel=>exact ⟨k+1,by omega,by go_num,by omega,hbk9,Lh ⟨_,_,HK9.out⟩,Lh (fun j f' hj hf'=>by
       by_cases e:j=k
       ·subst e;rw [HF.out] at hf';cases hf';exact hyes.out
       ·exact hall.out j f' (by omega) hf')⟩
     ·have d:(xa == f2.fn)=false:=by simp [c12]
      have d':(xa != f2.fn)=true:=by simp [c12]
      have hv:=Lh (hNO.out (fun hf=>by
       have:=(hT.out.ht hs hf).2
       rw [if_neg HCL.out] at this
       obtain ⟨_,f3,h3,h4⟩:=this
       rw [HF2.out] at h3
       cases h3
       exact c12 h4))
      go_quiet (fail)
      go_wp2_with fail
      go_ret
      exact ⟨by rw [hv.out];rfl,Xh HB8.out _⟩
   ·have hlk:(Instr.lookup 94 (.map (some bk)) (.int .i64 (n:Int)) true).run Tryz.prog W5=.ok (.tuple #[.slice (some ⟨g,0,none⟩) y.code.length y.code.length,.bool true]) W5:=Xki HK5.out.map n _ hfd
    clear hfd
    obtain ⟨v,hv⟩:∃ v,hs5[p]?=some v:=⟨_,List.getElem?_eq_getElem (by rw [hA.1];omega)⟩
    have hT:Hid (Vu c f y x v):=Lh ⟨hBASE.out,by rw [HP.out];omega,by rw [HP.out,show ((p:Int)+1 - 1).toNat=p by omega];exact HX.out,by rw [HP.out,show ((p:Int)+1 - 1).toNat=p by omega];exact hA.2 p v hv⟩
    have hvb:-1≤v∧v≤100000:=by
     rcases hA.2 p v hv with ⟨h,_⟩|⟨h,hr⟩
     ·omega
     ·have:=Qu (hs.wf HY.out) (hs.snd HY.out) hr;omega
    have r0:W5.cell? ⟨g,p,none⟩=some (.int .i64 v):=by rw [cell_of_row _ _ _ _ _ _ hrow];exact Qe hv
    have zg:=Bl r0
    obtain ⟨cb,co,hca,hcbB,hIE⟩:∃ cb co,ca=some ⟨cb,co,none⟩∧cb<B∧Xbu W5 cb (co+p*2) x:=by
     obtain ⟨a0,cap0,he0,_,_,_,hE⟩:=HG6.out.inss hb25.out
     obtain ⟨rfl,rfl⟩:ca=a0∧cc=cap0:=by simpa using he0
     rcases hE with h0|⟨cb,co,rfl,hb,hE⟩
     ·rw [h0] at hpl;simp at hpl
     ·exact ⟨cb,co,rfl,hb,hE p x HX.out⟩
    subst hca
    obtain ⟨x0,x1,hx64,hxa64⟩:=hIE
    have zx:=Bl x0
    have hp0:(0:Int)≤(p:Int):=Int.natCast_nonneg _
    have hp1:(p:Int)<(y.code.length:Int):=by omega
    obtain ⟨xop,xa⟩:=x
    dsimp only at x0 x1 hops
    obtain ⟨W7,hW7⟩:∃ W,W=W5.alloc (.cells #[.int .i64 xop,.int .i64 xa] 100):=⟨_,rfl⟩
    have hb7:Below W5.heap.size W5 W7:=by rw [hW7];exact Xa _ _
    have hc7:Hid (Xo W7 W5.heap.size [.int .i64 xop,.int .i64 xa]):=by rw [hW7];exact Lh Xd
    have HA:=Lh hA
    have HV:=Lh hv
    clear hA hv hrow
    go_upto_region 27 with fail
    rw [←hW7]
    have i0:=Xc hb7 i0
    have i1:=Xc hb7 i1
    have i2:=Xc hb7 i2
    have m0:=Xc hb7 m0
    have m1:=Xc hb7 m1
    have m2:=Xc hb7 m2
    have m3:=Xc hb7 m3
    have m4:=Xc hb7 m4
    have m5:=Xc hb7 m5
    have m6:=Xc hb7 m6
    have m7:=Xc hb7 m7
    have m8:=Xc hb7 m8
    have n0:=Xc hb7 n0
    have n1:=Xc hb7 n1
    have n2:=Xc hb7 n2
    have n3:=Xc hb7 n3
    have y0:=Xc hb7 y0
    have y1:=Xc hb7 y1
    have y2:=Xc hb7 y2
    have y3:=Xc hb7 y3
    have y4:=Xc hb7 y4
    have r0:=Xc hb7 r0
    have z0:=Bl i0
    have z1:=Bl m0
    have zn:=Bl n0
    have zy:=Bl y0
    have x0:=hc7.out 0 _ rfl
    have x1:=hc7.out 1 _ rfl
    have zx:=Bl x0
    have zg:=Bl r0
    have HB7:=Lh (HBW5.out.then hb7)
    have HK7:=Lh (HK5.out.keep hb7)
    have hbk7:Hid (Below bk w1 W7):=Lh (hbk5.out.trans (hb7.mono (Nat.le_of_lt (La HK5.out.map))))
    have hB7:B≤W7.drew.heap.size:=Nat.le_trans hB HB7.out.size
    have HC7:Hid (Yj B W7.drew (.agg #[.slice fa c.fields.length fc,.int .i64 c.globals,.slice (some ⟨yb,yo,none⟩) c.funcs.length gc]) c):=Lh (HC.out.below ((Xh HB7.out 1).mono hB))
    obtain ⟨xb,hxb⟩:∃ b,b=W5.heap.size:=⟨_,rfl⟩
    rw [←hxb] at x0 x1 zx
    rw [←hxb]
    clear hW7 hb7 hxb hc7
    by_cases c8:v<0
    ·have d:decide (v<0)=true:=by simp [c8]
     have hv:=Lh (hNO.out (hT.out.neg c8))
     go_quiet (fail)
     go_wp2_with fail
     go_ret
     exact ⟨by rw [hv.out];rfl,Xh HB7.out _⟩
    have d8:decide (v<0)=false:=by simp;omega
    have hw:IntKind.i64.wrap (v - Qb c ⟨xop,xa⟩)=v - Qb c ⟨xop,xa⟩:=by have:=hpv.out;rw [IntKind.wrap_i64];omega
    have HW7:=Lh hw
    go_region_held3 (fun V=>V.cell? ⟨g,p,none⟩=some (.int .i64 v)∧V.cell? ⟨ib,3,none⟩=some (.slice sa f.stack.length sc)∧V.cell? ⟨w.heap.size,0,none⟩=some (.slice fa c.fields.length fc)∧V.cell? ⟨w.heap.size,1,none⟩=some (.int .i64 c.globals)∧V.cell? ⟨w.heap.size,2,none⟩=some (.slice (some ⟨yb,yo,none⟩) c.funcs.length gc)∧V.cell? ⟨xb,0,none⟩=some (.int .i64 xop)∧V.cell? ⟨xb,1,none⟩=some (.int .i64 xa))
     (first|exact ⟨r0,n3,i0,i1,i2,x0,x1⟩|exact ⟨Xc hb8 r0,Xc hb8 n3,Xc hb8 i0,Xc hb8 i1,Xc hb8 i2,Xc hb8 x0,Xc hb8 x1⟩)
     (first|(go_at_call 50;refine (Xhe c _ ⟨xop,xa⟩ B W7.drew hB7 HC7.out h9.out).mono ?_;rintro e W8 ⟨rfl,hb8⟩))
    have HB8:=Lh ((Xh HB7.out 1).then hb8)
    have HK8:=Lh ((HK7.out.keep (Xh (Below.refl _ _) 1)).keep hb8)
    have hbk8:Hid (Below bk w1 W8):=Lh ((hbk7.out.trans (Xh (Below.refl _ _) 1)).trans (hb8.mono (Nat.le_of_lt (La HK7.out.map))))
    have i0:=Xc hb8 (show W7.drew.cell? _=_ from i0)
    have i1:=Xc hb8 (show W7.drew.cell? _=_ from i1)
    have i2:=Xc hb8 (show W7.drew.cell? _=_ from i2)
    have m0:=Xc hb8 (show W7.drew.cell? _=_ from m0)
    have m1:=Xc hb8 (show W7.drew.cell? _=_ from m1)
    have m2:=Xc hb8 (show W7.drew.cell? _=_ from m2)
    have m3:=Xc hb8 (show W7.drew.cell? _=_ from m3)
    have m4:=Xc hb8 (show W7.drew.cell? _=_ from m4)
    have m5:=Xc hb8 (show W7.drew.cell? _=_ from m5)
    have m6:=Xc hb8 (show W7.drew.cell? _=_ from m6)
    have m7:=Xc hb8 (show W7.drew.cell? _=_ from m7)
    have m8:=Xc hb8 (show W7.drew.cell? _=_ from m8)
    have n0:=Xc hb8 (show W7.drew.cell? _=_ from n0)
    have n1:=Xc hb8 (show W7.drew.cell? _=_ from n1)
    have n2:=Xc hb8 (show W7.drew.cell? _=_ from n2)
    have n3:=Xc hb8 (show W7.drew.cell? _=_ from n3)
    have y0:=Xc hb8 (show W7.drew.cell? _=_ from y0)
    have y1:=Xc hb8 (show W7.drew.cell? _=_ from y1)
    have y2:=Xc hb8 (show W7.drew.cell? _=_ from y2)
    have y3:=Xc hb8 (show W7.drew.cell? _=_ from y3)
    have y4:=Xc hb8 (show W7.drew.cell? _=_ from y4)
    have x0:=Xc hb8 (show W7.drew.cell? _=_ from x0)
    have x1:=Xc hb8 (show W7.drew.cell? _=_ from x1)
    have z0:=Bl i0
    have z1:=Bl m0
    have zn:=Bl n0
    have zy:=Bl y0
    have zx:=Bl x0
    clear hb8 hw
    by_cases c9:(f.stack.length:Int)=v - Qb c ⟨xop,xa⟩
    rotate_left
    ·have d:((f.stack.length:Int) == v - Qb c ⟨xop,xa⟩)=false:=by simp [c9]
     have d':((f.stack.length:Int) != v - Qb c ⟨xop,xa⟩)=true:=by simp [c9]
     have hv:=Lh (hNO.out (fun hf=>c9 (hT.out.ht hs hf).1))
     go_wp2_with fail
     go_ret
     exact ⟨by rw [hv.out];rfl,HB8.out⟩
    have HC9:=Lh c9
    have d9:((f.stack.length:Int) == v - Qb c ⟨xop,xa⟩)=true:=by simp [c9]
    have d9':((f.stack.length:Int) != v - Qb c ⟨xop,xa⟩)=false:=by simp [c9]
    clear c9
    by_cases cl:k+1=fs.length
    ·have HCL:=Lh cl
     have dl:((k:Int) == (fs.length:Int) - 1)=true:=by simp;omega
     clear cl
     go_wp2_with fail
     refine (Xfe ⟨xop,xa⟩ ⟨kind,node,field,value,fault⟩ W8).mono ?_
     rintro e W9 ⟨rfl,hb9⟩
     have HB9:=Lh (HB8.out.then hb9)
     have HK9:=Lh (HK8.out.keep hb9)
     have hbk9:Hid (Below bk w1 W9):=Lh (hbk8.out.trans (hb9.mono (Nat.le_of_lt (La HK8.out.map))))
     clear hb9
     cases hak:Xr ⟨xop,xa⟩ ⟨kind,node,field,value,fault⟩ with
     | false=>
      have hv:=Lh (hNO.out (fun hf=>by
       have:=(hT.out.ht hs hf).2
       rw [if_pos HCL.out,hak] at this
       cases this))
      clear hak
      go_wp2_with fail
      go_ret
      exact ⟨by rw [hv.out];rfl,HB9.out⟩
     | true=>
      have hyes:Hid (Yx c fs ⟨kind,node,field,value,fault⟩ k f):=Lh (hT.out.yes (by omega) HC9.out (by rw [if_pos HCL.out];exact hak))
      clear hak
      go_wp2_with fail
      go_roundg (gk - 1)
      case measure=>omega
      case rel=>exact ⟨k+1,by omega,by go_num,by omega,hbk9,Lh ⟨_,_,HK9.out⟩,Lh (fun j f' hj hf'=>by
       by_cases e:j=k
       ·subst e;rw [HF.out] at hf';cases hf';exact hyes.out
       ·exact hall.out j f' (by omega) hf')⟩
    ·have dl:((k:Int) == (fs.length:Int) - 1)=false:=by simp;omega
     obtain ⟨f2,hf2⟩:∃ f2,fs[k+1]?=some f2:=⟨_,List.getElem?_eq_getElem (by omega)⟩
     have q0:=((HME.out (k+1) f2 hf2).below (HB8.out.mono hB) hmbB).1
     have q64':=(HME.out (k+1) f2 hf2).2.2.2.2.1
     have zq:=Bl q0
     have HF2:=Lh hf2
     have HCL:=Lh cl
     have hk0':(0:Int)≤(k:Int)+1:=by omega
     have hk1':(k:Int)+1<(fs.length:Int):=by omega
     have hkt:((k:Int)+1).toNat=k+1:=by omega
     have hwk:IntKind.i64.wrap ((k:Int)+1)=(k:Int)+1:=by rw [IntKind.wrap_i64];omega
     clear hf2 cl
     go_upto_region 32 with fail
     by_cases c11:xop=9
     rotate_left
     ·have d:(xop == 9)=false:=by simp [c11]
      have d':(xop != 9)=true:=by simp [c11]
      have hv:=Lh (hNO.out (fun hf=>by
       have:=(hT.out.ht hs hf).2
       rw [if_neg HCL.out] at this
       exact c11 this.1))
      go_quiet (fail)
      go_wp2_with fail
      go_ret
      exact ⟨by rw [hv.out];rfl,Xh HB8.out _⟩
     have d11:(xop == 9)=true:=by simp [c11]
     have d11':(xop != 9)=false:=by simp [c11]
     have HC11:=Lh c11
     clear c11
     by_cases c12:xa=f2.fn
     ·have d:(xa == f2.fn)=true:=by simp [c12]
      have d':(xa != f2.fn)=false:=by simp [c12]
      have hyes:Hid (Yx c fs ⟨kind,node,field,value,fault⟩ k f):=Lh (hT.out.yes (by omega) HC9.out (by rw [if_neg HCL.out];exact ⟨HC11.out,f2,HF2.out,c12⟩))
      clear c12
      go_quiet (fail)
      have HK9:=Lh (HK8.out.keep (Xh (Below.refl _ _) nq))
      have hbk9:Hid (Below bk w1 (W8.drewN nq)):=Lh (hbk8.out.trans (Xh (Below.refl _ _) nq))
      clear hkt hwk
      go_wp2_with fail
      go_roundg (gk - 1)
      case measure=>omega
      case rel=>exact ⟨k+1,by omega,by go_num,by omega,hbk9,Lh ⟨_,_,HK9.out⟩,Lh (fun j f' hj hf'=>by
       by_cases e:j=k
       ·subst e;rw [HF.out] at hf';cases hf';exact hyes.out
       ·exact hall.out j f' (by omega) hf')⟩
     ·have d:(xa == f2.fn)=false:=by simp [c12]
      have d':(xa != f2.fn)=true:=by simp [c12]
      have hv:=Lh (hNO.out (fun hf=>by
       have:=(hT.out.ht hs hf).2
       rw [if_neg HCL.out] at this
       obtain ⟨_,f3,h3,h4⟩:=this
       rw [HF2.out] at h3
       cases h3
       exact c12 h4))
      go_quiet (fail)
      go_wp2_with fail
      go_ret
      exact ⟨by rw [hv.out];rfl,Xh HB8.out _⟩
  ·obtain rfl:k=fs.length:=by omega
   have hv:Hid (pB (∀ k f,fs[k]?=some f→Yx c fs ⟨kind,node,field,value,fault⟩ k f)=true):=Lh (Kh (fun j f hf=>hall.out j f (Ll hf) hf))
   go_wp2_with fail
   go_ret
   exact ⟨by rw [hv.out];rfl,HBR.out⟩
end Go.Proofs.YtbmeoklmachjpaaGreatDoor
