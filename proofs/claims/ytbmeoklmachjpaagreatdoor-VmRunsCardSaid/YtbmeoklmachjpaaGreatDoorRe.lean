/- Contracts of the reference's values, Index. The contract of the reference's Given. -/
import Derived.Test.YtbmeoklmachjpaaGreatDoorRa
import Derived.Test.YtbmeoklmachjpaaGreatDoorPst3
import Derived.BigQuiet
import Derived.Deep.QuietTactic
set_option maxHeartbeats 1000000
set_option maxRecDepth 100000
set_option linter.unusedVariables false
set_option linter.unusedSimpArgs false
namespace Go.Proofs.YtbmeoklmachjpaaGreatDoor
open Go.RowKit
def Jg (l:List Int):Bool:=!(l.any fun n=>!X1 n)
theorem Uk (l:List Int) (v:Value) (B:Nat) (w:World) (hv:Xf B w 1 Zd v l):Calls Tryz.prog 36 #[v] w fun e w'=>e=.returned (.bool (Jg l))∧w=w':=by
 obtain ⟨a,cap,rfl,hl,hl2,hl3,hE⟩:=hv
 have HE:=Lh hE
 clear hE
 go_enter Tryz.func36,Tryz.ntmps36
 go_wp2_with fail
 go_loop [3] (fun i=>∃ k:Nat,k≤l.length∧i=.int .i64 k∧Hid (∀ (j:Nat) x,j<k→l[j]?=some x→X1 x=true)) (fun i=>l.length - (intOf i).toNat)
 case atStart=>exact ⟨0,Nat.zero_le _,rfl,Lh (fun j x hj=>by omega)⟩
 case round=>
  obtain ⟨k,hk,rfl,hno⟩:=hrel
  by_cases hlt:k<l.length
  ·obtain ⟨x,hx⟩:∃ x,l[k]?=some x:=⟨_,List.getElem?_eq_getElem hlt⟩
   rcases HE.out with h|⟨b,o,rfl,hbB,hE⟩
   ·subst h;simp at hx
   have c1:w.cell? ⟨b,o+k,none⟩=some (.int .i64 x):=by have:=(hE k x hx).1;rw [Nat.mul_one] at this;exact this
   have HX:=Lh hx
   clear hx hE
   go_wp2_with fail
   refine (Ys _ _).mono ?_
   rintro e w' ⟨rfl,rfl⟩
   cases hq:X1 x with
   | false=>
    have hf:Hid (Jg l=false):=Lh (by
     unfold Jg
     have:l.any (fun n=>!X1 n)=true:=List.any_eq_true.2 ⟨x,List.mem_of_getElem? HX.out,by rw [hq];rfl⟩
     rw [this];rfl)
    clear hq
    go_wp2_with fail
    go_ret
    exact ⟨by rw [hf.out];rfl,rfl⟩
   | true=>
    have hno2:Hid (∀ (j:Nat) y,j<k+1→l[j]?=some y→X1 y=true):=Lh (fun j y hj hy=>by
     by_cases hjk:j=k
     ·subst hjk;have:=HX.out.symm.trans hy;cases this;exact hq
     ·exact hno.out j y (by omega) hy)
    clear hq
    go_wp2_with fail
    go_round
    case rel=>exact ⟨k+1,by omega,by go_num,hno2⟩
    case measure=>simp [intOf];omega
  ·have hf:Hid (Jg l=true):=Lh (by
    unfold Jg
    have:l.any (fun n=>!X1 n)=false:=by
     rw [List.any_eq_false]
     intro x hx
     obtain ⟨j,hj,rfl⟩:=List.getElem_of_mem hx
     rw [hno.out j _ (by omega) (List.getElem?_eq_getElem hj)]
     simp
    rw [this];rfl)
   go_wp2_with fail
   go_ret
   exact ⟨by rw [hf.out];rfl,rfl⟩
theorem Xay (c:Cod) (cv:Value) (nm:ByteArray) (B:Nat) (w:World) (hB:B≤w.heap.size) (hc:Yj B w cv c):Calls Tryz.prog 35 #[cv,.string nm] w fun e w'=>e=.returned (.int .i64 (Qw (fun f=>Zt f.name nm) c.funcs))∧Below w.heap.size w w':=by
 obtain ⟨cfv,cgv,rfl,hcf,hcg,-⟩:=hc
 obtain ⟨fa,fc,rfl,-⟩:=hcf
 obtain ⟨ga,gc,rfl,hl1,hl2,hl3,hgE⟩:=hcg
 have HGE:=Lh hgE
 obtain ⟨W,hW⟩:∃ W,W=w.alloc (.cells #[.slice fa c.fields.length fc,.int .i64 c.globals,.slice ga c.funcs.length gc] 25):=⟨_,rfl⟩
 have HW:Hid (Below w.heap.size w W):=by rw [hW];exact Lh (Xa _ _)
 have HK:Hid (Xo W w.heap.size [.slice fa c.fields.length fc,.int .i64 c.globals,.slice ga c.funcs.length gc]):=by rw [hW];exact Lh Xd
 have HWE:=Lh hW
 clear hW hgE
 go_enter Tryz.func35,Tryz.ntmps35
 go_wp2_with fail
 rw [←HWE.out]
 have q2:=HK.out 2 _ rfl
 have zq:=Bl q2
 go_loop [5] (fun i=>∃ k:Nat,k≤c.funcs.length∧i=.int .i64 k∧Hid (∀ (j:Nat) x,j<k→c.funcs[j]?=some x→Zt x.name nm=false)) (fun i=>c.funcs.length - (intOf i).toNat)
 case atStart=>exact ⟨0,Nat.zero_le _,rfl,Lh (fun j x hj=>by omega)⟩
 case round=>
  obtain ⟨k,hk,rfl,hno⟩:=hrel
  by_cases hlt:k<c.funcs.length
  ·obtain ⟨x,hx⟩:∃ x,c.funcs[k]?=some x:=⟨_,List.getElem?_eq_getElem hlt⟩
   rcases HGE.out with h|⟨b,o,rfl,hbB,hE⟩
   ·rw [h] at hx;simp at hx
   have c1:=((hE k x hx).below (HW.out.mono hB) hbB).1
   have HX:=Lh hx
   clear hx hE
   cases hq:Zt x.name nm with
   | true=>
    have hf:Hid (Qw (fun f=>Zt f.name nm) c.funcs=(k:Int)):=Lh (Ue HX.out hq (fun j y hj hy=>hno.out j y hj hy))
    have e1:(x.name.toList == nm.toList)=true:=hq
    clear hq
    go_wp2_with fail
    go_ret
    exact ⟨by rw [hf.out];rfl,HW.out⟩
   | false=>
    have hno2:Hid (∀ (j:Nat) y,j<k+1→c.funcs[j]?=some y→Zt y.name nm=false):=Lh (fun j y hj hy=>by
     by_cases hjk:j=k
     ·subst hjk;have:=HX.out.symm.trans hy;cases this;exact hq
     ·exact hno.out j y (by omega) hy)
    have e1:(x.name.toList == nm.toList)=false:=hq
    clear hq
    go_wp2_with fail
    go_round
    case rel=>exact ⟨k+1,by omega,by go_num,hno2⟩
    case measure=>simp [intOf];omega
  ·have hf:Hid (Qw (fun f=>Zt f.name nm) c.funcs = -1):=Lh (Jk (fun j y hj hy=>hno.out j y (by omega) hy))
   go_wp2_with fail
   go_ret
   exact ⟨by rw [hf.out];rfl,HW.out⟩
theorem K1 {w:World} {A:Array Value} {T:TypeId} {o:Obj}:Xo ((w.alloc o).alloc (.cells A T)) (w.heap.size+1) A.toList:=by
 have:=@Xd (w.alloc o) A T
 simpa using this
def Xkd (c:Cod) (x:Cal) (fuel:Int) (w:World) (e:Ending) (w':World):Prop:=e=.returned (.int .i64 (Yd c x fuel))∧Below w.heap.size w w'
theorem Kf {c:Cod} {x:Cal} {fuel n:Int} {w w':World} (h:Yd c x fuel=n) (hb:Below w.heap.size w w'):Xkd c x fuel w (.returned (.int .i64 n)) w':=⟨by rw [h],hb⟩
theorem Xd2 (c:Cod) (cv:Value) (x:Cal) (xv:Value) (fuel:Int) (B:Nat) (w:World) (hB:B≤w.heap.size) (hc:Yj B w cv c) (hx:J8 B w xv x) :
  Calls Tryz.prog 12 #[cv,xv,.int .i64 fuel] w (Xkd c x fuel w):=by
 obtain ⟨fv,gv,rfl,hf,hg,hg64⟩:=id hc
 obtain ⟨fa,fc,rfl⟩:=hf.form
 obtain ⟨ga,gc,rfl⟩:=hg.form
 obtain ⟨av,rfl,hxs,hxp⟩:=hx
 obtain ⟨xa,xc,rfl⟩:=hxs.form
 obtain ⟨W,hW⟩:∃ W,W=(w.alloc (.cells #[.slice fa c.fields.length fc,.int .i64 c.globals,.slice ga c.funcs.length gc] 25)).alloc (.cells #[.string x.proc,.slice xa x.args.length xc] 27):=⟨_,rfl⟩
 have hWb:Hid (Below w.heap.size w W):=by rw [hW];exact Lh ((Xa _ _).then (Xa _ _))
 have b0:Xo W w.heap.size [.slice fa c.fields.length fc,.int .i64 c.globals,.slice ga c.funcs.length gc]:=by rw [hW];exact Xd.alloc _
 have b1:Xo W (w.heap.size+1) [.string x.proc,.slice xa x.args.length xc]:=by rw [hW];exact K1
 by_cases hr:fuel<0∨1048576<fuel
 ·have hE:Hid (Yd c x fuel=2):=Lh (by unfold Yd;rw [if_pos hr])
  by_cases h0:fuel<0
  ·go_enter Tryz.func12,Tryz.ntmps12
   go_upto_region 1 with fail
   rw [←hW]
   clear hW
   go_wp2_with fail
   go_ret
   exact Kf hE.out hWb.out
  ·have h1:1048576<fuel:=by omega
   have h00:decide (fuel<0)=false:=by simp;omega
   go_enter Tryz.func12,Tryz.ntmps12
   go_upto_region 1 with fail
   rw [←hW]
   clear hW
   go_wp2_with fail
   go_ret
   exact Kf hE.out hWb.out
 have HNR:=Lh hr
 have hd0:decide (fuel<0)=false:=by simp;omega
 have hd1:decide (1048576<fuel)=false:=by simp;omega
 have i0:=b0 0 _ rfl
 have i1:=b0 1 _ rfl
 have i2:=b0 2 _ rfl
 have x0:=b1 0 _ rfl
 have x1:=b1 1 _ rfl
 have z0:=Bl i0
 have z1:=Bl x0
 have HC:=Lh (hc.below (hWb.out.mono hB))
 have HXS:=Lh (hxs.ints (hWb.out.mono hB))
 have hWB:B≤W.heap.size:=Nat.le_trans hB hWb.out.size
 have HG:=Lh hg
 clear hf hg hxs hc b0 b1 hr
 rcases Xca (fun f=>Zt f.name x.proc) c.funcs with hi|⟨k,hk,hi⟩
 ·have HE:Hid (Yd c x fuel=9):=Lh (by
   have hn:Q8 c x.proc = -1:=hi
   unfold Yd
   rw [if_neg HNR.out]
   cases c.funcs[(Q8 c x.proc).toNat]? with
   | none=>rfl
   | some y=>simp only [];rw [if_pos (by omega)])
  have HI:=Lh hi
  clear hi
  go_enter Tryz.func12,Tryz.ntmps12
  go_upto_region 1 with fail
  rw [←hW]
  clear hW
  go_wp2_with fail
  refine (Xay c _ x.proc B W hWB HC.out).mono ?_
  rintro e w1 ⟨rfl,hb1⟩
  rw [HI.out]
  have HB1:=Lh (hWb.out.then hb1)
  clear hb1
  go_wp2_with fail
  go_ret
  exact Kf HE.out HB1.out
 obtain ⟨y,hy⟩:∃ y,c.funcs[k]?=some y:=⟨_,List.getElem?_eq_getElem hk⟩
 have HI:=Lh hi
 have hfi:Q8 c x.proc=k:=hi
 have HFI:=Lh hfi
 clear hi hfi
 obtain ⟨a0,cap0,he0,hl1,hl2,hl3,hE⟩:=HG.out
 obtain ⟨rfl,rfl⟩:ga=a0∧gc=cap0:=by simpa using he0
 rcases hE with h0|⟨yb,yo,rfl,hybB,hE⟩
 ·rw [h0] at hy;simp at hy
 have hEk:=Lh (hE k y hy)
 have HY:=Lh hy
 have hk0:(0:Int)≤(k:Int):=Int.natCast_nonneg _
 have hk1:(k:Int)<(c.funcs.length:Int):=by omega
 have hkn:decide ((k:Int)<0)=false:=by simp
 clear he0 hE hy
 go_enter Tryz.func12,Tryz.ntmps12
 go_upto_region 1 with fail
 rw [←hW]
 clear hW
 go_wp2_with fail
 refine (Xay c _ x.proc B W hWB HC.out).mono ?_
 rintro e w1 ⟨rfl,hb1⟩
 rw [HI.out]
 have HB1:=Lh (hWb.out.then hb1)
 have i0:=Xc hb1 i0
 have i1:=Xc hb1 i1
 have i2:=Xc hb1 i2
 have x0:=Xc hb1 x0
 have x1:=Xc hb1 x1
 have z0:=Bl i0
 have z1:=Bl x0
 have hE1:=hEk.out.below (HB1.out.mono hB) hybB
 have p1:=hE1.2.1
 have zy:=Bl p1
 have HXS1:=Lh (HXS.out.ints (hb1.mono hWB))
 clear hb1 hE1
 by_cases hl:(x.args.length:Int)=y.params
 rotate_left
 ·have HE:Hid (Yd c x fuel=3):=Lh (by
   unfold Yd
   rw [if_neg HNR.out,HFI.out]
   simp only [Int.toNat_natCast,HY.out]
   rw [if_neg (by omega),if_pos hl])
  have hne:((x.args.length:Int) == y.params)=false:=by simp [hl]
  have hne2:((x.args.length:Int) != y.params)=true:=by simp [hl]
  clear hl
  go_wp2_with fail
  go_quiet (fail)
  have HB1q:=Lh (Xh HB1.out nq)
  go_wp2_with fail
  go_ret
  exact Kf HE.out HB1q.out
 have hne:((x.args.length:Int) == y.params)=true:=by simp [hl]
 have hne2:((x.args.length:Int) != y.params)=false:=by simp [hl]
 have HL:=Lh hl
 have p1':=p1
 rw [←hl] at p1'
 clear hl p1
 go_wp2_with fail
 go_quiet (fail)
 have HB1q:=Lh (Xh HB1.out nq)
 have HXS2:=Lh (HXS1.out.ints (Xh (Below.refl _ _) nq))
 cases hv:Jg x.args with
 | false=>
  have HE:Hid (Yd c x fuel=11):=Lh (by
   unfold Yd
   rw [if_neg HNR.out,HFI.out]
   simp only [Int.toNat_natCast,HY.out]
   unfold Jg at hv
   rw [if_neg (by omega),if_neg (by rw [HL.out];simp),if_pos (by simpa using hv)])
  have HV:=Lh hv
  clear hv
  go_wp2_with fail
  refine (Uk x.args _ B _ HXS2.out).mono ?_
  rintro e w2 ⟨rfl,rfl⟩
  rw [HV.out]
  go_wp2_with fail
  go_ret
  exact Kf HE.out HB1q.out
 | true=>
  have HE:Hid (Yd c x fuel=0):=Lh (by
   unfold Yd
   rw [if_neg HNR.out,HFI.out]
   simp only [Int.toNat_natCast,HY.out]
   unfold Jg at hv
   rw [if_neg (by omega),if_neg (by rw [HL.out];simp),if_neg (by simpa using hv)])
  have HV:=Lh hv
  clear hv
  go_wp2_with fail
  refine (Uk x.args _ B _ HXS2.out).mono ?_
  rintro e w2 ⟨rfl,rfl⟩
  rw [HV.out]
  go_wp2_with fail
  go_ret
  exact Kf HE.out HB1q.out
end Go.Proofs.YtbmeoklmachjpaaGreatDoor
