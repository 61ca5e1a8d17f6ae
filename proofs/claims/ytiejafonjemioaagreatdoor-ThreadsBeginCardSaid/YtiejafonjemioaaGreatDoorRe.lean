import Derived.Test.YtiejafonjemioaaGreatDoorPst3
import Derived.Outline
set_option maxHeartbeats 1000000
set_option maxRecDepth 100000
set_option linter.unusedVariables false
set_option linter.unusedSimpArgs false
open Go.Value renaming slice→σ
open Go.Obj renaming cells→χ
namespace Go.Proofs.YtiejafonjemioaaGreatDoor
open Go.RowKit
theorem Ys (n:Int) (w:World):Calls Tryz.prog 125 #[ι n] w fun e w'=>e=.returned (.bool (X1 n))/\w=w':=by
 go_enter Tryz.func125,Tryz.ntmps125
 go_wp2
 all_goals (go_ret;exact ⟨by unfold X1;congr 2;simp;omega,rfl⟩)
def Kx (op:Int):Bool:=decide (4<=op/\op<=8)
theorem J7 (op:Int) (w:World):Calls Tryz.prog 165 #[ι op] w fun e w'=>e=.returned (.bool (Kx op))/\w=w':=by
 go_enter Tryz.func165,Tryz.ntmps165
 go_wp2
 all_goals (go_ret;exact ⟨Za (by rw [Bool.eq_iff_iff];unfold Kx;simp only [Bool.or_eq_true,Bool.and_eq_true,decide_eq_true_eq,beq_iff_eq,eq_self,true_iff];omega),rfl⟩)
theorem Z9.top {w:World} {fv:Value} {m:Mch} {F:List Nat} {fs:List Fra} {f:Fra} (h:Z9 w fv m.frames F) (hm:m.frames=fs++[f]) :
  ∃ fb cap aA cs lv sv Fi Fl Fs,fv=σ (some (π fb 0)) (fs.length+1) cap/\F=fb::(Fi++(Fl++Fs))/\∀ (W:World) (bm:Nat) (m1:Mch),Below w.heap.size w W->W.heap[bm]?=some (χ (Xb (σ (some (π fb 0)) (fs.length+1) cap) m1) 51 (0,0))->w.heap.size<=bm->Xk W bm fb cap aA cs fs f lv sv m1 Fi Fl Fs:=by
 have h0:X3 (w.alloc (χ (Xb fv m) 51)) w.heap.size m (w.heap.size::F):=Xt.2 ⟨fv,F,Hn _ _,h.keep (fun b hb=>Ha _ _ _ (h.lt b hb)),rfl,fun e=>by have:=h.lt _ e;omega⟩
 obtain ⟨fb,cap,aA,cs,lv,sv,Fi,Fl,Fs,hT,hF⟩:=h0.top hm
 have aE:fv=σ (some (π fb 0)) (fs.length+1) cap:=by
  have h1:=hT.mach
  rw [Hn] at h1
  simp only [Option.some.injEq,Obj.cells.injEq,Xb] at h1
  have:=congrArg (fun a=>a[0]?) h1.1
  simpa using this
 have aB:F=fb::(Fi++(Fl++Fs)):=by simpa using hF
 refine ⟨fb,cap,aA,cs,lv,sv,Fi,Fl,Fs,aE,aB,fun W bm m1 hb aD aF=>?_⟩
 have hk:∀ b∈F,W.heap[b]?=(w.alloc (χ (Xb fv m) 51)).heap[b]?:=fun b aC=>by
  rw [hb.block b (h.lt b aC),Ha _ _ _ (h.lt b aC)]
 rw [aB] at hk
 refine ⟨aD,by rw [hk fb ψ];exact hT.row,hT.capl,hT.capm,hT.csize,hT.take,hT.init.keep (fun b hb=>hk b (by simp [hb])),hT.loc.keep (fun b hb=>hk b (by simp [hb])),hT.stk.keep (fun b hb=>hk b (by simp [hb])),hT.fn,hT.pc,?_⟩
 have h1:=hT.nodup
 rw [List.nodup_cons] at h1 ⊢
 refine ⟨fun e=>?_,h1.2⟩
 have:=h.lt bm (by rw [aB];exact e)
 omega
def Jg (l:List Int):Bool:=!(l.any fun n=>!X1 n)
theorem Uk (l:List Int) (v:Value) (B:Nat) (w:World) (hv:Xf B w 1 Zd v l):Calls Tryz.prog 94 #[v] w fun e w'=>e=.returned (.bool (Jg l))/\w=w':=by
 obtain ⟨a,cap,rfl,hl,aF,aG,hE⟩:=hv
 have HE:=Lh hE
 clear hE
 go_enter Tryz.func94,Tryz.ntmps94
 go_wp2_with fail
 go_loop [3] (fun i=>∃ k:Nat,k<=l.length/\i=ι k/\Hid (∀ (j:Nat) x,j<k->l[j]?=some x->X1 x=true)) (fun i=>l.length - (intOf i).toNat)
 case atStart=>exact ⟨0,Nat.zero_le _,rfl,Lh (fun j x hj=>by omega)⟩
 case round=>
  obtain ⟨k,hk,rfl,aB⟩:=hrel
  by_cases aD:k<l.length
  ·obtain ⟨x,hx⟩:∃ x,l[k]?=some x:=⟨_,Lg aD⟩
   rcases HE.o with h|⟨b,o,rfl,aE,hE⟩
   ·subst h;simp at hx
   have c1:w.cell? (π b (o+k))=some (ι x):=by have:=(hE k x hx).1;rw [Nat.mul_one] at this;exact this
   have HX:=Lh hx
   clear hx hE
   go_wp2_with fail
   refine (Ys _ _).mono ?_
   rintro e w' ⟨rfl,rfl⟩
   cases hq:X1 x with
   | false=>
    have hf:Hid (Jg l=false):=Lh (by
     unfold Jg
     have:l.any (fun n=>!X1 n)=true:=List.any_eq_true.2 ⟨x,Lm HX.o,by rw [hq];rfl⟩
     rw [this];rfl)
    clear hq
    go_wp2
    go_ret
    exact ⟨by rw [hf.o];rfl,rfl⟩
   | true=>
    have aA:Hid (∀ (j:Nat) y,j<k+1->l[j]?=some y->X1 y=true):=Lh (fun j y hj hy=>by
     by_cases aC:j=k
     ·subst aC;have:=HX.o.symm.trans hy;cases this;exact hq
     ·exact aB.o j y ω hy)
    clear hq
    go_wp2
    go_round
    case rel=>exact ⟨k+1,ω,by go_num,aA⟩
    case measure=>simp [intOf];omega
  ·have hf:Hid (Jg l=true):=Lh (by
    unfold Jg
    have:l.any (fun n=>!X1 n)=false:=by
     rw [List.any_eq_false]
     intro x hx
     obtain ⟨j,hj,rfl⟩:=List.getElem_of_mem hx
     rw [aB.o j _ ω (Lg hj)]
     simp
    rw [this];rfl)
   go_wp2
   go_ret
   exact ⟨by rw [hf.o];rfl,rfl⟩
theorem Xay (c:Cod) (cv:Value) (nm:ByteArray) (B:Nat) (w:World) (hB:B<=w.heap.size) (hc:Yj B w cv c):Calls Tryz.prog 95 #[cv,.string nm] w fun e w'=>e=.returned (ι (Qw (fun f=>Zt f.name nm) c.funcs))/\Below w.heap.size w w':=by
 obtain ⟨aK,aL,rfl,aG,aH,-⟩:=hc
 obtain ⟨fa,fc,rfl,-⟩:=aG
 obtain ⟨ga,gc,rfl,aM,aN,aO,aC⟩:=aH
 have aD:=Lh aC
 obtain ⟨W,hW⟩:∃ W,W=w.alloc (χ (Bc fa fc ga gc c) 25):=⟨_,rfl⟩
 have HW:Hid (Below w.heap.size w W):=by rw [hW];exact Lh (Xa _ _)
 have HK:Hid (Xo W w.heap.size [σ fa c.fields.length fc,ι c.globals,σ ga c.funcs.length gc]):=by rw [hW];exact Lh Xd
 have aE:=Lh hW
 clear hW aC
 go_enter Tryz.func95,Tryz.ntmps95
 go_wp2_with fail
 rw [<-aE.o]
 have q2:=HK.o 2 _ rfl
 have zq:=Bl q2
 go_loop [5] (fun i=>∃ k:Nat,k<=c.funcs.length/\i=ι k/\Hid (∀ (j:Nat) x,j<k->c.funcs[j]?=some x->Zt x.name nm=false)) (fun i=>c.funcs.length - (intOf i).toNat)
 case atStart=>exact ⟨0,Nat.zero_le _,rfl,Lh (fun j x hj=>by omega)⟩
 case round=>
  obtain ⟨k,hk,rfl,aA⟩:=hrel
  by_cases aJ:k<c.funcs.length
  ·obtain ⟨x,hx⟩:∃ x,c.funcs[k]?=some x:=⟨_,Lg aJ⟩
   rcases aD.o with h|⟨b,o,rfl,aF,hE⟩
   ·rw [h] at hx;simp at hx
   have c1:=((hE k x hx).below (HW.o.mono hB) aF).1
   have HX:=Lh hx
   clear hx hE
   cases hq:Zt x.name nm with
   | true=>
    have hf:Hid (Qw (fun f=>Zt f.name nm) c.funcs=(k:Int)):=Lh (Ue HX.o hq (fun j y hj hy=>aA.o j y hj hy))
    have e1:(x.name.toList == nm.toList)=true:=hq
    clear hq
    go_wp2
    go_ret
    exact ⟨by rw [hf.o];rfl,HW.o⟩
   | false=>
    have aB:Hid (∀ (j:Nat) y,j<k+1->c.funcs[j]?=some y->Zt y.name nm=false):=Lh (fun j y hj hy=>by
     by_cases aI:j=k
     ·subst aI;have:=HX.o.symm.trans hy;cases this;exact hq
     ·exact aA.o j y ω hy)
    have e1:(x.name.toList == nm.toList)=false:=hq
    clear hq
    go_wp2
    go_round
    case rel=>exact ⟨k+1,ω,by go_num,aB⟩
    case measure=>simp [intOf];omega
  ·have hf:Hid (Qw (fun f=>Zt f.name nm) c.funcs = -1):=Lh (Jk (fun j y hj hy=>aA.o j y ω hy))
   go_wp2
   go_ret
   exact ⟨by rw [hf.o];rfl,HW.o⟩
theorem K1 {w:World} {A:Array Value} {T:TypeId} {o:Obj}:Xo ((w.alloc o).alloc (χ A T)) (w.heap.size+1) A.toList:=by
 have:=@Xd (w.alloc o) A T
 simpa using this
def Xkd (c:Cod) (x:Cal) (fuel:Int) (w:World) (e:Ending) (w':World):Prop:=e=.returned (ι (Yd c x fuel))/\Below w.heap.size w w'
theorem Kf {c:Cod} {x:Cal} {fuel n:Int} {w w':World} (h:Yd c x fuel=n) (hb:Below w.heap.size w w'):Xkd c x fuel w (.returned (ι n)) w':=⟨by rw [h],hb⟩
theorem Xd2 (c:Cod) (cv:Value) (x:Cal) (xv:Value) (fuel:Int) (B:Nat) (w:World) (hB:B<=w.heap.size) (hc:Yj B w cv c) (hx:J8 B w xv x) :
  Calls Tryz.prog 55 #[cv,xv,ι fuel] w (Xkd c x fuel w):=by
 obtain ⟨fv,gv,rfl,hf,hg,aS⟩:=id hc
 obtain ⟨fa,fc,rfl⟩:=hf.form
 obtain ⟨ga,gc,rfl⟩:=hg.form
 obtain ⟨av,rfl,aL,bE⟩:=hx
 obtain ⟨xa,xc,rfl⟩:=aL.form
 obtain ⟨W,hW⟩:∃ W,W=(w.alloc (χ (Bc fa fc ga gc c) 25)).alloc (χ #[.string x.proc,σ xa x.args.length xc] 80):=⟨_,rfl⟩
 have aC:Hid (Below w.heap.size w W):=by rw [hW];exact Lh ((Xa _ _).then (Xa _ _))
 have b0:Xo W w.heap.size [σ fa c.fields.length fc,ι c.globals,σ ga c.funcs.length gc]:=by rw [hW];exact Xd.alloc _
 have b1:Xo W (w.heap.size+1) [.string x.proc,σ xa x.args.length xc]:=by rw [hW];exact K1
 by_cases hr:fuel<0\/1048576<fuel
 ·have hE:Hid (Yd c x fuel=2):=Lh (by unfold Yd;rw [if_pos hr])
  by_cases h0:fuel<0
  ·go_enter Tryz.func55,Tryz.ntmps55
   go_upto_region 1 with fail
   rw [<-hW]
   clear hW
   go_wp2
   go_ret
   exact Kf hE.o aC.o
  ·have h1:1048576<fuel:=ω
   have aV:decide (fuel<0)=false:=by simp;omega
   go_enter Tryz.func55,Tryz.ntmps55
   go_upto_region 1 with fail
   rw [<-hW]
   clear hW
   go_wp2
   go_ret
   exact Kf hE.o aC.o
 have aF:=Lh hr
 have aW:decide (fuel<0)=false:=by simp;omega
 have aX:decide (1048576<fuel)=false:=by simp;omega
 have i0:=b0 0 _ rfl
 have i1:=b0 1 _ rfl
 have i2:=b0 2 _ rfl
 have x0:=b1 0 _ rfl
 have x1:=b1 1 _ rfl
 have z0:=Bl i0
 have z1:=Bl x0
 have HC:=Lh (hc.below (aC.o.mono hB))
 have aQ:=Lh (aL.ints (aC.o.mono hB))
 have aJ:B<=W.heap.size:=Nt hB aC.o.size
 have HG:=Lh hg
 clear hf hg aL hc b0 b1 hr
 rcases Xca (fun f=>Zt f.name x.proc) c.funcs with hi|⟨k,hk,hi⟩
 ·have HE:Hid (Yd c x fuel=9):=Lh (by
   have hn:Q8 c x.proc = -1:=hi
   unfold Yd
   rw [if_neg aF.o]
   cases c.funcs[(Q8 c x.proc).toNat]? with
   | none=>rfl
   | some y=>simp only [];rw [if_pos ω])
  have HI:=Lh hi
  clear hi
  go_enter Tryz.func55,Tryz.ntmps55
  go_upto_region 1 with fail
  rw [<-hW]
  clear hW
  go_wp2_with fail
  refine (Xay c _ x.proc B W aJ HC.o).mono ?_
  rintro e w1 ⟨rfl,aA⟩
  rw [HI.o]
  have aD:=Lh (aC.o.then aA)
  clear aA
  go_wp2
  go_ret
  exact Kf HE.o aD.o
 obtain ⟨y,hy⟩:∃ y,c.funcs[k]?=some y:=⟨_,Lg hk⟩
 have HI:=Lh hi
 have aP:Q8 c x.proc=k:=hi
 have aG:=Lh aP
 clear hi aP
 obtain ⟨a0,aI,aO,bB,bC,bD,hE⟩:=HG.o
 obtain ⟨rfl,rfl⟩:ga=a0/\gc=aI:=by simpa using aO
 rcases hE with h0|⟨yb,yo,rfl,aM,hE⟩
 ·rw [h0] at hy;simp at hy
 have aR:=Lh (hE k y hy)
 have HY:=Lh hy
 have aY:(0:Int)<=(k:Int):=In _
 have aZ:(k:Int)<(c.funcs.length:Int):=ω
 have bA:decide ((k:Int)<0)=false:=by simp
 clear aO hE hy
 go_enter Tryz.func55,Tryz.ntmps55
 go_upto_region 1 with fail
 rw [<-hW]
 clear hW
 go_wp2_with fail
 refine (Xay c _ x.proc B W aJ HC.o).mono ?_
 rintro e w1 ⟨rfl,aA⟩
 rw [HI.o]
 have aD:=Lh (aC.o.then aA)
 have i0:=Xc aA i0
 have i1:=Xc aA i1
 have i2:=Xc aA i2
 have x0:=Xc aA x0
 have x1:=Xc aA x1
 have z0:=Bl i0
 have z1:=Bl x0
 have aN:=aR.o.below (aD.o.mono hB) aM
 have p1:=aN.2.1
 have zy:=Bl p1
 have aH:=Lh (aQ.o.ints (aA.mono aJ))
 clear aA aN
 by_cases hl:(x.args.length:Int)=y.params
 rotate_left
 ·have HE:Hid (Yd c x fuel=3):=Lh (by
   unfold Yd
   rw [if_neg aF.o,aG.o]
   simp only [Int.toNat_natCast,HY.o]
   rw [if_neg ω,if_pos hl])
  have aT:((x.args.length:Int) == y.params)=false:=by simp [hl]
  have aK:((x.args.length:Int) != y.params)=true:=by simp [hl]
  clear hl
  go_wp2_with fail
  go_quiet (fail)
  have aB:=Lh (Xh aD.o nq)
  go_wp2
  go_ret
  exact Kf HE.o aB.o
 have aT:((x.args.length:Int) == y.params)=true:=by simp [hl]
 have aK:((x.args.length:Int) != y.params)=false:=by simp [hl]
 have HL:=Lh hl
 have aU:=p1
 rw [<-hl] at aU
 clear hl p1
 go_wp2_with fail
 go_quiet (fail)
 have aB:=Lh (Xh aD.o nq)
 have aE:=Lh (aH.o.ints (Xh Br nq))
 cases hv:Jg x.args with
 | false=>
  have HE:Hid (Yd c x fuel=11):=Lh (by
   unfold Yd
   rw [if_neg aF.o,aG.o]
   simp only [Int.toNat_natCast,HY.o]
   unfold Jg at hv
   rw [if_neg ω,if_neg (by rw [HL.o];simp),if_pos (by simpa using hv)])
  have HV:=Lh hv
  clear hv
  go_wp2_with fail
  refine (Uk x.args _ B _ aE.o).mono ?_
  rintro e w2 ⟨rfl,rfl⟩
  rw [HV.o]
  go_wp2
  go_ret
  exact Kf HE.o aB.o
 | true=>
  have HE:Hid (Yd c x fuel=0):=Lh (by
   unfold Yd
   rw [if_neg aF.o,aG.o]
   simp only [Int.toNat_natCast,HY.o]
   unfold Jg at hv
   rw [if_neg ω,if_neg (by rw [HL.o];simp),if_neg (by simpa using hv)])
  have HV:=Lh hv
  clear hv
  go_wp2_with fail
  refine (Uk x.args _ B _ aE.o).mono ?_
  rintro e w2 ⟨rfl,rfl⟩
  rw [HV.o]
  go_wp2
  go_ret
  exact Kf HE.o aB.o
