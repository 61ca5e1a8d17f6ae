import Derived.Test.YtiejafonjemioaaGreatDoorTh4
import Derived.Test.YtiejafonjemioaaGreatDoorPly
set_option maxHeartbeats 2000000
set_option maxRecDepth 1000000
set_option linter.unusedVariables false
set_option linter.unusedSimpArgs false
open Go.Value renaming slice→σ
open Go.Obj renaming cells→χ
namespace Go.Proofs.YtiejafonjemioaaGreatDoor
open Go.RowKit
theorem Xwt (n:Int) (w:World) :
  Calls Tryz.prog 87 #[ι n] w fun e w'=>e=.returned (.bool (X1 n))/\w=w':=by
 go_enter Tryz.func87,Tryz.ntmps87
 go_wp2
 all_goals (go_ret;exact ⟨by unfold X1;congr 2;simp;omega,rfl⟩)
theorem Xuv:Zn 86:=fun _ _=>by kernel_rfl
theorem Xxe:Zn 89:=fun _ _=>by kernel_rfl
theorem Xzj (n:Int) (w:World) :
  Calls Tryz.prog 86 #[ι n] w fun e w'=>e=.returned (.bool (!X1 n))/\w=w':=by
 go_enter Tryz.func86,Tryz.ntmps86
 go_wp2_with (go_at_call 87;refine (Xwt n _).mono ?_;rintro e w' ⟨rfl,rfl⟩)
 go_ret
 exact ⟨rfl,rfl⟩
theorem Xxn (w:World):∀ (x:Int) (w1:World) (av:Value),Below w.heap.size w w1->Xlj 0 w1 av x->Calls Tryz.prog 86 (#[av]++#[]) w1 (fun e w2=>e=.returned (.bool (!X1 x))/\Below w1.heap.size w1 w2):=by
 rintro x w1 av _ ⟨rfl,_⟩
 exact (Xzj x w1).mono fun e w2 ⟨he,hw⟩=>⟨he,hw▸Below.refl _ _⟩
theorem Xy7 (c:Cod) (n:Nod) (va fa:Option Addr) (vc fc cb fb B:Nat) (w:World) (hB:B<=w.heap.size) (hf:Xf B w 1 Zd (σ fa c.fields.length fc) c.fields) (hv:Xf B w 1 Zd (σ va n.f.length vc) n.f) (ht:in64 n.type)
  (k0:w.cell? (π cb 0)=some (σ fa c.fields.length fc)) (k1:w.cell? (π fb 0)=some (.func (.func 86) #[] #[])) :
  Calls Tryz.prog 89 #[.agg #[ι n.type,σ va n.f.length vc],.pointer (some (π cb 0)),.pointer (some (π fb 0))] w fun e w'=>e=.returned (.bool (Z2 c n))/\Below w.heap.size w w':=by
 obtain ⟨t,f⟩:=n
 dsimp only at *
 obtain ⟨W,hW⟩:∃ W,W=w.alloc (χ #[ι t,σ va f.length vc] 74):=⟨_,rfl⟩
 have aA:Hid (Below w.heap.size w W):=by rw [hW];exact Xa _ _
 have b0:Hid (Xo W w.heap.size [ι t,σ va f.length vc]):=by rw [hW];exact Lh Xd
 have n0:=b0.o 0 _ rfl
 have n1:=b0.o 1 _ rfl
 have k0:=Xc aA.o k0
 have k1:=Xc aA.o k1
 have zn:=Bl n0
 have z0:=Bl k0
 have z1:=Bl k1
 have HF:=Lh (hf.ints (aA.o.mono hB))
 have HV:=Lh (hv.ints (aA.o.mono hB))
 unfold in64 at ht
 have aG:B<=W.heap.size:=Nt hB aA.o.size
 clear hf hv
 by_cases c1:t<0
 ·have d:decide (t<0)=true:=by simp [c1]
  have hr:Hid (Z2 c ⟨t,f⟩=true):=Lh (by unfold Z2;simp [c1])
  go_enter Tryz.func89,Tryz.ntmps89
  go_upto_region 1 with fail
  rw [<-hW]
  clear hW
  go_quiet (fail)
  go_wp2
  go_ret
  exact ⟨by rw [hr.o];rfl,Xh aA.o _⟩
 obtain ⟨n,rfl⟩:∃ n:Nat,t=n:=⟨t.toNat,ω⟩
 have d1:decide ((n:Int)<0)=false:=by simp
 clear c1
 by_cases c2:c.fields.length<=n
 ·have d:decide (c.fields.length<=n)=true:=by simp [c2]
  have d':decide ((c.fields.length:Int)<=(n:Int))=true:=by simp;omega
  have hr:Hid (Z2 c ⟨n,f⟩=true):=Lh (by unfold Z2;simp [List.getElem?_eq_none c2])
  go_enter Tryz.func89,Tryz.ntmps89
  go_upto_region 1 with fail
  rw [<-hW]
  clear hW
  go_quiet (fail)
  go_wp2
  go_ret
  exact ⟨by rw [hr.o];rfl,Xh aA.o _⟩
 have d2:decide (c.fields.length<=n)=false:=by simp;omega
 have aJ:decide ((c.fields.length:Int)<=(n:Int))=false:=by simp;omega
 obtain ⟨k,hk⟩:∃ k,c.fields[n]?=some k:=⟨_,Lg ω⟩
 obtain ⟨ub,uo,rfl,aI,hq⟩:∃ ub uo,fa=some (π ub uo)/\ub<B/\W.cell? (π ub (uo+n))=some (ι k):=by
  obtain ⟨a0,aC,aH,_,_,_,hE⟩:=HF.o
  obtain ⟨rfl,rfl⟩:fa=a0/\fc=aC:=by simpa using aH
  rcases hE with h0|⟨ub,uo,rfl,hb,hE⟩
  ·rw [h0] at hk;simp at hk
  ·have:=(hE n k hk).1
   rw [Nat.mul_one] at this
   exact ⟨ub,uo,rfl,hb,this⟩
 have zu:=Bl hq
 have aL:(0:Int)<=(n:Int):=In _
 have aM:(n:Int)<(c.fields.length:Int):=ω
 by_cases c3:(f.length:Int)=k
 rotate_left
 ·have d:((f.length:Int) == k)=false:=by simp [c3]
  have d':((f.length:Int) != k)=true:=by simp [c3]
  have hr:Hid (Z2 c ⟨n,f⟩=true):=Lh (by unfold Z2;simp [hk,c3])
  clear hk
  go_enter Tryz.func89,Tryz.ntmps89
  go_upto_region 1 with fail
  rw [<-hW]
  clear hW
  go_quiet (fail)
  go_wp2
  go_ret
  exact ⟨by rw [hr.o];rfl,Xh aA.o _⟩
 have d3:((f.length:Int) == k)=true:=by simp [c3]
 have aK:((f.length:Int) != k)=false:=by simp [c3]
 have hr:Hid (Z2 c ⟨n,f⟩=f.any (fun n=>!X1 n)):=Lh (by unfold Z2;rw [if_neg ψ];simp only [Int.toNat_natCast,hk];rw [if_neg (by simp [c3])])
 have aF:Hid (Xf B W.drew 1 Zd (σ va f.length vc) f):=Lh (HV.o.ints (Xh Br 1))
 have aD:B<=W.drew.heap.size:=aG
 clear hk c3
 go_enter Tryz.func89,Tryz.ntmps89
 go_upto_region 1 with fail
 rw [<-hW]
 clear hW
 go_region_held3 (fun V=>V.cell? (π w.heap.size 0)=some (ι (n:Int))/\V.cell? (π w.heap.size 1)=some (σ va f.length vc)/\V.cell? (π cb 0)=some (σ (some (π ub uo)) c.fields.length fc)/\V.cell? (π fb 0)=some (.func (.func 86) #[] #[])/\V.cell? (π ub (uo+n))=some (ι k))
  (first|exact ⟨n0,n1,k0,k1,hq⟩|exact ⟨Xc aB n0,Xc aB n1,Xc aB k0,Xc aB k1,Xc aB hq⟩)
  (first|(go_at_call 40;refine (Y3 86 #[] (fun n=>!X1 n) f _ B W.drew Xuv aD aF.o (Xxn _)).mono ?_;rintro e W8 ⟨rfl,aB⟩))
 have aE:=Lh ((Xh aA.o 1).then aB)
 clear aB
 go_wp2
 go_ret
 exact ⟨by rw [hr.o];rfl,aE.o⟩
theorem X0o (c:Cod) (fa:Option Addr) (fc cb fb B:Nat) (w:World) (hB:B<=w.heap.size) (hf:Xf B w 1 Zd (σ fa c.fields.length fc) c.fields) (k0:w.cell? (π cb 0)=some (σ fa c.fields.length fc)) (k1:w.cell? (π fb 0)=some (.func (.func 86) #[] #[])) :
  ∀ (x:Nod) (w1:World) (av:Value),Below w.heap.size w w1->Xpv B w1 av x->Calls Tryz.prog 89 (#[av]++#[.pointer (some (π cb 0)),.pointer (some (π fb 0))]) w1 (fun e w2=>e=.returned (.bool (Z2 c x))/\Below w1.heap.size w1 w2):=by
 rintro x w1 av aA ⟨lv,rfl,aB,aC⟩
 obtain ⟨va,vc,rfl⟩:=aB.form
 exact Xy7 c x va fa vc fc cb fb B w1 (Nt hB aA.size) (hf.ints (aA.mono hB)) aB aC (Xc aA k0) (Xc aA k1)
theorem Xxh (c:Cod) (cv:Value) (m:Mm) (mv:Value) (B:Nat) (w:World) (hB:B<=w.heap.size) (hc:Yj B w cv c) (hm:MmV B w mv m) :
  Calls Tryz.prog 47 #[cv,mv] w fun e w'=>e=.returned (.bool (Q7 c m))/\Below w.heap.size w w':=by
 have aQ:∀ (fn:Fn) (first cap:Array Value) (w:World),(Instr.makeFunc fn first cap).run Tryz.prog w=.ok (.func fn first cap) w:=fun _ _ _ _=>rfl
 obtain ⟨cf,cg,rfl,aD,aK,aE⟩:=hc
 have aM:=Lh aD
 obtain ⟨fa,fc,rfl⟩:=aD.form
 obtain ⟨ga,gc,rfl⟩:=aK.form
 obtain ⟨gv,nv,rfl,aF,aG⟩:=hm
 have aN:=Lh aF
 have aO:=Lh aG
 obtain ⟨va,vc,rfl⟩:=aF.form
 obtain ⟨na,nc,rfl⟩:=aG.form
 obtain ⟨W,hW⟩:∃ W,W=((w.alloc (χ (Bc fa fc ga gc c) 25)).alloc (χ (Bm va vc na nc m) 28)).alloc (χ #[.func (.func 86) #[] #[]] 97):=⟨_,rfl⟩
 have aC:Hid (Below w.heap.size w W):=by rw [hW];exact ((Xa _ _).then (Xa _ _)).then (Xa _ _)
 have aI:Hid (W.heap.size=w.heap.size+3):=by rw [hW];exact Lh ψ
 have b0:Hid (Xo W w.heap.size [σ fa c.fields.length fc,ι c.globals,σ ga c.funcs.length gc]):=by rw [hW];exact Lh (Xd.alloc _ |>.alloc _)
 have b1:Hid (Xo W (w.heap.size+1) [σ va m.globals.length vc,σ na m.nodes.length nc]):=by
  rw [hW]
  have:=(@Xd (w.alloc (χ (Bc fa fc ga gc c) 25)) (Bm va vc na nc m) 28).alloc (χ #[.func (.func 86) #[] #[]] 97)
  exact Lh (by simpa using this)
 have b2:Hid (Xo W (w.heap.size+1+1) [.func (.func 86) #[] #[]]):=by
  rw [hW]
  have:=@Xd ((w.alloc (χ (Bc fa fc ga gc c) 25)).alloc (χ (Bm va vc na nc m) 28)) #[.func (.func 86) #[] #[]] 97
  exact Lh (by simpa using this)
 have i0:=b0.o 0 _ rfl
 have i1:=b0.o 1 _ rfl
 have g0:=b1.o 0 _ rfl
 have g1:=b1.o 1 _ rfl
 have f0:=b2.o 0 _ rfl
 have z0:w.heap.size<W.heap.size:=by have:=aI.o;omega
 have z1:w.heap.size+1<W.heap.size:=by have:=aI.o;omega
 have z2:w.heap.size+1+1<W.heap.size:=by have:=aI.o;omega
 have aP:B<=W.heap.size:=ω
 clear aD aK aF aG aE
 by_cases c1:(m.globals.length:Int)=c.globals
 rotate_left
 ·have d:((m.globals.length:Int) != c.globals)=true:=by simpa using c1
  have hr:Hid (Q7 c m=false):=Lh (by unfold Q7;simp [c1])
  go_enter Tryz.func47,Tryz.ntmps47
  go_upto_region 2 with fail
  rw [<-hW]
  clear hW
  go_wp2
  go_ret
  exact ⟨by rw [hr.o];rfl,aC.o⟩
 have d1:((m.globals.length:Int) != c.globals)=false:=by simpa using c1
 by_cases c2:m.nodes.length<=4096
 rotate_left
 ·have d:decide ((4096:Int)<(m.nodes.length:Int))=true:=by simp;omega
  have hr:Hid (Q7 c m=false):=Lh (by unfold Q7;simp [c2])
  clear c1
  go_enter Tryz.func47,Tryz.ntmps47
  go_upto_region 2 with fail
  rw [<-hW]
  clear hW
  go_wp2
  go_ret
  exact ⟨by rw [hr.o];rfl,aC.o⟩
 have d2:decide ((4096:Int)<(m.nodes.length:Int))=false:=by simp;omega
 have hr:Hid (Q7 c m=(!(m.globals.any (fun n=>!X1 n)) && !(m.nodes.any (Z2 c)))):=Lh (by unfold Q7;simp only [c1,c2,decide_true,Bool.true_and])
 clear c1
 go_enter Tryz.func47,Tryz.ntmps47
 go_upto_region 2 with fail
 rw [<-hW]
 clear hW
 go_wp2_with fail
 refine (Y3 86 #[] (fun n=>!X1 n) m.globals _ B W Xuv aP (aN.o.ints (aC.o.mono hB)) (Xxn _)).mono ?_
 rintro e w1 ⟨rfl,aA⟩
 have i0:=Xc aA i0
 have i1:=Xc aA i1
 have g0:=Xc aA g0
 have g1:=Xc aA g1
 have f0:=Xc aA f0
 have z0:=Bl i0
 have z1:=Bl g0
 have z2:=Bl f0
 have aB:=Lh (aC.o.then aA)
 clear aA
 cases hv:m.globals.any (fun n=>!X1 n) with
 | true=>
  have aH:Hid (Q7 c m=false):=Lh (by rw [hr.o,hv];rfl)
  clear hv
  go_wp2
  go_ret
  exact ⟨by rw [aH.o];rfl,aB.o⟩
 | false=>
  have aH:Hid (Q7 c m=!(m.nodes.any (Z2 c))):=Lh (by rw [hr.o,hv];rfl)
  clear hv
  go_wp2_with fail
  refine (Jy 89 #[.pointer (some (π w.heap.size 0)),.pointer (some (π (w.heap.size+1+1) 0))] (Z2 c) m.nodes _ B w1 Xxe (Nt hB aB.o.size) (aO.o.nods (aB.o.mono hB)) (X0o c fa fc _ _ B w1 (Nt hB aB.o.size) (aM.o.ints (aB.o.mono hB)) i0 f0)).mono ?_
  rintro e w2 ⟨rfl,aJ⟩
  have aL:=Lh (aB.o.then aJ)
  clear aJ
  go_wp2
  go_ret
  exact ⟨by rw [aH.o];rfl,aL.o⟩
theorem Xxd:Zn 91:=fun _ _=>by kernel_rfl
theorem Xxb:Zn 92:=fun _ _=>by kernel_rfl
theorem Xy6 (nm nm2:ByteArray) (p l r c:Value) (b:Nat) (w:World) (hb:b<w.heap.size) (h:w.cell? (π b 0)=some (.string nm2)) :
  Calls Tryz.prog 91 #[.agg #[.string nm,p,l,r,c],.pointer (some (π b 0))] w fun e w'=>e=.returned (.bool (Zt nm nm2))/\Below w.heap.size w w':=by
 have h':(w.alloc (χ #[.string nm,p,l,r,c] 93)).cell? (π b 0)=some (.string nm2):=by rw [World.cell?_alloc_past _ _ _ hb];exact h
 go_enter Tryz.func91,Tryz.ntmps91
 go_wp2
 go_ret
 exact ⟨rfl,Br.alloc (Nr _) _⟩
theorem X0a (nm:ByteArray) (b:Nat) (B:Nat) (w:World) (hb:b<w.heap.size) (h:w.cell? (π b 0)=some (.string nm)):∀ (x:Fun) (w1:World) (av:Value),Below w.heap.size w w1->J4 B w1 av x->Calls Tryz.prog 91 (#[av]++#[.pointer (some (π b 0))]) w1 (fun e w2=>e=.returned (.bool (Zt x.name nm))/\Below w1.heap.size w1 w2):=by
 rintro x w1 av aA ⟨cv,rfl,_⟩
 exact Xy6 x.name nm _ _ _ _ b w1 (by have:=aA.size;omega) (by rw [aA.cell (p:=(π b 0)) hb];exact h)
theorem Xy1 (n:Int) (w:World) :
  Calls Tryz.prog 92 #[ι n] w fun e w'=>e=.returned (.bool (!X1 n))/\w=w':=by
 go_enter Tryz.func92,Tryz.ntmps92
 go_wp2_with (go_at_call 87;refine (Xwt n _).mono ?_;rintro e w' ⟨rfl,rfl⟩)
 go_ret
 exact ⟨rfl,rfl⟩
theorem Xz9 (w:World):∀ (x:Int) (w1:World) (av:Value),Below w.heap.size w w1->Xlj 0 w1 av x->Calls Tryz.prog 92 (#[av]++#[]) w1 (fun e w2=>e=.returned (.bool (!X1 x))/\Below w1.heap.size w1 w2):=by
 rintro x w1 av _ ⟨rfl,_⟩
 exact (Xy1 x w1).mono fun e w2 ⟨he,hw⟩=>⟨he,hw▸Below.refl _ _⟩
def Xz2 (c:Cod) (x:Cal) (w:World) (e:Ending) (w':World):Prop:=e=.returned (ι (Yd c x 0))/\Below w.heap.size w w'
theorem Xt2 {c:Cod} {x:Cal} {n:Int} {w w':World} (h:Yd c x 0=n) (hb:Below w.heap.size w w'):Xz2 c x w (.returned (ι n)) w':=⟨by rw [h],hb⟩
theorem X1k {c:Cod} {x:Cal} (hi:Q8 c x.proc = -1):Yd c x 0=9:=by
 unfold Yd
 rw [if_neg ω]
 cases c.funcs[(Q8 c x.proc).toNat]? with
 | none=>rfl
 | some y=>simp only [];rw [if_pos ω]
theorem X01 {c:Cod} {x:Cal} {k:Nat} {y:Fun} (hi:Q8 c x.proc=k) (hy:c.funcs[k]?=some y):Yd c x 0=if (x.args.length:Int)≠y.params then 3 else if x.args.any (fun n=>!X1 n) then 11 else 0:=by
 unfold Yd
 rw [if_neg ω,hi]
 simp only [Int.toNat_natCast,hy]
 rw [if_neg ω]
theorem Xw5 (c:Cod) (cv:Value) (x:Cal) (xv:Value) (B:Nat) (w:World) (hB:B<=w.heap.size) (hc:Yj B w cv c) (hx:J8 B w xv x) :
  Calls Tryz.prog 49 #[cv,xv] w (Xz2 c x w):=by
 have bA:∀ (fn:Fn) (first cap:Array Value) (w:World),(Instr.makeFunc fn first cap).run Tryz.prog w=.ok (.func fn first cap) w:=fun _ _ _ _=>rfl
 obtain ⟨fv,gv,rfl,hf,hg,aR⟩:=hc
 obtain ⟨fa,fc,rfl⟩:=hf.form
 obtain ⟨ga,gc,rfl⟩:=hg.form
 obtain ⟨av,rfl,aK,bC⟩:=hx
 obtain ⟨xa,xc,rfl⟩:=aK.form
 obtain ⟨W,hW⟩:∃ W,W=(w.alloc (χ (Bc fa fc ga gc c) 25)).alloc (χ #[.string x.proc,σ xa x.args.length xc] 80):=⟨_,rfl⟩
 have aD:Hid (Below w.heap.size w W):=by rw [hW];exact Lh ((Xa _ _).then (Xa _ _))
 have bB:Hid (W.heap.size=w.heap.size+2):=by rw [hW];exact Lh ψ
 have b0:Hid (Xo W w.heap.size [σ fa c.fields.length fc,ι c.globals,σ ga c.funcs.length gc]):=by rw [hW];exact Lh (Xd.alloc _)
 have b1:Hid (Xo W (w.heap.size+1) [.string x.proc,σ xa x.args.length xc]):=by
  rw [hW]
  have:=@Xd (w.alloc (χ (Bc fa fc ga gc c) 25)) #[.string x.proc,σ xa x.args.length xc] 80
  exact Lh (by simpa using this)
 have i2:=b0.o 2 _ rfl
 have x0:=b1.o 0 _ rfl
 have x1:=b1.o 1 _ rfl
 have z0:=Bl i2
 have z1:w.heap.size+1<W.heap.size:=Bl x0
 have aJ:B<=W.heap.size:=Nt hB aD.o.size
 have HG:=Lh (hg.funs (aD.o.mono hB))
 have aQ:=Lh (aK.ints (aD.o.mono hB))
 have aP:=Lh x0
 clear hf hg aK
 go_enter Tryz.func49,Tryz.ntmps49
 go_upto_region 1 with fail
 rw [<-hW]
 clear hW
 go_wp2_with fail
 refine (Xae 91 #[.pointer (some (π (w.heap.size+1) 0))] (fun f=>Zt f.name x.proc) c.funcs _ B _ Xxd aJ HG.o (X0a x.proc _ B _ z1 aP.o)).mono ?_
 rintro e w1 ⟨rfl,aB⟩
 have i2:=Xc aB i2
 have x0:=Xc aB x0
 have x1:=Xc aB x1
 have z0:=Bl i2
 have z1:=Bl x0
 have aE:=Lh (aD.o.then aB)
 have aO:=Lh (HG.o.funs (aB.mono aJ))
 have aG:=Lh (aQ.o.ints (aB.mono aJ))
 clear aB
 rcases Xca (fun f=>Zt f.name x.proc) c.funcs with hi|⟨k,hk,hi⟩
 ·have HE:Hid (Yd c x 0=9):=Lh (X1k hi)
  rw [hi]
  clear hi
  go_wp2
  go_ret
  exact Xt2 HE.o aE.o
 obtain ⟨y,hy⟩:∃ y,c.funcs[k]?=some y:=⟨_,Lg hk⟩
 have aF:Hid (Yd c x 0=if (x.args.length:Int)≠y.params then 3 else if x.args.any (fun n=>!X1 n) then 11 else 0):=Lh (X01 hi hy)
 rw [hi]
 clear hi
 obtain ⟨a0,aI,aN,aX,aY,aZ,hE⟩:=aO.o
 obtain ⟨rfl,rfl⟩:ga=a0/\gc=aI:=by simpa using aN
 rcases hE with h0|⟨yb,yo,rfl,aT,hE⟩
 ·rw [h0] at hy;simp at hy
 have p1:=(hE k y hy).2.1
 have zy:=Bl p1
 have aU:(0:Int)<=(k:Int):=In _
 have aV:(k:Int)<(c.funcs.length:Int):=ω
 have aW:decide ((k:Int)<0)=false:=by simp
 clear aN hE hy
 by_cases hl:(x.args.length:Int)=y.params
 rotate_left
 ·have HE:Hid (Yd c x 0=3):=Lh (by rw [aF.o,if_pos hl])
  have aC:((x.args.length:Int) != y.params)=true:=by simp [hl]
  clear hl
  go_wp2_with fail
  go_quiet (fail)
  have aA:=Lh (Xh aE.o nq)
  go_wp2
  go_ret
  exact Xt2 HE.o aA.o
 have HL:=Lh hl
 have aC:((x.args.length:Int) != y.params)=false:=by simp [hl]
 rw [<-hl] at p1
 have aS:((x.args.length:Int) != (x.args.length:Int))=false:=by simp
 clear hl aC
 go_wp2_with fail
 go_quiet (fail)
 have aA:=Lh (Xh aE.o nq)
 have aH:=Lh (aG.o.ints (Xh Br nq))
 go_wp2_with fail
 refine (Y3 92 #[] (fun n=>!X1 n) x.args _ B _ Xxb (Nt hB aA.o.size) aH.o (Xz9 _)).mono ?_
 rintro e w2 ⟨rfl,aM⟩
 have aL:=Lh (aA.o.then aM)
 clear aM
 cases hv:x.args.any (fun n=>!X1 n) with
 | true=>
  have HE:Hid (Yd c x 0=11):=Lh (by rw [aF.o,if_neg (by rw [HL.o];simp),if_pos hv])
  clear hv
  go_wp2
  go_ret
  exact Xt2 HE.o aL.o
 | false=>
  have HE:Hid (Yd c x 0=0):=Lh (by rw [aF.o,if_neg (by rw [HL.o];simp),if_neg (by rw [hv];simp)])
  clear hv
  go_wp2
  go_ret
  exact Xt2 HE.o aL.o
