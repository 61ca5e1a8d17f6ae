import Derived.Test.YtiejafonjemioaaGreatDoorTh4
import Derived.Laws.EntriesVeiled
set_option maxHeartbeats 4000000
set_option maxRecDepth 100000
set_option linter.unusedVariables false
set_option linter.unusedSimpArgs false
open Go.Value renaming slice→σ
open Go.Obj renaming cells→χ
namespace Go.Proofs.YtiejafonjemioaaGreatDoor
open Go.RowKit
theorem Xf.fr {α:Type} {B:Nat} {w:World} {sz:Nat} {E:World->Nat->Nat->α->Prop} {v:Value} {l:List α} (h:Xf B w sz E v l):∃ a cap,v=σ a l.length cap/\l.length<=140737488355328:=by
 obtain ⟨a,cap,h1,h2,_⟩:=h
 exact ⟨a,cap,h1,h2⟩
def BoB (w:World) (e:Ending) (w':World):Prop:=∃ b,e=.returned (.bool b)/\Below w.heap.size w w'
def BoI (b:Bool) (w:World) (e:Ending) (w':World):Prop:=e=.returned (.bool b)/\Below w.heap.size w w'
theorem X27 {a b:Bool} (h:a=b):Ending.returned (.bool a)=Ending.returned (.bool b):=by rw [h]
theorem boI {a b:Bool} {w w':World} (h:a=b) (hb:Below w.heap.size w w'):BoI b w (.returned (.bool a)) w':=⟨X27 h,hb⟩
def Xuc (x:Cal):Bool:=decide (100<(x.proc.size:Int)) || decide (20<(x.args.length:Int))
def Xtc (l:List Cal):Bool:=((decide (6<(l.length:Int)) && decide ((l.length:Int)<=2000)) || decide (2005<(l.length:Int))) || l.any Xuc
def X0f (l:List (List Cal)):Bool:=decide ((l.length:Int)<=10) && !(l.any Xtc)
theorem Xyg:Zn 37:=fun _ _=>by kernel_rfl
theorem Xyt:Zn 35:=fun _ _=>by kernel_rfl
theorem X0u (x:Cal) (xv:Value) (B:Nat) (w:World) (hx:J8 B w xv x):Calls Tryz.prog 37 #[xv] w (BoI (Xuc x) w):=by
 obtain ⟨av,rfl,ha,hp⟩:=hx
 obtain ⟨xa,xc,rfl,hl⟩:=ha.fr
 unfold Xuc
 obtain ⟨xn,aA⟩:∃ n,n=x.args.length:=⟨_,rfl⟩
 rw [<-aA] at hl ⊢
 clear ha aA
 by_cases aB:(x.proc.size:Int)<=100
 all_goals
  go_enter Tryz.func37,Tryz.ntmps37
  go_wp2
  go_ret
  exact boI (by simp<;>omega) (Xa _ _)
theorem X2s (B:Nat) (w:World):∀ (x:Cal) (w1:World) (av:Value),Below w.heap.size w w1->J8 B w1 av x->Calls Tryz.prog 37 (#[av]++#[]) w1 (fun e w2=>e=.returned (.bool (Xuc x))/\Below w1.heap.size w1 w2):=fun x w1 av _ hx=>X0u x av B w1 hx
theorem X1m (l:List Cal) (lv:Value) (B:Nat) (w:World) (hB:B<=w.heap.size) (hl:Xxk B w lv l):Calls Tryz.prog 35 #[lv] w (BoI (Xtc l) w):=by
 have HL:=Lh hl
 obtain ⟨la,lc,rfl,aD⟩:=hl.fr
 have hd:Hid (Xtc l=(((decide (6<(l.length:Int)) && decide ((l.length:Int)<=2000)) || decide (2005<(l.length:Int))) || l.any Xuc)):=Lh rfl
 obtain ⟨n,hn⟩:∃ n,n=l.length:=⟨_,rfl⟩
 rw [<-hn] at hd aD HL ⊢
 clear hl hn
 by_cases aA:(6<(n:Int)/\(n:Int)<=2000)
 ·obtain ⟨h1,h2⟩:=aA
  go_enter Tryz.func35,Tryz.ntmps35
  go_wp2
  go_ret
  exact boI (by rw [hd.o];simp<;>omega) Br
 by_cases aF:2005<(n:Int)
 ·have h6:6<(n:Int):=ω
  have h7:¬(n:Int)<=2000:=ω
  clear aA
  go_enter Tryz.func35,Tryz.ntmps35
  go_wp2
  go_ret
  exact boI (by rw [hd.o];simp<;>omega) Br
 have aE:Hid (Xtc l=l.any Xuc):=Lh (by
  rw [hd.o,show (decide (6<(n:Int)) && decide ((n:Int)<=2000))=false by simp;omega,show decide (2005<(n:Int))=false by simp;omega];rfl)
 rcases (show ¬6<(n:Int)\/(6<(n:Int)/\¬(n:Int)<=2000) by omega) with h6|⟨h6,h7⟩
 all_goals
  clear aA
  go_enter Tryz.func35,Tryz.ntmps35
  go_wp2_with fail
  refine (Xtm 37 #[] Xuc l _ B w Xyg hB HL.o (X2s B w)).mono ?_
  rintro e w1 ⟨rfl,aB⟩
  have aC:=Lh aB
  clear aB
  go_wp2
  go_ret
  exact boI aE.o.symm aC.o
theorem X2g (B:Nat) (w:World) (hB:B<=w.heap.size):∀ (x:List Cal) (w1:World) (av:Value),Below w.heap.size w w1->Xxk B w1 av x->Calls Tryz.prog 35 (#[av]++#[]) w1 (fun e w2=>e=.returned (.bool (Xtc x))/\Below w1.heap.size w1 w2):=fun x w1 av hb hx=>X1m x av B w1 (Nt hB hb.size) hx
theorem X0v (l:List (List Cal)) (lv:Value) (B:Nat) (w:World) (hB:B<=w.heap.size) (hl:Xf B w 1 (Xsa 2 (Xsr B) B) lv l):Calls Tryz.prog 10 #[lv] w (BoI (X0f l) w):=by
 have HL:=Lh hl
 obtain ⟨la,lc,rfl,aC⟩:=hl.fr
 have hd:Hid (X0f l=(decide ((l.length:Int)<=10) && !(l.any Xtc))):=Lh rfl
 obtain ⟨n,hn⟩:∃ n,n=l.length:=⟨_,rfl⟩
 rw [<-hn] at hd aC HL ⊢
 clear hl hn
 by_cases aE:(n:Int)<=10
 rotate_left
 ·go_enter Tryz.func10,Tryz.ntmps10
  go_wp2
  go_ret
  exact boI (by rw [hd.o];simp<;>omega) Br
 have aD:Hid (X0f l=!(l.any Xtc)):=Lh (by rw [hd.o,show decide ((n:Int)<=10)=true by simp;omega];rfl)
 go_enter Tryz.func10,Tryz.ntmps10
 go_wp2_with fail
 refine (Xs0 35 #[] Xtc l _ B w Xyt hB HL.o (X2g B w hB)).mono ?_
 rintro e w1 ⟨rfl,aA⟩
 have aB:=Lh aA
 clear aA
 go_wp2
 go_ret
 exact boI aD.o.symm aB.o
theorem X34 {l:List (List Cal)} (h:X0f l=true):l.length<=10/\∀ x∈l,x.length<=2005/\∀ y∈x,y.args.length<=20/\y.proc.size<=100:=by
 unfold X0f at h
 simp only [Bool.and_eq_true,decide_eq_true_eq,Bool.not_eq_true',List.any_eq_false] at h
 refine ⟨ω,fun x hx=>?_⟩
 have h2:=h.2 x hx
 unfold Xtc at h2
 simp only [Bool.or_eq_true,Bool.and_eq_true,decide_eq_true_eq,not_or,List.any_eq_true,not_exists,not_and] at h2
 refine ⟨ω,fun y hy=>?_⟩
 have h3:=h2.2 y hy
 unfold Xuc at h3
 simp only [Bool.or_eq_true,decide_eq_true_eq,not_or] at h3
 omega
def Xux (f:Fra):Bool:=decide (60<(f.locals.length:Int)) || decide (60<(f.stack.length:Int))
def Xuj (m:Mch):Bool:=decide ((m.frames.length:Int)<=20) && !(m.frames.any Xux)
theorem Xym:Zn 82:=fun _ _=>by kernel_rfl
theorem X1q (x:Fra) (xv:Value) (B:Nat) (w:World) (hx:Xq0 B w xv x):Calls Tryz.prog 82 #[xv] w (BoI (Xux x) w):=by
 obtain ⟨lv,sv,rfl,hl,hs,_⟩:=hx
 obtain ⟨la,lc,rfl,h1⟩:=hl.fr
 obtain ⟨sa,sc,rfl,h2⟩:=hs.fr
 unfold Xux
 obtain ⟨ln,aA⟩:∃ n,n=x.locals.length:=⟨_,rfl⟩
 obtain ⟨sn,aB⟩:∃ n,n=x.stack.length:=⟨_,rfl⟩
 rw [<-aA] at h1 ⊢
 rw [<-aB] at h2 ⊢
 clear hl hs aA aB
 by_cases aC:(ln:Int)<=60
 all_goals
  go_enter Tryz.func82,Tryz.ntmps82
  go_wp2
  go_ret
  exact boI (by simp<;>omega) (Xa _ _)
theorem X2t (B:Nat) (w:World):∀ (x:Fra) (w1:World) (av:Value),Below w.heap.size w w1->Xq0 B w1 av x->Calls Tryz.prog 82 (#[av]++#[]) w1 (fun e w2=>e=.returned (.bool (Xux x))/\Below w1.heap.size w1 w2):=fun x w1 av _ hx=>X1q x av B w1 hx
theorem Xyx (m:Mch) (mv:Value) (B:Nat) (w:World) (hB:B<=w.heap.size) (hm:Xq8 B w mv m):Calls Tryz.prog 42 #[mv] w (BoI (Xuj m) w):=by
 obtain ⟨fv,rfl,hf,-⟩:=hm
 have HF:=Lh hf
 obtain ⟨fa,fc,rfl,aE⟩:=hf.fr
 have hd:Hid (Xuj m=(decide ((m.frames.length:Int)<=20) && !(m.frames.any Xux))):=Lh rfl
 obtain ⟨n,hn⟩:∃ n,n=m.frames.length:=⟨_,rfl⟩
 rw [<-hn] at hd aE HF ⊢
 clear hf hn
 obtain ⟨W,hW⟩:∃ W,W=w.alloc (χ #[σ fa n fc,ι m.req.kind,ι m.req.node,ι m.req.field,ι m.req.value,ι m.req.fault,ι m.fuel,ι m.compares,ι m.idle] 51):=⟨_,rfl⟩
 have aA:Hid (Below w.heap.size w W):=by rw [hW];exact Lh (Xa _ _)
 have aC:W.heap[w.heap.size]?=some (χ #[σ fa n fc,ι m.req.kind,ι m.req.node,ι m.req.field,ι m.req.value,ι m.req.fault,ι m.fuel,ι m.compares,ι m.idle] 51 (0,0)):=by rw [hW];exact Hn _ _
 have k0:=Cw aC 0 rfl
 have aF:B<=W.heap.size:=Nt hB aA.o.size
 have HF:=Lh (HF.o.fras (aA.o.mono hB))
 have zz:=Bl k0
 clear aC
 go_enter Tryz.func42,Tryz.ntmps42
 go_upto_region 1 with fail
 rw [<-hW]
 clear hW
 by_cases aH:(n:Int)<=20
 rotate_left
 ·go_wp2
  go_ret
  exact boI (by rw [hd.o];simp<;>omega) aA.o
 have aG:Hid (Xuj m=!(m.frames.any Xux)):=Lh (by rw [hd.o,show decide ((n:Int)<=20)=true by simp;omega];rfl)
 go_wp2_with fail
 refine (Xa7 82 #[] Xux m.frames _ B W Xym aF HF.o (X2t B W)).mono ?_
 rintro e w1 ⟨rfl,aB⟩
 have aD:=Lh (aA.o.then aB)
 clear aB
 go_wp2
 go_ret
 exact boI aG.o.symm aD.o
def X0g (c:Cod) (w:World) (e:Ending) (w':World):Prop:=∃ b,e=.returned (.bool b)/\(b=true->c.fields.length<=100/\c.funcs.length<=20/\∀ y∈c.funcs,y.code.length<=600)/\Below w.heap.size w w'
theorem X3u (c:Cod) (cv:Value) (B:Nat) (w:World) (hB:B<=w.heap.size) (hc:Yj B w cv c):Calls Tryz.prog 8 #[cv] w (X0g c w):=by
 obtain ⟨fv,gv,rfl,hf,hg,aX⟩:=hc
 obtain ⟨fa,fc,rfl,aQ⟩:=hf.fr
 obtain ⟨ga,gc,rfl,aR⟩:=hg.fr
 have HG:=Lh hg
 obtain ⟨fn,aF⟩:∃ n,n=c.fields.length:=⟨_,rfl⟩
 obtain ⟨gn,aB⟩:∃ n,n=c.funcs.length:=⟨_,rfl⟩
 rw [<-aB] at aR HG ⊢
 rw [<-aF] at aQ ⊢
 have aI:=Lh aB
 have aL:=Lh aF
 obtain ⟨W,hW⟩:∃ W,W=w.alloc (χ #[σ fa fn fc,ι c.globals,σ ga gn gc] 25):=⟨_,rfl⟩
 have aA:Hid (Below w.heap.size w W):=by rw [hW];exact Lh (Xa _ _)
 have aG:W.heap[w.heap.size]?=some (χ #[σ fa fn fc,ι c.globals,σ ga gn gc] 25 (0,0)):=by rw [hW];exact Hn _ _
 have p0:=Cw aG 0 rfl
 have p2:=Cw aG 2 rfl
 have zp:=Bl p0
 clear hf hg aB aF aG
 go_enter Tryz.func8,Tryz.ntmps8
 go_upto_region 1 with fail
 rw [<-hW]
 clear hW
 by_cases bC:(gn:Int)<=20
 rotate_left
 ·go_wp2
  go_ret
  exact ⟨false,rfl,ψ,aA.o⟩
 by_cases bD:(fn:Int)<=100
 rotate_left
 ·go_wp2
  go_ret
  exact ⟨false,rfl,ψ,aA.o⟩
 go_wp2_with fail
 go_loopw [3,19] (fun n i wr=>∃ k z:Nat,k<=gn/\i=ι k/\n=ι z/\z<=600/\Hid (∀ y∈c.funcs.take k,y.code.length<=z)/\Hid (Below W.heap.size W wr)) (fun _ i _=>gn - (intOf i).toNat)
 case atStart=>exact ⟨0,0,Nat.zero_le _,rfl,rfl,ω,Lh ψ,Lh Br⟩
 case round=>
  obtain ⟨k,z,hk,rfl,rfl,hz,aC,hb⟩:=hrel
  have aM:B<=W.heap.size:=Nt hB aA.o.size
  have aN:Hid (Below B w wr):=Lh ((aA.o.mono hB).trans (hb.o.mono aM))
  have s2:=Xc hb.o p2
  have zs:=Bl s2
  by_cases bA:k<gn
  ·obtain ⟨f,hx⟩:∃ x,c.funcs[k]?=some x:=⟨_,Lg (by have:=aI.o;omega)⟩
   rcases HG.o.funs aN.o with ⟨a0,aD,aJ,aS,aT,aU,hE⟩
   obtain ⟨rfl,-,rfl⟩:ga=a0/\gn=c.funcs.length/\gc=aD:=by simpa using aJ
   rcases hE with h0|⟨b,o,rfl,aO,hE⟩
   ·rw [h0] at hx;simp at hx
   obtain ⟨h1,h2,h3,h4,⟨cv,h5,h6⟩,h7⟩:=hE k f hx
   obtain ⟨ca,cc,rfl,aP⟩:=h6.fr
   have HX:=Lh hx
   obtain ⟨cn,aE⟩:∃ n,n=f.code.length:=⟨_,rfl⟩
   rw [<-aE] at h5 aP
   have aK:=Lh aE
   have z1:=Bl h1
   have aY:(0:Int)<=(k:Int):=In _
   have aZ:(k:Int)<(gn:Int):=ω
   have bG:(0:Int)<=(z:Int):=In _
   have aW:(0:Int)<=(cn:Int):=In _
   have bB:=h7.1
   clear hx h6 aE aJ hE h7 aS aT aU
   by_cases bE:(f.name.size:Int)<=100
   rotate_left
   ·go_wp2
    go_ret
    exact ⟨false,rfl,ψ,(aA.o.then hb.o).then (Xa _ _)⟩
   by_cases bF:(z:Int)+(cn:Int)<=600
   rotate_left
   ·go_wp2
    go_ret
    exact ⟨false,rfl,ψ,(aA.o.then hb.o).then (Xa _ _)⟩
   have aV:Hid (∀ y∈c.funcs.take (k+1),y.code.length<=z+cn):=Lh (fun y hy=>by
    rw [List.take_add_one,HX.o] at hy
    rcases List.mem_append.1 hy with hy|hy
    ·have:=aC.o y hy;omega
    ·simp at hy;subst hy;have:=aK.o;omega)
   go_wp2
   go_roundw
   case rel=>exact ⟨k+1,z+cn,ω,by go_num,by go_num,ω,aV,Lh (hb.o.then (Xa _ _))⟩
   case measure=>simp [intOf];omega
  ·obtain rfl:k=gn:=ω
   have aH:Hid (c.fields.length<=100/\c.funcs.length<=20/\∀ y∈c.funcs,y.code.length<=600):=Lh (by
    have h1:=aI.o
    have h2:=aL.o
    refine ⟨ω,ω,fun y hy=>?_⟩
    have:=aC.o y (by rw [h1,List.take_length];exact hy)
    omega)
   have HB:=Lh (aA.o.then hb.o)
   go_wp2
   go_ret
   exact ⟨true,rfl,fun _=>aH.o,HB.o⟩
def Xv1 (m:Mm):Bool:=decide (60<(m.globals.length:Int)) || (decide (60<(m.nodes.length:Int)) || m.nodes.any (fun x=>decide (60<(x.f.length:Int))))
theorem X3z {m:Mm} (h:Xv1 m=false):m.globals.length<=60/\m.nodes.length<=60/\∀ x∈m.nodes,x.f.length<=60:=by
 unfold Xv1 at h
 simp only [Bool.or_eq_false_iff,decide_eq_false_iff_not,List.any_eq_false,decide_eq_true_eq] at h
 exact ⟨ω,ω,fun x hx=>by have:=h.2.2 x hx;omega⟩
theorem X03 (m:Mm) (mv:Value) (B:Nat) (w:World) (hB:B<=w.heap.size) (hm:MmV B w mv m):Calls Tryz.prog 9 #[mv] w (BoI (Xv1 m) w):=by
 obtain ⟨gv,nv,rfl,hg,hn⟩:=hm
 obtain ⟨ga,gc,rfl,aP⟩:=hg.fr
 obtain ⟨na,nc,rfl,aU⟩:=hn.fr
 have HN:=Lh hn
 have hd:Hid (Xv1 m=(decide (60<(m.globals.length:Int)) || (decide (60<(m.nodes.length:Int)) || m.nodes.any (fun x=>decide (60<(x.f.length:Int)))))):=Lh rfl
 obtain ⟨gn,aL⟩:∃ n,n=m.globals.length:=⟨_,rfl⟩
 obtain ⟨nn,aF⟩:∃ n,n=m.nodes.length:=⟨_,rfl⟩
 rw [<-aF] at aU HN hd ⊢
 rw [<-aL] at aP hd ⊢
 have aI:=Lh aF
 obtain ⟨W,hW⟩:∃ W,W=w.alloc (χ #[σ ga gn gc,σ na nn nc] 28):=⟨_,rfl⟩
 have aB:Hid (Below w.heap.size w W):=by rw [hW];exact Lh (Xa _ _)
 have aG:W.heap[w.heap.size]?=some (χ #[σ ga gn gc,σ na nn nc] 28 (0,0)):=by rw [hW];exact Hn _ _
 have p0:=Cw aG 0 rfl
 have p1:=Cw aG 1 rfl
 have zp:=Bl p0
 have aM:B<=W.heap.size:=Nt hB aB.o.size
 clear hg hn aL aF aG
 go_enter Tryz.func9,Tryz.ntmps9
 go_upto_region 1 with fail
 rw [<-hW]
 clear hW
 by_cases aZ:(gn:Int)<=60
 rotate_left
 ·go_wp2
  go_ret
  exact boI (by rw [hd.o,show decide (60<(gn:Int))=true by simp;omega];rfl) aB.o
 by_cases bA:(nn:Int)<=60
 rotate_left
 ·go_wp2
  go_ret
  exact boI (by rw [hd.o,show decide (60<(nn:Int))=true by simp;omega];simp) aB.o
 have aJ:Hid (Xv1 m=m.nodes.any (fun x=>decide (60<(x.f.length:Int)))):=Lh (by rw [hd.o,show decide (60<(gn:Int))=false by simp;omega,show decide (60<(nn:Int))=false by simp;omega];rfl)
 go_wp2_with fail
 go_loopw [3] (fun i wr=>∃ k:Nat,k<=nn/\i=ι k/\Hid (∀ y∈m.nodes.take k,y.f.length<=60)/\Hid (Below W.heap.size W wr)) (fun i _=>nn - (intOf i).toNat)
 case atStart=>exact ⟨0,Nat.zero_le _,rfl,Lh ψ,Lh Br⟩
 case round=>
  obtain ⟨k,hk,rfl,aC,hb⟩:=hrel
  have aN:Hid (Below B w wr):=Lh ((aB.o.mono hB).trans (hb.o.mono aM))
  have s1:=Xc hb.o p1
  have zs:=Bl s1
  by_cases aY:k<nn
  ·obtain ⟨x,hx⟩:∃ x,m.nodes[k]?=some x:=⟨_,Lg (by have:=aI.o;omega)⟩
   rcases HN.o.nods aN.o with ⟨a0,aD,aK,aQ,aR,aS,hE⟩
   obtain ⟨rfl,-,rfl⟩:na=a0/\nn=m.nodes.length/\nc=aD:=by simpa using aK
   rcases hE with h0|⟨b,o,rfl,aO,hE⟩
   ·rw [h0] at hx;simp at hx
   obtain ⟨h1,⟨lv,h2,h3⟩,h4⟩:=hE k x hx
   obtain ⟨la,lc,rfl,aT⟩:=h3.fr
   have HX:=Lh hx
   obtain ⟨ln,aE⟩:∃ n,n=x.f.length:=⟨_,rfl⟩
   rw [<-aE] at h2 aT
   have aH:=Lh aE
   have z1:=Bl h1
   have aW:(0:Int)<=(k:Int):=In _
   have aX:(k:Int)<(nn:Int):=ω
   clear hx h3 aE aK hE aQ aR aS
   by_cases bB:(ln:Int)<=60
   ·have aV:Hid (∀ y∈m.nodes.take (k+1),y.f.length<=60):=Lh (fun y hy=>by
     rw [List.take_add_one,HX.o] at hy
     rcases List.mem_append.1 hy with hy|hy
     ·exact aC.o y hy
     ·simp at hy;subst hy;have:=aH.o;omega)
    go_wp2
    go_roundw
    case rel=>exact ⟨k+1,ω,by go_num,aV,hb⟩
    case measure=>simp [intOf];omega
   ·have aA:Hid (Xv1 m=true):=Lh (by
     rw [aJ.o,List.any_eq_true]
     exact ⟨x,Lm HX.o,by have:=aH.o;simp;omega⟩)
    go_wp2
    go_ret
    exact boI aA.o.symm (aB.o.then hb.o)
  ·obtain rfl:k=nn:=ω
   have aA:Hid (Xv1 m=false):=Lh (by
    rw [aJ.o,List.any_eq_false]
    intro y hy
    have:=aC.o y (by rw [aI.o,List.take_length];exact hy)
    simp;omega)
   go_wp2
   go_ret
   exact boI aA.o.symm (aB.o.then hb.o)
def Xv4 (n:Int):Bool:=decide (549755813888<n) && decide (n<=1099511627776)
def Xxm (m:Mch):Bool:=(Xv4 m.compares || !Xuj m) || (decide (300<m.fuel) && decide (m.fuel<=1048576))
theorem Xwf:Zn 38:=fun _ _=>by kernel_rfl
theorem Xy3:Zn 41:=fun _ _=>by kernel_rfl
theorem Xy5:Zn 45:=fun _ _=>by kernel_rfl
theorem X2o (x:List Int) (xv:Value) (B:Nat) (w:World) (hx:Xzz B w xv x):Calls Tryz.prog 38 #[xv] w (BoI (decide (40<(x.length:Int))) w):=by
 obtain ⟨a,c,rfl,h⟩:=Xf.fr hx
 clear hx
 go_enter Tryz.func38,Tryz.ntmps38
 go_wp2
 go_ret
 exact boI rfl Br
theorem X0y (B:Nat) (w:World):∀ (x:List Int) (w1:World) (av:Value),Below w.heap.size w w1->Xzz B w1 av x->Calls Tryz.prog 38 (#[av]++#[]) w1 (fun e w2=>e=.returned (.bool (decide (40<(x.length:Int))))/\Below w1.heap.size w1 w2):=fun x w1 av _ hx=>X2o x av B w1 hx
theorem X2d (x:List Xr7) (xv:Value) (B:Nat) (w:World) (hx:Xz0 B w xv x):Calls Tryz.prog 45 #[xv] w (BoI (decide (40<(x.length:Int))) w):=by
 obtain ⟨_,hx⟩:=hx
 obtain ⟨a,c,rfl,h⟩:=Xf.fr hx
 clear hx
 go_enter Tryz.func45,Tryz.ntmps45
 go_wp2
 go_ret
 exact boI rfl Br
theorem X3c (B:Nat) (w:World):∀ (x:List Xr7) (w1:World) (av:Value),Below w.heap.size w w1->Xz0 B w1 av x->Calls Tryz.prog 45 (#[av]++#[]) w1 (fun e w2=>e=.returned (.bool (decide (40<(x.length:Int))))/\Below w1.heap.size w1 w2):=fun x w1 av _ hx=>X2d x av B w1 hx
theorem Xzu (n:Int) (w:World):Calls Tryz.prog 39 #[ι n] w (fun e w'=>e=.returned (.bool (Xv4 n))/\w=w'):=by
 unfold Xv4
 by_cases aA:549755813888<n
 all_goals
  go_enter Tryz.func39,Tryz.ntmps39
  go_wp2
  go_ret
  exact ⟨X27 (by simp<;>omega),rfl⟩
theorem X3p (w:World):∀ (x:Int) (w1:World) (av:Value),Below w.heap.size w w1->Xlj 0 w1 av x->Calls Tryz.prog 39 (#[av]++#[]) w1 (fun e w2=>e=.returned (.bool (Xv4 x))/\Below w1.heap.size w1 w2):=by
 rintro x w1 av _ ⟨rfl,_⟩
 exact (Xzu x w1).mono fun e w2 ⟨he,hw⟩=>⟨he,hw▸Below.refl _ _⟩
theorem X11 (m:Mch) (mv:Value) (b B:Nat) (w:World) (hB:B<=w.heap.size) (hb:w.cell? (π b 0)=some (.func (.func 39) #[] #[])) (hm:Xq8 B w mv m):Calls Tryz.prog 41 #[mv,.pointer (some (π b 0))] w (BoI (Xxm m) w):=by
 have HM:=Lh hm
 obtain ⟨fv,rfl,hf,-⟩:=hm
 obtain ⟨fa,fc,rfl,aE⟩:=hf.fr
 obtain ⟨n,hn⟩:∃ n,n=m.frames.length:=⟨_,rfl⟩
 rw [<-hn] at aE HM ⊢
 clear hf hn
 obtain ⟨W,hW⟩:∃ W,W=w.alloc (χ #[σ fa n fc,ι m.req.kind,ι m.req.node,ι m.req.field,ι m.req.value,ι m.req.fault,ι m.fuel,ι m.compares,ι m.idle] 51):=⟨_,rfl⟩
 have aB:Hid (Below w.heap.size w W):=by rw [hW];exact Lh (Xa _ _)
 have aA:W.heap[w.heap.size]?=some (χ #[σ fa n fc,ι m.req.kind,ι m.req.node,ι m.req.field,ι m.req.value,ι m.req.fault,ι m.fuel,ι m.compares,ι m.idle] 51 (0,0)):=by rw [hW];exact Hn _ _
 have k0:=Cw aA 0 rfl
 have k1:=Cw aA 1 rfl
 have k2:=Cw aA 2 rfl
 have k3:=Cw aA 3 rfl
 have k4:=Cw aA 4 rfl
 have k5:=Cw aA 5 rfl
 have k6:=Cw aA 6 rfl
 have k7:=Cw aA 7 rfl
 have k8:=Cw aA 8 rfl
 have kb:=Xc aB.o hb
 have aF:B<=W.heap.size:=Nt hB aB.o.size
 have HM:=Lh (HM.o.below (aB.o.mono hB))
 have zz:=Bl k0
 have hd:Hid (Xxm m=((Xv4 m.compares || !Xuj m) || (decide (300<m.fuel) && decide (m.fuel<=1048576)))):=Lh rfl
 clear aA hb
 go_enter Tryz.func41,Tryz.ntmps41
 go_upto_region 1 with fail
 rw [<-hW]
 clear hW
 go_wp2_with fail
 refine (Xzu m.compares W).mono ?_
 rintro e w1 ⟨rfl,rfl⟩
 cases hq:Xv4 m.compares with
 | true=>
  rw [hq] at hd
  have HD:=Lh hd.o
  clear hq hd
  go_wp2
  go_ret
  exact boI (by rw [HD.o];rfl) aB.o
 | false=>
  rw [hq] at hd
  clear hq
  go_wp2_with fail
  refine (Xyx m _ B W aF HM.o).mono ?_
  rintro e w2 ⟨rfl,aC⟩
  have aD:=Lh (aB.o.then aC)
  have k6:=Xc aC k6
  have zz:=Bl k6
  clear aC k0 k1 k2 k3 k4 k5 k7 k8 kb
  cases hq:Xuj m with
  | false=>
   rw [hq] at hd
   clear hq
   go_wp2
   go_ret
   exact boI (by rw [hd.o];rfl) aD.o
  | true=>
   rw [hq] at hd
   have aG:Hid (Xxm m=(decide (300<m.fuel) && decide (m.fuel<=1048576))):=Lh (by rw [hd.o];simp)
   clear hq
   by_cases h3:300<m.fuel
   all_goals
    go_wp2
    go_ret
    exact boI (by rw [aG.o];simp<;>omega) aD.o
theorem X3m (b B:Nat) (w:World) (hB:B<=w.heap.size) (hb:w.cell? (π b 0)=some (.func (.func 39) #[] #[])):∀ (x:Mch) (w1:World) (av:Value),Below w.heap.size w w1->Xq8 B w1 av x->Calls Tryz.prog 41 (#[av]++#[.pointer (some (π b 0))]) w1 (fun e w2=>e=.returned (.bool (Xxm x))/\Below w1.heap.size w1 w2):=fun x w1 av aA hx=>X11 x av b B w1 (Nt hB aA.size) (Xc aA hb) hx
theorem Xsd.lens {B:Nat} {w:World} {v:Value} {s:Thr} (h:Xsd B w v s):s.mem.globals.length<=140737488355328/\s.mem.nodes.length<=140737488355328/\s.running.length<=140737488355328/\s.nodes.length<=140737488355328/\s.calls.length<=140737488355328/\s.results.length<=140737488355328/\s.begins.length<=140737488355328/\s.ends.length<=140737488355328:=by
 obtain ⟨gv,mv,rv,nv,cv,ov,bv,ev,rfl,h1,h2,h3,h4,h5,h6,h7,h8,-⟩:=h
 obtain ⟨_,_,-,e1⟩:=h1.fr
 obtain ⟨_,_,-,e2⟩:=h2.fr
 obtain ⟨_,_,-,e3⟩:=h3.fr
 obtain ⟨_,_,-,e4⟩:=h4.fr
 obtain ⟨_,_,-,e5⟩:=h5.fr
 obtain ⟨_,_,-,e6⟩:=h6.fr
 obtain ⟨_,_,-,e7⟩:=h7.fr
 obtain ⟨_,_,-,e8⟩:=h8.fr
 exact ⟨e1,e2,e3,e4,e5,e6,e7,e8⟩
theorem X3s (s:Thr) (sv:Value) (B:Nat) (w:World) (hB:B<=w.heap.size) (hs:Xsd B w sv s):Calls Tryz.prog 11 #[sv] w (BoB w):=by
 have bI:∀ (fn:Fn) (first cap:Array Value) (w:World),(Instr.makeFunc fn first cap).run Tryz.prog w=.ok (.func fn first cap) w:=fun _ _ _ _=>rfl
 obtain ⟨l1,l2,l3,l4,l5,l6,l7,l8⟩:=hs.lens
 obtain ⟨ga,gc,ma,mc,ra,rc,na,nc,ca,cc,oa,oc,ba,bc,ea,ec,rfl⟩:=hs.open_
 obtain ⟨hg,hm,hr,hn,aK,ho,hb,he,-⟩:=hs.parts
 try delta Bt
 obtain ⟨gn,aW⟩:∃ n,n=s.mem.globals.length:=⟨_,rfl⟩
 obtain ⟨mn,aX⟩:∃ n,n=s.mem.nodes.length:=⟨_,rfl⟩
 obtain ⟨rn,bB⟩:∃ n,n=s.running.length:=⟨_,rfl⟩
 obtain ⟨nn,aY⟩:∃ n,n=s.nodes.length:=⟨_,rfl⟩
 obtain ⟨cn,aT⟩:∃ n,n=s.calls.length:=⟨_,rfl⟩
 obtain ⟨on,aZ⟩:∃ n,n=s.results.length:=⟨_,rfl⟩
 obtain ⟨bn,aS⟩:∃ n,n=s.begins.length:=⟨_,rfl⟩
 obtain ⟨en,aU⟩:∃ n,n=s.ends.length:=⟨_,rfl⟩
 obtain ⟨fu,aV⟩:∃ n,n=s.fuel:=⟨_,rfl⟩
 obtain ⟨st,bC⟩:∃ n,n=s.step:=⟨_,rfl⟩
 rw [<-aW] at l1 hg ⊢
 rw [<-aX] at l2 hm ⊢
 rw [<-bB] at l3 hr ⊢
 rw [<-aY] at l4 hn ⊢
 rw [<-aT] at l5 aK ⊢
 rw [<-aZ] at l6 ho ⊢
 rw [<-aS] at l7 hb ⊢
 rw [<-aU] at l8 he ⊢
 rw [<-aV,<- bC]
 clear aW aX bB aY aT aZ aS aU aV bC hs
 have HM:=Lh (And.intro hg hm)
 have HR:=Lh hr
 have HN:=Lh hn
 have HC:=Lh aK
 have HO:=Lh ho
 have bE:=Lh hb
 have HE:=Lh he
 clear hg hm hr hn aK ho hb he
 obtain ⟨W,hW⟩:∃ W,W=w.alloc (χ #[σ ga gn gc,σ ma mn mc,ι fu,σ ra rn rc,σ na nn nc,σ ca cn cc,σ oa on oc,σ ba bn bc,σ ea en ec,ι st] 34):=⟨_,rfl⟩
 have aI:Hid (Below w.heap.size w W):=by rw [hW];exact Lh (Xa _ _)
 have HK:Hid (∀ V,Below W.heap.size W V->V.cell? (π w.heap.size 0)=some (σ ga gn gc)/\V.cell? (π w.heap.size 1)=some (σ ma mn mc)/\V.cell? (π w.heap.size 2)=some (ι fu)/\V.cell? (π w.heap.size 3)=some (σ ra rn rc)/\V.cell? (π w.heap.size 4)=some (σ na nn nc)/\V.cell? (π w.heap.size 5)=some (σ ca cn cc)/\V.cell? (π w.heap.size 6)=some (σ oa on oc)/\V.cell? (π w.heap.size 7)=some (σ ba bn bc)/\V.cell? (π w.heap.size 8)=some (σ ea en ec)/\w.heap.size<V.heap.size):=Lh (fun V hV=>by
  have bA:W.heap[w.heap.size]?=some (χ #[σ ga gn gc,σ ma mn mc,ι fu,σ ra rn rc,σ na nn nc,σ ca cn cc,σ oa on oc,σ ba bn bc,σ ea en ec,ι st] 34 (0,0)):=by rw [hW];exact Hn _ _
  have h0:=(hV.block w.heap.size ((La bA))).trans bA
  refine ⟨?_,?_,?_,?_,?_,?_,?_,?_,?_,(La h0)⟩<;>(rw [cell_of_row _ _ _ _ _ _ h0];rfl))
 have aL:B<=W.heap.size:=Nt hB aI.o.size
 have HT:Hid (∀ V,Below W.heap.size W V->Below B w V/\B<=V.heap.size/\Below w.heap.size w V):=Lh (fun V hV=>⟨(aI.o.then hV).mono hB,Nt aL hV.size,aI.o.then hV⟩)
 obtain ⟨x0,x1,x2,x3,x4,x5,x6,x7,x8,zz⟩:=HK.o W Br
 go_enter Tryz.func11,Tryz.ntmps11
 go_upto_region 1 with fail
 rw [<-hW]
 have HW:=Lh hW
 clear hW
 go_wp2_with fail
 refine (X03 s.mem _ B W aL ⟨_,_,rfl,HM.o.1.ints (HT.o W Br).1,HM.o.2.nods (HT.o W Br).1⟩).mono ?_
 rintro e w1 ⟨rfl,aM⟩
 have aC:=Lh aM
 clear x0 x1 x2 x3 x4 x5 x6 x7 x8 zz aM
 obtain ⟨x0,x1,x2,x3,x4,x5,x6,x7,x8,zz⟩:=HK.o w1 aC.o
 cases hq:Xv1 s.mem with
 | true=>
  clear hq
  go_wp2
  go_ret
  exact ⟨_,rfl,(HT.o w1 aC.o).2.2⟩
 | false=>
 clear hq
 go_wp2_with fail
 refine (X0v s.calls _ B w1 (HT.o w1 aC.o).2.1 (HC.o.calss (HT.o w1 aC.o).1)).mono ?_
 rintro e w2 ⟨rfl,aN⟩
 have aA:=Lh (aC.o.then aN)
 clear x0 x1 x2 x3 x4 x5 x6 x7 x8 zz aN
 obtain ⟨x0,x1,x2,x3,x4,x5,x6,x7,x8,zz⟩:=HK.o w2 aA.o
 cases hq:X0f s.calls with
 | false=>
  clear hq
  go_wp2
  go_ret
  exact ⟨_,rfl,(HT.o w2 aA.o).2.2⟩
 | true=>
 clear hq
 by_cases q_r:(rn:Int)<=10
 rotate_left
 ·go_wp2
  go_ret
  exact ⟨_,rfl,(HT.o w2 aA.o).2.2⟩
 by_cases q_n:(nn:Int)<=10
 rotate_left
 ·go_wp2
  go_ret
  exact ⟨_,rfl,(HT.o w2 aA.o).2.2⟩
 by_cases q_o:(on:Int)<=10
 rotate_left
 ·go_wp2
  go_ret
  exact ⟨_,rfl,(HT.o w2 aA.o).2.2⟩
 by_cases q_b:(bn:Int)<=10
 rotate_left
 ·go_wp2
  go_ret
  exact ⟨_,rfl,(HT.o w2 aA.o).2.2⟩
 by_cases q_e:(en:Int)<=10
 rotate_left
 ·go_wp2
  go_ret
  exact ⟨_,rfl,(HT.o w2 aA.o).2.2⟩
 by_cases hf:300<fu/\fu<=1048576
 ·obtain ⟨h1,h2⟩:=hf
  go_wp2
  go_ret
  exact ⟨_,rfl,(HT.o w2 aA.o).2.2⟩
 obtain ⟨V,hV⟩:∃ V,V=w2.alloc (χ #[.func (.func 39) #[] #[]] 97):=⟨_,rfl⟩
 have bG:Hid (Below w2.heap.size w2 V):=by rw [hV];exact Lh (Xa _ _)
 have HF:Hid (V.cell? (π w2.heap.size 0)=some (.func (.func 39) #[] #[])):=Lh (by
  rw [hV]
  exact Y5 w2 #[.func (.func 39) #[] #[]] _ 0)
 have aG:=Lh (aA.o.then bG.o)
 obtain ⟨fb,aH⟩:∃ b,b=w2.heap.size:=⟨_,rfl⟩
 rcases (show ¬300<fu\/(300<fu/\¬fu<=1048576) by omega) with h3|⟨h3,h4⟩
 all_goals
  clear hf
  go_upto_region 5 with fail
  rw [<-hV,<- aH]
  rw [<-aH] at HF
  have HV:=Lh hV
  have bH:=Lh aH
  clear x0 x1 x2 x3 x4 x5 x6 x7 x8 zz hV aH
  obtain ⟨x0,x1,x2,x3,x4,x5,x6,x7,x8,zz⟩:=HK.o V aG.o
  have kf:=HF.o
  have zf:=Bl kf
  go_wp2_with fail
  refine (Y3 39 #[] Xv4 s.nodes _ B V (fun _ _=>by kernel_rfl) (HT.o V aG.o).2.1 (HN.o.ints (HT.o V aG.o).1) (X3p V)).mono ?_
  rintro e w4 ⟨rfl,aJ⟩
  have aB:=Lh (aG.o.then aJ)
  have bF:=Lh (Xc aJ HF.o)
  clear x0 x1 x2 x3 x4 x5 x6 x7 x8 zz aJ kf zf
  obtain ⟨x0,x1,x2,x3,x4,x5,x6,x7,x8,zz⟩:=HK.o w4 aB.o
  cases hq:s.nodes.any Xv4 with
  | true=>
   clear hq
   go_wp2
   go_ret
   exact ⟨_,rfl,(HT.o w4 aB.o).2.2⟩
  | false=>
  clear hq
  go_wp2_with fail
  refine (Xtq 41 #[.pointer (some (π fb 0))] Xxm s.running _ B w4 Xy3 (HT.o w4 aB.o).2.1 (HR.o.macs (HT.o w4 aB.o).1) (X3m fb B w4 (HT.o w4 aB.o).2.1 bF.o)).mono ?_
  rintro e w5 ⟨rfl,aO⟩
  have aD:=Lh (aB.o.then aO)
  clear x0 x1 x2 x3 x4 x5 x6 x7 x8 zz aO
  obtain ⟨x0,x1,x2,x3,x4,x5,x6,x7,x8,zz⟩:=HK.o w5 aD.o
  cases hq:s.running.any Xxm with
  | true=>
   clear hq
   go_wp2
   go_ret
   exact ⟨_,rfl,(HT.o w5 aD.o).2.2⟩
  | false=>
  clear hq
  go_wp2_with fail
  refine (Xtp 38 #[] (fun x=>decide (40<(x.length:Int))) s.begins _ B w5 Xwf (HT.o w5 aD.o).2.1 (bE.o.intss (HT.o w5 aD.o).1) (X0y B w5)).mono ?_
  rintro e w6 ⟨rfl,aP⟩
  have aE:=Lh (aD.o.then aP)
  clear x0 x1 x2 x3 x4 x5 x6 x7 x8 zz aP
  obtain ⟨x0,x1,x2,x3,x4,x5,x6,x7,x8,zz⟩:=HK.o w6 aE.o
  cases hq:s.begins.any fun x=>decide (40<(x.length:Int)) with
  | true=>
   clear hq
   go_wp2
   go_ret
   exact ⟨_,rfl,(HT.o w6 aE.o).2.2⟩
  | false=>
  clear hq
  go_wp2_with fail
  refine (Xtp 38 #[] (fun x=>decide (40<(x.length:Int))) s.ends _ B w6 Xwf (HT.o w6 aE.o).2.1 (HE.o.intss (HT.o w6 aE.o).1) (X0y B w6)).mono ?_
  rintro e w7 ⟨rfl,aQ⟩
  have aF:=Lh (aE.o.then aQ)
  clear x0 x1 x2 x3 x4 x5 x6 x7 x8 zz aQ
  obtain ⟨x0,x1,x2,x3,x4,x5,x6,x7,x8,zz⟩:=HK.o w7 aF.o
  cases hq:s.ends.any fun x=>decide (40<(x.length:Int)) with
  | true=>
   clear hq
   go_wp2
   go_ret
   exact ⟨_,rfl,(HT.o w7 aF.o).2.2⟩
  | false=>
  clear hq
  go_wp2_with fail
  refine (Xvj 45 #[] (fun x=>decide (40<(x.length:Int))) s.results _ B w7 Xy5 (HT.o w7 aF.o).2.1 (HO.o.outss (HT.o w7 aF.o).1) (X3c B w7)).mono ?_
  rintro e w8 ⟨rfl,aR⟩
  have bD:=Lh (aF.o.then aR)
  clear x0 x1 x2 x3 x4 x5 x6 x7 x8 zz aR
  go_wp2
  go_ret
  exact ⟨_,rfl,(HT.o w8 bD.o).2.2⟩
