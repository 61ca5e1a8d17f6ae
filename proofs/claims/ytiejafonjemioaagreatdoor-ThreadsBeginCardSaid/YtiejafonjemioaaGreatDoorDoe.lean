import Derived.Test.YtiejafonjemioaaGreatDoorTh4
import Derived.Test.YtiejafonjemioaaGreatDoorPst3
import Derived.Deep.QuietTactic
import Derived.BigQuiet
import Derived.Outline
set_option maxHeartbeats 2000000
set_option maxRecDepth 100000
set_option linter.unusedVariables false
set_option linter.unusedSimpArgs false
open Go.Value renaming slice→σ
open Go.Obj renaming cells→χ
namespace Go.Proofs.YtiejafonjemioaaGreatDoor
open Go.RowKit
variable {α:Type} {B sz cap n k:Nat} {w w':World} {a:Option Addr} {E:World->Nat->Nat->α->Prop} {l:List α}
theorem Xf.elem (h:Xf B w sz E (σ a n cap) l) {x:α} (hx:l[k]?=some x):∃ b o,a=some (π b o)/\b<B/\E w b (o+k*sz) x:=by
 obtain ⟨a0,aA,aB,_,_,_,hE⟩:=h
 obtain ⟨rfl,_,rfl⟩:a=a0/\n=l.length/\cap=aA:=by simpa using aB
 rcases hE with h0|⟨b,o,rfl,hb,hE⟩
 ·rw [h0] at hx;simp at hx
 ·exact ⟨b,o,rfl,hb,hE k x hx⟩
theorem Xf.frm {v:Value} (h:Xf B w sz E v l):∃ a cap,v=σ a l.length cap/\l.length<=140737488355328:=by
 obtain ⟨a,cap,rfl,hl,_⟩:=h
 exact ⟨a,cap,rfl,hl⟩
def Tru (w:World) (e:Ending) (w':World):Prop:=e=.returned (.bool true)/\∃ n,w'=w.drewN n
theorem Xkk (l:List Int) (va vb:Value) (A B:Nat) (w:World) (ha:Xf A w 1 Zd va l) (hb:Xf B w 1 Zd vb l):Calls Tryz.prog 126 #[va,vb] w (Tru w):=by
 obtain ⟨aa,ac,rfl,hl⟩:=ha.frm
 obtain ⟨ba,bc,rfl,_⟩:=hb.frm
 have HA:=Lh ha
 have HB:=Lh hb
 obtain ⟨ln,aA⟩:∃ n,n=l.length:=⟨_,rfl⟩
 rw [<-aA] at hl HA HB ⊢
 have aB:=Lh aA
 have aH:((ln:Int) != (ln:Int))=false:=by simp
 clear ha hb aA
 go_enter Tryz.func126,Tryz.ntmps126
 go_wp2_with fail
 go_loopw [5] (fun i wr=>∃ k:Nat,k<=ln/\i=ι k/\Hid (∃ n,wr=w.drewN n)) (fun i _=>ln - (intOf i).toNat)
 case atStart=>exact ⟨0,Nat.zero_le _,rfl,Lh ⟨0,rfl⟩⟩
 case round=>
  obtain ⟨k,hk,rfl,hw⟩:=hrel
  obtain ⟨n,hn⟩:=hw.o
  by_cases aG:k<ln
  ·obtain ⟨x,hx⟩:∃ x,l[k]?=some x:=⟨_,Lg (by have:=aB.o;omega)⟩
   obtain ⟨b1,o1,aC,_,h1⟩:=HA.o.elem hx
   obtain ⟨b2,o2,aD,_,h2⟩:=HB.o.elem hx
   subst aC aD
   have c1:wr.cell? (π b1 (o1+k))=some (ι x):=by rw [hn];have:=h1.1;rw [Nat.mul_one] at this;exact this
   have c2:wr.cell? (π b2 (o2+k))=some (ι x):=by rw [hn];have:=h2.1;rw [Nat.mul_one] at this;exact this
   have aE:(0:Int)<=(k:Int):=In _
   have aF:(k:Int)<(ln:Int):=ω
   have aI:(x != x)=false:=by simp
   have HN:=Lh hn
   clear hx h1 h2 hw hn
   go_wp2_with fail
   go_quiet (fail)
   go_wp2
   go_roundw
   case rel=>exact ⟨k+1,ω,by go_num,Lh ⟨_,by rw [HN.o,World.drewN_drewN]⟩⟩
   case measure=>simp [intOf];omega
  ·go_wp2
   go_ret
   exact ⟨rfl,n,rfl⟩
theorem Xqd (l:List Int) (va vb:Value) (A B:Nat) (w:World) (ha:Xf A w 1 Zd va l) (hb:Xf B w 1 Zd vb l):Calls Tryz.prog 77 #[va,vb] w (Tru w):=by
 obtain ⟨aa,ac,rfl,hl⟩:=ha.frm
 obtain ⟨ba,bc,rfl,_⟩:=hb.frm
 have HA:=Lh ha
 have HB:=Lh hb
 obtain ⟨ln,aA⟩:∃ n,n=l.length:=⟨_,rfl⟩
 rw [<-aA] at hl HA HB ⊢
 have aB:=Lh aA
 have aH:((ln:Int) != (ln:Int))=false:=by simp
 clear ha hb aA
 go_enter Tryz.func77,Tryz.ntmps77
 go_wp2_with fail
 go_loopw [5] (fun i wr=>∃ k:Nat,k<=ln/\i=ι k/\Hid (∃ n,wr=w.drewN n)) (fun i _=>ln - (intOf i).toNat)
 case atStart=>exact ⟨0,Nat.zero_le _,rfl,Lh ⟨0,rfl⟩⟩
 case round=>
  obtain ⟨k,hk,rfl,hw⟩:=hrel
  obtain ⟨n,hn⟩:=hw.o
  by_cases aG:k<ln
  ·obtain ⟨x,hx⟩:∃ x,l[k]?=some x:=⟨_,Lg (by have:=aB.o;omega)⟩
   obtain ⟨b1,o1,aC,_,h1⟩:=HA.o.elem hx
   obtain ⟨b2,o2,aD,_,h2⟩:=HB.o.elem hx
   subst aC aD
   have c1:wr.cell? (π b1 (o1+k))=some (ι x):=by rw [hn];have:=h1.1;rw [Nat.mul_one] at this;exact this
   have c2:wr.cell? (π b2 (o2+k))=some (ι x):=by rw [hn];have:=h2.1;rw [Nat.mul_one] at this;exact this
   have aE:(0:Int)<=(k:Int):=In _
   have aF:(k:Int)<(ln:Int):=ω
   have aI:(x != x)=false:=by simp
   have HN:=Lh hn
   clear hx h1 h2 hw hn
   go_wp2_with fail
   go_quiet (fail)
   go_wp2
   go_roundw
   case rel=>exact ⟨k+1,ω,by go_num,Lh ⟨_,by rw [HN.o,World.drewN_drewN]⟩⟩
   case measure=>simp [intOf];omega
  ·go_wp2
   go_ret
   exact ⟨rfl,n,rfl⟩
theorem Xf.fraElem {l:List Fra} (h:Xf B w 4 (Qp B) (σ a n cap) l) (hb:Below B w w') {f:Fra} (hx:l[k]?=some f):∃ b o la lc sa sc,a=some (π b o)/\b<B/\w'.cell? (π b (o+k*4))=some (ι f.fn)/\w'.cell? (π b (o+k*4+1))=some (ι f.pc)/\w'.cell? (π b (o+k*4+2))=some (σ la f.locals.length lc)/\w'.cell? (π b (o+k*4+3))=some (σ sa f.stack.length sc)/\Xf B w' 1 Zd (σ la f.locals.length lc) f.locals/\Xf B w' 1 Zd (σ sa f.stack.length sc) f.stack:=by
 obtain ⟨b,o,rfl,aA,hE⟩:=(h.fras hb).elem hx
 obtain ⟨h1,h2,⟨v,h3,h4⟩,⟨u,h5,h6⟩,h7⟩:=hE
 obtain ⟨la,lc,rfl,_⟩:=h4.frm
 obtain ⟨sa,sc,rfl,_⟩:=h6.frm
 exact ⟨b,o,la,lc,sa,sc,rfl,aA,h1,h2,h3,h5,h4,h6⟩
theorem Vj (m:Mch) (fa fb:Value) (A B:Nat) (w:World) (hA:A<=w.heap.size) (hB:B<=w.heap.size) (ha:Xf A w 4 (Qp A) fa m.frames) (hb:Xf B w 4 (Qp B) fb m.frames) :
  Calls Tryz.prog 96 #[.agg (Xb fa m),.agg (Xb fb m)] w (fun e w'=>e=.returned (.bool true)/\Below w.heap.size w w'):=by
 obtain ⟨aa,ac,rfl,hl⟩:=ha.frm
 obtain ⟨ba,bc,rfl,_⟩:=hb.frm
 obtain ⟨fs,⟨kind,node,field,value,fault⟩,fuel,compares,idle⟩:=m
 dsimp only at ha hb hl ⊢
 have HA:=Lh ha
 have HB:=Lh hb
 obtain ⟨ln,aJ⟩:∃ n,n=fs.length:=⟨_,rfl⟩
 rw [<-aJ] at hl HA HB ⊢
 have aS:=Lh aJ
 have bB:((ln:Int) != (ln:Int))=false:=by simp
 have e1:(fuel != fuel)=false:=by simp
 have e2:(compares != compares)=false:=by simp
 have e3:(idle != idle)=false:=by simp
 obtain ⟨W,hW⟩:∃ W,W=(w.alloc (χ (Xb (σ aa ln ac) ⟨fs,⟨kind,node,field,value,fault⟩,fuel,compares,idle⟩) 51)).alloc (χ (Xb (σ ba ln bc) ⟨fs,⟨kind,node,field,value,fault⟩,fuel,compares,idle⟩) 51):=⟨_,rfl⟩
 have aC:Hid (Below w.heap.size w W):=by rw [hW];exact Lh ((Xa _ _).then (Xa _ _))
 have aA:Hid (Xo W w.heap.size (Xb (σ aa ln ac) ⟨fs,⟨kind,node,field,value,fault⟩,fuel,compares,idle⟩).toList):=by rw [hW];exact Lh (Xd.alloc _)
 have aB:Hid (Xo W (w.heap.size+1) (Xb (σ ba ln bc) ⟨fs,⟨kind,node,field,value,fault⟩,fuel,compares,idle⟩).toList):=by
  rw [hW]
  have:=@Xd (w.alloc (χ (Xb (σ aa ln ac) ⟨fs,⟨kind,node,field,value,fault⟩,fuel,compares,idle⟩) 51)) (Xb (σ ba ln bc) ⟨fs,⟨kind,node,field,value,fault⟩,fuel,compares,idle⟩) 51
  exact Lh (by simpa using this)
 clear ha hb aJ
 unfold Xb at hW ⊢
 go_enter Tryz.func96,Tryz.ntmps96
 go_upto_region 1 with fail
 rw [<-hW]
 clear hW
 have p0:=aA.o 0 _ rfl
 have p1:=aA.o 1 _ rfl
 have p2:=aA.o 2 _ rfl
 have p3:=aA.o 3 _ rfl
 have p4:=aA.o 4 _ rfl
 have p5:=aA.o 5 _ rfl
 have p6:=aA.o 6 _ rfl
 have p7:=aA.o 7 _ rfl
 have p8:=aA.o 8 _ rfl
 have zp:=Bl p0
 have q0:=aB.o 0 _ rfl
 have q1:=aB.o 1 _ rfl
 have q2:=aB.o 2 _ rfl
 have q3:=aB.o 3 _ rfl
 have q4:=aB.o 4 _ rfl
 have q5:=aB.o 5 _ rfl
 have q6:=aB.o 6 _ rfl
 have q7:=aB.o 7 _ rfl
 have q8:=aB.o 8 _ rfl
 have zq:=Bl q0
 go_wp2_with fail
 go_loopw [5] (fun i wr=>∃ k:Nat,k<=ln/\i=ι k/\Hid (Below W.heap.size W wr)) (fun i _=>ln - (intOf i).toNat)
 case atStart=>exact ⟨0,Nat.zero_le _,rfl,Lh Br⟩
 case round=>
  obtain ⟨k,hk,rfl,hb⟩:=hrel
  have s0:=Xc hb.o p0
  have t0:=Xc hb.o q0
  have zs:=Bl s0
  have zt:=Bl t0
  by_cases bA:k<ln
  ·obtain ⟨f,hx⟩:∃ x,fs[k]?=some x:=⟨_,Lg (by have:=aS.o;omega)⟩
   have aM:Below A w wr:=(aC.o.mono hA).trans (hb.o.mono (Nt hA aC.o.size))
   have aN:Below B w wr:=(aC.o.mono hB).trans (hb.o.mono (Nt hB aC.o.size))
   obtain ⟨b1,o1,bD,bF,bJ,bL,aT,aU,k1,k2,k3,k4,aO,aQ⟩:=HA.o.fraElem aM hx
   obtain ⟨b2,o2,bE,bG,bK,bM,aV,aW,j1,j2,j3,j4,aP,aR⟩:=HB.o.fraElem aN hx
   subst aT aV
   have aF:=Lh aO
   have aH:=Lh aQ
   have aG:=Lh aP
   have aI:=Lh aR
   obtain ⟨fn,pc,lo,st⟩:=f
   dsimp only at k1 k2 k3 k4 j1 j2 j3 j4 aF aH aG aI
   obtain ⟨bH,aD⟩:∃ n,n=lo.length:=⟨_,rfl⟩
   obtain ⟨bN,aE⟩:∃ n,n=st.length:=⟨_,rfl⟩
   rw [<-aD] at k3 j3 aF aG
   rw [<-aE] at k4 j4 aH aI
   have z1:=Bl k1
   have z2:=Bl j1
   have aY:(0:Int)<=(k:Int):=In _
   have aZ:(k:Int)<(ln:Int):=ω
   have aX:(fn != fn)=false:=by simp
   have bC:(pc != pc)=false:=by simp
   clear hx aO aQ aP aR aM aN aD aE
   go_wp2_with fail
   have aK:A<=wr.heap.size:=Nt hA (Nt aC.o.size hb.o.size)
   have aL:B<=wr.heap.size:=Nt hB (Nt aC.o.size hb.o.size)
   go_region
   all_goals
    go_wp2_with fail
    refine (Xkk lo _ _ A B _ (aF.o.ints ((Xh ((Xa _ _).then (Xa _ _)) 1).mono aK)) (aG.o.ints ((Xh ((Xa _ _).then (Xa _ _)) 1).mono aL))).mono ?_
    rintro e w8 ⟨rfl,nq,rfl⟩
    go_wp2_with fail
    refine (Xkk st _ _ A B _ (aH.o.ints ((Xh ((Xa _ _).then (Xa _ _)) _).mono aK)) (aI.o.ints ((Xh ((Xa _ _).then (Xa _ _)) _).mono aL))).mono ?_
    rintro e w8 ⟨rfl,bI,rfl⟩
    go_wp2
    go_roundw
    case rel=>exact ⟨k+1,ω,by go_num,Lh (hb.o.then (Xh ((Xa _ _).then (Xa _ _)) _))⟩
    case measure=>simp [intOf];omega
  ·go_wp2
   go_ret
   exact ⟨rfl,aC.o.then hb.o⟩
theorem Xf.nodElem {l:List Nod} (h:Xf B w 2 (Xbc B) (σ a n cap) l) (hb:Below B w w') {f:Nod} (hx:l[k]?=some f):∃ b o la lc,a=some (π b o)/\b<B/\w'.cell? (π b (o+k*2))=some (ι f.type)/\w'.cell? (π b (o+k*2+1))=some (σ la f.f.length lc)/\Xf B w' 1 Zd (σ la f.f.length lc) f.f:=by
 obtain ⟨b,o,rfl,aA,hE⟩:=(h.nods hb).elem hx
 obtain ⟨h1,⟨v,h3,h4⟩,h7⟩:=hE
 obtain ⟨la,lc,rfl,_⟩:=h4.frm
 exact ⟨b,o,la,lc,rfl,aA,h1,h3,h4⟩
theorem X1j (m:Mm) (va vb:Value) (A B:Nat) (w:World) (hA:A<=w.heap.size) (hB:B<=w.heap.size) (ha:MmV A w va m) (hb:MmV B w vb m) :
  Calls Tryz.prog 30 #[va,vb] w (fun e w'=>e=.returned (.bool true)/\Below w.heap.size w w'):=by
 obtain ⟨g1,n1,rfl,aH,aK⟩:=ha
 obtain ⟨g2,n2,rfl,aI,aL⟩:=hb
 obtain ⟨aD,aF,rfl,bI⟩:=aH.frm
 obtain ⟨aE,aG,rfl,_⟩:=aI.frm
 obtain ⟨aM,aO,rfl,bH⟩:=aK.frm
 obtain ⟨aN,aP,rfl,_⟩:=aL.frm
 have aQ:=Lh aH
 have aR:=Lh aI
 have aS:=Lh aK
 have aT:=Lh aL
 obtain ⟨gn,aX⟩:∃ n,n=m.globals.length:=⟨_,rfl⟩
 obtain ⟨ln,aJ⟩:∃ n,n=m.nodes.length:=⟨_,rfl⟩
 rw [<-aX] at aQ aR ⊢
 rw [<-aJ] at bH aS aT ⊢
 have bA:=Lh aJ
 have bM:((ln:Int) != (ln:Int))=false:=by simp
 obtain ⟨W,hW⟩:∃ W,W=(w.alloc (χ #[σ aD gn aF,σ aM ln aO] 28)).alloc (χ #[σ aE gn aG,σ aN ln aP] 28):=⟨_,rfl⟩
 have aA:Hid (Below w.heap.size w W):=by rw [hW];exact Lh ((Xa _ _).then (Xa _ _))
 have aU:Hid (Xo W w.heap.size [σ aD gn aF,σ aM ln aO]):=by rw [hW];exact Lh (Xd.alloc _)
 have aV:Hid (Xo W (w.heap.size+1) [σ aE gn aG,σ aN ln aP]):=by
  rw [hW]
  have:=@Xd (w.alloc (χ #[σ aD gn aF,σ aM ln aO] 28)) #[σ aE gn aG,σ aN ln aP] 28
  exact Lh (by simpa using this)
 have p0:=aU.o 0 _ rfl
 have p1:=aU.o 1 _ rfl
 have q0:=aV.o 0 _ rfl
 have q1:=aV.o 1 _ rfl
 have zp:=Bl p0
 have zq:=Bl q0
 have bB:A<=W.heap.size:=Nt hA aA.o.size
 have bC:B<=W.heap.size:=Nt hB aA.o.size
 clear aH aI aK aL aX aJ
 go_enter Tryz.func30,Tryz.ntmps30
 go_upto_region 1 with fail
 rw [<-hW]
 clear hW
 go_wp2_with fail
 refine (Xqd m.globals _ _ A B W (aQ.o.ints (aA.o.mono hA)) (aR.o.ints (aA.o.mono hB))).mono ?_
 rintro e w8 ⟨rfl,nq,rfl⟩
 go_wp2_with fail
 go_loopw [5] (fun i wr=>∃ k:Nat,k<=ln/\i=ι k/\Hid (∃ n,wr=W.drewN n)) (fun i _=>ln - (intOf i).toNat)
 case atStart=>exact ⟨0,Nat.zero_le _,rfl,Lh ⟨nq,rfl⟩⟩
 case round=>
  obtain ⟨k,hk,rfl,hw⟩:=hrel
  obtain ⟨n,hn⟩:=hw.o
  have hb:Below W.heap.size W wr:=by rw [hn];exact Xh Br n
  have s0:=Xc hb p0
  have s1:=Xc hb p1
  have t0:=Xc hb q0
  have t1:=Xc hb q1
  have zs:=Bl s0
  have zt:=Bl t0
  by_cases bL:k<ln
  ·obtain ⟨f,hx⟩:∃ x,m.nodes[k]?=some x:=⟨_,Lg (by have:=bA.o;omega)⟩
   obtain ⟨b1,o1,bO,bQ,bD,bE,k1,k2,aY⟩:=aS.o.nodElem ((aA.o.mono hA).trans (hb.mono bB)) hx
   obtain ⟨b2,o2,bP,bR,bF,bG,j1,j2,aZ⟩:=aT.o.nodElem ((aA.o.mono hB).trans (hb.mono bC)) hx
   subst bD bF
   have aB:=Lh aY
   have aC:=Lh aZ
   obtain ⟨ty,fl⟩:=f
   dsimp only at k1 k2 j1 j2 aB aC
   obtain ⟨fn,aW⟩:∃ n,n=fl.length:=⟨_,rfl⟩
   rw [<-aW] at k2 j2 aB aC
   have z1:=Bl k1
   have z2:=Bl j1
   have bJ:(0:Int)<=(k:Int):=In _
   have bK:(k:Int)<(ln:Int):=ω
   have bN:(ty != ty)=false:=by simp
   have HN:=Lh hn
   clear hx aY aZ aW hw hn hb
   go_wp2_with fail
   go_quiet ((go_at_call 77;exact Calls.quiet_of (Xqd fl _ _ A B _ (aB.o.ints (Xh Br _)) (aC.o.ints (Xh Br _)))))
   go_wp2
   go_roundw
   case rel=>exact ⟨k+1,ω,by go_num,Lh ⟨_,by rw [HN.o,World.drewN_drewN]⟩⟩
   case measure=>simp [intOf];omega
  ·clear hb
   go_wp2
   go_ret
   exact ⟨rfl,Xh aA.o n⟩
theorem Xxx:Zn 62:=fun _ _=>by kernel_rfl
theorem Xx5:Zn 63:=fun _ _=>by kernel_rfl
theorem X05 (B:Nat) (w:World):∀ (x:List Cal) (w1:World) (av:Value),Below w.heap.size w w1->Xxk B w1 av x->Calls Tryz.prog 62 (#[av]++#[]) w1 (fun e w2=>e=.returned (.bool (decide (0<x.length)))/\Below w1.heap.size w1 w2):=by
 rintro x w1 av _ hx
 obtain ⟨a,cap,rfl⟩:=Xf.form hx
 clear hx
 show Calls Tryz.prog 62 #[σ a x.length cap] w1 _
 go_enter Tryz.func62,Tryz.ntmps62
 go_wp2
 go_ret
 exact ⟨ψ,Below.refl _ _⟩
theorem X1n (B:Nat) (w:World):∀ (x:Mch) (w1:World) (av:Value),Below w.heap.size w w1->Xq8 B w1 av x->Calls Tryz.prog 63 (#[av]++#[]) w1 (fun e w2=>e=.returned (.bool (decide (0<x.frames.length)))/\Below w1.heap.size w1 w2):=by
 rintro x w1 av _ ⟨fv,rfl,aA,-⟩
 obtain ⟨a,cap,rfl⟩:=aA.form
 clear aA
 show Calls Tryz.prog 63 #[.agg _] w1 _
 go_enter Tryz.func63,Tryz.ntmps63
 go_wp2
 go_ret
 exact ⟨ψ,Xa _ _⟩
def Xyd (s:Thr):Bool:=!(s.calls.any fun l=>decide (0<l.length)) && !(s.running.any fun m=>decide (0<m.frames.length))
theorem X3r (s:Thr) (sv:Value) (B:Nat) (w:World) (hB:B<=w.heap.size) (hs:Xsd B w sv s) :
  Calls Tryz.prog 20 #[sv] w fun e w'=>e=.returned (.bool (Xyd s))/\Below w.heap.size w w':=by
 have aM:∀ (fn:Fn) (first cap:Array Value) (w:World),(Instr.makeFunc fn first cap).run Tryz.prog w=.ok (.func fn first cap) w:=fun _ _ _ _=>rfl
 obtain ⟨ga,gc,ma,mc,ra,rc,na,nc,ca,cc,oa,oc,ba,bc,ea,ec,rfl⟩:=hs.open_
 obtain ⟨-,-,hr,-,aG,-⟩:=hs.parts
 have aK:=Lh hr
 have aJ:=Lh aG
 obtain ⟨W,hW⟩:∃ W,W=w.alloc (χ (Bt ga gc ma mc ra rc na nc ca cc oa oc ba bc ea ec s) 34):=⟨_,rfl⟩
 have aA:Hid (Below w.heap.size w W):=by rw [hW];exact Lh (Xa _ _)
 have aC:B<=W.heap.size:=Nt hB aA.o.size
 have aD:W.heap[w.heap.size]?=some (χ (Bt ga gc ma mc ra rc na nc ca cc oa oc ba bc ea ec s) 34 (0,0)):=by rw [hW];exact Hn _ _
 have k3:=Cw aD 3 rfl
 have k5:=Cw aD 5 rfl
 have zz:=(La aD)
 clear aD hr aG hs
 go_enter Tryz.func20,Tryz.ntmps20
 go_upto_region 1 with fail
 rw [<-hW]
 have HW:=Lh hW
 clear hW
 go_wp2_with fail
 refine (Xs0 62 #[] _ s.calls _ B W Xxx aC (aJ.o.calss (aA.o.mono hB)) (X05 B W)).mono ?_
 rintro e w1 ⟨rfl,aB⟩
 have aE:=Lh aB
 have i3:=Xc aB k3
 have zi:=Bl i3
 have aL:Hid (B<=w1.heap.size):=Lh (Nt aC aB.size)
 have aI:Hid (Below B w w1):=Lh ((aA.o.mono hB).trans (aB.mono aC))
 clear k3 k5 zz aB aC
 cases ha:s.calls.any fun l=>decide (0<l.length) with
 | true=>
  have HA:=Lh ha
  clear ha
  go_wp2
  go_ret
  exact ⟨by unfold Xyd;rw [HA.o];rfl,aA.o.then aE.o⟩
 | false=>
  have HA:=Lh ha
  clear ha
  go_wp2_with fail
  refine (Xtq 63 #[] _ s.running _ B w1 Xx5 aL.o (aK.o.macs aI.o) (X1n B w1)).mono ?_
  rintro e w2 ⟨rfl,aF⟩
  have aH:=Lh aF
  clear i3 zi aF
  go_wp2
  go_ret
  exact ⟨by unfold Xyd;rw [HA.o];simp,(aA.o.then aE.o).then aH.o⟩
