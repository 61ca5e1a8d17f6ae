import Derived.Test.YtiejafonjemioaaGreatDoorInv
set_option maxHeartbeats 2000000
set_option maxRecDepth 100000
set_option linter.unusedVariables false
set_option linter.unusedSimpArgs false
open Go.Value renaming slice→σ
open Go.Obj renaming cells→χ
namespace Go.Proofs.YtiejafonjemioaaGreatDoor
open Go.RowKit
variable {α:Type} {B sz cap n k:Nat} {w:World} {a:Option Addr} {E:World->Nat->Nat->α->Prop} {l:List α}
theorem Xf.elem (h:Xf B w sz E (σ a n cap) l) {x:α} (hx:l[k]?=some x):∃ b o,a=some (π b o)/\b<B/\E w b (o+k*sz) x:=by
 obtain ⟨a0,aA,aB,_,_,_,hE⟩:=h
 obtain ⟨rfl,_,rfl⟩:a=a0/\n=l.length/\cap=aA:=by simpa using aB
 rcases hE with h0|⟨b,o,rfl,hb,hE⟩
 ·rw [h0] at hx;simp at hx
 ·exact ⟨b,o,rfl,hb,hE k x hx⟩
theorem Xf.frm {v:Value} (h:Xf B w sz E v l):∃ a cap,v=σ a l.length cap/\l.length<=140737488355328:=by
 obtain ⟨a,cap,rfl,hl,_⟩:=h
 exact ⟨a,cap,rfl,hl⟩
def Tru (w:World) (e:Ending) (w':World):Prop:=e=.returned (.bool true)/\∃ n,w'=w.drewN n
theorem Xqd (l:List Int) (va vb:Value) (A B:Nat) (w:World) (ha:Xf A w 1 Zd va l) (hb:Xf B w 1 Zd vb l):Calls Tryz.prog 77 #[va,vb] w (Tru w):=by
 obtain ⟨aa,ac,rfl,hl⟩:=ha.frm
 obtain ⟨ba,bc,rfl,_⟩:=hb.frm
 have HA:=Lh ha
 have HB:=Lh hb
 obtain ⟨ln,aA⟩:∃ n,n=l.length:=⟨_,rfl⟩
 rw [<-aA] at hl HA HB ⊢
 have aB:=Lh aA
 have aH:((ln:Int) != (ln:Int))=false:=by simp
 clear ha hb aA
 go_enter Tryz.func77,Tryz.ntmps77
 go_wp2_with fail
 go_loopw [5] (fun i wr=>∃ k:Nat,k<=ln/\i=ι k/\Hid (∃ n,wr=w.drewN n)) (fun i _=>ln - (intOf i).toNat)
 case atStart=>exact ⟨0,Nat.zero_le _,rfl,Lh ⟨0,rfl⟩⟩
 case round=>
  obtain ⟨k,hk,rfl,hw⟩:=hrel
  obtain ⟨n,hn⟩:=hw.o
  by_cases aG:k<ln
  ·obtain ⟨x,hx⟩:∃ x,l[k]?=some x:=⟨_,Lg (by have:=aB.o;omega)⟩
   obtain ⟨b1,o1,aC,_,h1⟩:=HA.o.elem hx
   obtain ⟨b2,o2,aD,_,h2⟩:=HB.o.elem hx
   subst aC aD
   have c1:wr.cell? (π b1 (o1+k))=some (ι x):=by rw [hn];have:=h1.1;rw [Nat.mul_one] at this;exact this
   have c2:wr.cell? (π b2 (o2+k))=some (ι x):=by rw [hn];have:=h2.1;rw [Nat.mul_one] at this;exact this
   have aE:(0:Int)<=(k:Int):=In _
   have aF:(k:Int)<(ln:Int):=ω
   have aI:(x != x)=false:=by simp
   have HN:=Lh hn
   clear hx h1 h2 hw hn
   go_wp2_with fail
   go_quiet (fail)
   go_wp2_with fail
   go_roundw
   case rel=>exact ⟨k+1,ω,by go_num,Lh ⟨_,by rw [HN.o,World.drewN_drewN]⟩⟩
   case measure=>simp [intOf];omega
  ·go_wp2_with fail
   go_ret
   exact ⟨rfl,n,rfl⟩
theorem Xf.nodElem {l:List Nod} (h:Xf B w 2 (Xbc B) (σ a n cap) l) {w':World} (hb:Below B w w') {f:Nod} (hx:l[k]?=some f):∃ b o la lc,a=some (π b o)/\b<B/\w'.cell? (π b (o+k*2))=some (ι f.type)/\w'.cell? (π b (o+k*2+1))=some (σ la f.f.length lc)/\Xf B w' 1 Zd (σ la f.f.length lc) f.f:=by
 obtain ⟨b,o,rfl,aA,hE⟩:=(h.nods hb).elem hx
 obtain ⟨h1,⟨v,h3,h4⟩,h7⟩:=hE
 obtain ⟨la,lc,rfl,_⟩:=h4.frm
 exact ⟨b,o,la,lc,rfl,aA,h1,h3,h4⟩
theorem X1j (m:Mm) (va vb:Value) (A B:Nat) (w:World) (hA:A<=w.heap.size) (hB:B<=w.heap.size) (ha:MmV A w va m) (hb:MmV B w vb m) :
  Calls Tryz.prog 30 #[va,vb] w (fun e w'=>e=.returned (.bool true)/\Below w.heap.size w w'):=by
 obtain ⟨g1,n1,rfl,aH,aK⟩:=ha
 obtain ⟨g2,n2,rfl,aI,aL⟩:=hb
 obtain ⟨aD,aF,rfl,bI⟩:=aH.frm
 obtain ⟨aE,aG,rfl,_⟩:=aI.frm
 obtain ⟨aM,aO,rfl,bH⟩:=aK.frm
 obtain ⟨aN,aP,rfl,_⟩:=aL.frm
 have aQ:=Lh aH
 have aR:=Lh aI
 have aS:=Lh aK
 have aT:=Lh aL
 obtain ⟨gn,aX⟩:∃ n,n=m.globals.length:=⟨_,rfl⟩
 obtain ⟨ln,aJ⟩:∃ n,n=m.nodes.length:=⟨_,rfl⟩
 rw [<-aX] at aQ aR ⊢
 rw [<-aJ] at bH aS aT ⊢
 have bA:=Lh aJ
 have bM:((ln:Int) != (ln:Int))=false:=by simp
 obtain ⟨W,hW⟩:∃ W,W=(w.alloc (χ #[σ aD gn aF,σ aM ln aO] 28)).alloc (χ #[σ aE gn aG,σ aN ln aP] 28):=⟨_,rfl⟩
 have aA:Hid (Below w.heap.size w W):=by rw [hW];exact Lh ((Xa _ _).then (Xa _ _))
 have aU:Hid (Xo W w.heap.size [σ aD gn aF,σ aM ln aO]):=by rw [hW];exact Lh (Xd.alloc _)
 have aV:Hid (Xo W (w.heap.size+1) [σ aE gn aG,σ aN ln aP]):=by
  rw [hW]
  have:=@Xd (w.alloc (χ #[σ aD gn aF,σ aM ln aO] 28)) #[σ aE gn aG,σ aN ln aP] 28
  exact Lh (by simpa using this)
 have p0:=aU.o 0 _ rfl
 have p1:=aU.o 1 _ rfl
 have q0:=aV.o 0 _ rfl
 have q1:=aV.o 1 _ rfl
 have zp:=Bl p0
 have zq:=Bl q0
 have bB:A<=W.heap.size:=Nt hA aA.o.size
 have bC:B<=W.heap.size:=Nt hB aA.o.size
 clear aH aI aK aL aX aJ
 go_enter Tryz.func30,Tryz.ntmps30
 go_upto_region 1 with fail
 rw [<-hW]
 clear hW
 go_wp2_with fail
 refine (Xqd m.globals _ _ A B W (aQ.o.ints (aA.o.mono hA)) (aR.o.ints (aA.o.mono hB))).mono ?_
 rintro e w8 ⟨rfl,nq,rfl⟩
 go_wp2_with fail
 go_loopw [5] (fun i wr=>∃ k:Nat,k<=ln/\i=ι k/\Hid (∃ n,wr=W.drewN n)) (fun i _=>ln - (intOf i).toNat)
 case atStart=>exact ⟨0,Nat.zero_le _,rfl,Lh ⟨nq,rfl⟩⟩
 case round=>
  obtain ⟨k,hk,rfl,hw⟩:=hrel
  obtain ⟨n,hn⟩:=hw.o
  have hb:Below W.heap.size W wr:=by rw [hn];exact Xh Br n
  have s0:=Xc hb p0
  have s1:=Xc hb p1
  have t0:=Xc hb q0
  have t1:=Xc hb q1
  have zs:=Bl s0
  have zt:=Bl t0
  by_cases bL:k<ln
  ·obtain ⟨f,hx⟩:∃ x,m.nodes[k]?=some x:=⟨_,Lg (by have:=bA.o;omega)⟩
   obtain ⟨b1,o1,bO,bQ,bD,bE,k1,k2,aY⟩:=aS.o.nodElem ((aA.o.mono hA).trans (hb.mono bB)) hx
   obtain ⟨b2,o2,bP,bR,bF,bG,j1,j2,aZ⟩:=aT.o.nodElem ((aA.o.mono hB).trans (hb.mono bC)) hx
   subst bD bF
   have aB:=Lh aY
   have aC:=Lh aZ
   obtain ⟨ty,fl⟩:=f
   dsimp only at k1 k2 j1 j2 aB aC
   obtain ⟨fn,aW⟩:∃ n,n=fl.length:=⟨_,rfl⟩
   rw [<-aW] at k2 j2 aB aC
   have z1:=Bl k1
   have z2:=Bl j1
   have bJ:(0:Int)<=(k:Int):=In _
   have bK:(k:Int)<(ln:Int):=ω
   have bN:(ty != ty)=false:=by simp
   have HN:=Lh hn
   clear hx aY aZ aW hw hn hb
   go_wp2_with fail
   go_quiet ((go_at_call 77;exact Calls.quiet_of (Xqd fl _ _ A B _ (aB.o.ints (Xh Br _)) (aC.o.ints (Xh Br _)))))
   go_wp2_with fail
   go_roundw
   case rel=>exact ⟨k+1,ω,by go_num,Lh ⟨_,by rw [HN.o,World.drewN_drewN]⟩⟩
   case measure=>simp [intOf];omega
  ·clear hb
   go_wp2_with fail
   go_ret
   exact ⟨rfl,Xh aA.o n⟩
