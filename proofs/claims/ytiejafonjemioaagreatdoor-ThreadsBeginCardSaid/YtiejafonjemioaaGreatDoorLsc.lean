import Derived.Test.YtiejafonjemioaaGreatDoorLsn
import Derived.Test.YtiejafonjemioaaGreatDoorDoe
set_option maxHeartbeats 2000000
set_option maxRecDepth 100000
set_option linter.unusedVariables false
set_option linter.unusedSimpArgs false
open Go.Value renaming slice→σ
open Go.Obj renaming cells→χ
namespace Go.Proofs.YtiejafonjemioaaGreatDoor
open Go.RowKit
def X4h (n lo hi:Int):Bool:=decide (lo<=n) && decide (n<=hi)
theorem X20 (n lo hi:Int) (w:World):Calls Tryz.prog 54 #[ι n,ι lo,ι hi] w (fun e w'=>e=.returned (.bool (X4h n lo hi))/\w=w'):=by
 unfold X4h
 by_cases h:lo<=n
 all_goals
  go_enter Tryz.func54,Tryz.ntmps54
  go_wp2
  go_ret
  exact ⟨X27 (by simp<;>omega),rfl⟩
theorem X4e (m:Mch) (fv:Value) (B:Nat) (w:World) (hf:Xf B w 4 (Qp B) fv m.frames):Calls Tryz.prog 75 #[.agg (Xb fv m)] w (BoI (Xsi m) w):=by
 obtain ⟨fa,fc,rfl⟩:=hf.fm
 clear hf
 obtain ⟨fs,⟨kind,node,field,value,fault⟩,fuel,compares,idle⟩:=m
 obtain ⟨n,hn⟩:∃ n,n=fs.length:=⟨_,rfl⟩
 unfold Xb Xsi
 dsimp only
 rw [<-hn]
 clear hn
 by_cases h1:kind=1
 ·subst h1
  go_enter Tryz.func75,Tryz.ntmps75
  go_wp2
  go_ret
  exact boI ψ (Xa _ _)
 have d1:(kind == 1)=false:=by simp [h1]
 by_cases h2:kind=2
 ·subst h2
  go_enter Tryz.func75,Tryz.ntmps75
  go_wp2
  go_ret
  exact boI ψ (Xa _ _)
 have d2:(kind == 2)=false:=by simp [h2]
 go_enter Tryz.func75,Tryz.ntmps75
 go_wp2
 go_ret
 exact boI (by by_cases h3:kind=3<;>simp [h1,h2,h3]) (Xa _ _)
theorem X3j (bs es:List Int) (bv ev:Value) (step:Int) (A B:Nat) (w:World) (hb:Xf A w 1 Zd bv bs) (he:Xf B w 1 Zd ev es):Calls Tryz.prog 100 #[bv,ev,ι step] w fun e w'=>e=.returned (.bool (V5 bs es (-1) step))/\∃ n,w'=w.drewN n:=by
 obtain ⟨ba,bc,rfl,aM,-,-,aJ⟩:=hb
 obtain ⟨ea,ec,rfl,aN,-,-,aL⟩:=he
 have HB:=Lh aJ
 have HE:=Lh aL
 obtain ⟨bn,aF⟩:∃ n,n=bs.length:=⟨_,rfl⟩
 obtain ⟨en,aG⟩:∃ n,n=es.length:=⟨_,rfl⟩
 rw [<-aF] at aM ⊢
 rw [<-aG] at aN ⊢
 have aI:=Lh aF
 have aE:=Lh aG
 clear aJ aL aF aG
 go_enter Tryz.func100,Tryz.ntmps100
 go_wp2_with fail
 go_loopw [7,8] (fun l i wr=>∃ (k:Nat) (last:Int),k<=bn/\i=ι k/\l=ι last/\Hid (V5 bs es (-1) step=V5 (bs.drop k) (es.drop k) last step)/\Hid (∃ n,wr=w.drewN n)) (fun _ i _=>bn - (intOf i).toNat)
 case atStart=>exact ⟨0,-1,Nat.zero_le _,rfl,rfl,Lh rfl,Lh ⟨0,rfl⟩⟩
 case round=>
  obtain ⟨k,last,hk,rfl,rfl,aA,hw⟩:=hrel
  by_cases aS:k<bn
  rotate_left
  ·obtain rfl:k=bn:=ω
   have HF:Hid (V5 bs es (-1) step=true):=Lh (by
    rw [aA.o,List.drop_eq_nil_of_le (by have:=aI.o;omega)]
    unfold V5;rfl)
   go_wp2
   go_ret
   exact ⟨by rw [HF.o];rfl,hw.o⟩
  obtain ⟨b,aB⟩:∃ x,bs[k]?=some x:=⟨_,Lg (by have:=aI.o;omega)⟩
  have hd:bs.drop k=b::bs.drop (k+1):=by
   obtain ⟨h1,rfl⟩:=List.getElem?_eq_some_iff.1 aB
   exact List.drop_eq_getElem_cons h1
  have HD:=Lh hd
  rcases HB.o with h|⟨b1,o1,rfl,-,hE⟩
  ·subst h;simp at aB
  have c1:wr.cell? (π b1 (o1+k))=some (ι b):=by
   obtain ⟨n,hn⟩:=hw.o
   rw [hn]
   have:=(hE k b aB).1
   rw [Nat.mul_one] at this;exact this
  have aO:(0:Int)<=(k:Int):=In _
  have aP:(k:Int)<(bn:Int):=ω
  clear hd hE aB
  by_cases t1:b<=last
  ·have d1:decide (b<=last)=true:=by simpa using t1
   have HF:Hid (V5 bs es (-1) step=false):=Lh (by
    rw [aA.o,HD.o]
    cases es.drop k<;>simp [V5]<;>omega)
   clear t1
   go_wp2
   go_ret
   exact ⟨by rw [HF.o];rfl,hw.o⟩
  have d1:decide (b<=last)=false:=by simp;omega
  by_cases t2:step<=b
  ·have d2:decide (step<=b)=true:=by simpa using t2
   have HF:Hid (V5 bs es (-1) step=false):=Lh (by
    rw [aA.o,HD.o]
    cases es.drop k<;>simp [V5]<;>omega)
   clear t1 t2
   go_wp2
   go_ret
   exact ⟨by rw [HF.o];rfl,hw.o⟩
  have d2:decide (step<=b)=false:=by simp;omega
  by_cases aR:k<en
  rotate_left
  ·have HR:Hid (V5 bs es (-1) step=V5 (bs.drop (k+1)) (es.drop (k+1)) last step):=Lh (by
    have h1:es.drop k=[]:=List.drop_eq_nil_of_le (by have:=aE.o;omega)
    have h2:es.drop (k+1)=[]:=List.drop_eq_nil_of_le (by have:=aE.o;omega)
    rw [aA.o,HD.o,h1,h2,Xv0 ω ω rfl])
   clear t1 t2
   go_wp2
   go_roundw
   case rel=>exact ⟨k+1,last,ω,by go_num,rfl,HR,hw⟩
   case measure=>simp [intOf];omega
  obtain ⟨e,aC⟩:∃ x,es[k]?=some x:=⟨_,Lg (by have:=aE.o;omega)⟩
  have aK:es.drop k=e::es.drop (k+1):=by
   obtain ⟨h1,rfl⟩:=List.getElem?_eq_some_iff.1 aC
   exact List.drop_eq_getElem_cons h1
  have aD:=Lh aK
  rcases HE.o with h|⟨b2,o2,rfl,-,hE⟩
  ·subst h;simp at aC
  have c2:wr.cell? (π b2 (o2+k))=some (ι e):=by
   obtain ⟨n,hn⟩:=hw.o
   rw [hn]
   have:=(hE k e aC).1
   rw [Nat.mul_one] at this;exact this
  have aQ:(k:Int)<(en:Int):=ω
  have aH:Hid (∀ q,∃ n,wr.drewN q=w.drewN n):=Lh (fun q=>by
   obtain ⟨n,hn⟩:=hw.o
   exact ⟨_,by rw [hn,World.drewN_drewN]⟩)
  clear aK hE aC
  by_cases t3:e<b
  ·have d3:decide (e<b)=true:=by simpa using t3
   have HF:Hid (V5 bs es (-1) step=false):=Lh (by
    rw [aA.o,HD.o,aD.o]
    simp [V5];omega)
   clear t1 t2 t3
   go_wp2_with fail
   go_quiet (fail)
   go_wp2
   go_ret
   exact ⟨by rw [HF.o];rfl,aH.o _⟩
  have d3:decide (e<b)=false:=by simp;omega
  by_cases t4:step<=e
  ·have d4:decide (step<=e)=true:=by simpa using t4
   have HF:Hid (V5 bs es (-1) step=false):=Lh (by
    rw [aA.o,HD.o,aD.o]
    simp [V5];omega)
   clear t1 t2 t3 t4
   go_wp2_with fail
   go_quiet (fail)
   go_wp2
   go_ret
   exact ⟨by rw [HF.o];rfl,aH.o _⟩
  have d4:decide (step<=e)=false:=by simp;omega
  have HR:Hid (V5 bs es (-1) step=V5 (bs.drop (k+1)) (es.drop (k+1)) e step):=Lh (by
   rw [aA.o,HD.o,aD.o]
   simp [V5,show last<b by omega,show b<step by omega,show b<=e by omega,show e<step by omega])
  clear t1 t2 t3 t4
  go_wp2_with fail
  go_quiet (fail)
  go_wp2
  go_roundw
  case rel=>exact ⟨k+1,e,ω,by go_num,rfl,HR,Lh (aH.o _)⟩
  case measure=>simp [intOf];omega
theorem X3e (l:List Int) (va vb:Value) (A B:Nat) (w:World) (ha:Xf A w 1 Zd va l) (hb:Xf B w 1 Zd vb l):Calls Tryz.prog 22 #[va,vb] w (Tru w):=by
 obtain ⟨aa,ac,rfl,hl⟩:=ha.frm
 obtain ⟨ba,bc,rfl,_⟩:=hb.frm
 have HA:=Lh ha
 have HB:=Lh hb
 obtain ⟨ln,aA⟩:∃ n,n=l.length:=⟨_,rfl⟩
 rw [<-aA] at hl HA HB ⊢
 have aB:=Lh aA
 have aH:((ln:Int) != (ln:Int))=false:=by simp
 clear ha hb aA
 go_enter Tryz.func22,Tryz.ntmps22
 go_wp2_with fail
 go_loopw [13] (fun i wr=>∃ k:Nat,k<=ln/\i=ι k/\Hid (∃ n,wr=w.drewN n)) (fun i _=>ln - (intOf i).toNat)
 case atStart=>exact ⟨0,Nat.zero_le _,rfl,Lh ⟨0,rfl⟩⟩
 case round=>
  obtain ⟨k,hk,rfl,hw⟩:=hrel
  obtain ⟨n,hn⟩:=hw.o
  by_cases aG:k<ln
  ·obtain ⟨x,hx⟩:∃ x,l[k]?=some x:=⟨_,Lg (by have:=aB.o;omega)⟩
   obtain ⟨b1,o1,aC,_,h1⟩:=HA.o.elem hx
   obtain ⟨b2,o2,aD,_,h2⟩:=HB.o.elem hx
   subst aC aD
   have c1:wr.cell? (π b1 (o1+k))=some (ι x):=by rw [hn];have:=h1.1;rw [Nat.mul_one] at this;exact this
   have c2:wr.cell? (π b2 (o2+k))=some (ι x):=by rw [hn];have:=h2.1;rw [Nat.mul_one] at this;exact this
   have aE:(0:Int)<=(k:Int):=In _
   have aF:(k:Int)<(ln:Int):=ω
   have aI:(x != x)=false:=by simp
   have HN:=Lh hn
   clear hx h1 h2 hw hn
   go_wp2_with fail
   go_quiet (fail)
   go_wp2
   go_roundw
   case rel=>exact ⟨k+1,ω,by go_num,Lh ⟨_,by rw [HN.o,World.drewN_drewN]⟩⟩
   case measure=>simp [intOf];omega
  ·go_wp2
   go_ret
   exact ⟨rfl,n,rfl⟩
theorem Xvl (l:List (List Int)) (va vb:Value) (A B:Nat) (w:World) (ha:Xf A w 1 (Xsa 1 Zd A) va l) (hb:Xf B w 1 (Xsa 1 Zd B) vb l):Calls Tryz.prog 57 #[va,vb] w (Tru w):=by
 obtain ⟨aa,ac,rfl,hl⟩:=ha.frm
 obtain ⟨ba,bc,rfl,_⟩:=hb.frm
 have HA:=Lh ha
 have HB:=Lh hb
 obtain ⟨ln,aA⟩:∃ n,n=l.length:=⟨_,rfl⟩
 rw [<-aA] at hl HA HB ⊢
 have aB:=Lh aA
 have aH:((ln:Int) != (ln:Int))=false:=by simp
 clear ha hb aA
 go_enter Tryz.func57,Tryz.ntmps57
 go_wp2_with fail
 go_loopw [5] (fun i wr=>∃ k:Nat,k<=ln/\i=ι k/\Hid (∃ n,wr=w.drewN n)) (fun i _=>ln - (intOf i).toNat)
 case atStart=>exact ⟨0,Nat.zero_le _,rfl,Lh ⟨0,rfl⟩⟩
 case round=>
  obtain ⟨k,hk,rfl,hw⟩:=hrel
  obtain ⟨n,hn⟩:=hw.o
  by_cases aG:k<ln
  ·obtain ⟨x,hx⟩:∃ x,l[k]?=some x:=⟨_,Lg (by have:=aB.o;omega)⟩
   obtain ⟨b1,o1,aC,_,v1,h1,s1⟩:=HA.o.elem hx
   obtain ⟨b2,o2,aD,_,v2,h2,s2⟩:=HB.o.elem hx
   subst aC aD
   rw [Nat.mul_one] at h1 h2
   have c1:wr.cell? (π b1 (o1+k))=some v1:=by rw [hn];exact h1
   have c2:wr.cell? (π b2 (o2+k))=some v2:=by rw [hn];exact h2
   obtain ⟨xa,xc,rfl⟩:=s1.fm
   obtain ⟨ya,yc,rfl⟩:=s2.fm
   have S1:Hid (∀ q,Xf A (wr.drewN q) 1 Zd (σ xa x.length xc) x):=Lh (fun q=>by rw [hn];exact s1)
   have S2:Hid (∀ q,Xf B (wr.drewN q) 1 Zd (σ ya x.length yc) x):=Lh (fun q=>by rw [hn];exact s2)
   have aE:(0:Int)<=(k:Int):=In _
   have aF:(k:Int)<(ln:Int):=ω
   have HN:=Lh hn
   clear hx h1 h2 hw hn s1 s2
   go_wp2_with fail
   go_quiet ((go_at_call 77;exact Calls.quiet_of (Xqd x _ _ A B _ (S1.o _) (S2.o _))))
   go_wp2
   go_roundw
   case rel=>exact ⟨k+1,ω,by go_num,Lh ⟨_,by rw [HN.o,World.drewN_drewN]⟩⟩
   case measure=>simp [intOf];omega
  ·go_wp2
   go_ret
   exact ⟨rfl,n,rfl⟩
theorem X0d (m:Mch) (fv:Value) (B:Nat) (w:World) (hf:Xf B w 4 (Qp B) fv m.frames):Calls Tryz.prog 96 #[.agg (Xb fv m),.agg #[ν,ι 0,ι 0,ι 0,ι 0,ι 0,ι 0,ι 0,ι 0]] w (BoI (Xsm m) w):=by
 obtain ⟨fa,fc,rfl,aD⟩:=hf.fr
 clear hf
 obtain ⟨fs,⟨kind,node,field,value,fault⟩,fuel,compares,idle⟩:=m
 obtain ⟨n,hn⟩:∃ n,n=fs.length:=⟨_,rfl⟩
 have HI:Hid (Xsm ⟨fs,⟨kind,node,field,value,fault⟩,fuel,compares,idle⟩=(decide (n=0) && (decide (kind=0/\node=0/\field=0/\value=0/\fault=0) && (decide (fuel=0) && (decide (compares=0) && decide (idle=0)))))):=Lh (by
  unfold Xsm
  rw [hn]
  cases fs<;>simp)
 unfold Xb
 dsimp only at aD ⊢
 rw [<-hn] at aD ⊢
 clear hn
 by_cases h0:n=0
 rotate_left
 ·have HF:Hid (Xsm ⟨fs,⟨kind,node,field,value,fault⟩,fuel,compares,idle⟩=false):=Lh (by rw [HI.o];simp [h0])
  have d0:((n:Int) != 0)=true:=by simp [h0]
  have d1:((n:Int) == 0)=false:=by simp [h0]
  have d2:(n == 0)=false:=by simp [h0]
  clear HI
  go_enter Tryz.func96,Tryz.ntmps96
  go_upto_region 1 with fail
  obtain ⟨W,hW⟩:∃ W,W=(w.alloc (χ #[σ fa n fc,ι kind,ι node,ι field,ι value,ι fault,ι fuel,ι compares,ι idle] 51)).alloc (χ #[ν,ι 0,ι 0,ι 0,ι 0,ι 0,ι 0,ι 0,ι 0] 51):=⟨_,rfl⟩
  have aC:Hid (Below w.heap.size w W):=by rw [hW];exact Lh ((Xa _ _).then (Xa _ _))
  have aA:W.heap[w.heap.size]?=some (χ #[σ fa n fc,ι kind,ι node,ι field,ι value,ι fault,ι fuel,ι compares,ι idle] 51 (0,0)):=by rw [hW,Ha _ _ _ ψ];exact Hn _ _
  have aB:W.heap[w.heap.size+1]?=some (χ #[ν,ι 0,ι 0,ι 0,ι 0,ι 0,ι 0,ι 0,ι 0] 51 (0,0)):=by
   rw [hW]
   have:=Hn (w.alloc (χ #[σ fa n fc,ι kind,ι node,ι field,ι value,ι fault,ι fuel,ι compares,ι idle] 51)) (χ #[ν,ι 0,ι 0,ι 0,ι 0,ι 0,ι 0,ι 0,ι 0] 51)
   rw [show (w.alloc (χ #[σ fa n fc,ι kind,ι node,ι field,ι value,ι fault,ι fuel,ι compares,ι idle] 51)).heap.size=w.heap.size+1 by simp] at this
   exact this
  have p0:=Cw aA 0 rfl
  have p1:=Cw aA 1 rfl
  have p2:=Cw aA 2 rfl
  have p3:=Cw aA 3 rfl
  have p4:=Cw aA 4 rfl
  have p5:=Cw aA 5 rfl
  have p6:=Cw aA 6 rfl
  have p7:=Cw aA 7 rfl
  have p8:=Cw aA 8 rfl
  have q0:=Cw aB 0 rfl
  have q1:=Cw aB 1 rfl
  have q2:=Cw aB 2 rfl
  have q3:=Cw aB 3 rfl
  have q4:=Cw aB 4 rfl
  have q5:=Cw aB 5 rfl
  have q6:=Cw aB 6 rfl
  have q7:=Cw aB 7 rfl
  have q8:=Cw aB 8 rfl
  have zp:=Bl p0
  have zq:=Bl q0
  rw [<-hW]
  clear hW aA aB
  go_wp2
  go_ret
  exact boI HF.o.symm aC.o
 subst h0
 by_cases h1:kind=0
 rotate_left
 ·have HF:Hid (Xsm ⟨fs,⟨kind,node,field,value,fault⟩,fuel,compares,idle⟩=false):=Lh (by rw [HI.o];simp [h1])
  have d0:(kind != 0)=true:=by simp [h1]
  have d1:(kind == 0)=false:=by simp [h1]
  clear HI
  go_enter Tryz.func96,Tryz.ntmps96
  go_upto_region 1 with fail
  obtain ⟨W,hW⟩:∃ W,W=(w.alloc (χ #[σ fa 0 fc,ι kind,ι node,ι field,ι value,ι fault,ι fuel,ι compares,ι idle] 51)).alloc (χ #[ν,ι 0,ι 0,ι 0,ι 0,ι 0,ι 0,ι 0,ι 0] 51):=⟨_,rfl⟩
  have aC:Hid (Below w.heap.size w W):=by rw [hW];exact Lh ((Xa _ _).then (Xa _ _))
  have aA:W.heap[w.heap.size]?=some (χ #[σ fa 0 fc,ι kind,ι node,ι field,ι value,ι fault,ι fuel,ι compares,ι idle] 51 (0,0)):=by rw [hW,Ha _ _ _ ψ];exact Hn _ _
  have aB:W.heap[w.heap.size+1]?=some (χ #[ν,ι 0,ι 0,ι 0,ι 0,ι 0,ι 0,ι 0,ι 0] 51 (0,0)):=by
   rw [hW]
   have:=Hn (w.alloc (χ #[σ fa 0 fc,ι kind,ι node,ι field,ι value,ι fault,ι fuel,ι compares,ι idle] 51)) (χ #[ν,ι 0,ι 0,ι 0,ι 0,ι 0,ι 0,ι 0,ι 0] 51)
   rw [show (w.alloc (χ #[σ fa 0 fc,ι kind,ι node,ι field,ι value,ι fault,ι fuel,ι compares,ι idle] 51)).heap.size=w.heap.size+1 by simp] at this
   exact this
  have p0:=Cw aA 0 rfl
  have p1:=Cw aA 1 rfl
  have p2:=Cw aA 2 rfl
  have p3:=Cw aA 3 rfl
  have p4:=Cw aA 4 rfl
  have p5:=Cw aA 5 rfl
  have p6:=Cw aA 6 rfl
  have p7:=Cw aA 7 rfl
  have p8:=Cw aA 8 rfl
  have q0:=Cw aB 0 rfl
  have q1:=Cw aB 1 rfl
  have q2:=Cw aB 2 rfl
  have q3:=Cw aB 3 rfl
  have q4:=Cw aB 4 rfl
  have q5:=Cw aB 5 rfl
  have q6:=Cw aB 6 rfl
  have q7:=Cw aB 7 rfl
  have q8:=Cw aB 8 rfl
  have zp:=Bl p0
  have zq:=Bl q0
  rw [<-hW]
  clear hW aA aB
  go_wp2
  go_ret
  exact boI HF.o.symm aC.o
 subst h1
 by_cases h2:node=0
 rotate_left
 ·have HF:Hid (Xsm ⟨fs,⟨0,node,field,value,fault⟩,fuel,compares,idle⟩=false):=Lh (by rw [HI.o];simp [h2])
  have d0:(node != 0)=true:=by simp [h2]
  have d1:(node == 0)=false:=by simp [h2]
  clear HI
  go_enter Tryz.func96,Tryz.ntmps96
  go_upto_region 1 with fail
  obtain ⟨W,hW⟩:∃ W,W=(w.alloc (χ #[σ fa 0 fc,ι 0,ι node,ι field,ι value,ι fault,ι fuel,ι compares,ι idle] 51)).alloc (χ #[ν,ι 0,ι 0,ι 0,ι 0,ι 0,ι 0,ι 0,ι 0] 51):=⟨_,rfl⟩
  have aC:Hid (Below w.heap.size w W):=by rw [hW];exact Lh ((Xa _ _).then (Xa _ _))
  have aA:W.heap[w.heap.size]?=some (χ #[σ fa 0 fc,ι 0,ι node,ι field,ι value,ι fault,ι fuel,ι compares,ι idle] 51 (0,0)):=by rw [hW,Ha _ _ _ ψ];exact Hn _ _
  have aB:W.heap[w.heap.size+1]?=some (χ #[ν,ι 0,ι 0,ι 0,ι 0,ι 0,ι 0,ι 0,ι 0] 51 (0,0)):=by
   rw [hW]
   have:=Hn (w.alloc (χ #[σ fa 0 fc,ι 0,ι node,ι field,ι value,ι fault,ι fuel,ι compares,ι idle] 51)) (χ #[ν,ι 0,ι 0,ι 0,ι 0,ι 0,ι 0,ι 0,ι 0] 51)
   rw [show (w.alloc (χ #[σ fa 0 fc,ι 0,ι node,ι field,ι value,ι fault,ι fuel,ι compares,ι idle] 51)).heap.size=w.heap.size+1 by simp] at this
   exact this
  have p0:=Cw aA 0 rfl
  have p1:=Cw aA 1 rfl
  have p2:=Cw aA 2 rfl
  have p3:=Cw aA 3 rfl
  have p4:=Cw aA 4 rfl
  have p5:=Cw aA 5 rfl
  have p6:=Cw aA 6 rfl
  have p7:=Cw aA 7 rfl
  have p8:=Cw aA 8 rfl
  have q0:=Cw aB 0 rfl
  have q1:=Cw aB 1 rfl
  have q2:=Cw aB 2 rfl
  have q3:=Cw aB 3 rfl
  have q4:=Cw aB 4 rfl
  have q5:=Cw aB 5 rfl
  have q6:=Cw aB 6 rfl
  have q7:=Cw aB 7 rfl
  have q8:=Cw aB 8 rfl
  have zp:=Bl p0
  have zq:=Bl q0
  rw [<-hW]
  clear hW aA aB
  go_wp2
  go_ret
  exact boI HF.o.symm aC.o
 subst h2
 by_cases h3:field=0
 rotate_left
 ·have HF:Hid (Xsm ⟨fs,⟨0,0,field,value,fault⟩,fuel,compares,idle⟩=false):=Lh (by rw [HI.o];simp [h3])
  have d0:(field != 0)=true:=by simp [h3]
  have d1:(field == 0)=false:=by simp [h3]
  clear HI
  go_enter Tryz.func96,Tryz.ntmps96
  go_upto_region 1 with fail
  obtain ⟨W,hW⟩:∃ W,W=(w.alloc (χ #[σ fa 0 fc,ι 0,ι 0,ι field,ι value,ι fault,ι fuel,ι compares,ι idle] 51)).alloc (χ #[ν,ι 0,ι 0,ι 0,ι 0,ι 0,ι 0,ι 0,ι 0] 51):=⟨_,rfl⟩
  have aC:Hid (Below w.heap.size w W):=by rw [hW];exact Lh ((Xa _ _).then (Xa _ _))
  have aA:W.heap[w.heap.size]?=some (χ #[σ fa 0 fc,ι 0,ι 0,ι field,ι value,ι fault,ι fuel,ι compares,ι idle] 51 (0,0)):=by rw [hW,Ha _ _ _ ψ];exact Hn _ _
  have aB:W.heap[w.heap.size+1]?=some (χ #[ν,ι 0,ι 0,ι 0,ι 0,ι 0,ι 0,ι 0,ι 0] 51 (0,0)):=by
   rw [hW]
   have:=Hn (w.alloc (χ #[σ fa 0 fc,ι 0,ι 0,ι field,ι value,ι fault,ι fuel,ι compares,ι idle] 51)) (χ #[ν,ι 0,ι 0,ι 0,ι 0,ι 0,ι 0,ι 0,ι 0] 51)
   rw [show (w.alloc (χ #[σ fa 0 fc,ι 0,ι 0,ι field,ι value,ι fault,ι fuel,ι compares,ι idle] 51)).heap.size=w.heap.size+1 by simp] at this
   exact this
  have p0:=Cw aA 0 rfl
  have p1:=Cw aA 1 rfl
  have p2:=Cw aA 2 rfl
  have p3:=Cw aA 3 rfl
  have p4:=Cw aA 4 rfl
  have p5:=Cw aA 5 rfl
  have p6:=Cw aA 6 rfl
  have p7:=Cw aA 7 rfl
  have p8:=Cw aA 8 rfl
  have q0:=Cw aB 0 rfl
  have q1:=Cw aB 1 rfl
  have q2:=Cw aB 2 rfl
  have q3:=Cw aB 3 rfl
  have q4:=Cw aB 4 rfl
  have q5:=Cw aB 5 rfl
  have q6:=Cw aB 6 rfl
  have q7:=Cw aB 7 rfl
  have q8:=Cw aB 8 rfl
  have zp:=Bl p0
  have zq:=Bl q0
  rw [<-hW]
  clear hW aA aB
  go_wp2
  go_ret
  exact boI HF.o.symm aC.o
 subst h3
 by_cases h4:value=0
 rotate_left
 ·have HF:Hid (Xsm ⟨fs,⟨0,0,0,value,fault⟩,fuel,compares,idle⟩=false):=Lh (by rw [HI.o];simp [h4])
  have d0:(value != 0)=true:=by simp [h4]
  have d1:(value == 0)=false:=by simp [h4]
  clear HI
  go_enter Tryz.func96,Tryz.ntmps96
  go_upto_region 1 with fail
  obtain ⟨W,hW⟩:∃ W,W=(w.alloc (χ #[σ fa 0 fc,ι 0,ι 0,ι 0,ι value,ι fault,ι fuel,ι compares,ι idle] 51)).alloc (χ #[ν,ι 0,ι 0,ι 0,ι 0,ι 0,ι 0,ι 0,ι 0] 51):=⟨_,rfl⟩
  have aC:Hid (Below w.heap.size w W):=by rw [hW];exact Lh ((Xa _ _).then (Xa _ _))
  have aA:W.heap[w.heap.size]?=some (χ #[σ fa 0 fc,ι 0,ι 0,ι 0,ι value,ι fault,ι fuel,ι compares,ι idle] 51 (0,0)):=by rw [hW,Ha _ _ _ ψ];exact Hn _ _
  have aB:W.heap[w.heap.size+1]?=some (χ #[ν,ι 0,ι 0,ι 0,ι 0,ι 0,ι 0,ι 0,ι 0] 51 (0,0)):=by
   rw [hW]
   have:=Hn (w.alloc (χ #[σ fa 0 fc,ι 0,ι 0,ι 0,ι value,ι fault,ι fuel,ι compares,ι idle] 51)) (χ #[ν,ι 0,ι 0,ι 0,ι 0,ι 0,ι 0,ι 0,ι 0] 51)
   rw [show (w.alloc (χ #[σ fa 0 fc,ι 0,ι 0,ι 0,ι value,ι fault,ι fuel,ι compares,ι idle] 51)).heap.size=w.heap.size+1 by simp] at this
   exact this
  have p0:=Cw aA 0 rfl
  have p1:=Cw aA 1 rfl
  have p2:=Cw aA 2 rfl
  have p3:=Cw aA 3 rfl
  have p4:=Cw aA 4 rfl
  have p5:=Cw aA 5 rfl
  have p6:=Cw aA 6 rfl
  have p7:=Cw aA 7 rfl
  have p8:=Cw aA 8 rfl
  have q0:=Cw aB 0 rfl
  have q1:=Cw aB 1 rfl
  have q2:=Cw aB 2 rfl
  have q3:=Cw aB 3 rfl
  have q4:=Cw aB 4 rfl
  have q5:=Cw aB 5 rfl
  have q6:=Cw aB 6 rfl
  have q7:=Cw aB 7 rfl
  have q8:=Cw aB 8 rfl
  have zp:=Bl p0
  have zq:=Bl q0
  rw [<-hW]
  clear hW aA aB
  go_wp2
  go_ret
  exact boI HF.o.symm aC.o
 subst h4
 by_cases h5:fault=0
 rotate_left
 ·have HF:Hid (Xsm ⟨fs,⟨0,0,0,0,fault⟩,fuel,compares,idle⟩=false):=Lh (by rw [HI.o];simp [h5])
  have d0:(fault != 0)=true:=by simp [h5]
  have d1:(fault == 0)=false:=by simp [h5]
  clear HI
  go_enter Tryz.func96,Tryz.ntmps96
  go_upto_region 1 with fail
  obtain ⟨W,hW⟩:∃ W,W=(w.alloc (χ #[σ fa 0 fc,ι 0,ι 0,ι 0,ι 0,ι fault,ι fuel,ι compares,ι idle] 51)).alloc (χ #[ν,ι 0,ι 0,ι 0,ι 0,ι 0,ι 0,ι 0,ι 0] 51):=⟨_,rfl⟩
  have aC:Hid (Below w.heap.size w W):=by rw [hW];exact Lh ((Xa _ _).then (Xa _ _))
  have aA:W.heap[w.heap.size]?=some (χ #[σ fa 0 fc,ι 0,ι 0,ι 0,ι 0,ι fault,ι fuel,ι compares,ι idle] 51 (0,0)):=by rw [hW,Ha _ _ _ ψ];exact Hn _ _
  have aB:W.heap[w.heap.size+1]?=some (χ #[ν,ι 0,ι 0,ι 0,ι 0,ι 0,ι 0,ι 0,ι 0] 51 (0,0)):=by
   rw [hW]
   have:=Hn (w.alloc (χ #[σ fa 0 fc,ι 0,ι 0,ι 0,ι 0,ι fault,ι fuel,ι compares,ι idle] 51)) (χ #[ν,ι 0,ι 0,ι 0,ι 0,ι 0,ι 0,ι 0,ι 0] 51)
   rw [show (w.alloc (χ #[σ fa 0 fc,ι 0,ι 0,ι 0,ι 0,ι fault,ι fuel,ι compares,ι idle] 51)).heap.size=w.heap.size+1 by simp] at this
   exact this
  have p0:=Cw aA 0 rfl
  have p1:=Cw aA 1 rfl
  have p2:=Cw aA 2 rfl
  have p3:=Cw aA 3 rfl
  have p4:=Cw aA 4 rfl
  have p5:=Cw aA 5 rfl
  have p6:=Cw aA 6 rfl
  have p7:=Cw aA 7 rfl
  have p8:=Cw aA 8 rfl
  have q0:=Cw aB 0 rfl
  have q1:=Cw aB 1 rfl
  have q2:=Cw aB 2 rfl
  have q3:=Cw aB 3 rfl
  have q4:=Cw aB 4 rfl
  have q5:=Cw aB 5 rfl
  have q6:=Cw aB 6 rfl
  have q7:=Cw aB 7 rfl
  have q8:=Cw aB 8 rfl
  have zp:=Bl p0
  have zq:=Bl q0
  rw [<-hW]
  clear hW aA aB
  go_wp2
  go_ret
  exact boI HF.o.symm aC.o
 subst h5
 by_cases h6:fuel=0
 rotate_left
 ·have HF:Hid (Xsm ⟨fs,⟨0,0,0,0,0⟩,fuel,compares,idle⟩=false):=Lh (by rw [HI.o];simp [h6])
  have d0:(fuel != 0)=true:=by simp [h6]
  have d1:(fuel == 0)=false:=by simp [h6]
  clear HI
  go_enter Tryz.func96,Tryz.ntmps96
  go_upto_region 1 with fail
  obtain ⟨W,hW⟩:∃ W,W=(w.alloc (χ #[σ fa 0 fc,ι 0,ι 0,ι 0,ι 0,ι 0,ι fuel,ι compares,ι idle] 51)).alloc (χ #[ν,ι 0,ι 0,ι 0,ι 0,ι 0,ι 0,ι 0,ι 0] 51):=⟨_,rfl⟩
  have aC:Hid (Below w.heap.size w W):=by rw [hW];exact Lh ((Xa _ _).then (Xa _ _))
  have aA:W.heap[w.heap.size]?=some (χ #[σ fa 0 fc,ι 0,ι 0,ι 0,ι 0,ι 0,ι fuel,ι compares,ι idle] 51 (0,0)):=by rw [hW,Ha _ _ _ ψ];exact Hn _ _
  have aB:W.heap[w.heap.size+1]?=some (χ #[ν,ι 0,ι 0,ι 0,ι 0,ι 0,ι 0,ι 0,ι 0] 51 (0,0)):=by
   rw [hW]
   have:=Hn (w.alloc (χ #[σ fa 0 fc,ι 0,ι 0,ι 0,ι 0,ι 0,ι fuel,ι compares,ι idle] 51)) (χ #[ν,ι 0,ι 0,ι 0,ι 0,ι 0,ι 0,ι 0,ι 0] 51)
   rw [show (w.alloc (χ #[σ fa 0 fc,ι 0,ι 0,ι 0,ι 0,ι 0,ι fuel,ι compares,ι idle] 51)).heap.size=w.heap.size+1 by simp] at this
   exact this
  have p0:=Cw aA 0 rfl
  have p1:=Cw aA 1 rfl
  have p2:=Cw aA 2 rfl
  have p3:=Cw aA 3 rfl
  have p4:=Cw aA 4 rfl
  have p5:=Cw aA 5 rfl
  have p6:=Cw aA 6 rfl
  have p7:=Cw aA 7 rfl
  have p8:=Cw aA 8 rfl
  have q0:=Cw aB 0 rfl
  have q1:=Cw aB 1 rfl
  have q2:=Cw aB 2 rfl
  have q3:=Cw aB 3 rfl
  have q4:=Cw aB 4 rfl
  have q5:=Cw aB 5 rfl
  have q6:=Cw aB 6 rfl
  have q7:=Cw aB 7 rfl
  have q8:=Cw aB 8 rfl
  have zp:=Bl p0
  have zq:=Bl q0
  rw [<-hW]
  clear hW aA aB
  go_wp2
  go_ret
  exact boI HF.o.symm aC.o
 subst h6
 by_cases h7:compares=0
 rotate_left
 ·have HF:Hid (Xsm ⟨fs,⟨0,0,0,0,0⟩,0,compares,idle⟩=false):=Lh (by rw [HI.o];simp [h7])
  have d0:(compares != 0)=true:=by simp [h7]
  have d1:(compares == 0)=false:=by simp [h7]
  clear HI
  go_enter Tryz.func96,Tryz.ntmps96
  go_upto_region 1 with fail
  obtain ⟨W,hW⟩:∃ W,W=(w.alloc (χ #[σ fa 0 fc,ι 0,ι 0,ι 0,ι 0,ι 0,ι 0,ι compares,ι idle] 51)).alloc (χ #[ν,ι 0,ι 0,ι 0,ι 0,ι 0,ι 0,ι 0,ι 0] 51):=⟨_,rfl⟩
  have aC:Hid (Below w.heap.size w W):=by rw [hW];exact Lh ((Xa _ _).then (Xa _ _))
  have aA:W.heap[w.heap.size]?=some (χ #[σ fa 0 fc,ι 0,ι 0,ι 0,ι 0,ι 0,ι 0,ι compares,ι idle] 51 (0,0)):=by rw [hW,Ha _ _ _ ψ];exact Hn _ _
  have aB:W.heap[w.heap.size+1]?=some (χ #[ν,ι 0,ι 0,ι 0,ι 0,ι 0,ι 0,ι 0,ι 0] 51 (0,0)):=by
   rw [hW]
   have:=Hn (w.alloc (χ #[σ fa 0 fc,ι 0,ι 0,ι 0,ι 0,ι 0,ι 0,ι compares,ι idle] 51)) (χ #[ν,ι 0,ι 0,ι 0,ι 0,ι 0,ι 0,ι 0,ι 0] 51)
   rw [show (w.alloc (χ #[σ fa 0 fc,ι 0,ι 0,ι 0,ι 0,ι 0,ι 0,ι compares,ι idle] 51)).heap.size=w.heap.size+1 by simp] at this
   exact this
  have p0:=Cw aA 0 rfl
  have p1:=Cw aA 1 rfl
  have p2:=Cw aA 2 rfl
  have p3:=Cw aA 3 rfl
  have p4:=Cw aA 4 rfl
  have p5:=Cw aA 5 rfl
  have p6:=Cw aA 6 rfl
  have p7:=Cw aA 7 rfl
  have p8:=Cw aA 8 rfl
  have q0:=Cw aB 0 rfl
  have q1:=Cw aB 1 rfl
  have q2:=Cw aB 2 rfl
  have q3:=Cw aB 3 rfl
  have q4:=Cw aB 4 rfl
  have q5:=Cw aB 5 rfl
  have q6:=Cw aB 6 rfl
  have q7:=Cw aB 7 rfl
  have q8:=Cw aB 8 rfl
  have zp:=Bl p0
  have zq:=Bl q0
  rw [<-hW]
  clear hW aA aB
  go_wp2
  go_ret
  exact boI HF.o.symm aC.o
 subst h7
 by_cases h8:idle=0
 rotate_left
 ·have HF:Hid (Xsm ⟨fs,⟨0,0,0,0,0⟩,0,0,idle⟩=false):=Lh (by rw [HI.o];simp [h8])
  have d0:(idle != 0)=true:=by simp [h8]
  have d1:(idle == 0)=false:=by simp [h8]
  clear HI
  go_enter Tryz.func96,Tryz.ntmps96
  go_upto_region 1 with fail
  obtain ⟨W,hW⟩:∃ W,W=(w.alloc (χ #[σ fa 0 fc,ι 0,ι 0,ι 0,ι 0,ι 0,ι 0,ι 0,ι idle] 51)).alloc (χ #[ν,ι 0,ι 0,ι 0,ι 0,ι 0,ι 0,ι 0,ι 0] 51):=⟨_,rfl⟩
  have aC:Hid (Below w.heap.size w W):=by rw [hW];exact Lh ((Xa _ _).then (Xa _ _))
  have aA:W.heap[w.heap.size]?=some (χ #[σ fa 0 fc,ι 0,ι 0,ι 0,ι 0,ι 0,ι 0,ι 0,ι idle] 51 (0,0)):=by rw [hW,Ha _ _ _ ψ];exact Hn _ _
  have aB:W.heap[w.heap.size+1]?=some (χ #[ν,ι 0,ι 0,ι 0,ι 0,ι 0,ι 0,ι 0,ι 0] 51 (0,0)):=by
   rw [hW]
   have:=Hn (w.alloc (χ #[σ fa 0 fc,ι 0,ι 0,ι 0,ι 0,ι 0,ι 0,ι 0,ι idle] 51)) (χ #[ν,ι 0,ι 0,ι 0,ι 0,ι 0,ι 0,ι 0,ι 0] 51)
   rw [show (w.alloc (χ #[σ fa 0 fc,ι 0,ι 0,ι 0,ι 0,ι 0,ι 0,ι 0,ι idle] 51)).heap.size=w.heap.size+1 by simp] at this
   exact this
  have p0:=Cw aA 0 rfl
  have p1:=Cw aA 1 rfl
  have p2:=Cw aA 2 rfl
  have p3:=Cw aA 3 rfl
  have p4:=Cw aA 4 rfl
  have p5:=Cw aA 5 rfl
  have p6:=Cw aA 6 rfl
  have p7:=Cw aA 7 rfl
  have p8:=Cw aA 8 rfl
  have q0:=Cw aB 0 rfl
  have q1:=Cw aB 1 rfl
  have q2:=Cw aB 2 rfl
  have q3:=Cw aB 3 rfl
  have q4:=Cw aB 4 rfl
  have q5:=Cw aB 5 rfl
  have q6:=Cw aB 6 rfl
  have q7:=Cw aB 7 rfl
  have q8:=Cw aB 8 rfl
  have zp:=Bl p0
  have zq:=Bl q0
  rw [<-hW]
  clear hW aA aB
  go_wp2
  go_ret
  exact boI HF.o.symm aC.o
 subst h8
 have HF:Hid (Xsm ⟨fs,⟨0,0,0,0,0⟩,0,0,0⟩=true):=Lh (by rw [HI.o];simp)
 clear HI
 go_enter Tryz.func96,Tryz.ntmps96
 go_upto_region 1 with fail
 obtain ⟨W,hW⟩:∃ W,W=(w.alloc (χ #[σ fa 0 fc,ι 0,ι 0,ι 0,ι 0,ι 0,ι 0,ι 0,ι 0] 51)).alloc (χ #[ν,ι 0,ι 0,ι 0,ι 0,ι 0,ι 0,ι 0,ι 0] 51):=⟨_,rfl⟩
 have aC:Hid (Below w.heap.size w W):=by rw [hW];exact Lh ((Xa _ _).then (Xa _ _))
 have aA:W.heap[w.heap.size]?=some (χ #[σ fa 0 fc,ι 0,ι 0,ι 0,ι 0,ι 0,ι 0,ι 0,ι 0] 51 (0,0)):=by rw [hW,Ha _ _ _ ψ];exact Hn _ _
 have aB:W.heap[w.heap.size+1]?=some (χ #[ν,ι 0,ι 0,ι 0,ι 0,ι 0,ι 0,ι 0,ι 0] 51 (0,0)):=by
  rw [hW]
  have:=Hn (w.alloc (χ #[σ fa 0 fc,ι 0,ι 0,ι 0,ι 0,ι 0,ι 0,ι 0,ι 0] 51)) (χ #[ν,ι 0,ι 0,ι 0,ι 0,ι 0,ι 0,ι 0,ι 0] 51)
  rw [show (w.alloc (χ #[σ fa 0 fc,ι 0,ι 0,ι 0,ι 0,ι 0,ι 0,ι 0,ι 0] 51)).heap.size=w.heap.size+1 by simp] at this
  exact this
 have p0:=Cw aA 0 rfl
 have p1:=Cw aA 1 rfl
 have p2:=Cw aA 2 rfl
 have p3:=Cw aA 3 rfl
 have p4:=Cw aA 4 rfl
 have p5:=Cw aA 5 rfl
 have p6:=Cw aA 6 rfl
 have p7:=Cw aA 7 rfl
 have p8:=Cw aA 8 rfl
 have q0:=Cw aB 0 rfl
 have q1:=Cw aB 1 rfl
 have q2:=Cw aB 2 rfl
 have q3:=Cw aB 3 rfl
 have q4:=Cw aB 4 rfl
 have q5:=Cw aB 5 rfl
 have q6:=Cw aB 6 rfl
 have q7:=Cw aB 7 rfl
 have q8:=Cw aB 8 rfl
 have zp:=Bl p0
 have zq:=Bl q0
 rw [<-hW]
 clear hW aA aB
 go_wp2_with fail
 go_loopw [5] (fun i wr=>i=ι 0/\Hid (Below W.heap.size W wr)) (fun _ _=>0)
 case atStart=>exact ⟨rfl,Lh Br⟩
 case round=>
  obtain ⟨rfl,hb⟩:=hrel
  have s0:=Xc hb.o p0
  have zs:=Bl s0
  clear p0 p1 p2 p3 p4 p5 p6 p7 p8 q0 q1 q2 q3 q4 q5 q6 q7 q8 zp zq
  go_wp2
  go_ret
  exact boI HF.o.symm (aC.o.then hb.o)
theorem X3t (m:Mch) (fv:Value) (B:Nat) (w:World) (hB:B<=w.heap.size) (hf:Xf B w 4 (Qp B) fv m.frames):Calls Tryz.prog 98 #[.agg (Xb fv m)] w (BoI (Xsm m) w):=by
 have HF:=Lh hf
 obtain ⟨fa,fc,rfl⟩:=hf.fm
 have hs:=fun w0 h0=>X0d m (σ fa m.frames.length fc) B w0 h0
 have HS:=Lh hs
 obtain ⟨n,hn⟩:∃ n,n=m.frames.length:=⟨_,rfl⟩
 unfold Xb at HS ⊢
 rw [<-hn] at HF HS ⊢
 obtain ⟨W,hW⟩:∃ W,W=w.alloc (χ #[σ fa n fc,ι m.req.kind,ι m.req.node,ι m.req.field,ι m.req.value,ι m.req.fault,ι m.fuel,ι m.compares,ι m.idle] 51):=⟨_,rfl⟩
 have aB:Hid (Below w.heap.size w W):=by rw [hW];exact Lh (Xa _ _)
 have aA:W.heap[w.heap.size]?=some (χ #[σ fa n fc,ι m.req.kind,ι m.req.node,ι m.req.field,ι m.req.value,ι m.req.fault,ι m.fuel,ι m.compares,ι m.idle] 51 (0,0)):=by rw [hW];exact Hn _ _
 have p0:=Cw aA 0 rfl
 have p1:=Cw aA 1 rfl
 have p2:=Cw aA 2 rfl
 have p3:=Cw aA 3 rfl
 have p4:=Cw aA 4 rfl
 have p5:=Cw aA 5 rfl
 have p6:=Cw aA 6 rfl
 have p7:=Cw aA 7 rfl
 have p8:=Cw aA 8 rfl
 have zp:=Bl p0
 clear hf hs hn aA
 go_enter Tryz.func98,Tryz.ntmps98
 go_upto_region 1 with fail
 rw [<-hW]
 clear hW
 go_wp2_with fail
 refine (HS.o W (HF.o.fras (aB.o.mono hB))).mono ?_
 rintro e w1 ⟨rfl,aC⟩
 have aD:=Lh (aB.o.then aC)
 clear aC
 go_wp2
 go_ret
 exact boI rfl aD.o
