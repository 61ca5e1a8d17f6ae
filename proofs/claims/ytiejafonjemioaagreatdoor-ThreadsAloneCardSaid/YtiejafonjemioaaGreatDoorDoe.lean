import Derived.Test.YtiejafonjemioaaGreatDoorStep0
import Derived.Deep.QuietTactic
import Derived.BigQuiet
import Derived.Outline
import Derived.Test.YtiejafonjemioaaGreatDoorInv
import Derived.Test.YtiejafonjemioaaGreatDoorTh4
set_option maxHeartbeats 2000000
set_option maxRecDepth 100000
set_option linter.unusedVariables false
set_option linter.unusedSimpArgs false
namespace Go.Proofs.YtiejafonjemioaaGreatDoor
open Go.RowKit
variable {α:Type} {B sz cap n k:Nat} {w:World} {a:Option Addr} {E:World→Nat→Nat→α→Prop} {l:List α}
theorem Xf.elem (h:Xf B w sz E (.slice a n cap) l) {x:α} (hx:l[k]?=some x):∃ b o,a=some ⟨b,o,none⟩∧b<B∧E w b (o+k*sz) x:=by
 obtain ⟨a0,aA,aB,_,_,_,hE⟩:=h
 obtain ⟨rfl,_,rfl⟩:a=a0∧n=l.length∧cap=aA:=by simpa using aB
 rcases hE with h0|⟨b,o,rfl,hb,hE⟩
 ·rw [h0] at hx;simp at hx
 ·exact ⟨b,o,rfl,hb,hE k x hx⟩
theorem Xf.frm {v:Value} (h:Xf B w sz E v l):∃ a cap,v=.slice a l.length cap∧l.length≤140737488355328:=by
 obtain ⟨a,cap,rfl,hl,_⟩:=h
 exact ⟨a,cap,rfl,hl⟩
def Tru (w:World) (e:Ending) (w':World):Prop:=e=.returned (.bool true)∧∃ n,w'=w.drewN n
theorem Xqd (l:List Int) (va vb:Value) (A B:Nat) (w:World) (ha:Xf A w 1 Zd va l) (hb:Xf B w 1 Zd vb l):Calls Tryz.prog 77 #[va,vb] w (Tru w):=by
 obtain ⟨aa,ac,rfl,hl⟩:=ha.frm
 obtain ⟨ba,bc,rfl,_⟩:=hb.frm
 have HA:=Lh ha
 have HB:=Lh hb
 obtain ⟨ln,aA⟩:∃ n,n=l.length:=⟨_,rfl⟩
 rw [←aA] at hl HA HB ⊢
 have aB:=Lh aA
 have aH:((ln:Int) != (ln:Int))=false:=by simp
 clear ha hb aA
 go_enter Tryz.func77,Tryz.ntmps77
 go_wp2_with fail
 go_loopw [5] (fun i wr=>∃ k:Nat,k≤ln∧i=.int .i64 k∧Hid (∃ n,wr=w.drewN n)) (fun i _=>ln - (intOf i).toNat)
 case atStart=>exact ⟨0,Nat.zero_le _,rfl,Lh ⟨0,rfl⟩⟩
 case round=>
  obtain ⟨k,hk,rfl,hw⟩:=hrel
  obtain ⟨n,hn⟩:=hw.out
  by_cases aG:k<ln
  ·obtain ⟨x,hx⟩:∃ x,l[k]?=some x:=⟨_,Lg (by have:=aB.out;omega)⟩
   obtain ⟨b1,o1,aC,_,h1⟩:=HA.out.elem hx
   obtain ⟨b2,o2,aD,_,h2⟩:=HB.out.elem hx
   subst aC aD
   have c1:wr.cell? ⟨b1,o1+k,none⟩=some (.int .i64 x):=by rw [hn];have:=h1.1;rw [Nat.mul_one] at this;exact this
   have c2:wr.cell? ⟨b2,o2+k,none⟩=some (.int .i64 x):=by rw [hn];have:=h2.1;rw [Nat.mul_one] at this;exact this
   have aE:(0:Int)≤(k:Int):=In _
   have aF:(k:Int)<(ln:Int):=by omega
   have aI:(x != x)=false:=by simp
   have HN:=Lh hn
   clear hx h1 h2 hw hn
   go_wp2_with fail
   go_quiet (fail)
   go_wp2_with fail
   go_roundw
   case rel=>exact ⟨k+1,by omega,by go_num,Lh ⟨_,by rw [HN.out,World.drewN_drewN]⟩⟩
   case measure=>simp [intOf];omega
  ·go_wp2_with fail
   go_ret
   exact ⟨rfl,n,rfl⟩
theorem Xf.nodElem {l:List Nod} (h:Xf B w 2 (Xbc B) (.slice a n cap) l) {w':World} (hb:Below B w w') {f:Nod} (hx:l[k]?=some f):∃ b o la lc,a=some ⟨b,o,none⟩∧b<B∧w'.cell? ⟨b,o+k*2,none⟩=some (.int .i64 f.type)∧w'.cell? ⟨b,o+k*2+1,none⟩=some (.slice la f.f.length lc)∧Xf B w' 1 Zd (.slice la f.f.length lc) f.f:=by
 obtain ⟨b,o,rfl,aA,hE⟩:=(h.nods hb).elem hx
 obtain ⟨h1,⟨v,h3,h4⟩,h7⟩:=hE
 obtain ⟨la,lc,rfl,_⟩:=h4.frm
 exact ⟨b,o,la,lc,rfl,aA,h1,h3,h4⟩
theorem X1j (m:Mm) (va vb:Value) (A B:Nat) (w:World) (hA:A≤w.heap.size) (hB:B≤w.heap.size) (ha:MmV A w va m) (hb:MmV B w vb m) :
  Calls Tryz.prog 30 #[va,vb] w (fun e w'=>e=.returned (.bool true)∧Below w.heap.size w w'):=by
 obtain ⟨g1,n1,rfl,aH,aK⟩:=ha
 obtain ⟨g2,n2,rfl,aI,aL⟩:=hb
 obtain ⟨aD,aF,rfl,bI⟩:=aH.frm
 obtain ⟨aE,aG,rfl,_⟩:=aI.frm
 obtain ⟨aM,aO,rfl,bH⟩:=aK.frm
 obtain ⟨aN,aP,rfl,_⟩:=aL.frm
 have aQ:=Lh aH
 have aR:=Lh aI
 have aS:=Lh aK
 have aT:=Lh aL
 obtain ⟨gn,aX⟩:∃ n,n=m.globals.length:=⟨_,rfl⟩
 obtain ⟨ln,aJ⟩:∃ n,n=m.nodes.length:=⟨_,rfl⟩
 rw [←aX] at aQ aR ⊢
 rw [←aJ] at bH aS aT ⊢
 have bA:=Lh aJ
 have bM:((ln:Int) != (ln:Int))=false:=by simp
 obtain ⟨W,hW⟩:∃ W,W=(w.alloc (.cells #[.slice aD gn aF,.slice aM ln aO] 28)).alloc (.cells #[.slice aE gn aG,.slice aN ln aP] 28):=⟨_,rfl⟩
 have aA:Hid (Below w.heap.size w W):=by rw [hW];exact Lh ((Xa _ _).then (Xa _ _))
 have aU:Hid (Xo W w.heap.size [.slice aD gn aF,.slice aM ln aO]):=by rw [hW];exact Lh (Xd.alloc _)
 have aV:Hid (Xo W (w.heap.size+1) [.slice aE gn aG,.slice aN ln aP]):=by
  rw [hW]
  have:=@Xd (w.alloc (.cells #[.slice aD gn aF,.slice aM ln aO] 28)) #[.slice aE gn aG,.slice aN ln aP] 28
  exact Lh (by simpa using this)
 have p0:=aU.out 0 _ rfl
 have p1:=aU.out 1 _ rfl
 have q0:=aV.out 0 _ rfl
 have q1:=aV.out 1 _ rfl
 have zp:=Bl p0
 have zq:=Bl q0
 have bB:A≤W.heap.size:=Nt hA aA.out.size
 have bC:B≤W.heap.size:=Nt hB aA.out.size
 clear aH aI aK aL aX aJ
 go_enter Tryz.func30,Tryz.ntmps30
 go_upto_region 1 with fail
 rw [←hW]
 clear hW
 go_wp2_with fail
 refine (Xqd m.globals _ _ A B W (aQ.out.ints (aA.out.mono hA)) (aR.out.ints (aA.out.mono hB))).mono ?_
 rintro e w8 ⟨rfl,nq,rfl⟩
 go_wp2_with fail
 go_loopw [5] (fun i wr=>∃ k:Nat,k≤ln∧i=.int .i64 k∧Hid (∃ n,wr=W.drewN n)) (fun i _=>ln - (intOf i).toNat)
 case atStart=>exact ⟨0,Nat.zero_le _,rfl,Lh ⟨nq,rfl⟩⟩
 case round=>
  obtain ⟨k,hk,rfl,hw⟩:=hrel
  obtain ⟨n,hn⟩:=hw.out
  have hb:Below W.heap.size W wr:=by rw [hn];exact Xh Br n
  have s0:=Xc hb p0
  have s1:=Xc hb p1
  have t0:=Xc hb q0
  have t1:=Xc hb q1
  have zs:=Bl s0
  have zt:=Bl t0
  by_cases bL:k<ln
  ·obtain ⟨f,hx⟩:∃ x,m.nodes[k]?=some x:=⟨_,Lg (by have:=bA.out;omega)⟩
   obtain ⟨b1,o1,bO,bQ,bD,bE,k1,k2,aY⟩:=aS.out.nodElem ((aA.out.mono hA).trans (hb.mono bB)) hx
   obtain ⟨b2,o2,bP,bR,bF,bG,j1,j2,aZ⟩:=aT.out.nodElem ((aA.out.mono hB).trans (hb.mono bC)) hx
   subst bD bF
   have aB:=Lh aY
   have aC:=Lh aZ
   obtain ⟨ty,fl⟩:=f
   dsimp only at k1 k2 j1 j2 aB aC
   obtain ⟨fn,aW⟩:∃ n,n=fl.length:=⟨_,rfl⟩
   rw [←aW] at k2 j2 aB aC
   have z1:=Bl k1
   have z2:=Bl j1
   have bJ:(0:Int)≤(k:Int):=In _
   have bK:(k:Int)<(ln:Int):=by omega
   have bN:(ty != ty)=false:=by simp
   have HN:=Lh hn
   clear hx aY aZ aW hw hn hb
   go_wp2_with fail
   go_quiet ((go_at_call 77;exact Calls.quiet_of (Xqd fl _ _ A B _ (aB.out.ints (Xh Br _)) (aC.out.ints (Xh Br _)))))
   go_wp2_with fail
   go_roundw
   case rel=>exact ⟨k+1,by omega,by go_num,Lh ⟨_,by rw [HN.out,World.drewN_drewN]⟩⟩
   case measure=>simp [intOf];omega
  ·clear hb
   go_wp2_with fail
   go_ret
   exact ⟨rfl,Xh aA.out n⟩
theorem Xxx:Zn 62:=fun _ _=>by kernel_rfl
theorem Xx5:Zn 63:=fun _ _=>by kernel_rfl
theorem X05 (B:Nat) (w:World):∀ (x:List Cal) (w1:World) (av:Value),Below w.heap.size w w1→Xxk B w1 av x→Calls Tryz.prog 62 (#[av]++#[]) w1 (fun e w2=>e=.returned (.bool (decide (0<x.length)))∧Below w1.heap.size w1 w2):=by
 rintro x w1 av _ hx
 obtain ⟨a,cap,rfl⟩:=Xf.form hx
 clear hx
 show Calls Tryz.prog 62 #[.slice a x.length cap] w1 _
 go_enter Tryz.func62,Tryz.ntmps62
 go_wp2_with fail
 go_ret
 exact ⟨by simp,Below.refl _ _⟩
theorem X1n (B:Nat) (w:World):∀ (x:Mch) (w1:World) (av:Value),Below w.heap.size w w1→Xq8 B w1 av x→Calls Tryz.prog 63 (#[av]++#[]) w1 (fun e w2=>e=.returned (.bool (decide (0<x.frames.length)))∧Below w1.heap.size w1 w2):=by
 rintro x w1 av _ ⟨fv,rfl,aA,-⟩
 obtain ⟨a,cap,rfl⟩:=aA.form
 clear aA
 show Calls Tryz.prog 63 #[.agg _] w1 _
 go_enter Tryz.func63,Tryz.ntmps63
 go_wp2_with fail
 go_ret
 exact ⟨by simp,Xa _ _⟩
def Xyd (s:Thr):Bool:=!(s.calls.any fun l=>decide (0<l.length)) && !(s.running.any fun m=>decide (0<m.frames.length))
theorem X3r (s:Thr) (sv:Value) (B:Nat) (w:World) (hB:B≤w.heap.size) (hs:Xsd B w sv s) :
  Calls Tryz.prog 20 #[sv] w fun e w'=>e=.returned (.bool (Xyd s))∧Below w.heap.size w w':=by
 have aM:∀ (fn:Fn) (first cap:Array Value) (w:World),(Instr.makeFunc fn first cap).run Tryz.prog w=.ok (.func fn first cap) w:=fun _ _ _ _=>rfl
 obtain ⟨ga,gc,ma,mc,ra,rc,na,nc,ca,cc,oa,oc,ba,bc,ea,ec,rfl⟩:=hs.open_
 obtain ⟨-,-,hr,-,aG,-⟩:=hs.parts
 have aK:=Lh hr
 have aJ:=Lh aG
 obtain ⟨W,hW⟩:∃ W,W=w.alloc (.cells #[.slice ga s.mem.globals.length gc,.slice ma s.mem.nodes.length mc,.int .i64 s.fuel,.slice ra s.running.length rc,.slice na s.nodes.length nc,.slice ca s.calls.length cc,.slice oa s.results.length oc,.slice ba s.begins.length bc,.slice ea s.ends.length ec,.int .i64 s.step] 34):=⟨_,rfl⟩
 have aA:Hid (Below w.heap.size w W):=by rw [hW];exact Lh (Xa _ _)
 have aC:B≤W.heap.size:=Nt hB aA.out.size
 have aD:W.heap[w.heap.size]?=some (.cells #[.slice ga s.mem.globals.length gc,.slice ma s.mem.nodes.length mc,.int .i64 s.fuel,.slice ra s.running.length rc,.slice na s.nodes.length nc,.slice ca s.calls.length cc,.slice oa s.results.length oc,.slice ba s.begins.length bc,.slice ea s.ends.length ec,.int .i64 s.step] 34 (0,0)):=by rw [hW];exact Hn _ _
 have k3:=Cw aD 3 rfl
 have k5:=Cw aD 5 rfl
 have zz:=(La aD)
 clear aD hr aG hs
 go_enter Tryz.func20,Tryz.ntmps20
 go_upto_region 1 with fail
 rw [←hW]
 have HW:=Lh hW
 clear hW
 go_wp2_with fail
 refine (Xs0 62 #[] _ s.calls _ B W Xxx aC (aJ.out.calss (aA.out.mono hB)) (X05 B W)).mono ?_
 rintro e w1 ⟨rfl,aB⟩
 have aE:=Lh aB
 have i3:=Xc aB k3
 have zi:=Bl i3
 have aL:Hid (B≤w1.heap.size):=Lh (Nt aC aB.size)
 have aI:Hid (Below B w w1):=Lh ((aA.out.mono hB).trans (aB.mono aC))
 clear k3 k5 zz aB aC
 cases ha:s.calls.any fun l=>decide (0<l.length) with
 | true=>
  have HA:=Lh ha
  clear ha
  go_wp2_with fail
  go_ret
  exact ⟨by unfold Xyd;rw [HA.out];rfl,aA.out.then aE.out⟩
 | false=>
  have HA:=Lh ha
  clear ha
  go_wp2_with fail
  refine (Xtq 63 #[] _ s.running _ B w1 Xx5 aL.out (aK.out.macs aI.out) (X1n B w1)).mono ?_
  rintro e w2 ⟨rfl,aF⟩
  have aH:=Lh aF
  clear i3 zi aF
  go_wp2_with fail
  go_ret
  exact ⟨by unfold Xyd;rw [HA.out];simp,(aA.out.then aE.out).then aH.out⟩
