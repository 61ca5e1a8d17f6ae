/- ref12.Equal at equal memories; slices.Equal at equal lists of accesses. Plain: what two runs over a memory, with different fuel, have in common. -/
import Derived.Test.YtbmeoklmachjpaaGreatDoorRdb
import Derived.Test.YtbmeoklmachjpaaGreatDoorSam
import Derived.Test.YtbmeoklmachjpaaGreatDoorFul
set_option maxHeartbeats 2000000
set_option maxRecDepth 100000
set_option linter.unusedVariables false
set_option linter.unusedSimpArgs false
namespace Go.Proofs.YtbmeoklmachjpaaGreatDoor
open Go.RowKit
theorem Xf.nodElem {B:Nat} {w:World} {a:Option Addr} {cap n:Nat} {l:List Nod} (h:Xf B w 2 (Xbc B) (.slice a n cap) l) {w':World} (hb:Below B w w') {k:Nat} {f:Nod} (hx:l[k]?=some f):∃ b o la lc,a=some ⟨b,o,none⟩∧b<B∧w'.cell? ⟨b,o+k*2,none⟩=some (.int .i64 f.type)∧w'.cell? ⟨b,o+k*2+1,none⟩=some (.slice la f.f.length lc)∧Xf B w' 1 Zd (.slice la f.f.length lc) f.f:=by
 obtain ⟨b,o,rfl,hbB,hE⟩:=(h.nods hb).elem hx
 obtain ⟨h1,⟨v,h3,h4⟩,h7⟩:=hE
 obtain ⟨la,lc,rfl,_⟩:=h4.frm
 exact ⟨b,o,la,lc,rfl,hbB,h1,h3,h4⟩
theorem Equal_eq (m:Mm) (va vb:Value) (A B:Nat) (w:World) (hA:A≤w.heap.size) (hB:B≤w.heap.size) (ha:MmV A w va m) (hb:MmV B w vb m) :
  Calls Tryz.prog 26 #[va,vb] w (fun e w'=>e=.returned (.bool true)∧Below w.heap.size w w'):=by
 obtain ⟨g1,n1,rfl,hg1,hn1⟩:=ha
 obtain ⟨g2,n2,rfl,hg2,hn2⟩:=hb
 obtain ⟨ga1,gc1,rfl,hgl⟩:=hg1.frm
 obtain ⟨ga2,gc2,rfl,_⟩:=hg2.frm
 obtain ⟨na1,nc1,rfl,hnl⟩:=hn1.frm
 obtain ⟨na2,nc2,rfl,_⟩:=hn2.frm
 have HG1:=Lh hg1
 have HG2:=Lh hg2
 have HN1:=Lh hn1
 have HN2:=Lh hn2
 obtain ⟨gn,hgn⟩:∃ n,n=m.globals.length:=⟨_,rfl⟩
 obtain ⟨ln,hln⟩:∃ n,n=m.nodes.length:=⟨_,rfl⟩
 rw [←hgn] at HG1 HG2 ⊢
 rw [←hln] at hnl HN1 HN2 ⊢
 have HLN:=Lh hln
 have hne:((ln:Int) != (ln:Int))=false:=by simp
 obtain ⟨W,hW⟩:∃ W,W=(w.alloc (.cells #[.slice ga1 gn gc1,.slice na1 ln nc1] 52)).alloc (.cells #[.slice ga2 gn gc2,.slice na2 ln nc2] 52):=⟨_,rfl⟩
 have hWb:Hid (Below w.heap.size w W):=by rw [hW];exact Lh ((Xa _ _).then (Xa _ _))
 have hc1:Hid (Xo W w.heap.size [.slice ga1 gn gc1,.slice na1 ln nc1]):=by rw [hW];exact Lh (Xd.alloc _)
 have hc2:Hid (Xo W (w.heap.size+1) [.slice ga2 gn gc2,.slice na2 ln nc2]):=by
  rw [hW]
  have:=@Xd (w.alloc (.cells #[.slice ga1 gn gc1,.slice na1 ln nc1] 52)) #[.slice ga2 gn gc2,.slice na2 ln nc2] 52
  exact Lh (by simpa using this)
 have p0:=hc1.out 0 _ rfl
 have p1:=hc1.out 1 _ rfl
 have q0:=hc2.out 0 _ rfl
 have q1:=hc2.out 1 _ rfl
 have zp:=Bl p0
 have zq:=Bl q0
 have hAW:A≤W.heap.size:=Nat.le_trans hA hWb.out.size
 have hBW:B≤W.heap.size:=Nat.le_trans hB hWb.out.size
 clear hg1 hg2 hn1 hn2 hgn hln
 go_enter Tryz.func26,Tryz.ntmps26
 go_upto_region 1 with fail
 rw [←hW]
 clear hW
 go_wp2_with fail
 refine (Xqd m.globals _ _ A B W (HG1.out.ints (hWb.out.mono hA)) (HG2.out.ints (hWb.out.mono hB))).mono ?_
 rintro e w8 ⟨rfl,nq,rfl⟩
 go_wp2_with fail
 go_loopw [5] (fun i wr=>∃ k:Nat,k≤ln∧i=.int .i64 k∧Hid (∃ n,wr=W.drewN n)) (fun i _=>ln - (intOf i).toNat)
 case atStart=>exact ⟨0,Nat.zero_le _,rfl,Lh ⟨nq,rfl⟩⟩
 case round=>
  obtain ⟨k,hk,rfl,hw⟩:=hrel
  obtain ⟨n,hn⟩:=hw.out
  have hb:Below W.heap.size W wr:=by rw [hn];exact Xh (Below.refl _ _) n
  have s0:=Xc hb p0
  have s1:=Xc hb p1
  have t0:=Xc hb q0
  have t1:=Xc hb q1
  have zs:=Bl s0
  have zt:=Bl t0
  by_cases hlt:k<ln
  ·obtain ⟨f,hx⟩:∃ x,m.nodes[k]?=some x:=⟨_,List.getElem?_eq_getElem (by have:=HLN.out;omega)⟩
   obtain ⟨b1,o1,la1,lc1,hb1,hb1A,k1,k2,hl1⟩:=HN1.out.nodElem ((hWb.out.mono hA).trans (hb.mono hAW)) hx
   obtain ⟨b2,o2,la2,lc2,hb2,hb2B,j1,j2,hl2⟩:=HN2.out.nodElem ((hWb.out.mono hB).trans (hb.mono hBW)) hx
   subst hb1 hb2
   have HL1:=Lh hl1
   have HL2:=Lh hl2
   obtain ⟨ty,fl⟩:=f
   dsimp only at k1 k2 j1 j2 HL1 HL2
   obtain ⟨fn,hfn⟩:∃ n,n=fl.length:=⟨_,rfl⟩
   rw [←hfn] at k2 j2 HL1 HL2
   have z1:=Bl k1
   have z2:=Bl j1
   have hi0:(0:Int)≤(k:Int):=Int.natCast_nonneg _
   have hi1:(k:Int)<(ln:Int):=by omega
   have hxx:(ty != ty)=false:=by simp
   have HN:=Lh hn
   clear hx hl1 hl2 hfn hw hn hb
   go_wp2_with fail
   go_quiet ((go_at_call 59;exact Calls.quiet_of (Xqd fl _ _ A B _ (HL1.out.ints (Xh (Below.refl _ _) _)) (HL2.out.ints (Xh (Below.refl _ _) _)))))
   go_wp2_with fail
   go_roundw
   case rel=>exact ⟨k+1,by omega,by go_num,Lh ⟨_,by rw [HN.out,World.drewN_drewN]⟩⟩
   case measure=>simp [intOf];omega
  ·clear hb
   go_wp2_with fail
   go_ret
   exact ⟨rfl,Xh hWb.out n⟩
theorem equalA_eq (l:List Acc) (va vb:Value) (A B:Nat) (w:World) (ha:Xf A w 3 Xf4 va l) (hb:Xf B w 3 Xf4 vb l):Calls Tryz.prog 28 #[va,vb] w (Tru w):=by
 obtain ⟨aa,ac,rfl,hl⟩:=ha.frm
 obtain ⟨ba,bc,rfl,_⟩:=hb.frm
 have HA:=Lh ha
 have HB:=Lh hb
 obtain ⟨ln,hln⟩:∃ n,n=l.length:=⟨_,rfl⟩
 rw [←hln] at hl HA HB ⊢
 have HLN:=Lh hln
 have hne:((ln:Int) != (ln:Int))=false:=by simp
 clear ha hb hln
 go_enter Tryz.func28,Tryz.ntmps28
 go_wp2_with fail
 go_loopw [13] (fun i wr=>∃ k:Nat,k≤ln∧i=.int .i64 k∧Hid (∃ n,wr=w.drewN n)) (fun i _=>ln - (intOf i).toNat)
 case atStart=>exact ⟨0,Nat.zero_le _,rfl,Lh ⟨0,rfl⟩⟩
 case round=>
  obtain ⟨k,hk,rfl,hw⟩:=hrel
  obtain ⟨n,hn⟩:=hw.out
  by_cases hlt:k<ln
  ·obtain ⟨x,hx⟩:∃ x,l[k]?=some x:=⟨_,List.getElem?_eq_getElem (by have:=HLN.out;omega)⟩
   obtain ⟨b1,o1,hb1,_,h1⟩:=HA.out.elem hx
   obtain ⟨b2,o2,hb2,_,h2⟩:=HB.out.elem hx
   subst hb1 hb2
   obtain ⟨kd,nd,fd⟩:=x
   have c1:wr.cell? ⟨b1,o1+k*3,none⟩=some (.int .i64 kd):=by rw [hn];exact h1.1
   have c2:wr.cell? ⟨b1,o1+k*3+1,none⟩=some (.int .i64 nd):=by rw [hn];exact h1.2.1
   have c3:wr.cell? ⟨b1,o1+k*3+2,none⟩=some (.int .i64 fd):=by rw [hn];exact h1.2.2
   have d1:wr.cell? ⟨b2,o2+k*3,none⟩=some (.int .i64 kd):=by rw [hn];exact h2.1
   have d2:wr.cell? ⟨b2,o2+k*3+1,none⟩=some (.int .i64 nd):=by rw [hn];exact h2.2.1
   have d3:wr.cell? ⟨b2,o2+k*3+2,none⟩=some (.int .i64 fd):=by rw [hn];exact h2.2.2
   have hi0:(0:Int)≤(k:Int):=Int.natCast_nonneg _
   have hi1:(k:Int)<(ln:Int):=by omega
   have HN:=Lh hn
   clear hx h1 h2 hw hn
   go_wp2_with fail
   go_quiet (fail)
   go_wp2_with fail
   go_roundw
   case rel=>exact ⟨k+1,by omega,by go_num,Lh ⟨_,by rw [HN.out,World.drewN_drewN]⟩⟩
   case measure=>simp [intOf];omega
  ·go_wp2_with fail
   go_ret
   exact ⟨rfl,n,rfl⟩
theorem givenE_fuel {c:Cod} {x:Cal} {a b:Int} (ha:0≤a∧a≤1048576) (hb:0≤b∧b≤1048576):Yd c x a=Yd c x b:=by
 unfold Yd
 rw [if_neg (show ¬(a<0∨1048576<a) by omega),if_neg (show ¬(b<0∨1048576<b) by omega)]
theorem Xmb.fuel {c:Cod} {m:Mm} {x:Cal} {a b er:Int} (ha:0≤a∧a≤1048576) (hb:0≤b∧b≤1048576) (h:Xmb c m x a er):Xmb c m x b er:=by
 rcases h with h|⟨h1,h2,h3⟩
 ·exact .inl h
 ·exact .inr ⟨h1,h2,by rw [h3,givenE_fuel ha hb]⟩
theorem startM_addF {c:Cod} {x:Cal} {a b:Int}:Zo c x b=U1 (b - a) (Zo c x a):=by
 have e:a+(b - a)=b:=by omega
 show Zo c x b=⟨_,_,a+(b - a),_,_⟩
 rw [e];rfl
/-- two runs: the second one has more fuel -/
theorem two_runs {c:Cod} {m:Mm} {x:Cal} {a b:Int} (h0:0≤a) (hab:a≤b) {m1 m2:Mch} {o1 o2:Ks} {p1 p2:Ply} (h1:Zm c (Zo c x a) m1) (k1:Zx c m1 ⟨m,[],0⟩ o1 p1) (h2:Zm c (Zo c x b) m2) (k2:Zx c m2 ⟨m,[],0⟩ o2 p2) :
  p1.log <+: p2.log∧(o1.fault=20∨(o1=o2∧p1=p2)):=by
 rw [startM_addF (a:=a)] at h2
 exact Xqu (by omega) k1 _ _ _ (Xeq (by omega) h1 _ (by show 0≤a;exact h0) h2) k2
theorem Xbg.zero {A:Nat} {c:Cod} {m:Mm} {x:Cal} {fuel er:Int} {o:Ks} {gv nv:Value} {la:Option Addr} {ln lc:Nat} {w:World} (h:Xbg A c m x fuel er o gv nv (.slice la ln lc) w) (he:er≠0):ln=0:=by
 rcases h with ⟨_,_,_,_,h⟩|⟨h,_⟩
 ·cases h;rfl
 ·exact absurd h he
/-- a beginning of a list of accesses -/
theorem accs_take {B:Nat} {w:World} {la:Option Addr} {ln lc:Nat} {l l2:List Acc} (h:Xf B w 3 Xf4 (.slice la ln lc) l2) (hp:l <+: l2):Xf B w 3 Xf4 (.slice la l.length lc) l:=by
 obtain ⟨a,cap,e,h1,h2,h3,h4⟩:=h
 cases e
 obtain ⟨r,rfl⟩:=hp
 rw [List.length_append] at h1 h2
 refine ⟨la,lc,rfl,by omega,by omega,h3,?_⟩
 rcases h4 with h|⟨b,o,rfl,hb,hE⟩
 ·simp at h;exact .inl h.1
 ·exact .inr ⟨b,o,rfl,hb,fun i x hx=>hE i x (by rw [List.getElem?_append_left (Ll hx)];exact hx)⟩
end Go.Proofs.YtbmeoklmachjpaaGreatDoor
