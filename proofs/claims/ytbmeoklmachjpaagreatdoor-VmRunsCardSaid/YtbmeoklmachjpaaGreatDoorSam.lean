/- ref15.same, ref12.SameInts and ref15.Same at equal arguments. MADE BY wip/gen_sam.py The bounds of the laws: few, call, memory. -/
import Derived.Test.YtbmeoklmachjpaaGreatDoorStep0
import Derived.Deep.QuietTactic
import Derived.BigQuiet
import Derived.Outline
set_option maxHeartbeats 2000000
set_option maxRecDepth 100000
set_option linter.unusedVariables false
set_option linter.unusedSimpArgs false
namespace Go.Proofs.YtbmeoklmachjpaaGreatDoor
open Go.RowKit
theorem Xf.elem {α:Type} {B:Nat} {w:World} {sz:Nat} {E:World→Nat→Nat→α→Prop} {a:Option Addr} {cap n:Nat} {l:List α} (h:Xf B w sz E (.slice a n cap) l) {k:Nat} {x:α} (hx:l[k]?=some x):∃ b o,a=some ⟨b,o,none⟩∧b<B∧E w b (o+k*sz) x:=by
 obtain ⟨a0,cap0,he0,_,_,_,hE⟩:=h
 obtain ⟨rfl,_,rfl⟩:a=a0∧n=l.length∧cap=cap0:=by simpa using he0
 rcases hE with h0|⟨b,o,rfl,hb,hE⟩
 ·rw [h0] at hx;simp at hx
 ·exact ⟨b,o,rfl,hb,hE k x hx⟩
theorem Xf.frm {α:Type} {B:Nat} {w:World} {sz:Nat} {E:World→Nat→Nat→α→Prop} {v:Value} {l:List α} (h:Xf B w sz E v l):∃ a cap,v=.slice a l.length cap∧l.length≤140737488355328:=by
 obtain ⟨a,cap,rfl,hl,_⟩:=h
 exact ⟨a,cap,rfl,hl⟩
def Tru (w:World) (e:Ending) (w':World):Prop:=e=.returned (.bool true)∧∃ n,w'=w.drewN n
theorem Xkk (l:List Int) (va vb:Value) (A B:Nat) (w:World) (ha:Xf A w 1 Zd va l) (hb:Xf B w 1 Zd vb l):Calls Tryz.prog 37 #[va,vb] w (Tru w):=by
 obtain ⟨aa,ac,rfl,hl⟩:=ha.frm
 obtain ⟨ba,bc,rfl,_⟩:=hb.frm
 have HA:=Lh ha
 have HB:=Lh hb
 obtain ⟨ln,hln⟩:∃ n,n=l.length:=⟨_,rfl⟩
 rw [←hln] at hl HA HB ⊢
 have HLN:=Lh hln
 have hne:((ln:Int) != (ln:Int))=false:=by simp
 clear ha hb hln
 go_enter Tryz.func37,Tryz.ntmps37
 go_wp2_with fail
 go_loopw [5] (fun i wr=>∃ k:Nat,k≤ln∧i=.int .i64 k∧Hid (∃ n,wr=w.drewN n)) (fun i _=>ln - (intOf i).toNat)
 case atStart=>exact ⟨0,Nat.zero_le _,rfl,Lh ⟨0,rfl⟩⟩
 case round=>
  obtain ⟨k,hk,rfl,hw⟩:=hrel
  obtain ⟨n,hn⟩:=hw.out
  by_cases hlt:k<ln
  ·obtain ⟨x,hx⟩:∃ x,l[k]?=some x:=⟨_,List.getElem?_eq_getElem (by have:=HLN.out;omega)⟩
   obtain ⟨b1,o1,hb1,_,h1⟩:=HA.out.elem hx
   obtain ⟨b2,o2,hb2,_,h2⟩:=HB.out.elem hx
   subst hb1 hb2
   have c1:wr.cell? ⟨b1,o1+k,none⟩=some (.int .i64 x):=by rw [hn];have:=h1.1;rw [Nat.mul_one] at this;exact this
   have c2:wr.cell? ⟨b2,o2+k,none⟩=some (.int .i64 x):=by rw [hn];have:=h2.1;rw [Nat.mul_one] at this;exact this
   have hi0:(0:Int)≤(k:Int):=Int.natCast_nonneg _
   have hi1:(k:Int)<(ln:Int):=by omega
   have hxx:(x != x)=false:=by simp
   have HN:=Lh hn
   clear hx h1 h2 hw hn
   go_wp2_with fail
   go_quiet (fail)
   go_wp2_with fail
   go_roundw
   case rel=>exact ⟨k+1,by omega,by go_num,Lh ⟨_,by rw [HN.out,World.drewN_drewN]⟩⟩
   case measure=>simp [intOf];omega
  ·go_wp2_with fail
   go_ret
   exact ⟨rfl,n,rfl⟩
theorem Xqd (l:List Int) (va vb:Value) (A B:Nat) (w:World) (ha:Xf A w 1 Zd va l) (hb:Xf B w 1 Zd vb l):Calls Tryz.prog 59 #[va,vb] w (Tru w):=by
 obtain ⟨aa,ac,rfl,hl⟩:=ha.frm
 obtain ⟨ba,bc,rfl,_⟩:=hb.frm
 have HA:=Lh ha
 have HB:=Lh hb
 obtain ⟨ln,hln⟩:∃ n,n=l.length:=⟨_,rfl⟩
 rw [←hln] at hl HA HB ⊢
 have HLN:=Lh hln
 have hne:((ln:Int) != (ln:Int))=false:=by simp
 clear ha hb hln
 go_enter Tryz.func59,Tryz.ntmps59
 go_wp2_with fail
 go_loopw [5] (fun i wr=>∃ k:Nat,k≤ln∧i=.int .i64 k∧Hid (∃ n,wr=w.drewN n)) (fun i _=>ln - (intOf i).toNat)
 case atStart=>exact ⟨0,Nat.zero_le _,rfl,Lh ⟨0,rfl⟩⟩
 case round=>
  obtain ⟨k,hk,rfl,hw⟩:=hrel
  obtain ⟨n,hn⟩:=hw.out
  by_cases hlt:k<ln
  ·obtain ⟨x,hx⟩:∃ x,l[k]?=some x:=⟨_,List.getElem?_eq_getElem (by have:=HLN.out;omega)⟩
   obtain ⟨b1,o1,hb1,_,h1⟩:=HA.out.elem hx
   obtain ⟨b2,o2,hb2,_,h2⟩:=HB.out.elem hx
   subst hb1 hb2
   have c1:wr.cell? ⟨b1,o1+k,none⟩=some (.int .i64 x):=by rw [hn];have:=h1.1;rw [Nat.mul_one] at this;exact this
   have c2:wr.cell? ⟨b2,o2+k,none⟩=some (.int .i64 x):=by rw [hn];have:=h2.1;rw [Nat.mul_one] at this;exact this
   have hi0:(0:Int)≤(k:Int):=Int.natCast_nonneg _
   have hi1:(k:Int)<(ln:Int):=by omega
   have hxx:(x != x)=false:=by simp
   have HN:=Lh hn
   clear hx h1 h2 hw hn
   go_wp2_with fail
   go_quiet (fail)
   go_wp2_with fail
   go_roundw
   case rel=>exact ⟨k+1,by omega,by go_num,Lh ⟨_,by rw [HN.out,World.drewN_drewN]⟩⟩
   case measure=>simp [intOf];omega
  ·go_wp2_with fail
   go_ret
   exact ⟨rfl,n,rfl⟩
theorem Xf.fraElem {B:Nat} {w:World} {a:Option Addr} {cap n:Nat} {l:List Fra} (h:Xf B w 4 (Qp B) (.slice a n cap) l) {w':World} (hb:Below B w w') {k:Nat} {f:Fra} (hx:l[k]?=some f):∃ b o la lc sa sc,a=some ⟨b,o,none⟩∧b<B∧w'.cell? ⟨b,o+k*4,none⟩=some (.int .i64 f.fn)∧w'.cell? ⟨b,o+k*4+1,none⟩=some (.int .i64 f.pc)∧w'.cell? ⟨b,o+k*4+2,none⟩=some (.slice la f.locals.length lc)∧w'.cell? ⟨b,o+k*4+3,none⟩=some (.slice sa f.stack.length sc)∧Xf B w' 1 Zd (.slice la f.locals.length lc) f.locals∧Xf B w' 1 Zd (.slice sa f.stack.length sc) f.stack:=by
 obtain ⟨b,o,rfl,hbB,hE⟩:=(h.fras hb).elem hx
 obtain ⟨h1,h2,⟨v,h3,h4⟩,⟨u,h5,h6⟩,h7⟩:=hE
 obtain ⟨la,lc,rfl,_⟩:=h4.frm
 obtain ⟨sa,sc,rfl,_⟩:=h6.frm
 exact ⟨b,o,la,lc,sa,sc,rfl,hbB,h1,h2,h3,h5,h4,h6⟩
theorem Vj (m:Mch) (fa fb:Value) (A B:Nat) (w:World) (hA:A≤w.heap.size) (hB:B≤w.heap.size) (ha:Xf A w 4 (Qp A) fa m.frames) (hb:Xf B w 4 (Qp B) fb m.frames) :
  Calls Tryz.prog 13 #[.agg (Xb fa m),.agg (Xb fb m)] w (fun e w'=>e=.returned (.bool true)∧Below w.heap.size w w'):=by
 obtain ⟨aa,ac,rfl,hl⟩:=ha.frm
 obtain ⟨ba,bc,rfl,_⟩:=hb.frm
 obtain ⟨fs,⟨kind,node,field,value,fault⟩,fuel,compares,idle⟩:=m
 dsimp only at ha hb hl ⊢
 have HA:=Lh ha
 have HB:=Lh hb
 obtain ⟨ln,hln⟩:∃ n,n=fs.length:=⟨_,rfl⟩
 rw [←hln] at hl HA HB ⊢
 have HLN:=Lh hln
 have hne:((ln:Int) != (ln:Int))=false:=by simp
 have e1:(fuel != fuel)=false:=by simp
 have e2:(compares != compares)=false:=by simp
 have e3:(idle != idle)=false:=by simp
 obtain ⟨W,hW⟩:∃ W,W=(w.alloc (.cells (Xb (.slice aa ln ac) ⟨fs,⟨kind,node,field,value,fault⟩,fuel,compares,idle⟩) 36)).alloc (.cells (Xb (.slice ba ln bc) ⟨fs,⟨kind,node,field,value,fault⟩,fuel,compares,idle⟩) 36):=⟨_,rfl⟩
 have hWb:Hid (Below w.heap.size w W):=by rw [hW];exact Lh ((Xa _ _).then (Xa _ _))
 have hc1:Hid (Xo W w.heap.size (Xb (.slice aa ln ac) ⟨fs,⟨kind,node,field,value,fault⟩,fuel,compares,idle⟩).toList):=by rw [hW];exact Lh (Xd.alloc _)
 have hc2:Hid (Xo W (w.heap.size+1) (Xb (.slice ba ln bc) ⟨fs,⟨kind,node,field,value,fault⟩,fuel,compares,idle⟩).toList):=by
  rw [hW]
  have:=@Xd (w.alloc (.cells (Xb (.slice aa ln ac) ⟨fs,⟨kind,node,field,value,fault⟩,fuel,compares,idle⟩) 36)) (Xb (.slice ba ln bc) ⟨fs,⟨kind,node,field,value,fault⟩,fuel,compares,idle⟩) 36
  exact Lh (by simpa using this)
 clear ha hb hln
 unfold Xb at hW ⊢
 go_enter Tryz.func13,Tryz.ntmps13
 go_upto_region 1 with fail
 rw [←hW]
 clear hW
 have p0:=hc1.out 0 _ rfl
 have p1:=hc1.out 1 _ rfl
 have p2:=hc1.out 2 _ rfl
 have p3:=hc1.out 3 _ rfl
 have p4:=hc1.out 4 _ rfl
 have p5:=hc1.out 5 _ rfl
 have p6:=hc1.out 6 _ rfl
 have p7:=hc1.out 7 _ rfl
 have p8:=hc1.out 8 _ rfl
 have zp:=Bl p0
 have q0:=hc2.out 0 _ rfl
 have q1:=hc2.out 1 _ rfl
 have q2:=hc2.out 2 _ rfl
 have q3:=hc2.out 3 _ rfl
 have q4:=hc2.out 4 _ rfl
 have q5:=hc2.out 5 _ rfl
 have q6:=hc2.out 6 _ rfl
 have q7:=hc2.out 7 _ rfl
 have q8:=hc2.out 8 _ rfl
 have zq:=Bl q0
 go_wp2_with fail
 go_loopw [5] (fun i wr=>∃ k:Nat,k≤ln∧i=.int .i64 k∧Hid (Below W.heap.size W wr)) (fun i _=>ln - (intOf i).toNat)
 case atStart=>exact ⟨0,Nat.zero_le _,rfl,Lh (Below.refl _ _)⟩
 case round=>
  obtain ⟨k,hk,rfl,hb⟩:=hrel
  have s0:=Xc hb.out p0
  have t0:=Xc hb.out q0
  have zs:=Bl s0
  have zt:=Bl t0
  by_cases hlt:k<ln
  ·obtain ⟨f,hx⟩:∃ x,fs[k]?=some x:=⟨_,List.getElem?_eq_getElem (by have:=HLN.out;omega)⟩
   have hbA:Below A w wr:=(hWb.out.mono hA).trans (hb.out.mono (Nat.le_trans hA hWb.out.size))
   have hbB:Below B w wr:=(hWb.out.mono hB).trans (hb.out.mono (Nat.le_trans hB hWb.out.size))
   obtain ⟨b1,o1,la1,lc1,sa1,sc1,hb1,hb1A,k1,k2,k3,k4,hl1,hs1⟩:=HA.out.fraElem hbA hx
   obtain ⟨b2,o2,la2,lc2,sa2,sc2,hb2,hb2B,j1,j2,j3,j4,hl2,hs2⟩:=HB.out.fraElem hbB hx
   subst hb1 hb2
   have HL1:=Lh hl1
   have HS1:=Lh hs1
   have HL2:=Lh hl2
   have HS2:=Lh hs2
   obtain ⟨fn,pc,lo,st⟩:=f
   dsimp only at k1 k2 k3 k4 j1 j2 j3 j4 HL1 HS1 HL2 HS2
   obtain ⟨lon,hlon⟩:∃ n,n=lo.length:=⟨_,rfl⟩
   obtain ⟨stn,hstn⟩:∃ n,n=st.length:=⟨_,rfl⟩
   rw [←hlon] at k3 j3 HL1 HL2
   rw [←hstn] at k4 j4 HS1 HS2
   have z1:=Bl k1
   have z2:=Bl j1
   have hi0:(0:Int)≤(k:Int):=Int.natCast_nonneg _
   have hi1:(k:Int)<(ln:Int):=by omega
   have hff:(fn != fn)=false:=by simp
   have hpp:(pc != pc)=false:=by simp
   clear hx hl1 hs1 hl2 hs2 hbA hbB hlon hstn
   go_wp2_with fail
   have hAr:A≤wr.heap.size:=Nat.le_trans hA (Nat.le_trans hWb.out.size hb.out.size)
   have hBr:B≤wr.heap.size:=Nat.le_trans hB (Nat.le_trans hWb.out.size hb.out.size)
   go_region
   all_goals
    go_wp2_with fail
    refine (Xkk lo _ _ A B _ (HL1.out.ints ((Xh ((Xa _ _).then (Xa _ _)) 1).mono hAr)) (HL2.out.ints ((Xh ((Xa _ _).then (Xa _ _)) 1).mono hBr))).mono ?_
    rintro e w8 ⟨rfl,nq,rfl⟩
    go_wp2_with fail
    refine (Xkk st _ _ A B _ (HS1.out.ints ((Xh ((Xa _ _).then (Xa _ _)) _).mono hAr)) (HS2.out.ints ((Xh ((Xa _ _).then (Xa _ _)) _).mono hBr))).mono ?_
    rintro e w8 ⟨rfl,nq2,rfl⟩
    go_wp2_with fail
    go_roundw
    case rel=>exact ⟨k+1,by omega,by go_num,Lh (hb.out.then (Xh ((Xa _ _).then (Xa _ _)) _))⟩
    case measure=>simp [intOf];omega
  ·go_wp2_with fail
   go_ret
   exact ⟨rfl,hWb.out.then hb.out⟩
theorem Xht:Zn 31:=fun _ _=>by kernel_rfl
def Xop (w:World) (e:Ending) (w':World):Prop:=∃ b,e=.returned (.bool b)∧Below w.heap.size w w'
theorem Xnu (nm:ByteArray) (p l r c:Value) (w:World) (hn:nm.size≤140737488355328) :
  Calls Tryz.prog 31 #[.agg #[.string nm,p,l,r,c]] w fun e w'=>e=.returned (.bool (decide (100<(nm.size:Int))))∧Below w.heap.size w w':=by
 go_enter Tryz.func31,Tryz.ntmps31
 go_wp2
 go_ret
 exact ⟨Za (by rw [Bool.eq_iff_iff]),(Below.refl _ _).alloc (Nat.le_refl _) _⟩
theorem Xpo (B:Nat) (w:World):∀ (x:Fun) (w1:World) (av:Value),Below w.heap.size w w1→J4 B w1 av x→Calls Tryz.prog 31 (#[av]++#[]) w1 (fun e w2=>e=.returned (.bool (decide (100<(x.name.size:Int))))∧Below w1.heap.size w1 w2):=by
 rintro x w1 av hb1 ⟨cv,rfl,_,hn,_⟩
 exact Xnu x.name _ _ _ _ w1 hn
def Xaf:List Fun→Int
 | []=>0
 | f::l=>min (f.code.length:Int) 5000+Xaf l
theorem Xmd (l:List Fun) (f:Fun):Xaf (l++[f])=Xaf l+min (f.code.length:Int) 5000:=by
 induction l with
 | nil=>simp [Xaf]
 | cons a l ih=>simp only [List.cons_append,Xaf,ih];omega
theorem Xgc (l:List Fun):0≤Xaf l∧Xaf l≤5000*(l.length:Int):=by
 induction l with
 | nil=>simp [Xaf]
 | cons a l ih=>simp only [List.length_cons,Xaf];omega
theorem Xnf (l:List Fun):∀ f∈l,min (f.code.length:Int) 5000≤Xaf l:=by
 induction l with
 | nil=>simp
 | cons a l ih=>
  intro f hf
  have:=Xgc l
  simp only [List.mem_cons,Xaf] at *
  rcases hf with rfl|hf
  ·omega
  ·have:=ih f hf;omega
def Xpa (c:Cod) (w:World) (e:Ending) (w':World):Prop:=∃ b,e=.returned (.bool b)∧(b=true→∀ y∈c.funcs,y.code.length≤1500)∧Below w.heap.size w w'
theorem Xkx (c:Cod) (cv:Value) (B:Nat) (w:World) (hB:B≤w.heap.size) (hc:Yj B w cv c):Calls Tryz.prog 7 #[cv] w (Xpa c w):=by
 obtain ⟨fv,gv,rfl,hf,hg,hgl⟩:=hc
 obtain ⟨fa,fc,rfl,hfl⟩:=hf.frm
 obtain ⟨ga,gc,rfl,hgn⟩:=hg.frm
 have HG:=Lh hg
 obtain ⟨fn,hfn⟩:∃ n,n=c.fields.length:=⟨_,rfl⟩
 obtain ⟨gn,hgn1⟩:∃ n,n=c.funcs.length:=⟨_,rfl⟩
 rw [←hgn1] at hgn HG ⊢
 rw [←hfn] at hfl ⊢
 have HGN:=Lh hgn1
 obtain ⟨W,hW⟩:∃ W,W=w.alloc (.cells #[.slice fa fn fc,.int .i64 c.globals,.slice ga gn gc] 25):=⟨_,rfl⟩
 have hWb:Hid (Below w.heap.size w W):=by rw [hW];exact Lh (Xa _ _)
 have hc1:Hid (Xo W w.heap.size [.slice fa fn fc,.int .i64 c.globals,.slice ga gn gc]):=by rw [hW];exact Lh Xd
 have p0:=hc1.out 0 _ rfl
 have p2:=hc1.out 2 _ rfl
 have zp:=Bl p0
 clear hf hg hgn1 hfn
 go_enter Tryz.func7,Tryz.ntmps7
 go_upto_region 2 with fail
 rw [←hW]
 clear hW
 go_wp2_with fail
 go_loopw [3,9] (fun n i wr=>∃ k:Nat,k≤gn∧i=.int .i64 k∧n=.int .i64 (Xaf (c.funcs.take k))∧Hid (Below W.heap.size W wr)) (fun _ i _=>gn - (intOf i).toNat)
 case atStart=>exact ⟨0,Nat.zero_le _,rfl,rfl,Lh (Below.refl _ _)⟩
 case round=>
  obtain ⟨k,hk,rfl,rfl,hb⟩:=hrel
  have hWB:B≤W.heap.size:=Nat.le_trans hB hWb.out.size
  have hbB:Hid (Below B w wr):=Lh ((hWb.out.mono hB).trans (hb.out.mono hWB))
  have s0:=Xc hb.out p0
  have s2:=Xc hb.out p2
  have zs:=Bl s0
  by_cases hlt:k<gn
  ·obtain ⟨f,hx⟩:∃ x,c.funcs[k]?=some x:=⟨_,List.getElem?_eq_getElem (by have:=HGN.out;omega)⟩
   obtain ⟨b,o,hga,hbB2,hE⟩:=(HG.out.funs hbB.out).elem hx
   subst hga
   obtain ⟨h1,h2,h3,h4,⟨cv,h5,h6⟩,h7⟩:=hE
   obtain ⟨ca,cc,rfl,hcl⟩:=h6.frm
   have hsn:Hid (Xaf (c.funcs.take (k+1))=Xaf (c.funcs.take k)+min (f.code.length:Int) 5000):=Lh (by rw [List.take_add_one,hx];exact Xmd _ _)
   have hbd:=Xgc (c.funcs.take k)
   have hln:=List.length_take_le k c.funcs
   have z1:=Bl h1
   have hi0:(0:Int)≤(k:Int):=Int.natCast_nonneg _
   have hi1:(k:Int)<(gn:Int):=by omega
   obtain ⟨sm,hsm⟩:∃ n,n=Xaf (c.funcs.take k):=⟨_,rfl⟩
   rw [←hsm] at hsn hbd ⊢
   have hb0:0≤sm:=hbd.1
   have hb1:sm≤703687441776640000:=by omega
   clear hx h6 hsm hbd
   go_wp2_with fail
   go_roundw
   case rel=>exact ⟨k+1,by omega,by go_num,by rw [hsn.out],Lh (hb.out.then (Xa _ _))⟩
   case measure=>simp [intOf];omega
  ·obtain rfl:k=gn:=by omega
   have hbd:=Xgc (c.funcs.take k)
   have hln:=List.length_take_le k c.funcs
   have hres:Hid (Xaf (c.funcs.take k)≤1500→∀ y∈c.funcs,y.code.length≤1500):=Lh (fun h y hy=>by
    rw [HGN.out,List.take_length] at h
    have:=Xnf c.funcs y hy
    omega)
   obtain ⟨sm,hsm⟩:∃ n,n=Xaf (c.funcs.take k):=⟨_,rfl⟩
   rw [←hsm] at hres hbd ⊢
   clear hsm hbd
   have HB:=Lh (hWb.out.then hb.out)
   have hBr:B≤wr.heap.size:=Nat.le_trans hWB hb.out.size
   by_cases hq1:(fn:Int)≤20
   rotate_left
   ·go_wp2_with fail
    go_ret
    exact ⟨false,rfl,by simp,HB.out⟩
   by_cases hq2:(k:Int)≤50
   rotate_left
   ·go_wp2_with fail
    go_ret
    exact ⟨false,rfl,by simp,HB.out⟩
   by_cases hq3:sm≤1500
   rotate_left
   ·go_wp2_with fail
    go_ret
    exact ⟨false,rfl,by simp,HB.out⟩
   go_wp2_with fail
   refine (Ui 31 #[] (fun f=>decide (100<(f.name.size:Int))) c.funcs _ B wr Xht hBr (HG.out.funs hbB.out) (Xpo B wr)).mono ?_
   rintro e w8 ⟨rfl,hb8⟩
   have HB8:=Lh (HB.out.then hb8)
   clear hb8
   go_wp2_with fail
   go_ret
   exact ⟨_,rfl,fun _=>hres.out hq3,HB8.out⟩
theorem Vt:Zn 57:=fun _ _=>by kernel_rfl
theorem Xii (t:Int) (a:Option Addr) (n c:Nat) (w:World) (hn:n≤140737488355328) :
  Calls Tryz.prog 57 #[.agg #[.int .i64 t,.slice a n c]] w fun e w'=>e=.returned (.bool (decide (20<(n:Int))))∧Below w.heap.size w w':=by
 go_enter Tryz.func57,Tryz.ntmps57
 go_wp2
 go_ret
 exact ⟨Za (by rw [Bool.eq_iff_iff]),(Below.refl _ _).alloc (Nat.le_refl _) _⟩
theorem Xdv (B:Nat) (w:World):∀ (x:Nod) (w1:World) (av:Value),Below w.heap.size w w1→Xpv B w1 av x→Calls Tryz.prog 57 (#[av]++#[]) w1 (fun e w2=>e=.returned (.bool (decide (20<(x.f.length:Int))))∧Below w1.heap.size w1 w2):=by
 rintro x w1 av hb1 ⟨lv,rfl,hl,_⟩
 obtain ⟨a,c,rfl,hn⟩:=hl.frm
 exact Xii x.type a _ c w1 hn
theorem Xqm (m:Mm) (mv:Value) (B:Nat) (w:World) (hB:B≤w.heap.size) (hm:MmV B w mv m):Calls Tryz.prog 22 #[mv] w (Xop w):=by
 obtain ⟨gv,nv,rfl,hg,hn⟩:=hm
 obtain ⟨ga,gc,rfl,hgl⟩:=hg.frm
 obtain ⟨na,nc,rfl,hnl⟩:=hn.frm
 have HN:=Lh hn
 obtain ⟨gn,hgn⟩:∃ n,n=m.globals.length:=⟨_,rfl⟩
 obtain ⟨nn,hnn⟩:∃ n,n=m.nodes.length:=⟨_,rfl⟩
 rw [←hnn] at hnl HN ⊢
 rw [←hgn] at hgl ⊢
 obtain ⟨W,hW⟩:∃ W,W=w.alloc (.cells #[.slice ga gn gc,.slice na nn nc] 52):=⟨_,rfl⟩
 have hWb:Hid (Below w.heap.size w W):=by rw [hW];exact Lh (Xa _ _)
 have hc1:Hid (Xo W w.heap.size [.slice ga gn gc,.slice na nn nc]):=by rw [hW];exact Lh Xd
 have p0:=hc1.out 0 _ rfl
 have p1:=hc1.out 1 _ rfl
 have zp:=Bl p0
 have hWB:B≤W.heap.size:=Nat.le_trans hB hWb.out.size
 have fin:Hid (∀ b w',Below W.heap.size W w'→Xop w (.returned (.bool b)) w'):=Lh (fun b w' h=>⟨b,rfl,hWb.out.then h⟩)
 clear hg hn hgn hnn
 go_enter Tryz.func22,Tryz.ntmps22
 go_upto_region 1 with fail
 rw [←hW]
 clear hW
 by_cases hq1:(gn:Int)≤20
 rotate_left
 ·go_wp2_with fail
  go_ret
  exact fin.out _ _ (Below.refl _ _)
 by_cases hq2:(nn:Int)≤60
 ·go_wp2_with fail
  refine (Jy 57 #[] (fun x=>decide (20<(x.f.length:Int))) m.nodes _ B W Vt hWB (HN.out.nods (hWb.out.mono hB)) (Xdv B W)).mono ?_
  rintro e w8 ⟨rfl,hb8⟩
  have HB8:=Lh hb8
  clear hb8
  go_wp2_with fail
  go_ret
  exact fin.out _ _ HB8.out
 by_cases hq3:(4094:Int)≤nn
 rotate_left
 ·go_wp2_with fail
  go_ret
  exact fin.out _ _ (Below.refl _ _)
 by_cases hq4:(nn:Int)≤4098
 rotate_left
 ·go_wp2_with fail
  go_ret
  exact fin.out _ _ (Below.refl _ _)
 go_wp2_with fail
 refine (Jy 57 #[] (fun x=>decide (20<(x.f.length:Int))) m.nodes _ B W Vt hWB (HN.out.nods (hWb.out.mono hB)) (Xdv B W)).mono ?_
 rintro e w8 ⟨rfl,hb8⟩
 have HB8:=Lh hb8
 clear hb8
 go_wp2_with fail
 go_ret
 exact fin.out _ _ HB8.out
theorem Xk8 (x:Cal) (xv:Value) (B:Nat) (w:World) (hx:J8 B w xv x):Calls Tryz.prog 8 #[xv] w (Xop w):=by
 obtain ⟨av,rfl,ha,hp⟩:=hx
 obtain ⟨xa,xc,rfl,hl⟩:=ha.frm
 obtain ⟨xn,hxn⟩:∃ n,n=x.args.length:=⟨_,rfl⟩
 rw [←hxn] at hl ⊢
 clear ha hxn
 by_cases hq1:(x.proc.size:Int)≤100<;>by_cases hq2:(xn:Int)≤20
 all_goals
  go_enter Tryz.func8,Tryz.ntmps8
  go_wp2_with fail
  go_ret
  exact ⟨_,rfl,Xa _ _⟩
end Go.Proofs.YtbmeoklmachjpaaGreatDoor
