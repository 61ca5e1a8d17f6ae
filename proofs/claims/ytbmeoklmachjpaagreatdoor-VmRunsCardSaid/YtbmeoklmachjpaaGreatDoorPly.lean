/- The contract of fits. Runs over a memory, in plain words; a memory and a log that the call owns. -/
import Derived.Test.YtbmeoklmachjpaaGreatDoorVpu
import Derived.Deep.RegionHeld3
import Derived.Outline
import Derived.Laws.EntriesVeiled
import Derived.Test.YtbmeoklmachjpaaGreatDoorNxt2
set_option maxHeartbeats 2000000
set_option maxRecDepth 1000000
set_option linter.unusedVariables false
set_option linter.unusedSimpArgs false
namespace Go.Proofs.YtbmeoklmachjpaaGreatDoor
open Go.RowKit
theorem Xbf:Zn 115:=fun _ _=>by kernel_rfl
theorem Xgh:Zn 116:=fun _ _=>by kernel_rfl
theorem Xmj (n:Int) (w:World) :
  Calls Tryz.prog 115 #[.int .i64 n] w fun e w'=>e=.returned (.bool (!X1 n))∧w=w':=by
 go_enter Tryz.func115,Tryz.ntmps115
 go_wp2_with (go_at_call 45;refine (Yy n _).mono ?_;rintro e w' ⟨rfl,rfl⟩)
 go_ret
 exact ⟨rfl,rfl⟩
theorem Xgz (w:World):∀ (x:Int) (w1:World) (av:Value),Below w.heap.size w w1→Xlj 0 w1 av x→Calls Tryz.prog 115 (#[av]++#[]) w1 (fun e w2=>e=.returned (.bool (!X1 x))∧Below w1.heap.size w1 w2):=by
 rintro x w1 av _ ⟨rfl,_⟩
 exact (Xmj x w1).mono fun e w2 ⟨he,hw⟩=>⟨he,hw▸Below.refl _ _⟩
/-- a node does not fit -/
def Z2 (c:Cod) (n:Nod):Bool:=if n.type<0 then true else match c.fields[n.type.toNat]? with|none=>true|some k=>if (n.f.length:Int)≠k then true else n.f.any (fun n=>!X1 n)
theorem Xl1 (c:Cod) (n:Nod) (va fa:Option Addr) (vc fc cb fb B:Nat) (w:World) (hB:B≤w.heap.size) (hf:Xf B w 1 Zd (.slice fa c.fields.length fc) c.fields) (hv:Xf B w 1 Zd (.slice va n.f.length vc) n.f) (ht:in64 n.type)
  (k0:w.cell? ⟨cb,0,none⟩=some (.slice fa c.fields.length fc)) (k1:w.cell? ⟨fb,0,none⟩=some (.func (.func 115) #[] #[])) :
  Calls Tryz.prog 116 #[.agg #[.int .i64 n.type,.slice va n.f.length vc],.pointer (some ⟨cb,0,none⟩),.pointer (some ⟨fb,0,none⟩)] w fun e w'=>e=.returned (.bool (Z2 c n))∧Below w.heap.size w w':=by
 obtain ⟨t,f⟩:=n
 dsimp only at *
 obtain ⟨W,hW⟩:∃ W,W=w.alloc (.cells #[.int .i64 t,.slice va f.length vc] 107):=⟨_,rfl⟩
 have hWb:Hid (Below w.heap.size w W):=by rw [hW];exact Xa _ _
 have b0:Hid (Xo W w.heap.size [.int .i64 t,.slice va f.length vc]):=by rw [hW];exact Lh Xd
 have n0:=b0.out 0 _ rfl
 have n1:=b0.out 1 _ rfl
 have k0:=Xc hWb.out k0
 have k1:=Xc hWb.out k1
 have zn:=Bl n0
 have z0:=Bl k0
 have z1:=Bl k1
 have HF:=Lh (hf.ints (hWb.out.mono hB))
 have HV:=Lh (hv.ints (hWb.out.mono hB))
 unfold in64 at ht
 have hB1:B≤W.heap.size:=Nat.le_trans hB hWb.out.size
 clear hf hv
 by_cases c1:t<0
 ·have d:decide (t<0)=true:=by simp [c1]
  have hr:Hid (Z2 c ⟨t,f⟩=true):=Lh (by unfold Z2;simp [c1])
  go_enter Tryz.func116,Tryz.ntmps116
  go_upto_region 1 with fail
  rw [←hW]
  clear hW
  go_quiet (fail)
  go_wp2_with fail
  go_ret
  exact ⟨by rw [hr.out];rfl,Xh hWb.out _⟩
 obtain ⟨n,rfl⟩:∃ n:Nat,t=n:=⟨t.toNat,by omega⟩
 have d1:decide ((n:Int)<0)=false:=by simp
 clear c1
 by_cases c2:c.fields.length≤n
 ·have d:decide (c.fields.length≤n)=true:=by simp [c2]
  have d':decide ((c.fields.length:Int)≤(n:Int))=true:=by simp;omega
  have hr:Hid (Z2 c ⟨n,f⟩=true):=Lh (by unfold Z2;simp [List.getElem?_eq_none c2])
  go_enter Tryz.func116,Tryz.ntmps116
  go_upto_region 1 with fail
  rw [←hW]
  clear hW
  go_quiet (fail)
  go_wp2_with fail
  go_ret
  exact ⟨by rw [hr.out];rfl,Xh hWb.out _⟩
 have d2:decide (c.fields.length≤n)=false:=by simp;omega
 have d2':decide ((c.fields.length:Int)≤(n:Int))=false:=by simp;omega
 obtain ⟨k,hk⟩:∃ k,c.fields[n]?=some k:=⟨_,List.getElem?_eq_getElem (by omega)⟩
 obtain ⟨ub,uo,rfl,hubB,hq⟩:∃ ub uo,fa=some ⟨ub,uo,none⟩∧ub<B∧W.cell? ⟨ub,uo+n,none⟩=some (.int .i64 k):=by
  obtain ⟨a0,cap0,he0,_,_,_,hE⟩:=HF.out
  obtain ⟨rfl,rfl⟩:fa=a0∧fc=cap0:=by simpa using he0
  rcases hE with h0|⟨ub,uo,rfl,hb,hE⟩
  ·rw [h0] at hk;simp at hk
  ·have:=(hE n k hk).1
   rw [Nat.mul_one] at this
   exact ⟨ub,uo,rfl,hb,this⟩
 have zu:=Bl hq
 have hi0:(0:Int)≤(n:Int):=Int.natCast_nonneg _
 have hi1:(n:Int)<(c.fields.length:Int):=by omega
 by_cases c3:(f.length:Int)=k
 rotate_left
 ·have d:((f.length:Int) == k)=false:=by simp [c3]
  have d':((f.length:Int) != k)=true:=by simp [c3]
  have hr:Hid (Z2 c ⟨n,f⟩=true):=Lh (by unfold Z2;simp [hk,c3])
  clear hk
  go_enter Tryz.func116,Tryz.ntmps116
  go_upto_region 1 with fail
  rw [←hW]
  clear hW
  go_quiet (fail)
  go_wp2_with fail
  go_ret
  exact ⟨by rw [hr.out];rfl,Xh hWb.out _⟩
 have d3:((f.length:Int) == k)=true:=by simp [c3]
 have d3':((f.length:Int) != k)=false:=by simp [c3]
 have hr:Hid (Z2 c ⟨n,f⟩=f.any (fun n=>!X1 n)):=Lh (by unfold Z2;rw [if_neg (by simp)];simp only [Int.toNat_natCast,hk];rw [if_neg (by simp [c3])])
 have HVd:Hid (Xf B W.drew 1 Zd (.slice va f.length vc) f):=Lh (HV.out.ints (Xh (Below.refl _ _) 1))
 have hB1d:B≤W.drew.heap.size:=hB1
 clear hk c3
 go_enter Tryz.func116,Tryz.ntmps116
 go_upto_region 1 with fail
 rw [←hW]
 clear hW
 go_region_held3 (fun V=>V.cell? ⟨w.heap.size,0,none⟩=some (.int .i64 (n:Int))∧V.cell? ⟨w.heap.size,1,none⟩=some (.slice va f.length vc)∧V.cell? ⟨cb,0,none⟩=some (.slice (some ⟨ub,uo,none⟩) c.fields.length fc)∧V.cell? ⟨fb,0,none⟩=some (.func (.func 115) #[] #[])∧V.cell? ⟨ub,uo+n,none⟩=some (.int .i64 k))
  (first|exact ⟨n0,n1,k0,k1,hq⟩|exact ⟨Xc hb8 n0,Xc hb8 n1,Xc hb8 k0,Xc hb8 k1,Xc hb8 hq⟩)
  (first|(go_at_call 48;refine (Y3 115 #[] (fun n=>!X1 n) f _ B W.drew Xbf hB1d HVd.out (Xgz _)).mono ?_;rintro e W8 ⟨rfl,hb8⟩))
 have HB8:=Lh ((Xh hWb.out 1).then hb8)
 clear hb8
 go_wp2_with fail
 go_ret
 exact ⟨by rw [hr.out];rfl,HB8.out⟩
/-- a memory fits a code -/
def Q7 (c:Cod) (m:Mm):Bool:=decide ((m.globals.length:Int)=c.globals) && (decide (m.nodes.length≤4096) && (!(m.globals.any (fun n=>!X1 n)) && !(m.nodes.any (Z2 c))))
theorem Xm9 (c:Cod) (fa:Option Addr) (fc cb fb B:Nat) (w:World) (hB:B≤w.heap.size) (hf:Xf B w 1 Zd (.slice fa c.fields.length fc) c.fields) (k0:w.cell? ⟨cb,0,none⟩=some (.slice fa c.fields.length fc)) (k1:w.cell? ⟨fb,0,none⟩=some (.func (.func 115) #[] #[])) :
  ∀ (x:Nod) (w1:World) (av:Value),Below w.heap.size w w1→Xpv B w1 av x→Calls Tryz.prog 116 (#[av]++#[.pointer (some ⟨cb,0,none⟩),.pointer (some ⟨fb,0,none⟩)]) w1 (fun e w2=>e=.returned (.bool (Z2 c x))∧Below w1.heap.size w1 w2):=by
 rintro x w1 av hb1 ⟨lv,rfl,hlv,h64⟩
 obtain ⟨va,vc,rfl⟩:=hlv.form
 exact Xl1 c x va fa vc fc cb fb B w1 (Nat.le_trans hB hb1.size) (hf.ints (hb1.mono hB)) hlv h64 (Xc hb1 k0) (Xc hb1 k1)
theorem Xdi (c:Cod) (cv:Value) (m:Mm) (mv:Value) (B:Nat) (w:World) (hB:B≤w.heap.size) (hc:Yj B w cv c) (hm:MmV B w mv m) :
  Calls Tryz.prog 86 #[cv,mv] w fun e w'=>e=.returned (.bool (Q7 c m))∧Below w.heap.size w w':=by
 have hmf:∀ (fn:Fn) (first cap:Array Value) (w:World),(Instr.makeFunc fn first cap).run Tryz.prog w=.ok (.func fn first cap) w:=fun _ _ _ _=>rfl
 obtain ⟨cf,cg,rfl,hcf,hcg,hg64⟩:=hc
 have HCF:=Lh hcf
 obtain ⟨fa,fc,rfl⟩:=hcf.form
 obtain ⟨ga,gc,rfl⟩:=hcg.form
 obtain ⟨gv,nv,rfl,hgv,hnv⟩:=hm
 have HGV:=Lh hgv
 have HNV:=Lh hnv
 obtain ⟨va,vc,rfl⟩:=hgv.form
 obtain ⟨na,nc,rfl⟩:=hnv.form
 obtain ⟨W,hW⟩:∃ W,W=((w.alloc (.cells #[.slice fa c.fields.length fc,.int .i64 c.globals,.slice ga c.funcs.length gc] 25)).alloc (.cells #[.slice va m.globals.length vc,.slice na m.nodes.length nc] 52)).alloc (.cells #[.func (.func 115) #[] #[]] 89):=⟨_,rfl⟩
 have hWb:Hid (Below w.heap.size w W):=by rw [hW];exact ((Xa _ _).then (Xa _ _)).then (Xa _ _)
 have hsz:Hid (W.heap.size=w.heap.size+3):=by rw [hW];exact Lh (by simp)
 have b0:Hid (Xo W w.heap.size [.slice fa c.fields.length fc,.int .i64 c.globals,.slice ga c.funcs.length gc]):=by rw [hW];exact Lh (Xd.alloc _ |>.alloc _)
 have b1:Hid (Xo W (w.heap.size+1) [.slice va m.globals.length vc,.slice na m.nodes.length nc]):=by
  rw [hW]
  have:=(@Xd (w.alloc (.cells #[.slice fa c.fields.length fc,.int .i64 c.globals,.slice ga c.funcs.length gc] 25)) #[.slice va m.globals.length vc,.slice na m.nodes.length nc] 52).alloc (.cells #[.func (.func 115) #[] #[]] 89)
  exact Lh (by simpa using this)
 have b2:Hid (Xo W (w.heap.size+1+1) [.func (.func 115) #[] #[]]):=by
  rw [hW]
  have:=@Xd ((w.alloc (.cells #[.slice fa c.fields.length fc,.int .i64 c.globals,.slice ga c.funcs.length gc] 25)).alloc (.cells #[.slice va m.globals.length vc,.slice na m.nodes.length nc] 52)) #[.func (.func 115) #[] #[]] 89
  exact Lh (by simpa using this)
 have i0:=b0.out 0 _ rfl
 have i1:=b0.out 1 _ rfl
 have g0:=b1.out 0 _ rfl
 have g1:=b1.out 1 _ rfl
 have f0:=b2.out 0 _ rfl
 have z0:w.heap.size<W.heap.size:=by have:=hsz.out;omega
 have z1:w.heap.size+1<W.heap.size:=by have:=hsz.out;omega
 have z2:w.heap.size+1+1<W.heap.size:=by have:=hsz.out;omega
 have hWB:B≤W.heap.size:=by omega
 clear hcf hcg hgv hnv hg64
 by_cases c1:(m.globals.length:Int)=c.globals
 rotate_left
 ·have d:((m.globals.length:Int) == c.globals)=false:=by simp [c1]
  have hr:Hid (Q7 c m=false):=Lh (by unfold Q7;simp [c1])
  go_enter Tryz.func86,Tryz.ntmps86
  go_upto_region 2 with fail
  rw [←hW]
  clear hW
  go_wp2_with fail
  go_ret
  exact ⟨by rw [hr.out];rfl,hWb.out⟩
 have d1:((m.globals.length:Int) == c.globals)=true:=by simp [c1]
 by_cases c2:m.nodes.length≤4096
 rotate_left
 ·have d:decide ((m.nodes.length:Int)≤4096)=false:=by simp;omega
  have hr:Hid (Q7 c m=false):=Lh (by unfold Q7;simp [c2])
  clear c1
  go_enter Tryz.func86,Tryz.ntmps86
  go_upto_region 2 with fail
  rw [←hW]
  clear hW
  go_wp2_with fail
  go_ret
  exact ⟨by rw [hr.out];rfl,hWb.out⟩
 have d2:decide ((m.nodes.length:Int)≤4096)=true:=by simp;omega
 have hr:Hid (Q7 c m=(!(m.globals.any (fun n=>!X1 n)) && !(m.nodes.any (Z2 c)))):=Lh (by unfold Q7;simp only [c1,c2,decide_true,Bool.true_and])
 clear c1
 go_enter Tryz.func86,Tryz.ntmps86
 go_upto_region 2 with fail
 rw [←hW]
 clear hW
 go_wp2_with fail
 refine (Y3 115 #[] (fun n=>!X1 n) m.globals _ B W Xbf hWB (HGV.out.ints (hWb.out.mono hB)) (Xgz _)).mono ?_
 rintro e w1 ⟨rfl,hb1⟩
 have i0:=Xc hb1 i0
 have i1:=Xc hb1 i1
 have g0:=Xc hb1 g0
 have g1:=Xc hb1 g1
 have f0:=Xc hb1 f0
 have z0:=Bl i0
 have z1:=Bl g0
 have z2:=Bl f0
 have HB1:=Lh (hWb.out.then hb1)
 clear hb1
 cases hv:m.globals.any (fun n=>!X1 n) with
 | true=>
  have hr2:Hid (Q7 c m=false):=Lh (by rw [hr.out,hv];rfl)
  clear hv
  go_wp2_with fail
  go_ret
  exact ⟨by rw [hr2.out];rfl,HB1.out⟩
 | false=>
  have hr2:Hid (Q7 c m=!(m.nodes.any (Z2 c))):=Lh (by rw [hr.out,hv];rfl)
  clear hv
  go_wp2_with fail
  refine (Jy 116 #[.pointer (some ⟨w.heap.size,0,none⟩),.pointer (some ⟨w.heap.size+1+1,0,none⟩)] (Z2 c) m.nodes _ B w1 Xgh (Nat.le_trans hB HB1.out.size) (HNV.out.nods (HB1.out.mono hB)) (Xm9 c fa fc _ _ B w1 (Nat.le_trans hB HB1.out.size) (HCF.out.ints (HB1.out.mono hB)) i0 f0)).mono ?_
  rintro e w2 ⟨rfl,hb2⟩
  have HB2:=Lh (HB1.out.then hb2)
  clear hb2
  go_wp2_with fail
  go_ret
  exact ⟨by rw [hr2.out];rfl,HB2.out⟩
structure Acc where
 kind:Int
 node:Int
 field:Int
structure Ply where
 mem:Mm
 log:List Acc
 nodes:Int
structure Ks where
 fault:Int
 value:Int
 compares:Int
 nodes:Int
def Xem (x:Nod) (i:Nat) (v:Int):Nod:={ x with f:=x.f.set i v }
/-- the list that a request speaks of -/
def Un (m:Mm) (r:Rq):List Int:=if (m.nodes.length:Int)<r.node then [] else if 0<r.node then ((m.nodes[(r.node - 1).toNat]?).map (·.f)).getD [] else m.globals
/-- a memory after a write -/
def putM (m:Mm) (r:Rq):Mm:=if r.kind≠2 then m else if 0<r.node then { m with nodes:=m.nodes.modify (r.node - 1).toNat (fun x=>Xem x r.field.toNat r.value) } else { m with globals:=m.globals.set r.field.toNat r.value }
/-- what a memory answers; none: there is no such node or field -/
def J5 (c:Cod) (p:Ply) (r:Rq):Option (Ply×Int):=
 if r.kind=3 then
  (if p.mem.nodes.length<4096 then some (⟨{ p.mem with nodes:=p.mem.nodes++[⟨r.field,List.replicate (c.fields.getD r.field.toNat 0).toNat 0⟩] },p.log++[⟨3,(p.mem.nodes.length:Int)+1,r.field⟩],p.nodes+1⟩,(p.mem.nodes.length:Int)+1) else some (p,0))
 else if ((Un p.mem r).length:Int)≤r.field then none
 else some (⟨putM p.mem r,p.log++[⟨r.kind,r.node,r.field⟩],p.nodes+(if 0<r.node then 1 else 0)⟩,if r.kind=2 then r.value else (Un p.mem r).getD r.field.toNat 0)
inductive Zx (c:Cod):Mch→Ply→Ks→Ply→Prop
 | done {m:Mch} {p:Ply}:m.req.kind=4→Zx c m p ⟨0,m.req.value,m.compares,p.nodes⟩ p
 | fail {m:Mch} {p:Ply}:m.req.kind=5→Zx c m p ⟨m.req.fault,0,m.compares,p.nodes⟩ p
 | type {m:Mch} {p:Ply}:m.req.kind≠4→m.req.kind≠5→J5 c p m.req=none→Zx c m p ⟨11,0,m.compares,p.nodes⟩ p
 | step {m m':Mch} {p p' p2:Ply} {n:Int} {o:Ks}:m.req.kind≠4→m.req.kind≠5→J5 c p m.req=some (p',n)→Jv c m n m'→Zx c m' p' o p2→Zx c m p o p2
def Xgl (c:Cod) (x:Nod):Prop:=0≤x.type∧c.fields[x.type.toNat]?=some (x.f.length:Int)∧∀ n∈x.f,isV n
structure Uv (c:Cod) (m:Mm):Prop where
 gl:(m.globals.length:Int)=c.globals
 gv:∀ n∈m.globals,isV n
 len:m.nodes.length≤4096
 nodes:∀ x∈m.nodes,Xgl c x
theorem Xfj {l:List Int}:l.any (fun n=>!X1 n)=false↔∀ n∈l,isV n:=by
 rw [List.any_eq_false]
 exact ⟨fun h n hn=>by have:=h n hn;simp at this;exact Ye.1 this,fun h n hn=>by rw [Ye.2 (h n hn)];simp⟩
theorem Xct {c:Cod} {x:Nod}:Z2 c x=false↔Xgl c x:=by
 unfold Z2 Xgl
 by_cases h:x.type<0
 ·rw [if_pos h];constructor
  ·intro h;cases h
  ·intro h';omega
 rw [if_neg h]
 cases hf:c.fields[x.type.toNat]? with
 | none=>simp
 | some k=>
  simp only []
  by_cases hk:(x.f.length:Int)=k
  ·rw [if_neg (by simp [hk]),Xfj]
   exact ⟨fun h'=>⟨by omega,by rw [hk],h'⟩,fun h'=>h'.2.2⟩
  ·rw [if_pos hk]
   exact ⟨fun h=>(by cases h),fun h'=>absurd (by simpa using h'.2.1.symm) hk⟩
theorem Xn1 {c:Cod} {m:Mm}:Q7 c m=true↔Uv c m:=by
 unfold Q7
 simp only [Bool.and_eq_true,decide_eq_true_eq,Bool.not_eq_true']
 rw [Xfj]
 have h4:m.nodes.any (Z2 c)=false↔∀ x∈m.nodes,Xgl c x:=by
  rw [List.any_eq_false]
  exact ⟨fun h x hx=>Xct.1 (by have:=h x hx;simpa using this),fun h x hx=>by rw [Xct.2 (h x hx)];simp⟩
 rw [h4]
 exact ⟨fun ⟨a,b,d,e⟩=>⟨a,d,b,e⟩,fun h=>⟨h.gl,h.len,h.gv,h.nodes⟩⟩
/-- an ask goes one step on -/
inductive J1 (m:Mch):Out→Prop
 | go (m1:Mch):J1 m (.go m1)
 | stop (r:Rq) (m1:Mch):m1.fuel=m.fuel∧m1.idle=m.idle+1→J1 m (.stop r m1)
 | junk (r:Rq) (m1:Mch):r.kind=5→J1 m (.stop r m1)
theorem J1.ite {m:Mch} {p:Prop} [Decidable p] {a b:Out} (ha:J1 m a) (hb:J1 m b):J1 m (if p then a else b):=by split<;>assumption
theorem Xj9 (c:Cod) (m:Mch) (fs:List Fra) (f:Fra) (y:Fun) (x:Ins):J1 m (Z0 c m fs f y x):=by
 unfold Z0
 simp only []
 repeat' apply J1.ite
 all_goals first|exact .go _|exact .stop _ _ ⟨rfl,rfl⟩|skip
 ·cases Je c x.a with
  | none=>exact .junk _ _ rfl
  | some z=>
   simp only []
   apply J1.ite
   ·exact .go _
   ·exact .stop _ _ ⟨rfl,rfl⟩
 ·cases fs.getLast? with
  | none=>exact .stop _ _ ⟨rfl,rfl⟩
  | some z=>exact .go _
theorem Xlg {c:Cod} (hs:Xv c) {m:Mch} {fs:List Fra} {f:Fra} (h:Ja c m fs f) {r:Rq} {m1:Mch} (hst:stepP c m=.stop r m1) (hk:r.kind≠5):pot m1<pot m:=by
 by_cases hid:100000≤m.idle
 ·unfold stepP at hst
  rw [if_pos hid] at hst
  cases hst;exact absurd rfl hk
 have hid:m.idle<100000:=by omega
 obtain ⟨y,x,hb,hr,hx,hp,hret⟩:=h.at_ hs
 rw [h.stepP hb.fn hx hid] at hst
 have key:J1 m (.stop r m1):=by rw [←hst];exact Xj9 c m fs f y x
 cases key with
 | stop _ _ k=>unfold pot;omega
 | junk _ _ k=>exact absurd k hk
theorem Xoi {c:Cod} (hs:Xv c) {m m':Mch} (h:Zm c m m'):∀ fs f,Ja c m fs f→m'.req.kind≠5→pot m'<pot m:=by
 induction h with
 | stop hst=>
  intro fs f hg hk
  rename_i m r m1
  show pot m1<pot m
  exact Xlg hs hg hst hk
 | go hst _ ih=>
  intro fs f hg hk
  have:=K5 hs hg
  rw [hst] at this
  obtain ⟨⟨fs',f',hg'⟩,hp⟩:=this
  have:=ih fs' f' hg' hk
  omega
/-- a measure of a machine that plays -/
def mu (m:Mch):Nat:=(pot m).toNat*2+(if m.req.kind=4∨m.req.kind=5 then 0 else 1)
theorem Us.pot0 {c:Cod} {m:Mch} (h:Us c m):0≤pot m:=by
 have h1:=h.1.fuel
 have h2:=h.1.idle1
 unfold pot;omega
/-- a machine that waits for an answer, after the answer -/
theorem Xd7 {c:Cod} (hs:Xv c) {m m':Mch} {n:Int} (h:Us c m) (h4:m.req.kind≠4) (h5:m.req.kind≠5) (ha:Yr m.req n=true) (hn:Jv c m n m'):(Us c m'∨(m'.frames=[]∧m'.req=X0 21∧Ug m'))∧mu m'<mu m:=by
 have hp0:=h.pot0
 obtain ⟨hN,hb⟩:=h
 have hmu:mu m=(pot m).toNat*2+1:=by unfold mu;rw [if_neg (fun e=>e.elim h4 h5)]
 obtain ⟨fs,f,hw⟩:∃ fs f,Qr c m m.req fs f:=by
  rcases hb with ⟨e,_,hr,_⟩|⟨v,_,hr,_⟩|h
  ·exact absurd (by rw [hr];rfl) h5
  ·exact absurd (by rw [hr];rfl) h4
  ·exact h
 have fin:∀ m0 fs0 f0,Ja c m0 fs0 f0→pot m0=pot m→Zm c m0 m'→(Us c m'∨(m'.frames=[]∧m'.req=X0 21∧Ug m'))∧mu m'<mu m:=fun m0 fs0 f0 hg hpe hr=>by
  obtain ⟨he,hle⟩:=Xew hs hr fs0 f0 hg
  refine ⟨.inl he,?_⟩
  have hp1:=he.pot0
  rw [hmu]
  unfold mu
  split
  ·omega
  ·rename_i hk
   have:=Xoi hs hr fs0 f0 hg (by omega)
   omega
 rcases hn with ⟨hk,hn0,rfl⟩|⟨hk,fs1,f1,hfr,hr⟩|⟨hk,hr⟩
 ·refine ⟨.inr ⟨rfl,rfl,⟨hN.fuel,hN.idle0,hN.idle1,hN.cmp0,hN.potle⟩⟩,?_⟩
  rw [hmu]
  unfold mu
  rw [if_pos (by simp [X0])]
  show (pot m).toNat*2+0<_
  omega
 ·have hfe:fs1=fs∧f1=f:=by
   have:=hfr.symm.trans hw.fr
   simpa using List.append_inj' this rfl
  obtain ⟨rfl,rfl⟩:=hfe
  have hv:isV n:=by
   unfold Yr at ha
   rcases hk with hk|⟨hk,_⟩
   ·rw [if_pos hk] at ha;exact Ye.1 ha
   ·rw [if_neg (by omega),if_pos hk] at ha;simp at ha;unfold isV;omega
  exact fin _ _ _ (hw.push hN (by omega) n hv noR) rfl hr
 ·exact fin _ _ _ (hw.goOn hN hk noR) rfl hr
end Go.Proofs.YtbmeoklmachjpaaGreatDoor
