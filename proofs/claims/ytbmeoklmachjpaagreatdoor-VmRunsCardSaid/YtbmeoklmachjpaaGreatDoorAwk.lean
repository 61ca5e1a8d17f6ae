/- Codes that a law makes; the contract of example. Start, Next and Run where the plain run is known. The contract of awake. Machines that have stopped are of modest size. The contract of none. -/
import Derived.Test.YtbmeoklmachjpaaGreatDoorFul
import Derived.Test.YtbmeoklmachjpaaGreatDoorSam
import Derived.Test.YtbmeoklmachjpaaGreatDoorRdb
import Derived.Deep.RegionWith
import Derived.Test.YtbmeoklmachjpaaGreatDoorPst3
set_option maxHeartbeats 4000000
set_option maxRecDepth 1000000
set_option linter.unusedVariables false
set_option linter.unusedSimpArgs false
namespace Go.Proofs.YtbmeoklmachjpaaGreatDoor
open Go.RowKit
def Qj (l:List Ins):List Value:=l.flatMap (fun x=>[.int .i64 x.op,.int .i64 x.a])
theorem Xow (l:List Ins):(Qj l).length=l.length*2:=by
 induction l with
 | nil=>rfl
 | cons a l ih=>
  unfold Qj at *
  simp only [List.flatMap_cons,List.length_append,ih,List.length_cons,List.length_nil]
  omega
theorem Xcu:∀ {l:List Ins} {i:Nat} {x:Ins},l[i]?=some x→(Qj l)[i*2]?=some (.int .i64 x.op)∧(Qj l)[i*2+1]?=some (.int .i64 x.a)
 | [],_,_,h=>by simp at h
 | y::l,0,x,h=>by
  simp at h
  subst h
  simp [Qj]
 | y::l,i+1,x,h=>by
  obtain ⟨h1,h2⟩:=Xcu (l:=l) (i:=i) (x:=x) (by simpa using h)
  have e:Qj (y::l)=[.int .i64 y.op,.int .i64 y.a]++Qj l:=rfl
  rw [e]
  refine ⟨?_,?_⟩
  ·rw [show (i+1)*2=i*2+1+1 by omega];simpa using h1
  ·rw [show (i+1)*2+1=(i*2+1)+1+1 by omega];simpa using h2
theorem Xke {B:Nat} {w:World} {b cap:Nat} (l:List Ins) (h:Xo w b (Qj l)) (h64:∀ x∈l,in64 x.op∧in64 x.a) (hb:b<B) (hl:l.length≤1048576) (hc:l.length≤cap) (hc2:cap≤9223372036854775807):Xf B w 2 Xbu (.slice (some ⟨b,0,none⟩) l.length cap) l:=by
 refine ⟨_,cap,rfl,by omega,hc,hc2,.inr ⟨b,0,rfl,hb,fun i x hx=>?_⟩⟩
 obtain ⟨h1,h2⟩:=Xcu hx
 have:=h64 x (List.mem_of_getElem? hx)
 rw [Nat.zero_add]
 exact ⟨h _ _ h1,h _ _ h2,this.1,this.2⟩
/-- a code in new memory -/
def Xox (c:Cod) (w:World) (e:Ending) (w':World):Prop:=∃ (fa ga:Option Addr) (fc gc:Nat),e=.returned (.agg #[.slice fa c.fields.length fc,.int .i64 c.globals,.slice ga c.funcs.length gc])∧Yj w'.heap.size w' (.agg #[.slice fa c.fields.length fc,.int .i64 c.globals,.slice ga c.funcs.length gc]) c∧Below w.heap.size w w'
theorem Kl (w:World):Calls Tryz.prog 29 #[] w (Xox exC w):=by
 obtain ⟨W,hW⟩:∃ W,W=(((w.alloc (.cells #[.slice none 0 0,.int .i64 1,.slice (some ⟨w.heap.size+1+1+1,0,none⟩) 2 2] 25)).alloc (.cells #[.int .i64 13,.int .i64 0,.int .i64 2,.int .i64 0,.int .i64 1,.int .i64 1,.int .i64 15,.int .i64 0,.int .i64 10,.int .i64 0] 100)).alloc (.cells #[.int .i64 4,.int .i64 0,.int .i64 10,.int .i64 0] 100)).alloc (.cells #[.string ⟨#[112]⟩,.int .i64 1,.int .i64 1,.bool true,.slice (some ⟨w.heap.size+1,0,none⟩) 5 5,.string ⟨#[113]⟩,.int .i64 0,.int .i64 0,.bool true,.slice (some ⟨w.heap.size+1+1,0,none⟩) 2 2] 75):=⟨_,rfl⟩
 have hWb:Hid (Below w.heap.size w W):=by rw [hW];exact Lh ((((Xa _ _).then (Xa _ _)).then (Xa _ _)).then (Xa _ _))
 have hsz:Hid (W.heap.size=w.heap.size+4):=by rw [hW];exact Lh (by simp)
 have h0:Hid (Xo W w.heap.size [.slice none 0 0,.int .i64 1,.slice (some ⟨w.heap.size+1+1+1,0,none⟩) 2 2]):=by rw [hW];exact Lh (((Xd.alloc _).alloc _).alloc _)
 have h1:Hid (Xo W (w.heap.size+1) (Qj exP.code)):=by
  rw [hW]
  have:=@Xd (w.alloc (.cells #[.slice none 0 0,.int .i64 1,.slice (some ⟨w.heap.size+1+1+1,0,none⟩) 2 2] 25)) #[.int .i64 13,.int .i64 0,.int .i64 2,.int .i64 0,.int .i64 1,.int .i64 1,.int .i64 15,.int .i64 0,.int .i64 10,.int .i64 0] 100
  exact Lh ((Xo.alloc (by simpa [Qj,exP] using this) _).alloc _)
 have h2:Hid (Xo W (w.heap.size+1+1) (Qj exQ.code)):=by
  rw [hW]
  have:=@Xd ((w.alloc (.cells #[.slice none 0 0,.int .i64 1,.slice (some ⟨w.heap.size+1+1+1,0,none⟩) 2 2] 25)).alloc (.cells #[.int .i64 13,.int .i64 0,.int .i64 2,.int .i64 0,.int .i64 1,.int .i64 1,.int .i64 15,.int .i64 0,.int .i64 10,.int .i64 0] 100)) #[.int .i64 4,.int .i64 0,.int .i64 10,.int .i64 0] 100
  exact Lh (Xo.alloc (by simpa [Qj,exQ] using this) _)
 have h3:Hid (Xo W (w.heap.size+1+1+1) [.string ⟨#[112]⟩,.int .i64 1,.int .i64 1,.bool true,.slice (some ⟨w.heap.size+1,0,none⟩) 5 5,.string ⟨#[113]⟩,.int .i64 0,.int .i64 0,.bool true,.slice (some ⟨w.heap.size+1+1,0,none⟩) 2 2]):=by
  obtain ⟨V,hV⟩:∃ V,V=((w.alloc (.cells #[.slice none 0 0,.int .i64 1,.slice (some ⟨w.heap.size+1+1+1,0,none⟩) 2 2] 25)).alloc (.cells #[.int .i64 13,.int .i64 0,.int .i64 2,.int .i64 0,.int .i64 1,.int .i64 1,.int .i64 15,.int .i64 0,.int .i64 10,.int .i64 0] 100)).alloc (.cells #[.int .i64 4,.int .i64 0,.int .i64 10,.int .i64 0] 100):=⟨_,rfl⟩
  have hVs:V.heap.size=w.heap.size+1+1+1:=by rw [hV];simp
  rw [hW,← hV,← hVs]
  exact Lh Xd
 have hC:Hid (Yj W.heap.size W (.agg #[.slice none 0 0,.int .i64 1,.slice (some ⟨w.heap.size+1+1+1,0,none⟩) 2 2]) exC):=Lh (by
  refine ⟨_,_,rfl,⟨none,0,rfl,by simp [exC],by simp [exC],by omega,.inl rfl⟩,⟨_,2,rfl,by simp [exC],by simp [exC],by omega,.inr ⟨_,0,rfl,by have:=hsz.out;omega,fun i x hx=>?_⟩⟩,by simp [exC,in64]⟩
  match i,hx with
  | 0,hx=>
   obtain rfl:x=exP:=by simpa [exC] using hx.symm
   exact ⟨h3.out 0 _ rfl,h3.out 1 _ rfl,h3.out 2 _ rfl,h3.out 3 _ rfl,⟨_,h3.out 4 _ rfl,Xke exP.code h1.out (by simp [exP,in64]) (by have:=hsz.out;omega) (by simp [exP]) (by simp [exP]) (by omega)⟩,by decide,by simp [exP,in64],by simp [exP,in64]⟩
  | 1,hx=>
   obtain rfl:x=exQ:=by simpa [exC] using hx.symm
   exact ⟨h3.out 5 _ rfl,h3.out 6 _ rfl,h3.out 7 _ rfl,h3.out 8 _ rfl,⟨_,h3.out 9 _ rfl,Xke exQ.code h2.out (by simp [exQ,in64]) (by have:=hsz.out;omega) (by simp [exQ]) (by simp [exQ]) (by omega)⟩,by decide,by simp [exQ,in64],by simp [exQ,in64]⟩
  | i+2,hx=>simp [exC] at hx)
 have c0:=h0.out 0 _ rfl
 have c1:=h0.out 1 _ rfl
 have c2:=h0.out 2 _ rfl
 go_enter Tryz.func29,Tryz.ntmps29
 go_wp2_with fail
 rw [←hW]
 exact bodyPost_ret (v:=.agg #[.slice none 0 0,.int .i64 1,.slice (some ⟨w.heap.size+1+1+1,0,none⟩) 2 2]) (by simp [results,Tryz.results29,go_sem,c0,c1,c2]) rfl ⟨none,_,0,2,rfl,hC.out,hWb.out⟩
/-- a machine is returned, and OK -/
def Xiz (m1:Mch) (w:World) (e:Ending) (w':World):Prop:=∃ (fa:Option Addr) (fc:Nat),e=.returned (.tuple #[.agg (Xb (.slice fa m1.frames.length fc) m1),.int .i64 0])∧Xf w'.heap.size w' 4 (Qp w'.heap.size) (.slice fa m1.frames.length fc) m1.frames∧Below w.heap.size w w'
def J6 (m:Mch):Prop:=m.frames.length≤140737488355328∧∀ f∈m.frames,f.locals.length≤140737488355328∧f.stack.length≤140737488355328
theorem Qq.is {w w':World} {fv:Value} {m:Mch} (h:Qq w fv m w') (hm:J6 m):Xiz m w (.returned (.tuple #[Xi fv m,.int .i64 0])) w':=by
 obtain ⟨F,h1,h2,h3⟩:=h
 obtain ⟨fa,fc,rfl⟩:=h1.form
 exact ⟨fa,fc,rfl,h1.reads hm.1 hm.2,h3⟩
theorem Xc7 {c:Cod} {x:Cal} {fuel:Int} {m1:Mch} (hs:Xv c) (hsm:Zb c) (hg:Yd c x fuel=0) (hr:Zm c (Zo c x fuel) m1) (hm:J6 m1) (cv xv:Value) (B:Nat) (w:World) (hL:Qa w) (hB:B≤w.heap.size) (hc:Yj B w cv c) (hx:J8 B w xv x) :
  Calls Tryz.prog 9 #[cv,xv,.int .i64 fuel] w (Xiz m1 w):=by
 refine (Xff c x fuel cv xv B w hL hB hc hx hsm).mono ?_
 rintro e w' (⟨h,_⟩|⟨_,⟨h,_⟩|⟨_,m',fv,h1,rfl,h2⟩⟩)
 ·exact absurd hs h
 ·exact absurd hg h
 ·rw [Vv h1 hr] at h2 ⊢
  exact h2.is hm
theorem Xqb {c:Cod} {m m1:Mch} {n:Int} (hsm:Zb c) (hv:Yf c m) (hk:¬(m.req.kind=4∨m.req.kind=5)) (ha:Yr m.req n=true) (hn:Jv c m n m1) (hm:J6 m1) (cv fv:Value) (B:Nat) (w:World) (hL:Qa w) (hB:B≤w.heap.size) (hc:Yj B w cv c) (hf:Xf B w 4 (Qp B) fv m.frames) :
  Calls Tryz.prog 19 #[cv,.agg (Xb fv m),.int .i64 n] w (Xiz m1 w):=by
 refine (Xhv c cv m fv n B w hL hB hc hf hsm).mono ?_
 rintro e w' (⟨h,_⟩|⟨_,h,_⟩|⟨_,_,h,_⟩|⟨_,_,_,m',fv',h1,rfl,h2⟩)
 ·exact absurd hv h
 ·exact absurd h hk
 ·rw [ha] at h;cases h
 ·rw [Xb8 h1 hn] at h2 ⊢
  exact h2.is hm
/-- an outcome and a memory are returned, and OK -/
def Xro (o:Ks) (w:World) (e:Ending) (w':World):Prop:=∃ (ga na:Option Addr) (gn gc nn nc:Nat),e=.returned (.tuple #[.agg (X8 o.fault o.value o.compares o.nodes),.agg #[.slice ga gn gc,.slice na nn nc],.int .i64 0])∧Below w.heap.size w w'
theorem Xqo (hp:U6) {c:Cod} {m:Mm} {x:Cal} {fuel:Int} {m1:Mch} {o:Ks} {p:Ply} (hs:Xv c) (hft:Q7 c m=true) (hsm:Zb c) (hg:Yd c x fuel=0) (hr:Zm c (Zo c x fuel) m1) (hpl:Zx c m1 ⟨m,[],0⟩ o p) (cv mv xv:Value) (B:Nat) (w:World) (hL:Qa w) (hB:B≤w.heap.size) (hc:Yj B w cv c) (hm:MmV B w mv m) (hx:J8 B w xv x) :
  Calls Tryz.prog 23 #[cv,mv,xv,.int .i64 fuel] w (Xro o w):=by
 refine (Xp9 hp c m x fuel cv mv xv B w hL hB hc hm hx hsm).mono ?_
 rintro e w' ⟨er,o',ga,na,la,gn,gc,nn,nc,ln,lc,rfl,hE,hR,hb⟩
 have h0:er=0:=by
  rcases hE with ⟨h,_⟩|⟨_,_,h⟩
  ·exact absurd ⟨hs,hft⟩ h
  ·rw [h,hg]
 subst h0
 obtain ⟨m1',p',h4,h5,_⟩:=hR.reads
 rw [Vv h4 hr] at h5
 obtain ⟨rfl,rfl⟩:=Xlp h5 hpl
 exact ⟨ga,na,gn,gc,nn,nc,rfl,hb⟩
theorem Xkf {w:World} {b:Nat} (h:w.cell? ⟨b,0,none⟩=some (.int .i64 4)) (hb:b<w.heap.size):J8 w.heap.size w (.agg #[.string ⟨#[112]⟩,.slice (some ⟨b,0,none⟩) 1 1]) Xcd:=
 ⟨_,rfl,⟨_,1,rfl,by simp [Xcd],by simp [Xcd],by omega,.inr ⟨b,0,rfl,hb,fun i x hx=>by
  match i,hx with
  | 0,hx=>
   obtain rfl:x=4:=by simpa [Xcd] using hx.symm
   exact ⟨h,by simp [in64]⟩
  | i+1,hx=>simp [Xcd] at hx⟩⟩,by decide⟩
theorem Xky (B:Nat) (w:World):J8 B w (.agg #[.string ⟨#[113]⟩,.slice none 0 0]) Xih:=
 ⟨_,rfl,⟨none,0,rfl,by simp [Xih],by simp [Xih],by omega,.inl rfl⟩,by decide⟩
theorem Xpr {w:World} {b:Nat} (h:w.cell? ⟨b,0,none⟩=some (.int .i64 9)) (hb:b<w.heap.size):MmV w.heap.size w (.agg #[.slice (some ⟨b,0,none⟩) 1 1,.slice none 0 0]) ⟨[9],[]⟩:=
 ⟨_,_,rfl,⟨_,1,rfl,by simp,by simp,by omega,.inr ⟨b,0,rfl,hb,fun i x hx=>by
  match i,hx with
  | 0,hx=>
   obtain rfl:x=9:=by simpa using hx.symm
   exact ⟨h,by simp [in64]⟩
  | i+1,hx=>simp at hx⟩⟩,⟨none,0,rfl,by simp,by simp,by omega,.inl rfl⟩⟩
theorem Xf6 {r:Rq} {a b c:Int}:J6 ⟨[],r,a,b,c⟩:=⟨by simp,by simp⟩
theorem Xrs:J6 U2:=⟨by simp [U2],by simp [U2]⟩
theorem Xc5 {w w':World} {vs:Array Value} {T:TypeId} (hb:Below (w.alloc (.cells vs T)).heap.size (w.alloc (.cells vs T)) w'):w'.heap[w.heap.size]?=some (.cells vs T (0,0)):=Yk hb (heap_alloc_new _ _)
theorem X7 (w:World) (o:Obj):Below w.heap.size w (w.alloc o).drew:=Xh (Xa w o) 1
theorem Xib {w w':World} {vs:Array Value} {T:TypeId} (hb:Below (w.alloc (.cells vs T)).drew.heap.size (w.alloc (.cells vs T)).drew w'):w'.heap[w.heap.size]?=some (.cells vs T (0,0)):=Yk hb (heap_alloc_new w _)
theorem Y0 {W:World} {R b:Nat} {v0 v1 v2 v3 v4 v5 v6 v7 v8:Value} (h:b≠R) {j:Nat} {v:Value} (hc:W.cell? ⟨b,j,none⟩=some v):(((((((((W.setCell ⟨R,0,none⟩ v0).setCell ⟨R,1,none⟩ v1).setCell ⟨R,2,none⟩ v2).setCell ⟨R,3,none⟩ v3).setCell ⟨R,4,none⟩ v4).setCell ⟨R,5,none⟩ v5).setCell ⟨R,6,none⟩ v6).setCell ⟨R,7,none⟩ v7).setCell ⟨R,8,none⟩ v8).cell? ⟨b,j,none⟩=some v:=
 ((((((((Xw.trans Xw).trans Xw).trans Xw).trans Xw).trans Xw).trans Xw).trans Xw).trans Xw).cell hc (by simpa using h)
def Xo3 (w:World) (e:Ending) (w':World):Prop:=∃ (fa:Option Addr) (fc:Nat),e=.returned (.tuple #[.agg #[.slice fa 0 fc,.int .i64 4,.int .i64 0,.int .i64 0,.int .i64 9,.int .i64 0,.int .i64 0,.int .i64 0,.int .i64 2],.int .i64 0])∧Below w.heap.size w w'
theorem Xoz (cv:Value) (fa:Option Addr) (fc B:Nat) (w:World) (hL:Qa w) (hB:B≤w.heap.size) (hc:Yj B w cv exC) (hf:Xf B w 4 (Qp B) (.slice fa 1 fc) U2.frames):Calls Tryz.prog 19 #[cv,.agg #[.slice fa 1 fc,.int .i64 1,.int .i64 0,.int .i64 0,.int .i64 0,.int .i64 0,.int .i64 0,.int .i64 0,.int .i64 1],.int .i64 9] w (Xo3 w):=by
 refine (Xqb (m:=U2) Vp Xoj (by decide) (by decide) Xkp Xf6 cv (.slice fa 1 fc) B w hL hB hc hf).mono ?_
 rintro e w' ⟨fa,fc,rfl,_,hb⟩
 exact ⟨fa,fc,rfl,hb⟩
theorem Xqc {A6 w7 w8:World} {RR:Nat} {fa8:Option Addr} {fc8:Nat} (h67:Below A6.heap.size A6 w7) (h78:Below w7.heap.size w7 w8) (hrow:w8.heap[RR]?=some (.cells #[.slice none 0 0,.int .i64 0,.int .i64 0,.int .i64 0,.int .i64 0,.int .i64 0,.int .i64 0,.int .i64 0,.int .i64 0] 36 (0,0))) (hR:A6.heap.size≤RR):Below A6.heap.size A6 (((((((((w8.setCell ⟨RR,0,none⟩ (.slice fa8 0 fc8)).setCell ⟨RR,1,none⟩ (.int .i64 4)).setCell ⟨RR,2,none⟩ (.int .i64 0)).setCell ⟨RR,3,none⟩ (.int .i64 0)).setCell ⟨RR,4,none⟩ (.int .i64 9)).setCell ⟨RR,5,none⟩ (.int .i64 0)).setCell ⟨RR,6,none⟩ (.int .i64 0)).setCell ⟨RR,7,none⟩ (.int .i64 0)).setCell ⟨RR,8,none⟩ (.int .i64 2))∧Xo (((((((((w8.setCell ⟨RR,0,none⟩ (.slice fa8 0 fc8)).setCell ⟨RR,1,none⟩ (.int .i64 4)).setCell ⟨RR,2,none⟩ (.int .i64 0)).setCell ⟨RR,3,none⟩ (.int .i64 0)).setCell ⟨RR,4,none⟩ (.int .i64 9)).setCell ⟨RR,5,none⟩ (.int .i64 0)).setCell ⟨RR,6,none⟩ (.int .i64 0)).setCell ⟨RR,7,none⟩ (.int .i64 0)).setCell ⟨RR,8,none⟩ (.int .i64 2)) RR [.slice fa8 0 fc8,.int .i64 4,.int .i64 0,.int .i64 0,.int .i64 9,.int .i64 0,.int .i64 0,.int .i64 0,.int .i64 2]:=by
 have f:=Xz (fv0:=.slice none 0 0) (m0:=Xl) hrow (.slice fa8 0 fc8) Xp5
 refine ⟨((h67.then h78).trans (f.2.below (fun b hb=>by rw [List.mem_singleton] at hb;omega) (h67.then h78).size)),fun j v hv=>?_⟩
 have:=cell_of_row _ _ j _ _ _ f.1
 refine Eq.trans this ?_
 simpa [Xb,Xp5,Jc] using hv
theorem Xrq {A6 w7 w8:World} {fa8:Option Addr} {fc8:Nat} (h67:Below A6.heap.size A6 w7) (h78:Below w7.heap.size w7 w8):Below A6.heap.size A6 (w8.alloc (.cells #[.slice fa8 0 fc8,.int .i64 4,.int .i64 0,.int .i64 0,.int .i64 9,.int .i64 0,.int .i64 0,.int .i64 0,.int .i64 2] 36))∧Xo (w8.alloc (.cells #[.slice fa8 0 fc8,.int .i64 4,.int .i64 0,.int .i64 0,.int .i64 9,.int .i64 0,.int .i64 0,.int .i64 0,.int .i64 2] 36)) w8.heap.size [.slice fa8 0 fc8,.int .i64 4,.int .i64 0,.int .i64 0,.int .i64 9,.int .i64 0,.int .i64 0,.int .i64 0,.int .i64 2]:=
 ⟨(h67.then h78).then (Xa _ _),Xd⟩
theorem Jl (hp:U6) (w:World) (hL:Qa w):Calls Tryz.prog 6 #[] w (fun e w'=>e=.returned (.bool true)∧Below w.heap.size w w'):=by
 have HP:=Lh hp
 have HL:=Lh hL
 clear hp hL
 have HBT0:Hid (Below w.heap.size w w):=Lh (Below.refl _ _)
 go_enter Tryz.func6,Tryz.ntmps6
 go_wp2_with fail
 refine (Kl _).mono ?_
 rintro e w1 ⟨fa1,ga1,fc1,gc1,rfl,hC1,hb1⟩
 have HC1:=Lh hC1
 have HBT1:=Lh (HBT0.out.then hb1)
 clear hC1 hb1
 simp only [show exC.fields.length=0 from rfl,show exC.funcs.length=2 from rfl,show exC.globals=1 from rfl] at HC1 ⊢
 obtain ⟨V1,hV1⟩:∃ V,V=w1.alloc (.cells #[.int .i64 4] 3):=⟨_,rfl⟩
 have hVb1:Below w1.heap.size w1 V1:=by rw [hV1];exact Xa _ _
 have hVx1:V1.cell? ⟨w1.heap.size,0,none⟩=some (.int .i64 4):=by rw [hV1,Y5];rfl
 have HBV1:=Lh (HBT1.out.then hVb1)
 have HC1:=Lh ((HC1.out.below hVb1).up hVb1.size)
 have hVz1:=Bl hVx1
 have HVX1:=Lh hVx1
 go_wp2_with fail
 rw [←hV1]
 clear hV1 hVb1 hVx1
 refine (Xc7 Xac Vp (Xez 1 (.inr rfl)) Xo8 Xf6 _ _ V1.heap.size V1 (HL.out.below HBV1.out) (Nat.le_refl _) HC1.out (Xkf HVX1.out hVz1)).mono ?_
 rintro e w2 ⟨fa2,fc2,rfl,hS2,hb2⟩
 have HS2:=Lh hS2
 have HBT2:=Lh (HBV1.out.then hb2)
 rw [show Xb (.slice fa2 Xp0.frames.length fc2) Xp0=#[.slice fa2 0 fc2,.int .i64 4,.int .i64 0,.int .i64 0,.int .i64 5,.int .i64 0,.int .i64 0,.int .i64 0,.int .i64 4] from rfl]
 simp only [show Xp0.frames.length=0 from rfl] at HS2
 clear hS2 hb2
 obtain ⟨A2,hA2⟩:∃ V,V=w2.alloc (.cells #[.slice fa2 0 fc2,.int .i64 4,.int .i64 0,.int .i64 0,.int .i64 5,.int .i64 0,.int .i64 0,.int .i64 0,.int .i64 4] 36):=⟨_,rfl⟩
 have hAb2:Below w2.heap.size w2 A2:=by rw [hA2];exact Xa _ _
 have HK2:Hid (Xo A2 w2.heap.size [.slice fa2 0 fc2,.int .i64 4,.int .i64 0,.int .i64 0,.int .i64 5,.int .i64 0,.int .i64 0,.int .i64 0,.int .i64 4]):=by rw [hA2];exact Lh Xd
 have HBA2:=Lh (HBT2.out.then hAb2)
 have hAz2:w2.heap.size<A2.heap.size:=Bl (HK2.out 0 _ rfl)
 obtain ⟨b2,hbk2⟩:∃ b,b=w2.heap.size:=⟨_,rfl⟩
 rw [←hbk2] at HK2 hAz2
 have HBK2:=Lh hbk2
 go_upto_region 2 with fail
 rw [←hA2,← hbk2]
 clear hA2 hAb2 hbk2
 go_wp2_with fail
 refine (Kl _).mono ?_
 rintro e w3 ⟨fa3,ga3,fc3,gc3,rfl,hC3,hb3⟩
 have HC3:=Lh hC3
 have HBT3:=Lh (HBA2.out.then hb3)
 have HK2:=Lh (HK2.out.keep hb3)
 clear hC3 hb3
 simp only [show exC.fields.length=0 from rfl,show exC.funcs.length=2 from rfl,show exC.globals=1 from rfl] at HC3 ⊢
 obtain ⟨V3,hV3⟩:∃ V,V=w3.alloc (.cells #[.int .i64 4] 3):=⟨_,rfl⟩
 have hVb3:Below w3.heap.size w3 V3:=by rw [hV3];exact Xa _ _
 have hVx3:V3.cell? ⟨w3.heap.size,0,none⟩=some (.int .i64 4):=by rw [hV3,Y5];rfl
 have HBV3:=Lh (HBT3.out.then hVb3)
 have HC3:=Lh ((HC3.out.below hVb3).up hVb3.size)
 have HK2:=Lh (HK2.out.keep hVb3)
 have hVz3:=Bl hVx3
 have HVX3:=Lh hVx3
 go_wp2_with fail
 rw [←hV3]
 clear hV3 hVb3 hVx3
 refine (Xc7 Xac Vp (Xez 0 (.inl rfl)) Xos Xf6 _ _ V3.heap.size V3 (HL.out.below HBV3.out) (Nat.le_refl _) HC3.out (Xkf HVX3.out hVz3)).mono ?_
 rintro e w4 ⟨fa4,fc4,rfl,hS4,hb4⟩
 have HS4:=Lh hS4
 have HBT4:=Lh (HBV3.out.then hb4)
 have HK2:=Lh (HK2.out.keep hb4)
 rw [show Xb (.slice fa4 Xp7.frames.length fc4) Xp7=#[.slice fa4 0 fc4,.int .i64 5,.int .i64 0,.int .i64 0,.int .i64 0,.int .i64 20,.int .i64 0,.int .i64 0,.int .i64 1] from rfl]
 simp only [show Xp7.frames.length=0 from rfl] at HS4
 clear hS4 hb4
 obtain ⟨A4,hA4⟩:∃ V,V=w4.alloc (.cells #[.slice fa4 0 fc4,.int .i64 5,.int .i64 0,.int .i64 0,.int .i64 0,.int .i64 20,.int .i64 0,.int .i64 0,.int .i64 1] 36):=⟨_,rfl⟩
 have hAb4:Below w4.heap.size w4 A4:=by rw [hA4];exact Xa _ _
 have HK4:Hid (Xo A4 w4.heap.size [.slice fa4 0 fc4,.int .i64 5,.int .i64 0,.int .i64 0,.int .i64 0,.int .i64 20,.int .i64 0,.int .i64 0,.int .i64 1]):=by rw [hA4];exact Lh Xd
 have HBA4:=Lh (HBT4.out.then hAb4)
 have HK2:=Lh (HK2.out.keep hAb4)
 have hAz4:w4.heap.size<A4.heap.size:=Bl (HK4.out 0 _ rfl)
 obtain ⟨b4,hbk4⟩:∃ b,b=w4.heap.size:=⟨_,rfl⟩
 rw [←hbk4] at HK4 hAz4
 have HBK4:=Lh hbk4
 go_upto_region 3 with fail
 rw [←hA4,← hbk4]
 clear hA4 hAb4 hbk4
 go_wp2_with fail
 refine (Kl _).mono ?_
 rintro e w5 ⟨fa5,ga5,fc5,gc5,rfl,hC5,hb5⟩
 have HC5:=Lh hC5
 have HBT5:=Lh (HBA4.out.then hb5)
 have HK2:=Lh (HK2.out.keep hb5)
 have HK4:=Lh (HK4.out.keep hb5)
 clear hC5 hb5
 simp only [show exC.fields.length=0 from rfl,show exC.funcs.length=2 from rfl,show exC.globals=1 from rfl] at HC5 ⊢
 go_wp2_with fail
 refine (Xc7 Xac Vp Xev Xkv Xrs _ _ w5.heap.size w5 (HL.out.below HBT5.out) (Nat.le_refl _) HC5.out (Xky _ _)).mono ?_
 rintro e w6 ⟨fa6,fc6,rfl,hS6,hb6⟩
 have HS6:=Lh hS6
 have HBT6:=Lh (HBT5.out.then hb6)
 have HK2:=Lh (HK2.out.keep hb6)
 have HK4:=Lh (HK4.out.keep hb6)
 rw [show Xb (.slice fa6 U2.frames.length fc6) U2=#[.slice fa6 1 fc6,.int .i64 1,.int .i64 0,.int .i64 0,.int .i64 0,.int .i64 0,.int .i64 0,.int .i64 0,.int .i64 1] from rfl]
 simp only [show U2.frames.length=1 from rfl] at HS6
 clear hS6 hb6
 obtain ⟨A6,hA6⟩:∃ V,V=w6.alloc (.cells #[.slice fa6 1 fc6,.int .i64 1,.int .i64 0,.int .i64 0,.int .i64 0,.int .i64 0,.int .i64 0,.int .i64 0,.int .i64 1] 36):=⟨_,rfl⟩
 have hAb6:Below w6.heap.size w6 A6:=by rw [hA6];exact Xa _ _
 have HK6:Hid (Xo A6 w6.heap.size [.slice fa6 1 fc6,.int .i64 1,.int .i64 0,.int .i64 0,.int .i64 0,.int .i64 0,.int .i64 0,.int .i64 0,.int .i64 1]):=by rw [hA6];exact Lh Xd
 have HBA6:=Lh (HBT6.out.then hAb6)
 have HK2:=Lh (HK2.out.keep hAb6)
 have HK4:=Lh (HK4.out.keep hAb6)
 have HS6:=Lh ((HS6.out.fras hAb6).up hAb6.size (fun _ _ _ h=>h.up hAb6.size))
 have hAz6:w6.heap.size<A6.heap.size:=Bl (HK6.out 0 _ rfl)
 obtain ⟨b6,hbk6⟩:∃ b,b=w6.heap.size:=⟨_,rfl⟩
 rw [←hbk6] at HK6 hAz6
 have HBK6:=Lh hbk6
 go_upto_region 4 with fail
 rw [←hA6,← hbk6]
 clear hA6 hAb6 hbk6
 have q0:=HK6.out 0 _ rfl
 have q1:=HK6.out 1 _ rfl
 have q2:=HK6.out 2 _ rfl
 have q3:=HK6.out 3 _ rfl
 have q4:=HK6.out 4 _ rfl
 have q5:=HK6.out 5 _ rfl
 have q6:=HK6.out 6 _ rfl
 have q7:=HK6.out 7 _ rfl
 have q8:=HK6.out 8 _ rfl
 have zq:=Bl q0
 have hneA:b6≠A6.heap.size:=Nat.ne_of_lt hAz6
 have hbd6:Below A6.heap.size A6 A6.drew:=Xh (Below.refl _ _) 1
 have qd0:A6.drew.cell? ⟨b6,0,none⟩=some (.slice fa6 1 fc6):=q0
 have qd1:A6.drew.cell? ⟨b6,1,none⟩=some (.int .i64 1):=q1
 have qd2:A6.drew.cell? ⟨b6,2,none⟩=some (.int .i64 0):=q2
 have qd3:A6.drew.cell? ⟨b6,3,none⟩=some (.int .i64 0):=q3
 have qd4:A6.drew.cell? ⟨b6,4,none⟩=some (.int .i64 0):=q4
 have qd5:A6.drew.cell? ⟨b6,5,none⟩=some (.int .i64 0):=q5
 have qd6:A6.drew.cell? ⟨b6,6,none⟩=some (.int .i64 0):=q6
 have qd7:A6.drew.cell? ⟨b6,7,none⟩=some (.int .i64 0):=q7
 have qd8:A6.drew.cell? ⟨b6,8,none⟩=some (.int .i64 1):=q8
 have HL6:Hid (Qa A6):=Lh (HL.out.below HBA6.out)
 go_region_held3 (fun V=>V.cell? ⟨b6,0,none⟩=some (.slice fa6 1 fc6)∧V.cell? ⟨b6,1,none⟩=some (.int .i64 1)∧V.cell? ⟨b6,2,none⟩=some (.int .i64 0)∧V.cell? ⟨b6,3,none⟩=some (.int .i64 0)∧V.cell? ⟨b6,4,none⟩=some (.int .i64 0)∧V.cell? ⟨b6,5,none⟩=some (.int .i64 0)∧V.cell? ⟨b6,6,none⟩=some (.int .i64 0)∧V.cell? ⟨b6,7,none⟩=some (.int .i64 0)∧V.cell? ⟨b6,8,none⟩=some (.int .i64 1))
  (first|with_reducible exact ⟨qd0,qd1,qd2,qd3,qd4,qd5,qd6,qd7,qd8⟩|with_reducible exact ⟨Xc (Xa _ _) qd0,Xc (Xa _ _) qd1,Xc (Xa _ _) qd2,Xc (Xa _ _) qd3,Xc (Xa _ _) qd4,Xc (Xa _ _) qd5,Xc (Xa _ _) qd6,Xc (Xa _ _) qd7,Xc (Xa _ _) qd8⟩|with_reducible exact ⟨Xc (X7 _ _) q0,Xc (X7 _ _) q1,Xc (X7 _ _) q2,Xc (X7 _ _) q3,Xc (X7 _ _) q4,Xc (X7 _ _) q5,Xc (X7 _ _) q6,Xc (X7 _ _) q7,Xc (X7 _ _) q8⟩|with_reducible exact ⟨Xc hb67 q0,Xc hb67 q1,Xc hb67 q2,Xc hb67 q3,Xc hb67 q4,Xc hb67 q5,Xc hb67 q6,Xc hb67 q7,Xc hb67 q8⟩|with_reducible exact ⟨Xc (hb67.then (Xa _ _)) q0,Xc (hb67.then (Xa _ _)) q1,Xc (hb67.then (Xa _ _)) q2,Xc (hb67.then (Xa _ _)) q3,Xc (hb67.then (Xa _ _)) q4,Xc (hb67.then (Xa _ _)) q5,Xc (hb67.then (Xa _ _)) q6,Xc (hb67.then (Xa _ _)) q7,Xc (hb67.then (Xa _ _)) q8⟩|with_reducible exact ⟨Xc (hb67.then hb78) q0,Xc (hb67.then hb78) q1,Xc (hb67.then hb78) q2,Xc (hb67.then hb78) q3,Xc (hb67.then hb78) q4,Xc (hb67.then hb78) q5,Xc (hb67.then hb78) q6,Xc (hb67.then hb78) q7,Xc (hb67.then hb78) q8⟩|with_reducible exact ⟨Xc ((hb67.then hb78).then (Xa _ _)) q0,Xc ((hb67.then hb78).then (Xa _ _)) q1,Xc ((hb67.then hb78).then (Xa _ _)) q2,Xc ((hb67.then hb78).then (Xa _ _)) q3,Xc ((hb67.then hb78).then (Xa _ _)) q4,Xc ((hb67.then hb78).then (Xa _ _)) q5,Xc ((hb67.then hb78).then (Xa _ _)) q6,Xc ((hb67.then hb78).then (Xa _ _)) q7,Xc ((hb67.then hb78).then (Xa _ _)) q8⟩|with_reducible exact ⟨Y0 hneA (Xc (hb67.then hb78) q0),Y0 hneA (Xc (hb67.then hb78) q1),Y0 hneA (Xc (hb67.then hb78) q2),Y0 hneA (Xc (hb67.then hb78) q3),Y0 hneA (Xc (hb67.then hb78) q4),Y0 hneA (Xc (hb67.then hb78) q5),Y0 hneA (Xc (hb67.then hb78) q6),Y0 hneA (Xc (hb67.then hb78) q7),Y0 hneA (Xc (hb67.then hb78) q8)⟩|with_reducible exact ⟨Y0 hne7 (Xc (hb67.then hb78) q0),Y0 hne7 (Xc (hb67.then hb78) q1),Y0 hne7 (Xc (hb67.then hb78) q2),Y0 hne7 (Xc (hb67.then hb78) q3),Y0 hne7 (Xc (hb67.then hb78) q4),Y0 hne7 (Xc (hb67.then hb78) q5),Y0 hne7 (Xc (hb67.then hb78) q6),Y0 hne7 (Xc (hb67.then hb78) q7),Y0 hne7 (Xc (hb67.then hb78) q8)⟩)
  (first|(go_at_call 29;(with_reducible refine (Kl _).mono ?_);rintro e w7 ⟨fa7,ga7,fc7,gc7,rfl,hC7,hb7⟩;have hb67:Below A6.heap.size A6 w7:=(by first|with_reducible exact hbd6.then hb7|with_reducible exact (hbd6.then (Xa _ _)).then hb7|with_reducible exact (X7 _ _).then hb7);have hne7:b6≠w7.heap.size:=Nat.ne_of_lt (Nat.lt_of_lt_of_le hAz6 hb67.size);(first|(with_reducible have hrow7:=Xc5 hb7)|(with_reducible have hrow7:=Xib hb7)|skip))|(go_at_call 19;(with_reducible refine (Xoz _ fa6 fc6 _ _ (by first|with_reducible exact HL6.out.below hb67|with_reducible exact HL6.out.below (hb67.then (Xa _ _))) (Nat.le_refl _) (by first|with_reducible exact hC7|with_reducible exact (hC7.below (Xa _ _)).up (Xa _ _).size) (by first|with_reducible exact (HS6.out.fras hb67).up hb67.size (fun _ _ _ h=>h.up hb67.size)|with_reducible exact (HS6.out.fras (hb67.then (Xa _ _))).up (hb67.then (Xa _ _)).size (fun _ _ _ h=>h.up (hb67.then (Xa _ _)).size))).mono ?_);rintro e w8 ⟨fa8,fc8,rfl,hb8⟩;have hb78:Below w7.heap.size w7 w8:=(by first|with_reducible exact hb8|with_reducible exact (Xa _ _).then hb8);(first|(with_reducible have hrow8:=Yk hb78 hrow7)|(with_reducible have hrow8:=Xc5 hb8)|skip);(try (have d0:w8.cell? ⟨_,0,none⟩=some _:=(by rw [cell_of_row _ _ _ _ _ _ hrow8];rfl);have d1:w8.cell? ⟨_,1,none⟩=some _:=(by rw [cell_of_row _ _ _ _ _ _ hrow8];rfl);have d2:w8.cell? ⟨_,2,none⟩=some _:=(by rw [cell_of_row _ _ _ _ _ _ hrow8];rfl);have d3:w8.cell? ⟨_,3,none⟩=some _:=(by rw [cell_of_row _ _ _ _ _ _ hrow8];rfl);have d4:w8.cell? ⟨_,4,none⟩=some _:=(by rw [cell_of_row _ _ _ _ _ _ hrow8];rfl);have d5:w8.cell? ⟨_,5,none⟩=some _:=(by rw [cell_of_row _ _ _ _ _ _ hrow8];rfl);have d6:w8.cell? ⟨_,6,none⟩=some _:=(by rw [cell_of_row _ _ _ _ _ _ hrow8];rfl);have d7:w8.cell? ⟨_,7,none⟩=some _:=(by rw [cell_of_row _ _ _ _ _ _ hrow8];rfl);have d8:w8.cell? ⟨_,8,none⟩=some _:=(by rw [cell_of_row _ _ _ _ _ _ hrow8];rfl);have fd0:=frozen_of_row _ _ 0 _ _ hrow8;have fd1:=frozen_of_row _ _ 1 _ _ hrow8;have fd2:=frozen_of_row _ _ 2 _ _ hrow8;have fd3:=frozen_of_row _ _ 3 _ _ hrow8;have fd4:=frozen_of_row _ _ 4 _ _ hrow8;have fd5:=frozen_of_row _ _ 5 _ _ hrow8;have fd6:=frozen_of_row _ _ 6 _ _ hrow8;have fd7:=frozen_of_row _ _ 7 _ _ hrow8;have fd8:=frozen_of_row _ _ 8 _ _ hrow8;have zd:=Bl d0))))
 all_goals
  first
   | (have hd:=Xrq (fa8:=fa8) (fc8:=fc8) hb67 hb78;obtain ⟨A8,hA8⟩:∃ V,V=w8.alloc (.cells #[.slice fa8 0 fc8,.int .i64 4,.int .i64 0,.int .i64 0,.int .i64 9,.int .i64 0,.int .i64 0,.int .i64 0,.int .i64 2] 36):=⟨_,rfl⟩;rw [←hA8] at hd ⊢;obtain ⟨hd1,hd2⟩:=hd;obtain ⟨b8,hbk8⟩:∃ b,b=w8.heap.size:=⟨_,rfl⟩;rw [←hbk8] at hd2 ⊢;clear hA8 hbk8)
   | (have hd:=Xqc (fa8:=fa8) (fc8:=fc8) hb67 hb78 hrow8 hb67.size;obtain ⟨A8,hA8⟩:∃ V,V=(((((((((w8.setCell ⟨w7.heap.size,0,none⟩ (.slice fa8 0 fc8)).setCell ⟨w7.heap.size,1,none⟩ (.int .i64 4)).setCell ⟨w7.heap.size,2,none⟩ (.int .i64 0)).setCell ⟨w7.heap.size,3,none⟩ (.int .i64 0)).setCell ⟨w7.heap.size,4,none⟩ (.int .i64 9)).setCell ⟨w7.heap.size,5,none⟩ (.int .i64 0)).setCell ⟨w7.heap.size,6,none⟩ (.int .i64 0)).setCell ⟨w7.heap.size,7,none⟩ (.int .i64 0)).setCell ⟨w7.heap.size,8,none⟩ (.int .i64 2)):=⟨_,rfl⟩;rw [←hA8] at hd ⊢;obtain ⟨hd1,hd2⟩:=hd;obtain ⟨b8,hbk8⟩:∃ b,b=w7.heap.size:=⟨_,rfl⟩;rw [←hbk8] at hd2 ⊢;clear hA8 hbk8)
   | (have hd:=Xqc (fa8:=fa8) (fc8:=fc8) hb67 hb78 hrow8 (Nat.le_refl _);obtain ⟨A8,hA8⟩:∃ V,V=(((((((((w8.setCell ⟨A6.heap.size,0,none⟩ (.slice fa8 0 fc8)).setCell ⟨A6.heap.size,1,none⟩ (.int .i64 4)).setCell ⟨A6.heap.size,2,none⟩ (.int .i64 0)).setCell ⟨A6.heap.size,3,none⟩ (.int .i64 0)).setCell ⟨A6.heap.size,4,none⟩ (.int .i64 9)).setCell ⟨A6.heap.size,5,none⟩ (.int .i64 0)).setCell ⟨A6.heap.size,6,none⟩ (.int .i64 0)).setCell ⟨A6.heap.size,7,none⟩ (.int .i64 0)).setCell ⟨A6.heap.size,8,none⟩ (.int .i64 2)):=⟨_,rfl⟩;rw [←hA8] at hd ⊢;obtain ⟨hd1,hd2⟩:=hd;obtain ⟨b8,hbk8⟩:∃ b,b=A6.heap.size:=⟨_,rfl⟩;rw [←hbk8] at hd2 ⊢;clear hA8 hbk8)
  have HK2:=Lh (HK2.out.keep hd1)
  have HK4:=Lh (HK4.out.keep hd1)
  have HK6:=Lh (HK6.out.keep hd1)
  have HK8:=Lh hd2
  have HBA8:=Lh (HBA6.out.then hd1)
  have hAz8:=Bl (HK8.out 0 _ rfl)
  try clear hd1
  try clear hd2
  try clear zd
  try clear d0
  try clear d1
  try clear d2
  try clear d3
  try clear d4
  try clear d5
  try clear d6
  try clear d7
  try clear d8
  try clear fd0
  try clear fd1
  try clear fd2
  try clear fd3
  try clear fd4
  try clear fd5
  try clear fd6
  try clear fd7
  try clear fd8
  try clear hrow8
  try clear hrow7
  try clear hb78
  try clear hb8
  try clear hne7
  try clear hb67
  try clear hb7
  try clear hC7
  try clear q0
  try clear q1
  try clear q2
  try clear q3
  try clear q4
  try clear q5
  try clear q6
  try clear q7
  try clear q8
  try clear qd0
  try clear qd1
  try clear qd2
  try clear qd3
  try clear qd4
  try clear qd5
  try clear qd6
  try clear qd7
  try clear qd8
  try clear zq
  try clear hbd6
  try clear hneA
  go_wp2_with fail
  refine (Kl _).mono ?_
  rintro e w9 ⟨fa9,ga9,fc9,gc9,rfl,hC9,hb9⟩
  have HC9:=Lh hC9
  have HBT9:=Lh (HBA8.out.then hb9)
  have HK2:=Lh (HK2.out.keep hb9)
  have HK4:=Lh (HK4.out.keep hb9)
  have HK6:=Lh (HK6.out.keep hb9)
  have HK8:=Lh (HK8.out.keep hb9)
  clear hC9 hb9
  simp only [show exC.fields.length=0 from rfl,show exC.funcs.length=2 from rfl,show exC.globals=1 from rfl] at HC9 ⊢
  obtain ⟨V9,hV9⟩:∃ V,V=w9.alloc (.cells #[.int .i64 9] 3):=⟨_,rfl⟩
  have hVb9:Below w9.heap.size w9 V9:=by rw [hV9];exact Xa _ _
  have hVx9:V9.cell? ⟨w9.heap.size,0,none⟩=some (.int .i64 9):=by rw [hV9,Y5];rfl
  have HBV9:=Lh (HBT9.out.then hVb9)
  have HC9:=Lh ((HC9.out.below hVb9).up hVb9.size)
  have HK2:=Lh (HK2.out.keep hVb9)
  have HK4:=Lh (HK4.out.keep hVb9)
  have HK6:=Lh (HK6.out.keep hVb9)
  have HK8:=Lh (HK8.out.keep hVb9)
  have hVz9:=Bl hVx9
  have HVX9:=Lh hVx9
  go_wp2_with fail
  rw [←hV9]
  clear hV9 hVb9 hVx9
  refine (Xqo HP.out Xac Xpm Vp Xev Xkv Xm8 _ _ _ V9.heap.size V9 (HL.out.below HBV9.out) (Nat.le_refl _) HC9.out (Xpr HVX9.out hVz9) (Xky _ _)).mono ?_
  rintro e w10 ⟨ga10,na10,gn10,gc10,nn10,nc10,rfl,hb10⟩
  rw [show X8 (Ks.mk 0 9 0 0).fault (Ks.mk 0 9 0 0).value (Ks.mk 0 9 0 0).compares (Ks.mk 0 9 0 0).nodes=#[.int .i64 0,.int .i64 9,.int .i64 0,.int .i64 0,.int .i64 0] from rfl]
  have HBT10:=Lh (HBV9.out.then hb10)
  have HK2:=Lh (HK2.out.keep hb10)
  have HK4:=Lh (HK4.out.keep hb10)
  have HK6:=Lh (HK6.out.keep hb10)
  have HK8:=Lh (HK8.out.keep hb10)
  obtain ⟨A10,hA10⟩:∃ V,V=(w10.alloc (.cells #[.int .i64 0,.int .i64 9,.int .i64 0,.int .i64 0,.int .i64 0] 57)).alloc (.cells #[.slice ga10 gn10 gc10,.slice na10 nn10 nc10] 52):=⟨_,rfl⟩
  have hAb10:Below w10.heap.size w10 A10:=by rw [hA10];exact (Xa _ _).then (Xa _ _)
  have HK10:Hid (Xo A10 w10.heap.size [.int .i64 0,.int .i64 9,.int .i64 0,.int .i64 0,.int .i64 0]):=by rw [hA10];exact Lh (Xd.alloc _)
  have HBA10:=Lh (HBT10.out.then hAb10)
  have HK2:=Lh (HK2.out.keep hAb10)
  have HK4:=Lh (HK4.out.keep hAb10)
  have HK6:=Lh (HK6.out.keep hAb10)
  have HK8:=Lh (HK8.out.keep hAb10)
  go_upto_region 6 with fail
  rw [←hA10]
  clear hA10 hAb10 hb10
  have e21:=HK2.out 1 _ rfl
  have e22:=HK2.out 2 _ rfl
  have e23:=HK2.out 3 _ rfl
  have e24:=HK2.out 4 _ rfl
  have e25:=HK2.out 5 _ rfl
  have ze2:=Bl e21
  have e41:=HK4.out 1 _ rfl
  have e42:=HK4.out 2 _ rfl
  have e43:=HK4.out 3 _ rfl
  have e44:=HK4.out 4 _ rfl
  have e45:=HK4.out 5 _ rfl
  have ze4:=Bl e41
  have e61:=HK6.out 1 _ rfl
  have e62:=HK6.out 2 _ rfl
  have e63:=HK6.out 3 _ rfl
  have e64:=HK6.out 4 _ rfl
  have e65:=HK6.out 5 _ rfl
  have ze6:=Bl e61
  have e81:=HK8.out 1 _ rfl
  have e82:=HK8.out 2 _ rfl
  have e83:=HK8.out 3 _ rfl
  have e84:=HK8.out 4 _ rfl
  have e85:=HK8.out 5 _ rfl
  have ze8:=Bl e81
  have eo:=HK10.out 1 _ rfl
  have zeo:=Bl eo
  go_wp2_with fail
  go_ret
  exact ⟨rfl,HBA10.out⟩
theorem Jb.modest {c:Cod} (hs:Xv c) (hsm:Zb c) {g:Fra} {P:Ins→Prop} (h:Jb c g P):g.locals.length≤140737488355328∧g.stack.length≤140737488355328:=by
 obtain ⟨y,x,hh,hb,h1,hx,_,hr,hl⟩:=h
 have h2:=Qu (hs.wf hb.fn) (hs.snd hb.fn) hr
 have h3:=hsm y (List.mem_of_getElem? hb.fn)
 have h4:=((hs.wf hb.fn).pops x (List.mem_of_getElem? hx)).1
 have hfo:=hs.fok hb.fn
 unfold Zr at hfo
 have:=hb.loc
 omega
theorem Vr.modest {c:Cod} (hs:Xv c) (hsm:Zb c):∀ {l:List Fra} {k:Int},Vr c l k→∀ f∈l,f.locals.length≤140737488355328∧f.stack.length≤140737488355328
 | [],_,_,f,hf=>by simp at hf
 | g::r,k,h,f,hf=>by
  rw [List.mem_cons] at hf
  rcases hf with rfl|hf
  ·exact h.1.modest hs hsm
  ·exact Vr.modest hs hsm h.2 f hf
theorem Xa5 {m:Mch} (h:m.frames=[]):J6 m:=by
 unfold J6;rw [h];exact ⟨by simp,by simp⟩
theorem Qr.modest {c:Cod} (hs:Xv c) (hsm:Zb c) {m:Mch} {r:Rq} {fs:List Fra} {f:Fra} (h:Qr c m r fs f):J6 m:=by
 refine ⟨?_,fun g hg=>?_⟩
 ·rw [h.fr,List.length_append];have:=h.len;simp;omega
 ·rw [h.fr,List.mem_append,List.mem_singleton] at hg
  rcases hg with hg|rfl
  ·exact h.low.modest hs hsm g (List.mem_reverse.2 hg)
  ·exact h.top.modest hs hsm
theorem Us.modest {c:Cod} (hs:Xv c) (hsm:Zb c) {m:Mch} (h:Us c m):J6 m:=by
 rcases h.2 with ⟨_,_,_,h⟩|⟨_,_,_,h⟩|⟨fs,f,hw⟩
 ·exact Xa5 h
 ·exact Xa5 h
 ·exact hw.modest hs hsm
theorem Xgp (B:Nat) (w:World):Xf B w 4 (Qp B) (.slice none 0 0) []:=⟨none,0,rfl,by simp,by simp,by omega,.inl rfl⟩
theorem Xad (w:World):Calls Tryz.prog 11 #[.agg (Xb (.slice none 0 0) Xl)] w fun e w'=>e=.returned (.bool true)∧Below w.heap.size w w':=by
 obtain ⟨W,hW⟩:∃ W,W=w.alloc (.cells (Xb (.slice none 0 0) Xl) 36):=⟨_,rfl⟩
 have hWb:Hid (Below w.heap.size w W):=by rw [hW];exact Lh (Xa _ _)
 have b0:W.heap[w.heap.size]?=some (.cells (Xb (.slice none 0 0) Xl) 36 (0,0)):=by rw [hW];exact heap_alloc_new _ _
 have kk:∀ (j:Nat) (v:Value),(Xb (.slice none 0 0) Xl)[j]?=some v→W.cell? ⟨w.heap.size,j,none⟩=some v:=fun j v hv=>Xe b0 j v hv
 have k0:=kk 0 (.slice none 0 0) rfl
 have k1:=kk 1 (.int .i64 0) rfl
 have k2:=kk 2 (.int .i64 0) rfl
 have k3:=kk 3 (.int .i64 0) rfl
 have k4:=kk 4 (.int .i64 0) rfl
 have k5:=kk 5 (.int .i64 0) rfl
 have k6:=kk 6 (.int .i64 0) rfl
 have k7:=kk 7 (.int .i64 0) rfl
 have k8:=kk 8 (.int .i64 0) rfl
 have z0:=(La b0)
 clear b0 kk
 unfold Xb Xl at hW ⊢
 dsimp only at hW ⊢
 go_enter Tryz.func11,Tryz.ntmps11
 go_upto_region 1 with fail
 rw [←hW]
 clear hW
 go_wp2_with fail
 refine (Vj Xl (.slice none 0 0) (.slice none 0 0) 0 0 W (Nat.zero_le _) (Nat.zero_le _) (Xgp _ _) (Xgp _ _)).mono ?_
 rintro e w1 ⟨rfl,hb1⟩
 have HB1:=Lh (hWb.out.then hb1)
 clear hb1
 go_wp2_with fail
 go_ret
 exact ⟨rfl,HB1.out⟩
end Go.Proofs.YtbmeoklmachjpaaGreatDoor
