/- The contract of the runner's binary, instruction by instruction. MADE BY wip/gen_bin.py -/
import Derived.Test.YtbmeoklmachjpaaGreatDoorRun3
set_option maxHeartbeats 400000
set_option maxRecDepth 100000
set_option linter.unusedVariables false
set_option linter.unusedSimpArgs false
namespace Go.Proofs.YtbmeoklmachjpaaGreatDoor
open Go.RowKit
theorem Xp.notin {F F':List Nat} {w w':World} (h:Xp F F' w w') {n:Nat} (hn:n<w.heap.size) (hF:n∉F):n∉F':=fun e=>by
 rcases h.new n e with h1|h1
 ·exact hF h1
 ·omega
def Zk (op:Int):Int:=if 20≤op∧op≤23 then 1 else 0
/-- the error number of an instruction with two values; 0 if there is none -/
def Yb (op a b:Int):Int:=
 if op=15 then (if X1 (a+b) then 0 else 5) else if op=16 then (if X1 (a - b) then 0 else 5) else if op=17 then (if a.natAbs*b.natAbs≤1099511627776 then 0 else 5)
 else if op=18∨op=19 then (if b=0 then 18 else 0) else 0
/-- its result -/
def Qk (op a b:Int):Int:=
 if op=15 then a+b else if op=16 then a - b else if op=17 then a*b else if op=18 then a.tdiv b else if op=19 then a.tmod b
 else if op=20∨op=24 then b2i (a == b) else if op=21∨op=25 then b2i (a != b) else if op=22 then b2i (decide (a<b)) else if op=23 then b2i (decide (a≤b))
 else if op=27 then max a b else min a b
def Zv (op a b:Int) (w:World) (bm fb cap:Nat) (cs:List Value) (fs:List Fra) (f':Fra) (lv:Value) (m:Mch) (Fi Fl F:List Nat) (e:Ending) (w':World):Prop:=
 (Yb op a b=0∧e=.returned (.int .i64 (Qk op a b))∧Yz w bm fb cap cs fs f' lv { m with compares:=m.compares+Zk op } Fi Fl F w')∨
 (Yb op a b≠0∧Vg (X0 (Yb op a b)) w bm fb cap cs fs f' lv { m with compares:=m.compares+Zk op } Fi Fl F e w')
theorem tdm (a b:Int) (ha:-1099511627776≤a∧a≤1099511627776) (hb:-1099511627776≤b∧b≤1099511627776) (hz:b≠0):wrap64 (a.tdiv b)=a.tdiv b∧wrap64 (a.tmod b)=a.tmod b:=by
 have h1:(a.tdiv b).natAbs≤a.natAbs:=by rw [Int.natAbs_tdiv];exact Nat.div_le_self _ _
 have h2:(a.tmod b).natAbs≤a.natAbs:=by rw [Int.natAbs_tmod];exact Nat.mod_le _ _
 exact ⟨IntWalk.wrap64_in _ (by omega),IntWalk.wrap64_in _ (by omega)⟩
theorem Xrc {w:World} {bm fb cap:Nat} {cur:Array Value} {cs:List Value} {fs:List Fra} {f:Fra} {lv sv:Value} {m:Mch} {Fi Fl Fs:List Nat} (fa ga:Option Addr) (fn fc gn gc:Nat) (g:Int) (h:Xk w bm fb cap cur cs fs f lv sv m Fi Fl Fs) (hn:fs.length≤200) (l:List Int) (a b:Int) (hst:f.stack=l++[a]++[b])
  (ha:-1099511627776≤a∧a≤1099511627776) (hb:-1099511627776≤b∧b≤1099511627776) (hc:-1≤m.compares∧m.compares≤4611686018427387904) :
  Calls Tryz.prog 129 #[Yw (.slice fa fn fc) (.slice ga gn gc) g bm,.int .i64 15] w (Zv 15 a b w bm fb cap cs fs { f with stack:=l } lv m Fi Fl (bm::fb::(Fi++(Fl++Fs)))):=by
 have hbA:=Xa w (.cells #[.slice fa fn fc,.int .i64 g,.slice ga gn gc,.pointer (some ⟨bm,0,none⟩)] 134)
 have hlt:=Lh h.lt
 have hA:=Lh (h.keep hbA)
 have HS:=Lh hst
 clear hst h
 have hnot:w.heap.size∉bm::fb::(Fi++(Fl++Fs)):=fun e=>by have:=hlt.out _ e;omega
 unfold Yw
 go_enter Tryz.func129,Tryz.ntmps129
 go_wp2_with fail
 refine (X9 fa ga fn fc gn gc g hA.out hn (l++[a]) b HS.out).mono ?_
 rintro e w1 ⟨rfl,cur1,sv1,Fs1,hT1,hM1⟩
 have j0:=hM1.cell (Xd (w:=w) 0 _ rfl) hnot
 have j1:=hM1.cell (Xd (w:=w) 1 _ rfl) hnot
 have j2:=hM1.cell (Xd (w:=w) 2 _ rfl) hnot
 have j3:=hM1.cell (Xd (w:=w) 3 _ rfl) hnot
 have hnot1:=hM1.notin (by simp) hnot
 have HT1:=Lh hT1
 have HM1:=Lh hM1
 clear hT1 hM1
 go_wp2_with fail
 refine (X9 fa ga fn fc gn gc g HT1.out hn l a rfl).mono ?_
 rintro e w2 ⟨rfl,cur2,sv2,Fs2,hT2,hM2⟩
 have k0:=hM2.cell j0 hnot1
 have k1:=hM2.cell j1 hnot1
 have k2:=hM2.cell j2 hnot1
 have k3:=hM2.cell j3 hnot1
 have HT2:=Lh hT2
 have HM2:=Lh (((Xp.of_below hbA).trans HM1.out).trans hM2)
 have hm0:Hid (({ m with compares:=m.compares+Zk 15 }:Mch)=m):=by show _=_;simp [Zk]
 clear hT2 hM2 j0 j1 j2 j3 HT1 HM1
 cases hv:X1 (a+b) with
 | true=>
  have he:Hid (Yb 15 a b=0):=by show _=_;simp [Yb,hv]
  have HV:=Lh hv
  clear hv
  go_wp2_with fail
  refine (Vx fa ga fn fc gn gc g bm _ _ HV.out).mono ?_
  rintro e w3 ⟨rfl,hb3⟩
  go_wp2_with fail
  go_ret
  exact .inl ⟨he.out,rfl,by rw [hm0.out];exact Yz.then ⟨cur2,sv2,Fs2,HT2.out,HM2.out⟩ hb3⟩
 | false=>
  have he:Hid (Yb 15 a b=5):=by show _=_;simp [Yb,hv]
  have HV:=Lh hv
  clear hv
  go_wp2_with fail
  refine (Xds fa ga fn fc gn gc g bm _ _ HV.out).mono ?_
  rintro e w3 ⟨rfl,hb3⟩
  refine ⟨rfl,.inr ⟨by rw [he.out];decide,?_⟩⟩
  rw [he.out,hm0.out]
  exact ⟨rfl,Yz.then ⟨cur2,sv2,Fs2,HT2.out,HM2.out⟩ hb3⟩
theorem Xqx {w:World} {bm fb cap:Nat} {cur:Array Value} {cs:List Value} {fs:List Fra} {f:Fra} {lv sv:Value} {m:Mch} {Fi Fl Fs:List Nat} (fa ga:Option Addr) (fn fc gn gc:Nat) (g:Int) (h:Xk w bm fb cap cur cs fs f lv sv m Fi Fl Fs) (hn:fs.length≤200) (l:List Int) (a b:Int) (hst:f.stack=l++[a]++[b])
  (ha:-1099511627776≤a∧a≤1099511627776) (hb:-1099511627776≤b∧b≤1099511627776) (hc:-1≤m.compares∧m.compares≤4611686018427387904) :
  Calls Tryz.prog 129 #[Yw (.slice fa fn fc) (.slice ga gn gc) g bm,.int .i64 16] w (Zv 16 a b w bm fb cap cs fs { f with stack:=l } lv m Fi Fl (bm::fb::(Fi++(Fl++Fs)))):=by
 have hbA:=Xa w (.cells #[.slice fa fn fc,.int .i64 g,.slice ga gn gc,.pointer (some ⟨bm,0,none⟩)] 134)
 have hlt:=Lh h.lt
 have hA:=Lh (h.keep hbA)
 have HS:=Lh hst
 clear hst h
 have hnot:w.heap.size∉bm::fb::(Fi++(Fl++Fs)):=fun e=>by have:=hlt.out _ e;omega
 unfold Yw
 go_enter Tryz.func129,Tryz.ntmps129
 go_wp2_with fail
 refine (X9 fa ga fn fc gn gc g hA.out hn (l++[a]) b HS.out).mono ?_
 rintro e w1 ⟨rfl,cur1,sv1,Fs1,hT1,hM1⟩
 have j0:=hM1.cell (Xd (w:=w) 0 _ rfl) hnot
 have j1:=hM1.cell (Xd (w:=w) 1 _ rfl) hnot
 have j2:=hM1.cell (Xd (w:=w) 2 _ rfl) hnot
 have j3:=hM1.cell (Xd (w:=w) 3 _ rfl) hnot
 have hnot1:=hM1.notin (by simp) hnot
 have HT1:=Lh hT1
 have HM1:=Lh hM1
 clear hT1 hM1
 go_wp2_with fail
 refine (X9 fa ga fn fc gn gc g HT1.out hn l a rfl).mono ?_
 rintro e w2 ⟨rfl,cur2,sv2,Fs2,hT2,hM2⟩
 have k0:=hM2.cell j0 hnot1
 have k1:=hM2.cell j1 hnot1
 have k2:=hM2.cell j2 hnot1
 have k3:=hM2.cell j3 hnot1
 have HT2:=Lh hT2
 have HM2:=Lh (((Xp.of_below hbA).trans HM1.out).trans hM2)
 have hm0:Hid (({ m with compares:=m.compares+Zk 16 }:Mch)=m):=by show _=_;simp [Zk]
 clear hT2 hM2 j0 j1 j2 j3 HT1 HM1
 cases hv:X1 (a - b) with
 | true=>
  have he:Hid (Yb 16 a b=0):=by show _=_;simp [Yb,hv]
  have HV:=Lh hv
  clear hv
  go_wp2_with fail
  refine (Vx fa ga fn fc gn gc g bm _ _ HV.out).mono ?_
  rintro e w3 ⟨rfl,hb3⟩
  go_wp2_with fail
  go_ret
  exact .inl ⟨he.out,rfl,by rw [hm0.out];exact Yz.then ⟨cur2,sv2,Fs2,HT2.out,HM2.out⟩ hb3⟩
 | false=>
  have he:Hid (Yb 16 a b=5):=by show _=_;simp [Yb,hv]
  have HV:=Lh hv
  clear hv
  go_wp2_with fail
  refine (Xds fa ga fn fc gn gc g bm _ _ HV.out).mono ?_
  rintro e w3 ⟨rfl,hb3⟩
  refine ⟨rfl,.inr ⟨by rw [he.out];decide,?_⟩⟩
  rw [he.out,hm0.out]
  exact ⟨rfl,Yz.then ⟨cur2,sv2,Fs2,HT2.out,HM2.out⟩ hb3⟩
theorem Xqk {w:World} {bm fb cap:Nat} {cur:Array Value} {cs:List Value} {fs:List Fra} {f:Fra} {lv sv:Value} {m:Mch} {Fi Fl Fs:List Nat} (fa ga:Option Addr) (fn fc gn gc:Nat) (g:Int) (h:Xk w bm fb cap cur cs fs f lv sv m Fi Fl Fs) (hn:fs.length≤200) (l:List Int) (a b:Int) (hst:f.stack=l++[a]++[b])
  (ha:-1099511627776≤a∧a≤1099511627776) (hb:-1099511627776≤b∧b≤1099511627776) (hc:-1≤m.compares∧m.compares≤4611686018427387904) :
  Calls Tryz.prog 129 #[Yw (.slice fa fn fc) (.slice ga gn gc) g bm,.int .i64 17] w (Zv 17 a b w bm fb cap cs fs { f with stack:=l } lv m Fi Fl (bm::fb::(Fi++(Fl++Fs)))):=by
 have hbA:=Xa w (.cells #[.slice fa fn fc,.int .i64 g,.slice ga gn gc,.pointer (some ⟨bm,0,none⟩)] 134)
 have hlt:=Lh h.lt
 have hA:=Lh (h.keep hbA)
 have HS:=Lh hst
 clear hst h
 have hnot:w.heap.size∉bm::fb::(Fi++(Fl++Fs)):=fun e=>by have:=hlt.out _ e;omega
 unfold Yw
 go_enter Tryz.func129,Tryz.ntmps129
 go_wp2_with fail
 refine (X9 fa ga fn fc gn gc g hA.out hn (l++[a]) b HS.out).mono ?_
 rintro e w1 ⟨rfl,cur1,sv1,Fs1,hT1,hM1⟩
 have j0:=hM1.cell (Xd (w:=w) 0 _ rfl) hnot
 have j1:=hM1.cell (Xd (w:=w) 1 _ rfl) hnot
 have j2:=hM1.cell (Xd (w:=w) 2 _ rfl) hnot
 have j3:=hM1.cell (Xd (w:=w) 3 _ rfl) hnot
 have hnot1:=hM1.notin (by simp) hnot
 have HT1:=Lh hT1
 have HM1:=Lh hM1
 clear hT1 hM1
 go_wp2_with fail
 refine (X9 fa ga fn fc gn gc g HT1.out hn l a rfl).mono ?_
 rintro e w2 ⟨rfl,cur2,sv2,Fs2,hT2,hM2⟩
 have k0:=hM2.cell j0 hnot1
 have k1:=hM2.cell j1 hnot1
 have k2:=hM2.cell j2 hnot1
 have k3:=hM2.cell j3 hnot1
 have HT2:=Lh hT2
 have HM2:=Lh (((Xp.of_below hbA).trans HM1.out).trans hM2)
 have hm0:Hid (({ m with compares:=m.compares+Zk 17 }:Mch)=m):=by show _=_;simp [Zk]
 clear hT2 hM2 j0 j1 j2 j3 HT1 HM1
 by_cases hv:a.natAbs*b.natAbs≤1099511627776
 ·have he:Hid (Yb 17 a b=0):=by show _=_;simp [Yb,hv]
  have HV:=Lh hv
  clear hv
  go_wp2_with fail
  refine (Xmh fa ga fn fc gn gc g bm a b _ ha hb HV.out).mono ?_
  rintro e w3 ⟨rfl,hb3⟩
  go_wp2_with fail
  go_ret
  exact .inl ⟨he.out,rfl,by rw [hm0.out];exact Yz.then ⟨cur2,sv2,Fs2,HT2.out,HM2.out⟩ hb3⟩
 ·have he:Hid (Yb 17 a b=5):=by show _=_;simp [Yb,hv]
  have HV:=Lh hv
  clear hv
  go_wp2_with fail
  refine (Xn8 fa ga fn fc gn gc g bm a b _ ha hb (by have:=HV.out;omega)).mono ?_
  rintro e w3 ⟨rfl,hb3⟩
  refine ⟨rfl,.inr ⟨by rw [he.out];decide,?_⟩⟩
  rw [he.out,hm0.out]
  exact ⟨rfl,Yz.then ⟨cur2,sv2,Fs2,HT2.out,HM2.out⟩ hb3⟩
theorem Xrh {w:World} {bm fb cap:Nat} {cur:Array Value} {cs:List Value} {fs:List Fra} {f:Fra} {lv sv:Value} {m:Mch} {Fi Fl Fs:List Nat} (fa ga:Option Addr) (fn fc gn gc:Nat) (g:Int) (h:Xk w bm fb cap cur cs fs f lv sv m Fi Fl Fs) (hn:fs.length≤200) (l:List Int) (a b:Int) (hst:f.stack=l++[a]++[b])
  (ha:-1099511627776≤a∧a≤1099511627776) (hb:-1099511627776≤b∧b≤1099511627776) (hc:-1≤m.compares∧m.compares≤4611686018427387904) :
  Calls Tryz.prog 129 #[Yw (.slice fa fn fc) (.slice ga gn gc) g bm,.int .i64 18] w (Zv 18 a b w bm fb cap cs fs { f with stack:=l } lv m Fi Fl (bm::fb::(Fi++(Fl++Fs)))):=by
 have hbA:=Xa w (.cells #[.slice fa fn fc,.int .i64 g,.slice ga gn gc,.pointer (some ⟨bm,0,none⟩)] 134)
 have hlt:=Lh h.lt
 have hA:=Lh (h.keep hbA)
 have HS:=Lh hst
 clear hst h
 have hnot:w.heap.size∉bm::fb::(Fi++(Fl++Fs)):=fun e=>by have:=hlt.out _ e;omega
 unfold Yw
 go_enter Tryz.func129,Tryz.ntmps129
 go_wp2_with fail
 refine (X9 fa ga fn fc gn gc g hA.out hn (l++[a]) b HS.out).mono ?_
 rintro e w1 ⟨rfl,cur1,sv1,Fs1,hT1,hM1⟩
 have j0:=hM1.cell (Xd (w:=w) 0 _ rfl) hnot
 have j1:=hM1.cell (Xd (w:=w) 1 _ rfl) hnot
 have j2:=hM1.cell (Xd (w:=w) 2 _ rfl) hnot
 have j3:=hM1.cell (Xd (w:=w) 3 _ rfl) hnot
 have hnot1:=hM1.notin (by simp) hnot
 have HT1:=Lh hT1
 have HM1:=Lh hM1
 clear hT1 hM1
 go_wp2_with fail
 refine (X9 fa ga fn fc gn gc g HT1.out hn l a rfl).mono ?_
 rintro e w2 ⟨rfl,cur2,sv2,Fs2,hT2,hM2⟩
 have k0:=hM2.cell j0 hnot1
 have k1:=hM2.cell j1 hnot1
 have k2:=hM2.cell j2 hnot1
 have k3:=hM2.cell j3 hnot1
 have HT2:=Lh hT2
 have HM2:=Lh (((Xp.of_below hbA).trans HM1.out).trans hM2)
 have hm0:Hid (({ m with compares:=m.compares+Zk 18 }:Mch)=m):=by show _=_;simp [Zk]
 clear hT2 hM2 j0 j1 j2 j3 HT1 HM1
 by_cases hz:b=0
 ·have he:Hid (Yb 18 a b=18):=by show _=_;simp [Yb,hz]
  have hz':(b == 0)=true:=by rw [hz];rfl
  clear hz
  go_wp2_with fail
  refine (Jx fa ga fn fc gn gc g bm 18 _).mono ?_
  rintro e w3 ⟨rfl,hb3⟩
  refine ⟨rfl,.inr ⟨by rw [he.out];decide,?_⟩⟩
  rw [he.out,hm0.out]
  exact ⟨rfl,Yz.then ⟨cur2,sv2,Fs2,HT2.out,HM2.out⟩ hb3⟩
 ·have he:Hid (Yb 18 a b=0):=by show _=_;simp [Yb,hz]
  have hz':(b == 0)=false:=beq_eq_false_iff_ne.2 hz
  have hd:=tdm a b ha hb hz
  go_wp2_with fail
  go_ret
  exact .inl ⟨he.out,Qd (by unfold Qk;simp only [Int.reduceEq,or_false,if_false,if_true];try (first|rfl|exact hd.1|exact hd.2)),by rw [hm0.out];exact ⟨cur2,sv2,Fs2,HT2.out,HM2.out⟩⟩
theorem Xq6 {w:World} {bm fb cap:Nat} {cur:Array Value} {cs:List Value} {fs:List Fra} {f:Fra} {lv sv:Value} {m:Mch} {Fi Fl Fs:List Nat} (fa ga:Option Addr) (fn fc gn gc:Nat) (g:Int) (h:Xk w bm fb cap cur cs fs f lv sv m Fi Fl Fs) (hn:fs.length≤200) (l:List Int) (a b:Int) (hst:f.stack=l++[a]++[b])
  (ha:-1099511627776≤a∧a≤1099511627776) (hb:-1099511627776≤b∧b≤1099511627776) (hc:-1≤m.compares∧m.compares≤4611686018427387904) :
  Calls Tryz.prog 129 #[Yw (.slice fa fn fc) (.slice ga gn gc) g bm,.int .i64 19] w (Zv 19 a b w bm fb cap cs fs { f with stack:=l } lv m Fi Fl (bm::fb::(Fi++(Fl++Fs)))):=by
 have hbA:=Xa w (.cells #[.slice fa fn fc,.int .i64 g,.slice ga gn gc,.pointer (some ⟨bm,0,none⟩)] 134)
 have hlt:=Lh h.lt
 have hA:=Lh (h.keep hbA)
 have HS:=Lh hst
 clear hst h
 have hnot:w.heap.size∉bm::fb::(Fi++(Fl++Fs)):=fun e=>by have:=hlt.out _ e;omega
 unfold Yw
 go_enter Tryz.func129,Tryz.ntmps129
 go_wp2_with fail
 refine (X9 fa ga fn fc gn gc g hA.out hn (l++[a]) b HS.out).mono ?_
 rintro e w1 ⟨rfl,cur1,sv1,Fs1,hT1,hM1⟩
 have j0:=hM1.cell (Xd (w:=w) 0 _ rfl) hnot
 have j1:=hM1.cell (Xd (w:=w) 1 _ rfl) hnot
 have j2:=hM1.cell (Xd (w:=w) 2 _ rfl) hnot
 have j3:=hM1.cell (Xd (w:=w) 3 _ rfl) hnot
 have hnot1:=hM1.notin (by simp) hnot
 have HT1:=Lh hT1
 have HM1:=Lh hM1
 clear hT1 hM1
 go_wp2_with fail
 refine (X9 fa ga fn fc gn gc g HT1.out hn l a rfl).mono ?_
 rintro e w2 ⟨rfl,cur2,sv2,Fs2,hT2,hM2⟩
 have k0:=hM2.cell j0 hnot1
 have k1:=hM2.cell j1 hnot1
 have k2:=hM2.cell j2 hnot1
 have k3:=hM2.cell j3 hnot1
 have HT2:=Lh hT2
 have HM2:=Lh (((Xp.of_below hbA).trans HM1.out).trans hM2)
 have hm0:Hid (({ m with compares:=m.compares+Zk 19 }:Mch)=m):=by show _=_;simp [Zk]
 clear hT2 hM2 j0 j1 j2 j3 HT1 HM1
 by_cases hz:b=0
 ·have he:Hid (Yb 19 a b=18):=by show _=_;simp [Yb,hz]
  have hz':(b == 0)=true:=by rw [hz];rfl
  clear hz
  go_wp2_with fail
  refine (Jx fa ga fn fc gn gc g bm 18 _).mono ?_
  rintro e w3 ⟨rfl,hb3⟩
  refine ⟨rfl,.inr ⟨by rw [he.out];decide,?_⟩⟩
  rw [he.out,hm0.out]
  exact ⟨rfl,Yz.then ⟨cur2,sv2,Fs2,HT2.out,HM2.out⟩ hb3⟩
 ·have he:Hid (Yb 19 a b=0):=by show _=_;simp [Yb,hz]
  have hz':(b == 0)=false:=beq_eq_false_iff_ne.2 hz
  have hd:=tdm a b ha hb hz
  go_wp2_with fail
  go_ret
  exact .inl ⟨he.out,Qd (by unfold Qk;simp only [Int.reduceEq,or_false,if_false,if_true];try (first|rfl|exact hd.1|exact hd.2)),by rw [hm0.out];exact ⟨cur2,sv2,Fs2,HT2.out,HM2.out⟩⟩
theorem Xqz {w:World} {bm fb cap:Nat} {cur:Array Value} {cs:List Value} {fs:List Fra} {f:Fra} {lv sv:Value} {m:Mch} {Fi Fl Fs:List Nat} (fa ga:Option Addr) (fn fc gn gc:Nat) (g:Int) (h:Xk w bm fb cap cur cs fs f lv sv m Fi Fl Fs) (hn:fs.length≤200) (l:List Int) (a b:Int) (hst:f.stack=l++[a]++[b])
  (ha:-1099511627776≤a∧a≤1099511627776) (hb:-1099511627776≤b∧b≤1099511627776) (hc:-1≤m.compares∧m.compares≤4611686018427387904) :
  Calls Tryz.prog 129 #[Yw (.slice fa fn fc) (.slice ga gn gc) g bm,.int .i64 20] w (Zv 20 a b w bm fb cap cs fs { f with stack:=l } lv m Fi Fl (bm::fb::(Fi++(Fl++Fs)))):=by
 have hbA:=Xa w (.cells #[.slice fa fn fc,.int .i64 g,.slice ga gn gc,.pointer (some ⟨bm,0,none⟩)] 134)
 have hlt:=Lh h.lt
 have hA:=Lh (h.keep hbA)
 have HS:=Lh hst
 clear hst h
 have hnot:w.heap.size∉bm::fb::(Fi++(Fl++Fs)):=fun e=>by have:=hlt.out _ e;omega
 unfold Yw
 go_enter Tryz.func129,Tryz.ntmps129
 go_wp2_with fail
 refine (X9 fa ga fn fc gn gc g hA.out hn (l++[a]) b HS.out).mono ?_
 rintro e w1 ⟨rfl,cur1,sv1,Fs1,hT1,hM1⟩
 have j0:=hM1.cell (Xd (w:=w) 0 _ rfl) hnot
 have j1:=hM1.cell (Xd (w:=w) 1 _ rfl) hnot
 have j2:=hM1.cell (Xd (w:=w) 2 _ rfl) hnot
 have j3:=hM1.cell (Xd (w:=w) 3 _ rfl) hnot
 have hnot1:=hM1.notin (by simp) hnot
 have HT1:=Lh hT1
 have HM1:=Lh hM1
 clear hT1 hM1
 go_wp2_with fail
 refine (X9 fa ga fn fc gn gc g HT1.out hn l a rfl).mono ?_
 rintro e w2 ⟨rfl,cur2,sv2,Fs2,hT2,hM2⟩
 have k0:=hM2.cell j0 hnot1
 have k1:=hM2.cell j1 hnot1
 have k2:=hM2.cell j2 hnot1
 have k3:=hM2.cell j3 hnot1
 have HT2:=Lh hT2
 have HM2:=Lh (((Xp.of_below hbA).trans HM1.out).trans hM2)
 have hm0:Hid (({ m with compares:=m.compares+Zk 20 }:Mch)={ m with compares:=m.compares+1 }):=by show _=_;simp [Zk]
 clear hT2 hM2 j0 j1 j2 j3 HT1 HM1
 have cC:=HT2.out.cCompares
 have frC:=HT2.out.frm 7
 have hP:=Kw (m':={ m with compares:=m.compares+1 }) HT2.out (Below.refl _ _) 7 (.int .i64 (m.compares+1)) rfl
 have hbmne:w.heap.size≠bm:=fun e=>hnot (by simp [e])
 have HP:=Lh hP
 clear hP
 go_wp2_with fail
 refine (Ka _ _).mono ?_
 rintro e w3 ⟨rfl,rfl⟩
 go_wp2_with fail
 go_ret
 exact .inl ⟨by simp [Yb],Qd (by simp [Qk]),by rw [hm0.out];exact ⟨cur2,sv2,Fs2,HP.out.1,HM2.out.trans HP.out.2⟩⟩
theorem Xqy {w:World} {bm fb cap:Nat} {cur:Array Value} {cs:List Value} {fs:List Fra} {f:Fra} {lv sv:Value} {m:Mch} {Fi Fl Fs:List Nat} (fa ga:Option Addr) (fn fc gn gc:Nat) (g:Int) (h:Xk w bm fb cap cur cs fs f lv sv m Fi Fl Fs) (hn:fs.length≤200) (l:List Int) (a b:Int) (hst:f.stack=l++[a]++[b])
  (ha:-1099511627776≤a∧a≤1099511627776) (hb:-1099511627776≤b∧b≤1099511627776) (hc:-1≤m.compares∧m.compares≤4611686018427387904) :
  Calls Tryz.prog 129 #[Yw (.slice fa fn fc) (.slice ga gn gc) g bm,.int .i64 21] w (Zv 21 a b w bm fb cap cs fs { f with stack:=l } lv m Fi Fl (bm::fb::(Fi++(Fl++Fs)))):=by
 have hbA:=Xa w (.cells #[.slice fa fn fc,.int .i64 g,.slice ga gn gc,.pointer (some ⟨bm,0,none⟩)] 134)
 have hlt:=Lh h.lt
 have hA:=Lh (h.keep hbA)
 have HS:=Lh hst
 clear hst h
 have hnot:w.heap.size∉bm::fb::(Fi++(Fl++Fs)):=fun e=>by have:=hlt.out _ e;omega
 unfold Yw
 go_enter Tryz.func129,Tryz.ntmps129
 go_wp2_with fail
 refine (X9 fa ga fn fc gn gc g hA.out hn (l++[a]) b HS.out).mono ?_
 rintro e w1 ⟨rfl,cur1,sv1,Fs1,hT1,hM1⟩
 have j0:=hM1.cell (Xd (w:=w) 0 _ rfl) hnot
 have j1:=hM1.cell (Xd (w:=w) 1 _ rfl) hnot
 have j2:=hM1.cell (Xd (w:=w) 2 _ rfl) hnot
 have j3:=hM1.cell (Xd (w:=w) 3 _ rfl) hnot
 have hnot1:=hM1.notin (by simp) hnot
 have HT1:=Lh hT1
 have HM1:=Lh hM1
 clear hT1 hM1
 go_wp2_with fail
 refine (X9 fa ga fn fc gn gc g HT1.out hn l a rfl).mono ?_
 rintro e w2 ⟨rfl,cur2,sv2,Fs2,hT2,hM2⟩
 have k0:=hM2.cell j0 hnot1
 have k1:=hM2.cell j1 hnot1
 have k2:=hM2.cell j2 hnot1
 have k3:=hM2.cell j3 hnot1
 have HT2:=Lh hT2
 have HM2:=Lh (((Xp.of_below hbA).trans HM1.out).trans hM2)
 have hm0:Hid (({ m with compares:=m.compares+Zk 21 }:Mch)={ m with compares:=m.compares+1 }):=by show _=_;simp [Zk]
 clear hT2 hM2 j0 j1 j2 j3 HT1 HM1
 have cC:=HT2.out.cCompares
 have frC:=HT2.out.frm 7
 have hP:=Kw (m':={ m with compares:=m.compares+1 }) HT2.out (Below.refl _ _) 7 (.int .i64 (m.compares+1)) rfl
 have hbmne:w.heap.size≠bm:=fun e=>hnot (by simp [e])
 have HP:=Lh hP
 clear hP
 go_wp2_with fail
 refine (Ka _ _).mono ?_
 rintro e w3 ⟨rfl,rfl⟩
 go_wp2_with fail
 go_ret
 exact .inl ⟨by simp [Yb],Qd (by simp [Qk]),by rw [hm0.out];exact ⟨cur2,sv2,Fs2,HP.out.1,HM2.out.trans HP.out.2⟩⟩
theorem Xrf {w:World} {bm fb cap:Nat} {cur:Array Value} {cs:List Value} {fs:List Fra} {f:Fra} {lv sv:Value} {m:Mch} {Fi Fl Fs:List Nat} (fa ga:Option Addr) (fn fc gn gc:Nat) (g:Int) (h:Xk w bm fb cap cur cs fs f lv sv m Fi Fl Fs) (hn:fs.length≤200) (l:List Int) (a b:Int) (hst:f.stack=l++[a]++[b])
  (ha:-1099511627776≤a∧a≤1099511627776) (hb:-1099511627776≤b∧b≤1099511627776) (hc:-1≤m.compares∧m.compares≤4611686018427387904) :
  Calls Tryz.prog 129 #[Yw (.slice fa fn fc) (.slice ga gn gc) g bm,.int .i64 22] w (Zv 22 a b w bm fb cap cs fs { f with stack:=l } lv m Fi Fl (bm::fb::(Fi++(Fl++Fs)))):=by
 have hbA:=Xa w (.cells #[.slice fa fn fc,.int .i64 g,.slice ga gn gc,.pointer (some ⟨bm,0,none⟩)] 134)
 have hlt:=Lh h.lt
 have hA:=Lh (h.keep hbA)
 have HS:=Lh hst
 clear hst h
 have hnot:w.heap.size∉bm::fb::(Fi++(Fl++Fs)):=fun e=>by have:=hlt.out _ e;omega
 unfold Yw
 go_enter Tryz.func129,Tryz.ntmps129
 go_wp2_with fail
 refine (X9 fa ga fn fc gn gc g hA.out hn (l++[a]) b HS.out).mono ?_
 rintro e w1 ⟨rfl,cur1,sv1,Fs1,hT1,hM1⟩
 have j0:=hM1.cell (Xd (w:=w) 0 _ rfl) hnot
 have j1:=hM1.cell (Xd (w:=w) 1 _ rfl) hnot
 have j2:=hM1.cell (Xd (w:=w) 2 _ rfl) hnot
 have j3:=hM1.cell (Xd (w:=w) 3 _ rfl) hnot
 have hnot1:=hM1.notin (by simp) hnot
 have HT1:=Lh hT1
 have HM1:=Lh hM1
 clear hT1 hM1
 go_wp2_with fail
 refine (X9 fa ga fn fc gn gc g HT1.out hn l a rfl).mono ?_
 rintro e w2 ⟨rfl,cur2,sv2,Fs2,hT2,hM2⟩
 have k0:=hM2.cell j0 hnot1
 have k1:=hM2.cell j1 hnot1
 have k2:=hM2.cell j2 hnot1
 have k3:=hM2.cell j3 hnot1
 have HT2:=Lh hT2
 have HM2:=Lh (((Xp.of_below hbA).trans HM1.out).trans hM2)
 have hm0:Hid (({ m with compares:=m.compares+Zk 22 }:Mch)={ m with compares:=m.compares+1 }):=by show _=_;simp [Zk]
 clear hT2 hM2 j0 j1 j2 j3 HT1 HM1
 have cC:=HT2.out.cCompares
 have frC:=HT2.out.frm 7
 have hP:=Kw (m':={ m with compares:=m.compares+1 }) HT2.out (Below.refl _ _) 7 (.int .i64 (m.compares+1)) rfl
 have hbmne:w.heap.size≠bm:=fun e=>hnot (by simp [e])
 have HP:=Lh hP
 clear hP
 go_wp2_with fail
 refine (Ka _ _).mono ?_
 rintro e w3 ⟨rfl,rfl⟩
 go_wp2_with fail
 go_ret
 exact .inl ⟨by simp [Yb],Qd (by simp [Qk]),by rw [hm0.out];exact ⟨cur2,sv2,Fs2,HP.out.1,HM2.out.trans HP.out.2⟩⟩
theorem Xqv {w:World} {bm fb cap:Nat} {cur:Array Value} {cs:List Value} {fs:List Fra} {f:Fra} {lv sv:Value} {m:Mch} {Fi Fl Fs:List Nat} (fa ga:Option Addr) (fn fc gn gc:Nat) (g:Int) (h:Xk w bm fb cap cur cs fs f lv sv m Fi Fl Fs) (hn:fs.length≤200) (l:List Int) (a b:Int) (hst:f.stack=l++[a]++[b])
  (ha:-1099511627776≤a∧a≤1099511627776) (hb:-1099511627776≤b∧b≤1099511627776) (hc:-1≤m.compares∧m.compares≤4611686018427387904) :
  Calls Tryz.prog 129 #[Yw (.slice fa fn fc) (.slice ga gn gc) g bm,.int .i64 23] w (Zv 23 a b w bm fb cap cs fs { f with stack:=l } lv m Fi Fl (bm::fb::(Fi++(Fl++Fs)))):=by
 have hbA:=Xa w (.cells #[.slice fa fn fc,.int .i64 g,.slice ga gn gc,.pointer (some ⟨bm,0,none⟩)] 134)
 have hlt:=Lh h.lt
 have hA:=Lh (h.keep hbA)
 have HS:=Lh hst
 clear hst h
 have hnot:w.heap.size∉bm::fb::(Fi++(Fl++Fs)):=fun e=>by have:=hlt.out _ e;omega
 unfold Yw
 go_enter Tryz.func129,Tryz.ntmps129
 go_wp2_with fail
 refine (X9 fa ga fn fc gn gc g hA.out hn (l++[a]) b HS.out).mono ?_
 rintro e w1 ⟨rfl,cur1,sv1,Fs1,hT1,hM1⟩
 have j0:=hM1.cell (Xd (w:=w) 0 _ rfl) hnot
 have j1:=hM1.cell (Xd (w:=w) 1 _ rfl) hnot
 have j2:=hM1.cell (Xd (w:=w) 2 _ rfl) hnot
 have j3:=hM1.cell (Xd (w:=w) 3 _ rfl) hnot
 have hnot1:=hM1.notin (by simp) hnot
 have HT1:=Lh hT1
 have HM1:=Lh hM1
 clear hT1 hM1
 go_wp2_with fail
 refine (X9 fa ga fn fc gn gc g HT1.out hn l a rfl).mono ?_
 rintro e w2 ⟨rfl,cur2,sv2,Fs2,hT2,hM2⟩
 have k0:=hM2.cell j0 hnot1
 have k1:=hM2.cell j1 hnot1
 have k2:=hM2.cell j2 hnot1
 have k3:=hM2.cell j3 hnot1
 have HT2:=Lh hT2
 have HM2:=Lh (((Xp.of_below hbA).trans HM1.out).trans hM2)
 have hm0:Hid (({ m with compares:=m.compares+Zk 23 }:Mch)={ m with compares:=m.compares+1 }):=by show _=_;simp [Zk]
 clear hT2 hM2 j0 j1 j2 j3 HT1 HM1
 have cC:=HT2.out.cCompares
 have frC:=HT2.out.frm 7
 have hP:=Kw (m':={ m with compares:=m.compares+1 }) HT2.out (Below.refl _ _) 7 (.int .i64 (m.compares+1)) rfl
 have hbmne:w.heap.size≠bm:=fun e=>hnot (by simp [e])
 have HP:=Lh hP
 clear hP
 go_wp2_with fail
 refine (Ka _ _).mono ?_
 rintro e w3 ⟨rfl,rfl⟩
 go_wp2_with fail
 go_ret
 exact .inl ⟨by simp [Yb],Qd (by simp [Qk]),by rw [hm0.out];exact ⟨cur2,sv2,Fs2,HP.out.1,HM2.out.trans HP.out.2⟩⟩
theorem Xq2 {w:World} {bm fb cap:Nat} {cur:Array Value} {cs:List Value} {fs:List Fra} {f:Fra} {lv sv:Value} {m:Mch} {Fi Fl Fs:List Nat} (fa ga:Option Addr) (fn fc gn gc:Nat) (g:Int) (h:Xk w bm fb cap cur cs fs f lv sv m Fi Fl Fs) (hn:fs.length≤200) (l:List Int) (a b:Int) (hst:f.stack=l++[a]++[b])
  (ha:-1099511627776≤a∧a≤1099511627776) (hb:-1099511627776≤b∧b≤1099511627776) (hc:-1≤m.compares∧m.compares≤4611686018427387904) :
  Calls Tryz.prog 129 #[Yw (.slice fa fn fc) (.slice ga gn gc) g bm,.int .i64 24] w (Zv 24 a b w bm fb cap cs fs { f with stack:=l } lv m Fi Fl (bm::fb::(Fi++(Fl++Fs)))):=by
 have hbA:=Xa w (.cells #[.slice fa fn fc,.int .i64 g,.slice ga gn gc,.pointer (some ⟨bm,0,none⟩)] 134)
 have hlt:=Lh h.lt
 have hA:=Lh (h.keep hbA)
 have HS:=Lh hst
 clear hst h
 have hnot:w.heap.size∉bm::fb::(Fi++(Fl++Fs)):=fun e=>by have:=hlt.out _ e;omega
 unfold Yw
 go_enter Tryz.func129,Tryz.ntmps129
 go_wp2_with fail
 refine (X9 fa ga fn fc gn gc g hA.out hn (l++[a]) b HS.out).mono ?_
 rintro e w1 ⟨rfl,cur1,sv1,Fs1,hT1,hM1⟩
 have j0:=hM1.cell (Xd (w:=w) 0 _ rfl) hnot
 have j1:=hM1.cell (Xd (w:=w) 1 _ rfl) hnot
 have j2:=hM1.cell (Xd (w:=w) 2 _ rfl) hnot
 have j3:=hM1.cell (Xd (w:=w) 3 _ rfl) hnot
 have hnot1:=hM1.notin (by simp) hnot
 have HT1:=Lh hT1
 have HM1:=Lh hM1
 clear hT1 hM1
 go_wp2_with fail
 refine (X9 fa ga fn fc gn gc g HT1.out hn l a rfl).mono ?_
 rintro e w2 ⟨rfl,cur2,sv2,Fs2,hT2,hM2⟩
 have k0:=hM2.cell j0 hnot1
 have k1:=hM2.cell j1 hnot1
 have k2:=hM2.cell j2 hnot1
 have k3:=hM2.cell j3 hnot1
 have HT2:=Lh hT2
 have HM2:=Lh (((Xp.of_below hbA).trans HM1.out).trans hM2)
 have hm0:Hid (({ m with compares:=m.compares+Zk 24 }:Mch)=m):=by show _=_;simp [Zk]
 clear hT2 hM2 j0 j1 j2 j3 HT1 HM1
 go_wp2_with fail
 refine (Ka _ _).mono ?_
 rintro e w3 ⟨rfl,rfl⟩
 go_wp2_with fail
 go_ret
 exact .inl ⟨by simp [Yb],Qd (by simp [Qk]),by rw [hm0.out];exact ⟨cur2,sv2,Fs2,HT2.out,HM2.out⟩⟩
theorem Xqp {w:World} {bm fb cap:Nat} {cur:Array Value} {cs:List Value} {fs:List Fra} {f:Fra} {lv sv:Value} {m:Mch} {Fi Fl Fs:List Nat} (fa ga:Option Addr) (fn fc gn gc:Nat) (g:Int) (h:Xk w bm fb cap cur cs fs f lv sv m Fi Fl Fs) (hn:fs.length≤200) (l:List Int) (a b:Int) (hst:f.stack=l++[a]++[b])
  (ha:-1099511627776≤a∧a≤1099511627776) (hb:-1099511627776≤b∧b≤1099511627776) (hc:-1≤m.compares∧m.compares≤4611686018427387904) :
  Calls Tryz.prog 129 #[Yw (.slice fa fn fc) (.slice ga gn gc) g bm,.int .i64 25] w (Zv 25 a b w bm fb cap cs fs { f with stack:=l } lv m Fi Fl (bm::fb::(Fi++(Fl++Fs)))):=by
 have hbA:=Xa w (.cells #[.slice fa fn fc,.int .i64 g,.slice ga gn gc,.pointer (some ⟨bm,0,none⟩)] 134)
 have hlt:=Lh h.lt
 have hA:=Lh (h.keep hbA)
 have HS:=Lh hst
 clear hst h
 have hnot:w.heap.size∉bm::fb::(Fi++(Fl++Fs)):=fun e=>by have:=hlt.out _ e;omega
 unfold Yw
 go_enter Tryz.func129,Tryz.ntmps129
 go_wp2_with fail
 refine (X9 fa ga fn fc gn gc g hA.out hn (l++[a]) b HS.out).mono ?_
 rintro e w1 ⟨rfl,cur1,sv1,Fs1,hT1,hM1⟩
 have j0:=hM1.cell (Xd (w:=w) 0 _ rfl) hnot
 have j1:=hM1.cell (Xd (w:=w) 1 _ rfl) hnot
 have j2:=hM1.cell (Xd (w:=w) 2 _ rfl) hnot
 have j3:=hM1.cell (Xd (w:=w) 3 _ rfl) hnot
 have hnot1:=hM1.notin (by simp) hnot
 have HT1:=Lh hT1
 have HM1:=Lh hM1
 clear hT1 hM1
 go_wp2_with fail
 refine (X9 fa ga fn fc gn gc g HT1.out hn l a rfl).mono ?_
 rintro e w2 ⟨rfl,cur2,sv2,Fs2,hT2,hM2⟩
 have k0:=hM2.cell j0 hnot1
 have k1:=hM2.cell j1 hnot1
 have k2:=hM2.cell j2 hnot1
 have k3:=hM2.cell j3 hnot1
 have HT2:=Lh hT2
 have HM2:=Lh (((Xp.of_below hbA).trans HM1.out).trans hM2)
 have hm0:Hid (({ m with compares:=m.compares+Zk 25 }:Mch)=m):=by show _=_;simp [Zk]
 clear hT2 hM2 j0 j1 j2 j3 HT1 HM1
 go_wp2_with fail
 refine (Ka _ _).mono ?_
 rintro e w3 ⟨rfl,rfl⟩
 go_wp2_with fail
 go_ret
 exact .inl ⟨by simp [Yb],Qd (by simp [Qk]),by rw [hm0.out];exact ⟨cur2,sv2,Fs2,HT2.out,HM2.out⟩⟩
theorem Xq5 {w:World} {bm fb cap:Nat} {cur:Array Value} {cs:List Value} {fs:List Fra} {f:Fra} {lv sv:Value} {m:Mch} {Fi Fl Fs:List Nat} (fa ga:Option Addr) (fn fc gn gc:Nat) (g:Int) (h:Xk w bm fb cap cur cs fs f lv sv m Fi Fl Fs) (hn:fs.length≤200) (l:List Int) (a b:Int) (hst:f.stack=l++[a]++[b])
  (ha:-1099511627776≤a∧a≤1099511627776) (hb:-1099511627776≤b∧b≤1099511627776) (hc:-1≤m.compares∧m.compares≤4611686018427387904) :
  Calls Tryz.prog 129 #[Yw (.slice fa fn fc) (.slice ga gn gc) g bm,.int .i64 27] w (Zv 27 a b w bm fb cap cs fs { f with stack:=l } lv m Fi Fl (bm::fb::(Fi++(Fl++Fs)))):=by
 have hbA:=Xa w (.cells #[.slice fa fn fc,.int .i64 g,.slice ga gn gc,.pointer (some ⟨bm,0,none⟩)] 134)
 have hlt:=Lh h.lt
 have hA:=Lh (h.keep hbA)
 have HS:=Lh hst
 clear hst h
 have hnot:w.heap.size∉bm::fb::(Fi++(Fl++Fs)):=fun e=>by have:=hlt.out _ e;omega
 unfold Yw
 go_enter Tryz.func129,Tryz.ntmps129
 go_wp2_with fail
 refine (X9 fa ga fn fc gn gc g hA.out hn (l++[a]) b HS.out).mono ?_
 rintro e w1 ⟨rfl,cur1,sv1,Fs1,hT1,hM1⟩
 have j0:=hM1.cell (Xd (w:=w) 0 _ rfl) hnot
 have j1:=hM1.cell (Xd (w:=w) 1 _ rfl) hnot
 have j2:=hM1.cell (Xd (w:=w) 2 _ rfl) hnot
 have j3:=hM1.cell (Xd (w:=w) 3 _ rfl) hnot
 have hnot1:=hM1.notin (by simp) hnot
 have HT1:=Lh hT1
 have HM1:=Lh hM1
 clear hT1 hM1
 go_wp2_with fail
 refine (X9 fa ga fn fc gn gc g HT1.out hn l a rfl).mono ?_
 rintro e w2 ⟨rfl,cur2,sv2,Fs2,hT2,hM2⟩
 have k0:=hM2.cell j0 hnot1
 have k1:=hM2.cell j1 hnot1
 have k2:=hM2.cell j2 hnot1
 have k3:=hM2.cell j3 hnot1
 have HT2:=Lh hT2
 have HM2:=Lh (((Xp.of_below hbA).trans HM1.out).trans hM2)
 have hm0:Hid (({ m with compares:=m.compares+Zk 27 }:Mch)=m):=by show _=_;simp [Zk]
 clear hT2 hM2 j0 j1 j2 j3 HT1 HM1
 go_wp2_with fail
 go_ret
 exact .inl ⟨by simp [Yb],Qd (by simp [Qk]),by rw [hm0.out];exact ⟨cur2,sv2,Fs2,HT2.out,HM2.out⟩⟩
theorem Xqn {w:World} {bm fb cap:Nat} {cur:Array Value} {cs:List Value} {fs:List Fra} {f:Fra} {lv sv:Value} {m:Mch} {Fi Fl Fs:List Nat} (fa ga:Option Addr) (fn fc gn gc:Nat) (g:Int) (h:Xk w bm fb cap cur cs fs f lv sv m Fi Fl Fs) (hn:fs.length≤200) (l:List Int) (a b:Int) (hst:f.stack=l++[a]++[b])
  (ha:-1099511627776≤a∧a≤1099511627776) (hb:-1099511627776≤b∧b≤1099511627776) (hc:-1≤m.compares∧m.compares≤4611686018427387904) :
  Calls Tryz.prog 129 #[Yw (.slice fa fn fc) (.slice ga gn gc) g bm,.int .i64 28] w (Zv 28 a b w bm fb cap cs fs { f with stack:=l } lv m Fi Fl (bm::fb::(Fi++(Fl++Fs)))):=by
 have hbA:=Xa w (.cells #[.slice fa fn fc,.int .i64 g,.slice ga gn gc,.pointer (some ⟨bm,0,none⟩)] 134)
 have hlt:=Lh h.lt
 have hA:=Lh (h.keep hbA)
 have HS:=Lh hst
 clear hst h
 have hnot:w.heap.size∉bm::fb::(Fi++(Fl++Fs)):=fun e=>by have:=hlt.out _ e;omega
 unfold Yw
 go_enter Tryz.func129,Tryz.ntmps129
 go_wp2_with fail
 refine (X9 fa ga fn fc gn gc g hA.out hn (l++[a]) b HS.out).mono ?_
 rintro e w1 ⟨rfl,cur1,sv1,Fs1,hT1,hM1⟩
 have j0:=hM1.cell (Xd (w:=w) 0 _ rfl) hnot
 have j1:=hM1.cell (Xd (w:=w) 1 _ rfl) hnot
 have j2:=hM1.cell (Xd (w:=w) 2 _ rfl) hnot
 have j3:=hM1.cell (Xd (w:=w) 3 _ rfl) hnot
 have hnot1:=hM1.notin (by simp) hnot
 have HT1:=Lh hT1
 have HM1:=Lh hM1
 clear hT1 hM1
 go_wp2_with fail
 refine (X9 fa ga fn fc gn gc g HT1.out hn l a rfl).mono ?_
 rintro e w2 ⟨rfl,cur2,sv2,Fs2,hT2,hM2⟩
 have k0:=hM2.cell j0 hnot1
 have k1:=hM2.cell j1 hnot1
 have k2:=hM2.cell j2 hnot1
 have k3:=hM2.cell j3 hnot1
 have HT2:=Lh hT2
 have HM2:=Lh (((Xp.of_below hbA).trans HM1.out).trans hM2)
 have hm0:Hid (({ m with compares:=m.compares+Zk 28 }:Mch)=m):=by show _=_;simp [Zk]
 clear hT2 hM2 j0 j1 j2 j3 HT1 HM1
 go_wp2_with fail
 go_ret
 exact .inl ⟨by simp [Yb],Qd (by simp [Qk]),by rw [hm0.out];exact ⟨cur2,sv2,Fs2,HT2.out,HM2.out⟩⟩
theorem Xdf (op:Int) (hop:Ya op) {w:World} {bm fb cap:Nat} {cur:Array Value} {cs:List Value} {fs:List Fra} {f:Fra} {lv sv:Value} {m:Mch} {Fi Fl Fs:List Nat} (fa ga:Option Addr) (fn fc gn gc:Nat) (g:Int) (h:Xk w bm fb cap cur cs fs f lv sv m Fi Fl Fs) (hn:fs.length≤200) (l:List Int) (a b:Int) (hst:f.stack=l++[a]++[b])
  (ha:-1099511627776≤a∧a≤1099511627776) (hb:-1099511627776≤b∧b≤1099511627776) (hc:-1≤m.compares∧m.compares≤4611686018427387904) :
  Calls Tryz.prog 129 #[Yw (.slice fa fn fc) (.slice ga gn gc) g bm,.int .i64 op] w (Zv op a b w bm fb cap cs fs { f with stack:=l } lv m Fi Fl (bm::fb::(Fi++(Fl++Fs)))):=by
 unfold Ya at hop
 have:op=15∨op=16∨op=17∨op=18∨op=19∨op=20∨op=21∨op=22∨op=23∨op=24∨op=25∨op=27∨op=28:=by omega
 rcases this with rfl|rfl|rfl|rfl|rfl|rfl|rfl|rfl|rfl|rfl|rfl|rfl|rfl
 ·exact Xrc fa ga fn fc gn gc g h hn l a b hst ha hb hc
 ·exact Xqx fa ga fn fc gn gc g h hn l a b hst ha hb hc
 ·exact Xqk fa ga fn fc gn gc g h hn l a b hst ha hb hc
 ·exact Xrh fa ga fn fc gn gc g h hn l a b hst ha hb hc
 ·exact Xq6 fa ga fn fc gn gc g h hn l a b hst ha hb hc
 ·exact Xqz fa ga fn fc gn gc g h hn l a b hst ha hb hc
 ·exact Xqy fa ga fn fc gn gc g h hn l a b hst ha hb hc
 ·exact Xrf fa ga fn fc gn gc g h hn l a b hst ha hb hc
 ·exact Xqv fa ga fn fc gn gc g h hn l a b hst ha hb hc
 ·exact Xq2 fa ga fn fc gn gc g h hn l a b hst ha hb hc
 ·exact Xqp fa ga fn fc gn gc g h hn l a b hst ha hb hc
 ·exact Xq5 fa ga fn fc gn gc g h hn l a b hst ha hb hc
 ·exact Xqn fa ga fn fc gn gc g h hn l a b hst ha hb hc
end Go.Proofs.YtbmeoklmachjpaaGreatDoor
