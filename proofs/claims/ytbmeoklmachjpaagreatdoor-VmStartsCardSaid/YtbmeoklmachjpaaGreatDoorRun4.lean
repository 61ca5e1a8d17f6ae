/- The contract of the runner's binary, instruction by instruction. MADE BY wip/gen_bin.py -/
import Derived.Test.YtbmeoklmachjpaaGreatDoorRun3
set_option maxHeartbeats 400000
set_option maxRecDepth 100000
set_option linter.unusedVariables false
set_option linter.unusedSimpArgs false
namespace Go.Proofs.YtbmeoklmachjpaaGreatDoor
open Go.RowKit
theorem Mods.notin {F F':List Nat} {w w':World} (h:Mods F F' w w') {n:Nat} (hn:n<w.heap.size) (hF:n∉F):n∉F':=fun e=>by
 rcases h.new n e with h1|h1
 ·exact hF h1
 ·omega
def cmp1 (op:Int):Int:=if 20≤op∧op≤23 then 1 else 0
/-- the error number of an instruction with two values; 0 if there is none -/
def binE (op a b:Int):Int:=
 if op=15 then (if isVal (a+b) then 0 else 5) else if op=16 then (if isVal (a - b) then 0 else 5) else if op=17 then (if a.natAbs*b.natAbs≤1099511627776 then 0 else 5)
 else if op=18∨op=19 then (if b=0 then 18 else 0) else 0
/-- its result -/
def binV (op a b:Int):Int:=
 if op=15 then a+b else if op=16 then a - b else if op=17 then a*b else if op=18 then a.tdiv b else if op=19 then a.tmod b
 else if op=20∨op=24 then b2i (a == b) else if op=21∨op=25 then b2i (a != b) else if op=22 then b2i (decide (a<b)) else if op=23 then b2i (decide (a≤b))
 else if op=27 then max a b else min a b
def BinPost (op a b:Int) (w:World) (bm fb cap:Nat) (cs:List Value) (fs:List Fra) (f':Fra) (lv:Value) (m:Mch) (Fi Fl F:List Nat) (e:Ending) (w':World):Prop:=
 (binE op a b=0∧e=.returned (.int .i64 (binV op a b))∧TopPost w bm fb cap cs fs f' lv { m with compares:=m.compares+cmp1 op } Fi Fl F w')∨
 (binE op a b≠0∧TopStop (failR (binE op a b)) w bm fb cap cs fs f' lv { m with compares:=m.compares+cmp1 op } Fi Fl F e w')
theorem tdm (a b:Int) (ha:-1099511627776≤a∧a≤1099511627776) (hb:-1099511627776≤b∧b≤1099511627776) (hz:b≠0):wrap64 (a.tdiv b)=a.tdiv b∧wrap64 (a.tmod b)=a.tmod b:=by
 have h1:(a.tdiv b).natAbs≤a.natAbs:=by rw [Int.natAbs_tdiv];exact Nat.div_le_self _ _
 have h2:(a.tmod b).natAbs≤a.natAbs:=by rw [Int.natAbs_tmod];exact Nat.mod_le _ _
 exact ⟨IntWalk.wrap64_in _ (by omega),IntWalk.wrap64_in _ (by omega)⟩
theorem bin_15 {w:World} {bm fb cap:Nat} {cur:Array Value} {cs:List Value} {fs:List Fra} {f:Fra} {lv sv:Value} {m:Mch} {Fi Fl Fs:List Nat} (fa ga:Option Addr) (fn fc gn gc:Nat) (g:Int) (h:TopOwn w bm fb cap cur cs fs f lv sv m Fi Fl Fs) (hn:fs.length≤200) (l:List Int) (a b:Int) (hst:f.stack=l++[a]++[b])
  (ha:-1099511627776≤a∧a≤1099511627776) (hb:-1099511627776≤b∧b≤1099511627776) (hc:-1≤m.compares∧m.compares≤4611686018427387904) :
  Calls Tryz.prog 129 #[runV (.slice fa fn fc) (.slice ga gn gc) g bm,.int .i64 15] w (BinPost 15 a b w bm fb cap cs fs { f with stack:=l } lv m Fi Fl (bm::fb::(Fi++(Fl++Fs)))):=by
 have hbA:=below_alloc w (.cells #[.slice fa fn fc,.int .i64 g,.slice ga gn gc,.pointer (some ⟨bm,0,none⟩)] 134)
 have hlt:=Lh h.lt
 have hA:=Lh (h.keep hbA)
 have HS:=Lh hst
 clear hst h
 have hnot:w.heap.size∉bm::fb::(Fi++(Fl++Fs)):=fun e=>by have:=hlt.out _ e;omega
 unfold runV
 go_enter Tryz.func129,Tryz.ntmps129
 go_wp2_with fail
 refine (pop_any fa ga fn fc gn gc g hA.out hn (l++[a]) b HS.out).mono ?_
 rintro e w1 ⟨rfl,cur1,sv1,Fs1,hT1,hM1⟩
 have j0:=hM1.cell (cells_new (w:=w) 0 _ rfl) hnot
 have j1:=hM1.cell (cells_new (w:=w) 1 _ rfl) hnot
 have j2:=hM1.cell (cells_new (w:=w) 2 _ rfl) hnot
 have j3:=hM1.cell (cells_new (w:=w) 3 _ rfl) hnot
 have hnot1:=hM1.notin (by simp) hnot
 have HT1:=Lh hT1
 have HM1:=Lh hM1
 clear hT1 hM1
 go_wp2_with fail
 refine (pop_any fa ga fn fc gn gc g HT1.out hn l a rfl).mono ?_
 rintro e w2 ⟨rfl,cur2,sv2,Fs2,hT2,hM2⟩
 have k0:=hM2.cell j0 hnot1
 have k1:=hM2.cell j1 hnot1
 have k2:=hM2.cell j2 hnot1
 have k3:=hM2.cell j3 hnot1
 have HT2:=Lh hT2
 have HM2:=Lh (((Mods.of_below hbA).trans HM1.out).trans hM2)
 have hm0:Hid (({ m with compares:=m.compares+cmp1 15 }:Mch)=m):=by show _=_;simp [cmp1]
 clear hT2 hM2 j0 j1 j2 j3 HT1 HM1
 cases hv:isVal (a+b) with
 | true=>
  have he:Hid (binE 15 a b=0):=by show _=_;simp [binE,hv]
  have HV:=Lh hv
  clear hv
  go_wp2_with fail
  refine (bounded_yes fa ga fn fc gn gc g bm _ _ HV.out).mono ?_
  rintro e w3 ⟨rfl,hb3⟩
  go_wp2_with fail
  go_ret
  exact .inl ⟨he.out,rfl,by rw [hm0.out];exact TopPost.then ⟨cur2,sv2,Fs2,HT2.out,HM2.out⟩ hb3⟩
 | false=>
  have he:Hid (binE 15 a b=5):=by show _=_;simp [binE,hv]
  have HV:=Lh hv
  clear hv
  go_wp2_with fail
  refine (bounded_no fa ga fn fc gn gc g bm _ _ HV.out).mono ?_
  rintro e w3 ⟨rfl,hb3⟩
  refine ⟨rfl,.inr ⟨by rw [he.out];decide,?_⟩⟩
  rw [he.out,hm0.out]
  exact ⟨rfl,TopPost.then ⟨cur2,sv2,Fs2,HT2.out,HM2.out⟩ hb3⟩
theorem bin_16 {w:World} {bm fb cap:Nat} {cur:Array Value} {cs:List Value} {fs:List Fra} {f:Fra} {lv sv:Value} {m:Mch} {Fi Fl Fs:List Nat} (fa ga:Option Addr) (fn fc gn gc:Nat) (g:Int) (h:TopOwn w bm fb cap cur cs fs f lv sv m Fi Fl Fs) (hn:fs.length≤200) (l:List Int) (a b:Int) (hst:f.stack=l++[a]++[b])
  (ha:-1099511627776≤a∧a≤1099511627776) (hb:-1099511627776≤b∧b≤1099511627776) (hc:-1≤m.compares∧m.compares≤4611686018427387904) :
  Calls Tryz.prog 129 #[runV (.slice fa fn fc) (.slice ga gn gc) g bm,.int .i64 16] w (BinPost 16 a b w bm fb cap cs fs { f with stack:=l } lv m Fi Fl (bm::fb::(Fi++(Fl++Fs)))):=by
 have hbA:=below_alloc w (.cells #[.slice fa fn fc,.int .i64 g,.slice ga gn gc,.pointer (some ⟨bm,0,none⟩)] 134)
 have hlt:=Lh h.lt
 have hA:=Lh (h.keep hbA)
 have HS:=Lh hst
 clear hst h
 have hnot:w.heap.size∉bm::fb::(Fi++(Fl++Fs)):=fun e=>by have:=hlt.out _ e;omega
 unfold runV
 go_enter Tryz.func129,Tryz.ntmps129
 go_wp2_with fail
 refine (pop_any fa ga fn fc gn gc g hA.out hn (l++[a]) b HS.out).mono ?_
 rintro e w1 ⟨rfl,cur1,sv1,Fs1,hT1,hM1⟩
 have j0:=hM1.cell (cells_new (w:=w) 0 _ rfl) hnot
 have j1:=hM1.cell (cells_new (w:=w) 1 _ rfl) hnot
 have j2:=hM1.cell (cells_new (w:=w) 2 _ rfl) hnot
 have j3:=hM1.cell (cells_new (w:=w) 3 _ rfl) hnot
 have hnot1:=hM1.notin (by simp) hnot
 have HT1:=Lh hT1
 have HM1:=Lh hM1
 clear hT1 hM1
 go_wp2_with fail
 refine (pop_any fa ga fn fc gn gc g HT1.out hn l a rfl).mono ?_
 rintro e w2 ⟨rfl,cur2,sv2,Fs2,hT2,hM2⟩
 have k0:=hM2.cell j0 hnot1
 have k1:=hM2.cell j1 hnot1
 have k2:=hM2.cell j2 hnot1
 have k3:=hM2.cell j3 hnot1
 have HT2:=Lh hT2
 have HM2:=Lh (((Mods.of_below hbA).trans HM1.out).trans hM2)
 have hm0:Hid (({ m with compares:=m.compares+cmp1 16 }:Mch)=m):=by show _=_;simp [cmp1]
 clear hT2 hM2 j0 j1 j2 j3 HT1 HM1
 cases hv:isVal (a - b) with
 | true=>
  have he:Hid (binE 16 a b=0):=by show _=_;simp [binE,hv]
  have HV:=Lh hv
  clear hv
  go_wp2_with fail
  refine (bounded_yes fa ga fn fc gn gc g bm _ _ HV.out).mono ?_
  rintro e w3 ⟨rfl,hb3⟩
  go_wp2_with fail
  go_ret
  exact .inl ⟨he.out,rfl,by rw [hm0.out];exact TopPost.then ⟨cur2,sv2,Fs2,HT2.out,HM2.out⟩ hb3⟩
 | false=>
  have he:Hid (binE 16 a b=5):=by show _=_;simp [binE,hv]
  have HV:=Lh hv
  clear hv
  go_wp2_with fail
  refine (bounded_no fa ga fn fc gn gc g bm _ _ HV.out).mono ?_
  rintro e w3 ⟨rfl,hb3⟩
  refine ⟨rfl,.inr ⟨by rw [he.out];decide,?_⟩⟩
  rw [he.out,hm0.out]
  exact ⟨rfl,TopPost.then ⟨cur2,sv2,Fs2,HT2.out,HM2.out⟩ hb3⟩
theorem bin_17 {w:World} {bm fb cap:Nat} {cur:Array Value} {cs:List Value} {fs:List Fra} {f:Fra} {lv sv:Value} {m:Mch} {Fi Fl Fs:List Nat} (fa ga:Option Addr) (fn fc gn gc:Nat) (g:Int) (h:TopOwn w bm fb cap cur cs fs f lv sv m Fi Fl Fs) (hn:fs.length≤200) (l:List Int) (a b:Int) (hst:f.stack=l++[a]++[b])
  (ha:-1099511627776≤a∧a≤1099511627776) (hb:-1099511627776≤b∧b≤1099511627776) (hc:-1≤m.compares∧m.compares≤4611686018427387904) :
  Calls Tryz.prog 129 #[runV (.slice fa fn fc) (.slice ga gn gc) g bm,.int .i64 17] w (BinPost 17 a b w bm fb cap cs fs { f with stack:=l } lv m Fi Fl (bm::fb::(Fi++(Fl++Fs)))):=by
 have hbA:=below_alloc w (.cells #[.slice fa fn fc,.int .i64 g,.slice ga gn gc,.pointer (some ⟨bm,0,none⟩)] 134)
 have hlt:=Lh h.lt
 have hA:=Lh (h.keep hbA)
 have HS:=Lh hst
 clear hst h
 have hnot:w.heap.size∉bm::fb::(Fi++(Fl++Fs)):=fun e=>by have:=hlt.out _ e;omega
 unfold runV
 go_enter Tryz.func129,Tryz.ntmps129
 go_wp2_with fail
 refine (pop_any fa ga fn fc gn gc g hA.out hn (l++[a]) b HS.out).mono ?_
 rintro e w1 ⟨rfl,cur1,sv1,Fs1,hT1,hM1⟩
 have j0:=hM1.cell (cells_new (w:=w) 0 _ rfl) hnot
 have j1:=hM1.cell (cells_new (w:=w) 1 _ rfl) hnot
 have j2:=hM1.cell (cells_new (w:=w) 2 _ rfl) hnot
 have j3:=hM1.cell (cells_new (w:=w) 3 _ rfl) hnot
 have hnot1:=hM1.notin (by simp) hnot
 have HT1:=Lh hT1
 have HM1:=Lh hM1
 clear hT1 hM1
 go_wp2_with fail
 refine (pop_any fa ga fn fc gn gc g HT1.out hn l a rfl).mono ?_
 rintro e w2 ⟨rfl,cur2,sv2,Fs2,hT2,hM2⟩
 have k0:=hM2.cell j0 hnot1
 have k1:=hM2.cell j1 hnot1
 have k2:=hM2.cell j2 hnot1
 have k3:=hM2.cell j3 hnot1
 have HT2:=Lh hT2
 have HM2:=Lh (((Mods.of_below hbA).trans HM1.out).trans hM2)
 have hm0:Hid (({ m with compares:=m.compares+cmp1 17 }:Mch)=m):=by show _=_;simp [cmp1]
 clear hT2 hM2 j0 j1 j2 j3 HT1 HM1
 by_cases hv:a.natAbs*b.natAbs≤1099511627776
 ·have he:Hid (binE 17 a b=0):=by show _=_;simp [binE,hv]
  have HV:=Lh hv
  clear hv
  go_wp2_with fail
  refine (times_yes fa ga fn fc gn gc g bm a b _ ha hb HV.out).mono ?_
  rintro e w3 ⟨rfl,hb3⟩
  go_wp2_with fail
  go_ret
  exact .inl ⟨he.out,rfl,by rw [hm0.out];exact TopPost.then ⟨cur2,sv2,Fs2,HT2.out,HM2.out⟩ hb3⟩
 ·have he:Hid (binE 17 a b=5):=by show _=_;simp [binE,hv]
  have HV:=Lh hv
  clear hv
  go_wp2_with fail
  refine (times_no fa ga fn fc gn gc g bm a b _ ha hb (by have:=HV.out;omega)).mono ?_
  rintro e w3 ⟨rfl,hb3⟩
  refine ⟨rfl,.inr ⟨by rw [he.out];decide,?_⟩⟩
  rw [he.out,hm0.out]
  exact ⟨rfl,TopPost.then ⟨cur2,sv2,Fs2,HT2.out,HM2.out⟩ hb3⟩
theorem bin_18 {w:World} {bm fb cap:Nat} {cur:Array Value} {cs:List Value} {fs:List Fra} {f:Fra} {lv sv:Value} {m:Mch} {Fi Fl Fs:List Nat} (fa ga:Option Addr) (fn fc gn gc:Nat) (g:Int) (h:TopOwn w bm fb cap cur cs fs f lv sv m Fi Fl Fs) (hn:fs.length≤200) (l:List Int) (a b:Int) (hst:f.stack=l++[a]++[b])
  (ha:-1099511627776≤a∧a≤1099511627776) (hb:-1099511627776≤b∧b≤1099511627776) (hc:-1≤m.compares∧m.compares≤4611686018427387904) :
  Calls Tryz.prog 129 #[runV (.slice fa fn fc) (.slice ga gn gc) g bm,.int .i64 18] w (BinPost 18 a b w bm fb cap cs fs { f with stack:=l } lv m Fi Fl (bm::fb::(Fi++(Fl++Fs)))):=by
 have hbA:=below_alloc w (.cells #[.slice fa fn fc,.int .i64 g,.slice ga gn gc,.pointer (some ⟨bm,0,none⟩)] 134)
 have hlt:=Lh h.lt
 have hA:=Lh (h.keep hbA)
 have HS:=Lh hst
 clear hst h
 have hnot:w.heap.size∉bm::fb::(Fi++(Fl++Fs)):=fun e=>by have:=hlt.out _ e;omega
 unfold runV
 go_enter Tryz.func129,Tryz.ntmps129
 go_wp2_with fail
 refine (pop_any fa ga fn fc gn gc g hA.out hn (l++[a]) b HS.out).mono ?_
 rintro e w1 ⟨rfl,cur1,sv1,Fs1,hT1,hM1⟩
 have j0:=hM1.cell (cells_new (w:=w) 0 _ rfl) hnot
 have j1:=hM1.cell (cells_new (w:=w) 1 _ rfl) hnot
 have j2:=hM1.cell (cells_new (w:=w) 2 _ rfl) hnot
 have j3:=hM1.cell (cells_new (w:=w) 3 _ rfl) hnot
 have hnot1:=hM1.notin (by simp) hnot
 have HT1:=Lh hT1
 have HM1:=Lh hM1
 clear hT1 hM1
 go_wp2_with fail
 refine (pop_any fa ga fn fc gn gc g HT1.out hn l a rfl).mono ?_
 rintro e w2 ⟨rfl,cur2,sv2,Fs2,hT2,hM2⟩
 have k0:=hM2.cell j0 hnot1
 have k1:=hM2.cell j1 hnot1
 have k2:=hM2.cell j2 hnot1
 have k3:=hM2.cell j3 hnot1
 have HT2:=Lh hT2
 have HM2:=Lh (((Mods.of_below hbA).trans HM1.out).trans hM2)
 have hm0:Hid (({ m with compares:=m.compares+cmp1 18 }:Mch)=m):=by show _=_;simp [cmp1]
 clear hT2 hM2 j0 j1 j2 j3 HT1 HM1
 by_cases hz:b=0
 ·have he:Hid (binE 18 a b=18):=by show _=_;simp [binE,hz]
  have hz':(b == 0)=true:=by rw [hz];rfl
  clear hz
  go_wp2_with fail
  refine (fail_any fa ga fn fc gn gc g bm 18 _).mono ?_
  rintro e w3 ⟨rfl,hb3⟩
  refine ⟨rfl,.inr ⟨by rw [he.out];decide,?_⟩⟩
  rw [he.out,hm0.out]
  exact ⟨rfl,TopPost.then ⟨cur2,sv2,Fs2,HT2.out,HM2.out⟩ hb3⟩
 ·have he:Hid (binE 18 a b=0):=by show _=_;simp [binE,hz]
  have hz':(b == 0)=false:=beq_eq_false_iff_ne.2 hz
  have hd:=tdm a b ha hb hz
  go_wp2_with fail
  go_ret
  exact .inl ⟨he.out,ret_int (by unfold binV;simp only [Int.reduceEq,or_false,if_false,if_true];try (first|rfl|exact hd.1|exact hd.2)),by rw [hm0.out];exact ⟨cur2,sv2,Fs2,HT2.out,HM2.out⟩⟩
theorem bin_19 {w:World} {bm fb cap:Nat} {cur:Array Value} {cs:List Value} {fs:List Fra} {f:Fra} {lv sv:Value} {m:Mch} {Fi Fl Fs:List Nat} (fa ga:Option Addr) (fn fc gn gc:Nat) (g:Int) (h:TopOwn w bm fb cap cur cs fs f lv sv m Fi Fl Fs) (hn:fs.length≤200) (l:List Int) (a b:Int) (hst:f.stack=l++[a]++[b])
  (ha:-1099511627776≤a∧a≤1099511627776) (hb:-1099511627776≤b∧b≤1099511627776) (hc:-1≤m.compares∧m.compares≤4611686018427387904) :
  Calls Tryz.prog 129 #[runV (.slice fa fn fc) (.slice ga gn gc) g bm,.int .i64 19] w (BinPost 19 a b w bm fb cap cs fs { f with stack:=l } lv m Fi Fl (bm::fb::(Fi++(Fl++Fs)))):=by
 have hbA:=below_alloc w (.cells #[.slice fa fn fc,.int .i64 g,.slice ga gn gc,.pointer (some ⟨bm,0,none⟩)] 134)
 have hlt:=Lh h.lt
 have hA:=Lh (h.keep hbA)
 have HS:=Lh hst
 clear hst h
 have hnot:w.heap.size∉bm::fb::(Fi++(Fl++Fs)):=fun e=>by have:=hlt.out _ e;omega
 unfold runV
 go_enter Tryz.func129,Tryz.ntmps129
 go_wp2_with fail
 refine (pop_any fa ga fn fc gn gc g hA.out hn (l++[a]) b HS.out).mono ?_
 rintro e w1 ⟨rfl,cur1,sv1,Fs1,hT1,hM1⟩
 have j0:=hM1.cell (cells_new (w:=w) 0 _ rfl) hnot
 have j1:=hM1.cell (cells_new (w:=w) 1 _ rfl) hnot
 have j2:=hM1.cell (cells_new (w:=w) 2 _ rfl) hnot
 have j3:=hM1.cell (cells_new (w:=w) 3 _ rfl) hnot
 have hnot1:=hM1.notin (by simp) hnot
 have HT1:=Lh hT1
 have HM1:=Lh hM1
 clear hT1 hM1
 go_wp2_with fail
 refine (pop_any fa ga fn fc gn gc g HT1.out hn l a rfl).mono ?_
 rintro e w2 ⟨rfl,cur2,sv2,Fs2,hT2,hM2⟩
 have k0:=hM2.cell j0 hnot1
 have k1:=hM2.cell j1 hnot1
 have k2:=hM2.cell j2 hnot1
 have k3:=hM2.cell j3 hnot1
 have HT2:=Lh hT2
 have HM2:=Lh (((Mods.of_below hbA).trans HM1.out).trans hM2)
 have hm0:Hid (({ m with compares:=m.compares+cmp1 19 }:Mch)=m):=by show _=_;simp [cmp1]
 clear hT2 hM2 j0 j1 j2 j3 HT1 HM1
 by_cases hz:b=0
 ·have he:Hid (binE 19 a b=18):=by show _=_;simp [binE,hz]
  have hz':(b == 0)=true:=by rw [hz];rfl
  clear hz
  go_wp2_with fail
  refine (fail_any fa ga fn fc gn gc g bm 18 _).mono ?_
  rintro e w3 ⟨rfl,hb3⟩
  refine ⟨rfl,.inr ⟨by rw [he.out];decide,?_⟩⟩
  rw [he.out,hm0.out]
  exact ⟨rfl,TopPost.then ⟨cur2,sv2,Fs2,HT2.out,HM2.out⟩ hb3⟩
 ·have he:Hid (binE 19 a b=0):=by show _=_;simp [binE,hz]
  have hz':(b == 0)=false:=beq_eq_false_iff_ne.2 hz
  have hd:=tdm a b ha hb hz
  go_wp2_with fail
  go_ret
  exact .inl ⟨he.out,ret_int (by unfold binV;simp only [Int.reduceEq,or_false,if_false,if_true];try (first|rfl|exact hd.1|exact hd.2)),by rw [hm0.out];exact ⟨cur2,sv2,Fs2,HT2.out,HM2.out⟩⟩
theorem bin_20 {w:World} {bm fb cap:Nat} {cur:Array Value} {cs:List Value} {fs:List Fra} {f:Fra} {lv sv:Value} {m:Mch} {Fi Fl Fs:List Nat} (fa ga:Option Addr) (fn fc gn gc:Nat) (g:Int) (h:TopOwn w bm fb cap cur cs fs f lv sv m Fi Fl Fs) (hn:fs.length≤200) (l:List Int) (a b:Int) (hst:f.stack=l++[a]++[b])
  (ha:-1099511627776≤a∧a≤1099511627776) (hb:-1099511627776≤b∧b≤1099511627776) (hc:-1≤m.compares∧m.compares≤4611686018427387904) :
  Calls Tryz.prog 129 #[runV (.slice fa fn fc) (.slice ga gn gc) g bm,.int .i64 20] w (BinPost 20 a b w bm fb cap cs fs { f with stack:=l } lv m Fi Fl (bm::fb::(Fi++(Fl++Fs)))):=by
 have hbA:=below_alloc w (.cells #[.slice fa fn fc,.int .i64 g,.slice ga gn gc,.pointer (some ⟨bm,0,none⟩)] 134)
 have hlt:=Lh h.lt
 have hA:=Lh (h.keep hbA)
 have HS:=Lh hst
 clear hst h
 have hnot:w.heap.size∉bm::fb::(Fi++(Fl++Fs)):=fun e=>by have:=hlt.out _ e;omega
 unfold runV
 go_enter Tryz.func129,Tryz.ntmps129
 go_wp2_with fail
 refine (pop_any fa ga fn fc gn gc g hA.out hn (l++[a]) b HS.out).mono ?_
 rintro e w1 ⟨rfl,cur1,sv1,Fs1,hT1,hM1⟩
 have j0:=hM1.cell (cells_new (w:=w) 0 _ rfl) hnot
 have j1:=hM1.cell (cells_new (w:=w) 1 _ rfl) hnot
 have j2:=hM1.cell (cells_new (w:=w) 2 _ rfl) hnot
 have j3:=hM1.cell (cells_new (w:=w) 3 _ rfl) hnot
 have hnot1:=hM1.notin (by simp) hnot
 have HT1:=Lh hT1
 have HM1:=Lh hM1
 clear hT1 hM1
 go_wp2_with fail
 refine (pop_any fa ga fn fc gn gc g HT1.out hn l a rfl).mono ?_
 rintro e w2 ⟨rfl,cur2,sv2,Fs2,hT2,hM2⟩
 have k0:=hM2.cell j0 hnot1
 have k1:=hM2.cell j1 hnot1
 have k2:=hM2.cell j2 hnot1
 have k3:=hM2.cell j3 hnot1
 have HT2:=Lh hT2
 have HM2:=Lh (((Mods.of_below hbA).trans HM1.out).trans hM2)
 have hm0:Hid (({ m with compares:=m.compares+cmp1 20 }:Mch)={ m with compares:=m.compares+1 }):=by show _=_;simp [cmp1]
 clear hT2 hM2 j0 j1 j2 j3 HT1 HM1
 have cC:=HT2.out.cCompares
 have frC:=HT2.out.frm 7
 have hP:=m_put (m':={ m with compares:=m.compares+1 }) HT2.out (Below.refl _ _) 7 (.int .i64 (m.compares+1)) rfl
 have hbmne:w.heap.size≠bm:=fun e=>hnot (by simp [e])
 have HP:=Lh hP
 clear hP
 go_wp2_with fail
 refine (truth_any _ _).mono ?_
 rintro e w3 ⟨rfl,rfl⟩
 go_wp2_with fail
 go_ret
 exact .inl ⟨by simp [binE],ret_int (by simp [binV]),by rw [hm0.out];exact ⟨cur2,sv2,Fs2,HP.out.1,HM2.out.trans HP.out.2⟩⟩
theorem bin_21 {w:World} {bm fb cap:Nat} {cur:Array Value} {cs:List Value} {fs:List Fra} {f:Fra} {lv sv:Value} {m:Mch} {Fi Fl Fs:List Nat} (fa ga:Option Addr) (fn fc gn gc:Nat) (g:Int) (h:TopOwn w bm fb cap cur cs fs f lv sv m Fi Fl Fs) (hn:fs.length≤200) (l:List Int) (a b:Int) (hst:f.stack=l++[a]++[b])
  (ha:-1099511627776≤a∧a≤1099511627776) (hb:-1099511627776≤b∧b≤1099511627776) (hc:-1≤m.compares∧m.compares≤4611686018427387904) :
  Calls Tryz.prog 129 #[runV (.slice fa fn fc) (.slice ga gn gc) g bm,.int .i64 21] w (BinPost 21 a b w bm fb cap cs fs { f with stack:=l } lv m Fi Fl (bm::fb::(Fi++(Fl++Fs)))):=by
 have hbA:=below_alloc w (.cells #[.slice fa fn fc,.int .i64 g,.slice ga gn gc,.pointer (some ⟨bm,0,none⟩)] 134)
 have hlt:=Lh h.lt
 have hA:=Lh (h.keep hbA)
 have HS:=Lh hst
 clear hst h
 have hnot:w.heap.size∉bm::fb::(Fi++(Fl++Fs)):=fun e=>by have:=hlt.out _ e;omega
 unfold runV
 go_enter Tryz.func129,Tryz.ntmps129
 go_wp2_with fail
 refine (pop_any fa ga fn fc gn gc g hA.out hn (l++[a]) b HS.out).mono ?_
 rintro e w1 ⟨rfl,cur1,sv1,Fs1,hT1,hM1⟩
 have j0:=hM1.cell (cells_new (w:=w) 0 _ rfl) hnot
 have j1:=hM1.cell (cells_new (w:=w) 1 _ rfl) hnot
 have j2:=hM1.cell (cells_new (w:=w) 2 _ rfl) hnot
 have j3:=hM1.cell (cells_new (w:=w) 3 _ rfl) hnot
 have hnot1:=hM1.notin (by simp) hnot
 have HT1:=Lh hT1
 have HM1:=Lh hM1
 clear hT1 hM1
 go_wp2_with fail
 refine (pop_any fa ga fn fc gn gc g HT1.out hn l a rfl).mono ?_
 rintro e w2 ⟨rfl,cur2,sv2,Fs2,hT2,hM2⟩
 have k0:=hM2.cell j0 hnot1
 have k1:=hM2.cell j1 hnot1
 have k2:=hM2.cell j2 hnot1
 have k3:=hM2.cell j3 hnot1
 have HT2:=Lh hT2
 have HM2:=Lh (((Mods.of_below hbA).trans HM1.out).trans hM2)
 have hm0:Hid (({ m with compares:=m.compares+cmp1 21 }:Mch)={ m with compares:=m.compares+1 }):=by show _=_;simp [cmp1]
 clear hT2 hM2 j0 j1 j2 j3 HT1 HM1
 have cC:=HT2.out.cCompares
 have frC:=HT2.out.frm 7
 have hP:=m_put (m':={ m with compares:=m.compares+1 }) HT2.out (Below.refl _ _) 7 (.int .i64 (m.compares+1)) rfl
 have hbmne:w.heap.size≠bm:=fun e=>hnot (by simp [e])
 have HP:=Lh hP
 clear hP
 go_wp2_with fail
 refine (truth_any _ _).mono ?_
 rintro e w3 ⟨rfl,rfl⟩
 go_wp2_with fail
 go_ret
 exact .inl ⟨by simp [binE],ret_int (by simp [binV]),by rw [hm0.out];exact ⟨cur2,sv2,Fs2,HP.out.1,HM2.out.trans HP.out.2⟩⟩
theorem bin_22 {w:World} {bm fb cap:Nat} {cur:Array Value} {cs:List Value} {fs:List Fra} {f:Fra} {lv sv:Value} {m:Mch} {Fi Fl Fs:List Nat} (fa ga:Option Addr) (fn fc gn gc:Nat) (g:Int) (h:TopOwn w bm fb cap cur cs fs f lv sv m Fi Fl Fs) (hn:fs.length≤200) (l:List Int) (a b:Int) (hst:f.stack=l++[a]++[b])
  (ha:-1099511627776≤a∧a≤1099511627776) (hb:-1099511627776≤b∧b≤1099511627776) (hc:-1≤m.compares∧m.compares≤4611686018427387904) :
  Calls Tryz.prog 129 #[runV (.slice fa fn fc) (.slice ga gn gc) g bm,.int .i64 22] w (BinPost 22 a b w bm fb cap cs fs { f with stack:=l } lv m Fi Fl (bm::fb::(Fi++(Fl++Fs)))):=by
 have hbA:=below_alloc w (.cells #[.slice fa fn fc,.int .i64 g,.slice ga gn gc,.pointer (some ⟨bm,0,none⟩)] 134)
 have hlt:=Lh h.lt
 have hA:=Lh (h.keep hbA)
 have HS:=Lh hst
 clear hst h
 have hnot:w.heap.size∉bm::fb::(Fi++(Fl++Fs)):=fun e=>by have:=hlt.out _ e;omega
 unfold runV
 go_enter Tryz.func129,Tryz.ntmps129
 go_wp2_with fail
 refine (pop_any fa ga fn fc gn gc g hA.out hn (l++[a]) b HS.out).mono ?_
 rintro e w1 ⟨rfl,cur1,sv1,Fs1,hT1,hM1⟩
 have j0:=hM1.cell (cells_new (w:=w) 0 _ rfl) hnot
 have j1:=hM1.cell (cells_new (w:=w) 1 _ rfl) hnot
 have j2:=hM1.cell (cells_new (w:=w) 2 _ rfl) hnot
 have j3:=hM1.cell (cells_new (w:=w) 3 _ rfl) hnot
 have hnot1:=hM1.notin (by simp) hnot
 have HT1:=Lh hT1
 have HM1:=Lh hM1
 clear hT1 hM1
 go_wp2_with fail
 refine (pop_any fa ga fn fc gn gc g HT1.out hn l a rfl).mono ?_
 rintro e w2 ⟨rfl,cur2,sv2,Fs2,hT2,hM2⟩
 have k0:=hM2.cell j0 hnot1
 have k1:=hM2.cell j1 hnot1
 have k2:=hM2.cell j2 hnot1
 have k3:=hM2.cell j3 hnot1
 have HT2:=Lh hT2
 have HM2:=Lh (((Mods.of_below hbA).trans HM1.out).trans hM2)
 have hm0:Hid (({ m with compares:=m.compares+cmp1 22 }:Mch)={ m with compares:=m.compares+1 }):=by show _=_;simp [cmp1]
 clear hT2 hM2 j0 j1 j2 j3 HT1 HM1
 have cC:=HT2.out.cCompares
 have frC:=HT2.out.frm 7
 have hP:=m_put (m':={ m with compares:=m.compares+1 }) HT2.out (Below.refl _ _) 7 (.int .i64 (m.compares+1)) rfl
 have hbmne:w.heap.size≠bm:=fun e=>hnot (by simp [e])
 have HP:=Lh hP
 clear hP
 go_wp2_with fail
 refine (truth_any _ _).mono ?_
 rintro e w3 ⟨rfl,rfl⟩
 go_wp2_with fail
 go_ret
 exact .inl ⟨by simp [binE],ret_int (by simp [binV]),by rw [hm0.out];exact ⟨cur2,sv2,Fs2,HP.out.1,HM2.out.trans HP.out.2⟩⟩
theorem bin_23 {w:World} {bm fb cap:Nat} {cur:Array Value} {cs:List Value} {fs:List Fra} {f:Fra} {lv sv:Value} {m:Mch} {Fi Fl Fs:List Nat} (fa ga:Option Addr) (fn fc gn gc:Nat) (g:Int) (h:TopOwn w bm fb cap cur cs fs f lv sv m Fi Fl Fs) (hn:fs.length≤200) (l:List Int) (a b:Int) (hst:f.stack=l++[a]++[b])
  (ha:-1099511627776≤a∧a≤1099511627776) (hb:-1099511627776≤b∧b≤1099511627776) (hc:-1≤m.compares∧m.compares≤4611686018427387904) :
  Calls Tryz.prog 129 #[runV (.slice fa fn fc) (.slice ga gn gc) g bm,.int .i64 23] w (BinPost 23 a b w bm fb cap cs fs { f with stack:=l } lv m Fi Fl (bm::fb::(Fi++(Fl++Fs)))):=by
 have hbA:=below_alloc w (.cells #[.slice fa fn fc,.int .i64 g,.slice ga gn gc,.pointer (some ⟨bm,0,none⟩)] 134)
 have hlt:=Lh h.lt
 have hA:=Lh (h.keep hbA)
 have HS:=Lh hst
 clear hst h
 have hnot:w.heap.size∉bm::fb::(Fi++(Fl++Fs)):=fun e=>by have:=hlt.out _ e;omega
 unfold runV
 go_enter Tryz.func129,Tryz.ntmps129
 go_wp2_with fail
 refine (pop_any fa ga fn fc gn gc g hA.out hn (l++[a]) b HS.out).mono ?_
 rintro e w1 ⟨rfl,cur1,sv1,Fs1,hT1,hM1⟩
 have j0:=hM1.cell (cells_new (w:=w) 0 _ rfl) hnot
 have j1:=hM1.cell (cells_new (w:=w) 1 _ rfl) hnot
 have j2:=hM1.cell (cells_new (w:=w) 2 _ rfl) hnot
 have j3:=hM1.cell (cells_new (w:=w) 3 _ rfl) hnot
 have hnot1:=hM1.notin (by simp) hnot
 have HT1:=Lh hT1
 have HM1:=Lh hM1
 clear hT1 hM1
 go_wp2_with fail
 refine (pop_any fa ga fn fc gn gc g HT1.out hn l a rfl).mono ?_
 rintro e w2 ⟨rfl,cur2,sv2,Fs2,hT2,hM2⟩
 have k0:=hM2.cell j0 hnot1
 have k1:=hM2.cell j1 hnot1
 have k2:=hM2.cell j2 hnot1
 have k3:=hM2.cell j3 hnot1
 have HT2:=Lh hT2
 have HM2:=Lh (((Mods.of_below hbA).trans HM1.out).trans hM2)
 have hm0:Hid (({ m with compares:=m.compares+cmp1 23 }:Mch)={ m with compares:=m.compares+1 }):=by show _=_;simp [cmp1]
 clear hT2 hM2 j0 j1 j2 j3 HT1 HM1
 have cC:=HT2.out.cCompares
 have frC:=HT2.out.frm 7
 have hP:=m_put (m':={ m with compares:=m.compares+1 }) HT2.out (Below.refl _ _) 7 (.int .i64 (m.compares+1)) rfl
 have hbmne:w.heap.size≠bm:=fun e=>hnot (by simp [e])
 have HP:=Lh hP
 clear hP
 go_wp2_with fail
 refine (truth_any _ _).mono ?_
 rintro e w3 ⟨rfl,rfl⟩
 go_wp2_with fail
 go_ret
 exact .inl ⟨by simp [binE],ret_int (by simp [binV]),by rw [hm0.out];exact ⟨cur2,sv2,Fs2,HP.out.1,HM2.out.trans HP.out.2⟩⟩
theorem bin_24 {w:World} {bm fb cap:Nat} {cur:Array Value} {cs:List Value} {fs:List Fra} {f:Fra} {lv sv:Value} {m:Mch} {Fi Fl Fs:List Nat} (fa ga:Option Addr) (fn fc gn gc:Nat) (g:Int) (h:TopOwn w bm fb cap cur cs fs f lv sv m Fi Fl Fs) (hn:fs.length≤200) (l:List Int) (a b:Int) (hst:f.stack=l++[a]++[b])
  (ha:-1099511627776≤a∧a≤1099511627776) (hb:-1099511627776≤b∧b≤1099511627776) (hc:-1≤m.compares∧m.compares≤4611686018427387904) :
  Calls Tryz.prog 129 #[runV (.slice fa fn fc) (.slice ga gn gc) g bm,.int .i64 24] w (BinPost 24 a b w bm fb cap cs fs { f with stack:=l } lv m Fi Fl (bm::fb::(Fi++(Fl++Fs)))):=by
 have hbA:=below_alloc w (.cells #[.slice fa fn fc,.int .i64 g,.slice ga gn gc,.pointer (some ⟨bm,0,none⟩)] 134)
 have hlt:=Lh h.lt
 have hA:=Lh (h.keep hbA)
 have HS:=Lh hst
 clear hst h
 have hnot:w.heap.size∉bm::fb::(Fi++(Fl++Fs)):=fun e=>by have:=hlt.out _ e;omega
 unfold runV
 go_enter Tryz.func129,Tryz.ntmps129
 go_wp2_with fail
 refine (pop_any fa ga fn fc gn gc g hA.out hn (l++[a]) b HS.out).mono ?_
 rintro e w1 ⟨rfl,cur1,sv1,Fs1,hT1,hM1⟩
 have j0:=hM1.cell (cells_new (w:=w) 0 _ rfl) hnot
 have j1:=hM1.cell (cells_new (w:=w) 1 _ rfl) hnot
 have j2:=hM1.cell (cells_new (w:=w) 2 _ rfl) hnot
 have j3:=hM1.cell (cells_new (w:=w) 3 _ rfl) hnot
 have hnot1:=hM1.notin (by simp) hnot
 have HT1:=Lh hT1
 have HM1:=Lh hM1
 clear hT1 hM1
 go_wp2_with fail
 refine (pop_any fa ga fn fc gn gc g HT1.out hn l a rfl).mono ?_
 rintro e w2 ⟨rfl,cur2,sv2,Fs2,hT2,hM2⟩
 have k0:=hM2.cell j0 hnot1
 have k1:=hM2.cell j1 hnot1
 have k2:=hM2.cell j2 hnot1
 have k3:=hM2.cell j3 hnot1
 have HT2:=Lh hT2
 have HM2:=Lh (((Mods.of_below hbA).trans HM1.out).trans hM2)
 have hm0:Hid (({ m with compares:=m.compares+cmp1 24 }:Mch)=m):=by show _=_;simp [cmp1]
 clear hT2 hM2 j0 j1 j2 j3 HT1 HM1
 go_wp2_with fail
 refine (truth_any _ _).mono ?_
 rintro e w3 ⟨rfl,rfl⟩
 go_wp2_with fail
 go_ret
 exact .inl ⟨by simp [binE],ret_int (by simp [binV]),by rw [hm0.out];exact ⟨cur2,sv2,Fs2,HT2.out,HM2.out⟩⟩
theorem bin_25 {w:World} {bm fb cap:Nat} {cur:Array Value} {cs:List Value} {fs:List Fra} {f:Fra} {lv sv:Value} {m:Mch} {Fi Fl Fs:List Nat} (fa ga:Option Addr) (fn fc gn gc:Nat) (g:Int) (h:TopOwn w bm fb cap cur cs fs f lv sv m Fi Fl Fs) (hn:fs.length≤200) (l:List Int) (a b:Int) (hst:f.stack=l++[a]++[b])
  (ha:-1099511627776≤a∧a≤1099511627776) (hb:-1099511627776≤b∧b≤1099511627776) (hc:-1≤m.compares∧m.compares≤4611686018427387904) :
  Calls Tryz.prog 129 #[runV (.slice fa fn fc) (.slice ga gn gc) g bm,.int .i64 25] w (BinPost 25 a b w bm fb cap cs fs { f with stack:=l } lv m Fi Fl (bm::fb::(Fi++(Fl++Fs)))):=by
 have hbA:=below_alloc w (.cells #[.slice fa fn fc,.int .i64 g,.slice ga gn gc,.pointer (some ⟨bm,0,none⟩)] 134)
 have hlt:=Lh h.lt
 have hA:=Lh (h.keep hbA)
 have HS:=Lh hst
 clear hst h
 have hnot:w.heap.size∉bm::fb::(Fi++(Fl++Fs)):=fun e=>by have:=hlt.out _ e;omega
 unfold runV
 go_enter Tryz.func129,Tryz.ntmps129
 go_wp2_with fail
 refine (pop_any fa ga fn fc gn gc g hA.out hn (l++[a]) b HS.out).mono ?_
 rintro e w1 ⟨rfl,cur1,sv1,Fs1,hT1,hM1⟩
 have j0:=hM1.cell (cells_new (w:=w) 0 _ rfl) hnot
 have j1:=hM1.cell (cells_new (w:=w) 1 _ rfl) hnot
 have j2:=hM1.cell (cells_new (w:=w) 2 _ rfl) hnot
 have j3:=hM1.cell (cells_new (w:=w) 3 _ rfl) hnot
 have hnot1:=hM1.notin (by simp) hnot
 have HT1:=Lh hT1
 have HM1:=Lh hM1
 clear hT1 hM1
 go_wp2_with fail
 refine (pop_any fa ga fn fc gn gc g HT1.out hn l a rfl).mono ?_
 rintro e w2 ⟨rfl,cur2,sv2,Fs2,hT2,hM2⟩
 have k0:=hM2.cell j0 hnot1
 have k1:=hM2.cell j1 hnot1
 have k2:=hM2.cell j2 hnot1
 have k3:=hM2.cell j3 hnot1
 have HT2:=Lh hT2
 have HM2:=Lh (((Mods.of_below hbA).trans HM1.out).trans hM2)
 have hm0:Hid (({ m with compares:=m.compares+cmp1 25 }:Mch)=m):=by show _=_;simp [cmp1]
 clear hT2 hM2 j0 j1 j2 j3 HT1 HM1
 go_wp2_with fail
 refine (truth_any _ _).mono ?_
 rintro e w3 ⟨rfl,rfl⟩
 go_wp2_with fail
 go_ret
 exact .inl ⟨by simp [binE],ret_int (by simp [binV]),by rw [hm0.out];exact ⟨cur2,sv2,Fs2,HT2.out,HM2.out⟩⟩
theorem bin_27 {w:World} {bm fb cap:Nat} {cur:Array Value} {cs:List Value} {fs:List Fra} {f:Fra} {lv sv:Value} {m:Mch} {Fi Fl Fs:List Nat} (fa ga:Option Addr) (fn fc gn gc:Nat) (g:Int) (h:TopOwn w bm fb cap cur cs fs f lv sv m Fi Fl Fs) (hn:fs.length≤200) (l:List Int) (a b:Int) (hst:f.stack=l++[a]++[b])
  (ha:-1099511627776≤a∧a≤1099511627776) (hb:-1099511627776≤b∧b≤1099511627776) (hc:-1≤m.compares∧m.compares≤4611686018427387904) :
  Calls Tryz.prog 129 #[runV (.slice fa fn fc) (.slice ga gn gc) g bm,.int .i64 27] w (BinPost 27 a b w bm fb cap cs fs { f with stack:=l } lv m Fi Fl (bm::fb::(Fi++(Fl++Fs)))):=by
 have hbA:=below_alloc w (.cells #[.slice fa fn fc,.int .i64 g,.slice ga gn gc,.pointer (some ⟨bm,0,none⟩)] 134)
 have hlt:=Lh h.lt
 have hA:=Lh (h.keep hbA)
 have HS:=Lh hst
 clear hst h
 have hnot:w.heap.size∉bm::fb::(Fi++(Fl++Fs)):=fun e=>by have:=hlt.out _ e;omega
 unfold runV
 go_enter Tryz.func129,Tryz.ntmps129
 go_wp2_with fail
 refine (pop_any fa ga fn fc gn gc g hA.out hn (l++[a]) b HS.out).mono ?_
 rintro e w1 ⟨rfl,cur1,sv1,Fs1,hT1,hM1⟩
 have j0:=hM1.cell (cells_new (w:=w) 0 _ rfl) hnot
 have j1:=hM1.cell (cells_new (w:=w) 1 _ rfl) hnot
 have j2:=hM1.cell (cells_new (w:=w) 2 _ rfl) hnot
 have j3:=hM1.cell (cells_new (w:=w) 3 _ rfl) hnot
 have hnot1:=hM1.notin (by simp) hnot
 have HT1:=Lh hT1
 have HM1:=Lh hM1
 clear hT1 hM1
 go_wp2_with fail
 refine (pop_any fa ga fn fc gn gc g HT1.out hn l a rfl).mono ?_
 rintro e w2 ⟨rfl,cur2,sv2,Fs2,hT2,hM2⟩
 have k0:=hM2.cell j0 hnot1
 have k1:=hM2.cell j1 hnot1
 have k2:=hM2.cell j2 hnot1
 have k3:=hM2.cell j3 hnot1
 have HT2:=Lh hT2
 have HM2:=Lh (((Mods.of_below hbA).trans HM1.out).trans hM2)
 have hm0:Hid (({ m with compares:=m.compares+cmp1 27 }:Mch)=m):=by show _=_;simp [cmp1]
 clear hT2 hM2 j0 j1 j2 j3 HT1 HM1
 go_wp2_with fail
 go_ret
 exact .inl ⟨by simp [binE],ret_int (by simp [binV]),by rw [hm0.out];exact ⟨cur2,sv2,Fs2,HT2.out,HM2.out⟩⟩
theorem bin_28 {w:World} {bm fb cap:Nat} {cur:Array Value} {cs:List Value} {fs:List Fra} {f:Fra} {lv sv:Value} {m:Mch} {Fi Fl Fs:List Nat} (fa ga:Option Addr) (fn fc gn gc:Nat) (g:Int) (h:TopOwn w bm fb cap cur cs fs f lv sv m Fi Fl Fs) (hn:fs.length≤200) (l:List Int) (a b:Int) (hst:f.stack=l++[a]++[b])
  (ha:-1099511627776≤a∧a≤1099511627776) (hb:-1099511627776≤b∧b≤1099511627776) (hc:-1≤m.compares∧m.compares≤4611686018427387904) :
  Calls Tryz.prog 129 #[runV (.slice fa fn fc) (.slice ga gn gc) g bm,.int .i64 28] w (BinPost 28 a b w bm fb cap cs fs { f with stack:=l } lv m Fi Fl (bm::fb::(Fi++(Fl++Fs)))):=by
 have hbA:=below_alloc w (.cells #[.slice fa fn fc,.int .i64 g,.slice ga gn gc,.pointer (some ⟨bm,0,none⟩)] 134)
 have hlt:=Lh h.lt
 have hA:=Lh (h.keep hbA)
 have HS:=Lh hst
 clear hst h
 have hnot:w.heap.size∉bm::fb::(Fi++(Fl++Fs)):=fun e=>by have:=hlt.out _ e;omega
 unfold runV
 go_enter Tryz.func129,Tryz.ntmps129
 go_wp2_with fail
 refine (pop_any fa ga fn fc gn gc g hA.out hn (l++[a]) b HS.out).mono ?_
 rintro e w1 ⟨rfl,cur1,sv1,Fs1,hT1,hM1⟩
 have j0:=hM1.cell (cells_new (w:=w) 0 _ rfl) hnot
 have j1:=hM1.cell (cells_new (w:=w) 1 _ rfl) hnot
 have j2:=hM1.cell (cells_new (w:=w) 2 _ rfl) hnot
 have j3:=hM1.cell (cells_new (w:=w) 3 _ rfl) hnot
 have hnot1:=hM1.notin (by simp) hnot
 have HT1:=Lh hT1
 have HM1:=Lh hM1
 clear hT1 hM1
 go_wp2_with fail
 refine (pop_any fa ga fn fc gn gc g HT1.out hn l a rfl).mono ?_
 rintro e w2 ⟨rfl,cur2,sv2,Fs2,hT2,hM2⟩
 have k0:=hM2.cell j0 hnot1
 have k1:=hM2.cell j1 hnot1
 have k2:=hM2.cell j2 hnot1
 have k3:=hM2.cell j3 hnot1
 have HT2:=Lh hT2
 have HM2:=Lh (((Mods.of_below hbA).trans HM1.out).trans hM2)
 have hm0:Hid (({ m with compares:=m.compares+cmp1 28 }:Mch)=m):=by show _=_;simp [cmp1]
 clear hT2 hM2 j0 j1 j2 j3 HT1 HM1
 go_wp2_with fail
 go_ret
 exact .inl ⟨by simp [binE],ret_int (by simp [binV]),by rw [hm0.out];exact ⟨cur2,sv2,Fs2,HT2.out,HM2.out⟩⟩
theorem binary_any (op:Int) (hop:isTwo op) {w:World} {bm fb cap:Nat} {cur:Array Value} {cs:List Value} {fs:List Fra} {f:Fra} {lv sv:Value} {m:Mch} {Fi Fl Fs:List Nat} (fa ga:Option Addr) (fn fc gn gc:Nat) (g:Int) (h:TopOwn w bm fb cap cur cs fs f lv sv m Fi Fl Fs) (hn:fs.length≤200) (l:List Int) (a b:Int) (hst:f.stack=l++[a]++[b])
  (ha:-1099511627776≤a∧a≤1099511627776) (hb:-1099511627776≤b∧b≤1099511627776) (hc:-1≤m.compares∧m.compares≤4611686018427387904) :
  Calls Tryz.prog 129 #[runV (.slice fa fn fc) (.slice ga gn gc) g bm,.int .i64 op] w (BinPost op a b w bm fb cap cs fs { f with stack:=l } lv m Fi Fl (bm::fb::(Fi++(Fl++Fs)))):=by
 unfold isTwo at hop
 have:op=15∨op=16∨op=17∨op=18∨op=19∨op=20∨op=21∨op=22∨op=23∨op=24∨op=25∨op=27∨op=28:=by omega
 rcases this with rfl|rfl|rfl|rfl|rfl|rfl|rfl|rfl|rfl|rfl|rfl|rfl|rfl
 ·exact bin_15 fa ga fn fc gn gc g h hn l a b hst ha hb hc
 ·exact bin_16 fa ga fn fc gn gc g h hn l a b hst ha hb hc
 ·exact bin_17 fa ga fn fc gn gc g h hn l a b hst ha hb hc
 ·exact bin_18 fa ga fn fc gn gc g h hn l a b hst ha hb hc
 ·exact bin_19 fa ga fn fc gn gc g h hn l a b hst ha hb hc
 ·exact bin_20 fa ga fn fc gn gc g h hn l a b hst ha hb hc
 ·exact bin_21 fa ga fn fc gn gc g h hn l a b hst ha hb hc
 ·exact bin_22 fa ga fn fc gn gc g h hn l a b hst ha hb hc
 ·exact bin_23 fa ga fn fc gn gc g h hn l a b hst ha hb hc
 ·exact bin_24 fa ga fn fc gn gc g h hn l a b hst ha hb hc
 ·exact bin_25 fa ga fn fc gn gc g h hn l a b hst ha hb hc
 ·exact bin_27 fa ga fn fc gn gc g h hn l a b hst ha hb hc
 ·exact bin_28 fa ga fn fc gn gc g h hn l a b hst ha hb hc
end Go.Proofs.YtbmeoklmachjpaaGreatDoor
