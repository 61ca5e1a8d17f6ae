/- Contracts of the runner of package vm: top, push, pop, ask, fail and small ones. append to a slice that the call owns: where the result lies. Contracts of the runner of package vm: push, ask, fail, bounded, times, reference. Contracts of the runner of package vm: fail, bounded, times, reference, binary. -/
import Derived.Test.YtbmeoklmachjpaaGreatDoorOwn
set_option maxHeartbeats 400000
set_option maxRecDepth 100000
set_option linter.unusedVariables false
set_option linter.unusedSimpArgs false
namespace Go.Proofs.YtbmeoklmachjpaaGreatDoor
open Go.RowKit
def X1 (n:Int):Bool:=decide (-1099511627776≤n∧n≤1099511627776)
theorem Yy (n:Int) (w:World) :
  Calls Tryz.prog 45 #[.int .i64 n] w fun e w'=>e=.returned (.bool (X1 n))∧w=w':=by
 go_enter Tryz.func45,Tryz.ntmps45
 go_wp2
 all_goals (go_ret;exact ⟨by unfold X1;congr 2;simp;omega,rfl⟩)
theorem Ka (b:Bool) (w:World) :
  Calls Tryz.prog 127 #[.bool b] w fun e w'=>e=.returned (.int .i64 (b2i b))∧w=w':=by
 cases b
 ·go_enter Tryz.func127,Tryz.ntmps127
  go_wp2
  go_ret
  exact ⟨rfl,rfl⟩
 ·go_enter Tryz.func127,Tryz.ntmps127
  go_wp2
  go_ret
  exact ⟨rfl,rfl⟩
/-- a runner: the code's cells, and the machine -/
def Yw (cf cg:Value) (g:Int) (bm:Nat):Value:=.agg #[cf,.int .i64 g,cg,.pointer (some ⟨bm,0,none⟩)]
theorem Kz {w:World} {bm fb cap:Nat} {cur:Array Value} {cs:List Value} {fs:List Fra} {f:Fra} {lv sv:Value} {m:Mch} {Fi Fl Fs:List Nat} (fa ga:Option Addr) (fn fc gn gc:Nat) (g:Int) (h:Xk w bm fb cap cur cs fs f lv sv m Fi Fl Fs) (hn:fs.length≤200) :
  Calls Tryz.prog 114 #[Yw (.slice fa fn fc) (.slice ga gn gc) g bm] w fun e w'=>e=.returned (.pointer (some ⟨fb,fs.length*4,none⟩))∧Below w.heap.size w w':=by
 have hA:=h.keep (Xa w (.cells #[.slice fa fn fc,.int .i64 g,.slice ga gn gc,.pointer (some ⟨bm,0,none⟩)] 134))
 have m0:=hA.cFrames
 have hc:=h.capl
 have HA:=Lh hA
 clear hA h
 unfold Yw
 go_enter Tryz.func114,Tryz.ntmps114
 go_wp2_with fail
 go_quiet (fail)
 go_wp2_with fail
 go_ret
 exact ⟨rfl,Xh (Xa _ _) _⟩
theorem Yv.last {w:World} {v:Value} {l:List Int} {n:Int} {F:List Nat} (h:Yv w v (l++[n]) F) :
  ∃ sb cap cur,v=.slice (some ⟨sb,0,none⟩) (l.length+1) cap∧F=[sb]∧w.heap[sb]?=some (.cells cur 3 (0,0))∧l.length+1≤cap∧cap≤9223372036854775807∧w.cell? ⟨sb,l.length,none⟩=some (.int .i64 n)∧
   Yv w (.slice (some ⟨sb,0,none⟩) l.length cap) l [sb]∧in64 n:=by
 obtain ⟨h1,h2,h3⟩:=h
 rcases h1.2 with ⟨_,hn⟩|⟨g,cap,cur,rfl,hb,hg,hc,hcm,hs,ht⟩
 ·simp at hn
 ·simp only [List.length_append,List.length_singleton,Nat.mul_one] at hc ht hs
  refine ⟨g,cap,cur,by simp,by rw [h2];rfl,hg,hc,by unfold maxLen at hcm;omega,?_,⟨⟨by simp,.inr ⟨g,cap,cur,rfl,Nat.zero_le _,hg,by omega,hcm,by simpa using hs,?_⟩⟩,rfl,fun x hx=>h3 x (by simp [hx])⟩,h3 n (by simp)⟩
  ·rw [cell_of_row _ _ _ _ _ _ hg]
   have h4:((l++[n]).map (Value.int .i64))[l.length]?=some (.int .i64 n):=by simp
   rw [←ht,List.getElem?_take] at h4
   split at h4
   ·simpa using h4
   ·cases h4
  ·have:=congrArg (List.take l.length) ht
   rw [List.take_take,Nat.min_eq_left (by omega)] at this
   rw [Nat.mul_one,this,← List.map_take]
   simp
theorem Xp.self {F:List Nat} {w:World}:Xp F F w w:=⟨rfl,rfl,rfl,Nat.le_refl _,fun _ _ _=>rfl,fun _ h=>.inl h⟩
/-- the stack of the last frame is written -/
theorem Xfu {w W:World} {bm fb cap:Nat} {cur:Array Value} {cs:List Value} {fs:List Fra} {f:Fra} {lv sv sv':Value} {m:Mch} {Fi Fl Fs Fs':List Nat} {st:List Int} (H:Xk w bm fb cap cur cs fs f lv sv m Fi Fl Fs)
  (hm:W.heap[bm]?=w.heap[bm]?) (hf:W.heap[fb]?=w.heap[fb]?) (hi:∀ b∈Fi++Fl,W.heap[b]?=w.heap[b]?) (hO:Yv W sv' st Fs') (hnd:(bm::fb::(Fi++(Fl++Fs'))).Nodup) (hM:Xp (bm::fb::(Fi++(Fl++Fs))) (bm::fb::(Fi++(Fl++Fs'))) w W) :
  Yz w bm fb cap cs fs { f with stack:=st } lv m Fi Fl (bm::fb::(Fi++(Fl++Fs))) (W.setCell ⟨fb,fs.length*4+3,none⟩ sv'):=by
 have hnd':=hnd
 simp only [List.nodup_cons,List.mem_cons,not_or] at hnd'
 obtain ⟨⟨n1,n2⟩,n3,_⟩:=hnd'
 have ho:∀ b,b≠fb→(W.setCell ⟨fb,fs.length*4+3,none⟩ sv').heap[b]?=W.heap[b]?:=fun b hb=>heap_setCell_other _ _ _ _ hb
 have hin:∀ b∈Fi++(Fl++Fs'),b≠fb:=fun b hb e=>n3 (e▸hb)
 refine ⟨cur.setIfInBounds (fs.length*4+3) sv',sv',Fs',H.put 3 sv' (by rw [ho bm n1,hm]) (heap_setCell_same _ _ _ _ _ _ (by rw [hf];exact H.row)) rfl (fun b hb=>by rw [ho b (hin b (by simp [hb])),hi b (by simp [hb])]) (H.loc.keep (fun b hb=>by rw [ho b (hin b (by simp [hb])),hi b (by simp [hb])])) (hO.keep (fun b hb=>ho b (hin b (by simp [hb])))) H.fn H.pc hnd,hM.trans ⟨rfl,rfl,rfl,by simp,fun k hk hF=>ho k (fun e=>hF (by simp [e])),fun _ h=>.inl h⟩⟩
theorem X9 {w:World} {bm fb cap:Nat} {cur:Array Value} {cs:List Value} {fs:List Fra} {f:Fra} {lv sv:Value} {m:Mch} {Fi Fl Fs:List Nat} (fa ga:Option Addr) (fn fc gn gc:Nat) (g:Int) (h:Xk w bm fb cap cur cs fs f lv sv m Fi Fl Fs) (hn:fs.length≤200) (l:List Int) (n:Int) (hst:f.stack=l++[n]) :
  Calls Tryz.prog 121 #[Yw (.slice fa fn fc) (.slice ga gn gc) g bm] w fun e w'=>e=.returned (.int .i64 n)∧Yz w bm fb cap cs fs { f with stack:=l } lv m Fi Fl (bm::fb::(Fi++(Fl++Fs))) w':=by
 have hown:=h.stk
 rw [hst] at hown
 obtain ⟨sb,scap,scur,rfl,rfl,hsb,hl1,hl2,hcell,hown',hn64⟩:=hown.last
 have H:=Lh h
 have HO:=Lh hown'
 have hbA:=Xa w (.cells #[.slice fa fn fc,.int .i64 g,.slice ga gn gc,.pointer (some ⟨bm,0,none⟩)] 134)
 have hA:=Lh (h.keep hbA)
 have hne:=h.ne
 have hsn:=hne.2 sb (by simp)
 clear hst hown hown' h hne
 unfold Yw
 go_enter Tryz.func121,Tryz.ntmps121
 go_wp2_with fail
 refine (Kz fa ga fn fc gn gc g hA.out hn).mono ?_
 rintro e w1 ⟨rfl,hb1⟩
 have hb1w:=Yi hb1
 have h1:=Lh (H.out.keep hb1w)
 have c3:=h1.out.cSv
 have cc:=Xc hb1w hcell
 have fr:=h1.out.frf (fs.length*4+3)
 clear hcell
 go_wp2_with fail
 go_quiet (fail)
 go_wp2_with fail
 go_region
 go_wp2_with fail
 go_ret
 have hbD:Below w.heap.size w (w1.drewN (nq+1)):=Xh hb1w _
 refine ⟨rfl,Xfu H.out (hbD.block bm (H.out.lt bm (by simp))) (hbD.block fb (H.out.lt fb (by simp))) (fun b hb=>hbD.block b (H.out.lt b (by simp at hb ⊢;rcases hb with hb|hb<;>simp [hb]))) (HO.out.keep (fun b hb=>hbD.block b (HO.out.lt b hb))) H.out.nodup (Xp.of_below hbD)⟩
theorem Va {P:Program} (w:World) (t ty e:TypeId) (i:TypeInfo) (z:Value) (size bytes:Nat) (ht:P.underlying t=some (.slice e)) (hi:P.info? e=some i) (hz:i.zero=some z)
  (hsize:i.size=size) (hby:i.bytes=bytes) (hzs:z.cells.size=size) (hsz:0<size)
  (v:Value) (n:Nat) (xs:List Value) (hown:w.ownsRow 0 e size v n xs)
  (a:Addr) (m c:Nat) (news:List Value) (hl:news.length=m*size) (hnews:∀ j u,news[j]?=some u→w.cell? (a.add j)=some u) (h1:∀ u∈news,u.oneCell'=true)
  (h63:n+m≤maxLen) (hbytes:(n+m)*bytes≤140737488355328) (hm:0<m) :
  ∃ v' w' g,(Builtin.append_ #[t,t] ty #[v,.slice (some a) m c]).run P w=.ok v' w'∧w'.ownsRow 0 e size v' (n+m) (xs++news)∧w.grownBy w' v.ownBlock∧v'.ownBlock=some g∧(v.ownBlock=some g∨w.heap.size≤g):=by
 obtain ⟨v',w',hr,ho,hg,hnil⟩:=run_append_own (P:=P) w 0 t ty e i z size bytes ht hi hz hsize hby hzs hsz v n xs hown a m c news hl hnews h1 h63 hbytes (Nat.zero_le _)
 have hne:v'≠.slice none 0 0:=fun h=>by have:=(hnil.1 h).2;omega
 rcases hown.2 with ⟨rfl,rfl⟩|⟨g,cap,cur,rfl,hbg,hgg,hnc,hcm,hcs,htake⟩
 ·have hx:xs=[]:=List.eq_nil_of_length_eq_zero (by simpa using hown.1)
  subst hx
  obtain ⟨v'',w'',hr2,ho2,_,_⟩:=run_append_own (P:=P) w w.heap.size t ty e i z size bytes ht hi hz hsize hby hzs hsz _ 0 [] (World.ownsRow_nil w w.heap.size e size) a m c news hl hnews h1 h63 hbytes (Nat.le_refl _)
  rw [hr] at hr2
  simp only [Result.ok.injEq] at hr2
  obtain ⟨rfl,rfl⟩:=hr2
  rcases ho2.2 with ⟨h,_⟩|⟨g,cap,cur,rfl,hb,_⟩
  ·exact absurd h hne
  ·exact ⟨_,_,g,hr,ho,hg,rfl,.inr hb⟩
 ·subst hsize
  subst hby
  by_cases hroom:n+m≤cap
  ·have hfit:n*i.size+news.length≤cur.size:=by rw [hl,hcs,← Nat.add_mul];exact Nat.mul_le_mul_right _ hroom
   have hr2:=run_append_room (P:=P) w t ty e i ht hi g n cap cur hgg a m c news hl hnews h1 hroom hfit
   rw [hr] at hr2
   simp only [Result.ok.injEq] at hr2
   obtain ⟨rfl,rfl⟩:=hr2
   exact ⟨_,_,g,hr,ho,hg,rfl,.inl rfl⟩
  ·have holds:∀ j u,xs[j]?=some u→w.cell? ((⟨g,0,none⟩:Addr).add j)=some u:=hown.cells (g:=g) rfl
   have hr2:=run_append_grow (P:=P) w t ty e i z ht hi hz ⟨g,0,none⟩ n cap xs hown.1 holds a m c news hl hnews (by omega) (by have:=h63;simp only [maxLen] at this;omega) (growslice_fits (by omega) hbytes)
   rw [hr] at hr2
   simp only [Result.ok.injEq] at hr2
   obtain ⟨rfl,rfl⟩:=hr2
   exact ⟨_,_,w.heap.size,hr,ho,hg,rfl,.inr (Nat.le_refl _)⟩
theorem U3 {w w':World} {v v':Value} {g:Nat} (hg:w.grownBy w' v.ownBlock) (h':v'.ownBlock=some g) (h:v.ownBlock=some g∨w.heap.size≤g):Xp v.ownBlock.toList v'.ownBlock.toList w w':=
 ⟨hg.os,hg.tape,hg.output,hg.size,fun k hk hF=>hg.block k hk (fun e=>hF (by rw [←e];simp)),fun b hb=>by
  rw [h'] at hb;simp at hb;subst hb
  rcases h with h|h
  ·left;rw [h];simp
  ·right;exact h⟩
/-- append(v, n) for integers -/
theorem Xnv (w:World) (v:Value) (l:List Int) (F:List Nat) (hO:Yv w v l F) (ad:Addr) (n:Int) (hn:in64 n) (hc:w.cell? ad=some (.int .i64 n)) (hl:l.length<1000000) (ty:TypeId) :
  ∃ v' w' F',(Builtin.append_ #[22,22] ty #[v,.slice (some ad) 1 1]).run Tryz.prog w=.ok v' w'∧Yv w' v' (l++[n]) F'∧Xp F F' w w'∧(∃ g,F'=[g]∧(F=[g]∨w.heap.size≤g))∧(∃ a' c',v'=.slice a' (l.length+1) c'):=by
 obtain ⟨i,hi,hz0,hz1,hz2⟩:=info_parts Uc
 obtain ⟨v',w',g,hr,h2,h3,h4,h5⟩:=Va (P:=Tryz.prog) w 22 ty 3 i (.int .i64 0) 1 8 Tryz.underlying22 hi hz0 hz1 hz2 rfl (by decide) v l.length (l.map (Value.int .i64)) hO.1 ad 1 1 [.int .i64 n] rfl
  (fun j u hu=>by
   cases j with
   | zero=>simp at hu;subst hu;exact hc
   | succ j=>simp at hu) (by simp [Value.oneCell']) (by unfold maxLen;omega) (by omega) (by omega)
 have hF:=hO.2.1
 refine ⟨v',w',v'.ownBlock.toList,hr,⟨by simpa using h2,rfl,fun x hx=>by simp at hx;rcases hx with hx|rfl;exact hO.2.2 x hx;exact hn⟩,by rw [hF];exact U3 h3 h4 h5,⟨g,by rw [h4];rfl,?_⟩,?_⟩
 ·rcases h5 with h5|h5
  ·left;rw [hF,h5];rfl
  ·right;exact h5
 ·rcases h2.2 with ⟨rfl,hn0⟩|⟨g',cap,cur,rfl,_⟩
  ·omega
  ·exact ⟨_,_,rfl⟩
theorem Xik {ops:Array Oper} {rest:List Oper} {o:Oper} {a:Act} {Q:Exit→Act→World→Prop} {w:World} (hgd:o.guard=none) (s x:Operand) (ho:o.op=.call { callee:=.builtin .append,args:=#[s,x],argTypes:=#[22,22] })
  (v:Value) (l:List Int) (F:List Nat) (hs:a.eval s=v) (hO:Yv w v l F) (ad:Addr) (n:Int) (hn:in64 n) (hx:a.eval x=.slice (some ad) 1 1) (hc:w.cell? ad=some (.int .i64 n)) (hl:l.length<1000000)
  (h:∀ a' c' w' F',Yv w' (.slice a' (l.length+1) c') (l++[n]) F'→Xp F F' w w'→(∃ g,F'=[g]∧(F=[g]∨w.heap.size≤g))→wpList Tryz.prog ops Q rest (a.put o.dst (.slice a' (l.length+1) c')) w'):wpList Tryz.prog ops Q (o::rest) a w:=by
 refine wpList_plain hgd fun K hK=>?_
 obtain ⟨v',w',F',hr,h2,h3,h4,⟨a',c',rfl⟩⟩:=Xnv w v l F hO ad n hn hc hl o.type
 unfold Oper.wp execOp
 simp only [ho,resolve,invoke,builtin,Sem.run_bind,Sem.run_pure,Result.andThen_ok,List.map_toArray,List.map_cons,List.map_nil,hs,hx,hr]
 exact hK _ _ (h a' c' w' F' h2 h3 h4)
theorem Xdw {bm fb:Nat} {Fi Fl Fs Fs':List Nat} {n:Nat} (h:(bm::fb::(Fi++(Fl++Fs))).Nodup) (hlt:∀ b∈bm::fb::(Fi++(Fl++Fs)),b<n) (hF:∃ g,Fs'=[g]∧(Fs=[g]∨n≤g)):(bm::fb::(Fi++(Fl++Fs'))).Nodup:=by
 obtain ⟨g,rfl,hg⟩:=hF
 rcases hg with rfl|hg
 ·exact h
 ·have h2:(bm::fb::(Fi++Fl)).Nodup:=by
   have e:bm::fb::(Fi++(Fl++Fs))=(bm::fb::(Fi++Fl))++Fs:=by simp
   rw [e] at h
   exact (List.nodup_append.1 h).1
  have e:bm::fb::(Fi++(Fl++[g]))=(bm::fb::(Fi++Fl))++[g]:=by simp
  rw [e,List.nodup_append]
  refine ⟨h2,by simp,fun a ha b hb=>?_⟩
  simp at hb
  subst hb
  have:=hlt a (by simp at ha ⊢;rcases ha with ha|ha|ha|ha<;>simp [ha])
  omega
theorem Xp.wide {Fs Fs' F F':List Nat} {w w':World} (h:Xp Fs Fs' w w') (h1:∀ b∈Fs,b∈F) (h2:∀ b∈F',b∈Fs'∨b∈F):Xp F F' w w':=
 ⟨h.os,h.tape,h.output,h.size,fun k hk hF=>h.block k hk (fun hm=>hF (h1 k hm)),fun b hb=>by
  rcases h2 b hb with h3|h3
  ·rcases h.new b h3 with h4|h4
   ·exact .inl (h1 b h4)
   ·exact .inr h4
  ·exact .inl h3⟩
theorem Qt {w:World} {bm fb cap:Nat} {cur:Array Value} {cs:List Value} {fs:List Fra} {f:Fra} {lv sv:Value} {m:Mch} {Fi Fl Fs:List Nat} (fa ga:Option Addr) (fn fc gn gc:Nat) (g:Int) (h:Xk w bm fb cap cur cs fs f lv sv m Fi Fl Fs) (hn:fs.length≤200) (n:Int) (h64:in64 n) (hst:f.stack.length<1000000) :
  Calls Tryz.prog 83 #[Yw (.slice fa fn fc) (.slice ga gn gc) g bm,.int .i64 n] w fun e w'=>e=.returned (.tuple #[])∧Yz w bm fb cap cs fs { f with stack:=f.stack++[n] } lv m Fi Fl (bm::fb::(Fi++(Fl++Fs))) w':=by
 have H:=Lh h
 have hbA:=Xa w (.cells #[.slice fa fn fc,.int .i64 g,.slice ga gn gc,.pointer (some ⟨bm,0,none⟩)] 134)
 have hA:=Lh (h.keep hbA)
 have hne:=h.ne
 have hlt:=Lh h.lt
 have hfb:=h.lt fb (by simp)
 have hfbn:fb∉Fs:=fun e=>(hne.2 fb (by simp [e])).2 rfl
 clear h
 unfold Yw
 go_enter Tryz.func83,Tryz.ntmps83
 go_wp2_with fail
 refine (Kz fa ga fn fc gn gc g hA.out hn).mono ?_
 rintro e w1 ⟨rfl,hb1⟩
 have hb1w:=Yi hb1
 have h1:=Lh (H.out.keep hb1w)
 have c3:=h1.out.cSv
 have hfb1:fb<w1.heap.size:=Nat.lt_of_lt_of_le hfb hb1w.size
 have fr:∀ o,(w1.alloc o).frozen? ⟨fb,fs.length*4+3,none⟩=false:=fun o=>Fz (by rw [Below.heap_alloc _ _ _ hfb1];exact h1.out.row)
 have HH64:=Lh h64
 go_wp2_with (at_builtin;refine Xik rfl (.tmp 11) (.tmp 13) rfl sv f.stack Fs rfl (h1.out.stk.keep (fun b hb=>(Below.heap_alloc _ _ _ (h1.out.stk.lt b hb)))) ⟨w1.heap.size,0,none⟩ n HH64.out rfl (by exact (Y5 _ _ _ 0)) hst ?_;intro a' c' w2 F' hO hM hF;have hfb2:w2.heap[fb]?=some (.cells cur 83 (0,0)):=(by rw [hM.block fb (by simp;omega) hfbn,Below.heap_alloc _ _ _ hfb1];exact h1.out.row);have k3:w2.cell? ⟨fb,fs.length*4+3,none⟩=some sv:=(by rw [cell_of_row _ _ _ _ _ _ hfb2,← cell_of_row _ _ _ _ _ _ h1.out.row];exact c3);have k4:=frozen_of_row _ _ (fs.length*4+3) _ _ hfb2;have Hfb2:=Lh hfb2;have HO:=Lh hO;have HM:=Lh hM;have HF:=Lh hF;clear hO hM hF hfb2)
 go_end0
 have hbB:=hb1w.then (Xa w1 (.cells #[.int .i64 n] 3))
 have hblk:∀ b∈bm::fb::(Fi++Fl),w2.heap[b]?=w.heap[b]?:=fun b hb=>by
  have hb':b∈bm::fb::(Fi++(Fl++Fs)):=by simp at hb ⊢;rcases hb with hb|hb|hb|hb<;>simp [hb]
  have hbn:b∉Fs:=fun e=>by
   have e1:bm::fb::(Fi++(Fl++Fs))=(bm::fb::(Fi++Fl))++Fs:=by simp
   have:=H.out.nodup
   rw [e1,List.nodup_append] at this
   exact this.2.2 b hb b e rfl
  rw [HM.out.block b (Nat.lt_of_lt_of_le (hlt.out b hb') hbB.size) hbn,hbB.block b (hlt.out b hb')]
 refine ⟨rfl,Xfu H.out (hblk bm (by simp)) (hblk fb (by simp)) (fun b hb=>hblk b (by simp at hb ⊢;rcases hb with hb|hb<;>simp [hb])) HO.out (Xdw H.out.nodup hlt.out ?_) ((Xp.of_below hbB).trans (HM.out.wide (fun b hb=>by simp [hb]) (fun b hb=>?_)))⟩
 ·obtain ⟨g',h1,h2⟩:=HF.out
  exact ⟨g',h1,by rcases h2 with h2|h2;exact .inl h2;exact .inr (Nat.le_trans hbB.size h2)⟩
 ·simp only [List.mem_cons,List.mem_append] at hb ⊢
  rcases hb with hb|hb|hb|hb|hb<;>simp [hb]
/-- the value with which a running machine stops -/
def Xdd (r:Rq):Value:=.iface 141 (.agg #[.int .i64 r.kind,.int .i64 r.node,.int .i64 r.field,.int .i64 r.value,.int .i64 r.fault])
def Xec (r:Rq) (w:World) (e:Ending) (w':World):Prop:=e=.panicked [{ v:=Xdd r,recovered:=false }]∧Below w.heap.size w w'
theorem U5 (fa ga:Option Addr) (fn fc gn gc:Nat) (g:Int) (bm:Nat) (k n f v e:Int) (w:World) :
  Calls Tryz.prog 122 #[Yw (.slice fa fn fc) (.slice ga gn gc) g bm,.agg #[.int .i64 k,.int .i64 n,.int .i64 f,.int .i64 v,.int .i64 e]] w (Xec ⟨k,n,f,v,e⟩ w):=by
 unfold Yw
 go_enter Tryz.func122,Tryz.ntmps122
 go_wp2_with fail
 exact ⟨rfl,⟨rfl,((Below.refl _ _).alloc (Nat.le_refl _) _).alloc (by simp) _⟩⟩
def X0 (e:Int):Rq:=⟨5,0,0,0,e⟩
theorem Jx (fa ga:Option Addr) (fn fc gn gc:Nat) (g:Int) (bm:Nat) (e:Int) (w:World) :
  Calls Tryz.prog 120 #[Yw (.slice fa fn fc) (.slice ga gn gc) g bm,.int .i64 e] w (Xec (X0 e) w):=by
 unfold Yw
 go_enter Tryz.func120,Tryz.ntmps120
 go_wp2_with fail
 refine (U5 fa ga fn fc gn gc g bm 5 0 0 0 e _).mono ?_
 rintro e1 w1 ⟨rfl,hb⟩
 exact ⟨rfl,rfl,Yi hb⟩
theorem Vx (fa ga:Option Addr) (fn fc gn gc:Nat) (g:Int) (bm:Nat) (n:Int) (w:World) (h:X1 n=true) :
  Calls Tryz.prog 126 #[Yw (.slice fa fn fc) (.slice ga gn gc) g bm,.int .i64 n] w fun e w'=>e=.returned (.int .i64 n)∧Below w.heap.size w w':=by
 unfold Yw
 have H:=Lh h
 clear h
 go_enter Tryz.func126,Tryz.ntmps126
 go_wp2_with fail
 refine (Yy n _).mono ?_
 rintro e1 w1 ⟨rfl,rfl⟩
 rw [H.out]
 go_wp2_with fail
 go_ret
 exact ⟨rfl,Xa _ _⟩
theorem Xds (fa ga:Option Addr) (fn fc gn gc:Nat) (g:Int) (bm:Nat) (n:Int) (w:World) (h:X1 n=false) :
  Calls Tryz.prog 126 #[Yw (.slice fa fn fc) (.slice ga gn gc) g bm,.int .i64 n] w (Xec (X0 5) w):=by
 unfold Yw
 have H:=Lh h
 clear h
 go_enter Tryz.func126,Tryz.ntmps126
 go_wp2_with fail
 refine (Yy n _).mono ?_
 rintro e1 w1 ⟨rfl,rfl⟩
 rw [H.out]
 go_wp2_with fail
 refine (Jx fa ga fn fc gn gc g bm 5 _).mono ?_
 rintro e1 w1 ⟨rfl,hb⟩
 exact ⟨rfl,rfl,Yi hb⟩
theorem Vk (a:Int):max a (-a)=((a.natAbs:Nat):Int):=by omega
theorem Xmh (fa ga:Option Addr) (fn fc gn gc:Nat) (g:Int) (bm:Nat) (a b:Int) (w:World) (ha:-1099511627776≤a∧a≤1099511627776) (hb:-1099511627776≤b∧b≤1099511627776) (h:a.natAbs*b.natAbs≤1099511627776) :
  Calls Tryz.prog 143 #[Yw (.slice fa fn fc) (.slice ga gn gc) g bm,.int .i64 a,.int .i64 b] w fun e w'=>e=.returned (.int .i64 (a*b))∧Below w.heap.size w w':=by
 unfold Yw
 have h1:Hid (a.natAbs*b.natAbs / 18446744073709551616=0):=by show _=_;omega
 have h2:Hid (a.natAbs*b.natAbs % 18446744073709551616=a.natAbs*b.natAbs):=by show _=_;omega
 have hab:-1099511627776≤a*b∧a*b≤1099511627776:=by
  have:(a*b).natAbs=a.natAbs*b.natAbs:=Int.natAbs_mul a b
  omega
 go_enter Tryz.func143,Tryz.ntmps143
 go_wp2_with fail
 rw [Vk,Vk]
 refine (Tryz.bits_Mul64 a.natAbs b.natAbs (by omega) (by omega) _).mono ?_
 rintro e w1 ⟨rfl,rfl⟩
 rw [h1.out,h2.out]
 generalize a.natAbs*b.natAbs=p at *
 clear h1 h2
 generalize hq:a*b=q at *
 have Hq:=Lh hq
 clear hq
 go_wp2_with (rw [Hq.out])
 go_ret
 exact ⟨Qd (IntWalk.wrap64_in q (by omega)),Xa _ _⟩
theorem Xn8 (fa ga:Option Addr) (fn fc gn gc:Nat) (g:Int) (bm:Nat) (a b:Int) (w:World) (ha:-1099511627776≤a∧a≤1099511627776) (hb:-1099511627776≤b∧b≤1099511627776) (h:1099511627776<a.natAbs*b.natAbs) :
  Calls Tryz.prog 143 #[Yw (.slice fa fn fc) (.slice ga gn gc) g bm,.int .i64 a,.int .i64 b] w (Xec (X0 5) w):=by
 unfold Yw
 go_enter Tryz.func143,Tryz.ntmps143
 go_wp2_with fail
 rw [Vk,Vk]
 refine (Tryz.bits_Mul64 a.natAbs b.natAbs (by omega) (by omega) _).mono ?_
 rintro e w1 ⟨rfl,rfl⟩
 have hor:0<a.natAbs*b.natAbs / 18446744073709551616∨1099511627776<a.natAbs*b.natAbs % 18446744073709551616:=by omega
 generalize a.natAbs*b.natAbs / 18446744073709551616=p at *
 generalize a.natAbs*b.natAbs % 18446744073709551616=q at *
 by_cases hp:0<p
 ·clear hor
  go_wp2_with fail
  refine (Jx fa ga fn fc gn gc g bm 5 _).mono ?_
  rintro e1 w1 ⟨rfl,hb⟩
  exact ⟨rfl,rfl,Yi hb⟩
 ·have hq:1099511627776<q:=by omega
  obtain rfl:p=0:=by omega
  clear hor hp
  go_wp2_with fail
  refine (Jx fa ga fn fc gn gc g bm 5 _).mono ?_
  rintro e1 w1 ⟨rfl,hb⟩
  exact ⟨rfl,rfl,Yi hb⟩
/-- a cell of the machine itself is written -/
theorem Kw {w W:World} {bm fb cap:Nat} {cur:Array Value} {cs:List Value} {fs:List Fra} {f:Fra} {lv sv:Value} {m m':Mch} {Fi Fl Fs:List Nat} (h:Xk w bm fb cap cur cs fs f lv sv m Fi Fl Fs) (hb:Below w.heap.size w W) (j:Nat) (v:Value)
  (hj:(Xb (.slice (some ⟨fb,0,none⟩) (fs.length+1) cap) m).setIfInBounds j v=Xb (.slice (some ⟨fb,0,none⟩) (fs.length+1) cap) m') :
  Xk (W.setCell ⟨bm,j,none⟩ v) bm fb cap cur cs fs f lv sv m' Fi Fl Fs∧Xp (bm::fb::(Fi++(Fl++Fs))) (bm::fb::(Fi++(Fl++Fs))) w (W.setCell ⟨bm,j,none⟩ v):=by
 have hne:=h.ne
 have h1:=h.keep hb
 have ho:∀ b,b≠bm→(W.setCell ⟨bm,j,none⟩ v).heap[b]?=W.heap[b]?:=fun b hb=>heap_setCell_other _ _ _ _ hb
 refine ⟨h1.putM (by rw [←hj];exact heap_setCell_same _ _ _ _ _ _ h1.mach) (fun b hb=>ho b ?_),(Xp.of_below hb).trans ⟨rfl,rfl,rfl,by simp,fun k hk hF=>ho k (fun e=>hF (by simp [e])),fun _ h=>.inl h⟩⟩
 simp only [List.mem_cons] at hb
 rcases hb with rfl|hb
 ·exact fun e=>hne.1 e.symm
 ·exact (hne.2 b hb).1
/-- it stops with r; the last frame has become f', the machine m' -/
def Vg (r:Rq) (w:World) (bm fb cap:Nat) (cs:List Value) (fs:List Fra) (f':Fra) (lv:Value) (m':Mch) (Fi Fl F:List Nat) (e:Ending) (w':World):Prop:=
 e=.panicked [{ v:=Xdd r,recovered:=false }]∧Yz w bm fb cap cs fs f' lv m' Fi Fl F w'
theorem Yz.then {w w1 w2:World} {bm fb cap:Nat} {cs:List Value} {fs:List Fra} {f':Fra} {lv:Value} {m':Mch} {Fi Fl F:List Nat} (h:Yz w bm fb cap cs fs f' lv m' Fi Fl F w1) (hb:Below w1.heap.size w1 w2):Yz w bm fb cap cs fs f' lv m' Fi Fl F w2:=by
 obtain ⟨cur',sv',Fs',h1,h2⟩:=h
 exact ⟨cur',sv',Fs',h1.keep hb,h2.trans (Xp.of_below hb)⟩
theorem Xas {w:World} {bm fb cap:Nat} {cur:Array Value} {cs:List Value} {fs:List Fra} {f:Fra} {lv sv:Value} {m:Mch} {Fi Fl Fs:List Nat} (fa ga:Option Addr) (fn fc gn gc:Nat) (g:Int) (h:Xk w bm fb cap cur cs fs f lv sv m Fi Fl Fs) (hn:fs.length≤200) (l:List Int) (n:Int) (hst:f.stack=l++[n]) (h1:1≤n) :
  Calls Tryz.prog 123 #[Yw (.slice fa fn fc) (.slice ga gn gc) g bm] w fun e w'=>e=.returned (.int .i64 n)∧Yz w bm fb cap cs fs { f with stack:=l } lv m Fi Fl (bm::fb::(Fi++(Fl++Fs))) w':=by
 have hbA:=Xa w (.cells #[.slice fa fn fc,.int .i64 g,.slice ga gn gc,.pointer (some ⟨bm,0,none⟩)] 134)
 have hA:=Lh (h.keep hbA)
 have HS:=Lh hst
 clear hst h
 unfold Yw
 go_enter Tryz.func123,Tryz.ntmps123
 go_wp2_with fail
 refine (X9 fa ga fn fc gn gc g hA.out hn l n HS.out).mono ?_
 rintro e w1 ⟨rfl,cur',sv',Fs',hT,hM⟩
 have HT:=Lh hT
 have HM:=Lh hM
 clear hT hM
 go_wp2_with fail
 go_ret
 exact ⟨rfl,cur',sv',Fs',HT.out,(Xp.of_below hbA).trans HM.out⟩
theorem Xbw {w:World} {bm fb cap:Nat} {cur:Array Value} {cs:List Value} {fs:List Fra} {f:Fra} {lv sv:Value} {m:Mch} {Fi Fl Fs:List Nat} (fa ga:Option Addr) (fn fc gn gc:Nat) (g:Int) (h:Xk w bm fb cap cur cs fs f lv sv m Fi Fl Fs) (hn:fs.length≤200) (l:List Int) (n:Int) (hst:f.stack=l++[n]) (h1:n<1) :
  Calls Tryz.prog 123 #[Yw (.slice fa fn fc) (.slice ga gn gc) g bm] w (Vg (X0 17) w bm fb cap cs fs { f with stack:=l } lv m Fi Fl (bm::fb::(Fi++(Fl++Fs)))):=by
 have hbA:=Xa w (.cells #[.slice fa fn fc,.int .i64 g,.slice ga gn gc,.pointer (some ⟨bm,0,none⟩)] 134)
 have hlt:=Lh h.lt
 have hA:=Lh (h.keep hbA)
 have HS:=Lh hst
 clear hst h
 unfold Yw
 go_enter Tryz.func123,Tryz.ntmps123
 go_wp2_with fail
 refine (X9 fa ga fn fc gn gc g hA.out hn l n HS.out).mono ?_
 rintro e w1 ⟨rfl,cur',sv',Fs',hT,hM⟩
 have HT:=Lh hT
 have HM:=Lh hM
 have hnot:w.heap.size∉bm::fb::(Fi++(Fl++Fs)):=fun e=>by have:=hlt.out _ e;omega
 have k0:=hM.cell (Xd (w:=w) 0 _ rfl) hnot
 have k1:=hM.cell (Xd (w:=w) 1 _ rfl) hnot
 have k2:=hM.cell (Xd (w:=w) 2 _ rfl) hnot
 have k3:=hM.cell (Xd (w:=w) 3 _ rfl) hnot
 clear hT hM
 go_wp2_with fail
 refine (Jx fa ga fn fc gn gc g bm 17 _).mono ?_
 rintro e1 w2 ⟨rfl,hb⟩
 exact ⟨rfl,rfl,Yz.then ⟨cur',sv',Fs',HT.out,(Xp.of_below hbA).trans HM.out⟩ hb⟩
end Go.Proofs.YtbmeoklmachjpaaGreatDoor
