/- The contract of the runner's call. -/
import Derived.Test.YtbmeoklmachjpaaGreatDoorRun4
import Derived.Deep.AppendLies
import Derived.Deep.RegionLaw
set_option maxHeartbeats 1000000
set_option maxRecDepth 100000
set_option linter.unusedVariables false
set_option linter.unusedSimpArgs false
namespace Go.Proofs.YtbmeoklmachjpaaGreatDoor
open Go.RowKit
/-- the local variables of a new frame while its arguments are popped: k are still to come -/
def Qg (args:List Int) (z k:Nat):List Int:=List.replicate k 0++(args.drop k++List.replicate z 0)
theorem Xd4 {args:List Int} {z k:Nat} {a:Int} (h:args[k]?=some a):(Qg args z (k+1)).set k a=Qg args z k:=by
 unfold Qg
 have hk:k<args.length:=(Ll h)
 rw [List.drop_eq_getElem_cons hk,List.replicate_succ',List.append_assoc,List.set_append_right _ _ (by simp)]
 have:args[k]=a:=by rw [List.getElem?_eq_getElem hk] at h;simpa using h
 simp [this]
theorem Xdq {args:List Int} {z k:Nat} (h:k≤args.length):(Qg args z k).length=args.length+z:=by
 simp [Qg];omega
theorem Xc9 (args:List Int) (z:Nat):Qg args z args.length=List.replicate (args.length+z) 0:=by
 simp [Qg,List.replicate_append_replicate]
theorem K7 (W:World) (n:Nat) (hn:n≤1048576):(Instr.makeSlice 22 (.int .i64 (n:Int)) (.int .i64 (n:Int))).run Tryz.prog W=.ok (.slice (some ⟨W.heap.size,0,none⟩) n n) (W.alloc (.cells (Xx (List.replicate n 0)) 3)):=by
 rw [Xe7 W n hn]
 simp [Js,Xx]
theorem Xe4 {l:List Int} {k:Nat} {a:Int} (h:l[k]?=some a):l.take (k+1)=l.take k++[a]:=by
 obtain ⟨hk,rfl⟩:=List.getElem?_eq_some_iff.1 h
 exact List.take_succ_eq_append_getElem hk
theorem Xp.drop {bl:Nat} {F F':List Nat} {w W wr:World} (hb:Below w.heap.size w W) (h:Xp (bl::F) F' W wr) (hbl:w.heap.size≤bl):Xp F F' w wr:=
 ⟨h.os.trans hb.os,h.tape.trans hb.tape,h.output.trans hb.output,Nat.le_trans hb.size h.size,fun k hk hF=>by
  rw [h.block k (Nat.lt_of_lt_of_le hk hb.size) (fun e=>by rw [List.mem_cons] at e;rcases e with e|e;omega;exact hF e),hb.block k hk],fun b hb'=>by
  rcases h.new b hb' with h1|h1
  ·rw [List.mem_cons] at h1
   rcases h1 with rfl|h1
   ·exact .inr hbl
   ·exact .inl h1
  ·exact .inr (Nat.le_trans hb.size h1)⟩
theorem Xk.rowOwn {w:World} {bm fb cap:Nat} {cur:Array Value} {cs:List Value} {fs:List Fra} {f:Fra} {lv sv:Value} {m:Mch} {Fi Fl Fs:List Nat} (h:Xk w bm fb cap cur cs fs f lv sv m Fi Fl Fs):w.ownsRow 0 83 4 (.slice (some ⟨fb,0,none⟩) (fs.length+1) cap) (fs.length+1) (cs++[.int .i64 f.fn,.int .i64 f.pc,lv,sv]):=
 ⟨by simp [h.cslen];omega,.inr ⟨fb,cap,cur,rfl,Nat.zero_le _,h.row,h.capl,by unfold maxLen;have:=h.capm;omega,h.csize,h.take⟩⟩
theorem add_zero (g j:Nat):(⟨g,0,none⟩:Addr).add j=⟨g,j,none⟩:=by unfold Addr.add;split<;>simp_all
theorem Xft (W:World) (vs:List Value) (T:TypeId):∀ j u,vs[j]?=some u→(W.alloc (.cells vs.toArray T)).drew.cell? ((⟨W.heap.size,0,none⟩:Addr).add j)=some u:=fun j u hu=>by
 rw [add_zero]
 show (W.alloc (.cells vs.toArray T)).cell? _=_
 rw [Y5];simpa using hu
theorem Vb:(Tryz.prog.info? 83).map (fun i=>(i.zero,i.size,i.bytes))=some (some (.agg #[.int .i64 0,.int .i64 0,.slice none 0 0,.slice none 0 0]),4,64):=by kernel_rfl
theorem Xij {w wr w5:World} {bm fb cap:Nat} {cur:Array Value} {cs:List Value} {fs:List Fra} {f1:Fra} {lv sv:Value} {m:Mch} {Fi Fl Fs F:List Nat} {o:Obj} {bl g2 cap2 k n:Nat} {locs:List Int} (HT:Xk wr bm fb cap cur cs fs f1 lv sv m Fi Fl Fs) (hM:Xp F (bm::fb::(Fi++(Fl++Fs))) w wr) (hn:locs.length=n) (hn2:n≤1000000) (h64:∀ x∈locs,in64 x) (hk:k≤1000000)
  (hbw:w.heap.size≤bl) (hnb:bl∉bm::fb::(Fi++(Fl++Fs))) (hbl:wr.heap[bl]?=some (.cells (Xx locs) 3 (0,0)))
  (hown:w5.ownsRow 0 83 4 (.slice (some ⟨g2,0,none⟩) (fs.length+1+1) cap2) (fs.length+1+1) ((cs++[.int .i64 f1.fn,.int .i64 f1.pc,lv,sv])++[.int .i64 (k:Int),.int .i64 0,.slice (some ⟨bl,0,none⟩) n n,.slice none 0 0]))
  (hg:((wr.alloc o).drew).grownBy w5 (some fb)) (hlies:some fb=some g2∨g2=((wr.alloc o).drew).heap.size) :
  ∃ F',X3 (w5.setCell ⟨bm,0,none⟩ (.slice (some ⟨g2,0,none⟩) (fs.length+1+1) cap2)) bm { m with frames:=fs++[f1]++[⟨k,0,locs,[]⟩] } F'∧Xp F F' w (w5.setCell ⟨bm,0,none⟩ (.slice (some ⟨g2,0,none⟩) (fs.length+1+1) cap2)):=by
 have hne:=HT.ne
 have hlt:=HT.lt
 have hbls:bl<wr.heap.size:=(La hbl)
 have hg2:g2=fb∨wr.heap.size<g2:=by
  rcases hlies with h|h
  ·left;simpa using h.symm
  ·right;rw [h];simp
 have hg2bm:g2≠bm:=by
  have:=hlt bm (by simp)
  rcases hg2 with h|h
  ·rw [h];exact fun e=>hne.1 e.symm
  ·omega
 have h5:∀ b,b<wr.heap.size→b≠fb→w5.heap[b]?=wr.heap[b]?:=fun b hb hbf=>by
  rw [hg.block b (by simp;omega) (fun e=>hbf (by simpa using e))]
  exact Below.heap_alloc _ _ _ hb
 have ho:∀ b,b≠bm→(w5.setCell ⟨bm,0,none⟩ (.slice (some ⟨g2,0,none⟩) (fs.length+1+1) cap2)).heap[b]?=w5.heap[b]?:=fun b hb=>heap_setCell_other _ _ _ _ hb
 have hkeep:∀ b∈Fi++(Fl++Fs),(w5.setCell ⟨bm,0,none⟩ (.slice (some ⟨g2,0,none⟩) (fs.length+1+1) cap2)).heap[b]?=wr.heap[b]?:=fun b hb=>by
  rw [ho b (hne.2 b hb).1,h5 b (hlt b (by simp only [List.mem_cons];exact .inr (.inr hb))) (hne.2 b hb).2]
 have hblk:(w5.setCell ⟨bm,0,none⟩ (.slice (some ⟨g2,0,none⟩) (fs.length+1+1) cap2)).heap[bl]?=some (.cells (Xx locs) 3 (0,0)):=by
  rw [ho bl (fun e=>hnb (by simp [e])),h5 bl hbls (fun e=>hnb (by simp [e]))];exact hbl
 have hown':(w5.setCell ⟨bm,0,none⟩ (.slice (some ⟨g2,0,none⟩) (fs.length+1+1) cap2)).ownsRow 0 83 4 (.slice (some ⟨g2,0,none⟩) (fs.length+1+1) cap2) (fs.length+1+1) ((cs++[.int .i64 f1.fn,.int .i64 f1.pc,lv,sv])++[.int .i64 (k:Int),.int .i64 0,.slice (some ⟨bl,0,none⟩) n n,.slice none 0 0]):=by
  refine ⟨hown.1,?_⟩
  rcases hown.2 with ⟨h,_⟩|⟨g',c',cu,he,hb,hgg,r⟩
  ·cases h
  ·have:g'=g2:=by simp at he;exact he.1.symm
   exact .inr ⟨g',c',cu,he,hb,by rw [ho g' (by rw [this];exact hg2bm)];exact hgg,r⟩
 have hOl:Yv (w5.setCell ⟨bm,0,none⟩ (.slice (some ⟨g2,0,none⟩) (fs.length+1+1) cap2)) (.slice (some ⟨bl,0,none⟩) n n) locs [bl]:=
  ⟨⟨by simp,.inr ⟨bl,n,Xx locs,by rw [hn],Nat.zero_le _,hblk,by omega,by unfold maxLen;omega,by simp only [Xx,List.size_toArray,List.length_map,Nat.mul_one];exact hn,by simp only [Xx,Nat.mul_one];exact List.take_of_length_le (by simp)⟩⟩,rfl,h64⟩
 have hOs:Yv (w5.setCell ⟨bm,0,none⟩ (.slice (some ⟨g2,0,none⟩) (fs.length+1+1) cap2)) (.slice none 0 0) [] []:=⟨World.ownsRow_nil _ _ _ _,rfl,by simp⟩
 refine ⟨bm::g2::((Fi++(Fl++Fs))++([bl]++[])),⟨.slice (some ⟨g2,0,none⟩) (fs.length+1+1) cap2,(cs++[.int .i64 f1.fn,.int .i64 f1.pc,lv,sv])++[.int .i64 (k:Int),.int .i64 0,.slice (some ⟨bl,0,none⟩) n n,.slice none 0 0],(Fi++(Fl++Fs))++([bl]++[]),?_,?_,?_,by simp [Value.ownBlock],?_⟩,?_⟩
 ·exact heap_setCell_same _ _ _ _ _ _ (by rw [h5 bm (hlt bm (by simp)) hne.1];exact HT.mach)
 ·have:(fs++[f1]++[(⟨k,0,locs,[]⟩:Fra)]).length=fs.length+1+1:=by simp
  rw [this];exact hown'
 ·exact ((HT.init.keep (fun b hb=>hkeep b (by simp [hb]))).add (HT.loc.keep (fun b hb=>hkeep b (by simp [hb]))) (HT.stk.keep (fun b hb=>hkeep b (by simp [hb]))) HT.fn HT.pc).add (f:=⟨k,0,locs,[]⟩) hOl hOs ⟨by show (_:Int)≤(k:Int);omega,by show (k:Int)≤_;omega⟩ ⟨by show (_:Int)≤(0:Int);omega,by show (0:Int)≤_;omega⟩
 ·have hd:=HT.nodup
  simp only [List.nodup_cons,List.mem_cons,not_or] at hd hnb
  have hbig:∀ b∈Fi++(Fl++Fs),b<wr.heap.size:=fun b hb=>hlt b (by simp only [List.mem_cons];exact .inr (.inr hb))
  simp only [List.append_nil,List.nodup_cons,List.mem_cons,not_or]
  refine ⟨⟨fun e=>hg2bm e.symm,?_⟩,?_,?_⟩
  ·rw [List.mem_append,not_or];exact ⟨hd.1.2,by simp;exact fun e=>hnb.1 e.symm⟩
  ·rw [List.mem_append,not_or]
   constructor
   ·intro e
    rcases hg2 with h|h
    ·rw [h] at e;exact hd.2.1 e
    ·have:=hbig _ e;omega
   ·simp
    intro e
    rcases hg2 with h|h
    ·exact hnb.2.1 (e▸h)
    ·omega
  ·rw [List.nodup_append]
   exact ⟨hd.2.2,by simp,fun a ha b hb=>by simp at hb;subst hb;exact fun e=>hnb.2.2 (e▸ha)⟩
 ·refine ⟨hg.os.trans hM.os,hg.tape.trans hM.tape,hg.output.trans hM.output,by have h1:=hg.size;have h2:=hM.size;simp at h1 ⊢;omega,fun b hb hF=>?_,fun b hb=>?_⟩
  ·have hb':b<wr.heap.size:=Nat.lt_of_lt_of_le hb hM.size
   have hnF:=hM.notin hb hF
   rw [ho b (fun e=>hnF (by simp [e])),h5 b hb' (fun e=>hnF (by simp [e])),hM.block b hb hF]
  ·simp only [List.mem_cons,List.mem_append,List.append_nil,List.not_mem_nil,or_false] at hb
   rcases hb with hb|hb|(hb|hb|hb)|hb
   ·exact hM.new b (by simp [hb])
   ·rcases hg2 with h|h
    ·exact hM.new b (by simp [hb,h])
    ·right;have:=hM.size;omega
   ·exact hM.new b (by simp [hb])
   ·exact hM.new b (by simp [hb])
   ·exact hM.new b (by simp [hb])
   ·right;omega
theorem Xoh {f:Fra} {l args:List Int} {z:Nat} (hs:f.stack=l++args) (h:∀ n∈f.stack,in64 n):∀ n∈args++List.replicate z 0,in64 n:=fun n hn=>by
 rw [List.mem_append] at hn
 rcases hn with hn|hn
 ·exact h n (by rw [hs];simp [hn])
 ·rw [List.eq_of_mem_replicate hn];exact ⟨by decide,by decide⟩
theorem Xcc (args:List Int) (z:Nat):Qg args z 0=args++List.replicate z 0:=by simp [Qg]
/-- while arguments are popped: r are still to come; the new local variables lie in block bl -/
def Xby (W:World) (bm fb cap:Nat) (cs:List Value) (fs:List Fra) (f':Fra) (lv:Value) (m:Mch) (Fi Fl F:List Nat) (bl:Nat) (wr:World):Prop:=
 ∃ cur' sv' Fs',Xk wr bm fb cap cur' cs fs f' lv sv' m Fi Fl Fs'∧Xp (bl::F) (bl::bm::fb::(Fi++(Fl++Fs'))) W wr∧bl∉bm::fb::(Fi++(Fl++Fs'))
def Xoe (w:World) (bm fb cap:Nat) (cs:List Value) (fs:List Fra) (f:Fra) (l args:List Int) (z k:Nat) (lv:Value) (m:Mch) (Fi Fl F:List Nat) (e:Ending) (w':World):Prop:=
 (fs.length+1<200∧e=.returned (.tuple #[])∧∃ F',X3 w' bm { m with frames:=fs++[{ f with stack:=l }]++[⟨k,0,args++List.replicate z 0,[]⟩] } F'∧Xp F F' w w')∨
 (¬fs.length+1<200∧Vg (X0 19) w bm fb cap cs fs { f with stack:=l } lv m Fi Fl F e w')
theorem Xh8 {w:World} {bm fb cap:Nat} {cur:Array Value} {cs:List Value} {fs:List Fra} {f:Fra} {lv sv:Value} {m:Mch} {Fi Fl Fs:List Nat} (fa ga:Option Addr) (fn fc gc:Nat) (g:Int) (h:Xk w bm fb cap cur cs fs f lv sv m Fi Fl Fs) (hn:fs.length<200)
  (B:Nat) (hB:∀ b∈bm::fb::(Fi++(Fl++Fs)),B≤b) (funcs:List Fun) (hfl:funcs.length≤1000000) (hfs:Xf B w 5 (Zl B) (.slice ga funcs.length gc) funcs) (k:Nat) (x:Fun) (hx:funcs[k]?=some x) (l args:List Int) (hst:f.stack=l++args) (hp:x.params=args.length) (z:Nat) (hq:x.locals=args.length+z) (hq2:args.length+z≤100) (h64:∀ n∈f.stack,in64 n) (hm:m.frames=fs++[f]) :
  Calls Tryz.prog 124 #[Yw (.slice fa fn fc) (.slice ga funcs.length gc) g bm,.int .i64 (k:Int)] w (Xoe w bm fb cap cs fs f l args z k lv m Fi Fl (bm::fb::(Fi++(Fl++Fs)))):=by
 have hbA:=Xa w (.cells #[.slice fa fn fc,.int .i64 g,.slice ga funcs.length gc,.pointer (some ⟨bm,0,none⟩)] 134)
 have hlt:=Lh h.lt
 have HB:=Lh hB
 have hBw:B≤w.heap.size:=Nat.le_of_lt (Nat.lt_of_le_of_lt (hB bm (by simp)) (h.lt bm (by simp)))
 have hnot:w.heap.size∉bm::fb::(Fi++(Fl++Fs)):=fun e=>by have:=hlt.out _ e;omega
 obtain ⟨a0,cap0,he0,hl1,hl2,hl3,hE⟩:=hfs
 obtain ⟨rfl,rfl⟩:ga=a0∧gc=cap0:=by simpa using he0
 have hkl:k<funcs.length:=(Ll hx)
 rcases hE with h0|⟨b,o,rfl,hbB,hE⟩
 ·rw [h0] at hx;simp at hx
 obtain ⟨g1,g2,g3,g4,⟨xv,g5,g6⟩,g7,-,-⟩:=(hE k x hx).below (hbA.mono hBw) hbB
 obtain ⟨xa,xcap,rfl,-,-,-,-⟩:=g6
 have hbA2:=hbA.then (Xa _ (.cells #[.string x.name,.int .i64 x.params,.int .i64 x.locals,.bool x.result,.slice xa x.code.length xcap] 75))
 rw [hp] at g2
 rw [hq] at g3
 have H:=Lh h
 have HS:=Lh hst
 have H64:=Lh h64
 have HMM:=Lh hm
 have hmk:∀ W,(Instr.makeSlice 22 (.int .i64 ((args.length:Int)+(z:Int))) (.int .i64 ((args.length:Int)+(z:Int)))).run Tryz.prog W=.ok (.slice (some ⟨W.heap.size,0,none⟩) (args.length+z) (args.length+z)) (W.alloc (.cells (Xx (List.replicate (args.length+z) 0)) 3)):=by
  intro W
  have:=K7 W (args.length+z) (by omega)
  rw [Int.natCast_add] at this
  exact this
 clear h hB hE he0 hst hx hp hq h64 hm
 unfold Yw
 go_enter Tryz.func124,Tryz.ntmps124
 go_wp2_with fail
 obtain ⟨W3,hW3⟩:∃ W,W=(((w.alloc (.cells #[.slice fa fn fc,.int .i64 g,.slice (some ⟨b,o,none⟩) funcs.length gc,.pointer (some ⟨bm,0,none⟩)] 134)).alloc (.cells #[.string x.name,.int .i64 (args.length:Int),.int .i64 ((args.length:Int)+(z:Int)),.bool x.result,.slice xa x.code.length xcap] 75)).alloc (.cells (Xx (List.replicate (args.length+z) 0)) 3)):=⟨_,rfl⟩
 have hW3b:Below w.heap.size w W3:=by rw [hW3];exact (((Below.refl _ _).alloc (Nat.le_refl _) _).alloc (by simp) _).alloc (by simp;omega) _
 have hW3s:W3.heap.size=w.heap.size+1+1+1:=by rw [hW3];simp
 have hbox:Hid (Xo W3 w.heap.size [.slice fa fn fc,.int .i64 g,.slice (some ⟨b,o,none⟩) funcs.length gc,.pointer (some ⟨bm,0,none⟩)]):=by rw [hW3];exact (Xd.alloc _).alloc _
 have hbl:Hid (W3.heap[w.heap.size+1+1]?=some (.cells (Xx (Qg args z args.length)) 3 (0,0))):=by
  show _=_
  rw [Xc9,hW3]
  have:=heap_alloc_new ((w.alloc (.cells #[.slice fa fn fc,.int .i64 g,.slice (some ⟨b,o,none⟩) funcs.length gc,.pointer (some ⟨bm,0,none⟩)] 134)).alloc (.cells #[.string x.name,.int .i64 (args.length:Int),.int .i64 ((args.length:Int)+(z:Int)),.bool x.result,.slice xa x.code.length xcap] 75)) (.cells (Xx (List.replicate (args.length+z) 0)) 3)
  simpa using this
 have hnbl:w.heap.size+1+1∉bm::fb::(Fi++(Fl++Fs)):=fun e=>by have:=hlt.out _ e;omega
 have hnbl2:w.heap.size∉(w.heap.size+1+1)::bm::fb::(Fi++(Fl++Fs)):=fun e=>by
  rw [List.mem_cons] at e;rcases e with e|e;omega;exact hnot e
 have hst0:Hid (Xby W3 bm fb cap cs fs { f with stack:=l++args.take args.length } lv m Fi Fl (bm::fb::(Fi++(Fl++Fs))) (w.heap.size+1+1) W3):=by
  refine ⟨cur,sv,Fs,?_,Xp.self,hnbl⟩
  have:({ f with stack:=l++args.take args.length }:Fra)=f:=by rw [List.take_length,← HS.out]
  rw [this];exact H.out.keep hW3b
 rw [←hW3]
 have HW3:=Lh hW3
 have HW3s:=Lh hW3s
 clear hW3 hW3s hmk g1 g2 g3 g4 g5
 go_loopg [6] (args.length+1) (fun gk ix wr=>∃ r:Nat,r<gk∧r≤args.length∧ix=.int .i64 ((r:Int) - 1)∧Hid (Xby W3 bm fb cap cs fs { f with stack:=l++args.take r } lv m Fi Fl (bm::fb::(Fi++(Fl++Fs))) (w.heap.size+1+1) wr)∧Hid (wr.heap[w.heap.size+1+1]?=some (.cells (Xx (Qg args z r)) 3 (0,0))))
 case atStart=>exact ⟨args.length,by omega,Nat.le_refl _,rfl,hst0,hbl⟩
 case round=>
  obtain ⟨r,hr1,hr2,rfl,hst,hh⟩:=hrel
  obtain ⟨cur',sv',Fs',hT,hM,hnb⟩:=hst.out
  have k0:=hM.cell (hbox.out 0 _ rfl) hnbl2
  have k1:=hM.cell (hbox.out 1 _ rfl) hnbl2
  have k2:=hM.cell (hbox.out 2 _ rfl) hnbl2
  have k3:=hM.cell (hbox.out 3 _ rfl) hnbl2
  have hsz:w.heap.size+1+1<wr.heap.size:=(La hh.out)
  have hnw:w.heap.size∉bm::fb::(Fi++(Fl++Fs')):=fun e=>(hM.notin (by have:=HW3s.out;omega) hnbl2) (List.mem_cons_of_mem _ e)
  by_cases hr0:0<r
  ·obtain ⟨q,rfl⟩:∃ q,r=q+1:=⟨r - 1,by omega⟩
   obtain ⟨a,ha⟩:∃ a,args[q]?=some a:=⟨_,List.getElem?_eq_getElem (by omega)⟩
   have HT:=Lh hT
   have HM:=Lh hM
   have HA:=Lh ha
   clear hT hM ha
   go_wp2_with fail
   refine (X9 fa (some ⟨b,o,none⟩) fn fc funcs.length gc g HT.out (by omega) (l++args.take q) a (by show l++args.take (q+1)=_;rw [Xe4 HA.out,List.append_assoc])).mono ?_
   rintro e w2 ⟨rfl,cur2,sv2,Fs2,hT2,hM2⟩
   have hh2:w2.heap[w.heap.size+1+1]?=some (.cells (Xx (Qg args z (q+1))) 3 (0,0)):=by rw [hM2.block _ hsz hnb];exact hh.out
   have hnb2:=hM2.notin hsz hnb
   obtain ⟨old,hold⟩:∃ old,(Qg args z (q+1))[q]?=some old:=⟨_,List.getElem?_eq_getElem (by rw [Xdq (by omega)];omega)⟩
   have cl:w2.cell? ⟨w.heap.size+1+1,q,none⟩=some (.int .i64 old):=by rw [cell_of_row _ _ _ _ _ _ hh2];exact Qe hold
   have fr:=frozen_of_row _ _ q _ _ hh2
   have hnew:Hid ((w2.setCell ⟨w.heap.size+1+1,q,none⟩ (.int .i64 a)).heap[w.heap.size+1+1]?=some (.cells (Xx (Qg args z q)) 3 (0,0))):=by
    show _=_;rw [heap_setCell_same _ _ _ _ _ _ hh2,Jq,Xd4 HA.out]
   have ho:∀ bb,bb≠w.heap.size+1+1→(w2.setCell ⟨w.heap.size+1+1,q,none⟩ (.int .i64 a)).heap[bb]?=w2.heap[bb]?:=fun bb hb=>heap_setCell_other _ _ _ _ hb
   have hst2:Hid (Xby W3 bm fb cap cs fs { f with stack:=l++args.take q } lv m Fi Fl (bm::fb::(Fi++(Fl++Fs))) (w.heap.size+1+1) (w2.setCell ⟨w.heap.size+1+1,q,none⟩ (.int .i64 a))):=by
    refine ⟨cur2,sv2,Fs2,?_,(HM.out.trans (hM2.wide (F:=(w.heap.size+1+1)::bm::fb::(Fi++(Fl++Fs'))) (F':=(w.heap.size+1+1)::bm::fb::(Fi++(Fl++Fs2))) (fun b hb=>List.mem_cons_of_mem _ hb) (fun b hb=>?_))).trans ⟨rfl,rfl,rfl,by simp,fun k hk hF=>ho k (fun e=>hF (by simp [e])),fun _ h=>.inl h⟩,hnb2⟩
    ·exact hT2.sub (fun b hb=>ho b (fun e=>hnb2 (e▸hb)))
    ·rw [List.mem_cons] at hb;rcases hb with hb|hb;right;simp [hb];left;exact hb
   clear hT2 hM2 hold hh2
   go_wp2_with fail
   go_roundg (gk - 1)
   case measure=>omega
   case rel=>exact ⟨q,by omega,by omega,by go_num,hst2,hnew⟩
  ·obtain rfl:r=0:=by omega
   have hMw:=Lh ((hM.drop hW3b (by omega)).wide (F:=bm::fb::(Fi++(Fl++Fs))) (F':=bm::fb::(Fi++(Fl++Fs'))) (fun _ h=>h) (fun _ h=>.inl (List.mem_cons_of_mem _ h)))
   have HT:Hid (Xk wr bm fb cap cur' cs fs { f with stack:=l } lv sv' m Fi Fl Fs'):=by
    have e:({ f with stack:=l++args.take 0 }:Fra)={ f with stack:=l }:=by simp
    rw [e] at hT;exact hT
   have hh0:Hid (wr.heap[w.heap.size+1+1]?=some (.cells (Xx (args++List.replicate z 0)) 3 (0,0))):=by show _=_;rw [←Xcc];exact hh.out
   have cF:=HT.out.cFrames
   have fF:=HT.out.frm 0
   have hbm:bm<wr.heap.size:=HT.out.lt bm (by simp)
   have hbmfb:¬bm=fb:=HT.out.ne.1
   have hsz0:w.heap.size<wr.heap.size:=by omega
   have hwfb:¬w.heap.size=fb:=fun e=>hnw (by simp [e])
   by_cases hlen:fs.length+1<200
   ·have hrow:=Lh HT.out.rowOwn
    obtain ⟨ti,hti,hz0,hz1,hz2⟩:=info_parts Vb
    clear hT hM
    go_wp2_with fail
    go_region_law (refine step_append_lies _ rfl (.tmp 43) (.tmp 47) 31 rfl 0 83 ti (.agg #[.int .i64 0,.int .i64 0,.slice none 0 0,.slice none 0 0]) 4 64 Tryz.underlying31 hti hz0 hz1 hz2 rfl (by decide) (.slice (some ⟨fb,0,none⟩) (fs.length+1) cap) (fs.length+1) (cs++[.int .i64 f.fn,.int .i64 f.pc,lv,sv']) rfl ((hrow.out.alloc _).drew) ⟨wr.heap.size,0,none⟩ 1 1 [.int .i64 (k:Int),.int .i64 0,.slice (some ⟨w.heap.size+1+1,0,none⟩) (args.length+z) (args.length+z),.slice none 0 0] rfl rfl (Xft wr _ _) (by simp [Value.oneCell']) (by omega) (by unfold maxLen;omega) (by omega) (Nat.zero_le _) _ rfl ?_;intro g2 cap2 w5 hown5 hg5 hlies hg2lt;have Hown5:=Lh hown5;have Hg5:=Lh hg5;have cF5:=(World.grownBy.cell hg5 (show ((wr.alloc (.cells #[.int .i64 (k:Int),.int .i64 0,.slice (some ⟨w.heap.size+1+1,0,none⟩) (args.length+z) (args.length+z),.slice none 0 0] 83)).drew).cell? ⟨bm,0,none⟩=_ from Xc (Xa _ _) cF) (by simp [Value.ownBlock];exact hbmfb));have k35:=(World.grownBy.cell hg5 (show ((wr.alloc (.cells #[.int .i64 (k:Int),.int .i64 0,.slice (some ⟨w.heap.size+1+1,0,none⟩) (args.length+z) (args.length+z),.slice none 0 0] 83)).drew).cell? ⟨w.heap.size,3,none⟩=_ from Xc (Xa _ _) k3) (by simp [Value.ownBlock];exact hwfb));have fF5:w5.frozen? ⟨bm,0,none⟩=false:=(by rw [World.frozen?_of_block (w:=wr) (a:=⟨bm,0,none⟩) (by rw [hg5.block bm (by simp;omega) (by simp [Value.ownBlock];exact hbmfb)];exact Below.heap_alloc _ _ _ hbm)];exact fF);clear hown5 hg5)
    all_goals go_end0
    all_goals exact .inl ⟨hlen,rfl,Xij HT.out hMw.out (by simp) (by omega) (Xoh HS.out H64.out) (by omega) (by omega) hnb hh0.out Hown5.out Hg5.out hlies⟩
   ·clear hT hM
    go_wp2_with fail
    refine (Jx fa (some ⟨b,o,none⟩) fn fc funcs.length gc g bm 19 _).mono ?_
    rintro e w4 ⟨rfl,hb4⟩
    exact ⟨rfl,.inr ⟨hlen,rfl,Yz.then ⟨cur',sv',Fs',HT.out,hMw.out⟩ hb4⟩⟩
end Go.Proofs.YtbmeoklmachjpaaGreatDoor
