/- Contracts of bytecode.Check, bytecode.Heights, vm.sound. A machine that the call itself owns: the blocks of its frames, their local variables and stacks lie apart. -/
import Derived.Test.YtbmeoklmachjpaaGreatDoorHts
set_option maxHeartbeats 1000000
set_option maxRecDepth 100000
set_option linter.unusedVariables false
set_option linter.unusedSimpArgs false
namespace Go.Proofs.YtbmeoklmachjpaaGreatDoor
open Go.RowKit
/-- a code is sound -/
def Xv (c:Cod):Prop:=Xcs c∧Q4 c=false∧∀ f∈c.funcs,Zh c f
noncomputable def Xa2 (c:Cod):Bool:=@decide (Xv c) (Classical.propDecidable _)
theorem Zg {c:Cod} (h:Xv c):Xa2 c=true:=by unfold Xa2;exact @decide_eq_true _ (Classical.propDecidable _) h
theorem Jp {c:Cod} (h:¬Xv c):Xa2 c=false:=by unfold Xa2;exact @decide_eq_false _ (Classical.propDecidable _) h
theorem Xq3 {c:Cod}:Xa2 c=true↔Xv c:=by
 constructor
 ·intro h
  by_cases hs:Xv c
  ·exact hs
  ·rw [Jp hs] at h;cases h
 ·exact Zg
theorem Xdo {c:Cod} {f:Fun} {x:Ins} (hw:Q4 c=false) (hf:f∈c.funcs) (hx:x∈f.code):Zq c f x=true:=by
 unfold Q4 at hw
 rw [List.any_eq_false] at hw
 have:=hw f hf
 simp only [Bool.not_eq_true] at this
 rw [List.any_eq_false] at this
 simpa using this x hx
theorem Xj2 (b:Bool):0≤b2i b∧b2i b≤1:=by cases b<;>simp [b2i]
theorem Xqa (op:Int):0≤Y1 op∧Y1 op≤2:=by unfold Y1;split<;>(try split)<;>omega
theorem Xon (op:Int):0≤Z7 op∧Z7 op≤2:=by unfold Z7;split<;>(try split)<;>omega
theorem Xfv {c:Cod} (h:Xcs c) {f:Fun} (hf:f∈c.funcs):Zr f:=by
 obtain ⟨i,hi,rfl⟩:=List.getElem_of_mem hf
 exact (h.2.2.2.2.2 i _ (List.getElem?_eq_getElem hi)).2.1
theorem Xjy {c:Cod} {f:Fun} (h:Xcs c) (hw:Q4 c=false) (hf:f∈c.funcs):WfF c f:=by
 have hok:=Xfv h hf
 unfold Zr at hok
 have hop:∀ x∈f.code,1≤x.op∧x.op≤31:=fun x hx=>by
  have:=Xdo hw hf hx
  unfold Zq at this
  split at this
  ·cases this
  ·omega
 have hlim:∀ x∈f.code,∀ n,Jw c f x.op=some n→0≤x.a∧x.a<n:=fun x hx n hn=>by
  have:=Xdo hw hf hx
  have h2:=hop x hx
  unfold Zq at this
  rw [if_neg (by omega),hn] at this
  simpa using this
 refine ⟨hok.2.2.2.2.1,hok.2.2.2.2.2,hop,fun x hx h9=>?_,fun x hx hj=>?_,fun x hx=>?_,fun x hx=>?_⟩
 ·have:=hlim x hx c.funcs.length (by unfold Jw;rw [h9];rfl)
  exact this
 ·rcases hj with hj|hj
  ·exact hlim x hx f.code.length (by unfold Jw;rw [hj];rfl)
  ·exact hlim x hx f.code.length (by unfold Jw;rw [hj];rfl)
 ·unfold Xm
  split
  ·cases hg:Je c x.a with
   | none=>simp
   | some g=>
    have:=Xfv h (List.mem_of_getElem? hg)
    unfold Zr at this
    simp only []
    omega
  ·split
   ·have:=Xj2 f.result;omega
   ·split
    ·omega
    ·have:=Xqa x.op;omega
 ·unfold Xj
  split
  ·cases hg:Je c x.a with
   | none=>simp
   | some g=>have:=Xj2 g.result;simp only [];omega
  ·split
   ·omega
   ·split
    ·omega
    ·exact Xon x.op
def Xkl (c:Cod) (w:World) (e:Ending) (w':World):Prop:=
 ∃ i k err:Int,e=.returned (.tuple #[.int .i64 i,.int .i64 k,.int .i64 err])∧(err=0↔Xv c)∧Below w.heap.size w w'
theorem Xlz (c:Cod) (cv:Value) (B:Nat) (w:World) (hL:Qa w) (hB:B≤w.heap.size) (hc:Yj B w cv c) :
  Calls Tryz.prog 63 #[cv] w (Xkl c w):=by
 have HC:=Lh hc
 have HL:=Lh hL
 obtain ⟨cfv,cgv,rfl,hcf,hcg,-⟩:=hc
 obtain ⟨ca,ccap,rfl,-,-,-,-⟩:=hcf
 obtain ⟨cb,cbcap,rfl,hl1,hl2,hl3,hgE⟩:=hcg
 have HGE:=Lh hgE
 clear hL hgE
 go_enter Tryz.func63,Tryz.ntmps63
 go_wp2_with fail
 refine (Xea c _ B _ (HL.out.below (Xa _ _)) (by simp;omega) (HC.out.below ((Xa _ _).mono hB))).mono ?_
 rintro e w1 ⟨rfl,hb⟩
 have k0:=Zu hb 0 _ rfl
 have k1:=Zu hb 1 _ rfl
 have k2:=Zu hb 2 _ rfl
 have hbw:=Yi hb
 have hz:w.heap.size<w1.heap.size:=Bl k0
 by_cases hh:Xcs c
 ·rw [K6 hh]
  have HH:=Lh hh
  clear hh
  go_wp2_with fail
  refine (Xfd c _ B _ (Nat.le_trans hB hbw.size) (HC.out.below (hbw.mono hB))).mono ?_
  rintro e w2 ⟨i,k,rfl,hb2⟩
  have k0':=Xc hb2 k0
  have k1':=Xc hb2 k1
  have k2':=Xc hb2 k2
  have hz2:w.heap.size<w2.heap.size:=Bl k0'
  have hbw2:=hbw.then hb2
  clear k0 k1 k2
  cases hwr:Q4 c with
  | true=>
   have hno:Hid (¬Xv c):=fun h=>by rw [h.2.1] at hwr;cases hwr
   clear hwr
   go_wp2_with fail
   go_ret3
   exact ⟨_,_,_,rfl,⟨(fun h=>by cases h),fun h=>absurd h hno⟩,hbw2⟩
  | false=>
   have HWR:=Lh hwr
   clear hwr
   go_wp2_with fail
   go_loopg [28] (c.funcs.length+1) (fun gk ix wr=>∃ k:Nat,c.funcs.length+1≤gk+k∧k≤c.funcs.length∧ix=.int .i64 k∧Below w2.heap.size w2 wr∧Hid (∀ (j:Nat) f,j<k→c.funcs[j]?=some f→Zh c f))
   case atStart=>exact ⟨0,by omega,Nat.zero_le _,rfl,Below.refl _ _,fun j f hj=>by omega⟩
   case round=>
    obtain ⟨k,hgk,hk,rfl,hbr,hall⟩:=hrel
    have hbwr:=hbw2.then hbr
    have m0:=Xc hbr k0'
    have m1:=Xc hbr k1'
    have m2:=Xc hbr k2'
    have hzr:w.heap.size<wr.heap.size:=Bl m0
    by_cases hlt:k<c.funcs.length
    ·obtain ⟨x,hx⟩:∃ x,c.funcs[k]?=some x:=⟨_,List.getElem?_eq_getElem hlt⟩
     rcases HGE.out with h|⟨b,o,rfl,hbB,hE⟩
     ·rw [h] at hx;simp at hx
     have hE:=(hE k x hx).below (hbwr.mono hB) hbB
     obtain ⟨g1,g2,g3,g4,⟨xv,g5,g6⟩,g7,g8,g9⟩:=hE
     have H6:=Lh g6
     obtain ⟨xa,xcap,rfl,-,-,-,-⟩:=g6
     have hwf:=Lh (Xjy HH.out HWR.out (List.mem_of_getElem? hx))
     have HX:=Lh hx
     clear hx
     have hbA:=hbwr.then (Xa wr (.cells #[.string x.name,.int .i64 x.params,.int .i64 x.locals,.bool x.result,.slice xa x.code.length xcap] 75))
     clear k0' k1' k2'
     go_wp2_with fail
     refine (Xcl c _ x _ B _ (HL.out.below hbA) (Nat.le_trans hB hbA.size) (HC.out.below (hbA.mono hB)) ⟨_,rfl,H6.out.inss ((Xa _ _).mono (Nat.le_trans hB hbwr.size)),g7,g8,g9⟩ hwf.out).mono ?_
     rintro e w3 (⟨q,err,rfl,he,he64,hno,hb3⟩|⟨g,hs,rfl,hg,hh3,hS,hA,hb3⟩)
     ·have hfin:Hid (¬Xv c):=fun h=>hno (h.2.2 x (List.mem_of_getElem? HX.out))
      have e1:(err != 0)=true:=bne_iff_ne.2 he
      have hb4:=hbA.then hb3
      clear hno
      go_wp2_with fail
      go_ret3
      exact ⟨_,_,_,rfl,⟨fun h=>absurd h he,fun h=>absurd h hfin⟩,hb4⟩
     ·have hnew:Hid (∀ (j:Nat) f,j<k+1→c.funcs[j]?=some f→Zh c f):=fun j f hj hf=>by
       by_cases e:j=k
       ·subst e;rw [HX.out] at hf;cases hf;exact hS
       ·exact hall j f (by omega) hf
      have hb4:=hbr.thenA hb3
      clear hS hA hh3
      go_wp2_with fail
      go_roundg (gk - 1)
      case measure=>omega
      case rel=>exact ⟨k+1,by omega,by omega,by go_num,hb4,hnew⟩
    ·have hyes:Hid (Xv c):=⟨HH.out,HWR.out,fun f hf=>by
      obtain ⟨j,hj,rfl⟩:=List.getElem_of_mem hf
      exact hall j _ (by omega) (List.getElem?_eq_getElem hj)⟩
     go_wp2_with fail
     go_ret3
     exact ⟨_,_,_,rfl,⟨fun _=>hyes,fun _=>rfl⟩,hbwr⟩
 ·rw [Zc hh]
  have hno:Hid (¬Xv c):=fun h=>hh h.1
  clear hh
  go_wp2_with fail
  go_ret3
  exact ⟨_,_,_,rfl,⟨(fun h=>by cases h),fun h=>absurd h hno⟩,hbw⟩
theorem Jm (c:Cod) (cv:Value) (B:Nat) (w:World) (hL:Qa w) (hB:B≤w.heap.size) (hc:Yj B w cv c) :
  Calls Tryz.prog 32 #[cv] w fun e w'=>e=.returned (.bool (Xa2 c))∧Below w.heap.size w w':=by
 have HC:=Lh hc
 have HL:=Lh hL
 obtain ⟨cfv,cgv,rfl,hcf,hcg,-⟩:=hc
 obtain ⟨ca,ccap,rfl,-,-,-,-⟩:=hcf
 obtain ⟨cb,cbcap,rfl,hl1,hl2,hl3,-⟩:=hcg
 clear hL
 go_enter Tryz.func32,Tryz.ntmps32
 go_wp2_with fail
 refine (Xlz c _ B _ (HL.out.below (Xa _ _)) (by simp;omega) (HC.out.below ((Xa _ _).mono hB))).mono ?_
 rintro e w1 ⟨i,k,err,rfl,hiff,hb⟩
 have hbw:=Yi hb
 by_cases he:err=0
 ·have hfin:=Lh (Zg (hiff.1 he))
  subst he
  clear hiff
  go_wp2_with fail
  go_ret
  exact ⟨by rw [hfin.out];rfl,hbw⟩
 ·have hfin:=Lh (Jp (fun h=>he (hiff.2 h)))
  have e1:(err == 0)=false:=beq_eq_false_iff_ne.2 he
  clear hiff
  go_wp2_with fail
  go_ret
  exact ⟨by rw [hfin.out];exact congrArg (fun b=>Ending.returned (.bool b)) (by first|exact e1|rfl),hbw⟩
/-- a slice of integers in a block of its own -/
def Yv (w:World) (v:Value) (l:List Int) (F:List Nat):Prop:=
 w.ownsRow 0 3 1 v l.length (l.map (Value.int .i64))∧F=v.ownBlock.toList∧(∀ n∈l,in64 n)
def Yl (w:World):List Value→List Fra→List Nat→Prop
 | cells,[],F=>cells=[]∧F=[]
 | cells,f::fs,F=>∃ lv sv cs Fl Fs Fr,cells=.int .i64 f.fn::.int .i64 f.pc::lv::sv::cs∧Yv w lv f.locals Fl∧Yv w sv f.stack Fs∧in64 f.fn∧in64 f.pc∧Yl w cs fs Fr∧F=Fl++(Fs++Fr)
/-- what has changed: nothing but the blocks of F and new ones; F' is what is owned afterwards -/
structure Xp (F F':List Nat) (w w':World):Prop where
 os:w'.os=w.os
 tape:w'.tape=w.tape
 output:w'.output=w.output
 size:w.heap.size≤w'.heap.size
 block:∀ k,k<w.heap.size→k∉F→w'.heap[k]?=w.heap[k]?
 new:∀ b∈F',b∈F∨w.heap.size≤b
theorem Xp.trans {F F' F'':List Nat} {a b c:World} (h:Xp F F' a b) (k:Xp F' F'' b c):Xp F F'' a c:=
 ⟨k.os.trans h.os,k.tape.trans h.tape,k.output.trans h.output,Nat.le_trans h.size k.size,fun i hi hF=>by
  rw [k.block i (Nat.lt_of_lt_of_le hi h.size) (fun hF'=>by rcases h.new i hF' with h1|h1;exact hF h1;omega),h.block i hi hF],fun x hx=>by
  rcases k.new x hx with h1|h1
  ·exact h.new x h1
  ·have:=h.size;right;omega⟩
theorem Xp.of_below {F:List Nat} {w w':World} (h:Below w.heap.size w w'):Xp F F w w':=⟨h.os,h.tape,h.output,h.size,fun k hk _=>h.block k hk,fun _ hb=>.inl hb⟩
theorem Xp.below {B:Nat} {F F':List Nat} {w w':World} (h:Xp F F' w w') (hF:∀ b∈F,B≤b) (hB:B≤w.heap.size):Below B w w':=
 ⟨h.os,h.tape,h.output,h.size,fun k hk=>h.block k (by omega) (fun hm=>by have:=hF k hm;omega)⟩
theorem Xp.cell {F F':List Nat} {w w':World} (h:Xp F F' w w') {a:Addr} {v:Value} (hc:w.cell? a=some v) (hF:a.block∉F):w'.cell? a=some v:=by
 rw [World.cell?_of_block (w:=w) (h.block a.block (World.block_lt_of_cell? w a hc) hF)];exact hc
theorem Xp.ge {B:Nat} {F F':List Nat} {w w':World} (h:Xp F F' w w') (hF:∀ b∈F,B≤b) (hB:B≤w.heap.size):∀ b∈F',B≤b:=fun b hb=>by
 rcases h.new b hb with h1|h1
 ·exact hF b h1
 ·omega
theorem Yv.keep {w w':World} {v:Value} {l:List Int} {F:List Nat} (h:Yv w v l F) (hk:∀ b∈F,w'.heap[b]?=w.heap[b]?):Yv w' v l F:=by
 obtain ⟨h1,h2,h4⟩:=h
 subst h2
 refine ⟨⟨h1.1,?_⟩,rfl,h4⟩
 rcases h1.2 with h3|⟨g,cap,cur,rfl,hb,hg,r⟩
 ·exact .inl h3
 ·exact .inr ⟨g,cap,cur,rfl,hb,by rw [hk g (by simp [Value.ownBlock])];exact hg,r⟩
theorem Yv.lt {w:World} {v:Value} {l:List Int} {F:List Nat} (h:Yv w v l F):∀ b∈F,b<w.heap.size:=fun b hb=>by
 obtain ⟨h1,h2,_⟩:=h
 subst h2
 simp at hb
 exact (h1.lt b hb).2
theorem Yl.keep {w w':World}:∀ {fs:List Fra} {cells:List Value} {F:List Nat},Yl w cells fs F→(∀ b∈F,w'.heap[b]?=w.heap[b]?)→Yl w' cells fs F
 | [],_,_,h,_=>h
 | _::_,_,_,h,hk=>by
  obtain ⟨lv,sv,cs,Fl,Fs,Fr,h1,h2,h3,h4,h5,h6,rfl⟩:=h
  exact ⟨lv,sv,cs,Fl,Fs,Fr,h1,h2.keep (fun b hb=>hk b (by simp [hb])),h3.keep (fun b hb=>hk b (by simp [hb])),h4,h5,h6.keep (fun b hb=>hk b (by simp [hb])),rfl⟩
theorem Yl.lt {w:World}:∀ {fs:List Fra} {cells:List Value} {F:List Nat},Yl w cells fs F→∀ b∈F,b<w.heap.size
 | [],_,_,h,b,hb=>by obtain ⟨_,rfl⟩:=h;simp at hb
 | _::_,_,_,h,b,hb=>by
  obtain ⟨lv,sv,cs,Fl,Fs,Fr,h1,h2,h3,h4,h5,h6,rfl⟩:=h
  simp at hb
  rcases hb with hb|hb|hb
  ·exact h2.lt b hb
  ·exact h3.lt b hb
  ·exact h6.lt b hb
theorem Yl.len {w:World}:∀ {fs:List Fra} {cells:List Value} {F:List Nat},Yl w cells fs F→cells.length=fs.length*4
 | [],_,_,h=>by obtain ⟨rfl,_⟩:=h;rfl
 | _::_,_,_,h=>by
  obtain ⟨lv,sv,cs,Fl,Fs,Fr,rfl,h2,h3,h4,h5,h6,rfl⟩:=h
  simp [h6.len]
  omega
theorem Yl.snoc {w:World}:∀ {fs:List Fra} {f:Fra} {cells:List Value} {F:List Nat},Yl w cells (fs++[f]) F→
  ∃ cs lv sv Fi Fl Fs,cells=cs++[.int .i64 f.fn,.int .i64 f.pc,lv,sv]∧Yl w cs fs Fi∧Yv w lv f.locals Fl∧Yv w sv f.stack Fs∧in64 f.fn∧in64 f.pc∧F=Fi++(Fl++Fs)
 | [],f,cells,F,h=>by
  obtain ⟨lv,sv,cs,Fl,Fs,Fr,rfl,h2,h3,h4,h5,⟨rfl,rfl⟩,rfl⟩:=h
  exact ⟨[],lv,sv,[],Fl,Fs,rfl,⟨rfl,rfl⟩,h2,h3,h4,h5,by simp⟩
 | g::fs,f,cells,F,h=>by
  obtain ⟨lv,sv,cs,Fl,Fs,Fr,rfl,h2,h3,h4,h5,h6,rfl⟩:=h
  obtain ⟨cs',lv',sv',Fi,Fl',Fs',rfl,k2,k3,k4,k5,k6,rfl⟩:=h6.snoc
  exact ⟨_,lv',sv',Fl++(Fs++Fi),Fl',Fs',by simp,⟨lv,sv,cs',Fl,Fs,Fi,rfl,h2,h3,h4,h5,k2,rfl⟩,k3,k4,k5,k6,by simp⟩
theorem Yl.add {w:World}:∀ {fs:List Fra} {f:Fra} {cs:List Value} {lv sv:Value} {Fi Fl Fs:List Nat},Yl w cs fs Fi→Yv w lv f.locals Fl→Yv w sv f.stack Fs→in64 f.fn→in64 f.pc→
  Yl w (cs++[.int .i64 f.fn,.int .i64 f.pc,lv,sv]) (fs++[f]) (Fi++(Fl++Fs))
 | [],f,cs,lv,sv,Fi,Fl,Fs,h,h2,h3,h4,h5=>by
  obtain ⟨rfl,rfl⟩:=h
  exact ⟨lv,sv,[],Fl,Fs,[],rfl,h2,h3,h4,h5,⟨rfl,rfl⟩,by simp⟩
 | g::fs,f,cs,lv,sv,Fi,Fl,Fs,h,h2,h3,h4,h5=>by
  obtain ⟨lv',sv',cs',Fl',Fs',Fr',rfl,k2,k3,k4,k5,k6,rfl⟩:=h
  exact ⟨lv',sv',_,Fl',Fs',Fr'++(Fl++Fs),rfl,k2,k3,k4,k5,k6.add h2 h3 h4 h5,by simp⟩
def Xb (fv:Value) (m:Mch):Array Value:=#[fv,.int .i64 m.req.kind,.int .i64 m.req.node,.int .i64 m.req.field,.int .i64 m.req.value,.int .i64 m.req.fault,.int .i64 m.fuel,.int .i64 m.compares,.int .i64 m.idle]
/-- the machine m in block bm; F: all its blocks -/
def X3 (w:World) (bm:Nat) (m:Mch) (F:List Nat):Prop:=
 ∃ fv cells Fr,w.heap[bm]?=some (.cells (Xb fv m) 36 (0,0))∧w.ownsRow 0 83 4 fv m.frames.length cells∧Yl w cells m.frames Fr∧F=bm::(fv.ownBlock.toList++Fr)∧F.Nodup
/-- the same, the last frame apart -/
structure Xk (w:World) (bm fb cap:Nat) (cur:Array Value) (cs:List Value) (fs:List Fra) (f:Fra) (lv sv:Value) (m:Mch) (Fi Fl Fs:List Nat):Prop where
 mach:w.heap[bm]?=some (.cells (Xb (.slice (some ⟨fb,0,none⟩) (fs.length+1) cap) m) 36 (0,0))
 row:w.heap[fb]?=some (.cells cur 83 (0,0))
 capl:fs.length+1≤cap
 capm:cap≤9223372036854775807
 csize:cur.size=cap*4
 take:cur.toList.take ((fs.length+1)*4)=cs++[.int .i64 f.fn,.int .i64 f.pc,lv,sv]
 init:Yl w cs fs Fi
 loc:Yv w lv f.locals Fl
 stk:Yv w sv f.stack Fs
 fn:in64 f.fn
 pc:in64 f.pc
 nodup:(bm::fb::(Fi++(Fl++Fs))).Nodup
theorem X3.top {w:World} {bm:Nat} {m:Mch} {F:List Nat} {fs:List Fra} {f:Fra} (h:X3 w bm m F) (hm:m.frames=fs++[f]) :
  ∃ fb cap cur cs lv sv Fi Fl Fs,Xk w bm fb cap cur cs fs f lv sv m Fi Fl Fs∧F=bm::fb::(Fi++(Fl++Fs)):=by
 obtain ⟨fv,cells,Fr,h1,h2,h3,rfl,h5⟩:=h
 rw [hm] at h2 h3
 obtain ⟨cs,lv,sv,Fi,Fl,Fs,rfl,k2,k3,k4,k5,k6,rfl⟩:=h3.snoc
 rcases h2.2 with ⟨_,hn⟩|⟨g,cap,cur,rfl,_,hg,hc,hcm,hs,ht⟩
 ·simp at hn
 ·simp only [List.length_append,List.length_singleton] at hc ht h1
  refine ⟨g,cap,cur,cs,lv,sv,Fi,Fl,Fs,⟨h1,hg,hc,by unfold maxLen at hcm;omega,hs,ht,k2,k3,k4,k5,k6,?_⟩,?_⟩
  ·simpa [Value.ownBlock] using h5
  ·simp [Value.ownBlock]
theorem Xk.cslen {w:World} {bm fb cap:Nat} {cur:Array Value} {cs:List Value} {fs:List Fra} {f:Fra} {lv sv:Value} {m:Mch} {Fi Fl Fs:List Nat} (h:Xk w bm fb cap cur cs fs f lv sv m Fi Fl Fs):cs.length=fs.length*4:=h.init.len
theorem Xk.own {w:World} {bm fb cap:Nat} {cur:Array Value} {cs:List Value} {fs:List Fra} {f:Fra} {lv sv:Value} {m:Mch} {Fi Fl Fs:List Nat} (h:Xk w bm fb cap cur cs fs f lv sv m Fi Fl Fs) (hm:m.frames=fs++[f]) :
  X3 w bm m (bm::fb::(Fi++(Fl++Fs))):=by
 have hn:m.frames.length=fs.length+1:=by rw [hm];simp
 refine ⟨.slice (some ⟨fb,0,none⟩) (fs.length+1) cap,cs++[.int .i64 f.fn,.int .i64 f.pc,lv,sv],Fi++(Fl++Fs),h.mach,?_,by rw [hm];exact h.init.add h.loc h.stk h.fn h.pc,by simp [Value.ownBlock],h.nodup⟩
 rw [hn]
 refine ⟨by simp [h.cslen];omega,.inr ⟨fb,cap,cur,rfl,Nat.zero_le _,h.row,h.capl,by unfold maxLen;have:=h.capm;omega,h.csize,h.take⟩⟩
theorem Xk.keep {w w':World} {bm fb cap:Nat} {cur:Array Value} {cs:List Value} {fs:List Fra} {f:Fra} {lv sv:Value} {m:Mch} {Fi Fl Fs:List Nat} (h:Xk w bm fb cap cur cs fs f lv sv m Fi Fl Fs) (hb:Below w.heap.size w w'):Xk w' bm fb cap cur cs fs f lv sv m Fi Fl Fs:=
 ⟨by rw [hb.block bm (La h.mach)];exact h.mach,by rw [hb.block fb (La h.row)];exact h.row,h.capl,h.capm,h.csize,h.take,h.init.keep (fun b hb'=>hb.block b (h.init.lt b hb')),h.loc.keep (fun b hb'=>hb.block b (h.loc.lt b hb')),h.stk.keep (fun b hb'=>hb.block b (h.stk.lt b hb')),h.fn,h.pc,h.nodup⟩
theorem Xk.sub {w w':World} {bm fb cap:Nat} {cur:Array Value} {cs:List Value} {fs:List Fra} {f:Fra} {lv sv:Value} {m:Mch} {Fi Fl Fs:List Nat} (h:Xk w bm fb cap cur cs fs f lv sv m Fi Fl Fs) (hb:∀ b∈bm::fb::(Fi++(Fl++Fs)),w'.heap[b]?=w.heap[b]?):Xk w' bm fb cap cur cs fs f lv sv m Fi Fl Fs:=
 ⟨by rw [hb bm (by simp)];exact h.mach,by rw [hb fb (by simp)];exact h.row,h.capl,h.capm,h.csize,h.take,h.init.keep (fun b hb'=>hb b (by simp [hb'])),h.loc.keep (fun b hb'=>hb b (by simp [hb'])),h.stk.keep (fun b hb'=>hb b (by simp [hb'])),h.fn,h.pc,h.nodup⟩
theorem Xk.at_ {w:World} {bm fb cap:Nat} {cur:Array Value} {cs:List Value} {fs:List Fra} {f:Fra} {lv sv:Value} {m:Mch} {Fi Fl Fs:List Nat} (h:Xk w bm fb cap cur cs fs f lv sv m Fi Fl Fs) (j:Nat) (v:Value) (hv:([.int .i64 f.fn,.int .i64 f.pc,lv,sv]:List Value)[j]?=some v):w.cell? ⟨fb,fs.length*4+j,none⟩=some v:=by
 rw [cell_of_row _ _ _ _ _ _ h.row]
 have h1:(cs++[.int .i64 f.fn,.int .i64 f.pc,lv,sv])[fs.length*4+j]?=some v:=by
  rw [List.getElem?_append_right (by rw [h.cslen];omega),h.cslen,Nat.add_sub_cancel_left];exact hv
 rw [←h.take,List.getElem?_take] at h1
 split at h1
 ·simpa using h1
 ·cases h1
theorem Xk.ofm {w:World} {bm fb cap:Nat} {cur:Array Value} {cs:List Value} {fs:List Fra} {f:Fra} {lv sv:Value} {m:Mch} {Fi Fl Fs:List Nat} (h:Xk w bm fb cap cur cs fs f lv sv m Fi Fl Fs) (j:Nat) (v:Value) (hv:(Xb (.slice (some ⟨fb,0,none⟩) (fs.length+1) cap) m)[j]?=some v):w.cell? ⟨bm,j,none⟩=some v:=by
 rw [cell_of_row _ _ _ _ _ _ h.mach];exact hv
theorem Xk.cFrames {w:World} {bm fb cap:Nat} {cur:Array Value} {cs:List Value} {fs:List Fra} {f:Fra} {lv sv:Value} {m:Mch} {Fi Fl Fs:List Nat} (h:Xk w bm fb cap cur cs fs f lv sv m Fi Fl Fs):w.cell? ⟨bm,0,none⟩=some (.slice (some ⟨fb,0,none⟩) (fs.length+1) cap):=h.ofm 0 _ rfl
theorem Xk.cKind {w:World} {bm fb cap:Nat} {cur:Array Value} {cs:List Value} {fs:List Fra} {f:Fra} {lv sv:Value} {m:Mch} {Fi Fl Fs:List Nat} (h:Xk w bm fb cap cur cs fs f lv sv m Fi Fl Fs):w.cell? ⟨bm,1,none⟩=some (.int .i64 m.req.kind):=h.ofm 1 _ rfl
theorem Xk.cFuel {w:World} {bm fb cap:Nat} {cur:Array Value} {cs:List Value} {fs:List Fra} {f:Fra} {lv sv:Value} {m:Mch} {Fi Fl Fs:List Nat} (h:Xk w bm fb cap cur cs fs f lv sv m Fi Fl Fs):w.cell? ⟨bm,6,none⟩=some (.int .i64 m.fuel):=h.ofm 6 _ rfl
theorem Xk.cCompares {w:World} {bm fb cap:Nat} {cur:Array Value} {cs:List Value} {fs:List Fra} {f:Fra} {lv sv:Value} {m:Mch} {Fi Fl Fs:List Nat} (h:Xk w bm fb cap cur cs fs f lv sv m Fi Fl Fs):w.cell? ⟨bm,7,none⟩=some (.int .i64 m.compares):=h.ofm 7 _ rfl
theorem Xk.cIdle {w:World} {bm fb cap:Nat} {cur:Array Value} {cs:List Value} {fs:List Fra} {f:Fra} {lv sv:Value} {m:Mch} {Fi Fl Fs:List Nat} (h:Xk w bm fb cap cur cs fs f lv sv m Fi Fl Fs):w.cell? ⟨bm,8,none⟩=some (.int .i64 m.idle):=h.ofm 8 _ rfl
theorem Xk.cFn {w:World} {bm fb cap:Nat} {cur:Array Value} {cs:List Value} {fs:List Fra} {f:Fra} {lv sv:Value} {m:Mch} {Fi Fl Fs:List Nat} (h:Xk w bm fb cap cur cs fs f lv sv m Fi Fl Fs):w.cell? ⟨fb,fs.length*4,none⟩=some (.int .i64 f.fn):=h.at_ 0 _ rfl
theorem Xk.cPc {w:World} {bm fb cap:Nat} {cur:Array Value} {cs:List Value} {fs:List Fra} {f:Fra} {lv sv:Value} {m:Mch} {Fi Fl Fs:List Nat} (h:Xk w bm fb cap cur cs fs f lv sv m Fi Fl Fs):w.cell? ⟨fb,fs.length*4+1,none⟩=some (.int .i64 f.pc):=h.at_ 1 _ rfl
theorem Xk.cLv {w:World} {bm fb cap:Nat} {cur:Array Value} {cs:List Value} {fs:List Fra} {f:Fra} {lv sv:Value} {m:Mch} {Fi Fl Fs:List Nat} (h:Xk w bm fb cap cur cs fs f lv sv m Fi Fl Fs):w.cell? ⟨fb,fs.length*4+2,none⟩=some (lv):=h.at_ 2 _ rfl
theorem Xk.cSv {w:World} {bm fb cap:Nat} {cur:Array Value} {cs:List Value} {fs:List Fra} {f:Fra} {lv sv:Value} {m:Mch} {Fi Fl Fs:List Nat} (h:Xk w bm fb cap cur cs fs f lv sv m Fi Fl Fs):w.cell? ⟨fb,fs.length*4+3,none⟩=some (sv):=h.at_ 3 _ rfl
theorem Xk.frm {w:World} {bm fb cap:Nat} {cur:Array Value} {cs:List Value} {fs:List Fra} {f:Fra} {lv sv:Value} {m:Mch} {Fi Fl Fs:List Nat} (h:Xk w bm fb cap cur cs fs f lv sv m Fi Fl Fs) (j:Nat):w.frozen? ⟨bm,j,none⟩=false:=Fz h.mach
theorem Xk.frf {w:World} {bm fb cap:Nat} {cur:Array Value} {cs:List Value} {fs:List Fra} {f:Fra} {lv sv:Value} {m:Mch} {Fi Fl Fs:List Nat} (h:Xk w bm fb cap cur cs fs f lv sv m Fi Fl Fs) (j:Nat):w.frozen? ⟨fb,j,none⟩=false:=Fz h.row
theorem Xn5 {cur:Array Value} {cs:List Value} {k j:Nat} {v:Value} {L:List Value} (hcs:cs.length=k*4) (hL:L.length=4) (h:cur.toList.take ((k+1)*4)=cs++L):(cur.setIfInBounds (k*4+j) v).toList.take ((k+1)*4)=cs++L.set j v:=by
 rw [Array.toList_setIfInBounds,List.take_set,h,List.set_append_right _ _ (by omega),hcs,Nat.add_sub_cancel_left]
/-- a cell of the last frame is written -/
theorem Xk.put {w w':World} {bm fb cap:Nat} {cur:Array Value} {cs:List Value} {fs:List Fra} {f f':Fra} {lv sv lv' sv':Value} {m:Mch} {Fi Fl Fs Fl' Fs':List Nat} (h:Xk w bm fb cap cur cs fs f lv sv m Fi Fl Fs) (j:Nat) (v:Value)
  (hm:w'.heap[bm]?=w.heap[bm]?) (hf:w'.heap[fb]?=some (.cells (cur.setIfInBounds (fs.length*4+j) v) 83 (0,0))) (hL:([.int .i64 f.fn,.int .i64 f.pc,lv,sv]:List Value).set j v=[.int .i64 f'.fn,.int .i64 f'.pc,lv',sv'])
  (hi:∀ b∈Fi,w'.heap[b]?=w.heap[b]?) (hl:Yv w' lv' f'.locals Fl') (hs:Yv w' sv' f'.stack Fs') (h1:in64 f'.fn) (h2:in64 f'.pc) (hn:(bm::fb::(Fi++(Fl'++Fs'))).Nodup) :
  Xk w' bm fb cap (cur.setIfInBounds (fs.length*4+j) v) cs fs f' lv' sv' m Fi Fl' Fs':=
 ⟨by rw [hm];exact h.mach,hf,h.capl,h.capm,by simpa using h.csize,by rw [←hL];exact Xn5 h.cslen rfl h.take,h.init.keep hi,hl,hs,h1,h2,hn⟩
/-- the machine's own cells are written -/
theorem Xk.putM {w w':World} {bm fb cap:Nat} {cur:Array Value} {cs:List Value} {fs:List Fra} {f:Fra} {lv sv:Value} {m m':Mch} {Fi Fl Fs:List Nat} (h:Xk w bm fb cap cur cs fs f lv sv m Fi Fl Fs)
  (hm:w'.heap[bm]?=some (.cells (Xb (.slice (some ⟨fb,0,none⟩) (fs.length+1) cap) m') 36 (0,0))) (ho:∀ b∈fb::(Fi++(Fl++Fs)),w'.heap[b]?=w.heap[b]?) :
  Xk w' bm fb cap cur cs fs f lv sv m' Fi Fl Fs:=
 ⟨hm,by rw [ho fb (by simp)];exact h.row,h.capl,h.capm,h.csize,h.take,h.init.keep (fun b hb=>ho b (by simp [hb])),h.loc.keep (fun b hb=>ho b (by simp [hb])),h.stk.keep (fun b hb=>ho b (by simp [hb])),h.fn,h.pc,h.nodup⟩
theorem Xk.lt {w:World} {bm fb cap:Nat} {cur:Array Value} {cs:List Value} {fs:List Fra} {f:Fra} {lv sv:Value} {m:Mch} {Fi Fl Fs:List Nat} (h:Xk w bm fb cap cur cs fs f lv sv m Fi Fl Fs):∀ b∈bm::fb::(Fi++(Fl++Fs)),b<w.heap.size:=fun b hb=>by
 simp only [List.mem_cons,List.mem_append] at hb
 rcases hb with rfl|rfl|hb|hb|hb
 ·exact (La h.mach)
 ·exact (La h.row)
 ·exact h.init.lt b hb
 ·exact h.loc.lt b hb
 ·exact h.stk.lt b hb
theorem Xk.ne {w:World} {bm fb cap:Nat} {cur:Array Value} {cs:List Value} {fs:List Fra} {f:Fra} {lv sv:Value} {m:Mch} {Fi Fl Fs:List Nat} (h:Xk w bm fb cap cur cs fs f lv sv m Fi Fl Fs) :
  bm≠fb∧(∀ b∈Fi++(Fl++Fs),b≠bm∧b≠fb):=by
 have:=h.nodup
 simp only [List.nodup_cons,List.mem_cons,not_or] at this
 obtain ⟨⟨h1,h2⟩,h3,_⟩:=this
 exact ⟨h1,fun b hb=>⟨fun e=>h2 (e▸hb),fun e=>h3 (e▸hb)⟩⟩
/-- the last frame has become f', the machine m'; what else has changed -/
def Yz (w:World) (bm fb cap:Nat) (cs:List Value) (fs:List Fra) (f':Fra) (lv:Value) (m':Mch) (Fi Fl F:List Nat) (w':World):Prop:=
 ∃ cur' sv' Fs',Xk w' bm fb cap cur' cs fs f' lv sv' m' Fi Fl Fs'∧Xp F (bm::fb::(Fi++(Fl++Fs'))) w w'
end Go.Proofs.YtbmeoklmachjpaaGreatDoor
