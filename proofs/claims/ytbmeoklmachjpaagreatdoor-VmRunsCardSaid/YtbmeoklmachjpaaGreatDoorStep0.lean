/- The contract of the runner's back. What a step of the machine comes to. -/
import Derived.Test.YtbmeoklmachjpaaGreatDoorRun5
import Derived.Deep.RegionHeld3
import Derived.Deep.RegionWith
set_option maxHeartbeats 1000000
set_option maxRecDepth 100000
set_option linter.unusedVariables false
set_option linter.unusedSimpArgs false
namespace Go.Proofs.YtbmeoklmachjpaaGreatDoor
open Go.RowKit
theorem X3.keep {w w':World} {bm:Nat} {m:Mch} {F:List Nat} (h:X3 w bm m F) (hb:Below w.heap.size w w'):X3 w' bm m F:=by
 obtain ⟨fv,cells,Fr,h1,h2,h3,rfl,h5⟩:=h
 refine ⟨fv,cells,Fr,by rw [hb.block _ (La h1)];exact h1,⟨h2.1,?_⟩,h3.keep (fun b hbb=>hb.block b (h3.lt b hbb)),rfl,h5⟩
 rcases h2.2 with e|⟨g,cap,cur,rfl,x,hg,r⟩
 ·exact .inl e
 ·exact .inr ⟨g,cap,cur,rfl,x,by rw [hb.block g (La hg)];exact hg,r⟩
theorem Xk.reframe {w:World} {bm fb cap:Nat} {cur:Array Value} {cs:List Value} {fs:List Fra} {f:Fra} {lv sv:Value} {m:Mch} {Fi Fl Fs:List Nat} (h:Xk w bm fb cap cur cs fs f lv sv m Fi Fl Fs) (l:List Fra):Xk w bm fb cap cur cs fs f lv sv { m with frames:=l } Fi Fl Fs:=
 ⟨h.mach,h.row,h.capl,h.capm,h.csize,h.take,h.init,h.loc,h.stk,h.fn,h.pc,h.nodup⟩
/-- the last frame is gone -/
theorem Xkc {w W:World} {bm fb cap:Nat} {cur:Array Value} {cs:List Value} {fs:List Fra} {f:Fra} {lv sv:Value} {m:Mch} {Fi Fl Fs:List Nat} (h:Xk w bm fb cap cur cs fs f lv sv m Fi Fl Fs) (hb:Below w.heap.size w W) :
  X3 (W.setCell ⟨bm,0,none⟩ (.slice (some ⟨fb,0,none⟩) fs.length cap)) bm { m with frames:=fs } (bm::fb::Fi)∧Xp (bm::fb::(Fi++(Fl++Fs))) (bm::fb::Fi) w (W.setCell ⟨bm,0,none⟩ (.slice (some ⟨fb,0,none⟩) fs.length cap)):=by
 have hne:=h.ne
 have h1:=h.keep hb
 have ho:∀ b,b≠bm→(W.setCell ⟨bm,0,none⟩ (.slice (some ⟨fb,0,none⟩) fs.length cap)).heap[b]?=W.heap[b]?:=fun b hb=>heap_setCell_other _ _ _ _ hb
 have hnd:(bm::fb::Fi).Nodup:=by
  have e:bm::fb::(Fi++(Fl++Fs))=(bm::fb::Fi)++(Fl++Fs):=by simp
  have:=h.nodup
  rw [e] at this
  exact (List.nodup_append.1 this).1
 refine ⟨⟨.slice (some ⟨fb,0,none⟩) fs.length cap,cs,Fi,heap_setCell_same _ _ _ _ _ _ h1.mach,?_,h1.init.keep (fun b hb=>ho b (hne.2 b (by simp [hb])).1),by simp [Value.ownBlock],hnd⟩,(Xp.of_below hb).trans ⟨rfl,rfl,rfl,by simp,fun k hk hF=>ho k (fun e=>hF (by simp [e])),fun b hb=>.inl (by simp at hb ⊢;rcases hb with hb|hb|hb<;>simp [hb])⟩⟩
 refine ⟨h.cslen,.inr ⟨fb,cap,cur,rfl,Nat.zero_le _,by rw [ho fb (fun e=>hne.1 e.symm)];exact h1.row,by have:=h.capl;show fs.length≤cap;omega,by unfold maxLen;have:=h.capm;omega,h.csize,?_⟩⟩
 have e:=congrArg (List.take (fs.length*4)) h.take
 rw [List.take_take,Nat.min_eq_left (by omega)] at e
 refine e.trans ?_
 rw [←h.cslen];exact List.take_left
def Jc (v:Int):Rq:=⟨4,0,0,v,0⟩
/-- what a return comes to: ret is the value on the stack, if the function has a result -/
def Xmn (w:World) (bm:Nat) (fs:List Fra) (has:Bool) (v:Int) (m:Mch) (F:List Nat) (e:Ending) (w':World):Prop:=
 (fs=[]∧e=.panicked [{ v:=Xdd (Jc v),recovered:=false }]∧∃ F',X3 w' bm { m with frames:=[] } F'∧Xp F F' w w')∨
 ∃ fs' f',fs=fs'++[f']∧e=.returned (.tuple #[])∧∃ F',X3 w' bm { m with frames:=fs'++[{ f' with stack:=f'.stack++(if has then [v] else []) }] } F'∧Xp F F' w w'
theorem Xhw {w:World} {bm fb cap:Nat} {cur:Array Value} {cs:List Value} {fs:List Fra} {f:Fra} {lv sv:Value} {m:Mch} {Fi Fl Fs:List Nat} (fa ga:Option Addr) (fn fc gc:Nat) (g:Int) (h:Xk w bm fb cap cur cs fs f lv sv m Fi Fl Fs) (hn:fs.length<200)
  (B:Nat) (hB:∀ b∈bm::fb::(Fi++(Fl++Fs)),B≤b) (funcs:List Fun) (hfs:Xf B w 5 (Zl B) (.slice ga funcs.length gc) funcs) (k:Nat) (hk:f.fn=k) (x:Fun) (hx:funcs[k]?=some x) (v:Int) (hst:f.stack=if x.result then [v] else []) (hv:x.result=false→v=0) (h64:in64 v)
  (hsl:∀ f∈fs,f.stack.length<1000000) :
  Calls Tryz.prog 125 #[Yw (.slice fa fn fc) (.slice ga funcs.length gc) g bm] w (Xmn w bm fs x.result v m (bm::fb::(Fi++(Fl++Fs)))):=by
 have hbA:=Xa w (.cells #[.slice fa fn fc,.int .i64 g,.slice ga funcs.length gc,.pointer (some ⟨bm,0,none⟩)] 134)
 have hlt:=Lh h.lt
 have hBw:B≤w.heap.size:=Nat.le_of_lt (Nat.lt_of_le_of_lt (hB bm (by simp)) (h.lt bm (by simp)))
 have hnot:w.heap.size∉bm::fb::(Fi++(Fl++Fs)):=fun e=>by have:=hlt.out _ e;omega
 obtain ⟨a0,cap0,he0,hl1,hl2,hl3,hE⟩:=hfs
 obtain ⟨rfl,rfl⟩:ga=a0∧gc=cap0:=by simpa using he0
 have hkl:k<funcs.length:=(Ll hx)
 rcases hE with h0|⟨b,o,rfl,hbB,hE⟩
 ·rw [h0] at hx;simp at hx
 have hE:=hE k x hx
 have H:=Lh h
 have HA:=Lh (h.keep hbA)
 have HB:=Lh hB
 have HS:=Lh hst
 have HV:=Lh hv
 have cfn:=h.cFn
 rw [hk] at cfn
 have HE:=Lh hE
 have q3:=hE.2.2.2.1
 clear h hB he0 hst hx hv hE hk
 obtain ⟨WA,hWA⟩:∃ W,W=w.alloc (.cells #[.slice fa fn fc,.int .i64 g,.slice (some ⟨b,o,none⟩) funcs.length gc,.pointer (some ⟨bm,0,none⟩)] 134):=⟨_,rfl⟩
 have hbox:Xo WA w.heap.size [.slice fa fn fc,.int .i64 g,.slice (some ⟨b,o,none⟩) funcs.length gc,.pointer (some ⟨bm,0,none⟩)]:=by rw [hWA];exact Xd
 have k0:=hbox 0 _ rfl
 have k1:=hbox 1 _ rfl
 have k2:=hbox 2 _ rfl
 have k3:=hbox 3 _ rfl
 have hWAb:Below w.heap.size w WA:=by rw [hWA];exact hbA
 have hsz:w.heap.size<WA.heap.size:=by rw [hWA];simp
 have cfn':=Xc hWAb cfn
 have q3':=Xc hWAb q3
 have HWAb:=Lh hWAb
 have HAd:Hid (Xk WA.drew bm fb cap cur cs fs f lv sv m Fi Fl Fs):=H.out.keep (Xh hWAb 1)
 have hi0:(0:Int)≤(k:Int):=Int.natCast_nonneg _
 have hi1:(k:Int)<(funcs.length:Int):=by omega
 clear hbox hWAb HA cfn q3
 unfold Yw
 go_enter Tryz.func125,Tryz.ntmps125
 go_upto_region 1 with fail
 rw [←hWA]
 clear hWA hbA
 go_region_held3 (fun W=>W.cell? ⟨w.heap.size,0,none⟩=some (.slice fa fn fc)∧W.cell? ⟨w.heap.size,1,none⟩=some (.int .i64 g)∧W.cell? ⟨w.heap.size,2,none⟩=some (.slice (some ⟨b,o,none⟩) funcs.length gc)∧W.cell? ⟨w.heap.size,3,none⟩=some (.pointer (some ⟨bm,0,none⟩))∧W.cell? ⟨fb,fs.length*4,none⟩=some (.int .i64 (k:Int))∧W.cell? ⟨b,o+k*5+3,none⟩=some (.bool x.result)∧Hid (Below WA.heap.size WA W))
  (first|exact ⟨k0,k1,k2,k3,cfn',q3',Lh (Xh (Below.refl _ _) 1)⟩|exact ⟨Xc hbx k0,Xc hbx k1,Xc hbx k2,Xc hbx k3,Xc hbx cfn',Xc hbx q3',Lh hbx⟩)
  (first|(go_at_call 114;refine (Kz fa (some ⟨b,o,none⟩) fn fc funcs.length gc g HAd.out (by omega)).mono ?_;rintro e w1 ⟨rfl,hb1⟩;have hbx:Below WA.heap.size WA w1:=(Xh (Below.refl _ _) 1).trans hb1))
 have h1:=Lh (H.out.keep (HWAb.out.then hbx))
 have HBX:=Lh hbx
 obtain ⟨k0,k1,k2,k3,-,-,-⟩:w1.cell? ⟨w.heap.size,0,none⟩=some (.slice fa fn fc)∧w1.cell? ⟨w.heap.size,1,none⟩=some (.int .i64 g)∧w1.cell? ⟨w.heap.size,2,none⟩=some (.slice (some ⟨b,o,none⟩) funcs.length gc)∧w1.cell? ⟨w.heap.size,3,none⟩=some (.pointer (some ⟨bm,0,none⟩))∧True∧True∧True:=⟨Xc hbx k0,Xc hbx k1,Xc hbx k2,Xc hbx k3,trivial,trivial,trivial⟩
 have Hbw:=Lh (HWAb.out.then hbx)
 clear hbx
 go_upto_if 15 with fail
 go_cut [2,3] (fun s2 s3 wx=>s2=.bool x.result∧s3=.int .i64 v∧Hid (Yz w bm fb cap cs fs { f with stack:=[] } lv m Fi Fl (bm::fb::(Fi++(Fl++Fs))) wx)∧Hid (Xp (bm::fb::(Fi++(Fl++Fs))) [] w1 wx))
 case first=>
  cases hres:x.result
  ·have hv0:=HV.out hres
   subst hv0
   have hs0:=HS.out
   rw [hres] at hs0
   have e:f={ f with stack:=[] }:=by cases f;simp_all
   have HP:Hid (Yz w bm fb cap cs fs { f with stack:=[] } lv m Fi Fl (bm::fb::(Fi++(Fl++Fs))) w1):=⟨cur,sv,Fs,e▸h1.out,Xp.of_below Hbw.out⟩
   have HP2:Hid (Xp (bm::fb::(Fi++(Fl++Fs))) [] w1 w1):=⟨rfl,rfl,rfl,Nat.le_refl _,fun _ _ _=>rfl,by simp⟩
   clear hs0 e
   go_wp2_with fail
   go_meet
   exact ⟨by rw [hres],rfl,HP,HP2⟩
  ·have hs0:=HS.out
   rw [hres] at hs0
   have HS0:=Lh hs0
   clear hs0
   go_wp2_with fail
   refine (X9 fa (some ⟨b,o,none⟩) fn fc funcs.length gc g h1.out (by omega) [] v (by rw [HS0.out];rfl)).mono ?_
   rintro e w2 ⟨rfl,hP⟩
   obtain ⟨cur2,sv2,Fs2,hT2,hM2⟩:=hP
   have HP:Hid (Yz w bm fb cap cs fs { f with stack:=[] } lv m Fi Fl (bm::fb::(Fi++(Fl++Fs))) w2):=⟨cur2,sv2,Fs2,hT2,(Xp.of_below Hbw.out).trans hM2⟩
   have HP2:Hid (Xp (bm::fb::(Fi++(Fl++Fs))) [] w1 w2):=⟨hM2.os,hM2.tape,hM2.output,hM2.size,hM2.block,by simp⟩
   clear hT2 hM2
   go_wp2_with fail
   go_meet
   exact ⟨by rw [hres],rfl,HP,HP2⟩
 case rest=>
  obtain ⟨rfl,rfl,hP,hM⟩:=hcut
  obtain ⟨cur2,sv2,Fs2,hT,hMw⟩:=hP.out
  have k0:=hM.out.cell k0 hnot
  have k1:=hM.out.cell k1 hnot
  have k2:=hM.out.cell k2 hnot
  have k3:=hM.out.cell k3 hnot
  have cF:=hT.cFrames
  have fF:=hT.frm 0
  have hbm:bm<wc.heap.size:=hT.lt bm (by simp)
  have hsz1:w.heap.size<wc.heap.size:=Bl k0
  have hbw:¬w.heap.size=bm:=fun e=>hnot (by simp [e])
  have hcap:=hT.capl
  have HT:=Lh hT
  have HMw:=Lh hMw
  clear hT hMw
  go_wp2_with fail
  obtain ⟨hO,hM5⟩:=Xkc HT.out (Below.refl _ _)
  have HO:Hid (X3 ((wc.setCell ⟨bm,0,none⟩ (.slice (some ⟨fb,0,none⟩) fs.length cap)).drew) bm { m with frames:=fs } (bm::fb::Fi)):=hO.keep (Xh (Below.refl _ _) 1)
  have HM5:Hid (Xp (bm::fb::(Fi++(Fl++Fs))) (bm::fb::Fi) w ((wc.setCell ⟨bm,0,none⟩ (.slice (some ⟨fb,0,none⟩) fs.length cap)).drew)):=(HMw.out.trans hM5).trans (Xp.of_below (Xh (Below.refl _ _) 1))
  clear hO hM5
  by_cases hz:(fs.length:Int)=0
  ·have hl0:fs.length=0:=by omega
   have HO1:=HO.out
   have HM1:=HM5.out
   rw [hl0] at HO1 HM1
   have HO1:=Lh HO1
   have HM1:=Lh HM1
   clear HO HM5
   go_region
   go_wp2_with fail
   refine (U5 fa (some ⟨b,o,none⟩) fn fc funcs.length gc g bm 4 0 0 v 0 _).mono ?_
   rintro e w6 ⟨rfl,hb6⟩
   have hz0:fs=[]:=List.eq_nil_of_length_eq_zero (by omega)
   refine ⟨rfl,.inl ⟨hz0,rfl,bm::fb::Fi,?_,HM1.out.trans (Xp.of_below hb6)⟩⟩
   have:=HO1.out.keep hb6
   rw [hz0] at this
   exact this
  ·obtain ⟨fs',f',hf⟩:∃ fs' f',fs=fs'++[f']:=by
    rcases List.eq_nil_or_concat fs with e|⟨l,a,e⟩
    ·rw [e] at hz;simp at hz
    ·exact ⟨l,a,by rw [e];simp⟩
   have HF:=Lh hf
   have hsf:=hsl f' (by rw [hf];simp)
   obtain ⟨fb',cap',cur',cs',lv',sv',Fi',Fl',Fs',hT',hF'⟩:=HO.out.top hf
   have HT':=Lh hT'
   have HF':=Lh hF'
   clear hT' hF' hf
   cases hres:x.result
   ·go_region
    go_wp2_with fail
    go_end0
    refine .inr ⟨fs',f',HF.out,rfl,bm::fb::Fi,?_,HM5.out⟩
    have key:({ m with frames:=fs'++[{ f' with stack:=f'.stack++(if x.result then [v] else []) }] }:Mch)={ m with frames:=fs }:=by rw [hres,HF.out];simp
    rw [key];exact HO.out
   ·go_region
    go_wp2_with fail
    refine (Qt fa (some ⟨b,o,none⟩) fn fc funcs.length gc g HT'.out (by have:=congrArg List.length HF.out;simp at this;omega) v h64 hsf).mono ?_
    rintro e w6 ⟨rfl,cur6,sv6,Fs6,hT6,hM6⟩
    go_wp2_with fail
    go_end0
    have key:({ m with frames:=fs'++[{ f' with stack:=f'.stack++(if x.result then [v] else []) }] }:Mch)={ m with frames:=fs'++[{ f' with stack:=f'.stack++[v] }] }:=by rw [hres];simp
    refine .inr ⟨fs',f',HF.out,rfl,bm::fb'::(Fi'++(Fl'++Fs6)),?_,HM5.out.trans ?_⟩
    ·rw [key];exact (hT6.reframe (fs'++[{ f' with stack:=f'.stack++[v] }])).own rfl
    ·rw [HF'.out];exact hM6
/-- the frame to which a function returns -/
def Xll (f:Fra) (has:Bool) (v:Int):Fra:={ f with stack:=f.stack++(if has then [v] else []) }
/-- what a step comes to: it goes on, or stops with a request -/
inductive Out where
 | go (m:Mch)
 | stop (r:Rq) (m:Mch)
def Km (w:World) (bm:Nat) (F:List Nat) (o:Out) (e:Ending) (w':World):Prop:=
 match o with
 | .go m=>e=.returned (.tuple #[])∧∃ F',X3 w' bm m F'∧Xp F F' w w'
 | .stop r m=>e=.panicked [{ v:=Xdd r,recovered:=false }]∧∃ F',X3 w' bm m F'∧Xp F F' w w'
theorem K9 {w:World} {bm fb cap:Nat} {cur:Array Value} {cs:List Value} {fs:List Fra} {f:Fra} {lv sv:Value} {m:Mch} {Fi Fl Fs:List Nat} (h:Xk w bm fb cap cur cs fs f lv sv m Fi Fl Fs) (n:Int) (h64:in64 n) :
  Xk (w.setCell ⟨fb,fs.length*4+1,none⟩ (.int .i64 n)) bm fb cap (cur.setIfInBounds (fs.length*4+1) (.int .i64 n)) cs fs { f with pc:=n } lv sv m Fi Fl Fs∧Xp (bm::fb::(Fi++(Fl++Fs))) (bm::fb::(Fi++(Fl++Fs))) w (w.setCell ⟨fb,fs.length*4+1,none⟩ (.int .i64 n)):=by
 have hne:=h.ne
 have ho:∀ b,b≠fb→(w.setCell ⟨fb,fs.length*4+1,none⟩ (.int .i64 n)).heap[b]?=w.heap[b]?:=fun b hb=>heap_setCell_other _ _ _ _ hb
 refine ⟨h.put (f':={ f with pc:=n }) 1 _ (ho bm hne.1) (heap_setCell_same _ _ _ _ _ _ h.row) rfl (fun b hb=>ho b (hne.2 b (by simp [hb])).2) (h.loc.keep (fun b hb=>ho b (hne.2 b (by simp [hb])).2)) (h.stk.keep (fun b hb=>ho b (hne.2 b (by simp [hb])).2)) h.fn h64 h.nodup,rfl,rfl,rfl,by simp,fun k hk hF=>ho k (fun e=>hF (by simp [e])),fun _ h=>.inl h⟩
theorem Yv.form {w:World} {v:Value} {l:List Int} {F:List Nat} (h:Yv w v l F) (hl:0<l.length):∃ lb cap,v=.slice (some ⟨lb,0,none⟩) l.length cap∧F=[lb]∧l.length≤cap∧cap≤9223372036854775807:=by
 obtain ⟨h1,h2,h3⟩:=h
 rcases h1.2 with ⟨_,hn⟩|⟨g,cap,cur,rfl,hb,hg,hc,hcm,hs,ht⟩
 ·omega
 ·exact ⟨g,cap,rfl,h2,hc,by unfold maxLen at hcm;omega⟩
theorem Yv.cellAt {w:World} {lb cap:Nat} {l:List Int} {F:List Nat} (h:Yv w (.slice (some ⟨lb,0,none⟩) l.length cap) l F) {i:Nat} {n:Int} (hi:l[i]?=some n):w.cell? ⟨lb,i,none⟩=some (.int .i64 n):=by
 have hl:=(Ll hi)
 rw [h.1.cellAt i (by omega),List.getElem?_map,hi];rfl
theorem Xko {w:World} {bm fb cap lb lcap:Nat} {cur:Array Value} {cs:List Value} {fs:List Fra} {f:Fra} {sv:Value} {m:Mch} {Fi Fl Fs:List Nat} (h:Xk w bm fb cap cur cs fs f (.slice (some ⟨lb,0,none⟩) f.locals.length lcap) sv m Fi Fl Fs) (i:Nat) (n:Int) (h64:in64 n) :
  Xk (w.setCell ⟨lb,i,none⟩ (.int .i64 n)) bm fb cap cur cs fs { f with locals:=f.locals.set i n } (.slice (some ⟨lb,0,none⟩) f.locals.length lcap) sv m Fi Fl Fs∧Xp (bm::fb::(Fi++(Fl++Fs))) (bm::fb::(Fi++(Fl++Fs))) w (w.setCell ⟨lb,i,none⟩ (.int .i64 n)):=by
 have hne:=h.ne
 have ho:∀ b,b≠lb→(w.setCell ⟨lb,i,none⟩ (.int .i64 n)).heap[b]?=w.heap[b]?:=fun b hb=>heap_setCell_other _ _ _ _ hb
 obtain ⟨l1,l2,l3⟩:=h.loc
 obtain rfl:Fl=[lb]:=l2
 have hl:=hne.2 lb (by simp)
 have hnd:=h.nodup
 simp only [List.nodup_cons,List.mem_cons,List.nodup_append,List.mem_append,List.mem_singleton,List.not_mem_nil,or_false] at hnd
 obtain ⟨-,-,hFi,⟨-,hFs,hd2⟩,hd1⟩:=hnd
 refine ⟨⟨?_,?_,h.capl,h.capm,h.csize,h.take,h.init.keep (fun b hb=>ho b (fun e=>?_)),⟨?_,rfl,fun x hx=>?_⟩,h.stk.keep (fun b hb=>ho b (fun e=>?_)),h.fn,h.pc,h.nodup⟩,rfl,rfl,rfl,by simp,fun k hk hF=>ho k (fun e=>hF (by simp [e])),fun _ h=>.inl h⟩
 ·rw [ho bm (fun e=>hl.1 e.symm)];exact h.mach
 ·rw [ho fb (fun e=>hl.2 e.symm)];exact h.row
 ·exact hd1 b hb lb (by simp) e
 ·have:=(l1.stored i (.int .i64 n)).1
  rw [←List.map_set] at this
  simpa using this
 ·rcases List.mem_or_eq_of_mem_set hx with h|h
  ·exact l3 x h
  ·rw [h];exact h64
 ·exact hd2 lb rfl b hb e.symm
theorem K2:∀ f x,Lib.bitLenAux f x≤f
 | 0,x=>by simp [Lib.bitLenAux]
 | f+1,x=>by
  have:=K2 f (x / 2)
  unfold Lib.bitLenAux
  split<;>omega
end Go.Proofs.YtbmeoklmachjpaaGreatDoor
