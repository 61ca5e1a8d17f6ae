/- Contracts of the reference's next. The contract of the reference's Copy: a copy of a machine. The contract of the reference's Next. -/
import Derived.Test.YtbmeoklmachjpaaGreatDoorRst
import Derived.Deep.RegionHeld3
import Derived.Test.YtbmeoklmachjpaaGreatDoorSam
import Derived.Test.YtbmeoklmachjpaaGreatDoorAsk
import Derived.OwnWalk
import Derived.Deep.AppendLies
set_option maxHeartbeats 4000000
set_option maxRecDepth 100000
set_option linter.unusedVariables false
set_option linter.unusedSimpArgs false
namespace Go.Proofs.YtbmeoklmachjpaaGreatDoor
open Go.RowKit
def Xlc (c:Cod) (m:Mch) (n:Int) (w:World) (F:List Nat) (e:Ending) (w':World):Prop:=∃ m',Jv c m n m'∧Qh w F m' e w'
theorem Xl6 {c:Cod} (hs:Xv c) (hsm:Zb c) {w:World} {fv:Value} {m:Mch} {F:List Nat} {fs:List Fra} {f:Fra} (fa ga:Option Addr) (fn fc gc:Nat) (g n:Int) (hwt:Qr c m m.req fs f) (hnum:Ug m)
  (B:Nat) (hB:B≤w.heap.size) (hfs:Xf B w 5 (Zl B) (.slice ga c.funcs.length gc) c.funcs) (hv:Z9 w fv m.frames F) (hFB:∀ b∈F,B≤b) (ha:Yr m.req n=true) :
  Calls Tryz.prog 55 #[.agg #[.slice fa fn fc,.int .i64 g,.slice ga c.funcs.length gc],Xi fv m,.int .i64 n] w (Xlc c m n w F):=by
 obtain ⟨fb,cap,cur,cs,lv,sv,Fi,Fl,Fs,rfl,rfl,hT⟩:=hv.top hwt.fr
 have HF:=Lh hv.lt
 have HFB:=Lh hFB
 have HFS:=Lh hfs
 have HWT:=Lh hwt
 have HNU:=Lh hnum
 have HA:=Lh ha
 have hkk:m.req.kind=1∨m.req.kind=2∨m.req.kind=3:=by
  obtain ⟨_,x,_,_,_,_,hax,_⟩:=hwt.top
  exact Ua hax
 have hvn:Hid (m.req.kind=1∨m.req.kind=3→isV n):=Lh (fun h=>by
  unfold Yr at ha
  rcases h with h|h
  ·rw [if_pos h] at ha;exact Ye.1 ha
  ·rw [if_neg (by omega),if_pos h] at ha;simp at ha;unfold isV;omega)
 have hstl:f.stack.length<1000000:=by
  obtain ⟨y,x,hh,hb,h1,hx,_,hr,hl⟩:=hwt.top
  have h2:=Qu (hs.wf hb.fn) (hs.snd hb.fn) hr
  have h3:=hsm y (List.mem_of_getElem? hb.fn)
  have h4:=((hs.wf hb.fn).pops x (List.mem_of_getElem? hx)).1
  omega
 have hfl:=hwt.len
 obtain ⟨cfl,hcfl⟩:∃ q,q=c.funcs.length:=⟨_,rfl⟩
 have HCFL:=Lh hcfl
 rw [←hcfl]
 obtain ⟨W,hW⟩:∃ W,W=((w.alloc (.cells #[.slice fa fn fc,.int .i64 g,.slice ga cfl gc] 25)).alloc (.cells (Xb (.slice (some ⟨fb,0,none⟩) (fs.length+1) cap) m) 36)).alloc (.cells (Xb (.slice none 0 0) Xl) 36):=⟨_,rfl⟩
 have hWb:Hid (Below w.heap.size w W):=by rw [hW];exact Lh (((Xa _ _).then (Xa _ _)).then (Xa _ _))
 have hsz:Hid (W.heap.size=w.heap.size+3):=by rw [hW];exact Lh (by simp)
 have b0:Hid (Xo W w.heap.size [.slice fa fn fc,.int .i64 g,.slice ga cfl gc]):=by rw [hW];exact Lh ((Xd.alloc _).alloc _)
 have b1:W.heap[w.heap.size+1]?=some (.cells (Xb (.slice (some ⟨fb,0,none⟩) (fs.length+1) cap) m) 36 (0,0)):=by
  rw [hW,Below.heap_alloc _ _ _ (by simp)]
  have:=heap_alloc_new (w.alloc (.cells #[.slice fa fn fc,.int .i64 g,.slice ga cfl gc] 25)) (.cells (Xb (.slice (some ⟨fb,0,none⟩) (fs.length+1) cap) m) 36)
  simpa using this
 have b2:W.heap[w.heap.size+1+1]?=some (.cells (Xb (.slice none 0 0) Xl) 36 (0,0)):=by
  rw [hW]
  have:=heap_alloc_new ((w.alloc (.cells #[.slice fa fn fc,.int .i64 g,.slice ga cfl gc] 25)).alloc (.cells (Xb (.slice (some ⟨fb,0,none⟩) (fs.length+1) cap) m) 36)) (.cells (Xb (.slice none 0 0) Xl) 36)
  simpa using this
 have hT0:=hT W (w.heap.size+1) m hWb.out b1 (by omega)
 have H:=Lh hT0
 have hWF:w.heap.size∉(w.heap.size+1)::fb::(Fi++(Fl++Fs)):=fun e=>by
  rw [List.mem_cons] at e
  rcases e with e|e
  ·omega
  ·have:=HF.out _ e;omega
 have HWF:=Lh hWF
 obtain ⟨k0,k1,k2,k3,k4,k5,k6,k7,k8⟩:=Xq b1
 have z1:=(La b1)
 have B2:=Lh b2
 clear b1 b2 hT hT0 hv hwt hnum ha hFB hfs hWF hcfl
 unfold Xi
 unfold Xb Xl at hW
 unfold Xb
 dsimp only at hW ⊢
 go_enter Tryz.func55,Tryz.ntmps55
 go_upto_region 1 with fail
 rw [←hW]
 have HW:=Lh hW
 clear hW
 by_cases h3:m.req.kind=3∧n=0
 ·have e3:(m.req.kind == 3)=true:=by simpa using h3.1
  have e0:(n == 0)=true:=by simpa using h3.2
  have hN:Hid (Jv c m n { m with req:=X0 21,frames:=[] }):=Lh (.inl ⟨h3.1,h3.2,rfl⟩)
  clear h3 hkk
  go_wp2_with fail
  refine (Q0 _ _ _ m 21 _).mono ?_
  rintro e w9 ⟨rfl,hb9⟩
  obtain ⟨t1,t2,t3⟩:=J2 (R:=w.heap.size+1+1) (bm:=w.heap.size+1) (F0:=[]) (F2:=[]) (m1:={ m with req:=X0 21,frames:=[] }) (fv:=.slice none 0 0) hWb.out (Jd w9) ((Xp.of_below hb9).wide (Fs:=[]) (Fs':=[]) (by simp) (by simp)) (by simp) HF.out (by omega) (by omega) (by omega) (by have:=hsz.out;omega) B2.out
  have Q2:=Lh t2
  have Q3:=Lh t3
  obtain ⟨r0,r1,r2,r3,r4,r5,r6,r7,r8⟩:=Xq t1
  obtain ⟨q0,q1,q2,q3,q4,q5,q6,q7,q8⟩:=Xu t1
  have y2:=(La t1)
  clear t1 t2 t3 hb9 k0 k1 k2 k3 k4 k5 k6 k7 k8 z1 e3 e0
  unfold Xi Xb
  go_wp2_with fail
  exact bodyPost_ret (v:=Xi (.slice none 0 0) { m with req:=X0 21,frames:=[] }) (Xn (p:=6) rfl Q2.out _ rfl) rfl ⟨_,hN.out,Q3.out⟩
 by_cases h2:m.req.kind=2
 ·have e3:(m.req.kind == 3)=false:=by simp;omega
  have e2:(m.req.kind != 2)=false:=by simp [h2]
  have hgood:Hid (Ja c { m with req:=noR } fs f):=Lh (HWT.out.goOn HNU.out h2 noR)
  have hnx:Hid (∀ m',Zm c { m with req:=noR } m'→Jv c m n m'):=Lh (fun m' h=>.inr (.inr ⟨h2,h⟩))
  have hfs1:Hid (Xf B W 5 (Zl B) (.slice ga c.funcs.length gc) c.funcs):=Lh (HFS.out.funs (hWb.out.mono hB))
  have hv1:Hid (Z9 W (.slice (some ⟨fb,0,none⟩) (fs.length+1) cap) m.frames (fb::(Fi++(Fl++Fs)))):=Lh (by rw [HWT.out.fr];exact Xd5 H.out)
  have i0:=b0.out 0 _ rfl
  have i1:=b0.out 1 _ rfl
  have i2:=b0.out 2 _ rfl
  have zi:=Bl i0
  clear h3 h2 hkk
  go_wp2_with fail
  have hcall:=Xd8 (m:=m) hs hsm fa ga fn fc gc g hgood.out B (Nat.le_trans hB hWb.out.size) hfs1.out hv1.out HFB.out
  rw [←HCFL.out] at hcall
  refine hcall.mono ?_
  clear hcall
  rintro e w9 ⟨m',hR,fv9,F9,rfl,hV9,hM9⟩
  obtain ⟨a9,c9,rfl⟩:=hV9.form
  have HR:=Lh hR
  obtain ⟨t1,t2,t3⟩:=J2 (R:=w.heap.size+1+1) (bm:=w.heap.size+1) hWb.out hV9 ((hM9.wide (F:=(w.heap.size+1)::fb::(Fi++(Fl++Fs))) (F':=(w.heap.size+1)::F9) (fun b hb=>List.mem_cons_of_mem _ hb) (fun b hb=>by rw [List.mem_cons] at hb;rcases hb with hb|hb;right;simp [hb];left;exact hb))) (fun x hx=>List.mem_cons_of_mem _ hx) HF.out (by omega) (by omega) (by omega) (by have:=hsz.out;omega) B2.out
  obtain ⟨n9,hn9⟩:∃ u,u=m'.frames.length:=⟨_,rfl⟩
  rw [←hn9] at t2 t3 ⊢
  have HN9:=Lh hn9
  have Q2:=Lh t2
  have Q3:=Lh t3
  obtain ⟨r0,r1,r2,r3,r4,r5,r6,r7,r8⟩:=Xq t1
  obtain ⟨q0,q1,q2,q3,q4,q5,q6,q7,q8⟩:=Xu t1
  have y2:=(La t1)
  clear t1 t2 t3 hR hV9 hM9 hn9 k0 k1 k2 k3 k4 k5 k6 k7 k8 z1 i0 i1 i2 zi
  unfold Xi Xb
  go_wp2_with fail
  exact bodyPost_ret (v:=Xi (.slice a9 n9 c9) m') (Xn (p:=6) rfl Q2.out _ rfl) rfl ⟨_,hnx.out _ HR.out,Q3.out⟩
 ·have e2:(m.req.kind != 2)=true:=by simpa using h2
  have hk13:m.req.kind=1∨m.req.kind=3:=by omega
  have hgood:Hid (Ja c { m with req:=noR,frames:=fs++[{ f with stack:=f.stack++[n] }] } fs { f with stack:=f.stack++[n] }):=Lh (HWT.out.push HNU.out hk13 n (hvn.out hk13) noR)
  have hnx:Hid (∀ m',Zm c { m with req:=noR,frames:=fs++[{ f with stack:=f.stack++[n] }] } m'→Jv c m n m'):=Lh (fun m' h=>.inr (.inl ⟨by omega,fs,f,HWT.out.fr,h⟩))
  have hn64:in64 n:=(hvn.out hk13).in64
  have hpk:((m.req.kind == 3)=true∧(n == 0)=false)∨(m.req.kind == 3)=false:=by
   by_cases h:m.req.kind=3
   ·left
    exact ⟨by simpa using h,by simpa using fun e=>h3 ⟨h,e⟩⟩
   ·right;simpa using h
  clear h3 h2 hkk hk13
  rcases hpk with ⟨e3,e0⟩|e3
  all_goals
   go_wp2_with fail
   refine (Qm m H.out (by omega) n hn64 hstl).mono ?_
   rintro e w2 ⟨rfl,cur2,sv2,Fs2,hT2,hM2⟩
   have HT2:=Lh hT2
   have HM2:=Lh hM2
   have i0:=hM2.cell (b0.out 0 _ rfl) HWF.out
   have i1:=hM2.cell (b0.out 1 _ rfl) HWF.out
   have i2:=hM2.cell (b0.out 2 _ rfl) HWF.out
   have zi:=Bl i0
   clear k0 k1 k2 k3 k4 k5 k6 k7 k8 z1
   obtain ⟨k0,k1,k2,k3,k4,k5,k6,k7,k8⟩:=Xq hT2.mach
   have z1:=(La hT2.mach)
   have hBw:Below B W w2:=hM2.below (fun x hx=>by
    rw [List.mem_cons] at hx
    rcases hx with hx|hx
    ·omega
    ·exact HFB.out x hx) (by have:=hsz.out;omega)
   have hfs2:Hid (Xf B w2 5 (Zl B) (.slice ga c.funcs.length gc) c.funcs):=Lh ((HFS.out.funs (hWb.out.mono hB)).funs hBw)
   have hB2:B≤w2.heap.size:=by have h1:=hBw.size;have h2:=hsz.out;omega
   have hv2:Hid (Z9 w2 (.slice (some ⟨fb,0,none⟩) (fs.length+1) cap) (fs++[{ f with stack:=f.stack++[n] }]) (fb::(Fi++(Fl++Fs2)))):=Lh (Xd5 hT2)
   have hFB2:Hid (∀ x∈fb::(Fi++(Fl++Fs2)),B≤x):=Lh (fun x hx=>by
    rcases hM2.new x (List.mem_cons_of_mem _ hx) with h|h
    ·rw [List.mem_cons] at h
     rcases h with h|h
     ·omega
     ·exact HFB.out x h
    ·have:=hsz.out;omega)
   have hMW:Hid (Xp ((w.heap.size+1)::fb::(Fi++(Fl++Fs))) ((w.heap.size+1)::fb::(Fi++(Fl++Fs2))) W w2):=HM2
   clear hT2 hM2 hBw
   go_wp2_with fail
   have hcall:=Xd8 (m:={ m with frames:=fs++[{ f with stack:=f.stack++[n] }] }) hs hsm fa ga fn fc gc g hgood.out B hB2 hfs2.out hv2.out hFB2.out
   rw [←HCFL.out] at hcall
   refine hcall.mono ?_
   clear hcall
   rintro e w9 ⟨m',hR,fv9,F9,rfl,hV9,hM9⟩
   obtain ⟨a9,c9,rfl⟩:=hV9.form
   have HR:=Lh hR
   obtain ⟨t1,t2,t3⟩:=J2 (R:=w.heap.size+1+1) (bm:=w.heap.size+1) hWb.out hV9 (hMW.out.trans (hM9.wide (F:=(w.heap.size+1)::fb::(Fi++(Fl++Fs2))) (F':=(w.heap.size+1)::F9) (fun b hb=>List.mem_cons_of_mem _ hb) (fun b hb=>by rw [List.mem_cons] at hb;rcases hb with hb|hb;right;simp [hb];left;exact hb))) (fun x hx=>List.mem_cons_of_mem _ hx) HF.out (by omega) (by omega) (by omega) (by have:=hsz.out;omega) B2.out
   obtain ⟨n9,hn9⟩:∃ u,u=m'.frames.length:=⟨_,rfl⟩
   rw [←hn9] at t2 t3 ⊢
   have HN9:=Lh hn9
   have Q2:=Lh t2
   have Q3:=Lh t3
   obtain ⟨r0,r1,r2,r3,r4,r5,r6,r7,r8⟩:=Xq t1
   obtain ⟨q0,q1,q2,q3,q4,q5,q6,q7,q8⟩:=Xu t1
   have y2:=(La t1)
   clear t1 t2 t3 hR hV9 hM9 hn9 k0 k1 k2 k3 k4 k5 k6 k7 k8 z1 i0 i1 i2 zi
   unfold Xi Xb
   go_wp2_with fail
   exact bodyPost_ret (v:=Xi (.slice a9 n9 c9) m') (Xn (p:=6) rfl Q2.out _ rfl) rfl ⟨_,hnx.out _ HR.out,Q3.out⟩
theorem Xcv (ty:TypeId) (b c:Nat) (w:World):(Builtin.append_ #[22,22] ty #[.slice (some ⟨b,0,none⟩) 0 0,.slice none 0 c]).run Tryz.prog w=.ok (.slice (some ⟨b,0,none⟩) 0 0) w:=by
 obtain ⟨ti,hti,hz0,hz1,hz2⟩:=info_parts Uc
 simp [Builtin.append_,run_underlying Tryz.underlying22,sizeOf,typeInfo,hti,Builtin.lenOf,Builtin.firstCells,storeCells]
theorem Xjz {w:World} {e1:Nat} (he:w.heap[e1]?=some (.cells #[] 3 (0,0))):Yv w (.slice (some ⟨e1,0,none⟩) 0 0) [] [e1]:=
 ⟨⟨rfl,.inr ⟨e1,0,#[],rfl,Nat.zero_le _,he,Nat.le_refl _,by unfold maxLen;omega,rfl,rfl⟩⟩,rfl,by simp⟩
theorem Xck {w w':World} {e1:Nat} (h:w.grownBy w' (some e1)) (he:e1<w.heap.size):Below e1 w w':=
 ⟨h.os,h.tape,h.output,h.size,fun k hk=>h.block k (by omega) (by simp;omega)⟩
/-- append([]int{}, l...): a list in new memory -/
theorem Xbi {ops:Array Oper} {rest:List Oper} {o:Oper} {a:Act} {Q:Exit→Act→World→Prop} {w:World} (hgd:o.guard=none) (s x:Operand) (ho:o.op=.call { callee:=.builtin .append,args:=#[s,x],argTypes:=#[22,22] })
  (e1:Nat) (he:w.heap[e1]?=some (.cells #[] 3 (0,0))) (hs:a.eval s=.slice (some ⟨e1,0,none⟩) 0 0) (xa:Option Addr) (n xc:Nat) (l:List Int) (B:Nat) (hx:a.eval x=.slice xa n xc) (hl:Xf B w 1 Zd (.slice xa n xc) l) (hsz:l.length≤1000000)
  (h:∀ g cap w',Yv w' (.slice (some ⟨g,0,none⟩) n cap) l [g]→e1≤g→g<w'.heap.size→Below e1 w w'→wpList Tryz.prog ops Q rest (a.put o.dst (.slice (some ⟨g,0,none⟩) n cap)) w'):wpList Tryz.prog ops Q (o::rest) a w:=by
 have hes:e1<w.heap.size:=(La he)
 have hown:=Xjz he
 obtain ⟨ti,hti,hz0,hz1,hz2⟩:=info_parts Uc
 obtain ⟨xa',xc',hxe,hl1,hl2,hl3,hE⟩:=hl
 obtain ⟨rfl,rfl,rfl⟩:xa=xa'∧n=l.length∧xc=xc':=by simpa using hxe
 cases l with
 | nil=>
  cases xa with
  | none=>
   refine wpList_plain hgd fun K hK'=>?_
   have hrun:=Xcv o.type e1 xc w
   unfold Oper.wp
   simp only [List.length_nil] at hx
   simp [execOp,ho,resolve,invoke,builtin,hs,hx,hrun,Result.andThen]
   exact hK' _ _ (h e1 0 w hown (Nat.le_refl _) hes (Below.refl _ _))
  | some ad=>
   refine wpList_append_fits w hgd s x 22 ho 0 3 ti 1 Tryz.underlying22 hti hz1 e1 0 0 [] hs hown.1 ad 0 xc [] hx rfl (by simp) (by simp) (Nat.le_refl _) (fun w' h1 h2=>?_)
   refine h e1 0 w' ⟨by simpa using h1,rfl,by simp⟩ (Nat.le_refl _) (Nat.lt_of_lt_of_le hes h2.size) (Xck h2 hes)
 | cons v l=>
  rcases hE with h0|⟨b,oo,rfl,hbB,hE⟩
  ·simp at h0
  refine wpList_append_lies w hgd s x 22 ho 0 3 ti (.int .i64 0) 1 8 Tryz.underlying22 hti hz0 hz1 hz2 rfl (by decide) (.slice (some ⟨e1,0,none⟩) 0 0) 0 [] hs hown.1 ⟨b,oo,none⟩ (v::l).length xc ((v::l).map (Value.int .i64)) hx (by simp) (fun j u hu=>?_) (fun u hu=>?_) (by simp) (by unfold maxLen;simp at *;omega) (by simp at *;omega) (Nat.zero_le _) w.heap.size rfl (fun g cap w' h1 h2 h3 h4=>?_)
  ·rw [List.getElem?_map] at hu
   cases hg:(v::l)[j]? with
   | none=>rw [hg] at hu;simp at hu
   | some q=>
    rw [hg] at hu
    simp at hu
    subst hu
    have:=(hE j q hg).1
    rw [Nat.mul_one] at this
    rw [Xey];exact this
  ·obtain ⟨_,_,rfl⟩:=List.mem_map.1 hu;rfl
  ·rw [Nat.zero_add] at h1 ⊢
   rw [List.nil_append] at h1
   refine h g cap w' ⟨h1,rfl,fun q hq=>?_⟩ ?_ h4 (Xck h2 hes)
   ·obtain ⟨i,hi,rfl⟩:=List.getElem_of_mem hq
    exact (hE i _ (List.getElem?_eq_getElem hi)).2
   ·rcases h3 with h3|h3
    ·simp [Value.ownBlock] at h3;omega
    ·omega
/-- a frame is added to a machine -/
theorem Xmg {wr w8 w9:World} {bo g cap:Nat} {fv lv sv:Value} {m:Mch} {n:Nat} {fs:List Fra} {f:Fra} {cells:List Value} {Fr Fl Fs:List Nat} (hm:wr.heap[bo]?=some (.cells (Xb fv m) 36 (0,0))) (hfo:Yl wr cells fs Fr) (hrow:wr.ownsRow 0 83 4 fv n cells) (hnd:(bo::(fv.ownBlock.toList++Fr)).Nodup)
  (hb:Below wr.heap.size wr w8) (hl:Yv w8 lv f.locals Fl) (hs:Yv w8 sv f.stack Fs) (hge:∀ b∈Fl++Fs,wr.heap.size≤b) (hn2:(Fl++Fs).Nodup) (h1:in64 f.fn) (h2:in64 f.pc)
  (hown:w9.ownsRow 0 83 4 (.slice (some ⟨g,0,none⟩) (n+1) cap) (n+1) (cells++[.int .i64 f.fn,.int .i64 f.pc,lv,sv])) (hg:w8.grownBy w9 fv.ownBlock) (hlies:fv.ownBlock=some g∨g=w8.heap.size) :
  (w9.setCell ⟨bo,0,none⟩ (.slice (some ⟨g,0,none⟩) (n+1) cap)).heap[bo]?=some (.cells (Xb (.slice (some ⟨g,0,none⟩) (n+1) cap) m) 36 (0,0))∧Yl (w9.setCell ⟨bo,0,none⟩ (.slice (some ⟨g,0,none⟩) (n+1) cap)) (cells++[.int .i64 f.fn,.int .i64 f.pc,lv,sv]) (fs++[f]) (Fr++(Fl++Fs))∧
  (w9.setCell ⟨bo,0,none⟩ (.slice (some ⟨g,0,none⟩) (n+1) cap)).ownsRow 0 83 4 (.slice (some ⟨g,0,none⟩) (n+1) cap) (n+1) (cells++[.int .i64 f.fn,.int .i64 f.pc,lv,sv])∧(bo::g::(Fr++(Fl++Fs))).Nodup∧
  Xp (bo::(fv.ownBlock.toList++Fr)) (bo::g::(Fr++(Fl++Fs))) wr (w9.setCell ⟨bo,0,none⟩ (.slice (some ⟨g,0,none⟩) (n+1) cap)):=by
 have hbos:bo<wr.heap.size:=(La hm)
 have hwr8:=hb.size
 rw [List.nodup_cons,List.mem_append,not_or] at hnd
 obtain ⟨⟨hbv,hbF⟩,hnd2⟩:=hnd
 rw [List.nodup_append] at hnd2
 obtain ⟨-,hndF,hdis⟩:=hnd2
 have hvlt:∀ x,fv.ownBlock=some x→x<wr.heap.size:=fun x hx=>by
  rcases hrow.2 with ⟨e,_⟩|⟨g',c',cu,rfl,_,hgg,_⟩
  ·rw [e] at hx;simp [Value.ownBlock] at hx
  ·simp [Value.ownBlock] at hx;subst hx;exact (La hgg)
 have hFlt:=hfo.lt
 have hNlt:∀ b∈Fl++Fs,b<w8.heap.size:=fun b hb'=>by
  rw [List.mem_append] at hb'
  rcases hb' with h|h
  ·exact hl.lt b h
  ·exact hs.lt b h
 have hbo8:bo<w8.heap.size:=Nat.lt_of_lt_of_le hbos hwr8
 have h9:∀ b,b<w8.heap.size→fv.ownBlock≠some b→w9.heap[b]?=w8.heap[b]?:=fun b hb' hne=>hg.block b hb' (fun e=>hne e.symm)
 have hbov:fv.ownBlock≠some bo:=fun e=>hbv (by rw [e];simp)
 have hgbo:g≠bo:=by
  rcases hlies with h|h
  ·intro e;rw [e] at h;exact hbov h
  ·omega
 have ho:∀ b,b≠bo→(w9.setCell ⟨bo,0,none⟩ (.slice (some ⟨g,0,none⟩) (n+1) cap)).heap[b]?=w9.heap[b]?:=fun b hb'=>heap_setCell_other _ _ _ _ hb'
 have hFv:∀ b∈Fr,fv.ownBlock≠some b:=fun b hb' e=>hdis b (by rw [e];simp) b hb' rfl
 have hNv:∀ b∈Fl++Fs,fv.ownBlock≠some b:=fun b hb' e=>by have h3:=hge b hb';have h4:=hvlt b e;omega
 have hkF:∀ b∈Fr,(w9.setCell ⟨bo,0,none⟩ (.slice (some ⟨g,0,none⟩) (n+1) cap)).heap[b]?=wr.heap[b]?:=fun b hb'=>by
  rw [ho b (fun e=>hbF (e▸hb')),h9 b (Nat.lt_of_lt_of_le (hFlt b hb') hwr8) (hFv b hb'),hb.block b (hFlt b hb')]
 have hkN:∀ b∈Fl++Fs,(w9.setCell ⟨bo,0,none⟩ (.slice (some ⟨g,0,none⟩) (n+1) cap)).heap[b]?=w8.heap[b]?:=fun b hb'=>by
  rw [ho b (fun e=>by have:=hge b hb';omega),h9 b (hNlt b hb') (hNv b hb')]
 have hbm9:w9.heap[bo]?=some (.cells (Xb fv m) 36 (0,0)):=by rw [h9 bo hbo8 hbov,hb.block bo hbos];exact hm
 refine ⟨?_,(hfo.keep hkF).add (hl.keep (fun b hb'=>hkN b (by simp [hb']))) (hs.keep (fun b hb'=>hkN b (by simp [hb']))) h1 h2,?_,?_,?_⟩
 ·rw [heap_setCell_same _ _ _ _ _ _ hbm9,Qo]
 ·refine ⟨hown.1,?_⟩
  rcases hown.2 with ⟨h,_⟩|⟨g',c',cu,he,hb',hgg,r⟩
  ·cases h
  ·have:g'=g:=by simp at he;exact he.1.symm
   exact .inr ⟨g',c',cu,he,hb',by rw [ho g' (by rw [this];exact hgbo)];exact hgg,r⟩
 ·have hgF:g∉Fr++(Fl++Fs):=fun e=>by
   rcases hlies with h|h
   ·rw [List.mem_append] at e
    rcases e with e|e
    ·exact hFv g e h
    ·exact hNv g e h
   ·rw [List.mem_append] at e
    rcases e with e|e
    ·have:=hFlt g e;omega
    ·have:=hNlt g e;omega
  have hboF:bo∉Fr++(Fl++Fs):=fun e=>by
   rw [List.mem_append] at e
   rcases e with e|e
   ·exact hbF e
   ·have:=hge bo e;omega
  rw [List.nodup_cons,List.nodup_cons]
  refine ⟨fun e=>?_,hgF,?_⟩
  ·rw [List.mem_cons] at e
   rcases e with e|e
   ·exact hgbo e.symm
   ·exact hboF e
  ·rw [List.nodup_append]
   exact ⟨hndF,hn2,fun x hx y hy=>fun e=>by have h3:=hFlt x hx;have h4:=hge y hy;omega⟩
 ·refine ⟨hg.os.trans hb.os,hg.tape.trans hb.tape,hg.output.trans hb.output,by have h3:=hg.size;simp;omega,fun k hk hkF2=>?_,fun b hb'=>?_⟩
  ·rw [List.mem_cons,List.mem_append,not_or,not_or] at hkF2
   rw [ho k hkF2.1,h9 k (Nat.lt_of_lt_of_le hk hwr8) (fun e=>hkF2.2.1 (by rw [e];simp)),hb.block k hk]
  ·rw [List.mem_cons,List.mem_cons,List.mem_append] at hb'
   rcases hb' with hb'|hb'|hb'|hb'
   ·exact .inl (by simp [hb'])
   ·rcases hlies with h|h
    ·exact .inl (by rw [hb',List.mem_cons,List.mem_append];exact .inr (.inl (by rw [h];simp)))
    ·right;omega
   ·exact .inl (by simp [hb'])
   ·exact .inr (hge b hb')
/-- while frames are copied: the copy lies in block bo -/
def Xqq (m:Mch) (bo:Nat) (W:World) (k:Nat) (wr:World):Prop:=
 ∃ (a:Option Addr) (cap:Nat) (cells:List Value) (Fr:List Nat),wr.heap[bo]?=some (.cells (Xb (.slice a k cap) m) 36 (0,0))∧wr.ownsRow 0 83 4 (.slice a k cap) k cells∧Yl wr cells (m.frames.take k) Fr∧(bo::((Value.slice a k cap).ownBlock.toList++Fr)).Nodup∧Xp [bo] (bo::((Value.slice a k cap).ownBlock.toList++Fr)) W wr
def Xhi (m:Mch) (w:World) (e:Ending) (w':World):Prop:=∃ fv,e=.returned (Xi fv m)∧Qq w fv m w'
theorem Xmq {W:World} {b:Nat} {fn pc:Int} {lv sv:Value} {T:TypeId} (h:W.heap[b]?=some (.cells (Yn fn pc lv sv) T (0,0))) :
  W.cell? ⟨b,0,none⟩=some (.int .i64 fn)∧W.cell? ⟨b,1,none⟩=some (.int .i64 pc)∧W.cell? ⟨b,2,none⟩=some lv∧W.cell? ⟨b,3,none⟩=some sv∧W.frozen? ⟨b,2,none⟩=false∧W.frozen? ⟨b,3,none⟩=false∧b<W.heap.size:=by
 have cc:∀ (j:Nat) (v:Value),(Yn fn pc lv sv)[j]?=some v→W.cell? ⟨b,j,none⟩=some v:=fun j v hv=>by rw [cell_of_row _ _ _ _ _ _ h];exact hv
 exact ⟨cc 0 _ rfl,cc 1 _ rfl,cc 2 _ rfl,cc 3 _ rfl,Fz h,Fz h,(La h)⟩
/-- a copied list is stored in a frame -/
theorem Xes {W0 V w8:World} {fb g n c j:Nat} {l:List Int} {cs cs':Array Value} {T:TypeId} (h:V.heap[fb]?=some (.cells cs T (0,0))) (hO:Yv w8 (.slice (some ⟨g,0,none⟩) n c) l [g]) (hg:V.heap.size≤g) (hb:Below V.heap.size V w8) (h0:Below W0.heap.size W0 V) (hf:W0.heap.size≤fb) (hc:cs.setIfInBounds j (.slice (some ⟨g,0,none⟩) n c)=cs') :
  (w8.setCell ⟨fb,j,none⟩ (.slice (some ⟨g,0,none⟩) n c)).heap[fb]?=some (.cells cs' T (0,0))∧Yv (w8.setCell ⟨fb,j,none⟩ (.slice (some ⟨g,0,none⟩) n c)) (.slice (some ⟨g,0,none⟩) n c) l [g]∧
  Below W0.heap.size W0 (w8.setCell ⟨fb,j,none⟩ (.slice (some ⟨g,0,none⟩) n c))∧(∀ b,b<V.heap.size→b≠fb→(w8.setCell ⟨fb,j,none⟩ (.slice (some ⟨g,0,none⟩) n c)).heap[b]?=V.heap[b]?)∧(w8.setCell ⟨fb,j,none⟩ (.slice (some ⟨g,0,none⟩) n c)).heap.size=w8.heap.size:=by
 have hfb:=(La h)
 have h8:=(hb.block fb hfb).trans h
 refine ⟨?_,hO.keep (fun b hb'=>?_),(h0.then hb).setCell hf _,fun b hb' hne=>?_,by simp⟩
 ·rw [←hc];exact heap_setCell_same _ _ _ _ _ _ h8
 ·simp at hb'
  exact heap_setCell_other _ _ _ _ (by show b≠fb;omega)
 ·rw [heap_setCell_other _ _ _ _ hne,hb.block b hb']
theorem Xrl {W W':World} {b:Nat} {c:Array Value} {T:TypeId} (h:W.heap[b]?=some (.cells c T (0,0))) (j:Nat) (v:Value) (c':Array Value) (hc:c.setIfInBounds j v=c'):(W.setCell ⟨b,j,none⟩ v).heap[b]?=some (.cells c' T (0,0)):=by
 rw [←hc];exact heap_setCell_same _ _ _ _ _ _ h
theorem Xe0 (m:Mch) (fv:Value) (B:Nat) (w:World) (hB:B≤w.heap.size) (hm:Xf B w 4 (Qp B) fv m.frames) (hsz:m.frames.length≤1000) (hfsz:∀ f∈m.frames,f.locals.length≤1000000∧f.stack.length≤1000000) :
  Calls Tryz.prog 18 #[Xi fv m] w (Xhi m w):=by
 obtain ⟨ma,mc,rfl⟩:=hm.form
 have HMS:=Lh hm
 have HFS:=Lh hfsz
 obtain ⟨n,hn⟩:∃ n,n=m.frames.length:=⟨_,rfl⟩
 rw [←hn] at hsz ⊢
 have HN:=Lh hn
 obtain ⟨W2,hW2⟩:∃ W,W=((w.alloc (.cells (Xb (.slice ma n mc) m) 36)).alloc (.cells (Xb (.slice none 0 0) Xl) 36)).alloc (.cells (Xb (.slice ma n mc) m) 36):=⟨_,rfl⟩
 have hWb2:Below w.heap.size w W2:=by rw [hW2];exact ((Xa _ _).then (Xa _ _)).then (Xa _ _)
 have hs2:W2.heap.size=w.heap.size+3:=by rw [hW2];simp
 have b0:W2.heap[w.heap.size]?=some (.cells (Xb (.slice ma n mc) m) 36 (0,0)):=by
  rw [hW2,Below.heap_alloc _ _ _ (by simp;omega),Below.heap_alloc _ _ _ (by simp)]
  exact heap_alloc_new _ _
 have b1:W2.heap[w.heap.size+1]?=some (.cells (Xb (.slice none 0 0) Xl) 36 (0,0)):=by
  rw [hW2,Below.heap_alloc _ _ _ (by simp)]
  have:=heap_alloc_new (w.alloc (.cells (Xb (.slice ma n mc) m) 36)) (.cells (Xb (.slice none 0 0) Xl) 36)
  simpa using this
 have b2:W2.heap[w.heap.size+1+1]?=some (.cells (Xb (.slice ma n mc) m) 36 (0,0)):=by
  rw [hW2]
  have:=heap_alloc_new ((w.alloc (.cells (Xb (.slice ma n mc) m) 36)).alloc (.cells (Xb (.slice none 0 0) Xl) 36)) (.cells (Xb (.slice ma n mc) m) 36)
  simpa using this
 obtain ⟨W,hW⟩:∃ V,V=W2.setCell ⟨w.heap.size+1+1,0,none⟩ (.slice none 0 0):=⟨_,rfl⟩
 have hM2:Xp [w.heap.size+1+1] [w.heap.size+1+1] W2 W:=by rw [hW];exact Xw
 have c2:W.heap[w.heap.size+1+1]?=some (.cells (Xb (.slice none 0 0) m) 36 (0,0)):=by
  rw [hW,heap_setCell_same _ _ _ _ _ _ b2,Qo]
 have c0:W.heap[w.heap.size]?=some (.cells (Xb (.slice ma n mc) m) 36 (0,0)):=by rw [hM2.block _ (by omega) (by simp<;>omega)];exact b0
 have c1:W.heap[w.heap.size+1]?=some (.cells (Xb (.slice none 0 0) Xl) 36 (0,0)):=by rw [hM2.block _ (by omega) (by simp)];exact b1
 have hWb:Hid (Below w.heap.size w W):=Lh (hWb2.trans (hM2.below (fun b hb=>by simp at hb;omega) hWb2.size))
 have hWs:Hid (W.heap.size=w.heap.size+3):=Lh (by rw [hW];simpa using hs2)
 have hst0:Hid (Xqq m (w.heap.size+1+1) W 0 W):=Lh ⟨none,0,[],[],c2,World.ownsRow_nil _ _ _ _,⟨rfl,rfl⟩,by simp [Value.ownBlock],by simpa [Value.ownBlock] using (Xp.self:Xp [w.heap.size+1+1] [w.heap.size+1+1] W W)⟩
 obtain ⟨k0,k1,k2,k3,k4,k5,k6,k7,k8⟩:=Xq b0
 obtain ⟨j0,-⟩:=Xq b2
 obtain ⟨g0,-⟩:=Xu b2
 have z0:=(La b0)
 have z2:=(La b2)
 have C0:=Lh c0
 have C1:=Lh c1
 have HS2:=Lh hs2
 clear b0 b1 b2 hM2 hWb2 c0 c1 c2 hn hm hfsz hs2
 unfold Xi
 unfold Xb Xl at hW2
 unfold Xb
 dsimp only at hW2 ⊢
 go_enter Tryz.func18,Tryz.ntmps18
 have HW:=Lh hW
 clear hW
 go_upto_region 2 with fail
 rw [←hW2]
 have HW2:=Lh hW2
 clear hW2
 go_upto_region 3 with fail
 rw [←HW.out]
 clear k0 k1 k2 k3 k4 k5 k6 k7 k8 j0 g0 z0 z2
 obtain ⟨tf,htf,hf0,hf1,hf2⟩:=info_parts Vb
 go_wp2_with fail
 go_loopw [4] (fun i wr=>∃ k:Nat,k≤n∧i=.int .i64 k∧Hid (Xqq m (w.heap.size+1+1) W k wr)) (fun i _=>n - (intOf i).toNat)
 case atStart=>exact ⟨0,Nat.zero_le _,rfl,hst0⟩
 case round=>
  obtain ⟨k,hk,rfl,hst⟩:=hrel
  obtain ⟨fa,fcap,cells,Fr,hbo,hrow,hfo,hnd,hM⟩:=hst.out
  have hbos:Hid (w.heap.size+1+1<wr.heap.size):=Lh (La hbo)
  have hc0:wr.heap[w.heap.size]?=some (.cells (Xb (.slice ma n mc) m) 36 (0,0)):=by rw [hM.block _ (by have:=hWs.out;omega) (by simp<;>omega)];exact C0.out
  have i0:=Xe hc0 0 (.slice ma n mc) rfl
  have z0:=Bl i0
  by_cases hkn:k<n
  ·obtain ⟨f,hf⟩:∃ f,m.frames[k]?=some f:=⟨_,List.getElem?_eq_getElem (by rw [←HN.out];exact hkn)⟩
   have hBwr:Below B w wr:=(hWb.out.mono hB).trans (hM.below (fun b hb=>by simp at hb;omega) (by have:=hWs.out;omega))
   obtain ⟨sb,so,rfl,hsb,e1,e2,⟨lv,e3,hlv⟩,⟨sv,e4,hsv⟩,h64⟩:=(HMS.out.fras hBwr).elem hf
   obtain ⟨la,lc,rfl,-⟩:=hlv.frm
   obtain ⟨sa,sc,rfl,-⟩:=hsv.frm
   have zs:=Bl e1
   have hk0:(0:Int)≤(k:Int):=Int.natCast_nonneg _
   have hk1:(k:Int)<(n:Int):=by omega
   have hfz:=HFS.out f (List.mem_of_getElem? hf)
   obtain ⟨W6,hW6⟩:∃ V,V=wr.alloc (.cells (Yn f.fn f.pc (.slice la f.locals.length lc) (.slice sa f.stack.length sc)) 83):=⟨_,rfl⟩
   obtain ⟨fb,hfb⟩:∃ b,b=wr.heap.size:=⟨_,rfl⟩
   have hb6:Below wr.heap.size wr W6:=by rw [hW6];exact Xa _ _
   have hr6:W6.heap[fb]?=some (.cells (Yn f.fn f.pc (.slice la f.locals.length lc) (.slice sa f.stack.length sc)) 83 (0,0)):=by rw [hW6,hfb];exact heap_alloc_new _ _
   obtain ⟨E7,hE7⟩:∃ V,V=W6.alloc (.cells #[] 3):=⟨_,rfl⟩
   have hb67:Below W6.heap.size W6 E7:=by rw [hE7];exact Xa _ _
   have hee:E7.heap[W6.heap.size]?=some (.cells #[] 3 (0,0)):=by rw [hE7];exact heap_alloc_new _ _
   have hr7:E7.heap[fb]?=some (.cells (Yn f.fn f.pc (.slice la f.locals.length lc) (.slice sa f.stack.length sc)) 83 (0,0)):=by rw [hb67.block fb (La hr6)];exact hr6
   have hlv7:Hid (Xf B E7 1 Zd (.slice la f.locals.length lc) f.locals):=Lh (hlv.ints ((hb6.mono (by have:=hBwr.size;omega)).trans (hb67.mono (by have h1:=hb6.size;have h2:=hBwr.size;omega))))
   have HSV:=Lh hsv
   have HE7:=Lh hE7
   have HEE:=Lh hee
   have HR7:=Lh hr7
   have HB7:=Lh (hb6.then hb67)
   have HFB:=Lh hfb
   have HW6:=Lh hW6
   have HBO:=Lh hbo
   have HROW:=Lh hrow
   have HFO:=Lh hfo
   have HND:=Lh hnd
   have HM:=Lh hM
   have HF:=Lh hf
   have H64:=Lh h64
   have HBWR:=Lh hBwr
   clear hbo hrow hfo hnd hM hf hlv hsv hc0 hst hb6 hb67 hr6 hr7 hee hBwr h64
   unfold Yn at hW6
   have hE6:(W6.alloc (.cells #[] 3)).heap[W6.heap.size]?=some (.cells #[] 3 (0,0)):=heap_alloc_new _ _
   have hEE:=HE7.out
   rw [hEE] at HEE HR7 HB7 hlv7
   have hSV7:Hid (Xf B (W6.alloc (.cells #[] 3)) 1 Zd (.slice sa f.stack.length sc) f.stack):=Lh (HSV.out.ints ((HB7.out.mono (by have:=HBWR.out.size;omega))))
   clear hE6 hEE
   go_upto_region 7 with fail
   rw [←hW6,← hfb]
   clear hW6 hfb hE7 i0 e1 e2 e4 zs
   have hz6:fb<W6.heap.size:=by rw [HW6.out,HFB.out];simp
   have hR6:W6.heap[fb]?=some (.cells (Yn f.fn f.pc (.slice la f.locals.length lc) (.slice sa f.stack.length sc)) 83 (0,0)):=by rw [←Below.heap_alloc _ _ _ hz6];exact HR7.out
   have Z6:=Lh hz6
   have hB6:Hid (Below wr.heap.size wr W6):=Lh (by rw [HW6.out];exact Xa _ _)
   obtain ⟨s0,s1,s2,s3,g2,g3,sz⟩:=Xmq hR6
   have HR6:=Lh hR6
   clear hR6 hz6
   go_upto_region 8 with (with_reducible refine Xbi rfl (.tmp 20) (.tmp 22) rfl W6.heap.size HEE.out rfl la f.locals.length lc f.locals B rfl hlv7.out hfz.1 ?_;intro g1 c1 w8 hO1 hge1 hgs1 hb1;have HO1:=Lh hO1;have HG1:=Lh hge1;have HB1:=Lh ((Xa W6 _).trans hb1);obtain ⟨t0,t1,t2,t3,g4,g5,tz⟩:=Xmq ((HB1.out.block fb Z6.out).trans HR6.out);clear hO1 hge1 hgs1 hb1)
   obtain ⟨V8,hV8⟩:∃ V,V=w8.setCell ⟨fb,2,none⟩ (.slice (some ⟨g1,0,none⟩) f.locals.length c1):=⟨_,rfl⟩
   rw [←hV8]
   have hfbw:wr.heap.size≤fb:=by rw [HFB.out];exact Nat.le_refl _
   obtain ⟨x1,x2,x3,x4,x5⟩:=Xes (j:=2) (cs':=Yn f.fn f.pc (.slice (some ⟨g1,0,none⟩) f.locals.length c1) (.slice sa f.stack.length sc)) HR6.out HO1.out HG1.out HB1.out hB6.out hfbw rfl
   rw [←hV8] at x1 x2 x3 x4 x5
   have HR8:=Lh x1
   have HO8:=Lh x2
   have HB8:=Lh x3
   have HFW:=Lh hfbw
   have hg18:g1<V8.heap.size:=x2.lt g1 (by simp)
   have HG18:=Lh hg18
   have hz8:fb<V8.heap.size:=(La x1)
   have Z8:=Lh hz8
   obtain ⟨s0,s1,s2,s3,g2,g3,sz⟩:=Xmq x1
   have HEE8:Hid ((V8.alloc (.cells #[] 3)).heap[V8.heap.size]?=some (.cells #[] 3 (0,0))):=Lh (heap_alloc_new _ _)
   have hSV8:Hid (Xf B (V8.alloc (.cells #[] 3)) 1 Zd (.slice sa f.stack.length sc) f.stack):=Lh (HSV.out.ints ((x3.mono (by have:=HBWR.out.size;omega)).trans ((Xa _ _).mono (by have h1:=HBWR.out.size;have h2:=x3.size;omega))))
   clear hV8 hfbw x1 x2 x3 x4 x5 t0 t1 t2 t3 g4 g5 tz hg18 hz8
   go_upto_region 9 with (with_reducible refine Xbi rfl (.tmp 25) (.tmp 27) rfl V8.heap.size HEE8.out rfl sa f.stack.length sc f.stack B rfl hSV8.out hfz.2 ?_;intro g2b c2 w10 hO2 hge2 hgs2 hb2;have HO2:=Lh hO2;have HG2:=Lh hge2;have HB2:=Lh ((Xa V8 _).trans hb2);obtain ⟨t0,t1,t2,t3,g4,g5,tz⟩:=Xmq ((HB2.out.block fb Z8.out).trans HR8.out);clear hO2 hge2 hgs2 hb2)
   obtain ⟨V9,hV9⟩:∃ V,V=w10.setCell ⟨fb,3,none⟩ (.slice (some ⟨g2b,0,none⟩) f.stack.length c2):=⟨_,rfl⟩
   rw [←hV9]
   obtain ⟨x1,x2,x3,x4,x5⟩:=Xes (j:=3) (cs':=Yn f.fn f.pc (.slice (some ⟨g1,0,none⟩) f.locals.length c1) (.slice (some ⟨g2b,0,none⟩) f.stack.length c2)) HR8.out HO2.out HG2.out HB2.out HB8.out HFW.out rfl
   rw [←hV9] at x1 x2 x3 x4 x5
   have hg1f:g1≠fb:=by have h1:=HG1.out;have h2:=Z6.out;omega
   have HO9:Hid (Yv V9 (.slice (some ⟨g1,0,none⟩) f.locals.length c1) f.locals [g1]):=Lh (HO8.out.keep (fun b hb=>by
    simp at hb
    subst hb
    exact x4 _ HG18.out hg1f))
   have HP9:=Lh x2
   have HB9:=Lh x3
   have HR9:=Lh x1
   obtain ⟨A9,hA9⟩:∃ V,V=V9.alloc (.cells #[.int .i64 f.fn,.int .i64 f.pc,.slice (some ⟨g1,0,none⟩) f.locals.length c1,.slice (some ⟨g2b,0,none⟩) f.stack.length c2] 83):=⟨_,rfl⟩
   have hAb:Below V9.heap.size V9 A9:=by rw [hA9];exact Xa _ _
   have hA9b:Hid (Below wr.heap.size wr A9):=Lh (x3.then hAb)
   have HA9:=Lh hA9
   have hbo9:V9.heap[w.heap.size+1+1]?=some (.cells (Xb (.slice fa k fcap) m) 36 (0,0)):=by rw [x3.block _ hbos.out];exact HBO.out
   have v0:=Xe hbo9 0 (.slice fa k fcap) rfl
   have vf:=Xu hbo9
   have zb:=(La hbo9)
   have hrow9:Hid (A9.ownsRow 0 83 4 (.slice fa k fcap) k cells):=Lh (Qi HROW.out (fun b hb=>hA9b.out.block b (Ve HROW.out b hb)))
   obtain ⟨s0,s1,s2,s3,g2,g3,sz⟩:=Xmq x1
   have hnw:Hid (∀ j u,[Value.int .i64 f.fn,.int .i64 f.pc,.slice (some ⟨g1,0,none⟩) f.locals.length c1,.slice (some ⟨g2b,0,none⟩) f.stack.length c2][j]?=some u→A9.cell? ((⟨V9.heap.size,0,none⟩:Addr).add j)=some u):=Lh (by rw [hA9];exact Xft V9 _ _)
   have HBO9:=Lh hbo9
   clear hV9 x1 x2 x3 x4 x5 t0 t1 t2 t3 g4 g5 tz hg1f hA9 hAb hbo9
   have hne9:Hid ((Value.slice fa k fcap).ownBlock≠some (w.heap.size+1+1)):=Lh (fun e=>by
    have h1:=HND.out
    rw [e,List.nodup_cons] at h1
    exact h1.1 (by simp))
   have hba:Hid (A9.heap[w.heap.size+1+1]?=some (.cells (Xb (.slice fa k fcap) m) 36 (0,0))):=Lh (by rw [hA9b.out.block _ hbos.out];exact HBO.out)
   have hzA:Hid (w.heap.size+1+1<A9.heap.size):=Lh (La hba.out)
   go_upto_region 5 with ((with_reducible refine wpList_append_lies _ rfl (.tmp 31) (.tmp 33) 31 rfl 0 83 tf (.agg #[.int .i64 0,.int .i64 0,.slice none 0 0,.slice none 0 0]) 4 64 Tryz.underlying31 htf hf0 hf1 hf2 rfl (by decide) (.slice fa k fcap) k cells rfl (by rw [←HA9.out];exact hrow9.out) ⟨V9.heap.size,0,none⟩ 1 1 [.int .i64 f.fn,.int .i64 f.pc,.slice (some ⟨g1,0,none⟩) f.locals.length c1,.slice (some ⟨g2b,0,none⟩) f.stack.length c2] rfl rfl (by rw [←HA9.out];exact hnw.out) (by simp [Value.oneCell']) (by omega) (by unfold maxLen;omega) (by omega) (Nat.zero_le _) A9.heap.size (by rw [HA9.out]) ?_;intro g cap w9 ho hg hlies hglt;rw [←HA9.out] at hg;have HO:=Lh ho;have HG:=Lh hg;have HLI:=Lh hlies;have hb9:w9.heap[w.heap.size+1+1]?=some (.cells (Xb (.slice fa k fcap) m) 36 (0,0)):=(hg.block (w.heap.size+1+1) hzA.out hne9.out.symm).trans hba.out;trace "B";have v9:=Xe hb9 0 (.slice fa k fcap) rfl;trace "C";obtain ⟨vf9,-⟩:=Xu hb9;trace "D";have zb9:=(La hb9);clear ho hg hlies hb9))
   have hfa:=Xmg (m:=m) (fs:=m.frames.take k) (f:=f) HBO.out HFO.out HROW.out HND.out hA9b.out (hl:=HO9.out.keep (w':=A9) (fun b hb=>by rw [HA9.out];exact Below.heap_alloc _ _ _ (HO9.out.lt b hb))) (hs:=HP9.out.keep (w':=A9) (fun b hb=>by rw [HA9.out];exact Below.heap_alloc _ _ _ (HP9.out.lt b hb)))
    (fun b hb=>by have h1:=HG1.out;have h2:=HG2.out;have h3:=hB6.out.size;have h4:=HB8.out.size;simp at hb;omega) (by have h1:=HG18.out;have h2:=HG2.out;simp;omega) H64.out.1 H64.out.2 HO.out HG.out HLI.out
   obtain ⟨V10,hV10⟩:∃ V,V=w9.setCell ⟨w.heap.size+1+1,0,none⟩ (.slice (some ⟨g,0,none⟩) (k+1) cap):=⟨_,rfl⟩
   rw [←hV10] at hfa ⊢
   obtain ⟨r1,r2,r3,r4,r5⟩:=hfa
   have hcs:Hid (Xqq m (w.heap.size+1+1) W (k+1) V10):=Lh ⟨_,_,_,_,r1,r3,by rw [List.take_add_one,HF.out];exact r2,r4,HM.out.trans r5⟩
   clear hV10 r1 r2 r3 r4 r5
   go_wp2_with fail
   go_roundw
   case rel=>exact ⟨k+1,by omega,by go_num,hcs⟩
   case measure=>simp [intOf];omega
  ·obtain rfl:k=n:=by omega
   have hlen:(m.frames.take k)=m.frames:=by rw [HN.out];exact List.take_length
   rw [hlen] at hfo
   have hv:Z9 wr (.slice fa k fcap) m.frames ((Value.slice fa k fcap).ownBlock.toList++Fr):=⟨cells,Fr,by rw [←HN.out];exact hrow,hfo,rfl,(List.nodup_cons.1 hnd).2⟩
   have hge:∀ b∈(Value.slice fa k fcap).ownBlock.toList++Fr,w.heap.size+1+1≤b:=fun b hb=>by
    rcases hM.new b (List.mem_cons_of_mem _ hb) with h|h
    ·simp at h;omega
    ·have:=hWs.out;omega
   have hb1:wr.heap[w.heap.size+1]?=some (.cells (Xb (.slice none 0 0) Xl) 36 (0,0)):=by rw [hM.block _ (by have:=hWs.out;omega) (by simp)];exact C1.out
   have hBw:Below w.heap.size w wr:=hWb.out.trans (hM.below (fun b hb=>by simp at hb;omega) (by have:=hWs.out;omega))
   obtain ⟨p1,p2⟩:=Xz hb1 (.slice fa k fcap) m
   have hfin:Hid (Xhi m w (.returned (Xi (.slice fa k fcap) m)) (Yp wr (w.heap.size+1) (.slice fa k fcap) m)):=Lh ⟨_,rfl,_,hv.keep (fun b hb=>p2.block b (hv.lt b hb) (fun e=>by
    have:=hge b hb
    rw [List.mem_singleton] at e
    omega)),fun b hb=>by have:=hge b hb;omega,hBw.trans (p2.below (fun b hb=>by simp at hb;omega) hBw.size)⟩
   have Q1:=Lh p1
   obtain ⟨k0,k1,k2,k3,k4,k5,k6,k7,k8⟩:=Xq hbo
   obtain ⟨r0,r1,r2,r3,r4,r5,r6,r7,r8⟩:=Xq hb1
   obtain ⟨q0,q1,q2,q3,q4,q5,q6,q7,q8⟩:=Xu hb1
   have y1:=(La hb1)
   have y2:=hbos.out
   clear hlen hfo hv hge hb1 hBw p1 p2 hbo hrow hnd hM hst hc0
   go_wp2_with fail
   exact bodyPost_ret (v:=Xi (.slice fa k fcap) m) (Xn (p:=2) rfl Q1.out _ rfl) rfl hfin.out
def Xgq (c:Cod) (m:Mch) (n:Int) (w:World) (e:Ending) (w':World):Prop:=∃ m' fv,Jv c m n m'∧e=.returned (Xi fv m')∧Qq w fv m' w'
theorem Xmi {c:Cod} {m m':Mch} {n:Int} {w w':World} {fv:Value} (hR:Jv c m n m') (h:Qh w [] m' (.returned (Xi fv m')) w'):Xgq c m n w (.returned (Xi fv m')) w':=by
 obtain ⟨fv2,F9,he,hV,hM⟩:=h
 refine ⟨m',fv2,hR,he,F9,hV,fun b hb=>?_,hM.below (by simp) (Nat.le_refl _)⟩
 rcases hM.new b hb with h|h
 ·simp at h
 ·exact h
theorem Qr.nframes {c:Cod} {m:Mch} {r:Rq} {fs:List Fra} {f:Fra} (h:Qr c m r fs f):m.frames.length≤200:=by
 rw [h.fr,List.length_append];have:=h.len;simp;omega
theorem Xme {c:Cod} (hs:Xv c) (hsm:Zb c) (cv fv:Value) (m:Mch) (n:Int) {fs:List Fra} {f:Fra} (hwt:Qr c m m.req fs f) (hnum:Ug m) (B:Nat) (w:World) (hB:B≤w.heap.size) (hc:Yj B w cv c) (hm:Xf B w 4 (Qp B) fv m.frames) (hfz:∀ f∈m.frames,f.locals.length≤1000000∧f.stack.length≤1000000) (ha:Yr m.req n=true) :
  Calls Tryz.prog 21 #[cv,Xi fv m,.int .i64 n] w (Xgq c m n w):=by
 obtain ⟨cf,cg,rfl,hcf,hcg,hg64⟩:=id hc
 obtain ⟨fa,fc,rfl⟩:=hcf.form
 obtain ⟨ga,gc,rfl⟩:=hcg.form
 obtain ⟨ma,mc,rfl⟩:=hm.form
 obtain ⟨mn,hmn⟩:∃ q,q=m.frames.length:=⟨_,rfl⟩
 have hmn200:=hwt.nframes
 have HM:=Lh hm
 have HFZ:=Lh hfz
 have HWT:=Lh hwt
 have HNU:=Lh hnum
 have HA:=Lh ha
 rw [←hmn] at hmn200 ⊢
 have HMN:=Lh hmn
 obtain ⟨W,hW⟩:∃ W,W=((w.alloc (.cells #[.slice fa c.fields.length fc,.int .i64 c.globals,.slice ga c.funcs.length gc] 25)).alloc (.cells (Xb (.slice ma mn mc) m) 36)).alloc (.cells (Xb (.slice none 0 0) Xl) 36):=⟨_,rfl⟩
 have hWb:Hid (Below w.heap.size w W):=by rw [hW];exact Lh (((Xa _ _).then (Xa _ _)).then (Xa _ _))
 have hsz:Hid (W.heap.size=w.heap.size+3):=by rw [hW];exact Lh (by simp)
 have b0:Xo W w.heap.size [.slice fa c.fields.length fc,.int .i64 c.globals,.slice ga c.funcs.length gc]:=by rw [hW];exact (Xd.alloc _).alloc _
 have b1:W.heap[w.heap.size+1]?=some (.cells (Xb (.slice ma mn mc) m) 36 (0,0)):=by
  rw [hW,Below.heap_alloc _ _ _ (by simp)]
  have:=heap_alloc_new (w.alloc (.cells #[.slice fa c.fields.length fc,.int .i64 c.globals,.slice ga c.funcs.length gc] 25)) (.cells (Xb (.slice ma mn mc) m) 36)
  simpa using this
 have b2:W.heap[w.heap.size+1+1]?=some (.cells (Xb (.slice none 0 0) Xl) 36 (0,0)):=by
  rw [hW]
  have:=heap_alloc_new ((w.alloc (.cells #[.slice fa c.fields.length fc,.int .i64 c.globals,.slice ga c.funcs.length gc] 25)).alloc (.cells (Xb (.slice ma mn mc) m) 36)) (.cells (Xb (.slice none 0 0) Xl) 36)
  simpa using this
 have B2:=Lh b2
 obtain ⟨k0,k1,k2,k3,k4,k5,k6,k7,k8⟩:=Xq b1
 have z1:=(La b1)
 have i0:=b0 0 _ rfl
 have i1:=b0 1 _ rfl
 have i2:=b0 2 _ rfl
 have zi:=Bl i0
 have hWB:B≤W.heap.size:=Nat.le_trans hB hWb.out.size
 have HMd:Hid (Xf B W.drew 4 (Qp B) (.slice ma mn mc) m.frames):=Lh ((HM.out.fras (hWb.out.mono hB)).fras (Xh (Below.refl _ _) 1) |> fun h=>by rw [←HMN.out] at h;exact h)
 have HGd:Hid (Xf B W.drew 5 (Zl B) (.slice ga c.funcs.length gc) c.funcs):=Lh ((hcg.funs (hWb.out.mono hB)).funs (Xh (Below.refl _ _) 1))
 clear b0 b1 b2 hc hm hwt hnum ha hfz hmn hcf hcg
 unfold Xi
 unfold Xb Xl at hW
 unfold Xb
 dsimp only at hW ⊢
 go_enter Tryz.func21,Tryz.ntmps21
 go_upto_region 1 with fail
 rw [←hW]
 have HW:=Lh hW
 clear hW
 go_region_held3 (fun V=>V.cell? ⟨w.heap.size,0,none⟩=some (.slice fa c.fields.length fc)∧V.cell? ⟨w.heap.size,1,none⟩=some (.int .i64 c.globals)∧V.cell? ⟨w.heap.size,2,none⟩=some (.slice ga c.funcs.length gc)∧V.cell? ⟨w.heap.size+1,0,none⟩=some (.slice ma mn mc)∧V.cell? ⟨w.heap.size+1,1,none⟩=some (.int .i64 m.req.kind)∧V.cell? ⟨w.heap.size+1,2,none⟩=some (.int .i64 m.req.node)∧V.cell? ⟨w.heap.size+1,3,none⟩=some (.int .i64 m.req.field)∧V.cell? ⟨w.heap.size+1,4,none⟩=some (.int .i64 m.req.value)∧V.cell? ⟨w.heap.size+1,5,none⟩=some (.int .i64 m.req.fault)∧V.cell? ⟨w.heap.size+1,6,none⟩=some (.int .i64 m.fuel)∧V.cell? ⟨w.heap.size+1,7,none⟩=some (.int .i64 m.compares)∧V.cell? ⟨w.heap.size+1,8,none⟩=some (.int .i64 m.idle))
  (first|with_reducible exact ⟨n0,n1,n2,u0,u1,u2,u3,u4,u5,u6,u7,u8⟩|with_reducible exact ⟨j0,j1,j2,v0,v1,v2,v3,v4,v5,v6,v7,v8⟩|exact ⟨p0,p1,p2,s0,s1,s2,s3,s4,s5,s6,s7,s8⟩|exact ⟨i0,i1,i2,k0,k1,k2,k3,k4,k5,k6,k7,k8⟩)
  (first
   | (go_at_call 18;refine (Xe0 m _ B W.drew hWB HMd.out (by rw [←HMN.out];omega) HFZ.out).mono ?_;rintro e w1 ⟨fv1,rfl,F1,hV1,hge1,hb1⟩;obtain ⟨a1,c1,rfl⟩:=hV1.form;rw [←HMN.out] at hV1;have hW1:Below W.heap.size W w1:=(Xh (Below.refl _ _) 1).trans hb1;have HV1:=Lh hV1;have HGE1:Hid (∀ b∈F1,W.heap.size≤b):=Lh hge1;have HG1:=Lh (HGd.out.funs (hb1.mono hWB));have j0:=Xc hW1 i0;have j1:=Xc hW1 i1;have j2:=Xc hW1 i2;have v0:=Xc hW1 k0;have v1:=Xc hW1 k1;have v2:=Xc hW1 k2;have v3:=Xc hW1 k3;have v4:=Xc hW1 k4;have v5:=Xc hW1 k5;have v6:=Xc hW1 k6;have v7:=Xc hW1 k7;have v8:=Xc hW1 k8;have HW1:=Lh hW1;clear hV1 hge1 hb1 hW1;unfold Xi Xb;rw [←HMN.out])
   | (go_at_call 55;refine (Xl6 hs hsm fa ga _ fc gc c.globals n HWT.out HNU.out B (Nat.le_trans hWB HW1.out.size) HG1.out HV1.out (fun b hb=>Nat.le_trans hWB (HGE1.out b hb)) HA.out).mono ?_;rintro e w9 ⟨m',hR,fv9,F9,rfl,hV9,hM9⟩;obtain ⟨a9,c9,rfl⟩:=hV9.form;have HR9:=Lh hR;have hMW:=Xdg HW1.out hM9 (fun b hb=>HGE1.out b hb);have HV9:=Lh hV9;have hMR:=hMW.wide (F:=[w.heap.size+1]) (F':=F9) (by simp) (fun b hb=>.inl hb);obtain ⟨t1,t2,t3⟩:=J2 (R:=w.heap.size+1+1) (bm:=w.heap.size+1) (F:=[]) hWb.out hV9 hMR (fun b hb=>hb) (by simp) (by omega) (by omega) (by omega) (by have:=hsz.out;omega) B2.out;obtain ⟨r0,r1,r2,r3,r4,r5,r6,r7,r8⟩:=Xq t1;obtain ⟨q0,q1,q2,q3,q4,q5,q6,q7,q8⟩:=Xu t1;have zR:=(La t1);obtain ⟨n9,hn9⟩:∃ u,u=m'.frames.length:=⟨_,rfl⟩;rw [←hn9] at t2 t3 ⊢;have HN9:=Lh hn9;have Q2:=Lh t2;have Q3:=Lh t3;have n0:=hMW.cell i0 (by simp);have n1:=hMW.cell i1 (by simp);have n2:=hMW.cell i2 (by simp);have u0:=hMW.cell k0 (by simp);have u1:=hMW.cell k1 (by simp);have u2:=hMW.cell k2 (by simp);have u3:=hMW.cell k3 (by simp);have u4:=hMW.cell k4 (by simp);have u5:=hMW.cell k5 (by simp);have u6:=hMW.cell k6 (by simp);have u7:=hMW.cell k7 (by simp);have u8:=hMW.cell k8 (by simp);have hput:=(Xz t1 (.slice a9 n9 c9) m').2;have p0:=hput.cell n0 (by simp;omega);have p1:=hput.cell n1 (by simp;omega);have p2:=hput.cell n2 (by simp;omega);have s0:=hput.cell u0 (by simp);have s1:=hput.cell u1 (by simp);have s2:=hput.cell u2 (by simp);have s3:=hput.cell u3 (by simp);have s4:=hput.cell u4 (by simp);have s5:=hput.cell u5 (by simp);have s6:=hput.cell u6 (by simp);have s7:=hput.cell u7 (by simp);have s8:=hput.cell u8 (by simp);clear hput;clear hR hV9 hM9 hMW hMR t1 t2 t3 hn9;unfold Xi Xb))
 all_goals
  go_wp2_with fail
  exact bodyPost_ret (v:=Xi (.slice a9 n9 c9) m') (Xn (p:=6) rfl Q2.out _ rfl) rfl (Xmi HR9.out Q3.out)
end Go.Proofs.YtbmeoklmachjpaaGreatDoor
