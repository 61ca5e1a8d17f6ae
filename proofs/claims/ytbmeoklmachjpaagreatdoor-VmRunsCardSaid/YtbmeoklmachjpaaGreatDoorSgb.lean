/- The contract of step: instructions 31, 13a, 13b, 9a, 9b, 10a, 10b, 2. MADE BY wip/group_steps.py -/
import Derived.Test.YtbmeoklmachjpaaGreatDoorStep0
import Derived.Deep.RegionHeld3
import Derived.Deep.RegionWith
set_option maxHeartbeats 8000000
set_option maxRecDepth 100000
set_option linter.unusedVariables false
set_option linter.unusedSimpArgs false
namespace Go.Proofs.YtbmeoklmachjpaaGreatDoor
open Go.RowKit
theorem Kk {w:World} {bm fb cap:Nat} {cur:Array Value} {cs:List Value} {fs:List Fra} {f:Fra} {lv sv:Value} {m:Mch} {Fi Fl Fs:List Nat} (fa ga:Option Addr) (fn fc gc:Nat) (g:Int) (h:Xk w bm fb cap cur cs fs f lv sv m Fi Fl Fs) (hn:fs.length<200)
  (B:Nat) (hB:∀ b∈bm::fb::(Fi++(Fl++Fs)),B≤b) (funcs:List Fun) (hfl:funcs.length≤1000000) (hfs:Xf B w 5 (Zl B) (.slice ga funcs.length gc) funcs) (k:Nat) (hk:f.fn=k) (y:Fun) (hy:funcs[k]?=some y) (p:Nat) (hp:f.pc=p) (x:Ins) (hx:y.code[p]?=some x) (hcl:y.code.length≤1000000)
  (hid:0≤m.idle∧m.idle<100000) (o:Out)
  (hcs:((x.op=31)∧(f.stack.length<999999)∧∃ (l:List Int),∃ (v:Int),(f.stack=l++[v])∧(in64 v)∧o=.go { m with idle:=m.idle+1,frames:=fs++[{ f with pc:=f.pc+1,stack:=l++[v]++[v] }] })∨((x.op=13)∧(m.fuel=0)∧o=.stop (X0 20) { m with idle:=m.idle+1,frames:=fs++[{ f with pc:=f.pc+1 }] })∨((x.op=13)∧(¬m.fuel=0)∧(0≤m.fuel∧m.fuel≤9223372036854775807)∧o=.go { m with fuel:=m.fuel - 1,idle:=0,frames:=fs++[{ f with pc:=f.pc+1 }] })∨((x.op=9)∧∃ (c:Nat),(x.a=c)∧∃ (z:Fun),(funcs[c]?=some z)∧∃ (l args:List Int),(f.stack=l++args)∧(z.params=args.length)∧∃ (q:Nat),(z.locals=args.length+q)∧(args.length+q≤100)∧(∀ n∈f.stack,in64 n)∧(fs.length+1<200)∧o=.go { m with idle:=m.idle+1,frames:=fs++[{ f with pc:=f.pc+1,stack:=l }]++[⟨c,0,args++List.replicate q 0,[]⟩] })∨((x.op=9)∧∃ (c:Nat),(x.a=c)∧∃ (z:Fun),(funcs[c]?=some z)∧∃ (l args:List Int),(f.stack=l++args)∧(z.params=args.length)∧∃ (q:Nat),(z.locals=args.length+q)∧(args.length+q≤100)∧(∀ n∈f.stack,in64 n)∧(¬fs.length+1<200)∧o=.stop (X0 19) { m with idle:=m.idle+1,frames:=fs++[{ f with pc:=f.pc+1,stack:=l }] })∨((x.op=10)∧∃ (v:Int),(f.stack=if y.result then [v] else [])∧(y.result=false→v=0)∧(in64 v)∧(∀ f∈fs,f.stack.length<1000000)∧(fs=[])∧o=.stop (Jc v) { m with idle:=m.idle+1,frames:=[] })∨((x.op=10)∧∃ (v:Int),(f.stack=if y.result then [v] else [])∧(y.result=false→v=0)∧(in64 v)∧(∀ f∈fs,f.stack.length<1000000)∧∃ (fs':List Fra),∃ (f':Fra),(fs=fs'++[f'])∧o=.go { m with idle:=m.idle+1,frames:=fs'++[Xll f' y.result v] })∨((x.op=2)∧∃ (i:Nat),(x.a=i)∧∃ (n:Int),(f.locals[i]?=some n)∧(in64 n)∧(f.stack.length<1000000)∧(f.locals.length≤1000)∧o=.go { m with idle:=m.idle+1,frames:=fs++[{ f with pc:=f.pc+1,stack:=f.stack++[n] }] })) :
  Calls Tryz.prog 92 #[Yw (.slice fa fn fc) (.slice ga funcs.length gc) g bm] w (Km w bm (bm::fb::(Fi++(Fl++Fs))) o):=by
 have HCS:=Lh hcs
 clear hcs
 have HFS:=Lh hfs
 have HK:=Lh hk
 have HP:=Lh hp
 clear hk hp
 obtain ⟨a0,cap0,he0,hl1,hl2,hl3,hE⟩:=hfs
 obtain ⟨rfl,rfl⟩:ga=a0∧gc=cap0:=by simpa using he0
 have hkl:k<funcs.length:=(Ll hy)
 rcases hE with h0|⟨b,o,rfl,hbB,hE⟩
 ·rw [h0] at hy;simp at hy
 have hEk:=Lh (hE k y hy)
 obtain ⟨yv,q4,hyc⟩:=hEk.out.2.2.2.2.1
 obtain ⟨ya,ycap,rfl,hyl1,hyl2,hyl3,hEc⟩:=hyc
 have hpl:p<y.code.length:=(Ll hx)
 rcases hEc with h0|⟨yb,yo,rfl,hybB,hEc⟩
 ·rw [h0] at hx;simp at hx
 obtain ⟨i0,i1,hi64,hi64a⟩:=hEc p x hx
 obtain ⟨xop,xa⟩:=x
 dsimp only at i0 i1 hi64 hi64a
 obtain ⟨WA,hWA⟩:∃ W,W=w.alloc (.cells #[.slice fa fn fc,.int .i64 g,.slice (some ⟨b,o,none⟩) funcs.length gc,.pointer (some ⟨bm,0,none⟩)] 134):=⟨_,rfl⟩
 have hbox:Hid (Xo WA w.heap.size [.slice fa fn fc,.int .i64 g,.slice (some ⟨b,o,none⟩) funcs.length gc,.pointer (some ⟨bm,0,none⟩)]):=by rw [hWA];exact Xd
 have hWAb:Below w.heap.size w WA:=by rw [hWA];exact Xa w _
 have hWs:WA.heap.size=w.heap.size+1:=by rw [hWA];simp
 have H:=Lh h
 have hlt:=Lh h.lt
 have HB:=Lh hB
 have hnot:w.heap.size∉bm::fb::(Fi++(Fl++Fs)):=fun e=>by have:=hlt.out _ e;omega
 obtain ⟨h2,hM2⟩:=Kw (m':={ m with idle:=m.idle+1 }) h hWAb 8 (.int .i64 (m.idle+1)) rfl
 obtain ⟨W2,hW2⟩:∃ W,W=WA.setCell ⟨bm,8,none⟩ (.int .i64 (m.idle+1)):=⟨_,rfl⟩
 rw [←hW2] at h2 hM2
 have H2:=Lh h2
 have HM2:=Lh hM2
 have hA:=h.keep hWAb
 have c8:=hA.cIdle
 have f8:=hA.frm 8
 have k0:=hbox.out 0 _ rfl
 have k1:=hbox.out 1 _ rfl
 have k2:=hbox.out 2 _ rfl
 have k3:=hbox.out 3 _ rfl
 have hbw:¬w.heap.size=bm:=fun e=>hnot (by simp [e])
 have hbm:bm<w.heap.size:=h.lt bm (by simp)
 have hfb:fb<w.heap.size:=h.lt fb (by simp)
 have HWAb:=Lh hWAb
 have HI0:=Lh i0
 have HI1:=Lh i1
 have HQ4:=Lh q4
 clear h hB he0 hE hEc h2 hM2 hA i0 i1 q4 hWAb
 unfold Yw
 go_enter Tryz.func92,Tryz.ntmps92
 go_upto_region 1 with fail
 rw [←hWA]
 clear hWA
 go_upto_region 4 with fail
 rw [←hW2]
 have hM2w:Hid (Below w.heap.size WA W2→True):=fun _=>trivial
 have k0:W2.cell? ⟨w.heap.size,0,none⟩=some (.slice fa fn fc):=by rw [hW2];go_simp
 have k1:W2.cell? ⟨w.heap.size,1,none⟩=some (.int .i64 g):=by rw [hW2];go_simp
 have k2:W2.cell? ⟨w.heap.size,2,none⟩=some (.slice (some ⟨b,o,none⟩) funcs.length gc):=by rw [hW2];go_simp
 have k3:W2.cell? ⟨w.heap.size,3,none⟩=some (.pointer (some ⟨bm,0,none⟩)):=by rw [hW2];go_simp
 have HW2:=Lh hW2
 clear hW2 c8 f8 hM2w
 go_wp2_with fail
 refine (Kz fa (some ⟨b,o,none⟩) fn fc funcs.length gc g H2.out (by omega)).mono ?_
 rintro e w3 ⟨rfl,hb3⟩
 have H3:=Lh (H2.out.keep hb3)
 have HM3:=Lh (HM2.out.trans (Xp.of_below hb3))
 have hBw:B≤w.heap.size:=Nat.le_of_lt (Nat.lt_of_le_of_lt (HB.out bm (by simp)) hbm)
 have hnB:∀ bb,bb<B→bb∉bm::fb::(Fi++(Fl++Fs)):=fun bb hb e=>by have:=HB.out bb e;omega
 have k0:=Xc hb3 k0
 have k1:=Xc hb3 k1
 have k2:=Xc hb3 k2
 have k3:=Xc hb3 k3
 have i0:=HM3.out.cell HI0.out (hnB _ hybB)
 have i1:=HM3.out.cell HI1.out (hnB _ hybB)
 have q4:=HM3.out.cell HQ4.out (hnB _ hbB)
 have cfn:=H3.out.cFn
 have cpc:=H3.out.cPc
 rw [HK.out] at cfn
 rw [HP.out] at cpc
 have fpc:=H3.out.frf (fs.length*4+1)
 have hsz3:w.heap.size<w3.heap.size:=Bl k0
 have hfb3:fb<w3.heap.size:=by omega
 have hbm3:bm<w3.heap.size:=by omega
 have hi0:(0:Int)≤(k:Int):=Int.natCast_nonneg _
 have hi1:(k:Int)<(funcs.length:Int):=by omega
 have hj0:(0:Int)≤(p:Int):=Int.natCast_nonneg _
 have hj1:(p:Int)<(y.code.length:Int):=by omega
 have hyb3:=Bl i0
 have hbb3:=Bl q4
 clear hb3
 go_wp2_with fail
 go_region
 go_upto_region 7 with fail
 obtain ⟨h4,hM4⟩:=K9 H3.out ((p:Int)+1) ⟨by omega,by omega⟩
 obtain ⟨W4,hW4⟩:∃ W,W=((w3.setCell ⟨fb,fs.length*4+1,none⟩ (.int .i64 ((p:Int)+1))).alloc (.cells #[.int .i64 xop,.int .i64 xa] 100)).drew:=⟨_,rfl⟩
 have hb4:Below (w3.setCell ⟨fb,fs.length*4+1,none⟩ (.int .i64 ((p:Int)+1))).heap.size (w3.setCell ⟨fb,fs.length*4+1,none⟩ (.int .i64 ((p:Int)+1))) W4:=by rw [hW4];exact Xh (Xa _ _) 1
 have H4:=Lh (h4.keep hb4)
 have HM4:=Lh ((HM3.out.trans hM4).trans (Xp.of_below hb4))
 have d0:W4.cell? ⟨w3.heap.size,0,none⟩=some (.int .i64 xop):=by rw [hW4];go_simp
 have d1:W4.cell? ⟨w3.heap.size,1,none⟩=some (.int .i64 xa):=by rw [hW4];go_simp
 have hnfb:¬w.heap.size=fb:=fun e=>hnot (by simp [e])
 have k0:W4.cell? ⟨w.heap.size,0,none⟩=some (.slice fa fn fc):=by rw [hW4];go_simp
 have k1:W4.cell? ⟨w.heap.size,1,none⟩=some (.int .i64 g):=by rw [hW4];go_simp
 have k2:W4.cell? ⟨w.heap.size,2,none⟩=some (.slice (some ⟨b,o,none⟩) funcs.length gc):=by rw [hW4];go_simp
 have k3:W4.cell? ⟨w.heap.size,3,none⟩=some (.pointer (some ⟨bm,0,none⟩)):=by rw [hW4];go_simp
 have hds:w3.heap.size<W4.heap.size:=Bl d0
 have hdn:w3.heap.size∉bm::fb::(Fi++(Fl++Fs)):=fun e=>by have:=hlt.out _ e;omega
 have hnd:=H.out.nodup
 rw [←hW4]
 obtain ⟨ib,hib⟩:∃ ib,ib=w3.heap.size:=⟨_,rfl⟩
 rw [←hib]
 rw [←hib] at d0 d1 hds hdn
 have hsz4:w.heap.size<W4.heap.size:=by omega
 have hibs:w.heap.size<ib:=by omega
 have HEf:=Lh hEk.out
 clear hW4 hib H3 HM3 H2 HM2 HW2 hb4 h4 hM4 i0 i1 q4 cfn cpc fpc hfb3 hbm3 hyb3 hbb3 hsz3 HI0 HI1 HQ4 hbox HWAb hWs hEk
 rcases HCS.out with ⟨hop,hsl,l,v,hst,hv64,rfl⟩|⟨hop,hf0,rfl⟩|⟨hop,hf0,hf1,rfl⟩|⟨hop,c,ha,z,hz,l,args,hst,hpz,q,hq,hq2,h64,hd,rfl⟩|⟨hop,c,ha,z,hz,l,args,hst,hpz,q,hq,hq2,h64,hd,rfl⟩|⟨hop,v,hst,hv,h64,hsl,hd,rfl⟩|⟨hop,v,hst,hv,h64,hsl,fs',f',hd,rfl⟩|⟨hop,i,ha,n,hi,hn64,hsl,hll,rfl⟩
 ·have HOP:=Lh hop
  clear hop HCS
  obtain rfl:xop=31:=HOP.out
  have hll:l.length<999999:=by have:=congrArg List.length hst;simp at this;omega
  have HST:=Lh hst
  clear hst
  go_wp2_with fail
  refine (X9 fa (some ⟨b,o,none⟩) fn fc funcs.length gc g H4.out (by omega) l v HST.out).mono ?_
  rintro e w5 ⟨rfl,cur5,sv5,Fs5,hT5,hM5⟩
  have k0:=hM5.cell k0 hnot
  have k1:=hM5.cell k1 hnot
  have k2:=hM5.cell k2 hnot
  have k3:=hM5.cell k3 hnot
  have d1:=hM5.cell d1 hdn
  have hnot5:=hM5.notin hsz4 hnot
  have hdn5:=hM5.notin hds hdn
  have hsz5:w.heap.size<w5.heap.size:=Bl k0
  have hds5:ib<w5.heap.size:=Bl d1
  have HT5:=Lh hT5
  have HM5:=Lh (HM4.out.trans hM5)
  clear hT5 hM5
  go_wp2_with fail
  refine (Qt fa (some ⟨b,o,none⟩) fn fc funcs.length gc g HT5.out (by omega) v hv64 (by show l.length<_;omega)).mono ?_
  rintro e w6 ⟨rfl,cur6,sv6,Fs6,hT6,hM6⟩
  have k0:=hM6.cell k0 hnot5
  have k1:=hM6.cell k1 hnot5
  have k2:=hM6.cell k2 hnot5
  have k3:=hM6.cell k3 hnot5
  have d1:=hM6.cell d1 hdn5
  have hnot6:=hM6.notin hsz5 hnot5
  have hdn6:=hM6.notin hds5 hdn5
  have hsz6:w.heap.size<w6.heap.size:=Bl k0
  have hds6:ib<w6.heap.size:=Bl d1
  have HT6:=Lh hT6
  have HM6:=Lh (HM5.out.trans hM6)
  clear hT6 hM6
  go_wp2_with fail
  refine (Qt fa (some ⟨b,o,none⟩) fn fc funcs.length gc g HT6.out (by omega) v hv64 (by show (l++[v]).length<_;simp;omega)).mono ?_
  rintro e w7 ⟨rfl,cur7,sv7,Fs7,hT7,hM7⟩
  have HT7:=Lh hT7
  have HM7:=Lh (HM6.out.trans hM7)
  clear hT7 hM7
  go_wp2_with fail
  go_end0
  rw [HP.out]
  exact ⟨rfl,_,(HT7.out.reframe _).own rfl,HM7.out⟩
 ·have HOP:=Lh hop
  clear hop HCS
  obtain rfl:xop=13:=HOP.out
  have c6:=H4.out.cFuel
  dsimp only at c6
  rw [hf0] at c6
  have HF0:=Lh hf0
  clear hf0
  go_wp2_with fail
  refine (Jx fa (some ⟨b,o,none⟩) fn fc funcs.length gc g bm 20 _).mono ?_
  rintro e w5 ⟨rfl,hb5⟩
  refine ⟨rfl,?_⟩
  rw [HP.out]
  exact ⟨rfl,_,((H4.out.keep hb5).reframe _).own rfl,HM4.out.trans (Xp.of_below hb5)⟩
 ·have HOP:=Lh hop
  clear hop HCS
  obtain rfl:xop=13:=HOP.out
  have c6:=H4.out.cFuel
  have f6:=H4.out.frm 6
  have f8:=H4.out.frm 8
  have c8:=H4.out.cIdle
  dsimp only at c6 c8
  obtain ⟨h5,hM5⟩:=Kw (m':={ m with idle:=m.idle+1,fuel:=m.fuel - 1 }) H4.out (Below.refl _ _) 6 (.int .i64 (m.fuel - 1)) rfl
  obtain ⟨h6,hM6⟩:=Kw (m':={ m with idle:=0,fuel:=m.fuel - 1 }) h5 (Below.refl _ _) 8 (.int .i64 0) rfl
  have H6:=Lh h6
  have HM6:=Lh ((HM4.out.trans hM5).trans hM6)
  clear h5 hM5 h6 hM6
  go_wp2_with fail
  go_end0
  rw [HP.out]
  exact ⟨rfl,_,(H6.out.reframe _).own rfl,HM6.out⟩
 ·have H_ha:=Lh ha
  have H_hst:=Lh hst
  have H_hpz:=Lh hpz
  have H_hq:=Lh hq
  have H_h64:=Lh h64
  have H_hz:=Lh hz
  have H_hd:=Lh hd
  clear ha hst hpz hq h64 hz hd
  have HOP:=Lh hop
  clear hop HCS
  obtain rfl:xa=c:=H_ha.out
  obtain rfl:xop=9:=HOP.out
  have hB4:∀ bb∈bm::fb::(Fi++(Fl++Fs)),B≤bb:=HB.out
  have HFS4:=Lh (HFS.out.funs (HM4.out.below HB.out hBw))
  clear hB4
  go_wp2_with fail
  refine (Xh8 fa (some ⟨b,o,none⟩) fn fc gc g (H4.out.reframe (fs++[{ f with pc:=(p:Int)+1 }])) hn B HB.out funcs hfl HFS4.out c z H_hz.out l args H_hst.out H_hpz.out q H_hq.out hq2 H_h64.out rfl).mono ?_
  rintro e w5 hC
  rcases hC with ⟨-,rfl,F5,hO5,hM5⟩|⟨hno,-⟩
  ·have HO5:=Lh hO5
   have HM5:=Lh (HM4.out.trans hM5)
   clear hO5 hM5
   go_wp2_with fail
   go_end0
   rw [HP.out]
   exact ⟨rfl,F5,HO5.out,HM5.out⟩
  ·exact absurd H_hd.out hno
 ·have H_ha:=Lh ha
  have H_hst:=Lh hst
  have H_hpz:=Lh hpz
  have H_hq:=Lh hq
  have H_h64:=Lh h64
  have H_hz:=Lh hz
  have H_hd:=Lh hd
  clear ha hst hpz hq h64 hz hd
  have HOP:=Lh hop
  clear hop HCS
  obtain rfl:xa=c:=H_ha.out
  obtain rfl:xop=9:=HOP.out
  have hB4:∀ bb∈bm::fb::(Fi++(Fl++Fs)),B≤bb:=HB.out
  have HFS4:=Lh (HFS.out.funs (HM4.out.below HB.out hBw))
  clear hB4
  go_wp2_with fail
  refine (Xh8 fa (some ⟨b,o,none⟩) fn fc gc g (H4.out.reframe (fs++[{ f with pc:=(p:Int)+1 }])) hn B HB.out funcs hfl HFS4.out c z H_hz.out l args H_hst.out H_hpz.out q H_hq.out hq2 H_h64.out rfl).mono ?_
  rintro e w5 hC
  rcases hC with ⟨hyes,-⟩|⟨-,rfl,cur5,sv5,Fs5,hT5,hM5⟩
  ·exact absurd hyes H_hd.out
  ·refine ⟨rfl,?_⟩
   rw [HP.out]
   exact ⟨rfl,_,(hT5.reframe _).own rfl,HM4.out.trans hM5⟩
 ·have H_hst:=Lh hst
  have H_hv:=Lh hv
  have H_hsl:=Lh hsl
  have H_hd:=Lh hd
  clear hst hv hsl hd
  have HOP:=Lh hop
  clear hop HCS
  obtain rfl:xop=10:=HOP.out
  have hB4:∀ bb∈bm::fb::(Fi++(Fl++Fs)),B≤bb:=HB.out
  have HFS4:=Lh (HFS.out.funs (HM4.out.below HB.out hBw))
  have HY:=Lh hy
  clear hy hB4
  go_wp2_with fail
  refine (Xhw fa (some ⟨b,o,none⟩) fn fc gc g H4.out hn B HB.out funcs HFS4.out k HK.out y HY.out v H_hst.out H_hv.out h64 H_hsl.out).mono ?_
  rintro e w5 hC
  rcases hC with ⟨-,rfl,F5,hO5,hM5⟩|⟨fs',f',hno,-⟩
  ·refine ⟨rfl,?_⟩
   exact ⟨rfl,F5,hO5,HM4.out.trans hM5⟩
  ·rw [H_hd.out] at hno;simp at hno
 ·have H_hst:=Lh hst
  have H_hv:=Lh hv
  have H_hsl:=Lh hsl
  have H_hd:=Lh hd
  clear hst hv hsl hd
  have HOP:=Lh hop
  clear hop HCS
  obtain rfl:xop=10:=HOP.out
  have hB4:∀ bb∈bm::fb::(Fi++(Fl++Fs)),B≤bb:=HB.out
  have HFS4:=Lh (HFS.out.funs (HM4.out.below HB.out hBw))
  have HY:=Lh hy
  clear hy hB4
  go_wp2_with fail
  refine (Xhw fa (some ⟨b,o,none⟩) fn fc gc g H4.out hn B HB.out funcs HFS4.out k HK.out y HY.out v H_hst.out H_hv.out h64 H_hsl.out).mono ?_
  rintro e w5 hC
  rcases hC with ⟨hno,-⟩|⟨fs2,f2,he2,rfl,F5,hO5,hM5⟩
  ·rw [H_hd.out] at hno;simp at hno
  ·have he3:fs'++[f']=fs2++[f2]:=by rw [←H_hd.out,he2]
   obtain ⟨rfl,rfl⟩:fs'=fs2∧f'=f2:=by simpa using List.append_inj' he3 rfl
   have HO5:=Lh hO5
   have HM5:=Lh (HM4.out.trans hM5)
   clear hO5 hM5 he2 he3
   go_wp2_with fail
   go_end0
   exact ⟨rfl,F5,HO5.out,HM5.out⟩
 ·have H_ha:=Lh ha
  have H_hi:=Lh hi
  clear ha hi
  have HOP:=Lh hop
  clear hop HCS
  obtain rfl:xa=i:=H_ha.out
  obtain rfl:xop=2:=HOP.out
  have hil:i<f.locals.length:=(Ll H_hi.out)
  obtain ⟨lb,lcap,hlv,hFl,hlc,hlc2⟩:=H4.out.loc.form (by show 0<f.locals.length;omega)
  dsimp only at hlv hFl hlc
  subst hlv
  have H4d:Hid (Xk W4.drew bm fb cap (cur.setIfInBounds (fs.length*4+1) (.int .i64 ((p:Int)+1))) cs fs { f with pc:=(p:Int)+1 } (.slice (some ⟨lb,0,none⟩) f.locals.length lcap) sv { m with idle:=m.idle+1 } Fi Fl Fs):=H4.out.keep (Xh (Below.refl _ _) 1)
  have HM4d:Hid (Xp (bm::fb::(Fi++(Fl++Fs))) (bm::fb::(Fi++(Fl++Fs))) w W4.drew):=HM4.out.trans (Xp.of_below (Xh (Below.refl _ _) 1))
  have cLv:=H4.out.cLv
  have cL:=H4.out.loc.cellAt H_hi.out
  have hi0:(0:Int)≤(i:Int):=Int.natCast_nonneg _
  have hi1:(i:Int)<(f.locals.length:Int):=by omega
  go_upto_region 12 with fail
  go_region_held3 (fun W=>W.cell? ⟨w.heap.size,0,none⟩=some (.slice fa fn fc)∧W.cell? ⟨w.heap.size,1,none⟩=some (.int .i64 g)∧W.cell? ⟨w.heap.size,2,none⟩=some (.slice (some ⟨b,o,none⟩) funcs.length gc)∧W.cell? ⟨w.heap.size,3,none⟩=some (.pointer (some ⟨bm,0,none⟩))∧W.cell? ⟨ib,1,none⟩=some (.int .i64 (i:Int))∧W.cell? ⟨fb,fs.length*4+2,none⟩=some (.slice (some ⟨lb,0,none⟩) f.locals.length lcap)∧W.cell? ⟨lb,i,none⟩=some (.int .i64 n))
   (first|exact ⟨k0,k1,k2,k3,d1,cLv,cL⟩|exact ⟨j0,j1,j2,j3,j4,jLv,jL⟩)
   (first|(go_at_call 83;refine (Qt fa (some ⟨b,o,none⟩) fn fc funcs.length gc g H4d.out (by omega) n hn64 hsl).mono ?_;rintro e w5 ⟨rfl,cur5,sv5,Fs5,hT5,hM5⟩;have j0:=hM5.cell (show W4.drew.cell? _=_ from k0) hnot;have j1:=hM5.cell (show W4.drew.cell? _=_ from k1) hnot;have j2:=hM5.cell (show W4.drew.cell? _=_ from k2) hnot;have j3:=hM5.cell (show W4.drew.cell? _=_ from k3) hnot;have j4:=hM5.cell (show W4.drew.cell? _=_ from d1) hdn;have jLv:=hT5.cLv;have jL:=hT5.loc.cellAt H_hi.out;have HT5:=Lh hT5;have HM5:=Lh (HM4d.out.trans hM5);clear hT5 hM5))
  go_wp2_with fail
  go_end0
  rw [HP.out]
  exact ⟨rfl,_,(HT5.out.reframe _).own rfl,HM5.out⟩
end Go.Proofs.YtbmeoklmachjpaaGreatDoor
