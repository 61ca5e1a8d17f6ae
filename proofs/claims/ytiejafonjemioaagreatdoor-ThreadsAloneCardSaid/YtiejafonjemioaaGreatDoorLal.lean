import Derived.Test.YtiejafonjemioaaGreatDoorAlo
import Derived.Test.YtiejafonjemioaaGreatDoorAwy
import Derived.Test.YtiejafonjemioaaGreatDoorRdb
set_option maxHeartbeats 4000000
set_option maxRecDepth 1000000
set_option linter.unusedVariables false
set_option linter.unusedSimpArgs false
namespace Go.Proofs.YtiejafonjemioaaGreatDoor
open Go.RowKit
variable {α:Type} {c:Cod} {m m2 mc:Mm} {fuel:Int} {l:List Cal} {i bs R:Nat} {r:List Xr7} {w W5 w6 V V':World} {cA sA:Array Value} {gv nv:Value} {x:α}
theorem new_all {cs:List (List Cal)} (h:Xs9 c m cs fuel=0):Xv c∧Uv c m∧(0≤fuel∧fuel≤1048576)∧(∀ l∈cs,∀ x∈l,Yd c x 0=0)∧Xs8 c (Xtb m fuel cs)∧Xse c (Xtb m fuel cs):=by
 unfold Xs9 at h
 by_cases h1:Xa2 c=true∧Q7 c m=true
 rotate_left
 ·rw [if_pos h1] at h;omega
 rw [if_neg (fun k=>k h1)] at h
 by_cases h2:fuel<0∨1048576<fuel
 ·rw [if_pos h2] at h;omega
 rw [if_neg h2] at h
 by_cases h3:cs.length=0
 ·rw [if_pos h3] at h;omega
 rw [if_neg h3] at h
 by_cases h4:8<cs.length∨cs.any (fun l=>decide (2000<(l.length:Int)))=true
 ·rw [if_pos h4] at h;omega
 rw [if_neg h4] at h
 have hs:=Xq3.1 h1.1
 have hm:=Xn1.1 h1.2
 have hf:0≤fuel∧fuel≤1048576:=by omega
 have hr:=Xx2 h
 have hl:∀ l∈cs,l.length≤2000:=fun l hl=>Nat.le_of_not_lt fun hg=>h4 (.inr (List.any_eq_true.2 ⟨l,hl,by simp;omega⟩))
 have hi:=X07 hs hm hf hr hl
 refine ⟨hs,hm,hf,hr,hi,hi.valT (by simp [Xtb];omega) (by simp [Xtb];omega) (by simp [Xtb]) (fun t b e hb _=>?_)⟩
 have:=Xvn hb
 subst this;rfl
theorem drop_nth {l:List α} (h:l[i]?=some x):l.drop i=x::l.drop (i+1):=by
 obtain ⟨aA,rfl⟩:=List.getElem?_eq_some_iff.1 h
 exact List.drop_eq_getElem_cons aA
theorem drop_of {l r:List α} (h:l.drop i=x::r):l[i]?=some x∧l.drop (i+1)=r:=by
 have h1:=congrArg (fun q=>q[0]?) h
 have h2:=congrArg (fun q=>q.drop 1) h
 rw [←List.drop_drop]
 exact ⟨by simpa using h1,by simpa using h2⟩
theorem Xus.at_ {x:Cal} (h:Xus c fuel m (l.drop i) (r.drop i) m2) (hx:l[i]?=some x):∃ m1 o p,r[i]?=some (toT o)∧Zm c (Zo c x fuel) m1∧Zx c m1 ⟨m,[],0⟩ o p∧Xus c fuel p.mem (l.drop (i+1)) (r.drop (i+1)) m2:=by
 rw [drop_nth hx] at h
 generalize hq:r.drop i=q at h
 cases h with
 | cons h1 h2 h3=>
  obtain ⟨e1,e2⟩:=drop_of hq
  exact ⟨_,_,_,e1,h1,h2,by rw [e2];exact h3⟩
theorem Xus.len (h:Xus c fuel m l r m2):r.length=l.length:=by
 induction h with
 | nil=>rfl
 | cons _ _ _ ih=>simp [ih]
theorem Xus.stop (h:Xus c fuel m (l.drop l.length) r m2):m2=m:=by
 rw [List.drop_length] at h
 cases h;rfl
theorem Xug.at_ {l:List (List Cal)} {r:List (List Xr7)} {x:List Cal} (h:Xug c fuel m (l.drop i) (r.drop i) m2) (hx:l[i]?=some x):∃ y m1,r[i]?=some y∧Xus c fuel m x y m1∧Xug c fuel m1 (l.drop (i+1)) (r.drop (i+1)) m2:=by
 rw [drop_nth hx] at h
 generalize hq:r.drop i=q at h
 cases h with
 | cons h1 h2=>
  obtain ⟨e1,e2⟩:=drop_of hq
  exact ⟨_,_,e1,h1,by rw [e2];exact h2⟩
theorem Xug.stop {l:List (List Cal)} {r:List (List Xr7)} (h:Xug c fuel m (l.drop l.length) r m2):m2=m:=by
 rw [List.drop_length] at h
 cases h;rfl
structure AlR (c:Cod) (w W5 w6:World) (bs:Nat) (cA sA:Array Value) (V:World) (gv nv:Value) (mc:Mm):Prop where
 bel:Below w.heap.size w V
 code:V.heap[w.heap.size]?=some (.cells cA 25 (0,0))
 box:V.heap[w.heap.size+1]?=some (.cells #[gv,nv] 28 (0,0))
 thr:V.heap[bs]?=some (.cells sA 34 (0,0))
 new:∀ b,W5.heap.size≤b→b<w6.heap.size→V.heap[b]?=w6.heap[b]?
 size:w6.heap.size≤V.heap.size
 mem:MmV V.heap.size V (.agg #[gv,nv]) mc
 ok:Uv c mc
theorem AlR.keep (h:AlR c w W5 w6 bs cA sA V gv nv mc) (hb:Below V.heap.size V V'):AlR c w W5 w6 bs cA sA V' gv nv mc:=
 ⟨h.bel.then hb,Yk hb h.code,Yk hb h.box,Yk hb h.thr,fun b h1 h2=>(hb.block b (by have:=h.size;omega)).trans (h.new b h1 h2),Nt h.size hb.size,(h.mem.below hb).up hb.size,h.ok⟩
theorem AlR.put {g n:Value} {m':Mm} (h:AlR c w W5 w6 bs cA sA V gv nv mc) (h5:w.heap.size+1<W5.heap.size) (hb:w.heap.size+1<bs) (hM:Xp [w.heap.size+1] [w.heap.size+1] V V') (hbox:V'.heap[w.heap.size+1]?=some (.cells #[g,n] 28 (0,0))) (hm:MmV V'.heap.size V' (.agg #[g,n]) m') (ok:Uv c m'):AlR c w W5 w6 bs cA sA V' g n m':=by
 have lt:=h.bel.size
 have k:∀ b,b<V.heap.size→b≠w.heap.size+1→V'.heap[b]?=V.heap[b]?:=fun b h1 h2=>hM.block b h1 (by simpa using h2)
 have hz:=h.size
 refine ⟨h.bel.trans (hM.below (by simp) lt),(k _ (La h.code) (by omega)).trans h.code,hbox,(k _ (La h.thr) (by omega)).trans h.thr,fun b h1 h2=>(k b (by omega) (by omega)).trans (h.new b h1 h2),Nt hz hM.size,hm,ok⟩
theorem Xbg.put {A:Nat} {x:Cal} {er:Int} {o:Ks} {lv:Value} (h:Xbg A c m x fuel er o gv nv lv V) (hR:R<A) (hM:Xp [R] [R] V V'):Xbg A c m x fuel er o gv nv lv V':=h.keep (fun b h1 h2=>hM.block b h2 (by simp;omega))
theorem done_nil {s:Thr} (h:Xyd s=true):(∀ l∈s.calls,l=[])∧∀ m∈s.running,m.frames=[]:=by
 unfold Xyd at h
 simp only [Bool.and_eq_true,Bool.not_eq_true',List.any_eq_false,decide_eq_true_eq] at h
 exact ⟨fun l hl=>List.length_eq_zero_iff.1 (by have:=h.1 l hl;omega),fun m hm=>List.length_eq_zero_iff.1 (by have:=h.2 m hm;omega)⟩
theorem put10_other {W:World} {b:Nat} (h:b≠R) (v0 v1 v2 v3 v4 v5 v6 v7 v8 v9:Value):(Xr6 W R v0 v1 v2 v3 v4 v5 v6 v7 v8 v9).heap[b]?=W.heap[b]?:=by
 unfold Xr6
 rw [heap_setCell_other _ _ _ _ h,heap_setCell_other _ _ _ _ h,heap_setCell_other _ _ _ _ h,heap_setCell_other _ _ _ _ h,heap_setCell_other _ _ _ _ h,heap_setCell_other _ _ _ _ h,heap_setCell_other _ _ _ _ h,heap_setCell_other _ _ _ _ h,heap_setCell_other _ _ _ _ h,heap_setCell_other _ _ _ _ h]
theorem threadsAlone_walk (hp:U6) (c:Cod) (m:Mm) (cs:List (List Cal)) (a:Nat) (ha:a≤65535) (cv mv lv:Value) (w:World) (hL:Qa w) (hc:Yj w.heap.size w cv c) (hm:MmV w.heap.size w mv m) (hl:Xf w.heap.size w 1 (Xsa 2 (Xsr w.heap.size) w.heap.size) lv cs) :
  Calls Tryz.prog 6 #[cv,mv,lv,.int .u16 (a:Int)] w (fun e w'=>e=.returned (.bool true)∧Below w.heap.size w w'):=by
 obtain ⟨cf,cg,rfl,dT,dU,cH⟩:=id hc
 obtain ⟨fa,fc,rfl⟩:=dT.form
 obtain ⟨qa,qc,rfl⟩:=dU.form
 obtain ⟨mg,mn,rfl,eA,bB⟩:=id hm
 obtain ⟨va,vc,rfl⟩:=eA.form
 obtain ⟨na,nc,rfl⟩:=bB.form
 obtain ⟨la,lc,rfl,fR⟩:=hl.fr
 have HP:=Lh hp
 have HL:=Lh hL
 have HC:=Lh hc
 have HM:=Lh hm
 have HS:=Lh hl
 obtain ⟨W,hW⟩:∃ W,W=(w.alloc (.cells #[.slice fa c.fields.length fc,.int .i64 c.globals,.slice qa c.funcs.length qc] 25)).alloc (.cells #[.slice va m.globals.length vc,.slice na m.nodes.length nc] 28):=⟨_,rfl⟩
 have aL:Hid (Below w.heap.size w W∧w.heap.size+1<W.heap.size):=by rw [hW];exact Lh ⟨(Xa _ _).then (Xa _ _),by simp⟩
 have eB:Hid (W.heap[w.heap.size]?=some (.cells #[.slice fa c.fields.length fc,.int .i64 c.globals,.slice qa c.funcs.length qc] 25 (0,0))):=Lh (by
  rw [hW,Ha _ _ _ (by simp)]
  exact Hn _ _)
 have eC:Hid (W.heap[w.heap.size+1]?=some (.cells #[.slice va m.globals.length vc,.slice na m.nodes.length nc] 28 (0,0))):=Lh (by
  rw [hW]
  have:=Hn (w.alloc (.cells #[.slice fa c.fields.length fc,.int .i64 c.globals,.slice qa c.funcs.length qc] 25)) (.cells #[.slice va m.globals.length vc,.slice na m.nodes.length nc] 28)
  rw [show (w.alloc (.cells #[.slice fa c.fields.length fc,.int .i64 c.globals,.slice qa c.funcs.length qc] 25)).heap.size=w.heap.size+1 by simp] at this
  exact this)
 have HK:Hid (∀ V,Below W.heap.size W V→Below w.heap.size w V∧w.heap.size≤V.heap.size∧(V.cell? ⟨w.heap.size,0,none⟩=some (.slice fa c.fields.length fc)∧V.cell? ⟨w.heap.size,1,none⟩=some (.int .i64 c.globals)∧V.cell? ⟨w.heap.size,2,none⟩=some (.slice qa c.funcs.length qc)∧w.heap.size<V.heap.size)∧(V.cell? ⟨w.heap.size+1,0,none⟩=some (.slice va m.globals.length vc)∧V.cell? ⟨w.heap.size+1,1,none⟩=some (.slice na m.nodes.length nc)∧w.heap.size+1<V.heap.size)):=Lh (fun V hV=>by
  have h0:=Yk hV eB.out
  have h1:=Yk hV eC.out
  have hb:=aL.out.1.then hV
  exact ⟨hb,hb.size,⟨Cr h0 rfl,Cr h0 rfl,Cr h0 rfl,(La h0)⟩,Cr h1 rfl,Cr h1 rfl,(La h1)⟩)
 clear hp hL hc hm hl dT dU cH eA bB
 go_enter Tryz.func6,Tryz.ntmps6
 go_upto_region 1 with fail
 rw [←hW]
 clear hW
 go_wp2_with fail
 refine (Jl W (HL.out.below aL.out.1)).mono ?_
 rintro e w1 ⟨rfl,dO⟩
 have cR:=Lh dO
 clear dO
 obtain ⟨k,hk⟩:∃ k:Nat,k=a % 301:=⟨_,rfl⟩
 have fY:k<301:=by omega
 have fE:IntKind.i64.wrap (a:Int)=(a:Int):=by rw [IntKind.wrap_i64];omega
 have fH:Int.tmod (a:Int) 301=(k:Int):=by rw [hk,Int.tmod_eq_emod_of_nonneg (by omega)];omega
 clear hk
 go_upto_region 4 with fail
 obtain ⟨aB,aC,⟨c0,c1,c2,zc⟩,⟨m0,m1,zm⟩⟩:=HK.out w1 cR.out
 go_wp2_with fail
 refine (X3u c _ w.heap.size w1 aC (HC.out.below aB)).mono ?_
 rintro e w2 ⟨r1,rfl,bA,aJ⟩
 have eR:=Lh bA
 have bT:=Lh (cR.out.then aJ)
 clear aB aC c0 c1 c2 zc m0 m1 zm bA aJ
 cases r1 with
 | false=>
  go_wp2_with fail
  go_ret
  exact ⟨rfl,aL.out.1.then bT.out⟩
 | true=>
 have eF:Zb c:=fun y hy=>by have:=(eR.out rfl).2.2 y hy;omega
 have dA:=Lh eF
 clear eF
 obtain ⟨aB,aC,-,⟨m0,m1,zm⟩⟩:=HK.out w2 bT.out
 go_wp2_with fail
 refine (X03 m _ w.heap.size w2 aC (HM.out.below aB)).mono ?_
 rintro e w3 ⟨rfl,dP⟩
 have bU:=Lh (bT.out.then dP)
 clear aB aC m0 m1 zm dP
 cases bB:Xv1 m with
 | true=>
  go_wp2_with fail
  go_ret
  exact ⟨rfl,aL.out.1.then bU.out⟩
 | false=>
 have bX:=Lh (X3z bB)
 clear bB
 obtain ⟨aB,aC,-,-⟩:=HK.out w3 bU.out
 go_wp2_with fail
 refine (X0v cs _ w.heap.size w3 aC (HS.out.calss aB)).mono ?_
 rintro e w4 ⟨rfl,dQ⟩
 have aS:=Lh (bU.out.then dQ)
 clear aB aC dQ
 cases dY:X0f cs with
 | false=>
  go_wp2_with fail
  go_ret
  exact ⟨rfl,aL.out.1.then aS.out⟩
 | true=>
 have eN:=Lh (X34 dY)
 clear dY
 obtain ⟨aB,aC,⟨c0,c1,c2,zc⟩,⟨m0,m1,zm⟩⟩:=HK.out w4 aS.out
 go_wp2_with fail
 refine (X1o c m cs k _ _ _ w4 (HL.out.below aB) ((HC.out.below aB).up aC) ((HM.out.below aB).up aC) ((HS.out.calss aB).ups (Xvc Xuk) aC (fun _ _ h=>h)) (by unfold in64;omega) ⟨by have:=bX.out.1;omega,by have:=bX.out.2.1;omega,fun x hx=>by have:=bX.out.2.2 x hx;omega,fun l hl x hx=>by have:=((eN.out.2 l hl).2 x hx).1;omega⟩).mono ?_
 rintro e w5 ⟨dR,hN⟩
 have aT:=Lh (aS.out.then dR)
 clear aB aC c0 c1 c2 zc m0 m1 zm dR
 rcases hN with ⟨aO,rfl⟩|⟨dX,v,rfl,hV⟩
 ·have e1:(Xs9 c m cs (k:Int) != 0)=true:=by simpa using aO
  obtain ⟨W5,aG⟩:∃ V,V=w5.alloc (.cells #[.slice none 0 0,.slice none 0 0,.int .i64 0,.slice none 0 0,.slice none 0 0,.slice none 0 0,.slice none 0 0,.slice none 0 0,.slice none 0 0,.int .i64 0] 34):=⟨_,rfl⟩
  have hb:Hid (Below w5.heap.size w5 W5):=by rw [aG];exact Lh (Xa _ _)
  have aA:W5.heap[w5.heap.size]?=some (.cells #[.slice none 0 0,.slice none 0 0,.int .i64 0,.slice none 0 0,.slice none 0 0,.slice none 0 0,.slice none 0 0,.slice none 0 0,.slice none 0 0,.int .i64 0] 34 (0,0)):=by rw [aG];exact Hn _ _
  obtain ⟨⟨x0,x1,x2,x3,x4,x5,x6,x7,x8,x9⟩,-,xz⟩:=ten aA
  clear aO aA
  go_upto_region 7 with fail
  rw [←aG]
  clear aG
  go_wp2_with fail
  go_ret
  exact ⟨rfl,(aL.out.1.then aT.out).then hb.out⟩
 obtain ⟨dM,dI,dF,dK,dG,dN⟩:=new_all dX
 have eY:=Lh dM
 have eS:=Lh dI
 have eO:=Lh dF
 have eX:=Lh dK
 have cW:=Lh dG
 have fB:=Lh dN
 obtain ⟨s,hs⟩:∃ s,s=Xtb m (k:Int) cs:=⟨_,rfl⟩
 rw [←hs] at hV
 have bJ:=Lh hs
 obtain ⟨ga,gc,ma,mc,ra,rc,ka,kc,ca,cc,oa,oc,ba,bc,ea,ec,rfl⟩:=hV.open_
 have HV:=Lh hV
 clear dX dM dI dF dK dG dN hs hV
 obtain ⟨W5,aG⟩:∃ V,V=w5.alloc (.cells #[.slice ga s.mem.globals.length gc,.slice ma s.mem.nodes.length mc,.int .i64 s.fuel,.slice ra s.running.length rc,.slice ka s.nodes.length kc,.slice ca s.calls.length cc,.slice oa s.results.length oc,.slice ba s.begins.length bc,.slice ea s.ends.length ec,.int .i64 s.step] 34):=⟨_,rfl⟩
 obtain ⟨bs,cF⟩:∃ b,b=w5.heap.size:=⟨_,rfl⟩
 have hb:Below w5.heap.size w5 W5:=by rw [aG];exact Xa _ _
 have aA:W5.heap[bs]?=some (.cells #[.slice ga s.mem.globals.length gc,.slice ma s.mem.nodes.length mc,.int .i64 s.fuel,.slice ra s.running.length rc,.slice ka s.nodes.length kc,.slice ca s.calls.length cc,.slice oa s.results.length oc,.slice ba s.begins.length bc,.slice ea s.ends.length ec,.int .i64 s.step] 34 (0,0)):=by rw [aG,cF];exact Hn _ _
 have bI:Hid (w.heap.size+1<bs∧bs<W5.heap.size):=Lh ⟨by have:=aT.out.size;have:=aL.out.2;omega,(La aA)⟩
 have fA:=Lh ((HV.out.below hb).ups hb.size (fun _ _ h=>h))
 have bG:=Lh (aT.out.then hb)
 have bY:=Lh aA
 obtain ⟨⟨x0,x1,x2,x3,x4,x5,x6,x7,x8,x9⟩,-,xz⟩:=ten aA
 clear hb aA
 go_upto_region 7 with fail
 rw [←aG,← cF]
 clear aG cF
 obtain ⟨aB,aC,⟨c0,c1,c2,zc⟩,-⟩:=HK.out W5 bG.out
 go_wp2_with fail
 refine (X22 c _ _ s W5 (HL.out.below aB) dA.out ((HC.out.below aB).up aC) fA.out (fun _=>by rw [bJ.out];exact cW.out)).mono ?_
 rintro e w6 ⟨bO,hF⟩
 have aA:=Yk bO bY.out
 have bY:=Lh aA
 have bH:=Lh (bG.out.then bO)
 have eI:=Lh bO
 clear x0 x1 x2 x3 x4 x5 x6 x7 x8 x9 xz c0 c1 c2 zc aB aC bO
 obtain ⟨⟨x0,x1,x2,x3,x4,x5,x6,x7,x8,x9⟩,⟨y0,y1,y2,y3,y4,y5,y6,y7,y8,y9⟩,xz⟩:=ten aA
 clear aA
 rcases hF with ⟨fF,rfl⟩|⟨-,-,-,-,-,-,-,rfl⟩|⟨-,s',v,cE,rfl,hT,dE⟩
 ·exact absurd (by rw [bJ.out];exact fB.out) fF
 ·obtain ⟨W7,aE⟩:∃ V,V=Xr6 w6 bs (.slice none 0 0) (.slice none 0 0) (.int .i64 0) (.slice none 0 0) (.slice none 0 0) (.slice none 0 0) (.slice none 0 0) (.slice none 0 0) (.slice none 0 0) (.int .i64 0):=⟨_,rfl⟩
  have hb:Hid (Below w.heap.size w W7):=by
   have h1:=HK.out w6 bH.out
   have h2:=bI.out
   rw [aE];exact Lh (V0 h1.1 (by omega) h1.2.1 _ _ _ _ _ _ _ _ _ _)
  unfold Xr6 at aE
  go_upto_region 10 with fail
  rw [←aE]
  clear aE x0 x1 x2 x3 x4 x5 x6 x7 x8 x9 y0 y1 y2 y3 y4 y5 y6 y7 y8 y9 xz
  go_wp2_with fail
  go_ret
  exact ⟨rfl,hb.out⟩
 have e0:s.running.length=cs.length:=by rw [bJ.out];simp [Xtb]
 rw [e0,bJ.out] at cE
 obtain ⟨aZ,cD,dH⟩:=X3o cW.out cE
 have eL:=Lh aZ
 have eM:=Lh cD
 have bV:=Lh dH
 obtain ⟨ga,gc,ma,mc,ra,rc,ka,kc,ca,cc,oa,oc,ba,bc,ea,ec,rfl⟩:=hT.open_
 obtain ⟨dV,dW⟩:=done_nil cD
 have HF:Hid (∀ V:World,w6.heap.size≤V.heap.size→(∀ b,W5.heap.size≤b→b<w6.heap.size→V.heap[b]?=w6.heap[b]?)→Xsd V.heap.size V (.agg #[.slice ga s'.mem.globals.length gc,.slice ma s'.mem.nodes.length mc,.int .i64 s'.fuel,.slice ra s'.running.length rc,.slice ka s'.nodes.length kc,.slice ca s'.calls.length cc,.slice oa s'.results.length oc,.slice ba s'.begins.length bc,.slice ea s'.ends.length ec,.int .i64 s'.step]) s'):=Lh (fun V h1 h2=>dE V h1 h2 dV dW)
 clear e0 cE aZ cD dH hT dE dV dW
 obtain ⟨W7,aE⟩:∃ V,V=Xr6 w6 bs (.slice ga s'.mem.globals.length gc) (.slice ma s'.mem.nodes.length mc) (.int .i64 s'.fuel) (.slice ra s'.running.length rc) (.slice ka s'.nodes.length kc) (.slice ca s'.calls.length cc) (.slice oa s'.results.length oc) (.slice ba s'.begins.length bc) (.slice ea s'.ends.length ec) (.int .i64 s'.step):=⟨_,rfl⟩
 have aH:∀ b,b≠bs→W7.heap[b]?=w6.heap[b]?:=fun b hb=>by rw [aE];exact put10_other hb _ _ _ _ _ _ _ _ _ _
 have aA:W7.heap[bs]?=some (.cells #[.slice ga s'.mem.globals.length gc,.slice ma s'.mem.nodes.length mc,.int .i64 s'.fuel,.slice ra s'.running.length rc,.slice ka s'.nodes.length kc,.slice ca s'.calls.length cc,.slice oa s'.results.length oc,.slice ba s'.begins.length bc,.slice ea s'.ends.length ec,.int .i64 s'.step] 34 (0,0)):=by rw [aE];exact V4 bY.out _ _ _ _ _ _ _ _ _ _
 have cK:W7.heap.size=w6.heap.size:=by rw [aE];exact Xtg _ _ _ _ _ _ _ _ _ _ _ _
 have cB:AlR c w W5 w6 bs #[.slice fa c.fields.length fc,.int .i64 c.globals,.slice qa c.funcs.length qc] #[.slice ga s'.mem.globals.length gc,.slice ma s'.mem.nodes.length mc,.int .i64 s'.fuel,.slice ra s'.running.length rc,.slice ka s'.nodes.length kc,.slice ca s'.calls.length cc,.slice oa s'.results.length oc,.slice ba s'.begins.length bc,.slice ea s'.ends.length ec,.int .i64 s'.step] W7 (.slice va m.globals.length vc) (.slice na m.nodes.length nc) m:=by
  have h1:=HK.out w6 bH.out
  have h2:=bI.out
  have hb:Below w.heap.size w W7:=by rw [aE];exact V0 h1.1 (by omega) h1.2.1 _ _ _ _ _ _ _ _ _ _
  exact ⟨hb,(aH _ (by omega)).trans (Yk bH.out eB.out),(aH _ (by omega)).trans (Yk bH.out eC.out),aA,fun b h3 _=>aH b (by omega),by omega,(HM.out.below hb).up hb.size,eS.out⟩
 have HA:=Lh cB
 have eZ:=Lh (HF.out W7 (by omega) cB.new)
 unfold Xr6 at aE
 clear aH cK cB
 go_upto_region 10 with fail
 rw [←aE]
 clear aE x0 x1 x2 x3 x4 x5 x6 x7 x8 x9 y0 y1 y2 y3 y4 y5 y6 y7 y8 y9 xz
 obtain ⟨⟨x0,x1,x2,x3,x4,x5,x6,x7,x8,x9⟩,-,xz⟩:=ten aA
 clear aA
 go_wp2_with fail
 refine (X3r s' _ W7.heap.size W7 (Nr _) eZ.out).mono ?_
 rintro e w8 ⟨rfl,aN⟩
 rw [eM.out]
 have cQ:=Lh (HA.out.keep aN)
 clear x0 x1 x2 x3 x4 x5 x6 x7 x8 x9 xz aN
 obtain ⟨⟨x0,x1,x2,x3,x4,x5,x6,x7,x8,x9⟩,-,xz⟩:=ten cQ.out.thr
 rw [bV.out] at x6
 have aO:((cs.length:Int) != (cs.length:Int))=false:=by simp
 go_wp2_with fail
 clear x0 x1 x2 x3 x4 x5 x6 x7 x8 x9 xz aO
 go_loopw [75] (fun i wr=>∃ t:Nat,t≤cs.length∧i=.int .i64 t∧Hid (∃ (mz:Mm) (g1:Option Addr) (bL bK:Nat) (n1:Option Addr) (bR bQ:Nat),AlR c w W5 w6 bs #[.slice fa c.fields.length fc,.int .i64 c.globals,.slice qa c.funcs.length qc] #[.slice ga s'.mem.globals.length gc,.slice ma s'.mem.nodes.length mc,.int .i64 s'.fuel,.slice ra s'.running.length rc,.slice ka s'.nodes.length kc,.slice ca s'.calls.length cc,.slice oa s'.results.length oc,.slice ba s'.begins.length bc,.slice ea s'.ends.length ec,.int .i64 s'.step] wr (.slice g1 bL bK) (.slice n1 bR bQ) mz∧Xug c (k:Int) mz (cs.drop t) (s'.results.drop t) s'.mem)) (fun i _=>cs.length - (intOf i).toNat)
 case atStart=>exact ⟨0,Nat.zero_le _,rfl,Lh ⟨m,_,_,_,_,_,_,cQ.out,eL.out⟩⟩
 case round=>
  obtain ⟨t,ht,rfl,hs⟩:=hrel
  obtain ⟨gE,g1,bL,bK,n1,bR,bQ,aY,aZ⟩:=hs.out
  have aR:=Lh aY
  have cV:=Lh aZ
  obtain ⟨wo,rfl⟩:∃ wo:World,wo=wr:=⟨_,rfl⟩
  obtain ⟨⟨x0,x1,x2,x3,x4,x5,x6,x7,x8,x9⟩,-,xz⟩:=ten aY.thr
  have hT:=HF.out wo aY.size aY.new
  have HT:=Lh hT
  rw [bV.out] at x6
  clear hs aY aZ
  by_cases fI:t<cs.length
  ·obtain ⟨l,hl⟩:∃ y,cs[t]?=some y:=⟨_,Lg fI⟩
   obtain ⟨r,m1,hr,cC,dB⟩:=cV.out.at_ hl
   obtain ⟨b0,o0,rfl,fM,gD,dZ,cI⟩:=(HS.out.calss aR.out.bel).nth hl
   obtain ⟨xa,xc,rfl,fZ⟩:=cI.fr
   obtain ⟨rb,ro,rfl,fO,fK,aK,aP⟩:=hT.parts.2.2.2.2.2.1.nth hr
   obtain ⟨ya,yc,rfl⟩:=aP.form
   rw [Nat.mul_one] at dZ aK
   rw [cC.len] at aK
   have HX:=Lh hl
   have eQ:=Lh cI
   have eW:=Lh hr
   have cT:=Lh cC
   have eJ:=Lh dB
   have fS:(0:Int)≤(t:Int):=In _
   have fT:(t:Int)<(cs.length:Int):=by omega
   have aO:((l.length:Int) != (l.length:Int))=false:=by simp
   clear hl hr cC dB cI aP hT
   go_wp2_with fail
   clear dZ aK aO fM fO x0 x1 x2 x3 x4 x5 x6 x7 x8 x9 xz
   go_loopw [91] (fun i wr=>∃ p:Nat,p≤l.length∧i=.int .i64 p∧Hid (Below w.heap.size wo wr∧∃ (mz:Mm) (g1:Option Addr) (bL bK:Nat) (n1:Option Addr) (bR bQ:Nat),AlR c w W5 w6 bs #[.slice fa c.fields.length fc,.int .i64 c.globals,.slice qa c.funcs.length qc] #[.slice ga s'.mem.globals.length gc,.slice ma s'.mem.nodes.length mc,.int .i64 s'.fuel,.slice ra s'.running.length rc,.slice ka s'.nodes.length kc,.slice ca s'.calls.length cc,.slice (some ⟨rb,ro,none⟩) s'.results.length oc,.slice ba s'.begins.length bc,.slice ea s'.ends.length ec,.int .i64 s'.step] wr (.slice g1 bL bK) (.slice n1 bR bQ) mz∧Xus c (k:Int) mz (l.drop p) (r.drop p) m1)) (fun i _=>l.length - (intOf i).toNat)
   case atStart=>exact ⟨0,Nat.zero_le _,rfl,Lh ⟨Below.refl _ _,_,_,_,_,_,_,_,aR.out,cT.out⟩⟩
   case round=>
    obtain ⟨p,hp,rfl,eE⟩:=hrel
    obtain ⟨dS,mq,g2,fQ,fP,n2,gG,gF,aM,dC⟩:=eE.out
    have cS:=Lh dS
    have bF:=Lh aM
    have cU:=Lh dC
    clear eE dS aM dC
    by_cases fG:p<l.length
    ·obtain ⟨x,hx⟩:∃ y,l[p]?=some y:=⟨_,Lg fG⟩
     obtain ⟨mx,o,pq,eD,dL,dJ,dD⟩:=cU.out.at_ hx
     obtain ⟨b1,o1,rfl,fN,eG,⟨av,fL,cL⟩,fJ⟩:=(eQ.out.cals cS.out).nth hx
     obtain ⟨cO,cP,rfl⟩:=cL.form
     have fC:Hid (∀ V,Below w.heap.size wr V→J8 w.heap.size V (.agg #[.string x.proc,.slice cO x.args.length cP]) x):=Lh (fun V hV=>⟨_,rfl,cL.ints hV,fJ⟩)
     have eP:Hid (Yd c x k=0):=Lh (Xuz eO.out (eX.out l (Lm HX.out) x (Lm hx)))
     have eV:=Lh eD
     have cZ:=Lh dL
     have cY:=Lh dJ
     have eK:=Lh dD
     have fV:(0:Int)≤(p:Int):=In _
     have fW:(p:Int)<(l.length:Int):=by omega
     have zx:=Bl eG
     clear hx eD dL dJ dD cL fN
     go_upto_region 20 with fail
     obtain ⟨V,hV⟩:∃ V,V=wr.alloc (.cells #[.string x.proc,.slice cO x.args.length cP] 80):=⟨_,rfl⟩
     have bZ:Hid (Below wr.heap.size wr V):=by rw [hV];exact Lh (Xa _ _)
     have cJ:V.heap[wr.heap.size]?=some (.cells #[.string x.proc,.slice cO x.args.length cP] 80 (0,0)):=by rw [hV];exact Hn _ _
     have v0:=Cw cJ 0 rfl
     have v1:=Cw cJ 1 rfl
     have zv:=Bl v0
     have aF:=Lh (bF.out.keep bZ.out)
     rw [←hV]
     clear hV cJ eG fL zx
     have bP:=aF.out.code
     have c0:=Cw bP 0 rfl
     have c1:=Cw bP 1 rfl
     have c2:=Cw bP 2 rfl
     have zc:=Bl c0
     have aD:=aF.out.box
     have m0:=Cw aD 0 rfl
     have m1:=Cw aD 1 rfl
     have zm:=Bl m0
     clear bP aD
     go_wp2_with fail
     refine (Xp9 HP.out c mq x (k:Int) _ _ _ V.heap.size V (HL.out.below aF.out.bel) (Nr _) ((HC.out.below aF.out.bel).up aF.out.bel.size) aF.out.mem ((fC.out V (bZ.out.mono bF.out.bel.size)).up aF.out.bel.size) dA.out).mono ?_
     rintro e w8 ⟨er,oo,aV,bC,gA,aX,aW,bE,bD,gC,gB,rfl,hE,hR,aN⟩
     have h0:er=0:=by
      rcases hE with ⟨h,_⟩|⟨_,_,h⟩
      ·exact absurd ⟨eY.out,Xn1.2 aF.out.ok⟩ h
      ·rw [h];exact eP.out
     subst h0
     obtain ⟨my,py,k1,k2,-⟩:=hR.reads
     rw [Vv k1 cZ.out] at k2
     obtain ⟨rfl,rfl⟩:=Xlp k2 cY.out
     obtain ⟨f1,cN,cM,cA⟩:=oo
     obtain ⟨A,hA⟩:∃ V,V=(w8.alloc (.cells #[.int .i64 f1,.int .i64 cN,.int .i64 cM,.int .i64 cA,.int .i64 0] 84)).alloc (.cells #[.slice aV aX aW,.slice bC bE bD] 28):=⟨_,rfl⟩
     obtain ⟨b8,aI⟩:∃ n,n=w8.heap.size:=⟨_,rfl⟩
     have bM:Below w8.heap.size w8 A:=by rw [hA];exact (Xa _ _).then (Xa _ _)
     have aU:Hid (Xo A b8 [.int .i64 f1,.int .i64 cN,.int .i64 cM,.int .i64 cA,.int .i64 0]):=by rw [hA,aI];exact Lh (Xd.alloc _)
     have bW:Hid (Xo A (b8+1) [.slice aV aX aW,.slice bC bE bD]):=by
      rw [hA,aI]
      have:=@Xd (w8.alloc (.cells #[.int .i64 f1,.int .i64 cN,.int .i64 cM,.int .i64 cA,.int .i64 0] 84)) #[.slice aV aX aW,.slice bC bE bD] 28
      exact Lh (by simpa using this)
     have eT:=Lh (hR.keepB bM)
     have aQ:=Lh (aF.out.keep (aN.then bM))
     have aS:Hid (Below w.heap.size wr A):=Lh ((bZ.out.then (aN.then bM)).mono bF.out.bel.size)
     unfold Xap X8
     clear hE hR aN bM k1 k2 c0 c1 c2 zc m0 m1 zm v0 v1 zv
     go_upto_region 21 with fail
     rw [←hA,← aI]
     clear hA aI
     have hT:=(HF.out A aQ.out.size aQ.out.new).parts.2.2.2.2.2.1
     obtain ⟨gH,gI,he,-,fK,aK,aP⟩:=hT.nth eW.out
     cases he
     obtain ⟨ya,yc,rfl⟩:=aP.form
     obtain ⟨b2,o2,rfl,-,u0,u1,u2,u3,u4,-⟩:=aP.nth eV.out
     rw [Nat.mul_one] at aK
     rw [cT.out.len] at aK
     dsimp only [toT] at u0 u1 u2 u3 u4
     obtain ⟨⟨x0,x1,x2,x3,x4,x5,x6,x7,x8,x9⟩,-,xz⟩:=ten aQ.out.thr
     rw [bV.out] at x6
     have r0:=aU.out 0 _ rfl
     have r1:=aU.out 1 _ rfl
     have r2:=aU.out 2 _ rfl
     have r3:=aU.out 3 _ rfl
     have r4:=aU.out 4 _ rfl
     have zr:=Bl r0
     have zu:=Bl u0
     have zh:=Bl aK
     have s0:=bW.out 0 _ rfl
     have s1:=bW.out 1 _ rfl
     have zs:=Bl s0
     clear hT aP
     go_quiet (fail)
     obtain ⟨A2,aM⟩:∃ V,V=A.drewN nq:=⟨_,rfl⟩
     have aJ:Below A.heap.size A A2:=by rw [aM];exact Xh Br nq
     rw [←aM]
     have bS:=Lh (aQ.out.keep aJ)
     have eU:=Lh (eT.out.keepB aJ)
     have aT:=Lh (aS.out.trans (aJ.mono aQ.out.bel.size))
     have cX:=Lh (bW.out.keep aJ)
     clear aM aJ aK u0 u1 u2 u3 u4 x0 x1 x2 x3 x4 x5 x6 x7 x8 x9 xz r0 r1 r2 r3 r4 zr zu zh s0 s1 zs
     have s0:=cX.out 0 _ rfl
     have s1:=cX.out 1 _ rfl
     have zs:=Bl s0
     have aD:=bS.out.box
     have q0:=Cw aD 0 rfl
     have q1:=Cw aD 1 rfl
     have zm:=Bl q0
     have f0:A2.frozen? ⟨w.heap.size+1,0,none⟩=false:=Fz aD
     have f1:A2.frozen? ⟨w.heap.size+1,1,none⟩=false:=Fz aD
     obtain ⟨W9,bN⟩:∃ V,V=Xge A2 (w.heap.size+1) (.slice aV aX aW) (.slice bC bE bD):=⟨_,rfl⟩
     obtain ⟨cG,hM⟩:=Xfw aD (.slice aV aX aW) (.slice bC bE bD)
     rw [←bN] at cG hM
     have bA:w.heap.size+1<V.heap.size:=(La aF.out.box)
     obtain ⟨mz,pz,k1,k2,k3,-,k5,-⟩:=(eU.out.put bA hM).reads
     rw [Vv k1 cZ.out] at k2
     obtain ⟨-,rfl⟩:=Xlp k2 cY.out
     have eH:=Lh (bS.out.put (by have:=bI.out;omega) bI.out.1 hM cG k3 k5)
     have bG:=Lh ((cS.out.trans aT.out).trans (hM.below (by simp) bS.out.bel.size))
     unfold Xge at bN
     clear aD cG hM bA k1 k2 k3 k5
     go_upto_region 24 with fail
     rw [←bN]
     clear bN s0 s1 zs q0 q1 zm f0 f1
     go_wp2_with fail
     go_roundw
     case rel=>exact ⟨p+1,by omega,by go_num,Lh ⟨bG.out,_,_,_,_,_,_,_,eH.out,eK.out⟩⟩
     case measure=>simp [intOf];omega
    ·obtain rfl:p=l.length:=by omega
     have e:=cU.out.stop
     subst e
     have fX:¬((l.length:Int)<(l.length:Int)):=by omega
     go_wp2_with fail
     go_roundw
     case rel=>exact ⟨t+1,by omega,by go_num,Lh ⟨_,_,_,_,_,_,_,bF.out,eJ.out⟩⟩
     case measure=>simp [intOf];omega
  ·obtain rfl:t=cs.length:=by omega
   have HE:=Lh cV.out.stop
   have fU:¬((cs.length:Int)<(cs.length:Int)):=by omega
   have aD:=aR.out.box
   have q0:=Cw aD 0 rfl
   have q1:=Cw aD 1 rfl
   have zm:=Bl q0
   clear aD hT
   go_wp2_with fail
   refine (X1j s'.mem _ _ wo.heap.size wo.heap.size wo (Nr _) (Nr _) ⟨_,_,rfl,HT.out.parts.1,HT.out.parts.2.1⟩ (by rw [HE.out];exact aR.out.mem)).mono ?_
   rintro e w9 ⟨rfl,fD⟩
   go_wp2_with fail
   go_ret
   exact ⟨rfl,aR.out.bel.then fD⟩
