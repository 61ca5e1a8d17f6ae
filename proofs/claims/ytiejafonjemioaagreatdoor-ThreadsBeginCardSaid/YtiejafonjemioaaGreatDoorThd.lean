import Derived.Test.YtiejafonjemioaaGreatDoorThp
set_option maxHeartbeats 4000000
set_option maxRecDepth 100000
set_option linter.unusedVariables false
set_option linter.unusedSimpArgs false
open Go.Value renaming slice→σ
open Go.Obj renaming cells→χ
namespace Go.Proofs.YtiejafonjemioaaGreatDoor
open Go.RowKit
variable {B b vc M C fc:Nat} {w w' wx:World} {fv:Value} {m:Mch} {c c1:Clr} {va fa:Option Addr} {cvs:Array Value}
theorem X14:Ups (fun _=>Xbu):=fun _ _ _ _ _ _ _ _ hS h=>⟨hS _ _ h.1,hS _ _ h.2.1,h.2.2⟩
theorem X2n:Ups Zl:=fun _ _ _ _ _ _ _ hB hS h=>by
 obtain ⟨h1,h2,h3,h4,⟨v,h5,h6⟩,h7⟩:=h
 exact ⟨hS _ _ h1,hS _ _ h2,hS _ _ h3,hS _ _ h4,⟨v,hS _ _ h5,h6.ups X14 hB hS⟩,h7⟩
theorem Yj.ups {B':Nat} {v:Value} {cd:Cod} (hB:B<=B') (hS:Sub w w') (h:Yj B w v cd):Yj B' w' v cd:=by
 obtain ⟨fv,gv,h1,h2,h3,h4⟩:=h
 exact ⟨fv,gv,h1,h2.ups Xr9 hB hS,h3.ups X2n hB hS,h4⟩
structure Xzl (cd:Cod) (s:Thr) (t:Nat) (m0:Mch) (n:Int) (l:List Cal) (r:List Xr7) (b e:List Int):Prop where
 hm:s.running[t]?=some m0
 hn:s.nodes[t]?=some n
 hl:s.calls[t]?=some l
 hr:s.results[t]?=some r
 hb:s.begins[t]?=some b
 he:s.ends[t]?=some e
 rl:r.length<=1000000
 bl:b.length<=1000000
 el:e.length<=1000000
 cnt:0<=n/\n<=4611686018427387904
 step:0<=s.step/\s.step<=4611686018427387904
 head:(m0.frames=[]/\∃ x l',l=x::l'/\Yd cd x s.fuel=0)\/(m0.frames≠[]/\Yf cd m0/\Xsi m0=true)
theorem Qq.below (h:Qq w fv m w'):Below w.heap.size w w':=by obtain ⟨F,_,_,h⟩:=h;exact h
theorem V2.local_ {w1:World} {bt:Nat} {s:Thr} (h:V2 w c bt s) (hb:Below w.heap.size w w1) (hlt:w.heap.size<=b) (hb1:b<w1.heap.size):∃ c1:Clr,V2 w1 c1 bt s/\Chg NO c c1 w w1/\c1 b=14:=by
 have aA:=h.lab.2.2.1
 have hC:Chg NO c (fun x=>if x=b then 14 else c x) w w1:=⟨hb.os,hb.tape,hb.output,hb.size,fun x hx _=>hb.block x hx,fun x hx=>if_neg ω,no 0⟩
 exact ⟨_,h.chg hC (fun x hx=>by show (if x=b then 14 else c x)=0;rw [if_neg ω];exact aA x (Nt hb.size hx)) (fun t ht=>ht.elim),hC,if_pos rfl⟩
theorem Qq.fras (h:Qq w (σ va m.frames.length vc) m w') (hhi:∀ b,w.heap.size<=b->c b=0) (hm:J6 m):Xf w'.heap.size (mask w' c) 4 (Qp w'.heap.size) (σ va m.frames.length vc) m.frames:=by
 obtain ⟨F,h1,h2,h3⟩:=h
 have:=(h1.keep (w':=mask w' c) (fun b hb=>Xvm (hhi b (h2 b hb)))).reads hm.1 hm.2
 rw [Xul] at this
 exact this
theorem Xzt (h:c M=14):Chg (fun k=>k=14) c c w (Yp w M fv m):=
 ((((((((Chg.set (T:=fun k=>k=14) h ω).trans (Chg.set h ω)).trans (Chg.set h ω)).trans (Chg.set h ω)).trans (Chg.set h ω)).trans (Chg.set h ω)).trans (Chg.set h ω)).trans (Chg.set h ω)).trans (Chg.set h ω)
theorem Xu6 (w:World) (M:Nat) (fv:Value) (m:Mch):(Yp w M fv m).heap.size=w.heap.size:=by simp [Yp]
theorem Xf.tail {α:Type} {sz:Nat} {E:World->Nat->Nat->α->Prop} {o cap:Nat} {x:α} {l:List α} {a:Option Addr} (h:Xf B w sz E (σ (some (π b o)) (x::l).length cap) (x::l)) (ha:(if cap=1 then some ((π b o):Addr) else some (π b (o+sz)))=a):Xf B w sz E (σ a l.length (cap - 1)) l:=by
 obtain ⟨a0,c0,e,h1,h2,h3,h4⟩:=h
 cases e
 simp only [List.length_cons] at h1 h2
 refine ⟨a,cap - 1,rfl,ω,ω,ω,?_⟩
 split at ha
 ·left;exact List.eq_nil_of_length_eq_zero ω
 ·rcases h4 with h4|⟨b',o',e,hb,h4⟩
  ·cases h4
  ·cases e
   refine .inr ⟨b,o+sz,ha.symm,hb,fun i y hy=>?_⟩
   have:=h4 (i+1) y (by simpa using hy)
   rwa [Nat.add_mul,Nat.one_mul,show o+(i*sz+sz)=o+sz+i*sz by omega] at this
structure Xwq (cvs:Array Value) (M C:Nat) (w:World) (c:Clr) (wx:World) (c1:Clr) (m:Mch) (fa:Option Addr) (fc:Nat):Prop where
 chg:Chg NZ c c1 w wx
 low:w.heap.size<=M
 box:wx.heap[M]?=some (χ (Xb (σ fa m.frames.length fc) m) 51 (0,0))
 lab:c1 M=14
 code:wx.heap[C]?=some (χ cvs 25 (0,0))
 lab0:c1 C=0
 fr:Xf wx.heap.size (mask wx c1) 4 (Qp wx.heap.size) (σ fa m.frames.length fc) m.frames
theorem Xwq.go {wy:World} {c2:Clr} {T:Nat->Prop} (h:Xwq cvs M C w c wx c1 m fa fc) (hC:Chg T c1 c2 wx wy) (hT:¬T 14):Xwq cvs M C w c wy c2 m fa fc:=by
 have hM:=(La h.box)
 have hc:=(La h.code)
 exact ⟨h.chg.trans (hC.nz hT),h.low,by rw [hC.keep M hM (by rw [h.lab];exact hT)];exact h.box,by rw [hC.old M hM];exact h.lab,by rw [hC.keep C hc (by rw [h.lab0];exact hC.zero)];exact h.code,by rw [hC.old C hc];exact h.lab0,h.fr.ups Xsw hC.size hC.sub⟩
theorem Xwq.put {m':Mch} (h:Xwq cvs M C w c wx c1 m fa fc) (hf:Xf wx.heap.size (mask wx c1) 4 (Qp wx.heap.size) (σ va m'.frames.length vc) m'.frames):Xwq cvs M C w c (Yp wx M (σ va m'.frames.length vc) m') c1 m' va vc:=by
 have hC:Chg (fun k=>k=14) c1 c1 wx (Yp wx M (σ va m'.frames.length vc) m'):=Xzt h.lab
 have hc:=(La h.code)
 exact ⟨⟨hC.os.trans h.chg.os,hC.tape.trans h.chg.tape,hC.output.trans h.chg.output,Nt h.chg.size hC.size,fun b hb hn=>by rw [((Xz h.box (σ va m'.frames.length vc) m').2).block b (Nl hb h.chg.size) (fun e=>by simp at e;have:=h.low;omega),h.chg.keep b hb hn],h.chg.old,nz0⟩,h.low,(Xz h.box _ m').1,h.lab,by rw [hC.keep C hc (by rw [h.lab0];omega)];exact h.code,h.lab0,hf.ups Xsw hC.size hC.sub⟩
structure X4p (cd:Cod) (cvs:Array Value) (s:Thr) (t:Nat) (m0:Mch) (bt M C:Nat) (w:World) (c:Clr) (wx:World) (c1:Clr) (s1:Thr) (m:Mch) (fa:Option Addr) (fc:Nat):Prop where
 st:V2 wx c1 bt s1
 beg:X1l cd s t m0 m s1
 loc:Xwq cvs M C w c wx c1 m fa fc
 wf:Xt0 m
 ok:Xsi m=true->Yf cd m
def X4q (cd:Cod) (cvs:Array Value) (s:Thr) (t:Nat) (m0:Mch) (bt M C:Nat) (w:World) (c:Clr) (wx:World):Prop:=∃ c1 s1 m fa fc,X4p cd cvs s t m0 bt M C w c wx c1 s1 m fa fc
theorem Xvx (cd:Cod) (fa ga:Option Addr) (fc gc B:Nat) (s:Thr) (c:Clr) (bt t:Nat) (m0:Mch) (n:Int) (l:List Cal) (r:List Xr7) (b e:List Int) (w0 w:World) (hL0:Qa w0) (hB0:w0.heap.size=B) (hb0:Below B w0 w) (hs:Xv cd) (hsm:Zb cd) (hB:B<=w.heap.size) (hc:Yj B w (.agg (Bc fa fc ga gc cd)) cd) (hlow:∀ b,b<B->¬NZ (c b)) (h:V2 w c bt s) (hmem:Uv cd s.mem) (hp:Xzl cd s t m0 n l r b e) :
  Calls Tryz.prog 68 #[.agg (Bc fa fc ga gc cd),.pointer (some (π bt 0)),ι t] w fun z w'=>z=.returned (ι 0)/\∃ s',Xsq cd s t s'/\Xs5 c bt s' w w':=by
 have hL:Qa w:=hL0.below (by rw [hB0];exact hb0)
 have HL:=Lh hL
 have cI:Hid (∀ V,Below B w V->Qa V):=Lh (fun V hV=>hL0.below (by rw [hB0];exact hb0.trans hV))
 have HC:=Lh hc
 have bO:=Lh hlow
 have H0:=Lh h
 have HM:=Lh hmem
 have HP:=Lh hp
 have i0:(0:Int)<=(t:Int):=In _
 have i1:(t:Int)<(s.running.length:Int):=by have:=(Ll hp.hm);omega
 obtain ⟨W,hW⟩:∃ W,W=w.alloc (χ (Bc fa fc ga gc cd) 25):=⟨_,rfl⟩
 have cD:Hid (Below w.heap.size w W):=by rw [hW];exact Lh (Xa _ _)
 have iH:Hid (W.heap.size=w.heap.size+1):=by rw [hW];exact Lh ψ
 have HS:=Lh (H0.o.grow cD.o)
 have fZ:W.heap[w.heap.size]?=some (χ (Bc fa fc ga gc cd) 25 (0,0)):=by rw [hW];exact Hn _ _
 have hJ:=Lh fZ
 have zR:w.heap.size<W.heap.size:=by rw [hW];simp
 obtain ⟨rb,rc,ua,uc,b3,hx,iI,iJ,-,fT,gC,-⟩:=HS.o.viewR HP.o.hm
 have hA:=Lh fT
 have hU:=Lh gC
 have x0:W.cell? (π rb (t*9))=some (σ ua m0.frames.length uc):=hx 0 _ rfl
 have x1:=hx 1 _ rfl
 have x2:=hx 2 _ rfl
 have x3:=hx 3 _ rfl
 have x4:=hx 4 _ rfl
 have x5:=hx 5 _ rfl
 have x6:=hx 6 _ rfl
 have x7:=hx 7 _ rfl
 have x8:=hx 8 _ rfl
 clear hx iI iJ fT gC hL hc hlow h hmem hp fZ hL0 hB0 hb0
 obtain ⟨W1,cS⟩:∃ V,V=W.alloc (χ #[σ ua m0.frames.length uc,ι m0.req.kind,ι m0.req.node,ι m0.req.field,ι m0.req.value,ι m0.req.fault,ι m0.fuel,ι m0.compares,ι m0.idle] 51):=⟨_,rfl⟩
 have cU:Hid (Below W.heap.size W W1):=Lh (by rw [cS];exact Xa _ _)
 have aH:W1.heap[W.heap.size]?=some (χ (Xb (σ ua m0.frames.length uc) m0) 51 (0,0)):=by rw [cS];exact Hn _ _
 have dV:=Lh aH
 have gF:W1.heap.size=W.heap.size+1:=by rw [cS];simp
 obtain ⟨c0,gA,eD,fV⟩:=HS.o.local_ cU.o (Nr _) ω
 have cB:=Lh gA
 have fB:=Lh eD
 have dR:=Lh fV
 have fJ:=Lh gF
 have fC:Hid (Xf W1.heap.size (mask W1 c0) 4 (Qp W1.heap.size) (σ ua m0.frames.length uc) m0.frames):=Lh (hA.o.ups Xsw cU.o.size (eD.sub))
 obtain ⟨M,iS⟩:∃ M,M=W.heap.size:=⟨_,rfl⟩
 have kM:W1.cell? (π W.heap.size 0)=some (σ ua m0.frames.length uc):=Xe aH 0 _ rfl
 have zM:W.heap.size<W1.heap.size:=ω
 clear gA eD fV aH gF
 go_enter Tryz.func68,Tryz.ntmps68
 go_upto_region 1 with fail
 rw [<-hW]
 clear hW
 go_upto_region 2 with fail
 rw [<-cS]
 clear cS x0 x1 x2 x3 x4 x5 x6 x7 x8 b3 i1
 go_upto_if 25 with fail
 go_cut [9] (fun s9 wx=>Hid (X4q cd (Bc fa fc ga gc cd) s t m0 bt W.heap.size w.heap.size w c wx))
 case first=>
  have bK:W1.heap[w.heap.size]?=some (χ (Bc fa fc ga gc cd) 25 (0,0)):=(cU.o.block _ zR).trans hJ.o
  have cV:Chg NZ c c0 w W1:=Chg.pre cD.o fB.o.nz
  have bL:c0 w.heap.size=0:=by rw [fB.o.old _ zR];exact H0.o.lab.2.2.1 _ (Nr _)
  have aJ:=Lh (And.intro bK (And.intro cV bL))
  clear bK cV bL
  by_cases cE:m0.frames.length=0
  rotate_left
  ·have d0:(m0.frames.length == 0)=false:=by simpa using cE
   have d1:((m0.frames.length:Int) == 0)=false:=by simp only [beq_eq_false_iff_ne,ne_eq];omega
   have gX:=Lh cE
   clear cE
   go_wp2
   go_meet
   case rel=>
    have dI:m0.frames≠[]:=fun e=>gX.o (by rw [e];rfl)
    refine Lh ⟨c0,s,m0,ua,uc,cB.o,.inl ⟨dI,rfl,rfl⟩,⟨aJ.o.2.1,cD.o.size,dV.o,dR.o,aJ.o.1,aJ.o.2.2,fC.o⟩,hU.o,fun ha=>?_⟩
    rcases HP.o.head with ⟨h,_⟩|⟨_,h,_⟩
    ·exact absurd h dI
    ·exact h
  ·have dG:m0.frames=[]:=List.eq_nil_of_length_eq_zero cE
   obtain ⟨x,l',rfl,hg⟩:∃ x l',l=x::l'/\Yd cd x s.fuel=0:=by
    rcases HP.o.head with ⟨_,h⟩|⟨h,_⟩
    ·exact h
    ·exact absurd dG h
   have gZ:=Lh dG
   have HG:=Lh hg
   obtain ⟨cb,cc,la,lc,b5,y0,fM,fP,-,eF,-⟩:=cB.o.viewC HP.o.hl
   have iP:=Lh eF
   obtain ⟨lb,lo,rfl,fW,⟨eJ,⟨av,eK,eL⟩,gE⟩⟩:=eF.nth (k:=0) rfl
   rw [Nat.zero_mul,Nat.add_zero] at eJ eK
   obtain ⟨xa,xc,rfl⟩:=eL.fm
   have u0:=Sub.mask W1 c0 _ _ eJ
   have u1:=Sub.mask W1 c0 _ _ eK
   obtain ⟨b2,iF⟩:=cB.o.fuel
   have g0:=Cw aJ.o.1 0 rfl
   have g1:=Cw aJ.o.1 1 rfl
   have g2:=Cw aJ.o.1 2 rfl
   have fH:Hid (∀ V,Below W1.heap.size W1 V->Calls Tryz.prog 69 #[.agg (Bc fa fc ga gc cd),.agg #[.string x.proc,σ xa x.args.length xc],ι s.fuel] V (fun e w'=>∃ m va vc,Zm cd (Zo cd x s.fuel) m/\e=.returned (.tuple #[.agg #[σ va m.frames.length vc,ι m.req.kind,ι m.req.node,ι m.req.field,ι m.req.value,ι m.req.fault,ι m.fuel,ι m.compares,ι m.idle],ι 0])/\Qq V (σ va m.frames.length vc) m w')):=Lh (fun V hV=>by
    have iC:Sub (mask W1 c0) V:=(Sub.mask W1 c0).trans (Sub.below hV)
    have iA:B<=W1.heap.size:=by have:=fJ.o;have:=iH.o;omega
    have hb:Below B w V:=((cD.o.then cU.o).then hV).mono hB
    refine (Xff cd x s.fuel _ _ V.heap.size V (HL.o.below ((cD.o.then cU.o).then hV)) (Nr _) ((HC.o.below hb).up (Nt iA hV.size)) ⟨_,rfl,eL.ups Xr9 hV.size iC,gE⟩ hsm).mono ?_
    rintro e w' (⟨h,_⟩|⟨_,⟨h,_⟩|⟨_,m',fv,h1,h2,h3⟩⟩)
    ·exact absurd hs h
    ·exact absurd HG.o h
    ·obtain ⟨F,k1,k2⟩:=h3
     obtain ⟨va,vc,rfl⟩:=k1.form
     exact ⟨m',va,vc,h1,h2,F,k1,k2⟩)
   have d0:(m0.frames.length == 0)=true:=by simpa using cE
   have d1:((m0.frames.length:Int) == 0)=true:=by simp;exact dG
   have i2:(t:Int)<(s.calls.length:Int):=by have:=(Ll HP.o.hl);omega
   have i3:(0:Int)<((x::l').length:Int):=by simp
   have iO:=Lh fM
   clear cE dG hg eF eJ eK eL gE iF fM
   go_upto_region 3 with fail
   have Z:=Lh (And.intro zR (And.intro zM fW))
   have gS:=Lh fP
   go_cut [8,9] (fun s8 s9 wx=>s9=ι 0/\∃ (b8:Nat) (m:Mch) (va:Option Addr) (vc:Nat),s8=.pointer (some (π b8 0))/\Hid (Zm cd (Zo cd x s.fuel) m)/\Hid (Qq W1 (σ va m.frames.length vc) m wx/\wx.heap[b8]?=some (χ (Xb (σ va m.frames.length vc) m) 51 (0,0))/\W1.heap.size<=b8))
   case first=>
    refine X6 (fun Vs=>Vs.cell? (π w.heap.size 0)=some (σ fa cd.fields.length fc)/\Vs.cell? (π w.heap.size 1)=some (ι cd.globals)/\Vs.cell? (π w.heap.size 2)=some (σ ga cd.funcs.length gc)/\Vs.cell? (π bt 5)=some (σ (some (π cb 0)) s.calls.length cc)/\Vs.cell? (π cb t)=some (Value.slice (some (π lb lo)) (x::l').length lc)/\Vs.cell? (π lb lo)=some (.string x.proc)/\Vs.cell? (π lb (lo+1))=some (σ xa x.args.length xc)/\Vs.cell? (π bt 2)=some (ι s.fuel)) [14,15,16,17,18,19,20] true 21 rfl κ κ ⟨g0,g1,g2,b5,y0,u0,u1,b2⟩ ?_
    repeat (first|(refine' Xr4.take (Eq.refl false) _ (fun wV aC=>?_) ?_;rotate_left;(try dsimp only at aC);go_simp;(try with_reducible rfl);try simp only [Ap])|refine Xr4.skip (Eq.refl true) ?_)
    refine Xr4.stop ?_
    simp only [List.nil_append,List.cons_append]
    have HK:=Lh (And.intro g0 (And.intro g1 (And.intro g2 (And.intro b5 (And.intro y0 (And.intro u0 (And.intro u1 b2)))))))
    clear g0 g1 g2 b5 y0 u0 u1 b2 zR zM fW fP kM d0 d1 i2 i3
    refine Xu2 [_,_,_] ?_
    refine Xs3 κ κ ?_ ?_
    ·go_simp
     refine (fH.o _ (Xh Br 1)).mono ?_
     rintro e w1 ⟨m,va,vc,hR,rfl,hN⟩
     have hb:Below W1.heap.size W1 w1:=(Xh Br 1).then hN.below
     have HR:=Lh hR
     have HN:=Lh hN
     have HB:=Lh hb
     clear hR hN hb
     refine ⟨⟨Xc (HB.o) HK.o.1,Xc (HB.o) HK.o.2.1,Xc (HB.o) HK.o.2.2.1,Xc (HB.o) HK.o.2.2.2.1,Xc (HB.o) HK.o.2.2.2.2.1,Xc (HB.o) HK.o.2.2.2.2.2.1,Xc (HB.o) HK.o.2.2.2.2.2.2.1,Xc (HB.o) HK.o.2.2.2.2.2.2.2⟩,?_⟩
     refine Xte ?_
     (refine' Z6 κ _ (fun wV aC=>?_) ?_;rotate_left;(clear aC;go_simp);(try with_reducible rfl);try simp only [Ap])
     refine Xte ?_
     (refine' Z6 κ _ (fun wV aC=>?_) ?_;rotate_left;(clear aC;go_simp);(try with_reducible rfl);try simp only [Ap])
     refine Xte ?_
     (refine' Z6 κ _ (fun wV aC=>?_) ?_;rotate_left;(clear aC;go_simp);(try with_reducible rfl);try simp only [Ap])
     refine X5 κ ?_
     go_simp
     refine ⟨⟨Xc (HB.o.then (Xa _ _)) HK.o.1,Xc (HB.o.then (Xa _ _)) HK.o.2.1,Xc (HB.o.then (Xa _ _)) HK.o.2.2.1,Xc (HB.o.then (Xa _ _)) HK.o.2.2.2.1,Xc (HB.o.then (Xa _ _)) HK.o.2.2.2.2.1,Xc (HB.o.then (Xa _ _)) HK.o.2.2.2.2.2.1,Xc (HB.o.then (Xa _ _)) HK.o.2.2.2.2.2.2.1,Xc (HB.o.then (Xa _ _)) HK.o.2.2.2.2.2.2.2⟩,?_⟩
     refine X5 κ ?_
     go_simp
     refine ⟨⟨Xc (HB.o.then (Xa _ _)) HK.o.1,Xc (HB.o.then (Xa _ _)) HK.o.2.1,Xc (HB.o.then (Xa _ _)) HK.o.2.2.1,Xc (HB.o.then (Xa _ _)) HK.o.2.2.2.1,Xc (HB.o.then (Xa _ _)) HK.o.2.2.2.2.1,Xc (HB.o.then (Xa _ _)) HK.o.2.2.2.2.2.1,Xc (HB.o.then (Xa _ _)) HK.o.2.2.2.2.2.2.1,Xc (HB.o.then (Xa _ _)) HK.o.2.2.2.2.2.2.2⟩,?_⟩
     refine X5 κ ?_
     go_simp
     refine Xr3 ?_
     go_wp2
     go_meet
     case rel=>
      refine ⟨rfl,_,m,va,vc,rfl,HR,Lh ⟨?_,Hn _ _,HB.o.size⟩⟩
      obtain ⟨F,k1,k2,k3⟩:=HN.o
      exact ⟨F,k1.keep (fun b hb=>Ha _ _ _ (k1.lt b hb)),k2,HB.o.then (Xa _ _)⟩
    ·go_simp
     refine ⟨⟨Xc (Xa _ _) HK.o.1,Xc (Xa _ _) HK.o.2.1,Xc (Xa _ _) HK.o.2.2.1,Xc (Xa _ _) HK.o.2.2.2.1,Xc (Xa _ _) HK.o.2.2.2.2.1,Xc (Xa _ _) HK.o.2.2.2.2.2.1,Xc (Xa _ _) HK.o.2.2.2.2.2.2.1,Xc (Xa _ _) HK.o.2.2.2.2.2.2.2⟩,?_⟩
     obtain ⟨W2,bF⟩:∃ V,V=(W1.alloc (χ #[ν,ι 0,ι 0,ι 0,ι 0,ι 0,ι 0,ι 0,ι 0] 51)).drew:=⟨_,rfl⟩
     have bX:Hid (Below W1.heap.size W1 W2):=Lh (by rw [bF];exact Xsh _ _)
     have cA:Hid (W2.heap[W1.heap.size]?=some (χ #[ν,ι 0,ι 0,ι 0,ι 0,ι 0,ι 0,ι 0,ι 0] 51 (0,0))):=Lh (by rw [bF];exact Hn W1 _)
     rw [<-bF]
     clear bF
     refine X5 κ ?_
     go_simp
     refine (fH.o _ bX.o).mono ?_
     rintro e w1 ⟨m,va,vc,hR,rfl,hN⟩
     have hb:Below W1.heap.size W1 w1:=bX.o.then hN.below
     have HR:=Lh hR
     have HN:=Lh hN
     have HB:=Lh hb
     have aA:w1.heap[W1.heap.size]?=some (χ #[ν,ι 0,ι 0,ι 0,ι 0,ι 0,ι 0,ι 0,ι 0] 51 (0,0)):=by rw [hN.below.block _ (La cA.o)];exact cA.o
     have dW:=Lh aA
     clear hR hN hb
     refine ⟨⟨Xc (HB.o) HK.o.1,Xc (HB.o) HK.o.2.1,Xc (HB.o) HK.o.2.2.1,Xc (HB.o) HK.o.2.2.2.1,Xc (HB.o) HK.o.2.2.2.2.1,Xc (HB.o) HK.o.2.2.2.2.2.1,Xc (HB.o) HK.o.2.2.2.2.2.2.1,Xc (HB.o) HK.o.2.2.2.2.2.2.2⟩,?_⟩
     (refine' Z6 κ _ (fun wV aC=>?_) ?_;rotate_left;(clear aC;go_simp);(try with_reducible rfl);try simp only [Ap])
     (refine' Z6 κ _ (fun wV aC=>?_) ?_;rotate_left;(clear aC;go_simp);(try with_reducible rfl);try simp only [Ap])
     (refine' Z6 κ _ (fun wV aC=>?_) ?_;rotate_left;(clear aC;go_simp);(try with_reducible rfl);try simp only [Ap])
     have t0:=Cw aA 0 rfl
     have t1:=Cw aA 1 rfl
     have t2:=Cw aA 2 rfl
     have t3:=Cw aA 3 rfl
     have t4:=Cw aA 4 rfl
     have t5:=Cw aA 5 rfl
     have t6:=Cw aA 6 rfl
     have t7:=Cw aA 7 rfl
     have t8:=Cw aA 8 rfl
     have f0:w1.frozen? (π W1.heap.size 0)=false:=Fz aA
     have f1:w1.frozen? (π W1.heap.size 1)=false:=Fz aA
     have f2:w1.frozen? (π W1.heap.size 2)=false:=Fz aA
     have f3:w1.frozen? (π W1.heap.size 3)=false:=Fz aA
     have f4:w1.frozen? (π W1.heap.size 4)=false:=Fz aA
     have f5:w1.frozen? (π W1.heap.size 5)=false:=Fz aA
     have f6:w1.frozen? (π W1.heap.size 6)=false:=Fz aA
     have f7:w1.frozen? (π W1.heap.size 7)=false:=Fz aA
     have f8:w1.frozen? (π W1.heap.size 8)=false:=Fz aA
     have zz:=Bl t0
     have e0:w.heap.size≠W1.heap.size:=by have:=Z.o.1;have:=fJ.o;omega
     have e1:bt≠W1.heap.size:=by have:=cB.o.lab.2.1;omega
     have e2:cb≠W1.heap.size:=by have:=gS.o;omega
     have e3:lb≠W1.heap.size:=by have:=Z.o.2.2;omega
     clear aA
     refine X5 κ ?_
     go_simp
     clear t0 t1 t2 t3 t4 t5 t6 t7 t8 f0 f1 f2 f3 f4 f5 f6 f7 f8 zz e0 e1 e2 e3
     refine ⟨⟨Xc (HB.o) HK.o.1,Xc (HB.o) HK.o.2.1,Xc (HB.o) HK.o.2.2.1,Xc (HB.o) HK.o.2.2.2.1,Xc (HB.o) HK.o.2.2.2.2.1,Xc (HB.o) HK.o.2.2.2.2.2.1,Xc (HB.o) HK.o.2.2.2.2.2.2.1,Xc (HB.o) HK.o.2.2.2.2.2.2.2⟩,?_⟩
     refine X5 κ ?_
     go_simp
     refine Xr3 ?_
     go_wp2
     go_meet
     case rel=>
      obtain ⟨p1,p2⟩:=Xz (m0:=Xl) (fv0:=ν) dW.o (σ va m.frames.length vc) m
      have iB:Below W1.heap.size W1 (Yp w1 W1.heap.size (σ va m.frames.length vc) m):=HB.o.trans (p2.below (fun b hb=>by simp at hb;omega) HB.o.size)
      refine ⟨rfl,_,m,va,vc,rfl,HR,Lh ⟨?_,p1,Nr _⟩⟩
      obtain ⟨F,k1,k2,k3⟩:=HN.o
      have dI:∀ b∈F,b∉[W1.heap.size]:=fun b hb e=>by
       have h1:=k2 b hb
       have h2:=(La cA.o)
       simp at e
       omega
      exact ⟨F,k1.keep (fun b hb=>p2.block b (k1.lt b hb) (dI b hb)),fun b hb=>Nt bX.o.size (k2 b hb),iB⟩
   obtain ⟨rfl,b8,m,va,vc,rfl,fE,eA⟩:=hcut
   have aX:=Xxf hs HG.o fE.o
   have bG:Below W1.heap.size W1 wc:=eA.o.1.below
   have HE:=Lh aX
   have hS:=Lh bG
   have fI:=Lh (cB.o.grow bG)
   have hD:=Lh (eA.o.1.fras cB.o.lab.2.2.1 (aX.1.modest hs hsm))
   have aH:wc.heap[W.heap.size]?=some (χ (Xb (σ ua m0.frames.length uc) m0) 51 (0,0)):=(bG.block _ zM).trans dV.o
   have hM:=Lh aH
   have h8:=eA.o.2.1
   have e0:wc.cell? (π b8 0)=some (σ va m.frames.length vc):=Xe h8 0 _ rfl
   have e1:wc.cell? (π b8 1)=some (ι m.req.kind):=Xe h8 1 _ rfl
   have e2:wc.cell? (π b8 2)=some (ι m.req.node):=Xe h8 2 _ rfl
   have e3:wc.cell? (π b8 3)=some (ι m.req.field):=Xe h8 3 _ rfl
   have e4:wc.cell? (π b8 4)=some (ι m.req.value):=Xe h8 4 _ rfl
   have e5:wc.cell? (π b8 5)=some (ι m.req.fault):=Xe h8 5 _ rfl
   have e6:wc.cell? (π b8 6)=some (ι m.fuel):=Xe h8 6 _ rfl
   have e7:wc.cell? (π b8 7)=some (ι m.compares):=Xe h8 7 _ rfl
   have e8:wc.cell? (π b8 8)=some (ι m.idle):=Xe h8 8 _ rfl
   have ez:=Bl e0
   have o0:wc.cell? (π W.heap.size 0)=some (σ ua m0.frames.length uc):=Xe aH 0 _ rfl
   have o1:wc.cell? (π W.heap.size 1)=some (ι m0.req.kind):=Xe aH 1 _ rfl
   have o2:wc.cell? (π W.heap.size 2)=some (ι m0.req.node):=Xe aH 2 _ rfl
   have o3:wc.cell? (π W.heap.size 3)=some (ι m0.req.field):=Xe aH 3 _ rfl
   have o4:wc.cell? (π W.heap.size 4)=some (ι m0.req.value):=Xe aH 4 _ rfl
   have o5:wc.cell? (π W.heap.size 5)=some (ι m0.req.fault):=Xe aH 5 _ rfl
   have o6:wc.cell? (π W.heap.size 6)=some (ι m0.fuel):=Xe aH 6 _ rfl
   have o7:wc.cell? (π W.heap.size 7)=some (ι m0.compares):=Xe aH 7 _ rfl
   have o8:wc.cell? (π W.heap.size 8)=some (ι m0.idle):=Xe aH 8 _ rfl
   have eO:wc.frozen? (π W.heap.size 0)=false:=Fz aH
   have eP:wc.frozen? (π W.heap.size 1)=false:=Fz aH
   have eQ:wc.frozen? (π W.heap.size 2)=false:=Fz aH
   have eR:wc.frozen? (π W.heap.size 3)=false:=Fz aH
   have eS:wc.frozen? (π W.heap.size 4)=false:=Fz aH
   have eT:wc.frozen? (π W.heap.size 5)=false:=Fz aH
   have eU:wc.frozen? (π W.heap.size 6)=false:=Fz aH
   have eV:wc.frozen? (π W.heap.size 7)=false:=Fz aH
   have eW:wc.frozen? (π W.heap.size 8)=false:=Fz aH
   have oz:=Bl o0
   clear aH h8 aX bG
   go_upto_region 7 with fail
   change Code.wp _ _ _ _ (Yp wc W.heap.size (σ va m.frames.length vc) m)
   obtain ⟨w7,cX⟩:∃ V,V=Yp wc W.heap.size (σ va m.frames.length vc) m:=⟨_,rfl⟩
   rw [<-cX]
   have fR:Chg (fun k=>k=14) c0 c0 wc w7:=by rw [cX];exact Xzt dR.o
   have cL:Hid (Xwq (Bc fa fc ga gc cd) W.heap.size w.heap.size w c wc c0 m0 ua uc):=Lh ((Xwq.go (T:=NO) ⟨aJ.o.2.1,cD.o.size,dV.o,dR.o,aJ.o.1,aJ.o.2.2,fC.o⟩ (Chg.of_below hS.o (no 0)) (no 14)))
   have cJ:Hid (Xwq (Bc fa fc ga gc cd) W.heap.size w.heap.size w c w7 c0 m va vc):=Lh (by rw [cX];exact cL.o.put hD.o)
   have hO:Hid (V2 w7 c0 bt s):=Lh (fI.o.chg fR (fun b hb=>fI.o.lab.2.2.1 b (by rw [cX,Xu6] at hb;exact hb)) (fun t ht=>ht))
   clear fR cX e0 e1 e2 e3 e4 e5 e6 e7 e8 ez o0 o1 o2 o3 o4 o5 o6 o7 o8 eO eP eQ eR eS eT eU eV eW oz
   obtain ⟨eC,hZ,iV,cZ,hY,iL,cN,cQ,cP,aZ,cO⟩:=hO.o.viewC HP.o.hl
   obtain ⟨eM,eN,rfl,-⟩:=aZ.nth (k:=0) rfl
   have gV:=Lh aZ
   have gR:=Lh cO
   have iG:l'.length+1<=cZ:=by obtain ⟨a0,iQ,h0,-,h1,-⟩:=aZ;cases h0;exact h1
   have cz:=cP t
   have i4:(1:Int)<=(l'.length:Int)+1:=ω
   obtain ⟨pa,fY⟩:∃ a,(if cZ=1 then some ((π eM eN):Addr) else some (π eM (eN+2)))=a:=⟨_,rfl⟩
   have hP:Hid (Xf w7.heap.size (mask w7 c0) 2 (Xsr w7.heap.size) (σ pa l'.length (cZ - 1)) l'):=Lh (aZ.tail fY)
   have gQ:=Lh (And.intro cN cQ)
   clear aZ cO cP cN cQ
   refine X6 (fun Vs=>Vs.cell? (π bt 5)=some (σ (some (π eC 0)) s.calls.length hZ)/\Vs.cell? (π eC t)=some (Value.slice (some (π eM eN)) (x::l').length cZ)) [14] true 15 rfl κ κ ⟨hY,iL⟩ ?_
   repeat (first|(refine' Xr4.take (Eq.refl false) _ (fun wV aC=>?_) ?_;rotate_left;(try dsimp only at aC);go_simp;(try with_reducible rfl);try simp only [Ap])|refine Xr4.skip (Eq.refl true) ?_)
   refine Xr4.stop ?_
   simp only [List.nil_append,List.cons_append]
   refine X5 κ ?_
   go_simp
   refine Xr3 ?_
   obtain ⟨w8,dK⟩:∃ V,V=(w7.setCell (π eC t) (σ pa l'.length (cZ - 1))).drew:=⟨_,rfl⟩
   rw [<-dK]
   obtain ⟨gP,-⟩:=gR.o l' _ hP.o
   have fS:Chg (fun k=>k=6) c0 c0 w7 w8:=by
    rw [dK]
    exact (Chg.set (T:=fun k=>k=6) gQ.o.1 ω).trans (Chg.of_below (Xh Br 1) ω)
   obtain ⟨s8,dJ⟩:∃ x:Thr,x={ s with calls:=s.calls.set t l' }:=⟨_,rfl⟩
   have dB:Hid (V2 w8 c0 bt s8):=Lh (by rw [dK,dJ];exact gP.grow (Xh Br 1))
   have cK:=Lh (cJ.o.go fS ω)
   have gW:=Lh dJ
   have fA:Hid (s8.begins[t]?=some b):=Lh (by rw [dJ];exact HP.o.hb)
   have i5:(t:Int)<(s8.begins.length:Int):=by have:=(Ll fA.o);omega
   have b9:=dB.o.step.1
   clear dK gP fS dJ i2 i3 i4 fY iG cz
   go_upto_region 8 with fail
   obtain ⟨bE,gJ,eX,eY,b8,o8,gK,gL,gM,dA,cR⟩:=dB.o.viewB fA.o
   have eB:=Lh dB.o.lab
   have bP:=Lh (And.intro gK (And.intro gL gM))
   have hQ:=Lh dA
   have gT:=Lh cR
   clear gK gL gM dA cR
   refine X6 (fun Vs=>Vs.cell? (π bt 7)=some (σ (some (π bE 0)) s8.begins.length gJ)/\Vs.cell? (π bE t)=some (σ eX b.length eY)/\Vs.cell? (π bt 9)=some (ι s8.step)) [16,17,19] true 20 rfl κ κ ⟨b8,o8,b9⟩ ?_
   repeat (first|(refine' Xr4.take (Eq.refl false) _ (fun wV aC=>?_) ?_;rotate_left;(try dsimp only at aC);go_simp;(try with_reducible rfl);try simp only [Ap])|refine Xr4.skip (Eq.refl true) ?_)
   refine Xr4.stop ?_
   simp only [List.nil_append,List.cons_append]
   have cC:=Lh (And.intro b8 (And.intro o8 (b9)))
   clear b8 o8 b9
   refine X5 κ ?_
   go_simp
   refine ⟨⟨Xc (Xa _ _) cC.o.1,Xc (Xa _ _) cC.o.2.1,Xc (Xa _ _) cC.o.2.2⟩,?_⟩
   have bR:Chg NO c0 c0 w8 (w8.alloc (χ #[ι s8.step] 3)).drew:=Chg.of_below (Xsh w8 _) (no 0)
   refine X5 κ ?_
   refine Xsy (fun k=>k=12+5*t) (.tmp 73) (.tmp 78) 22 3 rfl Tryz.underlying22 Uc rfl δ δ (c:=c0) (tag:=12+5*t) (v:=σ eX b.length eY) (n:=b.length) (xs:=b.map (Value.int .i64)) rfl (hQ.o.keep bR (no _)) (π w8.heap.size 0) 1 1 ([ι s8.step]) rfl rfl (fun j u hu=>(Xso w8 _ _ j).trans (by simpa [Xsv] using hu)) (by simp [Xsv,Value.oneCell']) δ (by have:=HP.o.bl;omega) rfl ω (fun b hb=>eB.o.2.2.1 b (by simp at hb;omega)) (fun g8 bS bW fL aA hC fU iD=>?_)
   have hK:=Lh aA
   have dO:=Lh hC
   have hF:=Lh fU
   have q0:bW.cell? (π bt 7)=some (σ (some (π bE 0)) s8.begins.length gJ):=hC.cell (bR.cell cC.o.1 (no _)) (by show ¬c0 bt=_;rw [eB.o.1];omega)
   have q1:bW.cell? (π bE t)=some (σ eX b.length eY):=hC.cell (bR.cell cC.o.2.1 (no _)) (by show ¬c0 bE=_;rw [bP.o.1];omega)
   have q2:bW.cell? (π bt 9)=some (ι s8.step):=hC.cell (bR.cell cC.o.2.2 (no _)) (by show ¬c0 bt=_;rw [eB.o.1];omega)
   have qf:bW.frozen? (π bE t)=false:=hC.frozen (by have:=bP.o.2.1;show bE<_;simp;omega) (bR.frozen bP.o.2.1 (bP.o.2.2 t) (no _)) (by show ¬c0 bE=_;rw [bP.o.1];omega)
   have dL:=Lh bR
   clear aA hC fU iD bR
   refine ⟨.inl ⟨q0,q1,q2⟩,?_⟩
   clear q0 q2
   refine X5 κ ?_
   go_simp
   refine Xr3 ?_
   have fK:=Lh ((cK.o.go (dO.o.aft dL.o) ω).go (T:=fun k=>k=8) (Chg.set (by rw [(dO.o.aft dL.o).old _ bP.o.2.1];exact bP.o.1) ω) ω (wy:=bW.setCell (π bE t) (σ (some (π g8 0)) (b.length+1) bS)))
   clear q1 qf
   obtain ⟨st,cg⟩:=gT.o bW fL (σ (some (π g8 0)) (b.length+1) bS) s8.step (dO.o.aft dL.o) hF.o hK.o dB.o.step.2
   obtain ⟨iW,hw⟩:∃ u,u=bW.setCell (π bE t) (σ (some (π g8 0)) (b.length+1) bS):=⟨_,rfl⟩
   rw [<-hw] at st cg ⊢ fK
   have hX:=Lh st
   have iM:=Lh cg
   clear hw st cg
   go_wp2
   go_meet
   case rel=>
    have hT:¬(fun k=>k=12+5*t) 14/\¬(fun k=>k=8) 14:=⟨ω,ω⟩
    have eE:({ s8 with begins:=s8.begins.modify t (·++[s8.step]) }:Thr)=X4c s t l':=by rw [gW.o];rfl
    have hE:=HE.o
    refine Lh ⟨fL,_,m,va,vc,hX.o,.inr ⟨gZ.o,x,l',HP.o.hl,fE.o,eE⟩,fK.o,Xzv hs (.inl hE.1) hE.2.1,fun ha=>(Xwh hE.1 ha hE.2.1 hE.2.2).valid hs⟩
 obtain ⟨c1,s1,m,va,vc,bJ⟩:=hcut.o
 have bZ:=Lh bJ
 obtain ⟨f1,f2,f3,f4,f5,f6,f7⟩:=bJ.beg.same
 have HX:=Lh (And.intro (show s1.running[t]?=some m0 by rw [f1];exact HP.o.hm) (And.intro (show s1.nodes[t]?=some n by rw [f2];exact HP.o.hn) (And.intro (show s1.results[t]?=some r by rw [f3];exact HP.o.hr) (show s1.ends[t]?=some e by rw [f4];exact HP.o.he))))
 have cH:=Lh (And.intro f5 (And.intro f6 f7))
 have bD:=bJ.loc.box
 have e0:wc.cell? (π W.heap.size 0)=some (σ va m.frames.length vc):=Xe bD 0 _ rfl
 have e1:wc.cell? (π W.heap.size 1)=some (ι m.req.kind):=Xe bD 1 _ rfl
 have e2:wc.cell? (π W.heap.size 2)=some (ι m.req.node):=Xe bD 2 _ rfl
 have e3:wc.cell? (π W.heap.size 3)=some (ι m.req.field):=Xe bD 3 _ rfl
 have e4:wc.cell? (π W.heap.size 4)=some (ι m.req.value):=Xe bD 4 _ rfl
 have e5:wc.cell? (π W.heap.size 5)=some (ι m.req.fault):=Xe bD 5 _ rfl
 have e6:wc.cell? (π W.heap.size 6)=some (ι m.fuel):=Xe bD 6 _ rfl
 have e7:wc.cell? (π W.heap.size 7)=some (ι m.compares):=Xe bD 7 _ rfl
 have e8:wc.cell? (π W.heap.size 8)=some (ι m.idle):=Xe bD 8 _ rfl
 have ez:=Bl e0
 clear hcut bJ f1 f2 f3 f4 f5 f6 f7 kM zM zR
 go_wp2_with fail
 refine (Xxg m va _ vc _).mono ?_
 rintro e9 w9 ⟨rfl,dE⟩
 have iN:=Lh dE
 have aL:=Lh (bZ.o.loc.go (T:=NO) (Chg.of_below dE (no 0)) (no 14))
 have cM:=Lh (bZ.o.st.grow dE)
 have aD:=aL.o.box
 clear dE bD e0 e1 e2 e3 e4 e5 e6 e7 e8 ez
 have bT:Hid (∀ (s2:Thr) (c2:Clr) (w2:World),s2.step=s.step->V2 w2 c2 bt s2->Chg NZ c c2 w w2->X4f cd s1 t m n (Xud s2)->w2.cell? (π bt 9)=some (ι s.step)/\w2.frozen? (π bt 9)=false/\bt<w2.heap.size/\∃ s',Xsq cd s t s'/\Xs5 c bt s' w (w2.setCell (π bt 9) (ι (s.step+1)))):=Lh (fun s2 c2 w2 he eI iE aY=>by
  obtain ⟨h1,h2⟩:=eI.step
  obtain ⟨_,h3,_,h4⟩:=eI.lab
  obtain ⟨k1,k2⟩:=eI.setStep (s.step+1) (by have:=HP.o.step;unfold in64;omega)
  rw [he] at h1
  refine ⟨h1,h4 9,h3,Xud s2,⟨m0,n,m,s1,HP.o.hm,HP.o.hn,bZ.o.beg,aY⟩,c2,?_,iE.trans k2⟩
  unfold Xud
  rw [he]
  exact k1)
 have iT:IntKind.i64.wrap (s.step+1)=s.step+1:=by rw [IntKind.wrap_i64]<;>(have:=HP.o.step;omega)
 cases ha:Xsi m with
 | false=>
  have HA:=Lh ha
  clear ha
  have e0:w9.cell? (π W.heap.size 0)=some (σ va m.frames.length vc):=Xe aD 0 _ rfl
  have e1:w9.cell? (π W.heap.size 1)=some (ι m.req.kind):=Xe aD 1 _ rfl
  have e2:w9.cell? (π W.heap.size 2)=some (ι m.req.node):=Xe aD 2 _ rfl
  have e3:w9.cell? (π W.heap.size 3)=some (ι m.req.field):=Xe aD 3 _ rfl
  have e4:w9.cell? (π W.heap.size 4)=some (ι m.req.value):=Xe aD 4 _ rfl
  have e5:w9.cell? (π W.heap.size 5)=some (ι m.req.fault):=Xe aD 5 _ rfl
  have e6:w9.cell? (π W.heap.size 6)=some (ι m.fuel):=Xe aD 6 _ rfl
  have e7:w9.cell? (π W.heap.size 7)=some (ι m.compares):=Xe aD 7 _ rfl
  have e8:w9.cell? (π W.heap.size 8)=some (ι m.idle):=Xe aD 8 _ rfl
  have ez:=Bl e0
  go_wp2_with fail
  refine (Xww s1 c1 bt t n r e m0 m va vc w9 cM.o HX.o.1 HX.o.2.1 HX.o.2.2.1 HX.o.2.2.2 HP.o.rl HP.o.el aL.o.fr bZ.o.wf).mono ?_
  rintro z w2 ⟨rfl,c2,bN,aT⟩
  obtain ⟨y9,yf,yz,aN⟩:=bT.o _ c2 w2 (by rw [Xts];exact cH.o.2.1) bN (aL.o.chg.trans aT) (.inl ⟨HA.o,rfl⟩)
  have aV:=Lh aN
  clear bN aT aN e0 e1 e2 e3 e4 e5 e6 e7 e8 ez aD
  go_wp2
  go_ret
  exact ⟨rfl,aV.o⟩
 | true=>
  have HV:=Lh (bZ.o.ok ha)
  have HA:=Lh ha
  have dH:=Xty ha
  have bY:=Lh dH
  obtain ⟨iR,f0,gD⟩:=HV.o.waits dH.1 dH.2
  have bQ:=Lh (gD.req hs)
  clear ha gD dH
  have e0:w9.cell? (π W.heap.size 0)=some (σ va m.frames.length vc):=Xe aD 0 _ rfl
  have e1:w9.cell? (π W.heap.size 1)=some (ι m.req.kind):=Xe aD 1 _ rfl
  have e2:w9.cell? (π W.heap.size 2)=some (ι m.req.node):=Xe aD 2 _ rfl
  have e3:w9.cell? (π W.heap.size 3)=some (ι m.req.field):=Xe aD 3 _ rfl
  have e4:w9.cell? (π W.heap.size 4)=some (ι m.req.value):=Xe aD 4 _ rfl
  have e5:w9.cell? (π W.heap.size 5)=some (ι m.req.fault):=Xe aD 5 _ rfl
  have e6:w9.cell? (π W.heap.size 6)=some (ι m.fuel):=Xe aD 6 _ rfl
  have e7:w9.cell? (π W.heap.size 7)=some (ι m.compares):=Xe aD 7 _ rfl
  have e8:w9.cell? (π W.heap.size 8)=some (ι m.idle):=Xe aD 8 _ rfl
  have ez:=Bl e0
  have cG:Hid (∀ V,Below w9.heap.size w9 V->Calls Tryz.prog 71 #[.pointer (some (π bt 0)),.agg #[ι m.req.kind,ι m.req.node,ι m.req.field,ι m.req.value,ι m.req.fault]] V (X09 V (Xst s1.mem m.req))):=Lh (fun V hV=>Xzr s1.mem bt m.req V (cM.o.grow hV).memAt bQ.o.node bQ.o.field bQ.o.q.nodeV)
  go_upto_region 10 with fail
  go_cut [10] (fun iK wx=>∃ aS:Nat,iK=.pointer (some (π aS 0))/\Hid (Below w9.heap.size w9 wx/\wx.heap[aS]?=some (χ #[ι (Xst s1.mem m.req).kind,ι (Xst s1.mem m.req).node,ι (Xst s1.mem m.req).field] 64 (0,0))/\w9.heap.size<=aS))
  case first=>
   refine X6 (fun Vs=>Vs.cell? (π W.heap.size 1)=some (ι m.req.kind)/\Vs.cell? (π W.heap.size 2)=some (ι m.req.node)/\Vs.cell? (π W.heap.size 3)=some (ι m.req.field)/\Vs.cell? (π W.heap.size 4)=some (ι m.req.value)/\Vs.cell? (π W.heap.size 5)=some (ι m.req.fault)) [5,6,7] true 8 rfl κ κ ⟨e1,e2,e3,e4,e5⟩ ?_
   repeat (first|(refine' Xr4.take (Eq.refl false) _ (fun wV aC=>?_) ?_;rotate_left;(try dsimp only at aC);go_simp;(try with_reducible rfl);try simp only [Ap])|refine Xr4.skip (Eq.refl true) ?_)
   refine Xr4.stop ?_
   simp only [List.nil_append,List.cons_append]
   have aB:=Lh (And.intro e1 (And.intro e2 (And.intro e3 (And.intro e4 e5))))
   clear e0 e1 e2 e3 e4 e5 e6 e7 e8 ez aD
   refine Xs3 κ κ ?_ ?_
   ·go_simp
    refine (cG.o _ (Xh Br 1)).mono ?_
    rintro e wa ⟨rfl,hb⟩
    have HB:=Lh ((Xh (Below.refl w9.heap.size w9) 1).then hb)
    clear hb
    unfold X3g
    refine ⟨⟨Xc (HB.o) aB.o.1,Xc (HB.o) aB.o.2.1,Xc (HB.o) aB.o.2.2.1,Xc (HB.o) aB.o.2.2.2.1,Xc (HB.o) aB.o.2.2.2.2⟩,?_⟩
    refine X5 κ ?_
    go_simp
    refine ⟨⟨Xc (HB.o.then (Xa _ _)) aB.o.1,Xc (HB.o.then (Xa _ _)) aB.o.2.1,Xc (HB.o.then (Xa _ _)) aB.o.2.2.1,Xc (HB.o.then (Xa _ _)) aB.o.2.2.2.1,Xc (HB.o.then (Xa _ _)) aB.o.2.2.2.2⟩,?_⟩
    refine X5 κ ?_
    go_simp
    refine Xr3 ?_
    go_wp2
    go_meet
    case rel=>exact ⟨_,rfl,Lh ⟨HB.o.then (Xa _ _),Hn _ _,HB.o.size⟩⟩
   ·go_simp
    refine ⟨⟨Xc (Xa _ _) aB.o.1,Xc (Xa _ _) aB.o.2.1,Xc (Xa _ _) aB.o.2.2.1,Xc (Xa _ _) aB.o.2.2.2.1,Xc (Xa _ _) aB.o.2.2.2.2⟩,?_⟩
    obtain ⟨W2,bF⟩:∃ V,V=(w9.alloc (χ #[ι 0,ι 0,ι 0] 64)).drew:=⟨_,rfl⟩
    have bX:Hid (Below w9.heap.size w9 W2):=Lh (by rw [bF];exact Xsh _ _)
    have cA:Hid (W2.heap[w9.heap.size]?=some (χ #[ι 0,ι 0,ι 0] 64 (0,0))):=Lh (by rw [bF];exact Hn w9 _)
    rw [<-bF]
    clear bF
    refine X5 κ ?_
    go_simp
    refine (cG.o _ bX.o).mono ?_
    rintro e wa ⟨rfl,hb⟩
    have HB:=Lh (bX.o.then hb)
    have aA:wa.heap[w9.heap.size]?=some (χ #[ι 0,ι 0,ι 0] 64 (0,0)):=by rw [hb.block _ (La cA.o)];exact cA.o
    have dW:=Lh aA
    clear hb
    unfold X3g
    refine ⟨⟨Xc (HB.o) aB.o.1,Xc (HB.o) aB.o.2.1,Xc (HB.o) aB.o.2.2.1,Xc (HB.o) aB.o.2.2.2.1,Xc (HB.o) aB.o.2.2.2.2⟩,?_⟩
    have t0:=Cw aA 0 rfl
    have t1:=Cw aA 1 rfl
    have t2:=Cw aA 2 rfl
    have f0:wa.frozen? (π w9.heap.size 0)=false:=Fz aA
    have f1:wa.frozen? (π w9.heap.size 1)=false:=Fz aA
    have f2:wa.frozen? (π w9.heap.size 2)=false:=Fz aA
    have zz:=Bl t0
    have e0:W.heap.size≠w9.heap.size:=by have:=(La aL.o.box);omega
    clear aA
    refine X5 κ ?_
    go_simp
    clear t0 t1 t2 f0 f1 f2 zz e0
    refine Xr3 ?_
    go_wp2
    go_meet
    case rel=>
     have h1:=heap_setCell_same _ w9.heap.size 0 _ _ (ι (Xst s1.mem m.req).kind) dW.o
     have h2:=heap_setCell_same _ w9.heap.size 1 _ _ (ι (Xst s1.mem m.req).node) h1
     have h3:=heap_setCell_same _ w9.heap.size 2 _ _ (ι (Xst s1.mem m.req).field) h2
     exact ⟨_,rfl,Lh ⟨Xsb (Xsb (Xsb HB.o (Nr _)) (Nr _)) (Nr _),h3,Nr _⟩⟩
  obtain ⟨aS,rfl,aM⟩:=hcut
  have aE:=Lh (aL.o.go (T:=NO) (Chg.of_below aM.o.1 (no 0)) (no 14))
  have dY:=Lh (cM.o.grow aM.o.1)
  have aI:=aE.o.box
  have bH:=aE.o.code
  have dN:Hid (∀ V,Below wc.heap.size wc V->Calls Tryz.prog 102 #[.agg (Bc fa fc ga gc cd),.pointer (some (π bt 0)),.agg #[ι m.req.kind,ι m.req.node,ι m.req.field,ι m.req.value,ι m.req.fault]] V (Xve c1 bt s1 (Xtd cd s1.mem m.req) V)):=Lh (fun V hV=>by
   have hz:=aE.o.chg.size
   have hb:Below B w V:=(aE.o.chg.belowN bO.o hB).trans (hV.mono ω)
   exact Xyw cd fa ga fc gc B s1 c1 bt m.req V (dY.o.grow hV) (by have:=hV.size;omega) (HC.o.below hb) bQ.o.q (aE.o.chg.lowN bO.o hB) bQ.o.f64)
  have g0:=Cw bH 0 rfl
  have g1:=Cw bH 1 rfl
  have g2:=Cw bH 2 rfl
  have e0:wc.cell? (π W.heap.size 0)=some (σ va m.frames.length vc):=Xe aI 0 _ rfl
  have e1:wc.cell? (π W.heap.size 1)=some (ι m.req.kind):=Xe aI 1 _ rfl
  have e2:wc.cell? (π W.heap.size 2)=some (ι m.req.node):=Xe aI 2 _ rfl
  have e3:wc.cell? (π W.heap.size 3)=some (ι m.req.field):=Xe aI 3 _ rfl
  have e4:wc.cell? (π W.heap.size 4)=some (ι m.req.value):=Xe aI 4 _ rfl
  have e5:wc.cell? (π W.heap.size 5)=some (ι m.req.fault):=Xe aI 5 _ rfl
  have e6:wc.cell? (π W.heap.size 6)=some (ι m.fuel):=Xe aI 6 _ rfl
  have e7:wc.cell? (π W.heap.size 7)=some (ι m.compares):=Xe aI 7 _ rfl
  have e8:wc.cell? (π W.heap.size 8)=some (ι m.idle):=Xe aI 8 _ rfl
  have ez:=Bl e0
  clear bH aI e0 e6 e7 e8 ez
  go_upto_region 11 with fail
  refine X6 (fun Vs=>Vs.cell? (π w.heap.size 0)=some (σ fa cd.fields.length fc)/\Vs.cell? (π w.heap.size 1)=some (ι cd.globals)/\Vs.cell? (π w.heap.size 2)=some (σ ga cd.funcs.length gc)/\Vs.cell? (π W.heap.size 1)=some (ι m.req.kind)/\Vs.cell? (π W.heap.size 2)=some (ι m.req.node)/\Vs.cell? (π W.heap.size 3)=some (ι m.req.field)/\Vs.cell? (π W.heap.size 4)=some (ι m.req.value)/\Vs.cell? (π W.heap.size 5)=some (ι m.req.fault)) [6,7,8,9,10,11] false 12 rfl κ κ ⟨g0,g1,g2,e1,e2,e3,e4,e5⟩ ?_
  repeat (first|(refine' Xr4.take (Eq.refl false) _ (fun wV aC=>?_) ?_;rotate_left;(try dsimp only at aC);go_simp;(try with_reducible rfl);try simp only [Ap])|refine Xr4.skip (Eq.refl true) ?_)
  refine Xr4.stop ?_
  simp only [List.nil_append,List.cons_append]
  clear g0 g1 g2 e1 e2 e3 e4 e5
  refine X5 κ ?_
  go_simp
  refine (dN.o _ (Xh Br 1)).mono ?_
  rintro e wa (⟨fX,rfl,c2,bN,aT⟩|⟨mm,x,bM,rfl,c2,bN,aT⟩)
  ·have fD:=Lh fX
   clear fX
   have aF:=Lh ((aE.o.go (T:=NO) (Chg.of_below (Xh (Below.refl wc.heap.size wc) 1) (no 0)) (no 14)).go aT Xvf)
   have aG:=aF.o.box
   have bI:=aF.o.code
   have aO:wa.heap[aS]?=some (χ #[ι (Xst s1.mem m.req).kind,ι (Xst s1.mem m.req).node,ι (Xst s1.mem m.req).field] 64 (0,0)):=by
    have eG:=(La aM.o.2.1)
    have h0:c1 aS=0:=cM.o.lab.2.2.1 aS aM.o.2.2
    rw [aT.keep aS eG (by rw [h0];exact nz0)]
    exact aM.o.2.1
   have dM:=Lh aO
   have dC:=Lh bN
   have dP:=Lh aT
   refine ⟨⟨Cr bI rfl,Cr bI rfl,Cr bI rfl,Xe aG 1 _ rfl,Xe aG 2 _ rfl,Xe aG 3 _ rfl,Xe aG 4 _ rfl,Xe aG 5 _ rfl⟩,?_⟩
   (refine' Z6 κ _ (fun wV aC=>?_) ?_;rotate_left;(clear aC;go_simp);(try with_reducible rfl);try simp only [Ap])
   (refine' Z6 κ _ (fun wV aC=>?_) ?_;rotate_left;(clear aC;go_simp);(try with_reducible rfl);try simp only [Ap])
   (refine' Z6 κ _ (fun wV aC=>?_) ?_;rotate_left;(clear aC;go_simp);(try with_reducible rfl);try simp only [Ap])
   (refine' Z6 κ _ (fun wV aC=>?_) ?_;rotate_left;(clear aC;go_simp);(try with_reducible rfl);try simp only [Ap])
   (refine' Z6 κ _ (fun wV aC=>?_) ?_;rotate_left;(clear aC;go_simp);(try with_reducible rfl);try simp only [Ap])
   refine Xr3 ?_
   have a1:=Cw aO 1 rfl
   have az:=Bl a1
   clear bN aT aO bI
   have d0:((Xst s1.mem m.req).node != 0)=false:=by rw [Xxu fD.o];rfl
   have e0:wa.cell? (π W.heap.size 0)=some (σ va m.frames.length vc):=Xe aG 0 _ rfl
   have e1:wa.cell? (π W.heap.size 1)=some (ι m.req.kind):=Xe aG 1 _ rfl
   have e2:wa.cell? (π W.heap.size 2)=some (ι m.req.node):=Xe aG 2 _ rfl
   have e3:wa.cell? (π W.heap.size 3)=some (ι m.req.field):=Xe aG 3 _ rfl
   have e4:wa.cell? (π W.heap.size 4)=some (ι m.req.value):=Xe aG 4 _ rfl
   have e5:wa.cell? (π W.heap.size 5)=some (ι m.req.fault):=Xe aG 5 _ rfl
   have e6:wa.cell? (π W.heap.size 6)=some (ι m.fuel):=Xe aG 6 _ rfl
   have e7:wa.cell? (π W.heap.size 7)=some (ι m.compares):=Xe aG 7 _ rfl
   have e8:wa.cell? (π W.heap.size 8)=some (ι m.idle):=Xe aG 8 _ rfl
   have ez:=Bl e0
   clear aG
   go_wp2_with fail
   refine (Xxt s1 c2 bt t 11 0 m.compares n r e m0 wa dC.o HX.o.1 HX.o.2.1 HX.o.2.2.1 HX.o.2.2.2 HP.o.rl HP.o.el (by unfold in64;simp) (by unfold in64;simp) bZ.o.wf.2.2.1).mono ?_
   rintro z w2 ⟨rfl,c3,gN,fN⟩
   obtain ⟨y9,yf,yz,aN⟩:=bT.o (Xwz s1 t 11 0 m.compares n) c3 w2 cH.o.2.1 gN (aF.o.chg.trans fN) (.inr (.inl ⟨HA.o,fD.o,rfl⟩))
   have aV:=Lh aN
   clear gN fN aN e0 e1 e2 e3 e4 e5 e6 e7 e8 ez a1 az d0
   go_wp2
   go_ret
   exact ⟨rfl,aV.o⟩
  have aW:=Lh bM
  clear bM
  have aF:=Lh ((aE.o.go (T:=NO) (Chg.of_below (Xh (Below.refl wc.heap.size wc) 1) (no 0)) (no 14)).go aT Xvf)
  have aG:=aF.o.box
  have bI:=aF.o.code
  have aO:wa.heap[aS]?=some (χ #[ι (Xst s1.mem m.req).kind,ι (Xst s1.mem m.req).node,ι (Xst s1.mem m.req).field] 64 (0,0)):=by
   have eG:=(La aM.o.2.1)
   have h0:c1 aS=0:=cM.o.lab.2.2.1 aS aM.o.2.2
   rw [aT.keep aS eG (by rw [h0];exact nz0)]
   exact aM.o.2.1
  have dM:=Lh aO
  have dC:=Lh bN
  have dP:=Lh aT
  refine ⟨⟨Cr bI rfl,Cr bI rfl,Cr bI rfl,Xe aG 1 _ rfl,Xe aG 2 _ rfl,Xe aG 3 _ rfl,Xe aG 4 _ rfl,Xe aG 5 _ rfl⟩,?_⟩
  (refine' Z6 κ _ (fun wV aC=>?_) ?_;rotate_left;(clear aC;go_simp);(try with_reducible rfl);try simp only [Ap])
  (refine' Z6 κ _ (fun wV aC=>?_) ?_;rotate_left;(clear aC;go_simp);(try with_reducible rfl);try simp only [Ap])
  (refine' Z6 κ _ (fun wV aC=>?_) ?_;rotate_left;(clear aC;go_simp);(try with_reducible rfl);try simp only [Ap])
  (refine' Z6 κ _ (fun wV aC=>?_) ?_;rotate_left;(clear aC;go_simp);(try with_reducible rfl);try simp only [Ap])
  (refine' Z6 κ _ (fun wV aC=>?_) ?_;rotate_left;(clear aC;go_simp);(try with_reducible rfl);try simp only [Ap])
  refine Xr3 ?_
  have a1:=Cw aO 1 rfl
  have az:=Bl a1
  clear bN aT aO bI
  go_upto_if 101 with fail
  go_cut [108] (fun _ wx=>Hid (∃ c3,V2 wx c3 bt { s1 with mem:=mm,nodes:=s1.nodes.set t (n+Xs1 s1.mem m.req) }/\Xwq (Bc fa fc ga gc cd) W.heap.size w.heap.size w c wx c3 m va vc))
  case first=>
   have hH:Hid (({ s1 with mem:=mm }:Thr).nodes[t]?=some n):=Lh HX.o.2.1
   by_cases cF:(Xst s1.mem m.req).node=0
   ·have d0:((Xst s1.mem m.req).node != 0)=false:=by simp [cF]
    have dS:Hid (n+Xs1 s1.mem m.req=n):=Lh (by unfold Xs1;rw [if_neg (by simp [cF])];omega)
    clear cF aG
    go_wp2
    go_meet
    case rel=>exact Lh ⟨c2,by rw [dS.o,X1v HX.o.2.1];exact dC.o,aF.o⟩
   ·have d0:((Xst s1.mem m.req).node != 0)=true:=by simp [cF]
    have dS:Hid (n+Xs1 s1.mem m.req=n+1):=Lh (by unfold Xs1;rw [if_pos (by simp [cF])])
    obtain ⟨kb,kc,k4,k0,gG,gI,gH,-,cY⟩:=dC.o.viewK hH.o
    have hG:=Lh (cY (n+1) (by have:=HP.o.cnt;unfold in64;omega))
    have KC:=Lh (And.intro gG gI)
    have kf:=gH t
    have i6:(t:Int)<(s1.nodes.length:Int):=by have:=(Ll HX.o.2.1);omega
    have iU:IntKind.i64.wrap (n+1)=n+1:=by rw [IntKind.wrap_i64]<;>(have:=HP.o.cnt;omega)
    clear cF aG cY gH gG gI
    go_wp2
    go_meet
    case rel=>exact Lh ⟨c2,by rw [dS.o];exact hG.o.1,aF.o.go (T:=fun k=>k=5) (Chg.set KC.o.1 ω) ω⟩
  obtain ⟨c3,cW,aR⟩:=hcut.o
  have dZ:=Lh cW
  have aP:=Lh aR
  obtain ⟨s3,eH⟩:∃ y:Thr,y={ s1 with mem:=mm,nodes:=s1.nodes.set t (n+Xs1 s1.mem m.req) }:=⟨_,rfl⟩
  rw [<-eH] at dZ
  have dQ:=Lh eH
  have bB:=aR.box
  have dF:=aR.code
  have hI:Hid (Calls Tryz.prog 104 #[.agg (Bc fa fc ga gc cd),.agg #[σ va m.frames.length vc,ι m.req.kind,ι m.req.node,ι m.req.field,ι m.req.value,ι m.req.fault,ι m.fuel,ι m.compares,ι m.idle],ι x] wc (fun e w'=>∃ m' na nc,Jv cd m x m'/\e=.returned (.tuple #[.agg #[σ na m'.frames.length nc,ι m'.req.kind,ι m'.req.node,ι m'.req.field,ι m'.req.value,ι m'.req.fault,ι m'.fuel,ι m'.compares,ι m'.idle],ι 0])/\Qq wc (σ na m'.frames.length nc) m' w')):=Lh (by
   have hz:=aP.o.chg.size
   have hb:Below B w wc:=aP.o.chg.belowN bO.o hB
   refine (Xhv cd _ m (σ va m.frames.length vc) x wc.heap.size wc (cI.o _ hb) (Nr _) ((HC.o.below hb).up ω) (aP.o.fr.ups Xsw (Nr _) (Sub.mask _ _)) hsm).mono ?_
   have aY:Yr m.req x=true:=Xt5 (by rw [cH.o.1];exact HM.o) bQ.o aW.o
   rintro e w' (⟨h,_⟩|⟨_,h,_⟩|⟨_,_,h,_⟩|⟨_,_,_,m',fv,h1,h2,F,k1,k2⟩)
   ·exact absurd HV.o h
   ·exact absurd h (fun h=>h.elim bY.o.1 bY.o.2)
   ·rw [aY] at h;cases h
   ·obtain ⟨na,nc,rfl⟩:=k1.form
    exact ⟨m',na,nc,h1,h2,F,k1,k2⟩)
  have g0:=Cw dF 0 rfl
  have g1:=Cw dF 1 rfl
  have g2:=Cw dF 2 rfl
  have e0:wc.cell? (π W.heap.size 0)=some (σ va m.frames.length vc):=Xe bB 0 _ rfl
  have e1:wc.cell? (π W.heap.size 1)=some (ι m.req.kind):=Xe bB 1 _ rfl
  have e2:wc.cell? (π W.heap.size 2)=some (ι m.req.node):=Xe bB 2 _ rfl
  have e3:wc.cell? (π W.heap.size 3)=some (ι m.req.field):=Xe bB 3 _ rfl
  have e4:wc.cell? (π W.heap.size 4)=some (ι m.req.value):=Xe bB 4 _ rfl
  have e5:wc.cell? (π W.heap.size 5)=some (ι m.req.fault):=Xe bB 5 _ rfl
  have e6:wc.cell? (π W.heap.size 6)=some (ι m.fuel):=Xe bB 6 _ rfl
  have e7:wc.cell? (π W.heap.size 7)=some (ι m.compares):=Xe bB 7 _ rfl
  have e8:wc.cell? (π W.heap.size 8)=some (ι m.idle):=Xe bB 8 _ rfl
  have ez:=Bl e0
  have gz:=Bl g0
  clear hcut cW aR eH bB dF aG a1 az
  go_wp2_with fail
  refine hI.o.mono ?_
  rintro e wd ⟨m',na,nc,hN,rfl,bU⟩
  have dU:=Lh hN
  have dT:=Lh bU
  have gU:=Lh bU.below
  clear hN bU g0 g1 g2 e0 e1 e2 e3 e4 e5 e6 e7 e8 ez gz
  go_upto_region 21 with fail
  obtain ⟨W4,cT⟩:∃ V,V=wd.alloc (χ #[σ na m'.frames.length nc,ι m'.req.kind,ι m'.req.node,ι m'.req.field,ι m'.req.value,ι m'.req.fault,ι m'.fuel,ι m'.compares,ι m'.idle] 51):=⟨_,rfl⟩
  rw [<-cT]
  have eZ:Hid (Below wc.heap.size wc W4):=Lh (by rw [cT];exact gU.o.then (Xa _ _))
  have bA:W4.heap[wd.heap.size]?=some (χ (Xb (σ na m'.frames.length nc) m') 51 (0,0)):=by rw [cT];exact Hn _ _
  have bV:(Us cd m'\/(m'.frames=[]/\m'.req=X0 21/\Ug m'))/\Xt0 m'/\J6 m':=by
   have aY:Yr m.req x=true:=Xt5 (by rw [cH.o.1];exact HM.o) bQ.o aW.o
   have hE:Us cd m:=⟨HV.o.nums,.inr (.inr (HV.o.waits bY.o.1 bY.o.2))⟩
   have h1:=(Xd7 hs hE bY.o.1 bY.o.2 aY dU.o).1
   have h2:m'.fuel<=1048576:=by
    have hf:=HV.o.fuel.2
    rcases dU.o with ⟨_,_,rfl⟩|⟨_,fs,f,_,hr⟩|⟨_,hr⟩
    ·exact hf
    ·exact Int.le_trans (Xvd hr HV.o.idle.2).1 hf
    ·exact Int.le_trans (Xvd hr HV.o.idle.2).1 hf
   exact ⟨h1,Xzv hs h1 h2,Xx9 hs hsm h1⟩
  have dX:=Lh bV
  have gY:Hid (Xf W4.heap.size (mask W4 c3) 4 (Qp W4.heap.size) (σ na m'.frames.length nc) m'.frames):=Lh (by
   have:=dT.o.fras dZ.o.lab.2.2.1 bV.2.2
   rw [cT]
   exact this.ups Xsw ψ (Chg.sub (T:=NO) (Chg.of_below (Xa _ _) (no 0))))
  have aU:=Lh (aP.o.go (T:=NO) (Chg.of_below eZ.o (no 0)) (no 14))
  have fF:=Lh (dZ.o.grow eZ.o)
  have aK:=aU.o.box
  have e0:W4.cell? (π wd.heap.size 0)=some (σ na m'.frames.length nc):=Xe bA 0 _ rfl
  have e1:W4.cell? (π wd.heap.size 1)=some (ι m'.req.kind):=Xe bA 1 _ rfl
  have e2:W4.cell? (π wd.heap.size 2)=some (ι m'.req.node):=Xe bA 2 _ rfl
  have e3:W4.cell? (π wd.heap.size 3)=some (ι m'.req.field):=Xe bA 3 _ rfl
  have e4:W4.cell? (π wd.heap.size 4)=some (ι m'.req.value):=Xe bA 4 _ rfl
  have e5:W4.cell? (π wd.heap.size 5)=some (ι m'.req.fault):=Xe bA 5 _ rfl
  have e6:W4.cell? (π wd.heap.size 6)=some (ι m'.fuel):=Xe bA 6 _ rfl
  have e7:W4.cell? (π wd.heap.size 7)=some (ι m'.compares):=Xe bA 7 _ rfl
  have e8:W4.cell? (π wd.heap.size 8)=some (ι m'.idle):=Xe bA 8 _ rfl
  have ez:=Bl e0
  have o0:W4.cell? (π W.heap.size 0)=some (σ va m.frames.length vc):=Xe aK 0 _ rfl
  have o1:W4.cell? (π W.heap.size 1)=some (ι m.req.kind):=Xe aK 1 _ rfl
  have o2:W4.cell? (π W.heap.size 2)=some (ι m.req.node):=Xe aK 2 _ rfl
  have o3:W4.cell? (π W.heap.size 3)=some (ι m.req.field):=Xe aK 3 _ rfl
  have o4:W4.cell? (π W.heap.size 4)=some (ι m.req.value):=Xe aK 4 _ rfl
  have o5:W4.cell? (π W.heap.size 5)=some (ι m.req.fault):=Xe aK 5 _ rfl
  have o6:W4.cell? (π W.heap.size 6)=some (ι m.fuel):=Xe aK 6 _ rfl
  have o7:W4.cell? (π W.heap.size 7)=some (ι m.compares):=Xe aK 7 _ rfl
  have o8:W4.cell? (π W.heap.size 8)=some (ι m.idle):=Xe aK 8 _ rfl
  have eO:W4.frozen? (π W.heap.size 0)=false:=Fz aK
  have eP:W4.frozen? (π W.heap.size 1)=false:=Fz aK
  have eQ:W4.frozen? (π W.heap.size 2)=false:=Fz aK
  have eR:W4.frozen? (π W.heap.size 3)=false:=Fz aK
  have eS:W4.frozen? (π W.heap.size 4)=false:=Fz aK
  have eT:W4.frozen? (π W.heap.size 5)=false:=Fz aK
  have eU:W4.frozen? (π W.heap.size 6)=false:=Fz aK
  have eV:W4.frozen? (π W.heap.size 7)=false:=Fz aK
  have eW:W4.frozen? (π W.heap.size 8)=false:=Fz aK
  have oz:=Bl o0
  clear cT bA bV aK
  go_upto_region 22 with fail
  change Code.wp _ _ _ _ (Yp W4 W.heap.size (σ na m'.frames.length nc) m')
  have aQ:=Lh (aU.o.put gY.o)
  have fQ:Chg (fun k=>k=14) c3 c3 W4 (Yp W4 W.heap.size (σ na m'.frames.length nc) m'):=Xzt aU.o.lab
  have fG:=Lh (fF.o.chg fQ (fun b hb=>fF.o.lab.2.2.1 b (by rw [Xu6] at hb;exact hb)) (fun t ht=>ht))
  obtain ⟨w5,gB⟩:∃ V,V=Yp W4 W.heap.size (σ na m'.frames.length nc) m':=⟨_,rfl⟩
  rw [<-gB] at aQ fG ⊢
  have bC:=aQ.o.box
  clear gB fQ e0 e1 e2 e3 e4 e5 e6 e7 e8 ez o0 o1 o2 o3 o4 o5 o6 o7 o8 eO eP eQ eR eS eT eU eV eW oz
  have e0:w5.cell? (π W.heap.size 0)=some (σ na m'.frames.length nc):=Xe bC 0 _ rfl
  have e1:w5.cell? (π W.heap.size 1)=some (ι m'.req.kind):=Xe bC 1 _ rfl
  have e2:w5.cell? (π W.heap.size 2)=some (ι m'.req.node):=Xe bC 2 _ rfl
  have e3:w5.cell? (π W.heap.size 3)=some (ι m'.req.field):=Xe bC 3 _ rfl
  have e4:w5.cell? (π W.heap.size 4)=some (ι m'.req.value):=Xe bC 4 _ rfl
  have e5:w5.cell? (π W.heap.size 5)=some (ι m'.req.fault):=Xe bC 5 _ rfl
  have e6:w5.cell? (π W.heap.size 6)=some (ι m'.fuel):=Xe bC 6 _ rfl
  have e7:w5.cell? (π W.heap.size 7)=some (ι m'.compares):=Xe bC 7 _ rfl
  have e8:w5.cell? (π W.heap.size 8)=some (ι m'.idle):=Xe bC 8 _ rfl
  have ez:=Bl e0
  have dD:Hid (s3.running[t]?=some m0/\s3.nodes[t]?=some (n+Xs1 s1.mem m.req)/\s3.results[t]?=some r/\s3.ends[t]?=some e):=Lh (by
   rw [dQ.o]
   exact ⟨HX.o.1,Xwo HX.o.2.1,HX.o.2.2.1,HX.o.2.2.2⟩)
  clear bC
  go_wp2_with fail
  refine (Xww s3 c3 bt t (n+Xs1 s1.mem m.req) r e m0 m' na nc w5 fG.o dD.o.1 dD.o.2.1 dD.o.2.2.1 dD.o.2.2.2 HP.o.rl HP.o.el aQ.o.fr dX.o.2.1).mono ?_
  rintro z w2 ⟨rfl,c4,gO,fO⟩
  obtain ⟨y9,yf,yz,aN⟩:=bT.o (Xr8 s3 t m' (n+Xs1 s1.mem m.req)) c4 w2 (by rw [Xts,dQ.o];exact cH.o.2.1) gO (aQ.o.chg.trans fO) (.inr (.inr ⟨HA.o,mm,x,m',aW.o,dU.o,by rw [dQ.o]⟩))
  have aV:=Lh aN
  clear gO fO aN e0 e1 e2 e3 e4 e5 e6 e7 e8 ez
  go_wp2
  go_ret
  exact ⟨rfl,aV.o⟩
