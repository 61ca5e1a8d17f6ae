import Derived.Test.YtiejafonjemioaaGreatDoorSta4
import Derived.Laws.AppendOwn
set_option maxHeartbeats 2000000
set_option maxRecDepth 100000
set_option linter.unusedVariables false
set_option linter.unusedSimpArgs false
open Go.Value renaming slice→σ
open Go.Obj renaming cells→χ
namespace Go.Proofs.YtiejafonjemioaaGreatDoor
open Go.RowKit
variable {w w' W wr:World} {bm B A k g cap:Nat} {m:Mch} {F:List Nat} {c:Cod} {fs:List Fra} {f:Fra} {v:Value} {cur:Array Value} {csd csr:List Value}
theorem Xjt (r:Rq) (n:Int) (w:World) :
  Calls Tryz.prog 133 #[rqV r,ι n] w fun e w'=>e=.returned (.bool (Yr r n))/\Below w.heap.size w w':=by
 obtain ⟨kind,node,field,value,fault⟩:=r
 unfold rqV
 by_cases h1:kind=1
 ·subst h1
  have hf:Hid (Yr ⟨1,node,field,value,fault⟩ n=X1 n):=Lh (by unfold Yr;rw [if_pos rfl])
  go_enter Tryz.func133,Tryz.ntmps133
  go_wp2_with (go_at_call 137;refine (Yy n _).mono ?_;rintro e w' ⟨rfl,rfl⟩)
  go_ret
  exact ⟨by rw [hf.o];rfl,Xa _ _⟩
 by_cases h3:kind=3
 ·subst h3
  have hf:Hid (Yr ⟨3,node,field,value,fault⟩ n=decide (0<=n/\n<=1099511627776)):=Lh (by unfold Yr;rw [if_neg ψ,if_pos rfl])
  by_cases hn:0<=n
  ·have aA:decide (0<=n)=true:=by simp [hn]
   go_enter Tryz.func133,Tryz.ntmps133
   go_wp2_with fail
   all_goals (go_ret;exact ⟨by rw [hf.o];exact Za (by simp [*]),Xa _ _⟩)
  ·have aA:decide (0<=n)=false:=by simp;omega
   go_enter Tryz.func133,Tryz.ntmps133
   go_wp2_with fail
   all_goals (go_ret;exact ⟨by rw [hf.o];exact Za (by simp;try omega),Xa _ _⟩)
 ·have hf:Hid (Yr ⟨kind,node,field,value,fault⟩ n=true):=Lh (by unfold Yr;rw [if_neg h1,if_neg h3])
  have aB:(kind == 1)=false:=by simp [h1]
  have aC:(kind == 3)=false:=by simp [h3]
  go_enter Tryz.func133,Tryz.ntmps133
  go_wp2
  go_ret
  exact ⟨by rw [hf.o];rfl,Xa _ _⟩
theorem Xbe (h:X3 w bm m F) (r:Rq):X3 (Yq w bm r) bm { m with req:=r } F/\Xp F F w (Yq w bm r):=by
 obtain ⟨fv,F0,hm,hv,rfl,hn⟩:=Xt.1 h
 obtain ⟨h1,h2⟩:=Ju hm r
 exact ⟨Xt.2 ⟨fv,F0,h1,hv.keep (fun b hb=>h2.block b (hv.lt b hb) (fun e=>hn (by rw [List.mem_singleton] at e;exact e▸hb))),rfl,hn⟩,h2.wide (fun b hb=>by simp at hb;simp [hb]) (fun b hb=>.inr hb)⟩
def Jz (c:Cod) (m:Mch) (n:Int) (bm:Nat) (F:List Nat) (w:World) (e:Ending) (w':World):Prop:=
 e=.returned (.tuple #[])/\∃ m' F',Jv c m n m'/\X3 w' bm m' F'/\Xp F F' w w'
theorem Xpd (hs:Xv c) (hsm:Zb c) (fa ga:Option Addr) (fn fc gc:Nat) (g n:Int) (hwt:Qr c m m.req fs f) (hnum:Ug m) (hO:X3 w bm m F)
  (B:Nat) (hB:∀ b∈F,B<=b) (hfs:Xf B w 5 (Zl B) (σ ga c.funcs.length gc) c.funcs) (hk:m.req.kind=2) :
  Calls Tryz.prog 116 #[.agg #[σ fa fn fc,ι g,σ ga c.funcs.length gc],.pointer (some (π bm 0)),ι n] w (Jz c m n bm F w):=by
 have aF:=Lh hO.lt
 obtain ⟨W,hW⟩:∃ W,W=(w.alloc (χ #[σ fa fn fc,ι g,σ ga c.funcs.length gc] 25)).alloc (χ #[σ fa fn fc,ι g,σ ga c.funcs.length gc,.pointer (some (π bm 0))] 175):=⟨_,rfl⟩
 have aE:Hid (Below w.heap.size w W):=by rw [hW];exact (Xa _ _).then (Xa _ _)
 have aJ:Hid (W.heap.size=w.heap.size+2):=by rw [hW];exact Lh ψ
 have b0:Hid (Xo W w.heap.size [σ fa fn fc,ι g,σ ga c.funcs.length gc]):=by rw [hW];exact Lh (Xd.alloc _)
 have b1:Hid (Xo W (w.heap.size+1) [σ fa fn fc,ι g,σ ga c.funcs.length gc,.pointer (some (π bm 0))]):=by
  rw [hW]
  have:=@Xd (w.alloc (χ #[σ fa fn fc,ι g,σ ga c.funcs.length gc] 25)) #[σ fa fn fc,ι g,σ ga c.funcs.length gc,.pointer (some (π bm 0))] 175
  exact Lh (by simpa using this)
 have aL:B<=w.heap.size:=by
  obtain ⟨fv,F0,hm,hv,rfl,hn⟩:=Xt.1 hO
  have h1:=hB bm ψ
  have h2:=aF.o bm ψ
  omega
 have aH:bm∈F:=by obtain ⟨fv,F0,hm,hv,rfl,hn⟩:=Xt.1 hO;simp
 have aY:=aF.o bm aH
 have aP:=Lh hfs
 have HB:=Lh hB
 have HO:=Lh (hO.keep aE.o)
 have aQ:=Lh hwt
 have i0:=b0.o 0 _ rfl
 have i1:=b0.o 1 _ rfl
 have i2:=b0.o 2 _ rfl
 have k0:=b1.o 0 _ rfl
 have k1:=b1.o 1 _ rfl
 have k2:=b1.o 2 _ rfl
 have k3:=b1.o 3 _ rfl
 have z0:w.heap.size<W.heap.size:=by have:=aJ.o;omega
 have z1:w.heap.size+1<W.heap.size:=by have:=aJ.o;omega
 have zb:bm<W.heap.size:=by have:=aJ.o;omega
 have n0:w.heap.size∉F:=fun e=>by have:=aF.o _ e;omega
 have n1:w.heap.size+1∉F:=fun e=>by have:=aF.o _ e;omega
 clear hO hfs hB hwt
 have HK:=Lh hk
 have aD:=Lh (aQ.o.goOn hnum hk noR)
 clear hk
 have aZ:W.cell? (π bm 1)=some (ι 2):=by
  obtain ⟨fv,F0,hm,hv,e,hn⟩:=Xt.1 HO.o
  have:=Xe hm 1 (ι m.req.kind) rfl
  rw [HK.o] at this
  exact this
 go_enter Tryz.func116,Tryz.ntmps116
 go_upto_region 2 with fail
 rw [<-hW]
 have HW:=Lh hW
 clear hW
 have n5:w.heap.size∉F:=n0
 obtain ⟨h6,aC⟩:=Xbe HO.o noR
 have aK:=Lh h6
 have aG:=Lh ((Xp.self (F:=F) (w:=W)).trans aC)
 obtain ⟨aX,aV,aA,aU,aR,aT⟩:=Xt.1 HO.o
 have c1:=Xe aA 1 (ι _) rfl
 have f1:W.frozen? (π bm 1)=false:=Fz aA
 have c2:=Xe aA 2 (ι _) rfl
 have f2:W.frozen? (π bm 2)=false:=Fz aA
 have c3:=Xe aA 3 (ι _) rfl
 have f3:W.frozen? (π bm 3)=false:=Fz aA
 have c4:=Xe aA 4 (ι _) rfl
 have f4:W.frozen? (π bm 4)=false:=Fz aA
 have c5:=Xe aA 5 (ι _) rfl
 have f5:W.frozen? (π bm 5)=false:=Fz aA
 have bA:=(La aA)
 obtain ⟨w6,aB⟩:∃ u,u=Yq W bm noR:=⟨_,rfl⟩
 rw [<-aB] at aK aG
 have e0:=aC.cell i0 n5
 have e1:=aC.cell i1 n5
 have e2:=aC.cell i2 n5
 rw [<-aB] at e0 e1 e2
 have ez:=Bl e0
 have aS:Hid (∀ b∈F,B<=b):=HB
 have aI:=Lh (aP.o.funs ((aE.o.mono aL).trans (aG.o.below HB.o (Nt aL aE.o.size))))
 have aW:=Lh aB
 unfold Yq noR at aB
 clear h6 aC aA aU aR aT
 go_upto_region 10 with fail
 rw [<-aB]
 clear aB
 go_wp2_with fail
 refine (Xc2 hs hsm fa ga fn fc gc g aD.o aK.o B aS.o aI.o).mono ?_
 rintro e w7 ⟨rfl,m7,F7,aO,aN,aM⟩
 have HP:Hid (Jz c m n bm F w (.returned (.tuple #[])) w7):=Lh ⟨rfl,m7,F7,.inr (.inr ⟨HK.o,aO⟩),aN,(Xp.of_below aE.o).trans (aG.o.trans aM)⟩
 clear aO aN aM
 go_wp2_with fail
 go_end0
 exact HP.o
theorem Xiv (hs:Xv c) (hsm:Zb c) (fa ga:Option Addr) (fn fc gc:Nat) (g n:Int) (hwt:Qr c m m.req fs f) (hnum:Ug m) (hO:X3 w bm m F)
  (B:Nat) (hB:∀ b∈F,B<=b) (hfs:Xf B w 5 (Zl B) (σ ga c.funcs.length gc) c.funcs) (hk:m.req.kind=1) (hv:isV n) :
  Calls Tryz.prog 116 #[.agg #[σ fa fn fc,ι g,σ ga c.funcs.length gc],.pointer (some (π bm 0)),ι n] w (Jz c m n bm F w):=by
 have aI:=Lh hO.lt
 obtain ⟨W,hW⟩:∃ W,W=(w.alloc (χ #[σ fa fn fc,ι g,σ ga c.funcs.length gc] 25)).alloc (χ #[σ fa fn fc,ι g,σ ga c.funcs.length gc,.pointer (some (π bm 0))] 175):=⟨_,rfl⟩
 have aF:Hid (Below w.heap.size w W):=by rw [hW];exact (Xa _ _).then (Xa _ _)
 have aP:Hid (W.heap.size=w.heap.size+2):=by rw [hW];exact Lh ψ
 have b0:Hid (Xo W w.heap.size [σ fa fn fc,ι g,σ ga c.funcs.length gc]):=by rw [hW];exact Lh (Xd.alloc _)
 have b1:Hid (Xo W (w.heap.size+1) [σ fa fn fc,ι g,σ ga c.funcs.length gc,.pointer (some (π bm 0))]):=by
  rw [hW]
  have:=@Xd (w.alloc (χ #[σ fa fn fc,ι g,σ ga c.funcs.length gc] 25)) #[σ fa fn fc,ι g,σ ga c.funcs.length gc,.pointer (some (π bm 0))] 175
  exact Lh (by simpa using this)
 have aK:B<=w.heap.size:=by
  obtain ⟨fv,F0,hm,hv,rfl,hn⟩:=Xt.1 hO
  have h1:=hB bm ψ
  have h2:=aI.o bm ψ
  omega
 have aL:bm∈F:=by obtain ⟨fv,F0,hm,hv,rfl,hn⟩:=Xt.1 hO;simp
 have bK:=aI.o bm aL
 have aY:=Lh hfs
 have HB:=Lh hB
 have HO:=Lh (hO.keep aF.o)
 have aD:=Lh hwt
 have i0:=b0.o 0 _ rfl
 have i1:=b0.o 1 _ rfl
 have i2:=b0.o 2 _ rfl
 have k0:=b1.o 0 _ rfl
 have k1:=b1.o 1 _ rfl
 have k2:=b1.o 2 _ rfl
 have k3:=b1.o 3 _ rfl
 have z0:w.heap.size<W.heap.size:=by have:=aP.o;omega
 have z1:w.heap.size+1<W.heap.size:=by have:=aP.o;omega
 have zb:bm<W.heap.size:=by have:=aP.o;omega
 have n0:w.heap.size∉F:=fun e=>by have:=aI.o _ e;omega
 have n1:w.heap.size+1∉F:=fun e=>by have:=aI.o _ e;omega
 clear hO hfs hB hwt
 have HK:=Lh hk
 have aG:=Lh (aD.o.push hnum ω n hv noR)
 clear hk
 have bL:W.cell? (π bm 1)=some (ι 1):=by
  obtain ⟨fv,F0,hm,hv,e,hn⟩:=Xt.1 HO.o
  have:=Xe hm 1 (ι m.req.kind) rfl
  rw [HK.o] at this
  exact this
 obtain ⟨fb,cap,bI,cs,lv,sv,Fi,Fl,Fs,hT,aS⟩:=HO.o.top aD.o.fr
 have HT:=Lh hT
 have aZ:=Lh aS
 have aO:fs.length<=200:=by have:=aD.o.len;omega
 have bE:f.stack.length<1000000:=by
  obtain ⟨y,x,hh,hb,h1,hx,_,hr,hl⟩:=aD.o.top
  have h2:=Qu (hs.wf hb.fn) (hs.snd hb.fn) hr
  have h3:=hsm y (Lm hb.fn)
  have h4:=((hs.wf hb.fn).pops x (Lm hx)).1
  omega
 clear hT aS
 go_enter Tryz.func116,Tryz.ntmps116
 go_upto_region 2 with fail
 rw [<-hW]
 have HW:=Lh hW
 clear hW
 go_wp2_with fail
 refine (Qt fa ga fn fc c.funcs.length gc g HT.o aO n hv.in64 bE).mono ?_
 rintro e w5 ⟨rfl,bA,bM,aH,aX,aT⟩
 have aQ:=Lh ((aX.reframe (fs++[{ f with stack:=f.stack++[n] }])).own rfl)
 have aB:Hid (Xp F (bm::fb::(Fi++(Fl++aH))) W w5):=Lh (by rw [aZ.o];exact aT)
 have j0:=aB.o.cell i0 n0
 have j1:=aB.o.cell i1 n0
 have j2:=aB.o.cell i2 n0
 have aN:Hid (∀ b∈bm::fb::(Fi++(Fl++aH)),B<=b):=Lh (aB.o.ge HB.o (Nt aK aF.o.size))
 clear aX aT
 have n5:w.heap.size∉bm::fb::(Fi++(Fl++aH)):=aB.o.notin z0 n0
 obtain ⟨h6,aE⟩:=Xbe aQ.o noR
 have aR:=Lh h6
 have aJ:=Lh (aB.o.trans aE)
 obtain ⟨bJ,bG,aA,bF,bB,bD⟩:=Xt.1 aQ.o
 have c1:=Xe aA 1 (ι _) rfl
 have f1:w5.frozen? (π bm 1)=false:=Fz aA
 have c2:=Xe aA 2 (ι _) rfl
 have f2:w5.frozen? (π bm 2)=false:=Fz aA
 have c3:=Xe aA 3 (ι _) rfl
 have f3:w5.frozen? (π bm 3)=false:=Fz aA
 have c4:=Xe aA 4 (ι _) rfl
 have f4:w5.frozen? (π bm 4)=false:=Fz aA
 have c5:=Xe aA 5 (ι _) rfl
 have f5:w5.frozen? (π bm 5)=false:=Fz aA
 have bN:=(La aA)
 obtain ⟨w6,aC⟩:∃ u,u=Yq w5 bm noR:=⟨_,rfl⟩
 rw [<-aC] at aR aJ
 have e0:=aE.cell j0 n5
 have e1:=aE.cell j1 n5
 have e2:=aE.cell j2 n5
 rw [<-aC] at e0 e1 e2
 have ez:=Bl e0
 have bC:Hid (∀ b∈bm::fb::(Fi++(Fl++aH)),B<=b):=aN
 have aM:=Lh (aY.o.funs ((aF.o.mono aK).trans (aJ.o.below HB.o (Nt aK aF.o.size))))
 have bH:=Lh aC
 unfold Yq noR at aC
 clear h6 aE aA bF bB bD
 go_upto_region 10 with fail
 rw [<-aC]
 clear aC
 go_wp2_with fail
 refine (Xc2 hs hsm fa ga fn fc gc g aG.o aR.o B bC.o aM.o).mono ?_
 rintro e w7 ⟨rfl,m7,F7,aW,aV,aU⟩
 have HP:Hid (Jz c m n bm F w (.returned (.tuple #[])) w7):=Lh ⟨rfl,m7,F7,.inr (.inl ⟨.inl HK.o,fs,f,aD.o.fr,aW⟩),aV,(Xp.of_below aF.o).trans (aJ.o.trans aU)⟩
 clear aW aV aU
 go_wp2_with fail
 go_end0
 exact HP.o
theorem Xju (hs:Xv c) (hsm:Zb c) (fa ga:Option Addr) (fn fc gc:Nat) (g n:Int) (hwt:Qr c m m.req fs f) (hnum:Ug m) (hO:X3 w bm m F)
  (B:Nat) (hB:∀ b∈F,B<=b) (hfs:Xf B w 5 (Zl B) (σ ga c.funcs.length gc) c.funcs) (hk:m.req.kind=3) (hv:isV n) (hn:n≠0) :
  Calls Tryz.prog 116 #[.agg #[σ fa fn fc,ι g,σ ga c.funcs.length gc],.pointer (some (π bm 0)),ι n] w (Jz c m n bm F w):=by
 have aI:=Lh hO.lt
 obtain ⟨W,hW⟩:∃ W,W=(w.alloc (χ #[σ fa fn fc,ι g,σ ga c.funcs.length gc] 25)).alloc (χ #[σ fa fn fc,ι g,σ ga c.funcs.length gc,.pointer (some (π bm 0))] 175):=⟨_,rfl⟩
 have aF:Hid (Below w.heap.size w W):=by rw [hW];exact (Xa _ _).then (Xa _ _)
 have aP:Hid (W.heap.size=w.heap.size+2):=by rw [hW];exact Lh ψ
 have b0:Hid (Xo W w.heap.size [σ fa fn fc,ι g,σ ga c.funcs.length gc]):=by rw [hW];exact Lh (Xd.alloc _)
 have b1:Hid (Xo W (w.heap.size+1) [σ fa fn fc,ι g,σ ga c.funcs.length gc,.pointer (some (π bm 0))]):=by
  rw [hW]
  have:=@Xd (w.alloc (χ #[σ fa fn fc,ι g,σ ga c.funcs.length gc] 25)) #[σ fa fn fc,ι g,σ ga c.funcs.length gc,.pointer (some (π bm 0))] 175
  exact Lh (by simpa using this)
 have aK:B<=w.heap.size:=by
  obtain ⟨fv,F0,hm,hv,rfl,hn⟩:=Xt.1 hO
  have h1:=hB bm ψ
  have h2:=aI.o bm ψ
  omega
 have aL:bm∈F:=by obtain ⟨fv,F0,hm,hv,rfl,hn⟩:=Xt.1 hO;simp
 have bK:=aI.o bm aL
 have aY:=Lh hfs
 have HB:=Lh hB
 have HO:=Lh (hO.keep aF.o)
 have aD:=Lh hwt
 have i0:=b0.o 0 _ rfl
 have i1:=b0.o 1 _ rfl
 have i2:=b0.o 2 _ rfl
 have k0:=b1.o 0 _ rfl
 have k1:=b1.o 1 _ rfl
 have k2:=b1.o 2 _ rfl
 have k3:=b1.o 3 _ rfl
 have z0:w.heap.size<W.heap.size:=by have:=aP.o;omega
 have z1:w.heap.size+1<W.heap.size:=by have:=aP.o;omega
 have zb:bm<W.heap.size:=by have:=aP.o;omega
 have n0:w.heap.size∉F:=fun e=>by have:=aI.o _ e;omega
 have n1:w.heap.size+1∉F:=fun e=>by have:=aI.o _ e;omega
 clear hO hfs hB hwt
 have HK:=Lh hk
 have aG:=Lh (aD.o.push hnum ω n hv noR)
 clear hk
 have bL:W.cell? (π bm 1)=some (ι 3):=by
  obtain ⟨fv,F0,hm,hv,e,hn⟩:=Xt.1 HO.o
  have:=Xe hm 1 (ι m.req.kind) rfl
  rw [HK.o] at this
  exact this
 have bM:(n == 0)=false:=by simp [hn]
 have bN:¬n=0:=hn
 have HN:=Lh hn
 clear hn
 obtain ⟨fb,cap,bI,cs,lv,sv,Fi,Fl,Fs,hT,aS⟩:=HO.o.top aD.o.fr
 have HT:=Lh hT
 have aZ:=Lh aS
 have aO:fs.length<=200:=by have:=aD.o.len;omega
 have bE:f.stack.length<1000000:=by
  obtain ⟨y,x,hh,hb,h1,hx,_,hr,hl⟩:=aD.o.top
  have h2:=Qu (hs.wf hb.fn) (hs.snd hb.fn) hr
  have h3:=hsm y (Lm hb.fn)
  have h4:=((hs.wf hb.fn).pops x (Lm hx)).1
  omega
 clear hT aS
 go_enter Tryz.func116,Tryz.ntmps116
 go_upto_region 2 with fail
 rw [<-hW]
 have HW:=Lh hW
 clear hW
 go_wp2_with fail
 refine (Qt fa ga fn fc c.funcs.length gc g HT.o aO n hv.in64 bE).mono ?_
 rintro e w5 ⟨rfl,bA,bO,aH,aX,aT⟩
 have aQ:=Lh ((aX.reframe (fs++[{ f with stack:=f.stack++[n] }])).own rfl)
 have aB:Hid (Xp F (bm::fb::(Fi++(Fl++aH))) W w5):=Lh (by rw [aZ.o];exact aT)
 have j0:=aB.o.cell i0 n0
 have j1:=aB.o.cell i1 n0
 have j2:=aB.o.cell i2 n0
 have aN:Hid (∀ b∈bm::fb::(Fi++(Fl++aH)),B<=b):=Lh (aB.o.ge HB.o (Nt aK aF.o.size))
 clear aX aT
 have n5:w.heap.size∉bm::fb::(Fi++(Fl++aH)):=aB.o.notin z0 n0
 obtain ⟨h6,aE⟩:=Xbe aQ.o noR
 have aR:=Lh h6
 have aJ:=Lh (aB.o.trans aE)
 obtain ⟨bJ,bG,aA,bF,bB,bD⟩:=Xt.1 aQ.o
 have c1:=Xe aA 1 (ι _) rfl
 have f1:w5.frozen? (π bm 1)=false:=Fz aA
 have c2:=Xe aA 2 (ι _) rfl
 have f2:w5.frozen? (π bm 2)=false:=Fz aA
 have c3:=Xe aA 3 (ι _) rfl
 have f3:w5.frozen? (π bm 3)=false:=Fz aA
 have c4:=Xe aA 4 (ι _) rfl
 have f4:w5.frozen? (π bm 4)=false:=Fz aA
 have c5:=Xe aA 5 (ι _) rfl
 have f5:w5.frozen? (π bm 5)=false:=Fz aA
 have bP:=(La aA)
 obtain ⟨w6,aC⟩:∃ u,u=Yq w5 bm noR:=⟨_,rfl⟩
 rw [<-aC] at aR aJ
 have e0:=aE.cell j0 n5
 have e1:=aE.cell j1 n5
 have e2:=aE.cell j2 n5
 rw [<-aC] at e0 e1 e2
 have ez:=Bl e0
 have bC:Hid (∀ b∈bm::fb::(Fi++(Fl++aH)),B<=b):=aN
 have aM:=Lh (aY.o.funs ((aF.o.mono aK).trans (aJ.o.below HB.o (Nt aK aF.o.size))))
 have bH:=Lh aC
 unfold Yq noR at aC
 clear h6 aE aA bF bB bD
 go_upto_region 10 with fail
 rw [<-aC]
 clear aC
 go_wp2_with fail
 refine (Xc2 hs hsm fa ga fn fc gc g aG.o aR.o B bC.o aM.o).mono ?_
 rintro e w7 ⟨rfl,m7,F7,aW,aV,aU⟩
 have HP:Hid (Jz c m n bm F w (.returned (.tuple #[])) w7):=Lh ⟨rfl,m7,F7,.inr (.inl ⟨.inr ⟨HK.o,HN.o⟩,fs,f,aD.o.fr,aW⟩),aV,(Xp.of_below aF.o).trans (aJ.o.trans aU)⟩
 clear aW aV aU
 go_wp2_with fail
 go_end0
 exact HP.o
theorem Xmu (hs:Xv c) (hsm:Zb c) (fa ga:Option Addr) (fn fc gc:Nat) (g n:Int) (hwt:Qr c m m.req fs f) (hnum:Ug m) (hO:X3 w bm m F)
  (B:Nat) (hB:∀ b∈F,B<=b) (hfs:Xf B w 5 (Zl B) (σ ga c.funcs.length gc) c.funcs) (hk:m.req.kind=3) (hn:n=0) :
  Calls Tryz.prog 116 #[.agg #[σ fa fn fc,ι g,σ ga c.funcs.length gc],.pointer (some (π bm 0)),ι n] w (Jz c m n bm F w):=by
 have aC:=Lh hO.lt
 obtain ⟨W,hW⟩:∃ W,W=(w.alloc (χ #[σ fa fn fc,ι g,σ ga c.funcs.length gc] 25)).alloc (χ #[σ fa fn fc,ι g,σ ga c.funcs.length gc,.pointer (some (π bm 0))] 175):=⟨_,rfl⟩
 have aG:Hid (Below w.heap.size w W):=by rw [hW];exact (Xa _ _).then (Xa _ _)
 have aE:Hid (W.heap.size=w.heap.size+2):=by rw [hW];exact Lh ψ
 have b0:Hid (Xo W w.heap.size [σ fa fn fc,ι g,σ ga c.funcs.length gc]):=by rw [hW];exact Lh (Xd.alloc _)
 have b1:Hid (Xo W (w.heap.size+1) [σ fa fn fc,ι g,σ ga c.funcs.length gc,.pointer (some (π bm 0))]):=by
  rw [hW]
  have:=@Xd (w.alloc (χ #[σ fa fn fc,ι g,σ ga c.funcs.length gc] 25)) #[σ fa fn fc,ι g,σ ga c.funcs.length gc,.pointer (some (π bm 0))] 175
  exact Lh (by simpa using this)
 have aN:B<=w.heap.size:=by
  obtain ⟨fv,F0,hm,hv,rfl,hn⟩:=Xt.1 hO
  have h1:=hB bm ψ
  have h2:=aC.o bm ψ
  omega
 have aD:bm∈F:=by obtain ⟨fv,F0,hm,hv,rfl,hn⟩:=Xt.1 hO;simp
 have aO:=aC.o bm aD
 have aL:=Lh hfs
 have HB:=Lh hB
 have HO:=Lh (hO.keep aG.o)
 have aM:=Lh hwt
 have i0:=b0.o 0 _ rfl
 have i1:=b0.o 1 _ rfl
 have i2:=b0.o 2 _ rfl
 have k0:=b1.o 0 _ rfl
 have k1:=b1.o 1 _ rfl
 have k2:=b1.o 2 _ rfl
 have k3:=b1.o 3 _ rfl
 have z0:w.heap.size<W.heap.size:=by have:=aE.o;omega
 have z1:w.heap.size+1<W.heap.size:=by have:=aE.o;omega
 have zb:bm<W.heap.size:=by have:=aE.o;omega
 have n0:w.heap.size∉F:=fun e=>by have:=aC.o _ e;omega
 have n1:w.heap.size+1∉F:=fun e=>by have:=aC.o _ e;omega
 clear hO hfs hB hwt
 have HK:=Lh hk
 subst hn
 clear hk
 have aP:W.cell? (π bm 1)=some (ι 3):=by
  obtain ⟨fv,F0,hm,hv,e,hn⟩:=Xt.1 HO.o
  have:=Xe hm 1 (ι m.req.kind) rfl
  rw [HK.o] at this
  exact this
 obtain ⟨aH,aK,aA,aJ,aF,aI⟩:=Xt.1 HO.o
 have c0:=Xe aA 0 aH rfl
 have c2:=Xe aA 2 (ι _) rfl
 have c3:=Xe aA 3 (ι _) rfl
 have c4:=Xe aA 4 (ι _) rfl
 have c5:=Xe aA 5 (ι _) rfl
 have f0:W.frozen? (π bm 0)=false:=Fz aA
 have f1:W.frozen? (π bm 1)=false:=Fz aA
 have f2:W.frozen? (π bm 2)=false:=Fz aA
 have f3:W.frozen? (π bm 3)=false:=Fz aA
 have f4:W.frozen? (π bm 4)=false:=Fz aA
 have f5:W.frozen? (π bm 5)=false:=Fz aA
 have aB:Hid (∃ F',X3 (Yq (W.setCell (π bm 0) ν) bm (X0 21)) bm { m with frames:=[],req:=X0 21 } F'/\Xp F F' W (Yq (W.setCell (π bm 0) ν) bm (X0 21))):=Lh (by
  have h0:=heap_setCell_same _ bm 0 _ _ ν aA
  rw [Qo] at h0
  have h1:X3 (W.setCell (π bm 0) ν) bm { m with frames:=[] } [bm]:=Xt.2 ⟨_,[],h0,Jd _,rfl,ψ⟩
  obtain ⟨h2,h3⟩:=Xbe h1 (X0 21)
  refine ⟨[bm],h2,?_⟩
  rw [aF]
  exact (Xw.trans h3).wide (fun b hb=>by simp at hb;simp [hb]) (fun b hb=>.inl hb))
 clear aA aJ aF aI
 unfold Yq X0 at aB
 go_enter Tryz.func116,Tryz.ntmps116
 go_upto_region 2 with fail
 rw [<-hW]
 have HW:=Lh hW
 clear hW
 go_wp2_with fail
 have hP:Jz c m 0 bm F w (.returned (.tuple #[])) _:=⟨rfl,_,_,.inl ⟨HK.o,rfl,rfl⟩,aB.o.choose_spec.1,(Xp.of_below aG.o).trans aB.o.choose_spec.2⟩
 refine bodyPost_ret (results_none rfl _ _ _) rfl ?_
 exact hP
def Z1 (B:Nat) (w:World):List Value->List Fra->Prop
 | cells,[]=>cells=[]
 | cells,f::fs=>∃ lv sv cs,cells=ι f.fn::ι f.pc::lv::sv::cs/\Xf B w 1 Zd lv f.locals/\Xf B w 1 Zd sv f.stack/\in64 f.fn/\in64 f.pc/\Z1 B w cs fs
theorem Z1.below (hb:Below B w w'):∀ {fs:List Fra} {cells:List Value},Z1 B w cells fs->Z1 B w' cells fs
 | [],_,h=>h
 | _::_,_,⟨lv,sv,cs,h1,h2,h3,h4,h5,h6⟩=>⟨lv,sv,cs,h1,h2.ints hb,h3.ints hb,h4,h5,h6.below hb⟩
theorem Z1.len :∀ {fs:List Fra} {cells:List Value},Z1 B w cells fs->cells.length=fs.length*4
 | [],_,h=>by rw [show _=[] from h];rfl
 | _::_,_,⟨lv,sv,cs,h1,h2,h3,h4,h5,h6⟩=>by rw [h1];simp [h6.len];omega
theorem Z1.one :∀ {fs:List Fra} {cells:List Value},Z1 B w cells fs->∀ u∈cells,u.oneCell'=true
 | [],_,h,u,hu=>by rw [show _=[] from h] at hu;simp at hu
 | _::_,_,⟨lv,sv,cs,h1,h2,h3,h4,h5,h6⟩,u,hu=>by
  obtain ⟨a,c,rfl⟩:=h2.form
  obtain ⟨a',c',rfl⟩:=h3.form
  rw [h1] at hu
  simp only [List.mem_cons] at hu
  rcases hu with rfl|rfl|rfl|rfl|hu
  ·rfl
  ·rfl
  ·rfl
  ·rfl
  ·exact h6.one u hu
theorem Xdp {b:Nat}:∀ {fs:List Fra} {o:Nat},(∀ (i:Nat) x,fs[i]?=some x->Qp B w b (o+i*4) x)->∃ cells,Z1 B w cells fs/\∀ (j:Nat) u,cells[j]?=some u->w.cell? (π b (o+j))=some u
 | [],o,_=>⟨[],rfl,ψ⟩
 | f::fs,o,h=>by
  obtain ⟨h1,h2,⟨lv,h3,h4⟩,⟨sv,h5,h6⟩,h7,h8⟩:=h 0 f rfl
  obtain ⟨cs,hc,aA⟩:=Xdp (fs:=fs) (o:=o+4) (fun i x hx=>by
   have:=h (i+1) x (by simpa using hx)
   rwa [show o+(i+1)*4=o+4+i*4 by omega] at this)
  refine ⟨ι f.fn::ι f.pc::lv::sv::cs,⟨lv,sv,cs,rfl,h4,h6,h7,h8,hc⟩,fun j u hu=>?_⟩
  match j,hu with
  | 0,hu=>simp at hu;subst hu;simpa using h1
  | 1,hu=>simp at hu;subst hu;simpa using h2
  | 2,hu=>simp at hu;subst hu;simpa using h3
  | 3,hu=>simp at hu;subst hu;simpa using h5
  | j+4,hu=>
   have:=aA j u (by simpa using hu)
   rwa [show o+(j+4)=o+4+j by omega]
theorem Xfz {o:Obj} (hg:(w.alloc o).grownBy w' (some w.heap.size)):Below w.heap.size w w':=
 ⟨hg.os,hg.tape,hg.output,by have:=hg.size;simp at this;omega,fun k hk=>by
  rw [hg.block k φ (fun e=>by simp at e;omega)]
  exact Ha _ _ _ hk⟩
def Xrg (B:Nat) (fs:List Fra) (w:World) (e:Ending) (w':World):Prop:=
 ∃ v cells,e=.returned v/\w'.ownsRow w.heap.size 129 4 v fs.length cells/\Z1 B w' cells fs/\Below w.heap.size w w'
theorem Xi2 (fs:List Fra) (v:Value) (B:Nat) (w:World) (hB:B<=w.heap.size) (hv:Xf B w 4 (Qp B) v fs) (hl:fs.length<=1000) :
  Calls Tryz.prog 167 #[v] w (Xrg B fs w):=by
 obtain ⟨a,cap,rfl,h1,h2,h3,hE⟩:=hv
 obtain ⟨i0,hi,aM,aN,aO⟩:=info_parts Vb
 cases a with
 | none=>
  have aD:fs=[]:=by
   rcases hE with h|⟨b,o,h,_⟩
   ·exact h
   ·cases h
  subst aD
  have hq:=Lib.run_eql_slice_nil (P:=Tryz.prog)
  go_enter Tryz.func167,Tryz.ntmps167
  go_wp2
  go_ret
  exact ⟨_,[],rfl,World.ownsRow_nil _ _ _ _,rfl,Below.refl _ _⟩
 | some ad=>
  have hq:∀ w:World,(binOp .eql 47 (σ (some ad) fs.length cap) ν).run Tryz.prog w=.ok (.bool false) w:=fun w=>by simpa using Lib.run_eql_slice_nil (P:=Tryz.prog) w 47 129 (some ad) fs.length cap 0 0 Tryz.underlying47
  obtain ⟨cells,aE,aA⟩:∃ cells,Z1 B w cells fs/\∀ (j:Nat) u,cells[j]?=some u->w.cell? (ad.add j)=some u:=by
   rcases hE with h|⟨b,o,h,hb,hE⟩
   ·subst h;exact ⟨[],rfl,ψ⟩
   ·cases h
    obtain ⟨cells,h1,h2⟩:=Xdp hE
    exact ⟨cells,h1,fun j u hu=>by rw [Xbt];exact h2 j u hu⟩
  have aK:=Lh aE
  have aG:=Lh aE.len
  have aH:=Lh aE.one
  have aC:Hid (∀ (j:Nat) u,cells[j]?=some u->(w.alloc (χ #[] 129)).cell? (ad.add j)=some u):=Lh (fun j u hu=>Xc (Xa _ _) (aA j u hu))
  have aI:Hid ((w.alloc (χ #[] 129)).ownsRow w.heap.size 129 4 (σ (some (π w.heap.size 0)) 0 0) 0 []):=Lh (World.ownsRow_made w #[] 0 (Nr _) (by unfold maxLen;omega) rfl)
  clear hE aE aA
  go_enter Tryz.func167,Tryz.ntmps167
  go_wp2_with (at_builtin;refine wpList_append_own _ rfl (.tmp 5) (.tmp 6) 47 rfl w.heap.size 129 i0 (.agg #[ι 0,ι 0,ν,ν]) 4 64 Tryz.underlying47 hi aM aN aO rfl δ (σ (some (π w.heap.size 0)) 0 0) 0 [] rfl aI.o ad fs.length cap cells rfl aG.o aC.o aH.o ?_ ?_ ?_ ?_;(unfold maxLen;omega);omega;(simp);intro v' w' aB aJ aD;have aF:=Lh aB;have aL:=Lh aJ;clear aB aJ aD)
  go_ret
  have hb:=Lh (Xfz aL.o)
  have ho:w'.ownsRow w.heap.size 129 4 v' fs.length cells:=by simpa using aF.o
  exact ⟨v',cells,rfl,ho,aK.o.below (hb.o.mono hB),hb.o⟩
def Xni (l:List Int) (w:World) (e:Ending) (w':World):Prop:=∃ a c F,e=.returned (σ a l.length c)/\Yv w' (σ a l.length c) l F/\(∀ b∈F,w.heap.size<=b)/\F.length<=1/\Below w.heap.size w w'
theorem Zs {base:Nat} {e:TypeId} {size:Nat} {n:Nat} {xs:List Value} (h:w.ownsRow base e size v n xs):w.ownsRow 0 e size v n xs/\(∀ b∈v.ownBlock.toList,base<=b)/\∃ a c,v=σ a n c:=by
 obtain ⟨h1,h2⟩:=h
 rcases h2 with ⟨rfl,hn⟩|⟨g,cap,aA,rfl,hb,r⟩
 ·subst hn
  exact ⟨⟨h1,.inl ⟨rfl,rfl⟩⟩,by simp [Value.ownBlock],none,0,rfl⟩
 ·exact ⟨⟨h1,.inr ⟨g,cap,aA,rfl,Nat.zero_le _,r⟩⟩,by simp [Value.ownBlock];exact hb,_,_,rfl⟩
theorem Vc (l:List Int) (v:Value) (B:Nat) (w:World) (hv:Xf B w 1 Zd v l) (hl:l.length<=1000000):Calls Tryz.prog 114 #[v] w (Xni l w):=by
 obtain ⟨a,cap,rfl,h1,h2,h3,hE⟩:=hv
 have fin:∀ v' w',w'.ownsRow w.heap.size 3 1 v' l.length (l.map (Value.int .i64))->(∀ n∈l,in64 n)->Below w.heap.size w w'->Xni l w (.returned v') w':=fun v' w' ho aB hb=>by
  obtain ⟨h4,h5,a',c',rfl⟩:=Zs ho
  exact ⟨a',c',_,rfl,⟨h4,rfl,aB⟩,h5,by cases a'<;>simp [Value.ownBlock],hb⟩
 cases a with
 | none=>
  have aA:l=[]:=by
   rcases hE with h|⟨b,o,h,_⟩
   ·exact h
   ·cases h
  subst aA
  exact (Tryz.slices_Clone_int_nil _ cap w).mono fun e w' ⟨he,hw⟩=>by subst he hw;exact fin _ _ (World.ownsRow_nil _ _ _ _) ψ Br
 | some ad=>
  rcases hE with h|⟨b,o,h,hb,hE⟩
  ·subst h
   exact (Tryz.slices_Clone_int_zero ad cap w).mono fun e w' ⟨v',he,ho,_,hb⟩=>by subst he;exact fin _ _ ho ψ hb
  ·cases h
   refine (Tryz.slices_Clone_int b o l.length cap l w (Nr _) ω (fun j hj=>?_)).mono fun e w' ⟨v',he,ho,_,hb⟩=>by
    subst he
    rw [List.take_length] at ho
    exact fin _ _ ho (fun n hn=>by
     obtain ⟨i,hi,rfl⟩:=List.getElem_of_mem hn
     exact (hE i _ (Lg hi)).2) hb
   have:=(hE j _ (getD_some hj)).1
   rw [Nat.mul_one] at this
   exact this
theorem Xfc {cs L:List Value} {N j:Nat} (h:cur.toList.take N=cs++L):(cur.setIfInBounds (cs.length+j) v).toList.take N=cs++L.set j v:=by
 rw [Array.toList_setIfInBounds,List.take_set,h,List.set_append_right _ _ ω,Nat.add_sub_cancel_left]
structure Ku (B A:Nat) (fs:List Fra) (k g cap:Nat) (W wr:World) (cur:Array Value) (csd csr:List Value) (F:List Nat):Prop where
 row:wr.heap[g]?=some (χ cur 129 (0,0))
 csize:cur.size=cap*4
 capl:fs.length<=cap
 capm:cap<=9223372036854775807
 take:cur.toList.take (fs.length*4)=csd++csr
 done:Yl wr csd (fs.take k) F
 rest:Z1 B wr csr (fs.drop k)
 nodup:(g::F).Nodup
 ge:∀ b∈g::F,A<=b
 bel:Below A W wr
 cslen:csd.length=k*4
theorem Ku.cells (h:Ku B A fs k g cap W wr cur csd csr F) (j:Nat) (u:Value) (hu:csr[j]?=some u):wr.cell? (π g (k*4+j))=some u:=by
 rw [cell_of_row _ _ _ _ _ _ h.row]
 have h1:(csd++csr)[k*4+j]?=some u:=by rw [Ar (by rw [h.cslen];omega),h.cslen,Nat.add_sub_cancel_left];exact hu
 rw [<-h.take,List.getElem?_take] at h1
 split at h1
 ·simpa using h1
 ·cases h1
theorem Ku.next {w1 w2:World} {rest:List Value} {lv sv lv' sv':Value} {Fl Fs:List Nat} (hk:fs[k]?=some f) (h:Ku B A fs k g cap W wr cur csd (ι f.fn::ι f.pc::lv::sv::rest) F) (hBA:B<=A)
  (hb1:Below wr.heap.size wr w1) (hl:Yv w1 lv' f.locals Fl) (hl1:∀ b∈Fl,wr.heap.size<=b) (hl2:Fl.length<=1) (hb2:Below (w1.setCell (π g (k*4+2)) lv').heap.size (w1.setCell (π g (k*4+2)) lv') w2) (hs:Yv w2 sv' f.stack Fs) (hs1:∀ b∈Fs,w1.heap.size<=b) (hs2:Fs.length<=1) :
  Ku B A fs (k+1) g cap W (w2.setCell (π g (k*4+3)) sv') ((cur.setIfInBounds (k*4+2) lv').setIfInBounds (k*4+3) sv') (csd++[ι f.fn,ι f.pc,lv',sv']) rest (F++(Fl++Fs)):=by
 have aM:=(La h.row)
 have aR:=hb1.size
 have aO:=hb2.size
 simp at aO
 have r1:w1.heap[g]?=some (χ cur 129 (0,0)):=by rw [hb1.block g aM];exact h.row
 have r2:=heap_setCell_same _ g (k*4+2) _ _ lv' r1
 have r3:w2.heap[g]?=_:=(hb2.block g φ).trans r2
 have r4:=heap_setCell_same _ g (k*4+3) _ _ sv' r3
 have aD:A<=g:=h.ge g ψ
 have hF:∀ b∈F,b<wr.heap.size:=h.done.lt
 have aH:∀ b∈Fl,b<w1.heap.size:=hl.lt
 have aP:∀ b∈Fs,b<w2.heap.size:=hs.lt
 have aI:∀ b,b≠g->b<w1.heap.size->w2.heap[b]?=w1.heap[b]?:=fun b hb aQ=>by rw [hb2.block b φ,heap_setCell_other _ _ _ _ hb]
 have ho:∀ b,b≠g->(w2.setCell (π g (k*4+3)) sv').heap[b]?=w2.heap[b]?:=fun b hb=>heap_setCell_other _ _ _ _ hb
 have aF:=h.nodup
 rw [List.nodup_cons] at aF
 have aE:∀ b∈F,b≠g:=fun b hb e=>aF.1 (e▸hb)
 have aB:∀ b∈Fl,b≠g:=fun b hb e=>by have:=hl1 b hb;omega
 have aC:∀ b∈Fs,b≠g:=fun b hb e=>by have:=hs1 b hb;omega
 have aL:A<=wr.heap.size:=ω
 have aA:Below A wr (w2.setCell (π g (k*4+3)) sv'):=((hb1.mono aL).trans (Br.setCell aD _)).trans ((hb2.mono φ).trans (Br.setCell aD _))
 have aN:fs.take (k+1)=fs.take k++[f]:=by rw [List.take_add_one,hk];rfl
 refine ⟨r4,by simp [h.csize],h.capl,h.capm,?_,?_,?_,?_,?_,h.bel.trans aA,by simp [h.cslen];omega⟩
 ·have t1:=Xfc (j:=2) (v:=lv') h.take
  rw [h.cslen] at t1
  have t2:=Xfc (j:=3) (v:=sv') t1
  rw [h.cslen] at t2
  rw [t2]
  simp
 ·rw [aN]
  exact ((h.done.keep (fun b hb=>by rw [ho b (aE b hb),aI b (aE b hb) (by have:=hF b hb;omega),hb1.block b (hF b hb)])).add (hl.keep (fun b hb=>by rw [ho b (aB b hb),aI b (aB b hb) (aH b hb)])) (hs.keep (fun b hb=>ho b (aC b hb))) (by
   obtain ⟨aJ,aK,aG,e,h2,h3,h4,h5,h6⟩:Z1 B wr _ (f::fs.drop (k+1)):=by
    have:=h.rest
    rwa [List.drop_eq_getElem_cons (Ll hk),(List.getElem?_eq_some_iff.1 hk).2] at this
   exact h4) (by
   obtain ⟨aJ,aK,aG,e,h2,h3,h4,h5,h6⟩:Z1 B wr _ (f::fs.drop (k+1)):=by
    have:=h.rest
    rwa [List.drop_eq_getElem_cons (Ll hk),(List.getElem?_eq_some_iff.1 hk).2] at this
   exact h5))
 ·obtain ⟨aJ,aK,aG,e,h2,h3,h4,h5,h6⟩:Z1 B wr _ (f::fs.drop (k+1)):=by
   have:=h.rest
   rwa [List.drop_eq_getElem_cons (Ll hk),(List.getElem?_eq_some_iff.1 hk).2] at this
  simp at e
  rw [e.2.2]
  exact h6.below (aA.mono hBA)
 ·rw [List.nodup_cons]
  refine ⟨fun e=>?_,?_⟩
  ·rw [List.mem_append,List.mem_append] at e
   rcases e with e|e|e
   ·exact aE _ e rfl
   ·exact aB _ e rfl
   ·exact aC _ e rfl
  ·have one:∀ l:List Nat,l.length<=1->l.Nodup:=fun l hl=>by
    match l,hl with
    | [],_=>simp
    | [a],_=>simp
   rw [List.nodup_append]
   refine ⟨aF.2,?_,fun a ha b hb e=>?_⟩
   ·rw [List.nodup_append]
    exact ⟨one _ hl2,one _ hs2,fun a ha b hb e=>by have:=aH a ha;have:=hs1 b hb;omega⟩
   ·have h1:=hF a ha
    rw [List.mem_append] at hb
    rcases hb with hb|hb
    ·have:=hl1 b hb;omega
    ·have:=hs1 b hb;omega
 ·intro b hb
  rw [List.mem_cons,List.mem_append,List.mem_append] at hb
  rcases hb with rfl|hb|hb|hb
  ·exact aD
  ·exact h.ge b (by simp [hb])
  ·have:=hl1 b hb;omega
  ·have:=hs1 b hb;omega
def Xd9 (m:Mch) (w:World) (e:Ending) (w':World):Prop:=∃ a c,e=.returned (Xi (σ a m.frames.length c) m)/\Qq w (σ a m.frames.length c) m w'
theorem Ku.vown (h:Ku B A fs fs.length g cap W wr cur csd csr F):Z9 wr (σ (some (π g 0)) fs.length cap) fs (g::F):=by
 have h1:=h.rest
 rw [List.drop_length] at h1
 have h2:csr=[]:=h1
 have h3:=h.done
 rw [List.take_length] at h3
 have h4:=h.take
 rw [h2,List.append_nil] at h4
 exact ⟨csd,F,⟨h.cslen,.inr ⟨g,cap,cur,rfl,Nat.zero_le _,h.row,h.capl,by unfold maxLen;have:=h.capm;omega,h.csize,h4⟩⟩,h3,rfl,h.nodup⟩
theorem Ku.start {cells:List Value} (ho:wr.ownsRow A 129 4 (σ (some (π g 0)) fs.length cap) fs.length cells) (hc:Z1 B wr cells fs) (hb:Below A W wr):∃ aA,Ku B A fs 0 g cap W wr aA [] cells []:=by
 obtain ⟨h1,h2⟩:=ho
 rcases h2 with ⟨h,_⟩|⟨g',aB,aA,he,aC,hg,aD,aE,hs,ht⟩
 ·cases h
 ·simp at he
  obtain ⟨rfl,rfl⟩:=he
  exact ⟨aA,hg,hs,aD,by unfold maxLen at aE;omega,by simpa using ht,⟨rfl,rfl⟩,by simpa using hc,ψ,by simpa using aC,hb,rfl⟩
def Xru (W:World) (g off:Nat) (l:List Int) (wx:World):Prop:=∃ w1 a c F,Below W.heap.size W w1/\Yv w1 (σ a l.length c) l F/\(∀ b∈F,W.heap.size<=b)/\F.length<=1/\wx=w1.setCell (π g off) (σ a l.length c)
theorem Xh9 (m:Mch) (fa:Option Addr) (fc B:Nat) (w:World) (hB:B<=w.heap.size) (hv:Xf B w 4 (Qp B) (σ fa m.frames.length fc) m.frames) (hl:m.frames.length<=1000) (hst:∀ f∈m.frames,f.locals.length<=1000000/\f.stack.length<=1000000) (hne:0<m.frames.length) :
  Calls Tryz.prog 134 #[Xi (σ fa m.frames.length fc) m] w (Xd9 m w):=by
 obtain ⟨fs,req,fuel,compares,idle⟩:=m
 obtain ⟨W,hW⟩:∃ W,W=(w.alloc (χ (Xb (σ fa fs.length fc) ⟨fs,req,fuel,compares,idle⟩) 51)).alloc (χ (Xb ν Xl) 51):=⟨_,rfl⟩
 have bZ:Hid (Below w.heap.size w W):=by rw [hW];exact (Xa _ _).then (Xa _ _)
 have aE:Hid (W.heap.size=w.heap.size+2):=by rw [hW];exact Lh ψ
 have b0:Hid (W.heap[w.heap.size]?=some (χ (Xb (σ fa fs.length fc) ⟨fs,req,fuel,compares,idle⟩) 51 (0,0))):=by
  rw [hW,Ha _ _ _ ψ]
  exact Lh (Hn _ _)
 have b1:Hid (W.heap[w.heap.size+1]?=some (χ (Xb ν Xl) 51 (0,0))):=by
  rw [hW]
  have:=Hn (w.alloc (χ (Xb (σ fa fs.length fc) ⟨fs,req,fuel,compares,idle⟩) 51)) (χ (Xb ν Xl) 51)
  exact Lh (by simpa using this)
 have HV:=Lh (hv.fras (bZ.o.mono hB))
 have cS:B<=W.heap.size:=by have:=aE.o;omega
 have cQ:=Lh hst
 have cW:fs.length<=1000:=hl
 have cY:0<fs.length:=hne
 clear hv hst hl hne
 unfold Xi
 unfold Xb at hW ⊢
 go_enter Tryz.func134,Tryz.ntmps134
 go_upto_region 1 with fail
 unfold Xl at hW
 dsimp only at hW ⊢
 rw [<-hW]
 have HW:=Lh hW
 clear hW
 have c0:=Xe b0.o 0 (σ fa fs.length fc) rfl
 have z0:w.heap.size<W.heap.size:=by have:=aE.o;omega
 go_wp2_with fail
 refine (Xi2 fs _ B W cS HV.o cW).mono ?_
 rintro e w1 ⟨v1,cells,rfl,aM,cE,aW⟩
 obtain ⟨_,_,ga,cap,rfl⟩:=Zs aM
 obtain ⟨g,rfl⟩:∃ g,ga=some (π g 0):=by
  rcases aM.2 with ⟨h,hn⟩|⟨g,c,aI,h,_⟩
  ·omega
  ·simp at h;exact ⟨g,h.1⟩
 have aO:=(aW.block _ z0).trans b0.o
 have c0:=Xe aO 0 (σ fa fs.length fc) rfl
 have f0:w1.frozen? (π w.heap.size 0)=false:=Fz aO
 have eP:=(La aO)
 obtain ⟨w2,aH⟩:∃ u,u=w1.setCell (π w.heap.size 0) (σ (some (π g 0)) fs.length cap):=⟨_,rfl⟩
 have bJ:Below W.heap.size W w2->True:=fun _=>trivial
 have k0:=heap_setCell_same _ w.heap.size 0 _ _ (σ (some (π g 0)) fs.length cap) aO
 rw [Qo,<- aH] at k0
 have K0:=Lh k0
 have dL:g≠w.heap.size:=by
  rcases aM.2 with ⟨h,hn⟩|⟨g',c,aI,h,cA,_⟩
  ·omega
  ·simp at h;omega
 have k1:Hid (w2.heap[w.heap.size+1]?=some (χ (Xb ν Xl) 51 (0,0))):=Lh (by
  rw [aH,heap_setCell_other _ _ _ _ ψ,aW.block _ (by have:=aE.o;omega)]
  exact b1.o)
 have cG:w2.ownsRow W.heap.size 129 4 (σ (some (π g 0)) fs.length cap) fs.length cells:=by
  refine ⟨aM.1,?_⟩
  rcases aM.2 with ⟨h,hn⟩|⟨g',c,aI,h,cA,cU,r⟩
  ·cases h
  ·refine .inr ⟨g',c,aI,h,cA,?_,r⟩
   rw [aH,heap_setCell_other _ _ _ _ (by show g'≠w.heap.size;simp at h;omega)];exact cU
 have cC:Below w.heap.size W w2:=by rw [aH];exact (aW.mono (Nat.le_of_lt z0)).setCell (Nr _) _
 obtain ⟨aI,aV⟩:=Ku.start cG (cE.below (by rw [aH];exact Br.setCell hB _)) (Below.refl W.heap.size w2)
 have bF:=Lh aV
 have bS:=Lh cC
 go_upto_region 2 with fail
 rw [<-aH]
 have dH:=Lh aH
 clear aH aO c0 f0 aM cE aW cG aV cC k0 bJ
 have c0:=Xe K0.o 0 (σ (some (π g 0)) fs.length cap) rfl
 have z2:=(La K0.o)
 go_wp2_with fail
 go_loopg [11] (fs.length+1) (fun gk i wr=>∃ k:Nat,k<=fs.length/\i=ι k/\fs.length - k<gk/\Hid (∃ aI bU bH F,Ku B W.heap.size fs k g cap w2 wr aI bU bH F))
 case atStart=>exact ⟨0,Nat.zero_le _,rfl,ω,Lh ⟨aI,[],cells,[],bF.o⟩⟩
 case round=>
  obtain ⟨k,hk,rfl,dK,hs⟩:=hrel
  obtain ⟨aF,bU,bH,F,hS⟩:=hs.o
  clear hs
  have HS:=Lh hS
  clear hS
  have k0:wr.heap[w.heap.size]?=_:=(HS.o.bel.block _ (by have:=aE.o;omega)).trans K0.o
  have bI:=Xe k0 0 (σ (some (π g 0)) fs.length cap) rfl
  have zw:=(La k0)
  have aG:=Lh k0
  clear k0
  by_cases cF:k<fs.length
  ·obtain ⟨f,hf⟩:∃ f,fs[k]?=some f:=⟨_,Lg cF⟩
   obtain ⟨lv,sv,rest,bM,bP,bQ,dI,dO,cH⟩:Z1 B wr bH (f::fs.drop (k+1)):=by
    have:=HS.o.rest
    rwa [List.drop_eq_getElem_cons cF,(List.getElem?_eq_some_iff.1 hf).2] at this
   subst bM
   have q2:=HS.o.cells 2 lv rfl
   have q3:=HS.o.cells 3 sv rfl
   have cT:∀ j,wr.frozen? (π g j)=false:=fun j=>Fz HS.o.row
   have zg:=(La HS.o.row)
   obtain ⟨la,lc,rfl⟩:=bP.form
   obtain ⟨sa,sc,rfl⟩:=bQ.form
   have cN:=Lh bP
   have cR:=Lh bQ
   have HF:=Lh hf
   have aS:=cQ.o f (Lm hf)
   have dM:(0:Int)<=(k:Int):=In _
   have dN:(k:Int)<(fs.length:Int):=ω
   clear bP bQ hf
   go_upto_region 5 with fail
   have cD:Below wr.heap.size wr wr.drew:=Xh Br 1
   have bA:Hid (Xf B wr.drew 1 Zd (σ la f.locals.length lc) f.locals):=Lh (cN.o.ints (cD.mono (by have:=HS.o.bel.size;have:=bS.o.size;omega)))
   go_cut [3,11] (fun s3 dE wx=>s3=ι (k:Int)/\dE=ι (k:Int)/\Hid (Xru wr g (k*4+2) f.locals wx))
   case first=>
    go_region_with (first|(go_at_call 114;refine (Vc f.locals _ B _ bA.o aS.1).mono ?_;rintro e w3 ⟨a3,c3,F3,rfl,aQ,aP,aX,aB⟩;have dA:=Xc aB (show wr.drew.cell? _=_ from q2);have dC:=Xc aB (show wr.drew.cell? _=_ from q3);have aJ:=Xc aB (show wr.drew.cell? _=_ from bI);have aA:w3.heap[g]?=some (χ aF 129 (0,0)):=((aB.block _ zg).trans HS.o.row);have bN:w3.frozen? (π g (k*4+2))=false:=(Fz aA);have dF:=(La aA);have eQ:=Bl aJ;have cO:=Lh aQ;have cL:=Lh aP;have cJ:=Lh aB;clear aQ aP aB aA))
    all_goals
     go_wp2
     go_meet
     exact ⟨rfl,rfl,Lh ⟨w3,a3,c3,F3,cD.then cJ.o,cO.o,cL.o,aX,rfl⟩⟩
   case rest=>
    obtain ⟨rfl,rfl,aT⟩:=hcut
    obtain ⟨w3,a3,c3,F3,aB,aQ,aP,aX,aN⟩:=aT.o
    have aA:w3.heap[g]?=some (χ aF 129 (0,0)):=(aB.block _ zg).trans HS.o.row
    have aD:wc.heap[g]?=some (χ (aF.setIfInBounds (k*4+2) (σ a3 f.locals.length c3)) 129 (0,0)):=by rw [aN];exact heap_setCell_same _ _ _ _ _ _ aA
    have bE:=Lh aD
    have cV:W.heap.size<=g:=HS.o.ge g ψ
    have bK:Below W.heap.size wr wc:=by rw [aN];exact (aB.mono ω).setCell cV _
    have bV:=(bK.cell (p:=(π w.heap.size 0)) (show w.heap.size<W.heap.size by have:=aE.o;omega)).trans bI
    have dB:wc.cell? (π g (k*4+2))=some (σ a3 f.locals.length c3):=by rw [aN];exact World.cell?_setCell_same _ _ _ (Xc aB q2)
    have dD:wc.cell? (π g (k*4+3))=some (σ sa f.stack.length sc):=by rw [aN,World.cell?_setCell_other _ _ _ _ ψ];exact Xc aB q3
    have dG:=(La aD)
    have eS:=Bl bV
    have bW:B<=W.heap.size:=by have:=aE.o;omega
    have bG:Hid (Xf B wc.drew 1 Zd (σ sa f.stack.length sc) f.stack):=Lh ((cR.o.ints (bK.mono bW)).ints (Xh Br 1))
    have bL:Below wc.heap.size wc wc.drew:=Xh Br 1
    have aY:=Lh aB
    have bD:=Lh aQ
    have aZ:=Lh aP
    have bB:=Lh aX
    have bT:=Lh aN
    clear aB aQ aP aX aN aA aD aT bK q2 q3 bI cT
    go_upto_region 6 with fail
    go_region_with (first|(go_at_call 114;refine (Vc f.stack _ B _ bG.o aS.2).mono ?_;rintro e w4 ⟨a4,c4,F4,rfl,bY,bX,cX,aL⟩;have dA:=Xc aL (show wc.drew.cell? _=_ from dB);have dC:=Xc aL (show wc.drew.cell? _=_ from dD);have aJ:=Xc aL (show wc.drew.cell? _=_ from bV);have aC:w4.heap[g]?=some (χ (aF.setIfInBounds (k*4+2) (σ a3 f.locals.length c3)) 129 (0,0)):=((aL.block _ dG).trans bE.o);have bN:w4.frozen? (π g (k*4+3))=false:=(Fz aC);have dF:=(La aC);have eR:=Bl aJ;have cP:=Lh bY;have cM:=Lh bX;have cK:=Lh aL;clear bY bX aL aC))
    all_goals
     have bR:wc.heap.size=w3.heap.size:=by rw [bT.o];simp
     have cZ:=Lh (Ku.next HF.o HS.o bW aY.o bD.o aZ.o bB.o (w2:=w4) (sv':=σ a4 f.stack.length c4) (by rw [<-bT.o];exact bL.then cK.o) cP.o (fun b hb=>by have:=cM.o b hb;simp at this;omega) cX)
     have dJ:fs.length - (k+1)<gk - 1+0:=ω
     clear bR
     go_wp2_with fail
     go_roundg (gk - 1)
     case measure=>omega
     case rel=>exact ⟨k+1,ω,by go_num,ω,Lh ⟨_,_,_,_,cZ.o⟩⟩
  ·obtain rfl:k=fs.length:=ω
   have cI:=Lh HS.o.vown
   have cB:wr.heap[w.heap.size+1]?=some (χ (Xb ν Xl) 51 (0,0)):=(HS.o.bel.block _ (by have:=aE.o;omega)).trans k1.o
   have HR:=Lh cB
   clear cB
   have rc:∀ (j:Nat) (v:Value),(Xb ν Xl)[j]?=some v->wr.cell? (π (w.heap.size+1) j)=some v:=fun j v hv=>Xe HR.o j v hv
   have dX:=rc 0 ν rfl
   have eG:wr.frozen? (π (w.heap.size+1) 0)=false:=Fz HR.o
   have dY:=rc 1 (ι 0) rfl
   have eH:wr.frozen? (π (w.heap.size+1) 1)=false:=Fz HR.o
   have dZ:=rc 2 (ι 0) rfl
   have eI:wr.frozen? (π (w.heap.size+1) 2)=false:=Fz HR.o
   have eA:=rc 3 (ι 0) rfl
   have eJ:wr.frozen? (π (w.heap.size+1) 3)=false:=Fz HR.o
   have eB:=rc 4 (ι 0) rfl
   have eK:wr.frozen? (π (w.heap.size+1) 4)=false:=Fz HR.o
   have eC:=rc 5 (ι 0) rfl
   have eL:wr.frozen? (π (w.heap.size+1) 5)=false:=Fz HR.o
   have eD:=rc 6 (ι 0) rfl
   have eM:wr.frozen? (π (w.heap.size+1) 6)=false:=Fz HR.o
   have eE:=rc 7 (ι 0) rfl
   have eN:wr.frozen? (π (w.heap.size+1) 7)=false:=Fz HR.o
   have eF:=rc 8 (ι 0) rfl
   have eO:wr.frozen? (π (w.heap.size+1) 8)=false:=Fz HR.o
   have rz:=(La HR.o)
   have dP:=Xe aG.o 1 (ι req.kind) rfl
   have dQ:=Xe aG.o 2 (ι req.node) rfl
   have dR:=Xe aG.o 3 (ι req.field) rfl
   have dS:=Xe aG.o 4 (ι req.value) rfl
   have dT:=Xe aG.o 5 (ι req.fault) rfl
   have dU:=Xe aG.o 6 (ι fuel) rfl
   have dV:=Xe aG.o 7 (ι compares) rfl
   have dW:=Xe aG.o 8 (ι idle) rfl
   have aK:=Lh (Xz HR.o (σ (some (π g 0)) fs.length cap) ⟨fs,req,fuel,compares,idle⟩)
   have bO:=HS.o.ge
   have aR:=HS.o.bel
   have bC:Hid (Qq w (σ (some (π g 0)) fs.length cap) ⟨fs,req,fuel,compares,idle⟩ (Yp wr (w.heap.size+1) (σ (some (π g 0)) fs.length cap) ⟨fs,req,fuel,compares,idle⟩)):=Lh ⟨g::F,cI.o.keep (fun b hb=>aK.o.2.block b (cI.o.lt b hb) (fun e=>by
     have h1:=bO b hb
     have h2:=aE.o
     rw [List.mem_singleton] at e
     omega)),fun b hb=>by
      have h1:=bO b hb
      have h2:=aE.o
      omega,by
      have h1:Below w.heap.size w wr:=(bZ.o.trans bS.o).trans (aR.mono (by have:=aE.o;omega))
      exact h1.trans (aK.o.2.below (fun b hb=>by simp at hb;omega) h1.size)⟩
   clear rc bO aR
   go_wp2_with fail
   have aU:Xd9 ⟨fs,req,fuel,compares,idle⟩ w (.returned (Xi (σ (some (π g 0)) fs.length cap) ⟨fs,req,fuel,compares,idle⟩)) (Yp wr (w.heap.size+1) (σ (some (π g 0)) fs.length cap) ⟨fs,req,fuel,compares,idle⟩):=⟨_,_,rfl,bC.o⟩
   exact bodyPost_ret (Xn (p:=2) rfl aK.o.1 _ rfl) rfl aU
