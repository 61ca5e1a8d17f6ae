import Derived.Test.YtiejafonjemioaaGreatDoorLsc
import Derived.Test.YtiejafonjemioaaGreatDoorInv
set_option maxHeartbeats 4000000
set_option maxRecDepth 100000
set_option linter.unusedVariables false
set_option linter.unusedSimpArgs false
open Go.Value renaming slice→σ
open Go.Obj renaming cells→χ
namespace Go.Proofs.YtiejafonjemioaaGreatDoor
open Go.RowKit
theorem t_open {s:Thr} {sv:Value} {B:Nat} {w:World} (hB:B<=w.heap.size) (hs:Xsd B w sv s) :
  ∃ (ga:Option Addr) (gc:Nat) (ma:Option Addr) (mc:Nat) (ra:Option Addr) (rc:Nat) (na:Option Addr) (nc:Nat) (ca:Option Addr) (cc:Nat) (oa:Option Addr) (oc:Nat) (ba:Option Addr) (bc:Nat) (ea:Option Addr) (ec:Nat) (W:World),
   sv=.agg (Bt ga gc ma mc ra rc na nc ca cc oa oc ba bc ea ec s)/\
   W=w.alloc (χ (Bt ga gc ma mc ra rc na nc ca cc oa oc ba bc ea ec s) 34)/\
   Hid (∀ V,Below W.heap.size W V->V.heap[w.heap.size]?=some (χ (Bt ga gc ma mc ra rc na nc ca cc oa oc ba bc ea ec s) 34 (0,0))/\Xsd B V (.agg (Bt ga gc ma mc ra rc na nc ca cc oa oc ba bc ea ec s)) s/\Below w.heap.size w V/\B<=V.heap.size):=by
 obtain ⟨ga,gc,ma,mc,ra,rc,na,nc,ca,cc,oa,oc,ba,bc,ea,ec,rfl⟩:=hs.open_
 refine ⟨ga,gc,ma,mc,ra,rc,na,nc,ca,cc,oa,oc,ba,bc,ea,ec,_,rfl,rfl,Lh (fun V hV=>?_)⟩
 have hb:=(Xa w _).then hV
 exact ⟨(hV.block _ ψ).trans (Hn _ _),hs.below (hb.mono hB),hb,Nt hB hb.size⟩
theorem isB_en {c:Cod} {s:Thr} (h:Xse c s) {t:Nat} {m:Mch} {l:List Cal} (hm:s.running[t]?=some m) (hl:s.calls[t]?=some l):(decide (0<l.length) || !Xsm m)=enB s t:=by
 obtain ⟨m',n,l',r,b,e,h1,h2,h3,h4,h5,h6,h7⟩:=h.at_ (Ll hm)
 rw [hm] at h1
 cases h1
 unfold enB
 rw [hm,hl]
 dsimp only
 rw [Bool.or_comm]
 congr 1
 rcases h7.head with ⟨hi,-⟩|⟨hi,hv,ha,-⟩
 ·rw [hi,Xub hi];rfl
 ·rw [hi]
  rcases hv.body with ⟨hf,he⟩|⟨hf,-⟩
  ·exfalso
   have:=Xty ha
   unfold Qx at he
   simp [this.1,this.2] at he
  ·have:0<m.frames.length:=Nat.pos_of_ne_zero (fun h=>hf (List.length_eq_zero_iff.1 h))
   simp [this]
theorem rIs_any {c:Cod} (s:Thr) (hv:Xse c s) (sv:Value) (t:Nat) (B:Nat) (w:World) (hB:B<=w.heap.size) (hs:Xsd B w sv s) (ht:t<s.running.length) :
  Calls Tryz.prog 65 #[sv,ι t] w fun e w'=>e=.returned (.bool (enB s t))/\Below w.heap.size w w':=by
 obtain ⟨ga,gc,ma,mc,ra,rc,na,nc,ca,cc,oa,oc,ba,bc,ea,ec,W,rfl,hW,HK⟩:=t_open hB hs
 obtain ⟨m,hm⟩:∃ m,s.running[t]?=some m:=⟨_,Lg ht⟩
 obtain ⟨l,hl⟩:∃ l,s.calls[t]?=some l:=⟨_,Lg (by rw [hv.calls];exact ht)⟩
 have HE:=Lh (isB_en hv hm hl)
 obtain ⟨aA,aF,hb,aD⟩:=HK.o W Br
 obtain ⟨-,-,pr,-,pc,-⟩:=aF.parts
 obtain ⟨rb,ro,rfl,aH,hE⟩:=pr.nth hm
 obtain ⟨cb,co,rfl,aG,lv,kl,l4⟩:=pc.nth hl
 obtain ⟨la,lc,rfl⟩:=l4.fm
 obtain ⟨uv,u4,k0,k1,k2,k3,k4,k5,k6,k7,k8,-⟩:=hE.nine
 obtain ⟨ua,uc,rfl⟩:=u4.fm
 rw [Nat.mul_one] at kl
 obtain ⟨⟨x0,x1,x2,x3,x4,x5,x6,x7,x8,x9⟩,-,xz⟩:=ten aA
 have HU:=Lh (And.intro u4 (And.intro hb aD))
 have i0:(0:Int)<=(t:Int):=In _
 have i1:(t:Int)<(s.running.length:Int):=ω
 have i2:(t:Int)<(s.calls.length:Int):=by rw [hv.calls];omega
 have zr:=Bl k0
 have zl:=Bl kl
 clear aA aF hb aD pr pc aH hE aG l4 u4 hs hv hm hl ht
 by_cases h0:0<l.length
 ·have d:decide (0<(l.length:Int))=true:=decide_eq_true ω
  have d2:decide (0<l.length)=true:=by simpa using h0
  go_enter Tryz.func65,Tryz.ntmps65
  go_upto_region 1 with fail
  rw [<-hW]
  clear hW
  go_wp2
  go_ret
  exact ⟨by rw [<-HE.o,d2];rfl,HU.o.2.1⟩
 ·have d:decide (0<(l.length:Int))=false:=decide_eq_false ω
  have d2:decide (0<l.length)=false:=by simpa using h0
  go_enter Tryz.func65,Tryz.ntmps65
  go_upto_region 1 with fail
  rw [<-hW]
  clear hW
  go_wp2_with fail
  refine (X3t m _ B _ HU.o.2.2 HU.o.1).mono ?_
  rintro e1 w1 ⟨rfl,aE⟩
  have HF:=Lh (HU.o.2.1.then aE)
  have aB:=HE.o
  rw [d2] at aB
  have aC:=Lh aB
  clear aE aB
  cases hi:Xsm m
  all_goals
   rw [hi] at aC
   clear hi k0 k1 k2 k3 k4 k5 k6 k7 k8 kl x0 x1 x2 x3 x4 x5 x6 x7 x8 x9 xz zr zl
   go_wp2
   go_ret
   exact ⟨by rw [<-aC.o];rfl,HF.o⟩
theorem rEnabled_any {c:Cod} (s:Thr) (hv:Xse c s) (sv:Value) (B:Nat) (w:World) (hB:B<=w.heap.size) (hs:Xsd B w sv s) :
  Calls Tryz.prog 23 #[sv] w fun e w'=>Below w.heap.size w w'/\∃ v,e=.returned v/\Xf w'.heap.size w' 1 Zd v (enK s s.running.length):=by
 obtain ⟨ga,gc,ma,mc,ra,rc,na,nc,ca,cc,oa,oc,ba,bc,ea,ec,W,rfl,hW,HK⟩:=t_open hB hs
 have HV:=Lh hv
 have h8:=hv.eight
 have aI:Hid (X2b s W 0 ν (fun _=>0) W):=Lh ⟨⟨V3.nil _ _ _ _ _,fun n hn=>by simp [enK] at hn⟩,Chg.of_below Br δ,fun _ _=>rfl⟩
 obtain ⟨aB,-,-,-⟩:=HK.o W Br
 obtain ⟨⟨x0,x1,x2,x3,x4,x5,x6,x7,x8,x9⟩,-,xz⟩:=ten aB
 clear hv hs aB
 go_enter Tryz.func23,Tryz.ntmps23
 go_upto_region 1 with fail
 rw [<-hW]
 clear hW
 go_wp2_with fail
 clear x0 x1 x2 x3 x4 x5 x6 x7 x8 x9 xz
 go_loopw [3,4] (fun v i wr=>∃ (k:Nat) (a:Option Addr) (n cap:Nat),k<=s.running.length/\n<=k/\v=σ a n cap/\i=ι k/\Hid (n=(enK s k).length/\∃ c,X2b s W k (σ a n cap) c wr)) (fun _ i _=>s.running.length - (intOf i).toNat)
 case atStart=>exact ⟨0,none,0,0,Nat.zero_le _,Nr _,rfl,rfl,Lh ⟨rfl,_,aI.o⟩⟩
 case round=>
  obtain ⟨k,a,n,cap,hk,aR,rfl,rfl,aE⟩:=hrel
  obtain ⟨hn,c,aE⟩:=aE.o
  have HN:=Lh hn
  have HSt:=Lh aE
  clear aE hn
  have aC:Hid (Below W.heap.size W wr):=Lh (HSt.o.chg.below (B:=W.heap.size) (fun _ _=>rfl) (Nr _))
  obtain ⟨aB,-,-,-⟩:=HK.o wr aC.o
  obtain ⟨⟨x0,x1,x2,x3,x4,x5,x6,x7,x8,x9⟩,-,xz⟩:=ten aB
  clear aB
  by_cases aL:k<s.running.length
  ·have d:decide (k<s.running.length)=true:=by simpa using aL
   go_wp2_with fail
   refine (rIs_any s HV.o _ k B wr (HK.o wr aC.o).2.2.2 (HK.o wr aC.o).2.1 aL).mono ?_
   rintro e w3 ⟨rfl,aJ⟩
   have aA:=Lh aJ
   clear x0 x1 x2 x3 x4 x5 x6 x7 x8 x9 xz aJ
   cases aD:enB s k with
   | true=>
    have HE:=Lh aD
    clear aD
    have HI:Hid (Xsp (w3.alloc (χ #[ι (k:Int)] 3)) c 1 (σ a n cap) (enK s k)):=Lh (HSt.o.row.keep (T:=NO) (Chg.of_below (aA.o.then (Xa _ _)) (no 0)) (no _))
    have HH:Hid (∀ b,(w3.alloc (χ #[ι (k:Int)] 3)).heap.size<=b->c b=0):=Lh (fun b hb=>HSt.o.hi b (by have:=aA.o.size;simp at hb;omega))
    have HC:Hid ((w3.alloc (χ #[ι (k:Int)] 3)).cell? (π w3.heap.size 0)=some (ι (k:Int))):=Lh (Y5 w3 _ _ 0)
    have aQ:Hid (n<=1000000):=Lh ω
    have aP:Hid (in64 (k:Int)):=Lh (by unfold in64;omega)
    go_upto_region 4 with ((with_reducible refine X02 rfl (.tmp 15) (.tmp 17) rfl (c:=c) a n cap (enK s k) rfl HN.o HI.o w3.heap.size (k:Int) rfl HC.o aP.o aQ.o HH.o ?_);intro g aG w5 c5 hI hC aK;have aO:=Lh hI;have aM:=Lh hC;have aN:=Lh aK;clear hI hC aK)
    have aF:Hid (X2b s W (k+1) (σ (some (π g 0)) (n+1) aG) c5 w5):=Lh ⟨by rw [Xzx HE.o];exact aO.o,HSt.o.chg.trans ((Chg.of_below (aA.o.then (Xa _ _)) δ).trans aM.o),aN.o⟩
    go_wp2
    go_roundw
    case rel=>exact ⟨k+1,_,n+1,_,ω,ω,rfl,by go_num,Lh ⟨by rw [Xzx HE.o,List.length_append,HN.o];rfl,_,aF.o⟩⟩
    case measure=>simp [intOf];omega
   | false=>
    have HE:=Lh aD
    clear aD
    have aF:Hid (X2b s W (k+1) (σ a n cap) c w3):=Lh (by
     have h:=HSt.o
     exact ⟨by rw [X1h HE.o];exact h.row.keep (T:=NO) (Chg.of_below aA.o (no 0)) (no _),h.chg.trans (Chg.of_below aA.o δ),fun b hb=>h.hi b (Nt aA.o.size hb)⟩)
    go_wp2
    go_roundw
    case rel=>exact ⟨k+1,_,n,_,ω,ω,rfl,by go_num,Lh ⟨by rw [X1h HE.o,HN.o],_,aF.o⟩⟩
    case measure=>simp [intOf];omega
  ·obtain rfl:k=s.running.length:=ω
   have aH:Hid (Below w.heap.size w wr/\∃ v,Ending.returned (σ a n cap)=.returned v/\Xf wr.heap.size wr 1 Zd v (enK s s.running.length)):=Lh ⟨(HK.o wr aC.o).2.2.1,_,rfl,HSt.o.row.reads⟩
   go_wp2
   go_ret
   exact aH.o
