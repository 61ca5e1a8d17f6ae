import Derived.Test.YtiejafonjemioaaGreatDoorTh3
import Derived.Test.YtiejafonjemioaaGreatDoorReg
set_option maxHeartbeats 8000000
set_option maxRecDepth 100000
set_option linter.unusedVariables false
set_option linter.unusedSimpArgs false
open Go.Value renaming slice→σ
open Go.Obj renaming cells→χ
namespace Go.Proofs.YtiejafonjemioaaGreatDoor
open Go.RowKit
variable {L:List (Addr×Value)} {w w':World} {a:Addr} {v cv sv:Value} {c:Cod} {s:Thr} {B:Nat}
theorem X1d (m:Mch) (fv:Value) (B:Nat) (w:World) (hf:Xf B w 4 (Qp B) fv m.frames):Calls Tryz.prog 127 #[.agg (Xb fv m)] w fun e w'=>e=.returned (.bool (Xsm m))/\Below w.heap.size w w':=by
 obtain ⟨fa,fc,rfl⟩:=hf.fm
 clear hf
 obtain ⟨fs,⟨kind,node,field,value,fault⟩,fuel,compares,idle⟩:=m
 obtain ⟨n,hn⟩:∃ n,n=fs.length:=⟨_,rfl⟩
 have HI:Hid (Xsm ⟨fs,⟨kind,node,field,value,fault⟩,fuel,compares,idle⟩=(decide (n=0) && (decide (kind=0/\node=0/\field=0/\value=0/\fault=0) && (decide (fuel=0) && (decide (compares=0) && decide (idle=0)))))):=Lh (by
  unfold Xsm
  rw [hn]
  cases fs<;>simp)
 unfold Xb
 dsimp only
 rw [<-hn]
 clear hn
 by_cases h0:n=0
 by_cases h1:kind=0
 by_cases h2:node=0
 by_cases h3:field=0
 by_cases h4:value=0
 by_cases h5:fault=0
 by_cases h6:fuel=0
 by_cases h7:compares=0
 by_cases h8:idle=0
 all_goals
  try have d:=beq_false_of_ne ‹¬_=_›
  try have d0:((n:Int) == 0)=false:=by simp [h0]
  try subst h0
  try subst h1
  try subst h2
  try subst h3
  try subst h4
  try subst h5
  try subst h6
  try subst h7
  try subst h8
  go_enter Tryz.func127,Tryz.ntmps127
  go_wp2
  go_ret
  exact ⟨by rw [HI.o];simp [*],Xa _ _⟩
def Xth (L:List (Addr×Value)) (w:World):Prop:=∀ (j:Nat) p,L[j]?=some p->w.cell? p.1=some p.2
theorem Xth.get (h:Xth L w) (j:Nat) (hj:L[j]?=some (a,v)):w.cell? a=some v:=h j (a,v) hj
theorem Xth.keep (h:Xth L w) (hb:Below w.heap.size w w'):Xth L w':=fun j p hp=>Xc hb (h j p hp)
theorem Xth.nil :Xth [] w:=fun j p h=>by simp at h
theorem Xth.cons (h:w.cell? a=some v) (hL:Xth L w):Xth ((a,v)::L) w:=fun j p hp=>by
 cases j with
 | zero=>simp at hp;subst hp;exact h
 | succ j=>exact hL j p (by simpa using hp)
theorem Xzp:Zn 130:=fun _ _=>by kernel_rfl
theorem X1b (c:Cod) (fa qa:Option Addr) (fc qc:Nat) (x:Cal) (xv:Value) (B b:Nat) (w:World) (hB:B<=w.heap.size) (hx:J8 B w xv x) (hc:Yj B w (.agg (Bc fa fc qa qc c)) c) (h0:Xo w b [σ fa c.fields.length fc,ι c.globals,σ qa c.funcs.length qc]) :
  Calls Tryz.prog 130 #[xv,.pointer (some (π b 0))] w fun e w'=>e=.returned (.bool (!(Yd c x 0 == 0)))/\Below w.heap.size w w':=by
 have HC:=Lh hc
 have HX:=Lh hx
 obtain ⟨av,rfl,aB,-⟩:=hx
 obtain ⟨xa,xc,rfl⟩:=aB.fm
 have q0:=(h0.alloc (χ #[.string x.proc,σ xa x.args.length xc] 80)) 0 _ rfl
 have q1:=(h0.alloc (χ #[.string x.proc,σ xa x.args.length xc] 80)) 1 _ rfl
 have q2:=(h0.alloc (χ #[.string x.proc,σ xa x.args.length xc] 80)) 2 _ rfl
 clear hc aB h0
 go_enter Tryz.func130,Tryz.ntmps130
 go_wp2_with fail
 refine (Xw5 c _ x _ B _ φ (HC.o.below ((Xa _ _).mono hB)) (HX.o.below ((Xa _ _).mono hB))).mono ?_
 rintro e w1 ⟨rfl,hb⟩
 have aA:=Yi hb
 cases hg:(Yd c x 0 == 0) with
 | true=>
  have hz:Yd c x 0=0:=by simpa using hg
  have HG:Hid ((!(Yd c x 0 == 0))=false):=Lh (by rw [hg];rfl)
  rw [hz]
  clear hz hg
  go_wp2
  go_ret
  exact ⟨by rw [HG.o];rfl,aA⟩
 | false=>
  have d:(Yd c x 0 != 0)=true:=by simpa using hg
  have HG:Hid ((!(Yd c x 0 == 0))=true):=Lh (by rw [hg];rfl)
  clear hg
  go_wp2
  go_ret
  exact ⟨by rw [HG.o];rfl,aA⟩
def Xvv (m:Mch):Nat:=if Xsm m then 0 else 1
def Xuw (c:Cod) (m:Mch) (n:Int):Prop:=(Xsm m=true/\n=0)\/(Xsm m=false/\Yf c m/\Xsi m=true/\0<=n/\n<=1099511627776)
structure Xu3 (c:Cod) (s:Thr) (m:Mch) (n:Int) (l:List Cal) (r:List Xr7) (b e:List Int):Prop where
 head:Xuw c m n
 ends:e.length=r.length
 begins:b.length=r.length+Xvv m
 ops:l.length+r.length+Xvv m<=2000
 timed:V5 b e (-1) s.step=true
 right:l.any (fun x=>!(Yd c x 0 == 0))=false
def HeldC (w:World):List (Addr×Value)->Prop
 | []=>True
 | (a,v)::L=>w.cell? a=some v/\HeldC w L
theorem Xth.all (h:Xth L w):HeldC w L:=by
 induction L with
 | nil=>trivial
 | cons p L ih=>
  obtain ⟨a,v⟩:=p
  exact ⟨h.get 0 rfl,ih (fun j q hq=>h (j+1) q (by simpa using hq))⟩
theorem ct_open (hB:B<=w.heap.size) (hc:Yj B w cv c) (hs:Xsd B w sv s) :
  ∃ (fa:Option Addr) (fc:Nat) (qa:Option Addr) (qc:Nat) (ga:Option Addr) (gc:Nat) (ma:Option Addr) (mc:Nat) (ra:Option Addr) (rc:Nat) (na:Option Addr) (nc:Nat) (ca:Option Addr) (cc:Nat) (oa:Option Addr) (oc:Nat) (ba:Option Addr) (bc:Nat) (ea:Option Addr) (ec:Nat) (W:World) (L:List (Addr×Value)),
   cv=.agg (Bc fa fc qa qc c)/\sv=.agg (Bt ga gc ma mc ra rc na nc ca cc oa oc ba bc ea ec s)/\W=(w.alloc (χ (Bc fa fc qa qc c) 25)).alloc (χ (Bt ga gc ma mc ra rc na nc ca cc oa oc ba bc ea ec s) 34)/\Hid (Below w.heap.size w W)/\Hid (Xth L W)/\Hid (∀ V,Xth L V->V.cell? (π w.heap.size 0)=some (σ fa c.fields.length fc)/\V.cell? (π w.heap.size 1)=some (ι c.globals)/\V.cell? (π w.heap.size 2)=some (σ qa c.funcs.length qc)/\V.cell? (π (w.heap.size+1) 0)=some (σ ga s.mem.globals.length gc)/\V.cell? (π (w.heap.size+1) 1)=some (σ ma s.mem.nodes.length mc)/\V.cell? (π (w.heap.size+1) 2)=some (ι s.fuel)/\V.cell? (π (w.heap.size+1) 3)=some (σ ra s.running.length rc)/\V.cell? (π (w.heap.size+1) 4)=some (σ na s.nodes.length nc)/\V.cell? (π (w.heap.size+1) 5)=some (σ ca s.calls.length cc)/\V.cell? (π (w.heap.size+1) 6)=some (σ oa s.results.length oc)/\V.cell? (π (w.heap.size+1) 7)=some (σ ba s.begins.length bc)/\V.cell? (π (w.heap.size+1) 8)=some (σ ea s.ends.length ec)/\V.cell? (π (w.heap.size+1) 9)=some (ι s.step)/\True)/\Hid (Yj B W (.agg (Bc fa fc qa qc c)) c)/\Hid (Xsd B W (.agg (Bt ga gc ma mc ra rc na nc ca cc oa oc ba bc ea ec s)) s)/\Hid (B<=W.heap.size)/\Hid (W.heap.size=w.heap.size+2):=by
 have aC:=Lh hc
 have aD:=Lh hs
 obtain ⟨ga,gc,ma,mc,ra,rc,na,nc,ca,cc,oa,oc,ba,bc,ea,ec,rfl⟩:=hs.open_
 obtain ⟨aG,aH,rfl,aE,aF,-⟩:=hc
 obtain ⟨fa,fc,rfl⟩:=aE.fm
 obtain ⟨qa,qc,rfl⟩:=aF.fm
 obtain ⟨W,hW⟩:∃ W,W=(w.alloc (χ (Bc fa fc qa qc c) 25)).alloc (χ (Bt ga gc ma mc ra rc na nc ca cc oa oc ba bc ea ec s) 34):=⟨_,rfl⟩
 have aA:Hid (Below w.heap.size w W):=by rw [hW];exact Lh ((Xa _ _).then (Xa _ _))
 have b0:Xo W w.heap.size [σ fa c.fields.length fc,ι c.globals,σ qa c.funcs.length qc]:=by rw [hW];exact Xd.alloc _
 have b1:Xo W (w.heap.size+1) [σ ga s.mem.globals.length gc,σ ma s.mem.nodes.length mc,ι s.fuel,σ ra s.running.length rc,σ na s.nodes.length nc,σ ca s.calls.length cc,σ oa s.results.length oc,σ ba s.begins.length bc,σ ea s.ends.length ec,ι s.step]:=by
  rw [hW]
  have:=@Xd (w.alloc (χ (Bc fa fc qa qc c) 25)) (Bt ga gc ma mc ra rc na nc ca cc oa oc ba bc ea ec s) 34
  simpa using this
 obtain ⟨L,aB⟩:∃ L:List (Addr×Value),L=[((π w.heap.size 0),σ fa c.fields.length fc),((π w.heap.size 1),ι c.globals),((π w.heap.size 2),σ qa c.funcs.length qc),((π (w.heap.size+1) 0),σ ga s.mem.globals.length gc),((π (w.heap.size+1) 1),σ ma s.mem.nodes.length mc),((π (w.heap.size+1) 2),ι s.fuel),((π (w.heap.size+1) 3),σ ra s.running.length rc),((π (w.heap.size+1) 4),σ na s.nodes.length nc),((π (w.heap.size+1) 5),σ ca s.calls.length cc),((π (w.heap.size+1) 6),σ oa s.results.length oc),((π (w.heap.size+1) 7),σ ba s.begins.length bc),((π (w.heap.size+1) 8),σ ea s.ends.length ec),((π (w.heap.size+1) 9),ι s.step)]:=⟨_,rfl⟩
 have H0:Hid (Xth L W):=by rw [aB];exact Lh (.cons (b0 0 _ rfl) <| .cons (b0 1 _ rfl) <| .cons (b0 2 _ rfl) <| .cons (b1 0 _ rfl) <| .cons (b1 1 _ rfl) <| .cons (b1 2 _ rfl) <| .cons (b1 3 _ rfl) <| .cons (b1 4 _ rfl) <| .cons (b1 5 _ rfl) <| .cons (b1 6 _ rfl) <| .cons (b1 7 _ rfl) <| .cons (b1 8 _ rfl) <| .cons (b1 9 _ rfl) <| Xth.nil)
 exact ⟨_,_,_,_,_,_,_,_,_,_,_,_,_,_,_,_,_,_,_,_,W,L,rfl,rfl,hW,aA,H0,Lh (fun V h=>by rw [aB] at h;exact h.all),Lh (aC.o.below (aA.o.mono hB)),Lh (aD.o.below (aA.o.mono hB)),Lh (Nt hB aA.o.size),Lh (by rw [hW];simp)⟩
theorem th_open {t:Nat} {m:Mch} {n:Int} {l:List Cal} {r:List Xr7} {b e:List Int} (hB:B<=w.heap.size) (hc:Yj B w cv c) (hs:Xsd B w sv s)
  (hm:s.running[t]?=some m) (hn:s.nodes[t]?=some n) (hl:s.calls[t]?=some l) (hr:s.results[t]?=some r) (hb:s.begins[t]?=some b) (he:s.ends[t]?=some e) :
  ∃ (fa:Option Addr) (fc:Nat) (qa:Option Addr) (qc:Nat) (ga:Option Addr) (gc:Nat) (ma:Option Addr) (mc rb ro rc nb no nc cb co cc ob oo oc bb bo bc eb eo ec:Nat) (ua:Option Addr) (uc:Nat) (la:Option Addr) (lc:Nat) (pa:Option Addr) (pc:Nat) (aB:Option Addr) (aC:Nat) (aD:Option Addr) (aE:Nat) (W:World) (L:List (Addr×Value)),
   cv=.agg (Bc fa fc qa qc c)/\sv=.agg #[σ ga s.mem.globals.length gc,σ ma s.mem.nodes.length mc,ι s.fuel,σ (some (π rb ro)) s.running.length rc,σ (some (π nb no)) s.nodes.length nc,σ (some (π cb co)) s.calls.length cc,σ (some (π ob oo)) s.results.length oc,σ (some (π bb bo)) s.begins.length bc,σ (some (π eb eo)) s.ends.length ec,ι s.step]/\W=(w.alloc (χ (Bc fa fc qa qc c) 25)).alloc (χ #[σ ga s.mem.globals.length gc,σ ma s.mem.nodes.length mc,ι s.fuel,σ (some (π rb ro)) s.running.length rc,σ (some (π nb no)) s.nodes.length nc,σ (some (π cb co)) s.calls.length cc,σ (some (π ob oo)) s.results.length oc,σ (some (π bb bo)) s.begins.length bc,σ (some (π eb eo)) s.ends.length ec,ι s.step] 34)/\Hid (Below w.heap.size w W)/\Hid (Xth L W)/\Hid (∀ V,Xth L V->V.cell? (π w.heap.size 0)=some (σ fa c.fields.length fc)/\V.cell? (π w.heap.size 1)=some (ι c.globals)/\V.cell? (π w.heap.size 2)=some (σ qa c.funcs.length qc)/\V.cell? (π (w.heap.size+1) 0)=some (σ ga s.mem.globals.length gc)/\V.cell? (π (w.heap.size+1) 1)=some (σ ma s.mem.nodes.length mc)/\V.cell? (π (w.heap.size+1) 2)=some (ι s.fuel)/\V.cell? (π (w.heap.size+1) 3)=some (σ (some (π rb ro)) s.running.length rc)/\V.cell? (π (w.heap.size+1) 4)=some (σ (some (π nb no)) s.nodes.length nc)/\V.cell? (π (w.heap.size+1) 5)=some (σ (some (π cb co)) s.calls.length cc)/\V.cell? (π (w.heap.size+1) 6)=some (σ (some (π ob oo)) s.results.length oc)/\V.cell? (π (w.heap.size+1) 7)=some (σ (some (π bb bo)) s.begins.length bc)/\V.cell? (π (w.heap.size+1) 8)=some (σ (some (π eb eo)) s.ends.length ec)/\V.cell? (π (w.heap.size+1) 9)=some (ι s.step)/\V.cell? (π rb (ro+t*9))=some (σ ua m.frames.length uc)/\V.cell? (π rb (ro+t*9+1))=some (ι m.req.kind)/\V.cell? (π rb (ro+t*9+2))=some (ι m.req.node)/\V.cell? (π rb (ro+t*9+3))=some (ι m.req.field)/\V.cell? (π rb (ro+t*9+4))=some (ι m.req.value)/\V.cell? (π rb (ro+t*9+5))=some (ι m.req.fault)/\V.cell? (π rb (ro+t*9+6))=some (ι m.fuel)/\V.cell? (π rb (ro+t*9+7))=some (ι m.compares)/\V.cell? (π rb (ro+t*9+8))=some (ι m.idle)/\V.cell? (π nb (no+t))=some (ι n)/\V.cell? (π cb (co+t))=some (σ la l.length lc)/\V.cell? (π ob (oo+t))=some (σ pa r.length pc)/\V.cell? (π bb (bo+t))=some (σ aB b.length aC)/\V.cell? (π eb (eo+t))=some (σ aD e.length aE)/\True)/\Hid (Yj B W (.agg (Bc fa fc qa qc c)) c)/\Hid (Xf B W 4 (Qp B) (σ ua m.frames.length uc) m.frames)/\Hid (r.length<=140737488355328)/\Hid (l.length<=140737488355328)/\Hid (Xf B W 2 (Xsr B) (σ la l.length lc) l)/\Hid (Xf B W 1 Zd (σ aB b.length aC) b)/\Hid (Xf B W 1 Zd (σ aD e.length aE) e)/\Hid (B<=W.heap.size)/\(0:Int)<=(t:Int)/\(t:Int)<(s.running.length:Int)/\(t:Int)<(s.nodes.length:Int)/\(t:Int)<(s.calls.length:Int)/\(t:Int)<(s.results.length:Int)/\(t:Int)<(s.begins.length:Int)/\(t:Int)<(s.ends.length:Int):=by
 obtain ⟨ga,gc,ma,mc,ra,rc,na,nc,ca,cc,oa,oc,ba,bc,ea,ec,rfl⟩:=hs.open_
 obtain ⟨-,-,pr,pn,pc,po,pb,pe,-,aQ⟩:=hs.parts
 have aH:=Lh hc
 obtain ⟨aR,aS,rfl,aO,aP,-⟩:=hc
 obtain ⟨fa,fc,rfl⟩:=aO.fm
 obtain ⟨qa,qc,rfl⟩:=aP.fm
 obtain ⟨rb,ro,rfl,aY,hE⟩:=pr.nth hm
 obtain ⟨uv,u4,k0,k1,k2,k3,k4,k5,k6,k7,k8,-⟩:=hE.nine
 obtain ⟨ua,uc,rfl⟩:=u4.fm
 obtain ⟨nb,no,rfl,aW,kn,-⟩:=pn.nth hn
 obtain ⟨cb,co,rfl,aU,lv,kl,l4⟩:=pc.nth hl
 obtain ⟨la,lc,rfl⟩:=l4.fm
 obtain ⟨ob,oo,rfl,aX,pv,kp,p4⟩:=po.nth hr
 obtain ⟨pa,pc,rfl⟩:=p4.fm
 obtain ⟨bb,bo,rfl,aT,bv,kb,b4⟩:=pb.nth hb
 obtain ⟨aB,aC,rfl⟩:=b4.fm
 obtain ⟨eb,eo,rfl,aV,ev,ke,e4⟩:=pe.nth he
 obtain ⟨aD,aE,rfl⟩:=e4.fm
 rw [Nat.mul_one] at kn kl kp kb ke
 have i0:(0:Int)<=(t:Int):=In _
 have i1:(t:Int)<(s.running.length:Int):=by have:=(Ll hm);omega
 have i2:(t:Int)<(s.nodes.length:Int):=by have:=(Ll hn);omega
 have i3:(t:Int)<(s.calls.length:Int):=by have:=(Ll hl);omega
 have i4:(t:Int)<(s.results.length:Int):=by have:=(Ll hr);omega
 have i5:(t:Int)<(s.begins.length:Int):=by have:=(Ll hb);omega
 have i6:(t:Int)<(s.ends.length:Int):=by have:=(Ll he);omega
 obtain ⟨W,hW⟩:∃ W,W=(w.alloc (χ (Bc fa fc qa qc c) 25)).alloc (χ #[σ ga s.mem.globals.length gc,σ ma s.mem.nodes.length mc,ι s.fuel,σ (some (π rb ro)) s.running.length rc,σ (some (π nb no)) s.nodes.length nc,σ (some (π cb co)) s.calls.length cc,σ (some (π ob oo)) s.results.length oc,σ (some (π bb bo)) s.begins.length bc,σ (some (π eb eo)) s.ends.length ec,ι s.step] 34):=⟨_,rfl⟩
 have aA:Hid (Below w.heap.size w W):=by rw [hW];exact Lh ((Xa _ _).then (Xa _ _))
 have aN:Hid (W.heap.size=w.heap.size+2):=by rw [hW];exact Lh ψ
 have b0:Xo W w.heap.size [σ fa c.fields.length fc,ι c.globals,σ qa c.funcs.length qc]:=by rw [hW];exact Xd.alloc _
 have b1:Xo W (w.heap.size+1) [σ ga s.mem.globals.length gc,σ ma s.mem.nodes.length mc,ι s.fuel,σ (some (π rb ro)) s.running.length rc,σ (some (π nb no)) s.nodes.length nc,σ (some (π cb co)) s.calls.length cc,σ (some (π ob oo)) s.results.length oc,σ (some (π bb bo)) s.begins.length bc,σ (some (π eb eo)) s.ends.length ec,ι s.step]:=by
  rw [hW]
  have:=@Xd (w.alloc (χ (Bc fa fc qa qc c) 25)) #[σ ga s.mem.globals.length gc,σ ma s.mem.nodes.length mc,ι s.fuel,σ (some (π rb ro)) s.running.length rc,σ (some (π nb no)) s.nodes.length nc,σ (some (π cb co)) s.calls.length cc,σ (some (π ob oo)) s.results.length oc,σ (some (π bb bo)) s.begins.length bc,σ (some (π eb eo)) s.ends.length ec,ι s.step] 34
  simpa using this
 obtain ⟨L,aF⟩:∃ L:List (Addr×Value),L=[((π w.heap.size 0),σ fa c.fields.length fc),((π w.heap.size 1),ι c.globals),((π w.heap.size 2),σ qa c.funcs.length qc),((π (w.heap.size+1) 0),σ ga s.mem.globals.length gc),((π (w.heap.size+1) 1),σ ma s.mem.nodes.length mc),((π (w.heap.size+1) 2),ι s.fuel),((π (w.heap.size+1) 3),σ (some (π rb ro)) s.running.length rc),((π (w.heap.size+1) 4),σ (some (π nb no)) s.nodes.length nc),((π (w.heap.size+1) 5),σ (some (π cb co)) s.calls.length cc),((π (w.heap.size+1) 6),σ (some (π ob oo)) s.results.length oc),((π (w.heap.size+1) 7),σ (some (π bb bo)) s.begins.length bc),((π (w.heap.size+1) 8),σ (some (π eb eo)) s.ends.length ec),((π (w.heap.size+1) 9),ι s.step),((π rb (ro+t*9)),σ ua m.frames.length uc),((π rb (ro+t*9+1)),ι m.req.kind),((π rb (ro+t*9+2)),ι m.req.node),((π rb (ro+t*9+3)),ι m.req.field),((π rb (ro+t*9+4)),ι m.req.value),((π rb (ro+t*9+5)),ι m.req.fault),((π rb (ro+t*9+6)),ι m.fuel),((π rb (ro+t*9+7)),ι m.compares),((π rb (ro+t*9+8)),ι m.idle),((π nb (no+t)),ι n),((π cb (co+t)),σ la l.length lc),((π ob (oo+t)),σ pa r.length pc),((π bb (bo+t)),σ aB b.length aC),((π eb (eo+t)),σ aD e.length aE)]:=⟨_,rfl⟩
 have H0:Hid (Xth L W):=by rw [aF];exact Lh (.cons (b0 0 _ rfl) <| .cons (b0 1 _ rfl) <| .cons (b0 2 _ rfl) <| .cons (b1 0 _ rfl) <| .cons (b1 1 _ rfl) <| .cons (b1 2 _ rfl) <| .cons (b1 3 _ rfl) <| .cons (b1 4 _ rfl) <| .cons (b1 5 _ rfl) <| .cons (b1 6 _ rfl) <| .cons (b1 7 _ rfl) <| .cons (b1 8 _ rfl) <| .cons (b1 9 _ rfl) <| .cons (Xc aA.o k0) <| .cons (Xc aA.o k1) <| .cons (Xc aA.o k2) <| .cons (Xc aA.o k3) <| .cons (Xc aA.o k4) <| .cons (Xc aA.o k5) <| .cons (Xc aA.o k6) <| .cons (Xc aA.o k7) <| .cons (Xc aA.o k8) <| .cons (Xc aA.o kn) <| .cons (Xc aA.o kl) <| .cons (Xc aA.o kp) <| .cons (Xc aA.o kb) <| .cons (Xc aA.o ke) <| Xth.nil)
 have HC:=Lh (aH.o.below (aA.o.mono hB))
 have HU:=Lh (u4.fras (aA.o.mono hB))
 have aL:Hid (r.length<=140737488355328):=Lh (by obtain ⟨_,_,_,h,_⟩:=p4;exact h)
 have aI:Hid (l.length<=140737488355328):=Lh (by obtain ⟨_,_,_,h,_⟩:=l4;exact h)
 have aJ:=Lh (l4.cals (aA.o.mono hB))
 have aG:=Lh (b4.ints (aA.o.mono hB))
 have aK:=Lh (e4.ints (aA.o.mono hB))
 have aM:Hid (B<=W.heap.size):=Lh (by have:=aN.o;omega)
 exact ⟨_,_,_,_,_,_,_,_,_,_,_,_,_,_,_,_,_,_,_,_,_,_,_,_,_,_,_,_,_,_,_,_,_,_,_,_,W,L,rfl,rfl,hW,aA,H0,Lh (fun V h=>by rw [aF] at h;exact h.all),HC,HU,aL,aI,aJ,aG,aK,aM,i0,i1,i2,i3,i4,i5,i6⟩
theorem Xv7 (c:Cod) (cv:Value) (s:Thr) (sv:Value) (t:Nat) (m:Mch) (n:Int) (l:List Cal) (r:List Xr7) (b e:List Int) (B:Nat) (w:World) (hL:Qa w) (hB:B<=w.heap.size) (hsm:Zb c) (hc:Yj B w cv c) (hs:Xsd B w sv s)
  (hm:s.running[t]?=some m) (hn:s.nodes[t]?=some n) (hl:s.calls[t]?=some l) (hr:s.results[t]?=some r) (hb:s.begins[t]?=some b) (he:s.ends[t]?=some e) :
  Calls Tryz.prog 97 #[cv,sv,ι t] w fun z w'=>z=.returned (.bool (pB (Xu3 c s m n l r b e)))/\Below w.heap.size w w':=by
 have cA:∀ (fn:Fn) (first cap:Array Value) (w:World),(Instr.makeFunc fn first cap).run Tryz.prog w=.ok (.func fn first cap) w:=fun _ _ _ _=>rfl
 have aU:=Lh hc
 obtain ⟨fa,fc,qa,qc,ga,gc,ma,mc,rb,ro,rc,nb,no,nc,cb,co,cc,ob,oo,oc,bb,bo,bc,eb,eo,ec,ua,uc,la,lc,pa,pc,bV,bW,bX,bY,W,L,rfl,rfl,hW,aB,H0,HS,HC,HU,aY,aV,aW,aT,aX,aF,i0,i1,i2,i3,i4,i5,i6⟩:=th_open hB hc hs hm hn hl hr hb he
 have HL:=Lh (hL.below aB.o)
 clear hL hc hs hm hn hl hr hb he
 obtain ⟨g0,g1,g2,-,-,-,g6,g7,-,-,-,-,-,aN,bC,bD,bE,bF,bG,bH,bI,bJ,aJ,-⟩:=HS.o _ H0.o
 have z0:=Bl g0
 have z6:=Bl g6
 have bQ:=Bl aN
 have aS:=Bl aJ
 go_enter Tryz.func97,Tryz.ntmps97
 go_upto_region 1 with fail
 rw [<-hW]
 have HW:=Lh hW
 clear hW
 go_wp2_with fail
 refine (X1d m _ B _ HU.o).mono ?_
 rintro e1 w1 ⟨rfl,aC⟩
 have H1:=Lh (H0.o.keep aC)
 have B1:=Lh aC
 clear g0 g1 g2 g6 g7 aN bC bD bE bF bG bH bI bJ aJ z0 z6 bQ aS aC
 have SC:Hid (∀ V,Xth L V->Xo V w.heap.size [σ fa c.fields.length fc,ι c.globals,σ qa c.funcs.length qc]):=Lh (fun V h=>by
  obtain ⟨g0,g1,g2,-⟩:=HS.o _ h
  intro j v hj
  match j,hj with
  | 0,hj=>cases hj;exact g0
  | 1,hj=>cases hj;exact g1
  | 2,hj=>cases hj;exact g2)
 go_upto_if 15 with fail
 go_cut [7] (fun s7 wx=>s7=ι (Xvv m:Int)/\Hid (Xth L wx)/\Hid (Below W.heap.size W wx)/\Hid (Xuw c m n))
 case first=>
  cases aG:Xsm m with
  | true=>
   have HR:Hid (Xvv m=0):=Lh (by unfold Xvv;rw [aG];rfl)
   have HI:=Lh aG
   clear aG
   obtain ⟨-,-,-,-,-,-,-,g7,-,-,-,-,-,-,-,-,-,-,-,-,-,-,aJ,-⟩:=HS.o _ H1.o
   have z7:=Bl g7
   have aS:=Bl aJ
   by_cases hn:n=0
   ·subst hn
    go_wp2
    go_meet
    case rel=>exact ⟨by rw [HR.o];rfl,H1,B1,Lh (.inl ⟨HI.o,rfl⟩)⟩
   ·have HF:Hid (pB (Xu3 c s m n l r b e)=false):=Lh (K8 (fun h=>by
     rcases h.head with ⟨-,h⟩|⟨h,-⟩
     ·exact hn h
     ·rw [HI.o] at h;cases h))
    have d:(n != 0)=true:=by simpa using hn
    clear hn
    go_wp2
    go_ret
    exact ⟨by rw [HF.o];rfl,aB.o.then B1.o⟩
  | false=>
   have HR:Hid (Xvv m=1):=Lh (by unfold Xvv;rw [aG];rfl)
   have HI:=Lh aG
   clear aG
   go_upto_region 4 with fail
   go_cut [48] (fun bP wx=>bP=.bool (!pB (Xuw c m n))/\Hid (Xth L wx)/\Hid (Below W.heap.size W wx))
   case first=>
    have aE:=Lh (Xh B1.o 1)
    have aL:=Lh (H0.o.keep aE.o)
    refine Xyo (Xth L) [6,14] κ κ aL.o ?_
    repeat (first|(refine' Xto (Eq.refl false) rfl _ (fun wV aA=>?_) ?_;rotate_left;(replace aA:=HS.o _ aA);go_simp;(try with_reducible rfl);try simp only [Ap])|(refine Xtn rfl ?_;try simp only [Ap]))
    refine Xv9 (Eq.refl true) rfl ?_
    go_simp
    go_at_call 128
    refine (Xer c _ m _ B w1.drew (HL.o.below aE.o) (Nt aF.o aE.o.size) (HC.o.below (aE.o.mono aF.o)) (HU.o.fras (aE.o.mono aF.o)) hsm).mono ?_
    rintro z w2 ⟨rfl,aD⟩
    have H2:=Lh (aL.o.keep aD)
    have B2:=Lh (aE.o.then aD)
    refine ⟨H2.o,?_⟩
    clear aD
    cases hv:pB (Yf c m) with
    | false=>
     have HF:Hid (pB (Xuw c m n)=false):=Lh (K8 (fun h=>by
      rcases h with ⟨h,-⟩|⟨-,h,-⟩
      ·rw [HI.o] at h;cases h
      ·rw [Kh h] at hv;cases hv))
     clear hv
     repeat (first|(refine' Xto (Eq.refl false) rfl _ (fun wV aA=>?_) ?_;rotate_left;(replace aA:=HS.o _ aA);go_simp;(try with_reducible rfl);try simp only [Ap])|(refine Xtn rfl ?_;try simp only [Ap]))
     refine Xxz ?_
     go_wp2
     go_meet
     case rel=>exact ⟨by rw [HF.o];rfl,H2,B2⟩
    | true=>
     have HV:=Lh hv
     clear hv
     repeat (first|(refine' Xto (Eq.refl false) rfl _ (fun wV aA=>?_) ?_;rotate_left;(replace aA:=HS.o _ aA);go_simp;(try with_reducible rfl);try simp only [Ap])|(refine Xtn rfl ?_;try simp only [Ap]))
     refine Xv9 (Eq.refl true) rfl ?_
     go_simp
     go_at_call 70
     refine (Xxg m _ _ _ w2).mono ?_
     rintro z w3 ⟨rfl,aK⟩
     have H3:=Lh (H2.o.keep aK)
     have B3:=Lh (B2.o.then aK)
     refine ⟨H3.o,?_⟩
     clear aK
     by_cases h0:n<0<;>by_cases h1:1099511627776<n<;>cases ha:Xsi m
     all_goals try (exfalso;omega)
     all_goals
      have HF:Hid (pB (Xuw c m n)=(Xsi m && (!decide (n<0) && !decide (1099511627776<n)))):=Lh (by
       by_cases h:Xuw c m n
       ·rw [Kh h]
        rcases h with ⟨h3,-⟩|⟨-,-,h3,h4,h5⟩
        ·rw [HI.o] at h3;cases h3
        ·rw [h3];simp;omega
       ·rw [K8 h]
        have hx:¬(Xsi m=true/\0<=n/\n<=1099511627776):=fun h9=>h (.inr ⟨HI.o,Classical.byContradiction (fun h=>by have:=HV.o;rw [K8 h] at this;cases this),h9⟩)
        rw [ha]
        simp [ha] at hx ⊢
        all_goals omega)
      rw [ha] at HF
      first|have d0:=decide_eq_false h0|have d0:=decide_eq_true h0
      first|have d1:=decide_eq_false h1|have d1:=decide_eq_true h1
      clear ha h0 h1
      repeat (first|(refine' Xto (Eq.refl false) rfl _ (fun wV aA=>?_) ?_;rotate_left;(replace aA:=HS.o _ aA);go_simp;(try with_reducible rfl);try simp only [Ap])|(refine Xtn rfl ?_;try simp only [Ap]))
      refine Xxz ?_
      go_wp2
      go_meet
      case rel=>exact ⟨by rw [HF.o];simp [*],H3,B3⟩
   case rest=>
    obtain ⟨rfl,H4,B4⟩:=hcut
    cases hp:pB (Xuw c m n) with
    | false=>
     have HF:Hid (pB (Xu3 c s m n l r b e)=false):=Lh (K8 (fun h=>by rw [Kh h.head] at hp;cases hp))
     clear hp
     go_wp2
     go_ret
     exact ⟨by rw [HF.o];rfl,aB.o.then B4.o⟩
    | true=>
     have HH:Hid (Xuw c m n):=Lh (Classical.byContradiction fun h=>by rw [K8 h] at hp;cases hp)
     clear hp
     go_wp2
     go_meet
     case rel=>exact ⟨by rw [HR.o];rfl,H4,B4,HH⟩
 case rest=>
  obtain ⟨rfl,H8,B8,HH⟩:=hcut
  have aM:Hid (Xvv m<=1):=Lh (by unfold Xvv;split<;>omega)
  obtain ⟨R,hR⟩:∃ R,R=Xvv m:=⟨_,rfl⟩
  rw [<-hR] at aM ⊢
  have bZ:=aM.o
  have aI:=Lh hR
  obtain ⟨-,-,-,-,-,-,-,-,g8,g9,aZ,bA,bB,-,-,-,-,-,-,-,-,-,-,aO,aP,aQ,aR,-⟩:=HS.o _ H8.o
  have z8:=Bl g8
  have bR:=Bl aO
  have bS:=Bl aP
  have bT:=Bl aQ
  have bU:=Bl aR
  clear hR
  have bL:=aY.o
  have bK:=aV.o
  have bM:IntKind.i64.wrap ((r.length:Int)+(R:Int))=(r.length:Int)+(R:Int):=by rw [IntKind.wrap_i64];omega
  have bN:IntKind.i64.wrap ((l.length:Int)+(r.length:Int))=(l.length:Int)+(r.length:Int):=by rw [IntKind.wrap_i64];omega
  have bO:IntKind.i64.wrap ((l.length:Int)+(r.length:Int)+(R:Int))=(l.length:Int)+(r.length:Int)+(R:Int):=by rw [IntKind.wrap_i64];omega
  by_cases q1:e.length=r.length
  rotate_left
  ·have HF:Hid (pB (Xu3 c s m n l r b e)=false):=Lh (K8 (fun h=>q1 h.ends))
   have d1:((e.length:Int) != (r.length:Int))=true:=by simp only [bne_iff_ne,ne_eq];omega
   have d2:(e.length != r.length)=true:=by simp;exact q1
   clear q1
   go_wp2
   go_ret
   exact ⟨by rw [HF.o];rfl,aB.o.then B8.o⟩
  have d1:((e.length:Int) != (r.length:Int))=false:=by rw [q1];simp
  have d2:(e.length != r.length)=false:=by simp;exact q1
  have Q1:=Lh q1
  clear q1
  by_cases q2:b.length=r.length+R
  rotate_left
  ·have HF:Hid (pB (Xu3 c s m n l r b e)=false):=Lh (K8 (fun h=>q2 (by rw [aI.o];exact h.begins)))
   have d3:((b.length:Int) != (r.length:Int)+(R:Int))=true:=by simp only [bne_iff_ne,ne_eq];omega
   have d4:(b.length != r.length+R)=true:=by simp;exact q2
   clear q2
   go_wp2
   go_ret
   exact ⟨by rw [HF.o];rfl,aB.o.then B8.o⟩
  have d3:((b.length:Int) != (r.length:Int)+(R:Int))=false:=by rw [q2];simp
  have d4:(b.length != r.length+R)=false:=by simp;exact q2
  have Q2:=Lh q2
  clear q2
  by_cases q3:2000<l.length+r.length+R
  ·have HF:Hid (pB (Xu3 c s m n l r b e)=false):=Lh (K8 (fun h=>by have:=h.ops;rw [<-aI.o] at this;omega))
   have d5:decide ((2000:Int)<(l.length:Int)+(r.length:Int)+(R:Int))=true:=by simp only [decide_eq_true_eq];omega
   have d6:decide (2000<l.length+r.length+R)=true:=by simpa using q3
   clear q3
   go_wp2
   go_ret
   exact ⟨by rw [HF.o];rfl,aB.o.then B8.o⟩
  have d5:decide ((2000:Int)<(l.length:Int)+(r.length:Int)+(R:Int))=false:=by simp only [decide_eq_false_iff_not];omega
  have d6:decide (2000<l.length+r.length+R)=false:=by simpa using q3
  have Q3:=Lh q3
  clear q3
  go_upto_region 11 with fail
  clear g8 g9 aZ bA bB aO aP aQ aR z8 bR bS bT bU bM bN bO d1 d2 d3 d4 d5 d6
  have BD:Hid (Below w.heap.size w wc.drew):=Lh (Xh (aB.o.then B8.o) 1)
  have BW:Hid (Below W.heap.size W wc.drew):=Lh (Xh B8.o 1)
  have aH:Hid (Xth L wc.drew):=Lh (H8.o.keep (Xh Br 1))
  refine Xyo (Xth L) [12,20] κ κ aH.o ?_
  repeat (first|(refine' Xto (Eq.refl false) rfl _ (fun wV aA=>?_) ?_;rotate_left;(replace aA:=HS.o _ aA);go_simp;(try with_reducible rfl);try simp only [Ap])|(refine Xtn rfl ?_;try simp only [Ap]))
  refine Xv9 (Eq.refl true) rfl ?_
  go_simp
  go_at_call 129
  refine (X0b b e _ _ s.step B B wc.drew (aT.o.ints (BW.o.mono aF.o)) (aX.o.ints (BW.o.mono aF.o))).mono ?_
  rintro z w2 ⟨rfl,rfl⟩
  refine ⟨aH.o,?_⟩
  cases ht:V5 b e (-1) s.step with
  | false=>
   have HF:Hid (pB (Xu3 c s m n l r b e)=false):=Lh (K8 (fun h=>by rw [h.timed] at ht;cases ht))
   clear ht
   repeat (first|(refine' Xto (Eq.refl false) rfl _ (fun wV aA=>?_) ?_;rotate_left;(replace aA:=HS.o _ aA);go_simp;(try with_reducible rfl);try simp only [Ap])|(refine Xtn rfl ?_;try simp only [Ap]))
   refine Xxz ?_
   go_wp2
   go_ret
   exact ⟨by rw [HF.o];rfl,BD.o⟩
  | true=>
   have HF:Hid (pB (Xu3 c s m n l r b e)=!l.any (fun x=>!(Yd c x 0 == 0))):=Lh (by
    cases ha:l.any (fun x=>!(Yd c x 0 == 0)) with
    | true=>rw [K8 (fun h=>by rw [h.right] at ha;cases ha)];rfl
    | false=>rw [Kh ⟨HH.o,Q1.o,by rw [<-aI.o];exact Q2.o,by rw [<-aI.o];have:=Q3.o;omega,ht,ha⟩];rfl)
   clear ht
   repeat (first|(refine' Xto (Eq.refl false) rfl _ (fun wV aA=>?_) ?_;rotate_left;(replace aA:=HS.o _ aA);go_simp;(try with_reducible rfl);try simp only [Ap])|(refine Xtn rfl ?_;try simp only [Ap]))
   refine Xv9 (Eq.refl true) rfl ?_
   go_simp
   go_at_call 36
   refine (Xtm 130 #[.pointer (some (π w.heap.size 0))] (fun x=>!(Yd c x 0 == 0)) l _ B wc.drew Xzp (Nt hB BD.o.size) (aW.o.cals (BW.o.mono aF.o)) (fun x w1 av aC hx=>X1b c fa qa fc qc x av B w.heap.size w1 (Nt hB (BD.o.then aC).size) hx (aU.o.below ((BD.o.then aC).mono hB)) (SC.o w1 (aH.o.keep aC)))).mono ?_
   rintro z w2 ⟨rfl,aD⟩
   have H9:=Lh (aH.o.keep aD)
   have B9:=Lh (BD.o.then aD)
   refine ⟨H9.o,?_⟩
   clear aD
   repeat (first|(refine' Xto (Eq.refl false) rfl _ (fun wV aA=>?_) ?_;rotate_left;(replace aA:=HS.o _ aA);go_simp;(try with_reducible rfl);try simp only [Ap])|(refine Xtn rfl ?_;try simp only [Ap]))
   refine Xxz ?_
   go_wp2
   go_ret
   exact ⟨by rw [HF.o];rfl,B9.o⟩
structure Xse (c:Cod) (s:Thr):Prop where
 sound:Xv c
 fits:Q7 c s.mem=true
 fuel:0<=s.fuel/\s.fuel<=1048576
 step:0<=s.step/\s.step<=65536
 one:1<=s.running.length
 eight:s.running.length<=8
 nodes:s.nodes.length=s.running.length
 calls:s.calls.length=s.running.length
 results:s.results.length=s.running.length
 begins:s.begins.length=s.running.length
 ends:s.ends.length=s.running.length
 all:∀ (t:Nat) m n l r b e,s.running[t]?=some m->s.nodes[t]?=some n->s.calls[t]?=some l->s.results[t]?=some r->s.begins[t]?=some b->s.ends[t]?=some e->Xu3 c s m n l r b e
theorem Xsc (h:¬Xse c s) (hb:Below w.heap.size w w'):Ending.returned (.bool false)=.returned (.bool (pB (Xse c s)))/\Below w.heap.size w w':=⟨by rw [K8 h],hb⟩
theorem Xt3 (c:Cod) (cv:Value) (s:Thr) (sv:Value) (B:Nat) (w:World) (hL:Qa w) (hB:B<=w.heap.size) (hsm:Zb c) (hc:Yj B w cv c) (hs:Xsd B w sv s) :
  Calls Tryz.prog 60 #[cv,sv] w fun z w'=>z=.returned (.bool (pB (Xse c s)))/\Below w.heap.size w w':=by
 obtain ⟨fa,fc,qa,qc,ga,gc,ma,mc,ra,rc,na,nc,ca,cc,oa,oc,ba,bc,ea,ec,W,L,rfl,rfl,hW,aA,H0,SS,HC,HS,aF,aR⟩:=ct_open hB hc hs
 have HL:=Lh (hL.below aA.o)
 have HM:Hid (MmV B W (.agg (Bm ga gc ma mc s.mem)) s.mem):=Lh ⟨_,_,rfl,HS.o.parts.1,HS.o.parts.2.1⟩
 obtain ⟨g0,g1,g2,g3,g4,g5,g6,g7,g8,g9,aC,aD,aE,-⟩:=SS.o _ H0.o
 have z0:=Bl g0
 have z1:=Bl g3
 clear hL hc hs
 go_enter Tryz.func60,Tryz.ntmps60
 go_upto_region 1 with fail
 rw [<-hW]
 have HW:=Lh hW
 clear hW
 go_wp2_with fail
 refine (Xw2 c _ B W HL.o aF.o HC.o).mono ?_
 rintro e1 w1 ⟨rfl,aI⟩
 have H1:=Lh (H0.o.keep aI)
 have B1:=Lh aI
 clear g0 g1 g2 g3 g4 g5 g6 g7 g8 g9 aC aD aE z0 z1 aI
 obtain ⟨g0,g1,g2,g3,g4,g5,g6,g7,g8,g9,aC,aD,aE,-⟩:=SS.o _ H1.o
 have z0:=Bl g0
 have z1:=Bl g3
 cases aH:Xa2 c with
 | false=>
  have HF:Hid (¬Xse c s):=Lh (fun h=>by rw [Zg h.sound] at aH;cases aH)
  clear aH
  go_wp2
  go_ret
  exact Xsc HF.o (aA.o.then B1.o)
 | true=>
 have aN:=Lh (Xq3.1 aH)
 clear aH
 go_wp2_with fail
 refine (Xxh c _ s.mem _ B w1 (Nt aF.o B1.o.size) (HC.o.below (B1.o.mono aF.o)) (HM.o.below (B1.o.mono aF.o))).mono ?_
 rintro e2 w2 ⟨rfl,aJ⟩
 have H2:=Lh (H1.o.keep aJ)
 have B2:=Lh (B1.o.then aJ)
 clear g0 g1 g2 g3 g4 g5 g6 g7 g8 g9 aC aD aE z0 z1 aJ
 obtain ⟨g0,g1,g2,g3,g4,g5,g6,g7,g8,g9,aC,aD,aE,-⟩:=SS.o _ H2.o
 have z0:=Bl g0
 have z1:=Bl g3
 cases aG:Q7 c s.mem with
 | false=>
  have HF:Hid (¬Xse c s):=Lh (fun h=>by rw [h.fits] at aG;cases aG)
  clear aG
  go_wp2
  go_ret
  exact Xsc HF.o (aA.o.then B2.o)
 | true=>
 have aM:=Lh aG
 clear aG
 by_cases q0:s.fuel<0
 ·have HF:Hid (¬Xse c s):=Lh (fun h=>by have:=h.fuel.1;omega)
  have d0:decide (s.fuel<0)=true:=by simp only [decide_eq_true_eq];exact q0
  clear q0
  go_wp2
  go_ret
  exact Xsc HF.o (aA.o.then B2.o)
 have d0:decide (s.fuel<0)=false:=by simp only [decide_eq_false_iff_not];exact q0
 have Q0:=Lh q0
 clear q0
 by_cases q1:1048576<s.fuel
 ·have HF:Hid (¬Xse c s):=Lh (fun h=>by have:=h.fuel.2;omega)
  have d1:decide (1048576<s.fuel)=true:=by simp only [decide_eq_true_eq];exact q1
  clear q1
  go_wp2
  go_ret
  exact Xsc HF.o (aA.o.then B2.o)
 have d1:decide (1048576<s.fuel)=false:=by simp only [decide_eq_false_iff_not];exact q1
 have Q1:=Lh q1
 clear q1
 by_cases q2:s.step<0
 ·have HF:Hid (¬Xse c s):=Lh (fun h=>by have:=h.step.1;omega)
  have d2:decide (s.step<0)=true:=by simp only [decide_eq_true_eq];exact q2
  clear q2
  go_wp2
  go_ret
  exact Xsc HF.o (aA.o.then B2.o)
 have d2:decide (s.step<0)=false:=by simp only [decide_eq_false_iff_not];exact q2
 have Q2:=Lh q2
 clear q2
 by_cases q3:65536<s.step
 ·have HF:Hid (¬Xse c s):=Lh (fun h=>by have:=h.step.2;omega)
  have d3:decide (65536<s.step)=true:=by simp only [decide_eq_true_eq];exact q3
  clear q3
  go_wp2
  go_ret
  exact Xsc HF.o (aA.o.then B2.o)
 have d3:decide (65536<s.step)=false:=by simp only [decide_eq_false_iff_not];exact q3
 have Q3:=Lh q3
 clear q3
 by_cases q4:s.running.length<1
 ·have HF:Hid (¬Xse c s):=Lh (fun h=>by have:=h.one;omega)
  have d4:decide (s.running.length<1)=true:=by simp only [decide_eq_true_eq];exact q4
  have aO:decide ((s.running.length:Int)<1)=true:=by simp only [decide_eq_true_eq];omega
  clear q4
  go_wp2
  go_ret
  exact Xsc HF.o (aA.o.then B2.o)
 have d4:decide (s.running.length<1)=false:=by simp only [decide_eq_false_iff_not];exact q4
 have aO:decide ((s.running.length:Int)<1)=false:=by simp only [decide_eq_false_iff_not];omega
 have Q4:=Lh q4
 clear q4
 by_cases q5:8<s.running.length
 ·have HF:Hid (¬Xse c s):=Lh (fun h=>by have:=h.eight;omega)
  have d5:decide (8<s.running.length)=true:=by simp only [decide_eq_true_eq];exact q5
  have aP:decide (8<(s.running.length:Int))=true:=by simp only [decide_eq_true_eq];omega
  clear q5
  go_wp2
  go_ret
  exact Xsc HF.o (aA.o.then B2.o)
 have d5:decide (8<s.running.length)=false:=by simp only [decide_eq_false_iff_not];exact q5
 have aP:decide (8<(s.running.length:Int))=false:=by simp only [decide_eq_false_iff_not];omega
 have Q5:=Lh q5
 clear q5
 by_cases p0:s.nodes.length=s.running.length
 rotate_left
 ·have HF:Hid (¬Xse c s):=Lh (fun h=>p0 h.nodes)
  have e0:((s.nodes.length:Int) != (s.running.length:Int))=true:=by simp only [bne_iff_ne,ne_eq];omega
  have f0:(s.nodes.length != s.running.length)=true:=by simp;exact p0
  clear p0
  go_wp2
  go_ret
  exact Xsc HF.o (aA.o.then B2.o)
 have e0:((s.nodes.length:Int) != (s.running.length:Int))=false:=by rw [p0];simp
 have f0:(s.nodes.length != s.running.length)=false:=by rw [p0];simp
 have P0:=Lh p0
 clear p0
 by_cases p1:s.calls.length=s.running.length
 rotate_left
 ·have HF:Hid (¬Xse c s):=Lh (fun h=>p1 h.calls)
  have e1:((s.calls.length:Int) != (s.running.length:Int))=true:=by simp only [bne_iff_ne,ne_eq];omega
  have f1:(s.calls.length != s.running.length)=true:=by simp;exact p1
  clear p1
  go_wp2
  go_ret
  exact Xsc HF.o (aA.o.then B2.o)
 have e1:((s.calls.length:Int) != (s.running.length:Int))=false:=by rw [p1];simp
 have f1:(s.calls.length != s.running.length)=false:=by rw [p1];simp
 have P1:=Lh p1
 clear p1
 by_cases p2:s.results.length=s.running.length
 rotate_left
 ·have HF:Hid (¬Xse c s):=Lh (fun h=>p2 h.results)
  have e2:((s.results.length:Int) != (s.running.length:Int))=true:=by simp only [bne_iff_ne,ne_eq];omega
  have f2:(s.results.length != s.running.length)=true:=by simp;exact p2
  clear p2
  go_wp2
  go_ret
  exact Xsc HF.o (aA.o.then B2.o)
 have e2:((s.results.length:Int) != (s.running.length:Int))=false:=by rw [p2];simp
 have f2:(s.results.length != s.running.length)=false:=by rw [p2];simp
 have P2:=Lh p2
 clear p2
 by_cases p3:s.begins.length=s.running.length
 rotate_left
 ·have HF:Hid (¬Xse c s):=Lh (fun h=>p3 h.begins)
  have e3:((s.begins.length:Int) != (s.running.length:Int))=true:=by simp only [bne_iff_ne,ne_eq];omega
  have f3:(s.begins.length != s.running.length)=true:=by simp;exact p3
  clear p3
  go_wp2
  go_ret
  exact Xsc HF.o (aA.o.then B2.o)
 have e3:((s.begins.length:Int) != (s.running.length:Int))=false:=by rw [p3];simp
 have f3:(s.begins.length != s.running.length)=false:=by rw [p3];simp
 have P3:=Lh p3
 clear p3
 by_cases p4:s.ends.length=s.running.length
 rotate_left
 ·have HF:Hid (¬Xse c s):=Lh (fun h=>p4 h.ends)
  have e4:((s.ends.length:Int) != (s.running.length:Int))=true:=by simp only [bne_iff_ne,ne_eq];omega
  have f4:(s.ends.length != s.running.length)=true:=by simp;exact p4
  clear p4
  go_wp2
  go_ret
  exact Xsc HF.o (aA.o.then B2.o)
 have e4:((s.ends.length:Int) != (s.running.length:Int))=false:=by rw [p4];simp
 have f4:(s.ends.length != s.running.length)=false:=by rw [p4];simp
 have P4:=Lh p4
 clear p4
 go_wp2_with fail
 clear g0 g1 g2 g3 g4 g5 g6 g7 g8 g9 aC aD aE z0 z1
 obtain ⟨N,hN⟩:∃ N,N=s.running.length:=⟨_,rfl⟩
 go_loopw [82] (fun i wr=>∃ k:Nat,k<=s.running.length/\i=ι k/\Hid (Xth L wr)/\Hid (Below W.heap.size W wr)/\Hid (∀ (t:Nat) m n l r b e,t<k->s.running[t]?=some m->s.nodes[t]?=some n->s.calls[t]?=some l->s.results[t]?=some r->s.begins[t]?=some b->s.ends[t]?=some e->Xu3 c s m n l r b e)) (fun i _=>s.running.length - (intOf i).toNat)
 case atStart=>exact ⟨0,Nat.zero_le _,rfl,H2,B2,Lh (fun t m n l r b e h=>by omega)⟩
 case round=>
  obtain ⟨k,hk,rfl,HR,BR,HA⟩:=hrel
  clear hN N
  obtain ⟨g0,g1,g2,g3,g4,g5,g6,g7,g8,g9,aC,aD,aE,-⟩:=SS.o _ HR.o
  have z0:=Bl g0
  have z1:=Bl g3
  by_cases aB:k<s.running.length
  rotate_left
  ·have HF:Hid (pB (Xse c s)=true):=Lh (Kh ⟨aN.o,aM.o,⟨by have:=Q0.o;omega,by have:=Q1.o;omega⟩,⟨by have:=Q2.o;omega,by have:=Q3.o;omega⟩,by have:=Q4.o;omega,by have:=Q5.o;omega,P0.o,P1.o,P2.o,P3.o,P4.o,fun t m n l r b e h1=>HA.o t m n l r b e (by have:=(Ll h1);omega) h1⟩)
   have d:decide (k<s.running.length)=false:=by simp only [decide_eq_false_iff_not];exact aB
   clear aB
   go_wp2
   go_ret
   exact ⟨by rw [HF.o];rfl,aA.o.then BR.o⟩
  obtain ⟨m,hm⟩:∃ x,s.running[k]?=some x:=⟨_,Lg aB⟩
  obtain ⟨n,hn⟩:∃ x,s.nodes[k]?=some x:=⟨_,Lg (by rw [P0.o];exact aB)⟩
  obtain ⟨l,hl⟩:∃ x,s.calls[k]?=some x:=⟨_,Lg (by rw [P1.o];exact aB)⟩
  obtain ⟨r,hr⟩:∃ x,s.results[k]?=some x:=⟨_,Lg (by rw [P2.o];exact aB)⟩
  obtain ⟨b,hb⟩:∃ x,s.begins[k]?=some x:=⟨_,Lg (by rw [P3.o];exact aB)⟩
  obtain ⟨e,he⟩:∃ x,s.ends[k]?=some x:=⟨_,Lg (by rw [P4.o];exact aB)⟩
  have HX:=Lh (And.intro hm (And.intro hn (And.intro hl (And.intro hr (And.intro hb he)))))
  have HK:=Lh aB
  have d:decide (k<s.running.length)=true:=by simp only [decide_eq_true_eq];exact aB
  have aS:(0:Int)<=(k:Int):=In _
  have aT:IntKind.i64.wrap ((k:Int)+1)=(k:Int)+1:=by rw [IntKind.wrap_i64];have:=Q5.o;omega
  clear hm hn hl hr hb he
  go_wp2_with fail
  refine (Xv7 c _ s _ k m n l r b e B wr (HL.o.below BR.o) (Nt aF.o BR.o.size) hsm (HC.o.below (BR.o.mono aF.o)) (HS.o.below (BR.o.mono aF.o)) HX.o.1 HX.o.2.1 HX.o.2.2.1 HX.o.2.2.2.1 HX.o.2.2.2.2.1 HX.o.2.2.2.2.2).mono ?_
  rintro z w3 ⟨rfl,aK⟩
  have H3:=Lh (HR.o.keep aK)
  have B3:=Lh (BR.o.then aK)
  clear g0 g1 g2 g3 g4 g5 g6 g7 g8 g9 aC aD aE z0 z1 aK
  cases hv:pB (Xu3 c s m n l r b e) with
  | false=>
   have HF:Hid (¬Xse c s):=Lh (fun h=>by rw [Kh (h.all k m n l r b e HX.o.1 HX.o.2.1 HX.o.2.2.1 HX.o.2.2.2.1 HX.o.2.2.2.2.1 HX.o.2.2.2.2.2)] at hv;cases hv)
   clear hv
   go_wp2
   go_ret
   exact Xsc HF.o (aA.o.then B3.o)
  | true=>
   have aL:Hid (∀ (t:Nat) m n l r b e,t<k+1->s.running[t]?=some m->s.nodes[t]?=some n->s.calls[t]?=some l->s.results[t]?=some r->s.begins[t]?=some b->s.ends[t]?=some e->Xu3 c s m n l r b e):=Lh (fun t m' n' l' r' b' e' h h1 h2 h3 h4 h5 h6=>by
    by_cases aQ:t=k
    ·subst aQ
     obtain ⟨g1,g2,g3,g4,g5,g6⟩:=HX.o
     obtain rfl:=Option.some.inj (g1.symm.trans h1)
     obtain rfl:=Option.some.inj (g2.symm.trans h2)
     obtain rfl:=Option.some.inj (g3.symm.trans h3)
     obtain rfl:=Option.some.inj (g4.symm.trans h4)
     obtain rfl:=Option.some.inj (g5.symm.trans h5)
     obtain rfl:=Option.some.inj (g6.symm.trans h6)
     exact Xry.1 hv
    ·exact HA.o t m' n' l' r' b' e' ω h1 h2 h3 h4 h5 h6)
   clear hv
   go_wp2
   go_roundw
   case rel=>exact ⟨k+1,ω,by go_num,H3,B3,aL⟩
   case measure=>simp [intOf];omega
