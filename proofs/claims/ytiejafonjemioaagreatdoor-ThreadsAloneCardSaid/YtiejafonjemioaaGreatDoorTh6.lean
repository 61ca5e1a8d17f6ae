import Derived.Test.YtiejafonjemioaaGreatDoorTh3
import Derived.Test.YtiejafonjemioaaGreatDoorTh4
import Derived.Test.YtiejafonjemioaaGreatDoorNxt2
import Derived.Test.YtiejafonjemioaaGreatDoorReg
set_option maxHeartbeats 8000000
set_option maxRecDepth 100000
set_option linter.unusedVariables false
set_option linter.unusedSimpArgs false
namespace Go.Proofs.YtiejafonjemioaaGreatDoor
open Go.RowKit
variable {L:List (Addr×Value)} {w:World} {a:Addr} {v:Value}
theorem X1d (m:Mch) (fv:Value) (B:Nat) (w:World) (hf:Xf B w 4 (Qp B) fv m.frames):Calls Tryz.prog 127 #[.agg (Xb fv m)] w fun e w'=>e=.returned (.bool (Xsm m))∧Below w.heap.size w w':=by
 obtain ⟨fa,fc,rfl⟩:=hf.fm
 clear hf
 obtain ⟨fs,⟨kind,node,field,value,fault⟩,fuel,compares,idle⟩:=m
 obtain ⟨n,hn⟩:∃ n,n=fs.length:=⟨_,rfl⟩
 have HI:Hid (Xsm ⟨fs,⟨kind,node,field,value,fault⟩,fuel,compares,idle⟩=(decide (n=0) && (decide (kind=0∧node=0∧field=0∧value=0∧fault=0) && (decide (fuel=0) && (decide (compares=0) && decide (idle=0)))))):=Lh (by
  unfold Xsm
  rw [hn]
  cases fs<;>simp)
 unfold Xb
 dsimp only
 rw [←hn]
 clear hn
 by_cases h0:n=0
 by_cases h1:kind=0
 by_cases h2:node=0
 by_cases h3:field=0
 by_cases h4:value=0
 by_cases h5:fault=0
 by_cases h6:fuel=0
 by_cases h7:compares=0
 by_cases h8:idle=0
 all_goals
  try have d:=beq_false_of_ne ‹¬_=_›
  try have d0:((n:Int) == 0)=false:=by simp [h0]
  try subst h0
  try subst h1
  try subst h2
  try subst h3
  try subst h4
  try subst h5
  try subst h6
  try subst h7
  try subst h8
  go_enter Tryz.func127,Tryz.ntmps127
  go_wp2_with fail
  go_ret
  exact ⟨by rw [HI.out];simp [*],Xa _ _⟩
def Xth (L:List (Addr×Value)) (w:World):Prop:=∀ (j:Nat) p,L[j]?=some p→w.cell? p.1=some p.2
theorem Xth.get (h:Xth L w) (j:Nat) (hj:L[j]?=some (a,v)):w.cell? a=some v:=h j (a,v) hj
theorem Xth.keep {w':World} (h:Xth L w) (hb:Below w.heap.size w w'):Xth L w':=fun j p hp=>Xc hb (h j p hp)
theorem Xth.nil :Xth [] w:=fun j p h=>by simp at h
theorem Xth.cons (h:w.cell? a=some v) (hL:Xth L w):Xth ((a,v)::L) w:=fun j p hp=>by
 cases j with
 | zero=>simp at hp;subst hp;exact h
 | succ j=>exact hL j p (by simpa using hp)
theorem Xzp:Zn 130:=fun _ _=>by kernel_rfl
theorem X1b (c:Cod) (fa qa:Option Addr) (fc qc:Nat) (x:Cal) (xv:Value) (B b:Nat) (w:World) (hB:B≤w.heap.size) (hx:J8 B w xv x) (hc:Yj B w (.agg #[.slice fa c.fields.length fc,.int .i64 c.globals,.slice qa c.funcs.length qc]) c) (h0:Xo w b [.slice fa c.fields.length fc,.int .i64 c.globals,.slice qa c.funcs.length qc]) :
  Calls Tryz.prog 130 #[xv,.pointer (some ⟨b,0,none⟩)] w fun e w'=>e=.returned (.bool (!(Yd c x 0 == 0)))∧Below w.heap.size w w':=by
 have HC:=Lh hc
 have HX:=Lh hx
 obtain ⟨av,rfl,aB,-⟩:=hx
 obtain ⟨xa,xc,rfl⟩:=aB.fm
 have q0:=(h0.alloc (.cells #[.string x.proc,.slice xa x.args.length xc] 80)) 0 _ rfl
 have q1:=(h0.alloc (.cells #[.string x.proc,.slice xa x.args.length xc] 80)) 1 _ rfl
 have q2:=(h0.alloc (.cells #[.string x.proc,.slice xa x.args.length xc] 80)) 2 _ rfl
 clear hc aB h0
 go_enter Tryz.func130,Tryz.ntmps130
 go_wp2_with fail
 refine (Xw5 c _ x _ B _ (by simp;omega) (HC.out.below ((Xa _ _).mono hB)) (HX.out.below ((Xa _ _).mono hB))).mono ?_
 rintro e w1 ⟨rfl,hb⟩
 have aA:=Yi hb
 cases hg:(Yd c x 0 == 0) with
 | true=>
  have hz:Yd c x 0=0:=by simpa using hg
  have HG:Hid ((!(Yd c x 0 == 0))=false):=Lh (by rw [hg];rfl)
  rw [hz]
  clear hz hg
  go_wp2_with fail
  go_ret
  exact ⟨by rw [HG.out];rfl,aA⟩
 | false=>
  have d:(Yd c x 0 != 0)=true:=by simpa using hg
  have HG:Hid ((!(Yd c x 0 == 0))=true):=Lh (by rw [hg];rfl)
  clear hg
  go_wp2_with fail
  go_ret
  exact ⟨by rw [HG.out];rfl,aA⟩
def Xvv (m:Mch):Nat:=if Xsm m then 0 else 1
def Xuw (c:Cod) (m:Mch) (n:Int):Prop:=(Xsm m=true∧n=0)∨(Xsm m=false∧Yf c m∧Xsi m=true∧0≤n∧n≤1099511627776)
structure Xu3 (c:Cod) (s:Thr) (m:Mch) (n:Int) (l:List Cal) (r:List Xr7) (b e:List Int):Prop where
 head:Xuw c m n
 ends:e.length=r.length
 begins:b.length=r.length+Xvv m
 ops:l.length+r.length+Xvv m≤2000
 timed:V5 b e (-1) s.step=true
 right:l.any (fun x=>!(Yd c x 0 == 0))=false
theorem Xv7 (c:Cod) (cv:Value) (s:Thr) (sv:Value) (t:Nat) (m:Mch) (n:Int) (l:List Cal) (r:List Xr7) (b e:List Int) (B:Nat) (w:World) (hL:Qa w) (hB:B≤w.heap.size) (hsm:Zb c) (hc:Yj B w cv c) (hs:Xsd B w sv s)
  (hm:s.running[t]?=some m) (hn:s.nodes[t]?=some n) (hl:s.calls[t]?=some l) (hr:s.results[t]?=some r) (hb:s.begins[t]?=some b) (he:s.ends[t]?=some e) :
  Calls Tryz.prog 97 #[cv,sv,.int .i64 t] w fun z w'=>z=.returned (.bool (pB (Xu3 c s m n l r b e)))∧Below w.heap.size w w':=by
 have cM:∀ (fn:Fn) (first cap:Array Value) (w:World),(Instr.makeFunc fn first cap).run Tryz.prog w=.ok (.func fn first cap) w:=fun _ _ _ _=>rfl
 obtain ⟨ga,gc,ma,mc,ra,rc,na,nc,ca,cc,oa,oc,ba,bc,ea,ec,rfl⟩:=hs.open_
 obtain ⟨-,-,pr,pn,pc,po,pb,pe,-,aO⟩:=hs.parts
 have aQ:=Lh hc
 obtain ⟨cG,cH,rfl,bB,bC,-⟩:=hc
 obtain ⟨fa,fc,rfl⟩:=bB.fm
 obtain ⟨qa,qc,rfl⟩:=bC.fm
 obtain ⟨rb,ro,rfl,cP,hE⟩:=pr.nth hm
 obtain ⟨uv,u4,k0,k1,k2,k3,k4,k5,k6,k7,k8,-⟩:=hE.nine
 obtain ⟨ua,uc,rfl⟩:=u4.fm
 obtain ⟨nb,no,rfl,cN,kn,-⟩:=pn.nth hn
 obtain ⟨cb,co,rfl,cK,lv,kl,l4⟩:=pc.nth hl
 obtain ⟨la,lc,rfl⟩:=l4.fm
 obtain ⟨ob,oo,rfl,cO,pv,kp,p4⟩:=po.nth hr
 obtain ⟨pa,pc,rfl⟩:=p4.fm
 obtain ⟨bb,bo,rfl,cJ,bv,kb,b4⟩:=pb.nth hb
 obtain ⟨aS,aT,rfl⟩:=b4.fm
 obtain ⟨eb,eo,rfl,cL,ev,ke,e4⟩:=pe.nth he
 obtain ⟨aU,aV,rfl⟩:=e4.fm
 rw [Nat.mul_one] at kn kl kp kb ke
 have i0:(0:Int)≤(t:Int):=In _
 have i1:(t:Int)<(s.running.length:Int):=by have:=(Ll hm);omega
 have i2:(t:Int)<(s.nodes.length:Int):=by have:=(Ll hn);omega
 have i3:(t:Int)<(s.calls.length:Int):=by have:=(Ll hl);omega
 have i4:(t:Int)<(s.results.length:Int):=by have:=(Ll hr);omega
 have i5:(t:Int)<(s.begins.length:Int):=by have:=(Ll hb);omega
 have i6:(t:Int)<(s.ends.length:Int):=by have:=(Ll he);omega
 obtain ⟨W,hW⟩:∃ W,W=(w.alloc (.cells #[.slice fa c.fields.length fc,.int .i64 c.globals,.slice qa c.funcs.length qc] 25)).alloc (.cells #[.slice ga s.mem.globals.length gc,.slice ma s.mem.nodes.length mc,.int .i64 s.fuel,.slice (some ⟨rb,ro,none⟩) s.running.length rc,.slice (some ⟨nb,no,none⟩) s.nodes.length nc,.slice (some ⟨cb,co,none⟩) s.calls.length cc,.slice (some ⟨ob,oo,none⟩) s.results.length oc,.slice (some ⟨bb,bo,none⟩) s.begins.length bc,.slice (some ⟨eb,eo,none⟩) s.ends.length ec,.int .i64 s.step] 34):=⟨_,rfl⟩
 have aA:Hid (Below w.heap.size w W):=by rw [hW];exact Lh ((Xa _ _).then (Xa _ _))
 have bU:Hid (W.heap.size=w.heap.size+2):=by rw [hW];exact Lh (by simp)
 have b0:Xo W w.heap.size [.slice fa c.fields.length fc,.int .i64 c.globals,.slice qa c.funcs.length qc]:=by rw [hW];exact Xd.alloc _
 have b1:Xo W (w.heap.size+1) [.slice ga s.mem.globals.length gc,.slice ma s.mem.nodes.length mc,.int .i64 s.fuel,.slice (some ⟨rb,ro,none⟩) s.running.length rc,.slice (some ⟨nb,no,none⟩) s.nodes.length nc,.slice (some ⟨cb,co,none⟩) s.calls.length cc,.slice (some ⟨ob,oo,none⟩) s.results.length oc,.slice (some ⟨bb,bo,none⟩) s.begins.length bc,.slice (some ⟨eb,eo,none⟩) s.ends.length ec,.int .i64 s.step]:=by
  rw [hW]
  have:=@Xd (w.alloc (.cells #[.slice fa c.fields.length fc,.int .i64 c.globals,.slice qa c.funcs.length qc] 25)) #[.slice ga s.mem.globals.length gc,.slice ma s.mem.nodes.length mc,.int .i64 s.fuel,.slice (some ⟨rb,ro,none⟩) s.running.length rc,.slice (some ⟨nb,no,none⟩) s.nodes.length nc,.slice (some ⟨cb,co,none⟩) s.calls.length cc,.slice (some ⟨ob,oo,none⟩) s.results.length oc,.slice (some ⟨bb,bo,none⟩) s.begins.length bc,.slice (some ⟨eb,eo,none⟩) s.ends.length ec,.int .i64 s.step] 34
  simpa using this
 obtain ⟨L,aM⟩:∃ L:List (Addr×Value),L=[(⟨w.heap.size,0,none⟩,.slice fa c.fields.length fc),(⟨w.heap.size,1,none⟩,.int .i64 c.globals),(⟨w.heap.size,2,none⟩,.slice qa c.funcs.length qc),(⟨w.heap.size+1,0,none⟩,.slice ga s.mem.globals.length gc),(⟨w.heap.size+1,1,none⟩,.slice ma s.mem.nodes.length mc),(⟨w.heap.size+1,2,none⟩,.int .i64 s.fuel),(⟨w.heap.size+1,3,none⟩,.slice (some ⟨rb,ro,none⟩) s.running.length rc),(⟨w.heap.size+1,4,none⟩,.slice (some ⟨nb,no,none⟩) s.nodes.length nc),(⟨w.heap.size+1,5,none⟩,.slice (some ⟨cb,co,none⟩) s.calls.length cc),(⟨w.heap.size+1,6,none⟩,.slice (some ⟨ob,oo,none⟩) s.results.length oc),(⟨w.heap.size+1,7,none⟩,.slice (some ⟨bb,bo,none⟩) s.begins.length bc),(⟨w.heap.size+1,8,none⟩,.slice (some ⟨eb,eo,none⟩) s.ends.length ec),(⟨w.heap.size+1,9,none⟩,.int .i64 s.step),(⟨rb,ro+t*9,none⟩,.slice ua m.frames.length uc),(⟨rb,ro+t*9+1,none⟩,.int .i64 m.req.kind),(⟨rb,ro+t*9+2,none⟩,.int .i64 m.req.node),(⟨rb,ro+t*9+3,none⟩,.int .i64 m.req.field),(⟨rb,ro+t*9+4,none⟩,.int .i64 m.req.value),(⟨rb,ro+t*9+5,none⟩,.int .i64 m.req.fault),(⟨rb,ro+t*9+6,none⟩,.int .i64 m.fuel),(⟨rb,ro+t*9+7,none⟩,.int .i64 m.compares),(⟨rb,ro+t*9+8,none⟩,.int .i64 m.idle),(⟨nb,no+t,none⟩,.int .i64 n),(⟨cb,co+t,none⟩,.slice la l.length lc),(⟨ob,oo+t,none⟩,.slice pa r.length pc),(⟨bb,bo+t,none⟩,.slice aS b.length aT),(⟨eb,eo+t,none⟩,.slice aU e.length aV)]:=⟨_,rfl⟩
 have H0:Hid (Xth L W):=by rw [aM];exact Lh (.cons (b0 0 _ rfl) <| .cons (b0 1 _ rfl) <| .cons (b0 2 _ rfl) <| .cons (b1 0 _ rfl) <| .cons (b1 1 _ rfl) <| .cons (b1 2 _ rfl) <| .cons (b1 3 _ rfl) <| .cons (b1 4 _ rfl) <| .cons (b1 5 _ rfl) <| .cons (b1 6 _ rfl) <| .cons (b1 7 _ rfl) <| .cons (b1 8 _ rfl) <| .cons (b1 9 _ rfl) <| .cons (Xc aA.out k0) <| .cons (Xc aA.out k1) <| .cons (Xc aA.out k2) <| .cons (Xc aA.out k3) <| .cons (Xc aA.out k4) <| .cons (Xc aA.out k5) <| .cons (Xc aA.out k6) <| .cons (Xc aA.out k7) <| .cons (Xc aA.out k8) <| .cons (Xc aA.out kn) <| .cons (Xc aA.out kl) <| .cons (Xc aA.out kp) <| .cons (Xc aA.out kb) <| .cons (Xc aA.out ke) <| Xth.nil)
 have HL:=Lh (hL.below aA.out)
 have HC:=Lh (aQ.out.below (aA.out.mono hB))
 have HU:=Lh (u4.fras (aA.out.mono hB))
 have bI:Hid (r.length≤140737488355328):=Lh (by obtain ⟨_,_,_,h,_⟩:=p4;exact h)
 have bF:Hid (l.length≤140737488355328):=Lh (by obtain ⟨_,_,_,h,_⟩:=l4;exact h)
 have bG:=Lh (l4.cals (aA.out.mono hB))
 have bE:=Lh (b4.ints (aA.out.mono hB))
 have bH:=Lh (e4.ints (aA.out.mono hB))
 have aG:Hid (B≤W.heap.size):=Lh (by have:=bU.out;omega)
 have aE:=Lh aM
 clear hL hs pr pn po pb pe bB bC hE k0 k1 k2 k3 k4 k5 k6 k7 k8 u4 kn kl l4 kp p4 kb b4 ke e4 hm hn hl hr hb he aO b0 b1 aM
 have G0:=H0.out
 rw [aE.out] at G0
 have g0:=G0.get 0 rfl
 have g1:=G0.get 1 rfl
 have g2:=G0.get 2 rfl
 have g6:=G0.get 6 rfl
 have g7:=G0.get 7 rfl
 have aW:=G0.get 13 rfl
 have bM:=G0.get 14 rfl
 have bN:=G0.get 15 rfl
 have bO:=G0.get 16 rfl
 have bP:=G0.get 17 rfl
 have bQ:=G0.get 18 rfl
 have bR:=G0.get 19 rfl
 have bS:=G0.get 20 rfl
 have bT:=G0.get 21 rfl
 have aL:=G0.get 22 rfl
 have z0:=Bl g0
 have z6:=Bl g6
 have cB:=Bl aW
 have bD:=Bl aL
 clear G0
 go_enter Tryz.func97,Tryz.ntmps97
 go_upto_region 1 with fail
 rw [←hW]
 have HW:=Lh hW
 clear hW
 go_wp2_with fail
 refine (X1d m _ B _ HU.out).mono ?_
 rintro e1 w1 ⟨rfl,aC⟩
 have H1:=Lh (H0.out.keep aC)
 have B1:=Lh aC
 clear g0 g1 g2 g6 g7 aW bM bN bO bP bQ bR bS bT aL z0 z6 cB bD aC
 have S4:Hid (∀ V,Xth L V→V.cell? ⟨w.heap.size,0,none⟩=some (.slice fa c.fields.length fc)∧V.cell? ⟨w.heap.size,1,none⟩=some (.int .i64 c.globals)∧V.cell? ⟨w.heap.size,2,none⟩=some (.slice qa c.funcs.length qc)∧V.cell? ⟨w.heap.size+1,3,none⟩=some (.slice (some ⟨rb,ro,none⟩) s.running.length rc)∧V.cell? ⟨w.heap.size+1,4,none⟩=some (.slice (some ⟨nb,no,none⟩) s.nodes.length nc)∧V.cell? ⟨rb,ro+t*9,none⟩=some (.slice ua m.frames.length uc)∧V.cell? ⟨rb,ro+t*9+1,none⟩=some (.int .i64 m.req.kind)∧V.cell? ⟨rb,ro+t*9+2,none⟩=some (.int .i64 m.req.node)∧V.cell? ⟨rb,ro+t*9+3,none⟩=some (.int .i64 m.req.field)∧V.cell? ⟨rb,ro+t*9+4,none⟩=some (.int .i64 m.req.value)∧V.cell? ⟨rb,ro+t*9+5,none⟩=some (.int .i64 m.req.fault)∧V.cell? ⟨rb,ro+t*9+6,none⟩=some (.int .i64 m.fuel)∧V.cell? ⟨rb,ro+t*9+7,none⟩=some (.int .i64 m.compares)∧V.cell? ⟨rb,ro+t*9+8,none⟩=some (.int .i64 m.idle)∧V.cell? ⟨nb,no+t,none⟩=some (.int .i64 n)):=Lh (fun V h=>by rw [aE.out] at h;exact ⟨h.get 0 rfl,h.get 1 rfl,h.get 2 rfl,h.get 6 rfl,h.get 7 rfl,h.get 13 rfl,h.get 14 rfl,h.get 15 rfl,h.get 16 rfl,h.get 17 rfl,h.get 18 rfl,h.get 19 rfl,h.get 20 rfl,h.get 21 rfl,h.get 22 rfl⟩)
 have aK:Hid (∀ V,Xth L V→V.cell? ⟨w.heap.size,0,none⟩=some (.slice fa c.fields.length fc)∧V.cell? ⟨w.heap.size,1,none⟩=some (.int .i64 c.globals)∧V.cell? ⟨w.heap.size,2,none⟩=some (.slice qa c.funcs.length qc)∧V.cell? ⟨w.heap.size+1,5,none⟩=some (.slice (some ⟨cb,co,none⟩) s.calls.length cc)∧V.cell? ⟨w.heap.size+1,7,none⟩=some (.slice (some ⟨bb,bo,none⟩) s.begins.length bc)∧V.cell? ⟨w.heap.size+1,8,none⟩=some (.slice (some ⟨eb,eo,none⟩) s.ends.length ec)∧V.cell? ⟨w.heap.size+1,9,none⟩=some (.int .i64 s.step)∧V.cell? ⟨cb,co+t,none⟩=some (.slice la l.length lc)∧V.cell? ⟨bb,bo+t,none⟩=some (.slice aS b.length aT)∧V.cell? ⟨eb,eo+t,none⟩=some (.slice aU e.length aV)):=Lh (fun V h=>by rw [aE.out] at h;exact ⟨h.get 0 rfl,h.get 1 rfl,h.get 2 rfl,h.get 8 rfl,h.get 10 rfl,h.get 11 rfl,h.get 12 rfl,h.get 23 rfl,h.get 25 rfl,h.get 26 rfl⟩)
 have SC:Hid (∀ V,Xth L V→Xo V w.heap.size [.slice fa c.fields.length fc,.int .i64 c.globals,.slice qa c.funcs.length qc]):=Lh (fun V h=>by
  rw [aE.out] at h
  intro j v hj
  match j,hj with
  | 0,hj=>cases hj;exact h.get 0 rfl
  | 1,hj=>cases hj;exact h.get 1 rfl
  | 2,hj=>cases hj;exact h.get 2 rfl)
 go_upto_if 15 with fail
 go_cut [7] (fun s7 wx=>s7=.int .i64 (Xvv m:Int)∧Hid (Xth L wx)∧Hid (Below W.heap.size W wx)∧Hid (Xuw c m n))
 case first=>
  cases aH:Xsm m with
  | true=>
   have HR:Hid (Xvv m=0):=Lh (by unfold Xvv;rw [aH];rfl)
   have HI:=Lh aH
   clear aH
   have G1:=H1.out
   rw [aE.out] at G1
   have g7:=G1.get 7 rfl
   have aL:=G1.get 22 rfl
   have z7:=Bl g7
   have bD:=Bl aL
   clear G1
   by_cases hn:n=0
   ·subst hn
    go_wp2_with fail
    go_meet
    case rel=>exact ⟨by rw [HR.out];rfl,H1,B1,Lh (.inl ⟨HI.out,rfl⟩)⟩
   ·have HF:Hid (pB (Xu3 c s m n l r b e)=false):=Lh (K8 (fun h=>by
     rcases h.head with ⟨-,h⟩|⟨h,-⟩
     ·exact hn h
     ·rw [HI.out] at h;cases h))
    have d:(n != 0)=true:=by simpa using hn
    clear hn
    go_wp2_with fail
    go_ret
    exact ⟨by rw [HF.out];rfl,aA.out.then B1.out⟩
  | false=>
   have HR:Hid (Xvv m=1):=Lh (by unfold Xvv;rw [aH];rfl)
   have HI:=Lh aH
   clear aH
   go_upto_region 4 with fail
   go_cut [48] (fun cA wx=>cA=.bool (!pB (Xuw c m n))∧Hid (Xth L wx)∧Hid (Below W.heap.size W wx))
   case first=>
    have aF:=Lh (Xh B1.out 1)
    have aP:=Lh (H0.out.keep aF.out)
    refine Xyo (Xth L) [6,14] (by kernel_rfl) (by kernel_rfl) aP.out ?_
    repeat (first|(refine' Xto (Eq.refl false) rfl _ (fun wV aB=>?_) ?_;rotate_left;(replace aB:=S4.out _ aB);go_simp;(try with_reducible rfl);try simp only [Ap])|(refine Xtn rfl ?_;try simp only [Ap]))
    refine Xv9 (Eq.refl true) rfl ?_
    go_simp
    go_at_call 128
    refine (Xer c _ m _ B w1.drew (HL.out.below aF.out) (Nt aG.out aF.out.size) (HC.out.below (aF.out.mono aG.out)) (HU.out.fras (aF.out.mono aG.out)) hsm).mono ?_
    rintro z w2 ⟨rfl,aD⟩
    have H2:=Lh (aP.out.keep aD)
    have B2:=Lh (aF.out.then aD)
    refine ⟨H2.out,?_⟩
    clear aD
    cases hv:pB (Yf c m) with
    | false=>
     have HF:Hid (pB (Xuw c m n)=false):=Lh (K8 (fun h=>by
      rcases h with ⟨h,-⟩|⟨-,h,-⟩
      ·rw [HI.out] at h;cases h
      ·rw [Kh h] at hv;cases hv))
     clear hv
     repeat (first|(refine' Xto (Eq.refl false) rfl _ (fun wV aB=>?_) ?_;rotate_left;(replace aB:=S4.out _ aB);go_simp;(try with_reducible rfl);try simp only [Ap])|(refine Xtn rfl ?_;try simp only [Ap]))
     refine Xxz ?_
     go_wp2_with fail
     go_meet
     case rel=>exact ⟨by rw [HF.out];rfl,H2,B2⟩
    | true=>
     have HV:=Lh hv
     clear hv
     repeat (first|(refine' Xto (Eq.refl false) rfl _ (fun wV aB=>?_) ?_;rotate_left;(replace aB:=S4.out _ aB);go_simp;(try with_reducible rfl);try simp only [Ap])|(refine Xtn rfl ?_;try simp only [Ap]))
     refine Xv9 (Eq.refl true) rfl ?_
     go_simp
     go_at_call 70
     refine (Xxg m _ _ _ w2).mono ?_
     rintro z w3 ⟨rfl,aN⟩
     have H3:=Lh (H2.out.keep aN)
     have B3:=Lh (B2.out.then aN)
     refine ⟨H3.out,?_⟩
     clear aN
     by_cases h0:n<0<;>by_cases h1:1099511627776<n<;>cases ha:Xsi m
     all_goals try (exfalso;omega)
     all_goals
      have HF:Hid (pB (Xuw c m n)=(Xsi m && (!decide (n<0) && !decide (1099511627776<n)))):=Lh (by
       by_cases h:Xuw c m n
       ·rw [Kh h]
        rcases h with ⟨h3,-⟩|⟨-,-,h3,h4,h5⟩
        ·rw [HI.out] at h3;cases h3
        ·rw [h3];simp;omega
       ·rw [K8 h]
        have hx:¬(Xsi m=true∧0≤n∧n≤1099511627776):=fun h9=>h (.inr ⟨HI.out,Classical.byContradiction (fun h=>by have:=HV.out;rw [K8 h] at this;cases this),h9⟩)
        rw [ha]
        simp [ha] at hx ⊢
        all_goals omega)
      rw [ha] at HF
      first|have d0:=decide_eq_false h0|have d0:=decide_eq_true h0
      first|have d1:=decide_eq_false h1|have d1:=decide_eq_true h1
      clear ha h0 h1
      repeat (first|(refine' Xto (Eq.refl false) rfl _ (fun wV aB=>?_) ?_;rotate_left;(replace aB:=S4.out _ aB);go_simp;(try with_reducible rfl);try simp only [Ap])|(refine Xtn rfl ?_;try simp only [Ap]))
      refine Xxz ?_
      go_wp2_with fail
      go_meet
      case rel=>exact ⟨by rw [HF.out];simp [*],H3,B3⟩
   case rest=>
    obtain ⟨rfl,H4,B4⟩:=hcut
    cases hp:pB (Xuw c m n) with
    | false=>
     have HF:Hid (pB (Xu3 c s m n l r b e)=false):=Lh (K8 (fun h=>by rw [Kh h.head] at hp;cases hp))
     clear hp
     go_wp2_with fail
     go_ret
     exact ⟨by rw [HF.out];rfl,aA.out.then B4.out⟩
    | true=>
     have HH:Hid (Xuw c m n):=Lh (Classical.byContradiction fun h=>by rw [K8 h] at hp;cases hp)
     clear hp
     go_wp2_with fail
     go_meet
     case rel=>exact ⟨by rw [HR.out];rfl,H4,B4,HH⟩
 case rest=>
  obtain ⟨rfl,H8,B8,HH⟩:=hcut
  have aR:Hid (Xvv m≤1):=Lh (by unfold Xvv;split<;>omega)
  obtain ⟨R,hR⟩:∃ R,R=Xvv m:=⟨_,rfl⟩
  rw [←hR] at aR ⊢
  have cI:=aR.out
  have aJ:=Lh hR
  have G8:=H8.out
  rw [aE.out] at G8
  have g8:=G8.get 8 rfl
  have g9:=G8.get 9 rfl
  have bJ:=G8.get 10 rfl
  have bK:=G8.get 11 rfl
  have bL:=G8.get 12 rfl
  have aX:=G8.get 23 rfl
  have aY:=G8.get 24 rfl
  have aZ:=G8.get 25 rfl
  have bA:=G8.get 26 rfl
  have z8:=Bl g8
  have cC:=Bl aX
  have cD:=Bl aY
  have cE:=Bl aZ
  have cF:=Bl bA
  clear G8 hR
  have bW:=bI.out
  have bV:=bF.out
  have bX:IntKind.i64.wrap ((r.length:Int)+(R:Int))=(r.length:Int)+(R:Int):=by rw [IntKind.wrap_i64];omega
  have bY:IntKind.i64.wrap ((l.length:Int)+(r.length:Int))=(l.length:Int)+(r.length:Int):=by rw [IntKind.wrap_i64];omega
  have bZ:IntKind.i64.wrap ((l.length:Int)+(r.length:Int)+(R:Int))=(l.length:Int)+(r.length:Int)+(R:Int):=by rw [IntKind.wrap_i64];omega
  by_cases q1:e.length=r.length
  rotate_left
  ·have HF:Hid (pB (Xu3 c s m n l r b e)=false):=Lh (K8 (fun h=>q1 h.ends))
   have d1:((e.length:Int) != (r.length:Int))=true:=by simp only [bne_iff_ne,ne_eq];omega
   have d2:(e.length != r.length)=true:=by simp;exact q1
   clear q1
   go_wp2_with fail
   go_ret
   exact ⟨by rw [HF.out];rfl,aA.out.then B8.out⟩
  have d1:((e.length:Int) != (r.length:Int))=false:=by rw [q1];simp
  have d2:(e.length != r.length)=false:=by simp;exact q1
  have Q1:=Lh q1
  clear q1
  by_cases q2:b.length=r.length+R
  rotate_left
  ·have HF:Hid (pB (Xu3 c s m n l r b e)=false):=Lh (K8 (fun h=>q2 (by rw [aJ.out];exact h.begins)))
   have d3:((b.length:Int) != (r.length:Int)+(R:Int))=true:=by simp only [bne_iff_ne,ne_eq];omega
   have d4:(b.length != r.length+R)=true:=by simp;exact q2
   clear q2
   go_wp2_with fail
   go_ret
   exact ⟨by rw [HF.out];rfl,aA.out.then B8.out⟩
  have d3:((b.length:Int) != (r.length:Int)+(R:Int))=false:=by rw [q2];simp
  have d4:(b.length != r.length+R)=false:=by simp;exact q2
  have Q2:=Lh q2
  clear q2
  by_cases q3:2000<l.length+r.length+R
  ·have HF:Hid (pB (Xu3 c s m n l r b e)=false):=Lh (K8 (fun h=>by have:=h.ops;rw [←aJ.out] at this;omega))
   have d5:decide ((2000:Int)<(l.length:Int)+(r.length:Int)+(R:Int))=true:=by simp only [decide_eq_true_eq];omega
   have d6:decide (2000<l.length+r.length+R)=true:=by simpa using q3
   clear q3
   go_wp2_with fail
   go_ret
   exact ⟨by rw [HF.out];rfl,aA.out.then B8.out⟩
  have d5:decide ((2000:Int)<(l.length:Int)+(r.length:Int)+(R:Int))=false:=by simp only [decide_eq_false_iff_not];omega
  have d6:decide (2000<l.length+r.length+R)=false:=by simpa using q3
  have Q3:=Lh q3
  clear q3
  go_upto_region 11 with fail
  clear g8 g9 bJ bK bL aX aY aZ bA z8 cC cD cE cF bX bY bZ d1 d2 d3 d4 d5 d6
  have BD:Hid (Below w.heap.size w wc.drew):=Lh (Xh (aA.out.then B8.out) 1)
  have BW:Hid (Below W.heap.size W wc.drew):=Lh (Xh B8.out 1)
  have aI:Hid (Xth L wc.drew):=Lh (H8.out.keep (Xh Br 1))
  refine Xyo (Xth L) [12,20] (by kernel_rfl) (by kernel_rfl) aI.out ?_
  repeat (first|(refine' Xto (Eq.refl false) rfl _ (fun wV aB=>?_) ?_;rotate_left;(replace aB:=aK.out _ aB);go_simp;(try with_reducible rfl);try simp only [Ap])|(refine Xtn rfl ?_;try simp only [Ap]))
  refine Xv9 (Eq.refl true) rfl ?_
  go_simp
  go_at_call 129
  refine (X0b b e _ _ s.step B B wc.drew (bE.out.ints (BW.out.mono aG.out)) (bH.out.ints (BW.out.mono aG.out))).mono ?_
  rintro z w2 ⟨rfl,rfl⟩
  refine ⟨aI.out,?_⟩
  cases ht:V5 b e (-1) s.step with
  | false=>
   have HF:Hid (pB (Xu3 c s m n l r b e)=false):=Lh (K8 (fun h=>by rw [h.timed] at ht;cases ht))
   clear ht
   repeat (first|(refine' Xto (Eq.refl false) rfl _ (fun wV aB=>?_) ?_;rotate_left;(replace aB:=aK.out _ aB);go_simp;(try with_reducible rfl);try simp only [Ap])|(refine Xtn rfl ?_;try simp only [Ap]))
   refine Xxz ?_
   go_wp2_with fail
   go_ret
   exact ⟨by rw [HF.out];rfl,BD.out⟩
  | true=>
   have HF:Hid (pB (Xu3 c s m n l r b e)=!l.any (fun x=>!(Yd c x 0 == 0))):=Lh (by
    cases ha:l.any (fun x=>!(Yd c x 0 == 0)) with
    | true=>rw [K8 (fun h=>by rw [h.right] at ha;cases ha)];rfl
    | false=>rw [Kh ⟨HH.out,Q1.out,by rw [←aJ.out];exact Q2.out,by rw [←aJ.out];have:=Q3.out;omega,ht,ha⟩];rfl)
   clear ht
   repeat (first|(refine' Xto (Eq.refl false) rfl _ (fun wV aB=>?_) ?_;rotate_left;(replace aB:=aK.out _ aB);go_simp;(try with_reducible rfl);try simp only [Ap])|(refine Xtn rfl ?_;try simp only [Ap]))
   refine Xv9 (Eq.refl true) rfl ?_
   go_simp
   go_at_call 36
   refine (Xtm 130 #[.pointer (some ⟨w.heap.size,0,none⟩)] (fun x=>!(Yd c x 0 == 0)) l _ B wc.drew Xzp (Nt hB BD.out.size) (bG.out.cals (BW.out.mono aG.out)) (fun x w1 av aC hx=>X1b c fa qa fc qc x av B w.heap.size w1 (Nt hB (BD.out.then aC).size) hx (aQ.out.below ((BD.out.then aC).mono hB)) (SC.out w1 (aI.out.keep aC)))).mono ?_
   rintro z w2 ⟨rfl,aD⟩
   have H9:=Lh (aI.out.keep aD)
   have B9:=Lh (BD.out.then aD)
   refine ⟨H9.out,?_⟩
   clear aD
   repeat (first|(refine' Xto (Eq.refl false) rfl _ (fun wV aB=>?_) ?_;rotate_left;(replace aB:=aK.out _ aB);go_simp;(try with_reducible rfl);try simp only [Ap])|(refine Xtn rfl ?_;try simp only [Ap]))
   refine Xxz ?_
   go_wp2_with fail
   go_ret
   exact ⟨by rw [HF.out];rfl,B9.out⟩
