import Derived.Test.YtiejafonjemioaaGreatDoorTim
import Derived.Test.YtiejafonjemioaaGreatDoorRth
import Derived.Test.YtiejafonjemioaaGreatDoorRcy
import Derived.Test.YtiejafonjemioaaGreatDoorAwy
import Derived.Test.YtiejafonjemioaaGreatDoorAsk
import Derived.Deep.CutBlock
set_option maxHeartbeats 8000000
set_option maxRecDepth 1000000
set_option linter.unusedVariables false
set_option linter.unusedSimpArgs false
open Go.Value renaming slice→σ
open Go.Obj renaming cells→χ
namespace Go.Proofs.YtiejafonjemioaaGreatDoor
open Go.RowKit
variable {c:Cod} {m:Mm} {w V:World} {gv nv:Value} {nx:List Value} {f i n bs g k:Nat} {l cnt:List Int} {x:Int} {CV MV sA:Array Value} {s:Thr}
theorem new_all {cs:List (List Cal)} {fuel:Int} (h:Xs9 c m cs fuel=0):Xv c/\Uv c m/\(0<=fuel/\fuel<=1048576)/\(∀ l∈cs,∀ x∈l,Yd c x 0=0)/\Xs8 c (Xtb m fuel cs)/\Xse c (Xtb m fuel cs):=by
 unfold Xs9 at h
 by_cases h1:Xa2 c=true/\Q7 c m=true
 rotate_left
 ·rw [if_pos h1] at h;omega
 rw [if_neg (fun k=>k h1)] at h
 by_cases h2:fuel<0\/1048576<fuel
 ·rw [if_pos h2] at h;omega
 rw [if_neg h2] at h
 by_cases h3:cs.length=0
 ·rw [if_pos h3] at h;omega
 rw [if_neg h3] at h
 by_cases h4:8<cs.length\/cs.any (fun l=>decide (2000<(l.length:Int)))=true
 ·rw [if_pos h4] at h;omega
 rw [if_neg h4] at h
 have hs:=Xq3.1 h1.1
 have hm:=Xn1.1 h1.2
 have hf:0<=fuel/\fuel<=1048576:=ω
 have hr:=Xx2 h
 have hl:∀ l∈cs,l.length<=2000:=fun l hl=>Nat.le_of_not_lt fun hg=>h4 (.inr (List.any_eq_true.2 ⟨l,hl,by simp;omega⟩))
 have hi:=X07 hs hm hf hr hl
 refine ⟨hs,hm,hf,hr,hi,hi.valT (by simp [Xtb];omega) (by simp [Xtb];omega) (by simp [Xtb]) (fun t b e hb _=>?_)⟩
 have:=Xvn hb
 subst this;rfl
theorem Xxp.reads {c:Clr} (h:Xxp w c m gv nv nx):MmV w.heap.size w (.agg #[gv,nv]) m:=
 ⟨gv,nv,rfl,h.g.reads,h.n.reads (fun i x hx=>by
  obtain ⟨lv,h1,-⟩:=h.nn i x hx
  exact ⟨_,h1⟩) (fun i x g hx hc=>by
  obtain ⟨lv,h1,h2,h3,h4⟩:=h.nn i x hx
  exact ⟨hc _ _ h1,⟨lv,hc _ _ h2,h4.reads⟩,h3⟩)⟩
theorem Xxp.putG {c:Clr} (h:Xxp w c m gv nv nx) (hf:f<m.globals.length) :
  ∃ b k,gv=σ (some (π b 0)) m.globals.length k/\c b≠0/\b<w.heap.size/\w.frozen? (π b f)=false/\(∃ old,w.cell? (π b f)=some old)/\∀ x,in64 x->MmV w.heap.size (w.setCell (π b f) (ι x)) (.agg #[gv,nv]) { m with globals:=m.globals.set f x }:=by
 obtain ⟨ga,gc,rfl,-⟩:=h.g.1.form
 obtain ⟨v,hv⟩:∃ v,m.globals[f]?=some v:=⟨_,Lg hf⟩
 have aA:(m.globals.map (Value.int .i64))[f]?=some (ι v):=by rw [List.getElem?_map,hv];rfl
 obtain ⟨b,rfl,g1,g2,g3,g4⟩:=h.g.1.pos aA
 refine ⟨b,gc,rfl,by rw [g1];decide,g2,g4 f,⟨_,g3 f _ aA⟩,fun x hx=>?_⟩
 have hS:Chg (fun k=>k=2) c c w (w.setCell (π b f) (ι x)):=Chg.set g1 ω
 have hz:(w.setCell (π b f) (ι x)).heap.size=w.heap.size:=by simp
 have K:Xxp (w.setCell (π b f) (ι x)) c { m with globals:=m.globals.set f x } (σ (some (π b 0)) m.globals.length gc) nv nx:=⟨fun d hd=>h.hi d (by rw [<-hz];exact hd),by have:=h.g.put rfl f x hx;exact this,h.n.keep hS δ,fun i y hy=>by
  obtain ⟨lv,h1,h2,h3,h4⟩:=h.nn i y hy
  exact ⟨lv,h1,h2,h3,h4.keep hS ω⟩⟩
 have:=K.reads
 rw [hz] at this
 exact this
theorem Xxp.putN {c:Clr} (h:Xxp w c m gv nv nx) {y:Nod} (hy:m.nodes[i]?=some y) (hf:f<y.f.length) :
  ∃ nb nk b k,nv=σ (some (π nb 0)) m.nodes.length nk/\w.cell? (π nb (i*2+1))=some (σ (some (π b 0)) y.f.length k)/\c b≠0/\b<w.heap.size/\w.frozen? (π b f)=false/\(∃ old,w.cell? (π b f)=some old)/\∀ x,in64 x->MmV w.heap.size (w.setCell (π b f) (ι x)) (.agg #[gv,nv]) { m with nodes:=m.nodes.modify i (fun z=>Xem z f x) }:=by
 obtain ⟨na,nk,rfl,-⟩:=h.n.form
 obtain ⟨lv,h1,h2,h3,h4⟩:=h.nn i y hy
 obtain ⟨nb,rfl,f1,f2,f3,f4⟩:=h.n.pos h1
 obtain ⟨la,k,rfl,-⟩:=h4.1.form
 obtain ⟨v,hv⟩:∃ v,y.f[f]?=some v:=⟨_,Lg hf⟩
 have aB:(y.f.map (Value.int .i64))[f]?=some (ι v):=by rw [List.getElem?_map,hv];rfl
 obtain ⟨b,rfl,g1,g2,g3,g4⟩:=h4.1.pos aB
 refine ⟨nb,nk,b,k,rfl,f3 _ _ h2,by rw [g1];omega,g2,g4 f,⟨_,g3 f _ aB⟩,fun x hx=>?_⟩
 have hS:Chg (fun q=>q=10+5*i) c c w (w.setCell (π b f) (ι x)):=Chg.set g1 ω
 have hz:(w.setCell (π b f) (ι x)).heap.size=w.heap.size:=by simp
 have K:Xxp (w.setCell (π b f) (ι x)) c { m with nodes:=m.nodes.modify i (fun z=>Xem z f x) } gv (σ (some (π nb 0)) m.nodes.length nk) nx:=⟨fun d hd=>h.hi d (by rw [<-hz];exact hd),h.g.keep hS ω,by show V3 _ _ _ _ _ _ (m.nodes.modify i _).length _;rw [List.length_modify];exact h.n.keep hS ω,fun i2 y2 aC=>by
  have aA:(m.nodes.modify i (fun z=>Xem z f x))[i2]?=some y2:=aC
  by_cases hi:i2=i
  ·subst hi
   rw [Xxo hy] at aA
   cases aA
   have:=h4.put rfl f x hx
   exact ⟨_,h1,h2,h3,this⟩
  ·rw [Xzn hi] at aA
   obtain ⟨lv,k1,k2,k3,k4⟩:=h.nn i2 y2 aA
   exact ⟨lv,k1,k2,k3,k4.keep hS ω⟩⟩
 have:=K.reads
 rw [hz] at this
 exact this
theorem sum_set:∀ {l:List Int} {i:Nat} {x:Int},l[i]?=some x->(l.set i (x+1)).sum=l.sum+1
 | [],_,_,h=>by simp at h
 | y::l,0,x,h=>by simp at h;subst h;simp;omega
 | y::l,i+1,x,h=>by
  have:=sum_set (l:=l) (i:=i) (x:=x) (by simpa using h)
  simp [this];omega
theorem sum_nn:∀ {l:List Int},(∀ x∈l,0<=x)->0<=l.sum
 | [],_=>by simp
 | y::l,h=>by
  have h1:=h y ψ
  have h2:=sum_nn (l:=l) (fun x hx=>h x (by simp [hx]))
  simp;omega
theorem sum_take (h:∀ x∈l,0<=x) (i:Nat):0<=(l.take i).sum/\(l.take i).sum<=l.sum:=by
 have h1:=sum_nn (l:=l.take i) (fun x hx=>h x (List.mem_of_mem_take hx))
 have h2:=sum_nn (l:=l.drop i) (fun x hx=>h x (List.mem_of_mem_drop hx))
 have h3:l.sum=(l.take i).sum+(l.drop i).sum:=by rw [<-List.sum_append,List.take_append_drop]
 exact ⟨h1,ω⟩
theorem sum_next (h:l[i]?=some x):(l.take (i+1)).sum=(l.take i).sum+x:=by
 rw [List.take_add_one,h]
 simp
structure TmR (c:Cod) (m:Mm) (n:Nat) (w:World) (bs g:Nat) (CV MV:Array Value) (k:Nat) (s:Thr) (cnt:List Int) (sA:Array Value) (V:World):Prop where
 bel:Below w.heap.size w V
 code:V.heap[w.heap.size]?=some (χ CV 25 (0,0))
 box:V.heap[w.heap.size+1]?=some (χ MV 28 (0,0))
 st:V.heap[bs]?=some (χ sA 34 (0,0))
 own:∀ U,Below 0 V U->(∀ b,b<V.heap.size->b≠bs->b≠g->U.heap[b]?=V.heap[b]?)->Xsd U.heap.size U (.agg sA) s
 row:V.heap[g]?=some (χ (Xx cnt) 3 (0,0))
 cl:cnt.length=n
 rl:s.running.length=n
 inv:Xs8 c s
 tim:TimI s
 val:Xse c s
 sum:s.step=cnt.sum
 cnn:∀ x∈cnt,0<=x/\x<=k
 stp:s.step<=k
 gl:s.mem.globals.length=m.globals.length
 ne:bs≠g/\w.heap.size+1<bs/\w.heap.size+1<g
theorem TmR.keep {V':World} (h:TmR c m n w bs g CV MV k s cnt sA V) (hb:Below V.heap.size V V'):TmR c m n w bs g CV MV k s cnt sA V':=
 ⟨h.bel.then hb,Yk hb h.code,Yk hb h.box,Yk hb h.st,fun U hU hk=>h.own U ((hb.mono (Nat.zero_le _)).trans hU) (fun b h1 h2 h3=>(hk b (Nl h1 hb.size) h2 h3).trans (hb.block b h1)),Yk hb h.row,h.cl,h.rl,h.inv,h.tim,h.val,h.sum,h.cnn,h.stp,h.gl,h.ne⟩
theorem TmR.up (h:TmR c m n w bs g CV MV k s cnt sA V):TmR c m n w bs g CV MV (k+1) s cnt sA V:=
 ⟨h.bel,h.code,h.box,h.st,h.own,h.row,h.cl,h.rl,h.inv,h.tim,h.val,h.sum,fun x hx=>by have:=h.cnn x hx;omega,by have:=h.stp;omega,h.gl,h.ne⟩
theorem TmR.thr (h:TmR c m n w bs g CV MV k s cnt sA V):Xsd V.heap.size V (.agg sA) s:=h.own V Br (fun _ _ _ _=>rfl)
theorem Own2.up {w':World} {v:Value} (h:Own2 n w' v s) (hb:Below w'.heap.size w' V):Own2 n V v s:=fun U hU hk=>h U ((hb.mono (Nat.zero_le _)).trans hU) (fun b h1 h2=>(hk b h1 (Nl h2 hb.size)).trans (hb.block b h2))
theorem TmR.tick (h:TmR c m n w bs g CV MV k s cnt sA V) (j:Nat) (u:Value):Below 0 V (V.setCell (π g j) u)/\Xsd V.heap.size (V.setCell (π g j) u) (.agg sA) s:=by
 have hb:Below 0 V (V.setCell (π g j) u):=⟨rfl,rfl,rfl,ψ,fun b hb=>by omega⟩
 have:=h.own _ hb (fun b h1 h2 h3=>heap_setCell_other _ _ _ _ h3)
 rw [show (V.setCell (π g j) u).heap.size=V.heap.size by simp] at this
 exact ⟨hb,this⟩
theorem TmR.next {V3:World} {q:Nat} {t:Nat} {s':Thr} {u0 u1 u2 u3 u4 u5 u6 u7 u8 u9:Value} (h:TmR c m n w bs g CV MV k s cnt #[u0,u1,u2,u3,u4,u5,u6,u7,u8,u9] V) {v0 v1 v2 v3 v4 v5 v6 v7 v8 v9:Value} (hO:Own2 q V (.agg #[v0,v1,v2,v3,v4,v5,v6,v7,v8,v9]) s') (hq:bs<q/\g<q) (hx:cnt[t]?=some x)
  (hb:Below V.heap.size (V.setCell (π g t) (ι (x+1))) V3) (hI:Xs8 c s') (hT:TimI s') (hV:Xse c s') (hs:s'.step=s.step+1) (hr:s'.running.length=s.running.length) (hg:s'.mem.globals.length=s.mem.globals.length) :
  TmR c m n w bs g CV MV (k+1) s' (cnt.set t (x+1)) #[v0,v1,v2,v3,v4,v5,v6,v7,v8,v9] (Xr6 V3 bs v0 v1 v2 v3 v4 v5 v6 v7 v8 v9):=by
 have n1:=h.ne.1
 have n2:=h.ne.2.1
 have n3:=h.ne.2.2
 have aC:Below w.heap.size w V3:=(Xsb h.bel ω).trans (hb.mono h.bel.size)
 have aB:Below 0 V (Xr6 V3 bs v0 v1 v2 v3 v4 v5 v6 v7 v8 v9):=V0 (((h.tick t (ι (x+1))).1).trans (hb.mono (Nat.zero_le _))) (Nat.zero_le _) (Nat.zero_le _) _ _ _ _ _ _ _ _ _ _
 obtain ⟨W,hW⟩:∃ W,W=V.setCell (π g t) (ι (x+1)):=⟨_,rfl⟩
 rw [<-hW] at hb
 have aA:∀ b,b≠g->W.heap[b]?=V.heap[b]?:=fun b hb=>by rw [hW];exact heap_setCell_other _ _ _ _ hb
 have l1:=(La h.code)
 have l2:=(La h.box)
 have l3:=(La h.st)
 have l4:=(La h.row)
 have aD:V.heap.size<=V3.heap.size:=by have:=aB.size;rw [Xtg] at this;exact this
 have ho:∀ b,b≠bs->b<V.heap.size->(Xr6 V3 bs v0 v1 v2 v3 v4 v5 v6 v7 v8 v9).heap[b]?=W.heap[b]?:=fun b h1 h2=>by rw [put10_other h1];exact hb.block b h2
 refine ⟨V0 aC ω aC.size _ _ _ _ _ _ _ _ _ _,?_,?_,V4 ((hb.block _ l3).trans ((aA _ n1).trans h.st)) _ _ _ _ _ _ _ _ _ _,fun U hU hk=>hO U (aB.trans hU) (fun b h1 h2=>?_),?_,by simp [h.cl],hr.trans h.rl,hI,hT,hV,?_,fun y hy=>?_,?_,hg.trans h.gl,h.ne⟩
 ·rw [ho _ ω l1,aA _ ω];exact h.code
 ·rw [ho _ ω l2,aA _ ω];exact h.box
 ·rw [hk b (by rw [Xtg];omega) ω ω,ho b ω h2,aA b ω]
 ·rw [ho _ n1.symm l4,hW,heap_setCell_same _ _ _ _ _ _ h.row,Jq]
 ·rw [hs,h.sum,sum_set hx]
 ·rcases List.mem_or_eq_of_mem_set hy with h1|h1
  ·have:=h.cnn y h1;omega
  ·have:=h.cnn x (Lm hx);omega
 ·rw [hs];have:=h.stp;omega
theorem threadsTimes_walk (c:Cod) (m:Mm) (cs:List (List Cal)) (a:Nat) (ha:a<=65535) (sch:List Int) (cv mv lv hv:Value) (w:World) (hL:Qa w) (hc:Yj w.heap.size w cv c) (hm:MmV w.heap.size w mv m) (hl:Xf w.heap.size w 1 (Xsa 2 (Xsr w.heap.size) w.heap.size) lv cs) (hsch:Xf w.heap.size w 1 Zd hv sch) :
  Calls Tryz.prog 5 #[cv,mv,lv,.int .u16 (a:Int),hv] w (fun e w'=>e=.returned (.bool true)/\Below w.heap.size w w'):=by
 obtain ⟨cf,cg,rfl,fM,fN,eN⟩:=id hc
 obtain ⟨fa,fc,rfl⟩:=fM.form
 obtain ⟨qa,qc,rfl⟩:=fN.form
 obtain ⟨mg,mn,rfl,fV,dB⟩:=id hm
 obtain ⟨va,vc,rfl⟩:=fV.form
 obtain ⟨na,nc,rfl⟩:=dB.form
 obtain ⟨la,lc,rfl,iP⟩:=hl.fr
 obtain ⟨iM,iO,rfl,gV⟩:=hsch.fr
 have HL:=Lh hL
 have HC:=Lh hc
 have HM:=Lh hm
 have HS:=Lh hl
 have gL:=Lh hsch
 obtain ⟨W,hW⟩:∃ W,W=(w.alloc (χ (Bc fa fc qa qc c) 25)).alloc (χ (Bm va vc na nc m) 28):=⟨_,rfl⟩
 have bC:Hid (Below w.heap.size w W/\w.heap.size+1<W.heap.size):=by rw [hW];exact Lh ⟨(Xa _ _).then (Xa _ _),ψ⟩
 have HR:Hid (W.heap[w.heap.size]?=some (χ (Bc fa fc qa qc c) 25 (0,0))/\W.heap[w.heap.size+1]?=some (χ (Bm va vc na nc m) 28 (0,0))):=Lh ⟨by
  rw [hW,Ha _ _ _ ψ]
  exact Hn _ _,by
  rw [hW]
  have:=Hn (w.alloc (χ (Bc fa fc qa qc c) 25)) (χ (Bm va vc na nc m) 28)
  rw [show (w.alloc (χ (Bc fa fc qa qc c) 25)).heap.size=w.heap.size+1 by simp] at this
  exact this⟩
 have HK:Hid (∀ V,Below W.heap.size W V->Below w.heap.size w V/\w.heap.size<=V.heap.size/\(V.cell? (π w.heap.size 0)=some (σ fa c.fields.length fc)/\V.cell? (π w.heap.size 1)=some (ι c.globals)/\V.cell? (π w.heap.size 2)=some (σ qa c.funcs.length qc)/\w.heap.size<V.heap.size)/\(V.cell? (π (w.heap.size+1) 0)=some (σ va m.globals.length vc)/\V.cell? (π (w.heap.size+1) 1)=some (σ na m.nodes.length nc)/\w.heap.size+1<V.heap.size)):=Lh (fun V hV=>by
  have h0:=Yk hV HR.o.1
  have h1:=Yk hV HR.o.2
  have hb:=bC.o.1.then hV
  exact ⟨hb,hb.size,⟨Cr h0 rfl,Cr h0 rfl,Cr h0 rfl,(La h0)⟩,Cr h1 rfl,Cr h1 rfl,(La h1)⟩)
 clear hL hc hm hl fM fN eN fV dB hsch
 go_enter Tryz.func5,Tryz.ntmps5
 go_upto_region 1 with fail
 rw [<-hW]
 clear hW
 go_wp2_with fail
 refine (Jl W (HL.o.below bC.o.1)).mono ?_
 rintro e w1 ⟨rfl,aG⟩
 have dJ:=Lh aG
 clear aG
 obtain ⟨k,hk⟩:∃ k:Nat,k=a % 301:=⟨_,rfl⟩
 have iR:k<301:=ω
 have hI:IntKind.i64.wrap (a:Int)=(a:Int):=by rw [IntKind.wrap_i64];omega
 have hX:Int.tmod (a:Int) 301=(k:Int):=by rw [hk,Int.tmod_eq_emod_of_nonneg ω];omega
 clear hk
 go_upto_region 3 with fail
 obtain ⟨aH,aJ,⟨c0,c1,c2,zc⟩,⟨m0,m1,zm⟩⟩:=HK.o w1 dJ.o
 go_wp2_with fail
 refine (X3u c _ w.heap.size w1 aJ (HC.o.below aH)).mono ?_
 rintro e w2 ⟨r1,rfl,fS,aB⟩
 have bU:=Lh fS
 have bT:=Lh (dJ.o.then aB)
 clear aH aJ c0 c1 c2 zc m0 m1 zm fS aB
 cases r1 with
 | false=>
  go_wp2_with fail
  go_ret
  exact ⟨rfl,bC.o.1.then bT.o⟩
 | true=>
 have cI:Zb c:=fun y hy=>by have:=(bU.o rfl).2.2 y hy;omega
 have cY:=Lh cI
 clear cI
 obtain ⟨aH,aJ,-,⟨m0,m1,zm⟩⟩:=HK.o w2 bT.o
 go_wp2_with fail
 refine (X03 m _ w.heap.size w2 aJ (HM.o.below aH)).mono ?_
 rintro e w3 ⟨rfl,bF⟩
 have dW:=Lh (bT.o.then bF)
 clear aH aJ m0 m1 zm bF
 cases dB:Xv1 m with
 | true=>
  go_wp2_with fail
  go_ret
  exact ⟨rfl,bC.o.1.then dW.o⟩
 | false=>
 have eA:=Lh (X3z dB)
 clear dB
 obtain ⟨aH,aJ,-,-⟩:=HK.o w3 dW.o
 go_wp2_with fail
 refine (X0v cs _ w.heap.size w3 aJ (HS.o.calss aH)).mono ?_
 rintro e w4 ⟨rfl,fI⟩
 have dK:=Lh (dW.o.then fI)
 clear aH aJ fI
 cases fP:X0f cs with
 | false=>
  go_wp2_with fail
  go_ret
  exact ⟨rfl,bC.o.1.then dK.o⟩
 | true=>
 have dY:=Lh (X34 fP)
 clear fP
 by_cases dP:60<sch.length
 ·have fA:decide (60<sch.length)=true:=by simpa using dP
  have fB:decide (60<(sch.length:Int))=true:=by simp;omega
  go_wp2_with fail
  go_ret
  exact ⟨rfl,bC.o.1.then dK.o⟩
 have fA:decide (60<sch.length)=false:=by simpa using dP
 have fB:decide (60<(sch.length:Int))=false:=by simp;omega
 have gF:=Lh dP
 clear dP
 obtain ⟨aH,aJ,⟨c0,c1,c2,zc⟩,⟨m0,m1,zm⟩⟩:=HK.o w4 dK.o
 go_wp2_with fail
 refine (X1o c m cs k _ _ _ w4 (HL.o.below aH) ((HC.o.below aH).up aJ) ((HM.o.below aH).up aJ) ((HS.o.calss aH).ups (Xvc Xuk) aJ (fun _ _ h=>h)) (by unfold in64;omega) ⟨by have:=eA.o.1;omega,by have:=eA.o.2.1;omega,fun x hx=>by have:=eA.o.2.2 x hx;omega,fun l hl x hx=>by have:=((dY.o.2 l hl).2 x hx).1;omega⟩).mono ?_
 rintro e w5 ⟨aU,hN⟩
 have cT:=Lh (dK.o.then aU)
 clear aH aJ c0 c1 c2 zc m0 m1 zm aU fA fB
 rcases hN with ⟨fW,rfl⟩|⟨fO,v,rfl,hV⟩
 ·have e1:(Xs9 c m cs (k:Int) != 0)=true:=by simpa using fW
  obtain ⟨W5,aL⟩:∃ V,V=w5.alloc (χ Bz 34):=⟨_,rfl⟩
  have hb:Hid (Below w5.heap.size w5 W5):=by rw [aL];exact Lh (Xa _ _)
  have aQ:W5.heap[w5.heap.size]?=some (χ Bz 34 (0,0)):=by rw [aL];exact Hn _ _
  obtain ⟨⟨x0,x1,x2,x3,x4,x5,x6,x7,x8,x9⟩,-,xz⟩:=ten aQ
  clear fW aQ
  go_upto_region 6 with fail
  rw [<-aL]
  clear aL
  go_wp2_with fail
  go_ret
  exact ⟨rfl,(bC.o.1.then cT.o).then hb.o⟩
 obtain ⟨gS,fE,gQ,gR,eI,eK⟩:=new_all fO
 have iK:=Lh fE
 obtain ⟨s,hs⟩:∃ s,s=Xtb m (k:Int) cs:=⟨_,rfl⟩
 rw [<-hs] at hV eI eK
 have eS:=Lh eI
 have eZ:=Lh eK
 have bV:=Lh hs
 obtain ⟨ga,gc,ma,mc,ra,rc,ka,kc,ca,cc,oa,oc,ba,bc,ea,ec,rfl⟩:=hV.open_
 have HV:=Lh hV
 clear fO gS fE gQ gR eI eK hs hV
 obtain ⟨bs,bR⟩:∃ b,b=w5.heap.size:=⟨_,rfl⟩
 obtain ⟨W5,aL⟩:∃ V,V=w5.alloc (χ (Bt ga gc ma mc ra rc ka kc ca cc oa oc ba bc ea ec s) 34):=⟨_,rfl⟩
 obtain ⟨g,hg⟩:∃ b,b=W5.heap.size:=⟨_,rfl⟩
 obtain ⟨W6,aM⟩:∃ V,V=W5.alloc (χ (Xx (List.replicate cs.length 0)) 3):=⟨_,rfl⟩
 have hJ:(Instr.makeSlice 22 (ι (cs.length:Int)) (ι (cs.length:Int))).run Tryz.prog W5=.ok (σ (some (π W5.heap.size 0)) cs.length cs.length) (W5.alloc (χ (Xx (List.replicate cs.length 0)) 3)):=by
  rw [Xe7 _ _ (by have:=dY.o.1;omega)]
  simp [Xx,Js]
 have HZ:Hid (W5.heap.size=w5.heap.size+1/\W6.heap.size=w5.heap.size+2):=Lh (by rw [aM,aL];simp)
 have fF:TmR c m cs.length w bs g (Bc fa fc qa qc c) (Bm va vc na nc m) 0 s (List.replicate cs.length 0) (Bt ga gc ma mc ra rc ka kc ca cc oa oc ba bc ea ec s) W6:=by
  have aR:Below w5.heap.size w5 W6:=by rw [aM,aL];exact (Xa _ _).then (Xa _ _)
  have aX:=cT.o.then aR
  have h1:=bC.o.2
  have h2:=cT.o.size
  have hz:=HZ.o
  have hw:=HK.o W6 aX
  refine ⟨hw.1,Yk aX HR.o.1,Yk aX HR.o.2,?_,fun U hU hk=>?_,?_,ψ,by rw [bV.o];simp [Xtb],eS.o,fun t b e hb he=>?_,eZ.o,?_,fun x hx=>?_,by rw [bV.o];simp [Xtb],by rw [bV.o];rfl,ω,ω,ω⟩
  ·rw [aM,bR,Ha _ _ _ ω,aL];exact Hn _ _
  ·have fG:Below w5.heap.size w5 U:=⟨hU.os.trans aR.os,hU.tape.trans aR.tape,hU.output.trans aR.output,Nt aR.size hU.size,fun b hb=>(hk b ω ω ω).trans (aR.block b hb)⟩
   exact (HV.o.below fG).ups fG.size (fun _ _ h=>h)
  ·rw [aM,hg];exact Hn _ _
  ·rw [bV.o] at hb
   have:=Xvn hb
   subst this
   rfl
  ·rw [bV.o];simp [Xtb]
  ·have:=(List.mem_replicate.1 hx).2
   omega
 have eW:=Lh fF
 have aQ:W5.heap[bs]?=some (χ (Bt ga gc ma mc ra rc ka kc ca cc oa oc ba bc ea ec s) 34 (0,0)):=by rw [aL,bR];exact Hn _ _
 obtain ⟨⟨x0,x1,x2,x3,x4,x5,x6,x7,x8,x9⟩,-,xz⟩:=ten aQ
 clear fF aQ HZ
 go_upto_region 8 with fail
 rw [<-bR,<- aL]
 clear aL bR
 go_upto_region 9 with fail
 rw [<-aM,<- hg]
 clear aM hg hJ x0 x1 x2 x3 x4 x5 x6 x7 x8 x9 xz
 go_wp2_with fail
 go_loopw [66] (fun i wr=>∃ n:Nat,n<=sch.length/\i=ι n/\Hid (∃ (s:Thr) (cnt:List Int) (ga:Option Addr) (gc:Nat) (ma:Option Addr) (mc:Nat) (ra:Option Addr) (rc:Nat) (ka:Option Addr) (kc:Nat) (ca:Option Addr) (cc:Nat) (oa:Option Addr) (oc:Nat) (ba:Option Addr) (bc:Nat) (ea:Option Addr) (ec:Nat),TmR c m cs.length w bs g (Bc fa fc qa qc c) (Bm va vc na nc m) n s cnt (Bt ga gc ma mc ra rc ka kc ca cc oa oc ba bc ea ec s) wr)) (fun i _=>sch.length - (intOf i).toNat)
 case atStart=>exact ⟨0,Nat.zero_le _,rfl,Lh ⟨_,_,_,_,_,_,_,_,_,_,_,_,_,_,_,_,_,_,eW.o⟩⟩
 case round=>
  clear eW HV eZ eS bV
  obtain ⟨n,hn,rfl,fZ⟩:=hrel
  obtain ⟨s,cnt,ga,gc,ma,mc,ra,rc,ka,kc,ca,cc,oa,oc,ba,bc,ea,ec,hR⟩:=fZ.o
  obtain ⟨V,rfl⟩:∃ V:World,V=wr:=⟨_,rfl⟩
  have HT:=Lh hR
  have bJ:Hid (∀ V',Below w.heap.size w V'->Qa V'/\Yj V'.heap.size V' (.agg (Bc fa fc qa qc c)) c):=Lh (fun V' eJ=>⟨HL.o.below eJ,(HC.o.below eJ).up eJ.size⟩)
  clear fZ hR
  by_cases hM:n<sch.length
  rotate_left
  ·obtain rfl:n=sch.length:=ω
   obtain ⟨⟨x0,x1,x2,x3,x4,x5,x6,x7,x8,x9⟩,-,xz⟩:=ten HT.o.st
   obtain ⟨⟨c0,c1,c2⟩,-,zc⟩:=acc3 HT.o.code
   have fQ:¬((sch.length:Int)<(sch.length:Int)):=ω
   have fR:=HT.o.cl
   rw [<-fR]
   clear fR
   go_wp2_with fail
   clear x0 x1 x2 x3 x4 x5 x6 x7 x8 x9 xz c0 c1 c2 zc fQ
   go_loopw [242,23] (fun i tt wr=>∃ q:Nat,q<=cnt.length/\i=ι q/\tt=ι ((cnt.take q).sum)/\Hid (wr=V)) (fun i _ _=>cnt.length - (intOf i).toNat)
   case atStart=>exact ⟨0,Nat.zero_le _,rfl,ψ,Lh rfl⟩
   case round=>
    as_aux_lemma=>
     obtain ⟨q,hq,rfl,rfl,hw⟩:=hrel
     have fX:=sum_take (fun x hx=>(HT.o.cnn x hx).1) q
     have cI:=HT.o.sum
     have gA:=HT.o.stp
     rw [hw.o]
     by_cases hT:q<cnt.length
     ·obtain ⟨x,hx⟩:∃ y,cnt[q]?=some y:=⟨_,Lg hT⟩
      have dU:V.cell? (π g q)=some (ι x):=by rw [cell_of_row _ _ _ _ _ _ HT.o.row];exact Qe hx
      have zg:=Bl dU
      have iF:=HT.o.cnn x (Lm hx)
      have iA:IntKind.i64.wrap ((cnt.take q).sum+x)=(cnt.take q).sum+x:=by rw [IntKind.wrap_i64];omega
      have gI:=Lh (sum_next hx)
      have hG:(0:Int)<=(q:Int):=In _
      have hH:(q:Int)<(cnt.length:Int):=ω
      have hQ:cnt.length<=10:=by rw [HT.o.cl];exact dY.o.1
      clear hx iF fX cI gA
      go_wp2_with fail
      go_roundw
      case rel=>exact ⟨q+1,ω,by go_num,by rw [gI.o],Lh (by trivial)⟩
      case measure=>simp [intOf];omega
     ·obtain rfl:q=cnt.length:=ω
      obtain ⟨⟨x0,x1,x2,x3,x4,x5,x6,x7,x8,x9⟩,-,xz⟩:=ten HT.o.st
      have eM:Hid ((s.step == cnt.sum)=true):=Lh (by simpa using cI)
      have fQ:¬((cnt.length:Int)<(cnt.length:Int)):=ω
      clear fX cI gA
      go_wp2_with fail
      go_ret
      exact ⟨congrArg (fun b=>Ending.returned (.bool b)) eM.o,HT.o.bel⟩
  obtain ⟨tv,gB⟩:∃ y,sch[n]?=some y:=⟨_,Lg hM⟩
  obtain ⟨iN,iS,rfl,iH,fL,dI⟩:=(gL.o.ints HT.o.bel).nth gB
  rw [Nat.mul_one] at fL
  have hG:(0:Int)<=(n:Int):=In _
  have hH:(n:Int)<(sch.length:Int):=ω
  have hK:n<60:=by have:=gF.o;omega
  have iJ:=Lh dI
  obtain ⟨⟨x0,x1,x2,x3,x4,x5,x6,x7,x8,x9⟩,-,xz⟩:=ten HT.o.st
  obtain ⟨⟨c0,c1,c2⟩,-,zc⟩:=acc3 HT.o.code
  clear gB dI
  go_wp2_with fail
  refine (tNext_any c _ _ s tv V (bJ.o V HT.o.bel).1 cY.o (bJ.o V HT.o.bel).2 HT.o.thr).mono ?_
  rintro e w1 ⟨aG,hN⟩
  have eX:=Lh (HT.o.keep aG)
  have dJ:=Lh aG
  clear aG x0 x1 x2 x3 x4 x5 x6 x7 x8 x9 xz c0 c1 c2 zc fL
  by_cases aC:Xsl s tv=0
  rotate_left
  ·obtain ⟨a1,gU,rfl⟩:∃ a1:Value,a1=.agg #[ι 0,ι 0,ι 0]/\e=.returned (.tuple #[a1,ι (Xsl s tv)]):=by
    rcases hN with ⟨h,-⟩|⟨-,-,h⟩|⟨-,h,-⟩
    ·exact absurd HT.o.val h
    ·exact ⟨_,rfl,h⟩
    ·exact absurd h aC
   subst gU
   obtain ⟨W1,bD⟩:∃ V,V=w1.alloc (χ #[ι 0,ι 0,ι 0] 64):=⟨_,rfl⟩
   have aF:Hid (TmR c m cs.length w bs g (Bc fa fc qa qc c) (Bm va vc na nc m) n s cnt (Bt ga gc ma mc ra rc ka kc ca cc oa oc ba bc ea ec s) W1):=by rw [bD];exact Lh (eX.o.keep (Xa _ _))
   go_upto_region 13 with fail
   rw [<-bD]
   clear bD
   obtain ⟨⟨x0,x1,x2,x3,x4,x5,x6,x7,x8,x9⟩,-,xz⟩:=ten aF.o.st
   obtain ⟨⟨c0,c1,c2⟩,-,zc⟩:=acc3 aF.o.code
   go_wp2_with fail
   refine (X3v c _ _ s tv W1 (bJ.o W1 aF.o.bel).1 cY.o (bJ.o W1 aF.o.bel).2 aF.o.thr).mono ?_
   rintro e w2 ⟨aB,hS⟩
   have bW:=Lh (aF.o.keep aB)
   clear aB x0 x1 x2 x3 x4 x5 x6 x7 x8 x9 xz c0 c1 c2 zc hN
   obtain rfl:e=.returned (.tuple #[.agg Bz,ι (Xsl s tv)]):=by
    rcases hS with ⟨h,-⟩|⟨-,-,h⟩|⟨-,h,-⟩|⟨-,h,-⟩
    ·exact absurd HT.o.val h
    ·exact h
    ·exact absurd h aC
    ·exact absurd h aC
   obtain ⟨W2,bE⟩:∃ V,V=w2.alloc (χ Bz 34):=⟨_,rfl⟩
   have bB:Hid (TmR c m cs.length w bs g (Bc fa fc qa qc c) (Bm va vc na nc m) n s cnt (Bt ga gc ma mc ra rc ka kc ca cc oa oc ba bc ea ec s) W2):=by rw [bE];exact Lh (bW.o.keep (Xa _ _))
   have d1:(Xsl s tv != Xsl s tv)=false:=by simp
   have d2:(Xsl s tv != 0)=true:=by simpa using aC
   clear hS aC
   go_upto_region 14 with fail
   rw [<-bE]
   clear bE
   go_wp2_with fail
   go_roundw
   case rel=>exact ⟨n+1,ω,by go_num,Lh ⟨_,_,_,_,_,_,_,_,_,_,_,_,_,_,_,_,_,_,bB.o.up⟩⟩
   case measure=>simp [intOf];omega
  obtain ⟨tn,rfl⟩:∃ tn:Nat,tv=tn:=⟨tv.toNat,Xz6 aC⟩
  obtain ⟨iU,mh,iW,fT,fC,rfl⟩:∃ m0 m1 s1,s.running[tn]?=some m0/\X1l c s tn m0 m1 s1/\e=.returned (.tuple #[.agg #[ι (nextA s m1).kind,ι (nextA s m1).node,ι (nextA s m1).field],ι 0]):=by
   rcases hN with ⟨h,-⟩|⟨-,h,-⟩|⟨-,-,m0,m1,s1,h1,h2,h3⟩
   ·exact absurd HT.o.val h
   ·exact absurd aC h
   ·exact ⟨m0,m1,s1,h1,h2,h3⟩
  obtain ⟨⟨ak,an,af⟩,bQ⟩:∃ q,q=nextA s mh:=⟨_,rfl⟩
  rw [<-bQ]
  have dV:=Lh bQ
  have eR:=Lh (And.intro fT fC)
  dsimp only
  obtain ⟨W1,bD⟩:∃ V,V=w1.alloc (χ #[ι ak,ι an,ι af] 64):=⟨_,rfl⟩
  obtain ⟨cZ,aW⟩:∃ b,b=w1.heap.size:=⟨_,rfl⟩
  have aF:Hid (TmR c m cs.length w bs g (Bc fa fc qa qc c) (Bm va vc na nc m) n s cnt (Bt ga gc ma mc ra rc ka kc ca cc oa oc ba bc ea ec s) W1):=by rw [bD];exact Lh (eX.o.keep (Xa _ _))
  have gK:Hid (W1.heap[cZ]?=some (χ #[ι ak,ι an,ι af] 64 (0,0))):=Lh (by rw [bD,aW];exact Hn _ _)
  have dX:Hid (g<cZ):=Lh (by rw [aW];exact Nl (La HT.o.row) dJ.o.size)
  have cV:=Lh aC
  go_upto_region 13 with fail
  rw [<-bD,<- aW]
  clear bD aW hN bQ fT fC aC
  obtain ⟨⟨x0,x1,x2,x3,x4,x5,x6,x7,x8,x9⟩,-,xz⟩:=ten aF.o.st
  obtain ⟨⟨c0,c1,c2⟩,-,zc⟩:=acc3 aF.o.code
  go_wp2_with fail
  refine (X3v c _ _ s tn W1 (bJ.o W1 aF.o.bel).1 cY.o (bJ.o W1 aF.o.bel).2 aF.o.thr).mono ?_
  rintro e w2 ⟨aB,hS⟩
  clear x0 x1 x2 x3 x4 x5 x6 x7 x8 x9 xz c0 c1 c2 zc
  obtain ⟨s',v,hR,rfl,hO⟩:∃ s' v,Xsq c s tn s'/\e=.returned (.tuple #[v,ι 0])/\Own2 W1.heap.size w2 v s':=by
   rcases hS with ⟨h,-⟩|⟨-,h,-⟩|⟨-,-,h,-⟩|⟨-,-,-,s',v,h1,h2,h3⟩
   ·exact absurd HT.o.val h
   ·exact absurd cV.o h
   ·have:=HT.o.stp;omega
   ·exact ⟨s',v,by simpa using h1,h2,h3⟩
  obtain ⟨cD,cE,cM,cN,cQ,cR,cK,cL,bZ,cA,cO,cP,bX,bY,cB,cC,rfl⟩:=hO.self.open_
  obtain ⟨eH,dA,fH,dH,dF,bP⟩:=step_all HT.o.inv HT.o.tim HT.o.val hR eR.o.1 eR.o.2 (by have:=HT.o.stp;omega)
  rw [<-dV.o] at bP
  have aY:s'.mem.globals.length=s.mem.globals.length:=by
   have h1:=eH.mem.gl
   have h2:=HT.o.inv.mem.gl
   omega
  obtain ⟨W2,bE⟩:∃ V,V=w2.alloc (χ (Bt cD cE cM cN cQ cR cK cL bZ cA cO cP bX bY cB cC s') 34):=⟨_,rfl⟩
  obtain ⟨bx,dS⟩:∃ b,b=w2.heap.size:=⟨_,rfl⟩
  have eL:Below w2.heap.size w2 W2:=by rw [bE];exact Xa _ _
  have bT:=Lh (aB.then eL)
  have eU:=Lh (hO.up eL)
  have bW:=Lh (aF.o.keep bT.o)
  have eV:Hid (W2.heap[bx]?=some (χ (Bt cD cE cM cN cQ cR cK cL bZ cA cO cP bX bY cB cC s') 34 (0,0))):=Lh (by rw [bE,dS];exact Hn _ _)
  have eD:=Lh (Yk bT.o gK.o)
  have aK:=Lh (And.intro eH (And.intro dA (And.intro fH (And.intro dH (And.intro dF (And.intro aY bP))))))
  have bU:Hid (bs<W1.heap.size/\g<W1.heap.size/\W1.heap.size<=bx):=Lh ⟨(La aF.o.st),(La aF.o.row),by rw [dS];exact aB.size⟩
  clear hS hR hO aB eL eH dA fH dH dF aY bP
  go_upto_region 14 with fail
  rw [<-bE,<- dS]
  clear bE dS
  have hZ:(tn:Int)<(cs.length:Int):=by
   have h:=cV.o
   have h2:=HT.o.rl
   unfold Xsl at h
   by_cases h3:(s.running.length:Int)<=(tn:Int)
   ·rw [if_neg ω,if_pos h3] at h;cases h
   ·omega
  have hY:(0:Int)<=(tn:Int):=In _
  have gW:decide ((tn:Int)<0)=false:=by simp
  have gX:decide ((cs.length:Int)<=(tn:Int))=false:=by simp;omega
  have gY:decide (cs.length<=tn)=false:=by simp;omega
  have iD:IntKind.i64.wrap (s.step+1)=s.step+1:=by rw [IntKind.wrap_i64];have:=HT.o.stp;have:=HT.o.inv.step;omega
  have gZ:(s'.step != s.step+1)=false:=by rw [aK.o.2.2.2.1];simp
  have iH:((0:Int) != 0)=false:=rfl
  obtain ⟨⟨x0,x1,x2,x3,x4,x5,x6,x7,x8,x9⟩,-,xz⟩:=ten bW.o.st
  obtain ⟨⟨y0,y1,y2,y3,y4,y5,y6,y7,y8,y9⟩,-,yz⟩:=ten eV.o
  obtain ⟨⟨c0,c1,c2⟩,-,zc⟩:=acc3 bW.o.code
  go_wp2_with fail
  refine (rValid_any c _ s' _ W2.heap.size W2 (Nr _) cY.o (bJ.o W2 bW.o.bel).2 eU.o.self).mono ?_
  rintro e w3 ⟨rfl,bF⟩
  rw [Kh aK.o.2.2.1]
  have bB:=Lh (bW.o.keep bF)
  have cW:=Lh (eU.o.up bF)
  have cX:=Lh (Yk bF eV.o)
  have eE:=Lh (Yk bF eD.o)
  clear bF x0 x1 x2 x3 x4 x5 x6 x7 x8 x9 xz y0 y1 y2 y3 y4 y5 y6 y7 y8 y9 yz c0 c1 c2 zc gZ
  obtain ⟨x,hx⟩:∃ y,cnt[tn]?=some y:=⟨_,Lg (by have:=HT.o.cl;omega)⟩
  have dU:w3.cell? (π g tn)=some (ι x):=by rw [cell_of_row _ _ _ _ _ _ bB.o.row];exact Qe hx
  have iG:w3.frozen? (π g tn)=false:=Fz bB.o.row
  have zg:=Bl dU
  have iE:IntKind.i64.wrap (x+1)=x+1:=by rw [IntKind.wrap_i64];have:=HT.o.cnn x (Lm hx);omega
  have gO:=Lh hx
  obtain ⟨W4,cF⟩:∃ V,V=w3.setCell (π g tn) (ι (x+1)):=⟨_,rfl⟩
  have dL:Hid (∀ b,b≠g->W4.heap[b]?=w3.heap[b]?):=Lh (fun b hb=>by rw [cF];exact heap_setCell_other _ _ _ _ hb)
  have eF:Hid (W4.heap.size=w3.heap.size):=Lh (by rw [cF];simp)
  have bM:Hid (∀ U,Below W4.heap.size W4 U->Below 0 w3 U/\Xsd W4.heap.size U (.agg (Bt ga gc ma mc ra rc ka kc ca cc oa oc ba bc ea ec s)) s):=Lh (fun U hU=>by
   obtain ⟨k1,k2⟩:=bB.o.tick tn (ι (x+1))
   rw [<-cF] at k1 k2
   rw [<-eF.o] at k2
   exact ⟨k1.trans (hU.mono (Nat.zero_le _)),k2.below hU⟩)
  have gN:=Lh cF
  have dO:Hid (∀ U,Below W4.heap.size W4 U->Xsd U.heap.size U (.agg (Bt cD cE cM cN cQ cR cK cL bZ cA cO cP bX bY cB cC s')) s'):=Lh (fun U hU=>cW.o U (bM.o U hU).1 (fun b h1 h2=>by
   have h3:=bU.o
   rw [hU.block b (by have:=eF.o;omega),dL.o b ω]))
  have bK:Hid (cZ≠g/\bx≠g/\bs≠g/\w.heap.size≠g/\w.heap.size+1≠g):=Lh (by
   have h1:=bU.o
   have h2:=HT.o.ne
   have h3:=dX.o
   omega)
  have aA:Hid (W4.heap[cZ]?=some (χ #[ι ak,ι an,ι af] 64 (0,0))/\W4.heap[bx]?=some (χ (Bt cD cE cM cN cQ cR cK cL bZ cA cO cP bX bY cB cC s') 34 (0,0))/\W4.heap[bs]?=some (χ (Bt ga gc ma mc ra rc ka kc ca cc oa oc ba bc ea ec s) 34 (0,0))):=Lh ⟨by rw [dL.o _ bK.o.1];exact eE.o,by rw [dL.o _ bK.o.2.1];exact cX.o,by rw [dL.o _ bK.o.2.2.1];exact bB.o.st⟩
  obtain ⟨⟨y0,y1,y2,y3,y4,y5,y6,y7,y8,y9⟩,-,yz⟩:=ten cX.o
  have fU:=bB.o.box
  have m0:=Cw fU 0 rfl
  have zm:=Bl m0
  have hF:((s'.mem.globals.length:Int) != (m.globals.length:Int))=false:=by rw [aK.o.2.2.2.2.2.1,HT.o.gl];simp
  have aY:(s'.mem.globals.length != m.globals.length)=false:=by rw [aK.o.2.2.2.2.2.1,HT.o.gl];simp
  clear hx fU
  go_upto_region 20 with fail
  rw [<-cF]
  clear cF y0 y1 y2 y3 y4 y5 y6 y7 y8 y9 yz m0 zm hF aY dU iG zg iE gW gX gY iD hZ hY
  obtain ⟨⟨a0,a1,a2⟩,-,za⟩:=acc3 aA.o.1
  go_upto_block 2 with fail
  clear a0 a1 a2 za
  go_cut [135] (fun _ wx=>Hid (Below W4.heap.size W4 wx))
  case first=>
   obtain ⟨⟨a0,a1,a2⟩,-,za⟩:=acc3 aA.o.1
   obtain ⟨⟨y0,y1,y2,y3,y4,y5,y6,y7,y8,y9⟩,-,yz⟩:=ten aA.o.2.1
   obtain ⟨⟨x0,x1,x2,x3,x4,x5,x6,x7,x8,x9⟩,-,xz⟩:=ten aA.o.2.2
   rcases aK.o.2.2.2.2.2.2 with ⟨h1,h2,h3⟩|⟨h1,hP⟩|⟨h1,h2,h3⟩
   ·obtain rfl:ak=3:=h1
    have e1:(an != (s.mem.nodes.length:Int)+1)=false:=by have:an=(s.mem.nodes.length:Int)+1:=h2;simp [this]
    have e2:((s'.mem.nodes.length:Int) != an)=false:=by have:(s'.mem.nodes.length:Int)=an:=h3;simp [this]
    have iA:IntKind.i64.wrap ((s.mem.nodes.length:Int)+1)=(s.mem.nodes.length:Int)+1:=by rw [IntKind.wrap_i64];have:=HT.o.inv.mem.len;omega
    clear h2 h3
    go_wp2_with fail
    go_meet
    case rel=>exact Lh Br
   ·obtain rfl:ak=2:=h1
    obtain ⟨r,vw,rfl,rfl,cH,dE,bS,aP,fY⟩:=hP
    obtain ⟨q1,q2,q3,q4⟩:=setM_back (v:=vw) cH bS aP
    rw [<-fY] at q1 q2 q3 q4
    obtain ⟨f,hf⟩:∃ f:Nat,r.field=f:=⟨r.field.toNat,ω⟩
    have aN:r.field.toNat=f:=ω
    have ok:=aK.o.2.2.1.copyOk cY.o
    have e1:((s'.mem.nodes.length:Int) != (s.mem.nodes.length:Int))=false:=by rw [q3];simp
    have e2:(s'.mem.nodes.length != s.mem.nodes.length)=false:=by rw [q3];simp
    have e3:decide (r.node<0)=false:=by simpa using cH
    have e4:decide ((s'.mem.nodes.length:Int)<r.node)=false:=by rw [q3];simpa using dE
    have eC:=Lh (And.intro cH (And.intro dE (And.intro bS (And.intro aP (And.intro hf (And.intro aN (And.intro q1 q2)))))))
    have HQ:=Lh (And.intro q3 q4)
    have dM:=Lh ok
    clear cH dE bS aP fY q1 q2 q3 q4 hf aN ok
    go_wp2_with fail
    refine (rCopy12_any s'.mem _ W4.heap.size W4 (Nr _) ⟨_,_,rfl,(dO.o W4 Br).parts.1,(dO.o W4 Br).parts.2.1⟩ dM.o.g dM.o.n dM.o.f).mono ?_
    rintro e w5 ⟨gb,bN,nb,bG,rfl,aU,fD⟩
    obtain ⟨c1,nx,hC,dQ⟩:=fD (fun _=>0) (fun _ _=>rfl)
    obtain ⟨W6,aM⟩:∃ V,V=w5.alloc (χ (Bm gb bN nb bG s'.mem) 28):=⟨_,rfl⟩
    obtain ⟨bb,aX⟩:∃ b,b=w5.heap.size:=⟨_,rfl⟩
    have aR:Below w5.heap.size w5 W6:=by rw [aM];exact Xa _ _
    have bA:=Lh (aU.then aR)
    have dN:Hid (W6.heap[bb]?=some (χ (Bm gb bN nb bG s'.mem) 28 (0,0))/\W4.heap.size<=bb):=Lh ⟨by rw [aM,aX];exact Hn _ _,by rw [aX];exact aU.size⟩
    have dZ:Hid (∀ U,Below W6.heap.size W6 U->Xxp U c1 s'.mem (σ gb s'.mem.globals.length bN) (σ nb s'.mem.nodes.length bG) nx):=Lh (fun U hU=>by
     have hb:=aR.then hU
     exact dQ.keep (T:=NO) (Chg.of_below hb (no 0)) (fun b h=>dQ.hi b (Nt hb.size h)) (fun t ht=>ht.elim))
    have eT:Hid (∀ b,c1 b≠0->W4.heap.size<=b/\b≠bb):=Lh (fun b hb=>⟨Nat.le_of_not_lt fun h=>hb (hC.old b h),fun e=>hb (dQ.hi b (Nat.le_of_eq (by rw [e,aX])))⟩)
    clear fD hC dQ aU aR x0 x1 x2 x3 x4 x5 x6 x7 x8 x9 xz y0 y1 y2 y3 y4 y5 y6 y7 y8 y9 yz a0 a1 a2 za e1 e2 e3 e4
    go_upto_region 30 with fail
    rw [<-aM,<- aX]
    clear aM aX
    have dG:=Yk bA.o aA.o.2.2
    obtain ⟨⟨x0,x1,x2,x3,x4,x5,x6,x7,x8,x9⟩,-,xz⟩:=ten dG
    have p0:=Cw dN.o.1 0 rfl
    have zp:=Bl p0
    go_quiet (fail)
    obtain ⟨A,hA⟩:∃ V,V=W6.drewN nq:=⟨_,rfl⟩
    have fK:Below W6.heap.size W6 A:=by rw [hA];exact Xh Br nq
    rw [<-hA]
    have bI:=Lh fK
    clear hA fK dG x0 x1 x2 x3 x4 x5 x6 x7 x8 x9 xz p0 zp
    by_cases dT:r.node=0
    case' pos=>
     obtain ⟨A2,bO⟩:∃ V,V=A:=⟨_,rfl⟩
     have aD:Hid (Below W6.heap.size W6 A2):=by rw [bO];exact bI
     rw [<-bO]
     clear bO
     obtain ⟨-,-,-,aP,hf,aN,q1,q2⟩:=eC.o
     rw [Xv5 dT] at aP q1
     rw [Xv5 dT,Xv5 dT] at q2
     have aS:f<s'.mem.globals.length:=ω
     obtain ⟨bt,kt,hD,tc,gE,tf,⟨eQ,bH⟩,aO⟩:=(dZ.o A2 aD.o).putG aS
     cases hD
     obtain ⟨y,hy⟩:∃ y,s.mem.globals[f]?=some y:=⟨_,Lg ω⟩
     obtain ⟨bf,of,rfl,-,fr,aE⟩:=(bM.o A2 (bA.o.then aD.o)).2.parts.1.nth hy
     rw [Nat.mul_one] at fr
     have aI:Hid (MmV A2.heap.size (A2.setCell (π bt f) (ι y)) (.agg (Bm (some (π bt 0)) bN nb bG s'.mem)) s.mem):=Lh (by
      have:=aO y aE
      have e:Xw6 s'.mem r ((s.mem.globals).getD r.field.toNat 0)={ s'.mem with globals:=s'.mem.globals.set f y }:=by
       unfold Xw6
       rw [if_neg ω,aN,List.getD_eq_getElem?_getD,hy]
       rfl
      rw [<-e,q1] at this
      exact this)
     obtain ⟨b1,aG,bL⟩:∃ b1:Value,b1=σ (some (π bt 0)) s'.mem.globals.length bN/\Hid (W6.heap[bb]?=some (χ #[b1,σ nb s'.mem.nodes.length bG] 28 (0,0))):=⟨_,rfl,Lh dN.o.1⟩
     obtain ⟨b2,aB⟩:∃ b2:Value,b2=σ nb s'.mem.nodes.length bG:=⟨_,rfl⟩
     replace aI:Hid (MmV A2.heap.size (A2.setCell (π bt f) (ι y)) (.agg #[b1,b2]) s.mem):=by rw [aG,aB];exact aI
     rw [<-aB] at bL
     have gH:=Lh (And.intro aG aB)
     obtain ⟨nt,dD⟩:∃ n,n=s'.mem.globals.length:=⟨_,rfl⟩
     have dC:s.mem.globals.length=nt:=ω
     have eB:=Lh (eT.o bt tc)
     obtain ⟨⟨a0,a1,a2⟩,-,za⟩:=acc3 (Yk (bA.o.then aD.o) aA.o.1)
     rw [dT] at a1
     rw [hf] at a2
     rw [<-dD] at aS ⊢
     rw [dC]
     have e6:decide ((f:Int)<0)=false:=by simp
     have e7:decide ((nt:Int)<=(f:Int))=false:=by simp;omega
     have e8:decide (nt<=f)=false:=by simp;omega
     have e9:((nt:Int) != (nt:Int))=false:=by simp
     have j0:(0:Int)<=(f:Int):=In _
     have j1:(f:Int)<(nt:Int):=ω
     clear aP hf aN q1 q2 aO hy aE dD dC tc aG aB
     go_upto_region 35 with fail
    case' neg=>
     obtain ⟨i,hi⟩:∃ i:Nat,r.node=(i:Int)+1:=⟨(r.node - 1).toNat,by have:=eC.o.1;omega⟩
     obtain ⟨cH,dE,bS,aP,hf,aN,q1,q2⟩:=eC.o
     have cJ:(r.node - 1).toNat=i:=ω
     obtain ⟨y0,aZ⟩:=Xyn ω bS aP
     obtain ⟨y1,aT⟩:=Xyn (m:=s'.mem) (r:=r) ω bS (by rw [q2];exact aP)
     rw [Xw4 ω aZ] at aP q1
     rw [Xw4 ω aZ,Xw4 ω aT] at q2
     rw [cJ] at aZ aT
     have aS:f<y1.f.length:=ω
     obtain ⟨gC,nk,bt,kt,eO,cS,tc,-,-,-,-⟩:=(dZ.o A bI.o).putN aT aS
     cases eO
     obtain ⟨y,hy⟩:∃ y,y0.f[f]?=some y:=⟨_,Lg ω⟩
     obtain ⟨bn,on,rfl,-,-,⟨lv,n1,n2⟩,-⟩:=(bM.o A (bA.o.then bI.o)).2.parts.2.1.nth aZ
     obtain ⟨lf,lk,rfl⟩:=n2.fm
     obtain ⟨bf,of,rfl,-,eG,aE⟩:=n2.nth hy
     have dG:=Yk (bA.o.then bI.o) aA.o.2.2
     obtain ⟨⟨x0,x1,x2,x3,x4,x5,x6,x7,x8,x9⟩,-,xz⟩:=ten dG
     have p1:=Cw ((Yk bI.o dN.o.1)) 1 rfl
     have zp:=Bl p1
     have zn:=Bl n1
     have zt:=Bl cS
     obtain ⟨⟨a0,a1,a2⟩,-,za⟩:=acc3 (Yk (bA.o.then bI.o) aA.o.1)
     rw [hi] at a1
     have e5:decide (0<(i:Int)+1)=true:=decide_eq_true ω
     have iQ:i<4096:=by have:=dM.o.n;have:=(Ll aT);omega
     have iB:IntKind.i64.wrap ((i:Int)+1 - 1)=(i:Int):=by rw [IntKind.wrap_i64]<;>omega
     have iC:IntKind.i64.wrap (i:Int)=(i:Int):=by rw [IntKind.wrap_i64];omega
     have i0:(0:Int)<=(i:Int):=In _
     have i1:(i:Int)<(s'.mem.nodes.length:Int):=by have:=(Ll aT);omega
     have i2:(i:Int)<(s.mem.nodes.length:Int):=by have:=(Ll aZ);omega
     have HY:=Lh (And.intro aZ (And.intro aT (And.intro hy (And.intro q1 (And.intro q2 (And.intro aN (And.intro hf (And.intro cJ (And.intro aE (And.intro aS hi))))))))))
     rw [Nat.mul_one] at eG
     have eY:=Lh (And.intro cS eG)
     clear cH dE bS aP hf aN q1 q2 cJ aZ aT hy aE aS n2 eG dG tc hi
     go_upto_region 32 with fail
     go_quiet (fail)
     obtain ⟨A2,bO⟩:∃ V,V=A.drewN nq:=⟨_,rfl⟩
     have aV:Below A.heap.size A A2:=by rw [bO];exact Xh Br nq
     rw [<-bO]
     have aD:=Lh (bI.o.then aV)
     have gD:=Xc aV eY.o.1
     have fr:=Xc aV eY.o.2
     clear bO aV x0 x1 x2 x3 x4 x5 x6 x7 x8 x9 xz p1 zp zn zt a0 a1 a2 za n1 cS e5 iB iC i0 i1 i2
     obtain ⟨aZ,aT,hy,q1,q2,aN,hf,cJ,aE,aS,hi⟩:=HY.o
     obtain ⟨iI,iV,iL,iT,eO,cS,tc,gE,tf,⟨eQ,bH⟩,aO⟩:=(dZ.o A2 aD.o).putN aT aS
     cases eO
     rw [gD] at cS
     cases cS
     have aI:Hid (MmV A2.heap.size (A2.setCell (π bt f) (ι y)) (.agg (Bm gb bN (some (π gC 0)) bG s'.mem)) s.mem):=Lh (by
      have:=aO y aE
      have e:Xw6 s'.mem r (y0.f.getD r.field.toNat 0)={ s'.mem with nodes:=s'.mem.nodes.modify i (fun z=>Xem z f y) }:=by
       unfold Xw6
       rw [if_pos ω,cJ,aN,List.getD_eq_getElem?_getD,hy]
       rfl
      rw [<-e,q1] at this
      exact this)
     obtain ⟨b1,aG⟩:∃ b1:Value,b1=σ gb s'.mem.globals.length bN:=⟨_,rfl⟩
     obtain ⟨b2,aB⟩:∃ b2:Value,b2=σ (some (π gC 0)) s'.mem.nodes.length bG:=⟨_,rfl⟩
     have bL:Hid (W6.heap[bb]?=some (χ #[b1,b2] 28 (0,0))):=by rw [aG,aB];exact Lh dN.o.1
     replace aI:Hid (MmV A2.heap.size (A2.setCell (π bt f) (ι y)) (.agg #[b1,b2]) s.mem):=by rw [aG,aB];exact aI
     have gH:=Lh (And.intro aG aB)
     obtain ⟨nt,dD⟩:∃ n,n=y1.f.length:=⟨_,rfl⟩
     have dC:y0.f.length=nt:=ω
     have eB:=Lh (eT.o bt tc)
     obtain ⟨⟨a0,a1,a2⟩,-,za⟩:=acc3 (Yk (bA.o.then aD.o) aA.o.1)
     rw [hf] at a2
     rw [<-dD] at aS ⊢
     rw [dC]
     have e6:decide ((f:Int)<0)=false:=by simp
     have e7:decide ((nt:Int)<=(f:Int))=false:=by simp;omega
     have e8:decide (nt<=f)=false:=by simp;omega
     have e9:((nt:Int) != (nt:Int))=false:=by simp
     have j0:(0:Int)<=(f:Int):=In _
     have j1:(f:Int)<(nt:Int):=ω
     clear aZ aT hy q1 q2 aN hf cJ aE hi aO dD dC tc aG aB gD
     go_upto_region 35 with fail
    all_goals
     as_aux_lemma=>
      clear a0 a1 e6 e7 e8 e9
      refine X6 (fun Vs=>Vs.cell? (π cZ 2)=some (ι (f:Int))/\Vs.cell? (π bf (of+f))=some (ι y)) [9] true 10 rfl κ κ ⟨a2,fr⟩ ?_
      repeat (first|(refine' Xr4.take (Eq.refl false) _ (fun wV gT=>?_) ?_;rotate_left;(try dsimp only at gT);go_simp;(try with_reducible rfl);try simp only [Ap])|refine Xr4.skip (Eq.refl true) ?_)
      refine Xr4.stop ?_
      simp only [List.nil_append,List.cons_append]
      clear a2 fr za
      refine X5 κ ?_
      go_simp
      refine Xr3 ?_
      obtain ⟨W8,cG⟩:∃ V,V=(A2.setCell (π bt f) (ι y)).drew:=⟨_,rfl⟩
      rw [<-cG]
      have cU:Hid (Below W4.heap.size W4 W8):=Lh (by rw [cG];exact Xh (Xsb (bA.o.then aD.o) eB.o.1) 1)
      have gJ:Hid (MmV A2.heap.size W8 (.agg #[b1,b2]) s.mem):=Lh (by rw [cG];exact aI.o.below (Xh Br 1))
      have gP:Hid (A2.heap.size<=W8.heap.size):=Lh (by rw [cG];simp)
      have eP:W8.heap[bb]?=some (χ #[b1,b2] 28 (0,0)):=by
       rw [cG]
       exact (heap_setCell_other _ _ _ _ (Ne.symm eB.o.2)).trans (Yk aD.o bL.o)
      obtain ⟨⟨x0,x1,x2,x3,x4,x5,x6,x7,x8,x9⟩,-,xz⟩:=ten (Yk cU.o aA.o.2.2)
      have p0:=Cw eP 0 rfl
      have p1:=Cw eP 1 rfl
      have zp:=Bl p0
      clear cG eP bH tf gE j0 j1 aS
      go_wp2_with fail
      refine (X1j s.mem _ _ A2.heap.size W4.heap.size W8 gP.o cU.o.size gJ.o ⟨_,_,rfl,(bM.o W8 cU.o).2.parts.1,(bM.o W8 cU.o).2.parts.2.1⟩).mono ?_
      rintro e w9 ⟨rfl,fJ⟩
      have gG:=Lh (cU.o.then fJ)
      clear fJ x0 x1 x2 x3 x4 x5 x6 x7 x8 x9 xz p0 p1 zp
      go_wp2_with fail
      go_meet
      case rel=>exact gG
   ·have e3:(ak == 3)=false:=by simpa using h1
    have e2:(ak == 2)=false:=by simpa using h2
    have hE:=Lh h3
    clear h1 h2 h3
    go_wp2_with fail
    refine (X1j s.mem _ _ W4.heap.size W4.heap.size W4 (Nr _) (Nr _) (by rw [<-hE.o];exact ⟨_,_,rfl,(dO.o W4 Br).parts.1,(dO.o W4 Br).parts.2.1⟩) ⟨_,_,rfl,(bM.o W4 Br).2.parts.1,(bM.o W4 Br).2.parts.2.1⟩).mono ?_
    rintro e w5 ⟨rfl,aU⟩
    have cT:=Lh aU
    clear aU x0 x1 x2 x3 x4 x5 x6 x7 x8 x9 xz y0 y1 y2 y3 y4 y5 y6 y7 y8 y9 yz a0 a1 a2 za
    go_wp2_with fail
    go_meet
    case rel=>exact cT
  case rest=>
   have hB:=hcut
   have bR:=Yk hB.o aA.o.2.2
   obtain ⟨⟨y0,y1,y2,y3,y4,y5,y6,y7,y8,y9⟩,-,yz⟩:=ten (Yk hB.o aA.o.2.1)
   obtain ⟨⟨x0,x1,x2,x3,x4,x5,x6,x7,x8,x9⟩,⟨z0,z1,z2,z3,z4,z5,z6,z7,z8,z9⟩,xz⟩:=ten bR
   obtain ⟨W9,dR⟩:∃ V,V=Xr6 wc bs (σ cD s'.mem.globals.length cE) (σ cM s'.mem.nodes.length cN) (ι s'.fuel) (σ cQ s'.running.length cR) (σ cK s'.nodes.length cL) (σ bZ s'.calls.length cA) (σ cO s'.results.length cP) (σ bX s'.begins.length bY) (σ cB s'.ends.length cC) (ι s'.step):=⟨_,rfl⟩
   have gM:Hid (TmR c m cs.length w bs g (Bc fa fc qa qc c) (Bm va vc na nc m) (n+1) s' (cnt.set tn (x+1)) (Bt cD cE cM cN cQ cR cK cL bZ cA cO cP bX bY cB cC s') W9):=Lh (by
    rw [dR]
    exact bB.o.next cW.o ⟨bU.o.1,bU.o.2.1⟩ gO.o (by rw [<-gN.o,<- eF.o];exact hB.o) aK.o.1 aK.o.2.1 aK.o.2.2.1 aK.o.2.2.2.1 aK.o.2.2.2.2.1 aK.o.2.2.2.2.2.1)
   unfold Xr6 at dR
   clear hcut hB bR
   go_upto_region 39 with fail
   rw [<-dR]
   clear dR x0 x1 x2 x3 x4 x5 x6 x7 x8 x9 xz z0 z1 z2 z3 z4 z5 z6 z7 z8 z9 y0 y1 y2 y3 y4 y5 y6 y7 y8 y9 yz
   go_wp2_with fail
   go_roundw
   case rel=>exact ⟨n+1,ω,by go_num,Lh ⟨_,_,_,_,_,_,_,_,_,_,_,_,_,_,_,_,_,_,gM.o⟩⟩
   case measure=>simp [intOf];omega
