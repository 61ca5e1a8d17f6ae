import Derived.Test.YtiejafonjemioaaGreatDoorCpd
import Derived.Test.YtiejafonjemioaaGreatDoorThd
import Derived.Test.YtiejafonjemioaaGreatDoorTh6
set_option maxHeartbeats 4000000
set_option maxRecDepth 100000
set_option linter.unusedVariables false
set_option linter.unusedSimpArgs false
open Go.Value renaming slice→σ
open Go.Obj renaming cells→χ
namespace Go.Proofs.YtiejafonjemioaaGreatDoor
open Go.RowKit
variable {α:Type} {c:Cod} {s:Thr} {t R:Nat} {k n:Int} {m m':Mch} {l:List Cal} {r:List Xr7} {b e:List Int} {w w' W:World} {c':Clr} {V:TV} {v:Value} {x y:α} {f:α->α}
theorem Jb.mil (hs:Xv c) (hsm:Zb c) {g:Fra} {P:Ins->Prop} (h:Jb c g P):g.locals.length<=1000000/\g.stack.length<=1000000:=by
 obtain ⟨y,x,hh,hb,h1,hx,_,hr,hl⟩:=h
 have h2:=Qu (hs.wf hb.fn) (hs.snd hb.fn) hr
 have h3:=hsm y (Lm hb.fn)
 have h4:=((hs.wf hb.fn).pops x (Lm hx)).1
 have aA:=hs.fok hb.fn
 unfold Zr at aA
 have:=hb.loc
 omega
theorem Xse.at_ (h:Xse c s) (ht:t<s.running.length):∃ m n l r b e,s.running[t]?=some m/\s.nodes[t]?=some n/\s.calls[t]?=some l/\s.results[t]?=some r/\s.begins[t]?=some b/\s.ends[t]?=some e/\Xu3 c s m n l r b e:=by
 have h1:=Lg ht
 have h2:=Lg (l:=s.nodes) (i:=t) (by rw [h.nodes];exact ht)
 have h3:=Lg (l:=s.calls) (i:=t) (by rw [h.calls];exact ht)
 have h4:=Lg (l:=s.results) (i:=t) (by rw [h.results];exact ht)
 have h5:=Lg (l:=s.begins) (i:=t) (by rw [h.begins];exact ht)
 have h6:=Lg (l:=s.ends) (i:=t) (by rw [h.ends];exact ht)
 exact ⟨_,_,_,_,_,_,h1,h2,h3,h4,h5,h6,h.all t _ _ _ _ _ _ h1 h2 h3 h4 h5 h6⟩
theorem Xzc (hs:Xv c) {x:Cal} (h:Yd c x k=0):x.args.length<=1000000:=by
 unfold Yd at h
 split at h
 ·cases h
 ·split at h
  ·cases h
  ·rename_i y hy
   split at h
   ·cases h
   ·split at h
    ·cases h
    ·rename_i hp
     have aA:=hs.fok hy
     unfold Zr at aA
     omega
theorem Xuz {x:Cal} (hk:0<=k/\k<=1048576) (h:Yd c x 0=0):Yd c x k=0:=by
 unfold Yd at h ⊢
 rw [if_neg ω] at h ⊢
 exact h
theorem Xu3.given (h:Xu3 c s m n l r b e):∀ x∈l,Yd c x 0=0:=fun x hx=>by
 have:=h.right
 rw [List.any_eq_false] at this
 have:=this x hx
 simpa using this
theorem Xub (h:Xsm m=true):m.frames=[]:=by
 unfold Xsm at h
 rw [Bool.and_eq_true] at h
 exact List.isEmpty_iff.1 h.1
theorem Xuw.size (hs:Xv c) (hsm:Zb c) (h:Xuw c m n):m.frames.length<=1000/\∀ f∈m.frames,f.locals.length<=1000000/\f.stack.length<=1000000:=by
 rcases h with ⟨h,_⟩|⟨_,h,_⟩
 ·rw [Xub h];simp
 ·refine ⟨by have:=h.len;omega,fun f hf=>?_⟩
  rcases h.body with ⟨h0,_⟩|⟨_,aA⟩
  ·rw [h0] at hf;cases hf
  ·obtain ⟨k,hk,rfl⟩:=List.getElem_of_mem hf
   exact Jb.mil hs hsm (aA k _ (Lg hk))
theorem Xse.copyOk (h:Xse c s) (hsm:Zb c):Xw7 s:=by
 have hs:=h.sound
 have hH:=hs.1
 have hm:=Xn1.1 h.fits
 have h8:=h.eight
 refine ⟨by have:=hm.gl;have:=hH.2.2.2.1;omega,hm.len,fun x hx=>?_,ω,fun m hm=>?_,by rw [h.nodes];omega,h.calls,fun l hl=>?_,h.results,fun l hl=>?_,h.begins,fun l hl=>?_,h.ends,fun l hl=>?_⟩
 ·obtain ⟨_,h2,_⟩:=hm.nodes x hx
  have h3:=hH.2.1
  rw [List.any_eq_false] at h3
  have:=h3 _ (Lm h2)
  simp at this
  omega
 ·obtain ⟨t,ht,rfl⟩:=List.getElem_of_mem hm
  obtain ⟨m,n,l,r,b,e,h1,h2,h3,h4,h5,h6,hv⟩:=h.at_ ht
  rw [Lg ht] at h1;cases h1
  exact hv.head.size hs hsm
 ·obtain ⟨t,ht,rfl⟩:=List.getElem_of_mem hl
  obtain ⟨m,n,l,r,b,e,h1,h2,h3,h4,h5,h6,hv⟩:=h.at_ (t:=t) (by rw [<-h.calls];exact ht)
  rw [Lg ht] at h3;cases h3
  exact ⟨by have:=hv.ops;omega,fun x hx=>Xzc hs (hv.given x hx)⟩
 ·obtain ⟨t,ht,rfl⟩:=List.getElem_of_mem hl
  obtain ⟨m,n,l,r,b,e,h1,h2,h3,h4,h5,h6,hv⟩:=h.at_ (t:=t) (by rw [<-h.results];exact ht)
  rw [Lg ht] at h4;cases h4
  have:=hv.ops;omega
 ·obtain ⟨t,ht,rfl⟩:=List.getElem_of_mem hl
  obtain ⟨m,n,l,r,b,e,h1,h2,h3,h4,h5,h6,hv⟩:=h.at_ (t:=t) (by rw [<-h.begins];exact ht)
  rw [Lg ht] at h5;cases h5
  have:=hv.ops;have:=hv.begins;omega
 ·obtain ⟨t,ht,rfl⟩:=List.getElem_of_mem hl
  obtain ⟨m,n,l,r,b,e,h1,h2,h3,h4,h5,h6,hv⟩:=h.at_ (t:=t) (by rw [<-h.ends];exact ht)
  rw [Lg ht] at h6;cases h6
  have:=hv.ops;have:=hv.ends;omega
theorem Xse.stepOk (h:Xse c s) (hc:Xsl s t=0):∃ m n l r b e,Xzl c s t m n l r b e:=by
 unfold Xsl at hc
 rw [if_neg ω] at hc
 split at hc
 ·cases hc
 ·rename_i hlt
  rw [Int.toNat_natCast] at hc
  split at hc
  ·rename_i hen
   obtain ⟨m,n,l,r,b,e,h1,h2,h3,h4,h5,h6,hv⟩:=h.at_ (t:=t) ω
   have ho:=hv.ops
   have hb:=hv.begins
   have he:=hv.ends
   refine ⟨m,n,l,r,b,e,⟨h1,h2,h3,h4,h5,h6,ω,ω,ω,?_,⟨h.step.1,by have:=h.step.2;omega⟩,?_⟩⟩
   ·rcases hv.head with ⟨_,h0⟩|⟨_,_,_,h0,h9⟩
    ·omega
    ·omega
   ·by_cases hf:m.frames=[]
    ·refine .inl ⟨hf,?_⟩
     unfold enB at hen
     rw [h1,h3] at hen
     simp only [hf,List.length_nil,Nat.lt_irrefl,decide_false,Bool.false_or,decide_eq_true_eq] at hen
     cases l with
     | nil=>simp at hen
     | cons x l'=>exact ⟨x,l',rfl,Xuz h.fuel (hv.given x ψ)⟩
    ·refine .inr ⟨hf,?_⟩
     rcases hv.head with ⟨h0,_⟩|⟨_,h7,h8,_⟩
     ·exact absurd (Xub h0) hf
     ·exact ⟨h7,h8⟩
  ·cases hc
theorem TK.no2 {c:Clr} (h:TK NO w c s V) (hC:Chg NO c c' w w') (hhi:∀ b,w'.heap.size<=b->c' b=0):TK NO w' c' s V:=by
 have K:=h.kept hC hhi
 have e:(fun t=>NO t\/NO t)=NO:=X4b
 rw [e] at K
 exact K
theorem TK.k14 {c:Clr} (h:TK NO w c s V) (hC:Chg (fun t=>t=14) c c' w w') (hhi:∀ b,w'.heap.size<=b->c' b=0):TK NO w' c' s V:=by
 have K:=h.kept hC hhi
 have n:∀ t,t≠14->¬(NO t\/t=14):=fun t ht hh=>by
  rcases hh with hh|hh
  ·exact hh
  ·exact ht hh
 exact ⟨K.hi,fun _=>K.g (n _ ω),fun _=>K.n (n _ ω),fun i x hx=>by
  obtain ⟨lv,h1,h2,h3,h4⟩:=K.nn i x hx
  exact ⟨lv,h1,h2,h3,fun _=>h4 (n _ ω)⟩,fun _=>K.r (n _ ω),K.rr,fun _=>K.k (n _ ω),fun _=>K.cr (n _ ω),K.cl,fun _=>K.o (n _ ω),fun t l hl=>by
  obtain ⟨v,h1,h2⟩:=K.ol t l hl
  exact ⟨v,h1,fun _=>h2 (n _ ω)⟩,fun _=>K.b (n _ ω),fun t l hl=>by
  obtain ⟨v,h1,h2⟩:=K.bl t l hl
  exact ⟨v,h1,fun _=>h2 (n _ ω)⟩,fun _=>K.e (n _ ω),fun t l hl=>by
  obtain ⟨v,h1,h2⟩:=K.el t l hl
  exact ⟨v,h1,fun _=>h2 (n _ ω)⟩,K.f64,K.s64⟩
theorem TK.opened {c:Clr} (hK:TK NO w c s V):∃ ga gc ma mc ra rc na nc ca cc oa oc ba bc ea ec,tvC V s=(Bt ga gc ma mc ra rc na nc ca cc oa oc ba bc ea ec s):=by
 obtain ⟨gv,nv,rv,kv,cv,ov,bv,ev,nx,rx,cx,ox,bx,ex⟩:=V
 obtain ⟨ga,gc,e1,-⟩:=(hK.g (no _)).1.form
 obtain ⟨ma,mc,e2,-⟩:=(hK.n (no _)).form
 obtain ⟨ra,rc,e3,-⟩:=(hK.r (no _)).form
 obtain ⟨ka,kc,e4,-⟩:=(hK.k (no _)).1.form
 obtain ⟨ca,cc,e5,-⟩:=(hK.cr (no _)).form
 obtain ⟨oa,oc,e6,-⟩:=(hK.o (no _)).form
 obtain ⟨ba,bc,e7,-⟩:=(hK.b (no _)).form
 obtain ⟨ea,ec,e8,-⟩:=(hK.e (no _)).form
 dsimp only at e1 e2 e3 e4 e5 e6 e7 e8
 subst e1 e2 e3 e4 e5 e6 e7 e8
 exact ⟨ga,gc,ma,mc,ra,rc,ka,kc,ca,cc,oa,oc,ba,bc,ea,ec,rfl⟩
def Own2 (n:Nat) (w':World) (v:Value) (s:Thr):Prop:=∀ V:World,Below 0 w' V->(∀ b,n<=b->b<w'.heap.size->V.heap[b]?=w'.heap[b]?)->Xsd V.heap.size V v s
theorem Own2.self {n:Nat} (h:Own2 n w' v s):Xsd w'.heap.size w' v s:=h w' Br (fun _ _ _=>rfl)
theorem put10_other {b:Nat} (h:b≠R) (v0 v1 v2 v3 v4 v5 v6 v7 v8 v9:Value):(Xr6 W R v0 v1 v2 v3 v4 v5 v6 v7 v8 v9).heap[b]?=W.heap[b]?:=by
 unfold Xr6
 rw [heap_setCell_other _ _ _ _ h,heap_setCell_other _ _ _ _ h,heap_setCell_other _ _ _ _ h,heap_setCell_other _ _ _ _ h,heap_setCell_other _ _ _ _ h,heap_setCell_other _ _ _ _ h,heap_setCell_other _ _ _ _ h,heap_setCell_other _ _ _ _ h,heap_setCell_other _ _ _ _ h,heap_setCell_other _ _ _ _ h]
theorem put10_all {U:World} {c:Clr} {n:Nat} (hn:∀ b,b<n->c b=14) (hR:c R=14) (v0 v1 v2 v3 v4 v5 v6 v7 v8 v9:Value) (hU:Below 0 (Xr6 w R v0 v1 v2 v3 v4 v5 v6 v7 v8 v9) U) (hk:∀ b,n<=b->b<(Xr6 w R v0 v1 v2 v3 v4 v5 v6 v7 v8 v9).heap.size->U.heap[b]?=(Xr6 w R v0 v1 v2 v3 v4 v5 v6 v7 v8 v9).heap[b]?):Chg (fun t=>t=14) c c w U:=by
 have hq:=Xs2 (T:=fun t=>t=14) (c:=c) (W:=w) (R:=R) (v0:=v0) (v1:=v1) (v2:=v2) (v3:=v3) (v4:=v4) (v5:=v5) (v6:=v6) (v7:=v7) (v8:=v8) (v9:=v9) hR δ
 rw [Xtg] at hk
 exact ⟨hU.os.trans hq.os,hU.tape.trans hq.tape,hU.output.trans hq.output,Nt hq.size hU.size,fun b hb hc=>by
  rw [hk b (Nat.le_of_not_lt fun h=>hc (hn b h)) hb,put10_other (fun h=>hc (by rw [h];exact hR))],fun _ _=>rfl,δ⟩
theorem V2.o {c:Clr} {bt n:Nat} (h:V2 w c bt s) (hn:∀ b,b<n->c b=14) (hR:c R=14):∃ ga gc ma mc ra rc na nc ca cc oa oc ba bc ea ec,w.heap[bt]?=some (χ (Bt ga gc ma mc ra rc na nc ca cc oa oc ba bc ea ec s) 34 (0,0))/\Own2 n (Xr6 w R (σ ga s.mem.globals.length gc) (σ ma s.mem.nodes.length mc) (ι s.fuel) (σ ra s.running.length rc) (σ na s.nodes.length nc) (σ ca s.calls.length cc) (σ oa s.results.length oc) (σ ba s.begins.length bc) (σ ea s.ends.length ec) (ι s.step)) (.agg (Bt ga gc ma mc ra rc na nc ca cc oa oc ba bc ea ec s)) s:=by
 obtain ⟨V,hK,hB⟩:=h
 obtain ⟨ga,gc,ma,mc,ra,rc,na,nc,ca,cc,oa,oc,ba,bc,ea,ec,e⟩:=hK.opened
 refine ⟨ga,gc,ma,mc,ra,rc,na,nc,ca,cc,oa,oc,ba,bc,ea,ec,by rw [<-e];exact hB.row,fun U hU hk=>?_⟩
 have hS:=put10_all hn hR _ _ _ _ _ _ _ _ _ _ hU hk
 have K:=hK.k14 hS (fun b hb=>hK.hi b (Nt hS.size hb))
 rw [<-e]
 exact K.reads
theorem V0 {n:Nat} {V:World} (h:Below n w V) (hR:n<=R) (hn:n<=V.heap.size) (v0 v1 v2 v3 v4 v5 v6 v7 v8 v9:Value):Below n w (Xr6 V R v0 v1 v2 v3 v4 v5 v6 v7 v8 v9):=by
 have hq:=Xs2 (T:=fun t=>t=1) (c:=fun x=>if x=R then 1 else 0) (W:=V) (R:=R) (v0:=v0) (v1:=v1) (v2:=v2) (v3:=v3) (v4:=v4) (v5:=v5) (v6:=v6) (v7:=v7) (v8:=v8) (v9:=v9) (if_pos rfl) ω
 exact h.trans (hq.below (B:=n) (fun b hb=>if_neg ω) hn)
theorem V9 {fn:Func} {p u:Tmp} (hf:fn.results=#[.cell p 34,.tmp u]) {x0 x1 x2 x3 x4 x5 x6 x7 x8 x9:Value} (h:W.heap[R]?=some (χ #[x0,x1,x2,x3,x4,x5,x6,x7,x8,x9] 34 (0,0))) (tmps:Array Value) (h1:tmps.getD p undef=.pointer (some (π R 0))) (h2:tmps.getD u undef=v) :
  (results fn tmps).run Tryz.prog W=.ok (.tuple #[.agg #[x0,x1,x2,x3,x4,x5,x6,x7,x8,x9],v]) W:=by
 simp only [results,hf]
 rw [Array.getD_eq_getD_getElem?] at h1 h2
 simp [h1,h2,asAddr,Xwv h,Result.andThen,Sem.run_bind]
theorem Xz6 {t:Int} (h:Xsl s t=0):t=(t.toNat:Int):=by
 unfold Xsl at h
 by_cases h0:t<0
 ·rw [if_pos h0] at h;cases h
 ·omega
theorem X02 {ops:Array Oper} {rest:List Oper} {o:Oper} {a:Act} {Q:Exit->Act->World->Prop} (hgd:o.guard=none) (s x:Operand) (ho:o.op=.call { callee:=.builtin .append,args:=#[s,x],argTypes:=#[22,22] })
  {c:Clr} (sa:Option Addr) (n cap:Nat) (l:List Int) (hs:a.eval s=σ sa n cap) (hl:n=l.length) (hO:Xsp w c 1 (σ sa n cap) l) (ad:Nat) (y:Int) (hx:a.eval x=σ (some (π ad 0)) 1 1) (hc:w.cell? (π ad 0)=some (ι y)) (hy:in64 y) (hn:n<=1000000) (hhi:∀ b,w.heap.size<=b->c b=0)
  (h:∀ g cap w' c',Xsp w' c' 1 (σ (some (π g 0)) (n+1) cap) (l++[y])->Chg (fun t=>t=1) c c' w w'->(∀ b,w'.heap.size<=b->c' b=0)->wpList Tryz.prog ops Q rest (a.put o.dst (σ (some (π g 0)) (n+1) cap)) w'):wpList Tryz.prog ops Q (o::rest) a w:=by
 subst hl
 refine wpList_plain hgd fun _ hK=>?_
 refine Xsy (fun t=>t=1) s x 22 3 ho Tryz.underlying22 Uc rfl δ δ (c:=c) (tag:=1) hs hO.1 (π ad 0) 1 1 [ι y] hx rfl (fun j u hu=>?_) (by simp [Value.oneCell']) δ ω rfl δ hhi (fun g cap w' c' h1 h2 h3 _=>hK _ _ (h g cap w' c' ⟨by rw [List.length_append,List.map_append];exact h1,fun q hq=>?_⟩ h2 h3))
 ·rw [Xtf]
  cases j with
  | zero=>simp at hu;subst hu;exact hc
  | succ j=>simp at hu
 ·rcases List.mem_append.1 hq with h|h
  ·exact hO.2 q h
  ·simp at h;subst h;exact hy
def enK (s:Thr) (k:Nat):List Int:=((List.range k).filter (enB s)).map Int.ofNat
theorem Xzx {k:Nat} (h:enB s k=true):enK s (k+1)=enK s k++[(k:Int)]:=by
 unfold enK
 rw [List.range_succ,List.filter_append,List.map_append]
 simp [h]
theorem X1h {k:Nat} (h:enB s k=false):enK s (k+1)=enK s k:=by
 unfold enK
 rw [List.range_succ,List.filter_append,List.map_append]
 simp [h]
structure X2b (s:Thr) (W:World) (k:Nat) (v:Value) (c:Clr) (wr:World):Prop where
 row:Xsp wr c 1 v (enK s k)
 chg:Chg (fun t=>t=1) (fun _=>0) c W wr
 hi:∀ b,wr.heap.size<=b->c b=0
def Xvq (cd:Cod) (s:Thr) (w:World) (e:Ending) (w':World):Prop:=Below w.heap.size w w'/\((¬Xse cd s/\e=.returned (.tuple #[ν,ι 1]))\/(Xse cd s/\∃ v,e=.returned (.tuple #[v,ι 0])/\Xf w'.heap.size w' 1 Zd v (enK s s.running.length)))
theorem X2l (cd:Cod) (cv sv:Value) (s:Thr) (w:World) (hL:Qa w) (hsm:Zb cd) (hc:Yj w.heap.size w cv cd) (hs:Xsd w.heap.size w sv s) :
  Calls Tryz.prog 19 #[cv,sv] w (Xvq cd s w):=by
 obtain ⟨fv,gv,rfl,hf,hg,aJ⟩:=id hc
 obtain ⟨fa,fc,rfl⟩:=hf.form
 obtain ⟨qa,qc,rfl⟩:=hg.form
 obtain ⟨ga,gc,ma,mc,ra,rc,na,nc,ca,cc,oa,oc,ba,bc,ea,ec,rfl⟩:=hs.open_
 obtain ⟨W,hW⟩:∃ W,W=(w.alloc (χ (Bc fa fc qa qc cd) 25)).alloc (χ (Bt ga gc ma mc ra rc na nc ca cc oa oc ba bc ea ec s) 34):=⟨_,rfl⟩
 have aL:Hid (Below w.heap.size w W):=by rw [hW];exact Lh ((Xa _ _).then (Xa _ _))
 have aV:Hid (W.heap.size=w.heap.size+2):=by rw [hW];exact Lh ψ
 have R0:Hid (W.heap[w.heap.size]?=some (χ (Bc fa fc qa qc cd) 25 (0,0))):=Lh (by
  rw [hW,Ha _ _ _ ψ]
  exact Hn _ _)
 have R1:Hid (W.heap[w.heap.size+1]?=some (χ (Bt ga gc ma mc ra rc na nc ca cc oa oc ba bc ea ec s) 34 (0,0))):=Lh (by
  rw [hW]
  have:=Hn (w.alloc (χ (Bc fa fc qa qc cd) 25)) (χ (Bt ga gc ma mc ra rc na nc ca cc oa oc ba bc ea ec s) 34)
  rw [show (w.alloc (χ (Bc fa fc qa qc cd) 25)).heap.size=w.heap.size+1 by simp] at this
  exact this)
 have HK:Hid (∀ V,Below W.heap.size W V->(V.cell? (π w.heap.size 0)=some (σ fa cd.fields.length fc)/\V.cell? (π w.heap.size 1)=some (ι cd.globals)/\V.cell? (π w.heap.size 2)=some (σ qa cd.funcs.length qc))/\w.heap.size<V.heap.size/\V.heap[w.heap.size+1]?=some (χ (Bt ga gc ma mc ra rc na nc ca cc oa oc ba bc ea ec s) 34 (0,0))):=Lh (fun V hV=>by
  have h:=aV.o
  have h0:=(hV.block w.heap.size ω).trans R0.o
  exact ⟨⟨Cr h0 rfl,Cr h0 rfl,Cr h0 rfl⟩,(La h0),(hV.block _ ω).trans R1.o⟩)
 have HT:Hid (∀ V,Below W.heap.size W V->Qa V/\Yj w.heap.size V (.agg (Bc fa fc qa qc cd)) cd/\Xsd w.heap.size V (.agg (Bt ga gc ma mc ra rc na nc ca cc oa oc ba bc ea ec s)) s/\Below w.heap.size w V):=Lh (fun V hV=>by
  have hb:=aL.o.then hV
  exact ⟨hL.below hb,hc.below hb,hs.below hb,hb⟩)
 have HZ:Hid (∀ V,Below W.heap.size W V->w.heap.size<=V.heap.size):=Lh (fun V hV=>(aL.o.then hV).size)
 clear hf hg aJ hL hs hc
 obtain ⟨⟨c0,c1,c2⟩,zc,aA⟩:=HK.o W Br
 obtain ⟨⟨x0,x1,x2,x3,x4,x5,x6,x7,x8,x9⟩,-,xz⟩:=ten aA
 clear aA
 go_enter Tryz.func19,Tryz.ntmps19
 go_upto_region 1 with fail
 rw [<-hW]
 have HW:=Lh hW
 clear hW
 go_wp2_with fail
 refine (Xt3 cd _ s _ w.heap.size W (HT.o W Br).1 (HZ.o W Br) hsm (HT.o W Br).2.1 (HT.o W Br).2.2.1).mono ?_
 rintro e w1 ⟨rfl,aM⟩
 have aG:=Lh aM
 clear c0 c1 c2 zc x0 x1 x2 x3 x4 x5 x6 x7 x8 x9 xz aM
 by_cases hv:Xse cd s
 ·rw [Kh hv]
  have HV:=Lh hv
  have h8:=hv.eight
  clear hv
  obtain ⟨-,zc,aA⟩:=HK.o w1 aG.o
  obtain ⟨⟨x0,x1,x2,x3,x4,x5,x6,x7,x8,x9⟩,-,xz⟩:=ten aA
  clear aA
  have aK:Hid (X2b s W 0 ν (fun _=>0) w1):=Lh ⟨⟨V3.nil _ _ _ _ _,fun n hn=>by simp [enK] at hn⟩,Chg.of_below aG.o δ,fun _ _=>rfl⟩
  go_wp2_with fail
  clear zc x0 x1 x2 x3 x4 x5 x6 x7 x8 x9 xz
  go_loopw [6,15] (fun v i wr=>∃ (k:Nat) (a:Option Addr) (n cap:Nat),k<=s.running.length/\n<=k/\v=σ a n cap/\i=ι k/\Hid (n=(enK s k).length/\∃ c,X2b s W k (σ a n cap) c wr)) (fun _ i _=>s.running.length - (intOf i).toNat)
  case atStart=>exact ⟨0,none,0,0,Nat.zero_le _,Nr _,rfl,rfl,Lh ⟨rfl,_,aK.o⟩⟩
  case round=>
   obtain ⟨k,a,n,cap,hk,aW,rfl,rfl,aF⟩:=hrel
   obtain ⟨hn,c,aF⟩:=aF.o
   have HN:=Lh hn
   have HSt:=Lh aF
   clear aF hn
   have aD:Hid (Below W.heap.size W wr):=Lh (HSt.o.chg.below (B:=W.heap.size) (fun _ _=>rfl) (Nr _))
   obtain ⟨-,-,aA⟩:=HK.o wr aD.o
   obtain ⟨⟨x0,x1,x2,x3,x4,x5,x6,x7,x8,x9⟩,-,xz⟩:=ten aA
   clear aA
   by_cases aU:k<s.running.length
   ·go_wp2_with fail
    refine (Xtl s _ k w.heap.size wr (HZ.o wr aD.o) (HT.o wr aD.o).2.2.1 aU HV.o.calls).mono ?_
    rintro e w3 ⟨rfl,aN⟩
    have aC:=Lh aN
    clear x0 x1 x2 x3 x4 x5 x6 x7 x8 x9 xz aN
    cases aE:enB s k with
    | true=>
     have HE:=Lh aE
     clear aE
     have HI:Hid (Xsp (w3.alloc (χ #[ι (k:Int)] 3)) c 1 (σ a n cap) (enK s k)):=Lh (HSt.o.row.keep (T:=NO) (Chg.of_below (aC.o.then (Xa _ _)) (no 0)) (no _))
     have HH:Hid (∀ b,(w3.alloc (χ #[ι (k:Int)] 3)).heap.size<=b->c b=0):=Lh (fun b hb=>HSt.o.hi b (by have:=aC.o.size;simp at hb;omega))
     have HC:Hid ((w3.alloc (χ #[ι (k:Int)] 3)).cell? (π w3.heap.size 0)=some (ι (k:Int))):=Lh (Y5 w3 _ _ 0)
     have aT:Hid (n<=1000000):=Lh ω
     have aS:Hid (in64 (k:Int)):=Lh (by unfold in64;omega)
     go_upto_region 9 with ((with_reducible refine X02 rfl (.tmp 21) (.tmp 23) rfl (c:=c) a n cap (enK s k) rfl HN.o HI.o w3.heap.size (k:Int) rfl HC.o aS.o aT.o HH.o ?_);intro g aI w5 c5 hI hC aO;have aR:=Lh hI;have aP:=Lh hC;have aQ:=Lh aO;clear hI hC aO)
     have aH:Hid (X2b s W (k+1) (σ (some (π g 0)) (n+1) aI) c5 w5):=Lh ⟨by rw [Xzx HE.o];exact aR.o,HSt.o.chg.trans ((Chg.of_below (aC.o.then (Xa _ _)) δ).trans aP.o),aQ.o⟩
     go_wp2
     go_roundw
     case rel=>exact ⟨k+1,_,n+1,_,ω,ω,rfl,by go_num,Lh ⟨by rw [Xzx HE.o,List.length_append,HN.o];rfl,_,aH.o⟩⟩
     case measure=>simp [intOf];omega
    | false=>
     have HE:=Lh aE
     clear aE
     have aH:Hid (X2b s W (k+1) (σ a n cap) c w3):=Lh (by
      have h:=HSt.o
      exact ⟨by rw [X1h HE.o];exact h.row.keep (T:=NO) (Chg.of_below aC.o (no 0)) (no _),h.chg.trans (Chg.of_below aC.o δ),fun b hb=>h.hi b (Nt aC.o.size hb)⟩)
     go_wp2
     go_roundw
     case rel=>exact ⟨k+1,_,n,_,ω,ω,rfl,by go_num,Lh ⟨by rw [X1h HE.o,HN.o],_,aH.o⟩⟩
     case measure=>simp [intOf];omega
   ·obtain rfl:k=s.running.length:=ω
    have aB:Hid (Xvq cd s w (.returned (.tuple #[σ a n cap,ι 0])) wr):=Lh ⟨(HT.o wr aD.o).2.2.2,.inr ⟨HV.o,_,rfl,HSt.o.row.reads⟩⟩
    go_wp2
    exact bodyPost_ret (v:=.tuple #[σ a n cap,ι 0]) (by simp [results,Tryz.results19,go_sem]) rfl aB.o
 ·rw [K8 hv]
  have aB:Hid (Xvq cd s w (.returned (.tuple #[ν,ι 1])) w1):=Lh ⟨(HT.o w1 aG.o).2.2.2,.inl ⟨hv,rfl⟩⟩
  go_wp2
  exact bodyPost_ret (v:=.tuple #[ν,ι 1]) (by simp [results,Tryz.results19,go_sem]) rfl aB.o
structure At (s:Thr) (t:Nat) (m:Mch) (n:Int) (l:List Cal) (r:List Xr7) (b e:List Int):Prop where
 m:s.running[t]?=some m
 n:s.nodes[t]?=some n
 l:s.calls[t]?=some l
 r:s.results[t]?=some r
 b:s.begins[t]?=some b
 e:s.ends[t]?=some e
structure ThI (c:Cod) (m:Mch) (n:Int) (l:List Cal) (r:List Xr7) (b e:List Int) (step:Int):Prop where
 mach:(m=Xl/\n=0)\/Xu8 c m
 cnt:0<=n/\n<=step
 right:∀ x∈l,Yd c x 0=0
 ends:e.length=r.length
 begins:b.length=r.length+(if m.frames=[] then 0 else 1)
 ops:l.length+r.length+(if m.frames=[] then 0 else 1)<=2000
structure Xs8 (c:Cod) (s:Thr):Prop where
 sound:Xv c
 mem:Uv c s.mem
 fuel:0<=s.fuel/\s.fuel<=1048576
 step:0<=s.step
 nodes:s.nodes.length=s.running.length
 calls:s.calls.length=s.running.length
 results:s.results.length=s.running.length
 begins:s.begins.length=s.running.length
 ends:s.ends.length=s.running.length
 all:∀ (t:Nat) m n l r b e,At s t m n l r b e->ThI c m n l r b e s.step
theorem Xu8.ne (h:Xu8 c m):m.frames≠[]:=by
 obtain ⟨fs,f,hw⟩:=h.waits
 rw [hw.fr];simp
theorem Xs8.at_ (h:Xs8 c s) (ht:t<s.running.length):∃ m n l r b e,At s t m n l r b e:=
 ⟨_,_,_,_,_,_,⟨Lg ht,Lg (by rw [h.nodes];exact ht),Lg (by rw [h.calls];exact ht),Lg (by rw [h.results];exact ht),Lg (by rw [h.begins];exact ht),Lg (by rw [h.ends];exact ht)⟩⟩
theorem Xtt {l:List α} (h:l[t]?=some y):(l.set t x)[t]?=some x:=by
 rw [List.getElem?_set_self (Ll h)]
theorem Xxo {l:List α} (h:l[t]?=some x):(l.modify t f)[t]?=some (f x):=by
 rw [List.getElem?_modify_eq,h];rfl
structure Xx8 (c:Cod) (s:Thr) (t:Nat) (m:Mch) (n:Int) (l:List Cal) (r:List Xr7) (b e:List Int):Prop where
 sound:Xv c
 mem:Uv c s.mem
 fuel:0<=s.fuel/\s.fuel<=1048576
 step:0<=s.step
 nodes:s.nodes.length=s.running.length
 calls:s.calls.length=s.running.length
 results:s.results.length=s.running.length
 begins:s.begins.length=s.running.length
 ends:s.ends.length=s.running.length
 others:∀ (u:Nat) m n l r b e,u≠t->At s u m n l r b e->ThI c m n l r b e s.step
 hn:s.nodes[t]?=some n
 hl:s.calls[t]?=some l
 hr:s.results[t]?=some r
 hb:s.begins[t]?=some b
 he:s.ends[t]?=some e
 lt:t<s.running.length
 right:∀ x∈l,Yd c x 0=0
 el:e.length=r.length
 bl:b.length=r.length+1
 ops:l.length+r.length+1<=2000
theorem ThI.up {step:Int} (h:ThI c m n l r b e step):ThI c m n l r b e (step+1):=⟨h.mach,⟨h.cnt.1,by have:=h.cnt.2;omega⟩,h.right,h.ends,h.begins,h.ops⟩
theorem Xzn {l:List α} {u:Nat} (h:u≠t):(l.modify t f)[u]?=l[u]?:=by
 rw [List.getElem?_modify]
 cases l[u]?<;>simp [Ne.symm h]
theorem Xx8.endI (h:Xx8 c s t m n l r b e) (f v k n':Int):Xs8 c (Xud (Xwz s t f v k n')):=by
 refine ⟨h.sound,h.mem,h.fuel,by show 0<=s.step+1;have:=h.step;omega,?_,?_,?_,?_,?_,fun u m' n2 l2 r2 b2 e2 ha=>?_⟩
 ·show (s.nodes.set t 0).length=(s.running.set t Xl).length
  rw [List.length_set,List.length_set];exact h.nodes
 ·show s.calls.length=(s.running.set t Xl).length
  rw [List.length_set];exact h.calls
 ·show (s.results.modify t _).length=(s.running.set t Xl).length
  rw [List.length_modify,List.length_set];exact h.results
 ·show s.begins.length=(s.running.set t Xl).length
  rw [List.length_set];exact h.begins
 ·show (s.ends.modify t _).length=(s.running.set t Xl).length
  rw [List.length_modify,List.length_set];exact h.ends
 ·obtain ⟨a1,a2,a3,a4,a5,a6⟩:=ha
  by_cases hu:u=t
  ·subst hu
   have b1:(s.running.set u Xl)[u]?=some m':=a1
   have aA:(s.nodes.set u 0)[u]?=some n2:=a2
   have b4:(s.results.modify u (·++[⟨f,v,k,n',0⟩]))[u]?=some r2:=a4
   have b6:(s.ends.modify u (·++[s.step]))[u]?=some e2:=a6
   rw [Xtt (Lg h.lt)] at b1
   rw [Xtt h.hn] at aA
   rw [Xxo h.hr] at b4
   rw [Xxo h.he] at b6
   have b3:s.calls[u]?=some l2:=a3
   have b5:s.begins[u]?=some b2:=a5
   rw [h.hl] at b3
   rw [h.hb] at b5
   cases b1;cases aA;cases b3;cases b4;cases b5;cases b6
   have h1:=h.ops
   have h2:=h.bl
   have h3:=h.el
   have h4:=h.step
   refine ⟨.inl ⟨rfl,rfl⟩,⟨ω,by show (0:Int)<=s.step+1;omega⟩,h.right,by simp;omega,?_,?_⟩
   ·show b.length=(r++[_]).length+(if Xl.frames=[] then 0 else 1)
    rw [if_pos (show Xl.frames=[] from rfl)];simp;omega
   ·show l.length+(r++[_]).length+(if Xl.frames=[] then 0 else 1)<=2000
    rw [if_pos (show Xl.frames=[] from rfl)];simp;omega
  ·have c1:(s.running.set t Xl)[u]?=some m':=a1
   have c2:(s.nodes.set t 0)[u]?=some n2:=a2
   have c4:(s.results.modify t (·++[⟨f,v,k,n',0⟩]))[u]?=some r2:=a4
   have c6:(s.ends.modify t (·++[s.step]))[u]?=some e2:=a6
   rw [List.getElem?_set_ne (Ne.symm hu)] at c1 c2
   rw [Xzn hu] at c4 c6
   exact (h.others u _ _ _ _ _ _ hu ⟨c1,c2,a3,c4,a5,c6⟩).up
theorem Xx8.runI (h:Xx8 c s t m n l r b e) (hm:Xu8 c m') (hn:0<=n/\n<=s.step+1):Xs8 c (Xud { s with running:=s.running.set t m' }):=by
 refine ⟨h.sound,h.mem,h.fuel,by show 0<=s.step+1;have:=h.step;omega,?_,?_,?_,?_,?_,fun u m2 n2 l2 r2 b2 e2 ha=>?_⟩
 ·show s.nodes.length=(s.running.set t m').length
  rw [List.length_set];exact h.nodes
 ·show s.calls.length=(s.running.set t m').length
  rw [List.length_set];exact h.calls
 ·show s.results.length=(s.running.set t m').length
  rw [List.length_set];exact h.results
 ·show s.begins.length=(s.running.set t m').length
  rw [List.length_set];exact h.begins
 ·show s.ends.length=(s.running.set t m').length
  rw [List.length_set];exact h.ends
 ·obtain ⟨a1,a2,a3,a4,a5,a6⟩:=ha
  have c1:(s.running.set t m')[u]?=some m2:=a1
  by_cases hu:u=t
  ·subst hu
   rw [Xtt (Lg h.lt)] at c1
   have d2:s.nodes[u]?=some n2:=a2
   have d3:s.calls[u]?=some l2:=a3
   have d4:s.results[u]?=some r2:=a4
   have d5:s.begins[u]?=some b2:=a5
   have d6:s.ends[u]?=some e2:=a6
   rw [h.hn] at d2
   rw [h.hl] at d3
   rw [h.hr] at d4
   rw [h.hb] at d5
   rw [h.he] at d6
   cases c1;cases d2;cases d3;cases d4;cases d5;cases d6
   exact ⟨.inr hm,hn,h.right,h.el,by rw [if_neg hm.ne];exact h.bl,by rw [if_neg hm.ne];exact h.ops⟩
  ·rw [List.getElem?_set_ne (Ne.symm hu)] at c1
   exact (h.others u _ _ _ _ _ _ hu ⟨c1,a2,a3,a4,a5,a6⟩).up
theorem X2f {m mm:Mm} {r:Rq} (hm:Uv c m) (hr:Xm4 c r) (h:Xtd c m r=some (mm,n)):Uv c mm:=by
 have:∃ p,J5 c ⟨m,[],0⟩ r=some (p,n)/\p.mem=mm:=by
  unfold Xtd at h
  unfold J5
  split at h
  ·rename_i h3
   rw [if_pos h3]
   split at h
   ·rename_i hl;rw [if_pos hl];cases h;exact ⟨_,rfl,rfl⟩
   ·rename_i hl;rw [if_neg hl];cases h;exact ⟨_,rfl,rfl⟩
  ·rename_i h3
   rw [if_neg h3]
   split at h
   ·cases h
   ·rename_i hl
    rw [if_neg hl]
    split at h
    ·rename_i h2
     cases h
     refine ⟨_,by rw [if_pos h2],?_⟩
     show putM m r=Xw6 m r r.value
     unfold putM Xw6
     rw [if_neg ω]
    ·rename_i h2
     cases h
     refine ⟨_,by rw [if_neg h2],?_⟩
     show putM m r=m
     unfold putM
     rw [if_pos h2]
 obtain ⟨p,hp,rfl⟩:=this
 exact (Xq1 hm hr hp).1
theorem X3i (m:Mm) (r:Rq):0<=Xs1 m r/\Xs1 m r<=1:=by unfold Xs1;split<;>omega
theorem Xx8.settleI (h:Xx8 c s t m n l r b e) (hE:Us c m'\/(m'.frames=[]/\m'.req=X0 21/\Ug m')) (hf:m'.fuel<=1048576) (hc:m'.compares+pot m'<=1000000000000) (hn:0<=n/\n<=s.step+1):Xs8 c (Xud (Xr8 s t m' n)):=by
 unfold Xr8
 by_cases h4:m'.req.kind=4
 ·rw [if_pos h4];exact h.endI _ _ _ _
 ·rw [if_neg h4]
  by_cases h5:m'.req.kind=5
  ·rw [if_pos h5];exact h.endI _ _ _ _
  ·rw [if_neg h5]
   rcases hE with ⟨hN,⟨e,_,hr,_⟩|⟨v,_,hr,_⟩|hw⟩|⟨_,hr,_⟩
   ·exact absurd (by rw [hr];rfl) h5
   ·exact absurd (by rw [hr];rfl) h4
   ·exact h.runI ⟨hw,hN,hf,hc⟩ hn
   ·exact absurd (by rw [hr];rfl) h5
theorem Xs8.begin_ {s1:Thr} {m0:Mch} (h:Xs8 c s) (hm0:s.running[t]?=some m0) (hn:s.nodes[t]?=some n) (hB:X1l c s t m0 m s1):∃ l r b e,Xx8 c s1 t m n l r b e/\Us c m/\m.fuel<=1048576/\m.compares+pot m<=1000000000000/\0<=n/\n<=s1.step:=by
 have ht:=(Ll hm0)
 obtain ⟨aC,n',l,r,b,e,aA⟩:=h.at_ ht
 have e1:=aA.m
 rw [hm0] at e1
 cases e1
 have e2:=aA.n
 rw [hn] at e2
 cases e2
 have hI:=h.all t _ _ _ _ _ _ aA
 rcases hB with ⟨hf,rfl,rfl⟩|⟨hf,x,l',hl,hR,rfl⟩
 ·have aB:Xu8 c m:=by
   rcases hI.mach with ⟨h0,_⟩|h0
   ·exact absurd (by rw [h0];rfl) hf
   ·exact h0
  have hb:=hI.begins
  have ho:=hI.ops
  rw [if_neg hf] at hb ho
  exact ⟨l,r,b,e,⟨h.sound,h.mem,h.fuel,h.step,h.nodes,h.calls,h.results,h.begins,h.ends,fun u _ _ _ _ _ _ _ ha=>h.all u _ _ _ _ _ _ ha,hn,aA.l,aA.r,aA.b,aA.e,ht,hI.right,hI.ends,hb,ho⟩,⟨aB.nums,.inr (.inr aB.waits)⟩,aB.fuel,aB.cmp,hI.cnt⟩
 ·have e3:=aA.l
  rw [hl] at e3
  cases e3
  have hb:=hI.begins
  have ho:=hI.ops
  rw [if_pos hf] at hb ho
  obtain ⟨k1,k2,k3⟩:=Xxf h.sound (Xuz h.fuel (hI.right x ψ)) hR
  refine ⟨l',r,b++[s.step],e,⟨h.sound,h.mem,h.fuel,h.step,h.nodes,?_,h.results,?_,h.ends,fun u m2 n2 l2 r2 b2 e2 hu ha=>?_,hn,Xtt hl,aA.r,Xxo aA.b,aA.e,ht,fun y hy=>hI.right y (by simp [hy]),hI.ends,by simp;omega,by simp at ho;omega⟩,k1,k2,k3,hI.cnt⟩
  ·show (s.calls.set t l').length=s.running.length
   rw [List.length_set];exact h.calls
  ·show (s.begins.modify t _).length=s.running.length
   rw [List.length_modify];exact h.begins
  ·obtain ⟨a1,a2,a3,a4,a5,a6⟩:=ha
   have c3:(s.calls.set t l')[u]?=some l2:=a3
   have c5:(s.begins.modify t (·++[s.step]))[u]?=some b2:=a5
   rw [List.getElem?_set_ne (Ne.symm hu)] at c3
   rw [Xzn hu] at c5
   exact h.all u _ _ _ _ _ _ ⟨a1,a2,c3,a4,c5,a6⟩
theorem Xs8.stepR {s':Thr} (h:Xs8 c s) (hR:Xsq c s t s'):Xs8 c s':=by
 obtain ⟨m0,n,m,s1,aF,hn,hB,hA⟩:=hR
 obtain ⟨l,r,b,e,hM,hE,hf,hc,aG,aI⟩:=h.begin_ aF hn hB
 rcases hA with ⟨_,rfl⟩|⟨_,_,rfl⟩|⟨ha,mm,a,m',aB,hN,rfl⟩
 ·exact hM.settleI (.inl hE) hf hc ⟨aG,ω⟩
 ·exact hM.endI _ _ _ _
 ·have aA:=Xwh hE ha hf hc
  obtain ⟨fs,f,hw⟩:=aA.waits
  have aC:Xm4 c m.req:=hw.req hM.sound
  obtain ⟨k1,k2,k3⟩:=Xyh hM.sound aA (Xt5 hM.mem aC aB) hN
  have aH:=X3i s1.mem m.req
  have aD:Xx8 c { s1 with mem:=mm,nodes:=s1.nodes.set t (n+Xs1 s1.mem m.req) } t m (n+Xs1 s1.mem m.req) l r b e:=by
   refine ⟨hM.sound,X2f hM.mem aC aB,hM.fuel,hM.step,?_,hM.calls,hM.results,hM.begins,hM.ends,fun u m2 n2 l2 r2 b2 e2 hu aE=>?_,Xtt hM.hn,hM.hl,hM.hr,hM.hb,hM.he,hM.lt,hM.right,hM.el,hM.bl,hM.ops⟩
   ·show (s1.nodes.set t _).length=s1.running.length
    rw [List.length_set];exact hM.nodes
   ·obtain ⟨a1,a2,a3,a4,a5,a6⟩:=aE
    have c2:(s1.nodes.set t (n+Xs1 s1.mem m.req))[u]?=some n2:=a2
    rw [List.getElem?_set_ne (Ne.symm hu)] at c2
    exact hM.others u _ _ _ _ _ _ hu ⟨a1,c2,a3,a4,a5,a6⟩
  exact aD.settleI k1 k2 k3 ⟨ω,by show n+Xs1 s1.mem m.req<=s1.step+1;omega⟩
def Xtb (m:Mm) (fuel:Int) (cs:List (List Cal)):Thr:=⟨m,fuel,List.replicate cs.length Xl,List.replicate cs.length 0,cs,List.replicate cs.length [],List.replicate cs.length [],List.replicate cs.length [],0⟩
theorem Xvn {n:Nat} (h:(List.replicate n x)[t]?=some y):y=x:=by
 have:=Lm h
 exact (List.mem_replicate.1 this).2
theorem X07 {m:Mm} {fuel:Int} {cs:List (List Cal)} (hs:Xv c) (hm:Uv c m) (hf:0<=fuel/\fuel<=1048576) (hr:∀ l∈cs,∀ x∈l,Yd c x 0=0) (hl:∀ l∈cs,l.length<=2000):Xs8 c (Xtb m fuel cs):=by
 refine ⟨hs,hm,hf,Int.le_refl _,by simp [Xtb],by simp [Xtb],by simp [Xtb],by simp [Xtb],by simp [Xtb],fun t m' n l r b e ha=>?_⟩
 obtain ⟨a1,a2,a3,a4,a5,a6⟩:=ha
 have e1:=Xvn a1
 have e2:=Xvn a2
 have e4:=Xvn a4
 have e5:=Xvn a5
 have e6:=Xvn a6
 subst e1 e2 e4 e5 e6
 have aA:l∈cs:=Lm a3
 have h2:=hl l aA
 exact ⟨.inl ⟨rfl,rfl⟩,⟨Int.le_refl _,Int.le_refl _⟩,hr l aA,rfl,by rw [if_pos (show Xl.frames=[] from rfl)];rfl,by rw [if_pos (show Xl.frames=[] from rfl)];simp;omega⟩
theorem Xyp (h:Xu8 c m):Xsm m=false:=by
 cases hi:Xsm m with
 | false=>rfl
 | true=>exact absurd (Xub hi) h.ne
theorem Xs8.valT (h:Xs8 c s) (h1:1<=s.running.length) (h8:s.running.length<=8) (h6:s.step<=65536) (ht:∀ (t:Nat) b e,s.begins[t]?=some b->s.ends[t]?=some e->V5 b e (-1) s.step=true):Xse c s:=by
 refine ⟨h.sound,Xn1.2 h.mem,h.fuel,⟨h.step,h6⟩,h1,h8,h.nodes,h.calls,h.results,h.begins,h.ends,fun t m n l r b e a1 a2 a3 a4 a5 a6=>?_⟩
 have hI:=h.all t _ _ _ _ _ _ ⟨a1,a2,a3,a4,a5,a6⟩
 have hr:l.any (fun x=>!(Yd c x 0 == 0))=false:=by
  rw [List.any_eq_false]
  intro x hx
  simp [hI.right x hx]
 have hb:=hI.begins
 have ho:=hI.ops
 rcases hI.mach with ⟨rfl,rfl⟩|hR
 ·rw [if_pos (show Xl.frames=[] from rfl)] at hb ho
  have e0:Xvv Xl=0:=rfl
  exact ⟨.inl ⟨rfl,rfl⟩,hI.ends,by rw [e0];exact hb,by rw [e0];exact ho,ht t b e a5 a6,hr⟩
 ·rw [if_neg hR.ne] at hb ho
  have e0:Xvv m=1:=by unfold Xvv;rw [Xyp hR];rfl
  have hc:=hI.cnt
  exact ⟨.inr ⟨Xyp hR,hR.valid h.sound,hR.asks,hc.1,ω⟩,hI.ends,by rw [e0];exact hb,by rw [e0];exact ho,ht t b e a5 a6,hr⟩
