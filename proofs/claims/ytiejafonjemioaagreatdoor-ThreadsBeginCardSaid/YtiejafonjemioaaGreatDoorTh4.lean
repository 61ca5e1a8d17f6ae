import Derived.Test.YtiejafonjemioaaGreatDoorStep0
set_option maxHeartbeats 2000000
set_option maxRecDepth 100000
set_option linter.unusedVariables false
set_option linter.unusedSimpArgs false
open Go.Value renaming slice→σ
open Go.Obj renaming cells→χ
namespace Go.Proofs.YtiejafonjemioaaGreatDoor
open Go.RowKit
variable {α:Type} {B b o sz:Nat} {w w':World} {m:Mch} {v:Value} {E:World->Nat->Nat->α->Prop} {l:List α}
structure Xr7 where
 fault:Int
 value:Int
 compares:Int
 nodes:Int
 more:Int
structure Thr where
 mem:Mm
 fuel:Int
 running:List Mch
 nodes:List Int
 calls:List (List Cal)
 results:List (List Xr7)
 begins:List (List Int)
 ends:List (List Int)
 step:Int
def Xtv (fv:Value) (m:Mch):List Value:=[fv,ι m.req.kind,ι m.req.node,ι m.req.field,ι m.req.value,ι m.req.fault,ι m.fuel,ι m.compares,ι m.idle]
def Xu4 (B:Nat) (w:World) (b o:Nat) (m:Mch):Prop:=
 ∃ fv,(∀ (j:Nat) v,(Xtv fv m)[j]?=some v->w.cell? (π b (o+j))=some v)/\Xf B w 4 (Qp B) fv m.frames/\m.req.wf/\in64 m.fuel/\in64 m.compares/\in64 m.idle
theorem Xu4.below (hb:Below B w w') (h:b<B) (hE:Xu4 B w b o m):Xu4 B w' b o m:=by
 obtain ⟨fv,h1,h2,h3⟩:=hE
 exact ⟨fv,fun j v hv=>by rw [Xbl hb h];exact h1 j v hv,h2.fras hb,h3⟩
theorem Xu4.nine (h:Xu4 B w b o m):∃ fv,Xf B w 4 (Qp B) fv m.frames/\w.cell? (π b o)=some fv/\w.cell? (π b (o+1))=some (ι m.req.kind)/\w.cell? (π b (o+2))=some (ι m.req.node)/\w.cell? (π b (o+3))=some (ι m.req.field)/\w.cell? (π b (o+4))=some (ι m.req.value)/\w.cell? (π b (o+5))=some (ι m.req.fault)/\w.cell? (π b (o+6))=some (ι m.fuel)/\w.cell? (π b (o+7))=some (ι m.compares)/\w.cell? (π b (o+8))=some (ι m.idle)/\(m.req.wf/\in64 m.fuel/\in64 m.compares/\in64 m.idle):=by
 obtain ⟨fv,h1,h2,h3⟩:=h
 exact ⟨fv,h2,h1 0 _ rfl,h1 1 _ rfl,h1 2 _ rfl,h1 3 _ rfl,h1 4 _ rfl,h1 5 _ rfl,h1 6 _ rfl,h1 7 _ rfl,h1 8 _ rfl,h3⟩
def Xsr (B:Nat) (w:World) (b o:Nat) (x:Cal):Prop:=
 w.cell? (π b o)=some (.string x.proc)/\(∃ v,w.cell? (π b (o+1))=some v/\Xf B w 1 Zd v x.args)/\x.proc.size<=140737488355328
theorem Xsr.below (hb:Below B w w') {x:Cal} (h:b<B) (hE:Xsr B w b o x):Xsr B w' b o x:=by
 obtain ⟨h1,⟨v,h3,h4⟩,h5⟩:=hE
 refine ⟨?_,⟨v,?_,h4.ints hb⟩,h5⟩<;>rw [Xbl hb h]<;>assumption
def Xtu (w:World) (b o:Nat) (x:Xr7):Prop:=
 w.cell? (π b o)=some (ι x.fault)/\w.cell? (π b (o+1))=some (ι x.value)/\w.cell? (π b (o+2))=some (ι x.compares)/\w.cell? (π b (o+3))=some (ι x.nodes)/\w.cell? (π b (o+4))=some (ι x.more)/\in64 x.fault/\in64 x.value/\in64 x.compares/\in64 x.nodes/\in64 x.more
theorem Xtu.below (hb:Below B w w') {x:Xr7} (h:b<B) (hE:Xtu w b o x):Xtu w' b o x:=by
 unfold Xtu at *
 rw [Xbl hb h,Xbl hb h,Xbl hb h,Xbl hb h,Xbl hb h]
 exact hE
def Xsa {α:Type} (sz:Nat) (E:World->Nat->Nat->α->Prop) (B:Nat) (w:World) (b o:Nat) (l:List α):Prop:=∃ v,w.cell? (π b o)=some v/\Xf B w sz E v l
theorem Xsa.below (hb:Below B w w') (hE:∀ b o x,b<B->E w b o x->E w' b o x) (h:b<B) (hl:Xsa sz E B w b o l):Xsa sz E B w' b o l:=by
 obtain ⟨v,h1,h2⟩:=hl
 exact ⟨v,by rw [Xbl hb h];exact h1,h2.mono hE⟩
theorem Xf.macs (hb:Below B w w') {l:List Mch} (h:Xf B w 9 (Xu4 B) v l):Xf B w' 9 (Xu4 B) v l:=h.mono fun _ _ _ h=>Xu4.below hb h
theorem Xf.cals (hb:Below B w w') {l:List Cal} (h:Xf B w 2 (Xsr B) v l):Xf B w' 2 (Xsr B) v l:=h.mono fun _ _ _ h=>Xsr.below hb h
theorem Xf.outs (hb:Below B w w') {l:List Xr7} (h:Xf B w 5 Xtu v l):Xf B w' 5 Xtu v l:=h.mono fun _ _ _ h=>Xtu.below hb h
theorem Xf.calss (hb:Below B w w') {l:List (List Cal)} (h:Xf B w 1 (Xsa 2 (Xsr B) B) v l):Xf B w' 1 (Xsa 2 (Xsr B) B) v l:=h.mono fun _ _ _ h hl=>Xsa.below hb (fun _ _ _ h=>Xsr.below hb h) h hl
theorem Xf.outss (hb:Below B w w') {l:List (List Xr7)} (h:Xf B w 1 (Xsa 5 Xtu B) v l):Xf B w' 1 (Xsa 5 Xtu B) v l:=h.mono fun _ _ _ h hl=>Xsa.below hb (fun _ _ _ h=>Xtu.below hb h) h hl
theorem Xf.intss (hb:Below B w w') {l:List (List Int)} (h:Xf B w 1 (Xsa 1 Zd B) v l):Xf B w' 1 (Xsa 1 Zd B) v l:=h.mono fun _ _ _ h hl=>Xsa.below hb (fun _ _ _ h=>Zd.below hb h) h hl
abbrev Bt (a:Option Addr) (b:Nat) (c:Option Addr) (d:Nat) (e:Option Addr) (f:Nat) (g:Option Addr) (h:Nat) (i:Option Addr) (j:Nat) (k:Option Addr) (l:Nat) (m:Option Addr) (n:Nat) (o:Option Addr) (p:Nat) (s:Thr):Array Value:=#[σ a s.mem.globals.length b,σ c s.mem.nodes.length d,ι s.fuel,σ e s.running.length f,σ g s.nodes.length h,σ i s.calls.length j,σ k s.results.length l,σ m s.begins.length n,σ o s.ends.length p,ι s.step]
def Xsd (B:Nat) (w:World) (v:Value) (s:Thr):Prop:=
 ∃ gv mv rv nv cv ov bv ev,v=.agg #[gv,mv,ι s.fuel,rv,nv,cv,ov,bv,ev,ι s.step]/\Xf B w 1 Zd gv s.mem.globals/\Xf B w 2 (Xbc B) mv s.mem.nodes/\Xf B w 9 (Xu4 B) rv s.running/\Xf B w 1 Zd nv s.nodes/\
  Xf B w 1 (Xsa 2 (Xsr B) B) cv s.calls/\Xf B w 1 (Xsa 5 Xtu B) ov s.results/\Xf B w 1 (Xsa 1 Zd B) bv s.begins/\Xf B w 1 (Xsa 1 Zd B) ev s.ends/\in64 s.fuel/\in64 s.step
variable {s:Thr}
theorem Xsd.below (hb:Below B w w') (h:Xsd B w v s):Xsd B w' v s:=by
 obtain ⟨gv,mv,rv,nv,cv,ov,bv,ev,h1,h2,h3,h4,h5,h6,h7,h8,h9,aA⟩:=h
 exact ⟨gv,mv,rv,nv,cv,ov,bv,ev,h1,h2.ints hb,h3.nods hb,h4.macs hb,h5.ints hb,h6.calss hb,h7.outss hb,h8.intss hb,h9.intss hb,aA⟩
theorem Xw2 (c:Cod) (cv:Value) (B:Nat) (w:World) (hL:Qa w) (hB:B<=w.heap.size) (hc:Yj B w cv c) :
  Calls Tryz.prog 46 #[cv] w fun e w'=>e=.returned (.bool (Xa2 c))/\Below w.heap.size w w':=by
 have HC:=Lh hc
 have HL:=Lh hL
 obtain ⟨aI,aJ,rfl,aG,aH,-⟩:=hc
 obtain ⟨ca,aF,rfl,-,-,-,-⟩:=aG
 obtain ⟨cb,aC,rfl,aK,aL,aM,-⟩:=aH
 clear hL
 go_enter Tryz.func46,Tryz.ntmps46
 go_wp2_with fail
 refine (Xlz c _ B _ (HL.o.below (Xa _ _)) φ (HC.o.below ((Xa _ _).mono hB))).mono ?_
 rintro e w1 ⟨i,k,aD,rfl,aA,hb⟩
 have aE:=Yi hb
 by_cases he:aD=0
 ·have aB:=Lh (Zg (aA.1 he))
  subst he
  clear aA
  go_wp2
  go_ret
  exact ⟨by rw [aB.o];rfl,aE⟩
 ·have aB:=Lh (Jp (fun h=>he (aA.2 h)))
  have e1:(aD == 0)=false:=beq_eq_false_iff_ne.2 he
  clear aA
  go_wp2
  go_ret
  exact ⟨by rw [aB.o];exact congrArg (fun b=>Ending.returned (.bool b)) (by first|exact e1|rfl),aE⟩
def Xsi (m:Mch):Bool:=decide (m.req.kind=1) || (decide (m.req.kind=2) || decide (m.req.kind=3))
theorem Xxg (m:Mch) (a:Option Addr) (n k:Nat) (w:World):Calls Tryz.prog 70 #[.agg (Xb (σ a n k) m)] w fun e w'=>e=.returned (.bool (Xsi m))/\Below w.heap.size w w':=by
 unfold Xb
 by_cases h1:m.req.kind=1
 ·have e1:(m.req.kind == 1)=true:=by simpa using h1
  have HF:Hid (Xsi m=true):=Lh (by unfold Xsi;simp [h1])
  clear h1
  go_enter Tryz.func70,Tryz.ntmps70
  go_wp2
  go_ret
  exact ⟨by rw [HF.o];rfl,Xa _ _⟩
 have e1:(m.req.kind == 1)=false:=by simpa using h1
 by_cases h2:m.req.kind=2
 ·have e2:(m.req.kind == 2)=true:=by simpa using h2
  have HF:Hid (Xsi m=true):=Lh (by unfold Xsi;simp [h2])
  clear h1 h2
  go_enter Tryz.func70,Tryz.ntmps70
  go_wp2
  go_ret
  exact ⟨by rw [HF.o];rfl,Xa _ _⟩
 have e2:(m.req.kind == 2)=false:=by simpa using h2
 obtain ⟨b,hb⟩:∃ b,b=(m.req.kind == 3):=⟨_,rfl⟩
 have HF:Hid (Xsi m=(m.req.kind == 3)):=Lh (by unfold Xsi;simp [h1,h2];rfl)
 clear h1 h2 hb
 go_enter Tryz.func70,Tryz.ntmps70
 go_wp2
 go_ret
 exact ⟨by rw [HF.o];rfl,Xa _ _⟩
def Xsm (m:Mch):Bool:=m.frames.isEmpty && (decide (m.req.kind=0/\m.req.node=0/\m.req.field=0/\m.req.value=0/\m.req.fault=0) && (decide (m.fuel=0) && (decide (m.compares=0) && decide (m.idle=0))))
def V5:List Int->List Int->Int->Int->Bool
 | [],_,_,_=>true
 | b::bs,[],last,step=>decide (last<b) && (decide (b<step) && V5 bs [] last step)
 | b::bs,e::es,last,step=>decide (last<b) && (decide (b<step) && (decide (b<=e) && (decide (e<step) && V5 bs es e step)))
theorem Xv0 {bs:List Int} {es:List Int} {last step b:Int} (h:last<b) (h2:b<step) (he:es=[]):V5 (b::bs) es last step=V5 bs es last step:=by
 subst he
 simp [V5,h,h2]
theorem X0b (bs es:List Int) (bv ev:Value) (step:Int) (A B:Nat) (w:World) (hb:Xf A w 1 Zd bv bs) (he:Xf B w 1 Zd ev es):Calls Tryz.prog 129 #[bv,ev,ι step] w fun e w'=>e=.returned (.bool (V5 bs es (-1) step))/\w=w':=by
 obtain ⟨ba,bc,rfl,aL,-,-,aI⟩:=hb
 obtain ⟨ea,ec,rfl,aM,-,-,aK⟩:=he
 have HB:=Lh aI
 have HE:=Lh aK
 obtain ⟨bn,aF⟩:∃ n,n=bs.length:=⟨_,rfl⟩
 obtain ⟨en,aG⟩:∃ n,n=es.length:=⟨_,rfl⟩
 rw [<-aF] at aL ⊢
 rw [<-aG] at aM ⊢
 have aH:=Lh aF
 have aE:=Lh aG
 clear aI aK aF aG
 go_enter Tryz.func129,Tryz.ntmps129
 go_wp2_with fail
 go_loop [7,12] (fun l i=>∃ (k:Nat) (last:Int),k<=bn/\i=ι k/\l=ι last/\Hid (V5 bs es (-1) step=V5 (bs.drop k) (es.drop k) last step)) (fun _ i=>bn - (intOf i).toNat)
 case atStart=>exact ⟨0,-1,Nat.zero_le _,rfl,rfl,Lh rfl⟩
 case round=>
  obtain ⟨k,last,hk,rfl,rfl,aA⟩:=hrel
  by_cases aR:k<bn
  rotate_left
  ·obtain rfl:k=bn:=ω
   have HF:Hid (V5 bs es (-1) step=true):=Lh (by
    rw [aA.o,List.drop_eq_nil_of_le (by have:=aH.o;omega)]
    unfold V5;rfl)
   go_wp2
   go_ret
   exact ⟨by rw [HF.o];rfl,rfl⟩
  obtain ⟨b,aB⟩:∃ x,bs[k]?=some x:=⟨_,Lg (by have:=aH.o;omega)⟩
  have hd:bs.drop k=b::bs.drop (k+1):=by
   obtain ⟨h1,rfl⟩:=List.getElem?_eq_some_iff.1 aB
   exact List.drop_eq_getElem_cons h1
  have HD:=Lh hd
  rcases HB.o with h|⟨b1,o1,rfl,-,hE⟩
  ·subst h;simp at aB
  have c1:w.cell? (π b1 (o1+k))=some (ι b):=by have:=(hE k b aB).1;rw [Nat.mul_one] at this;exact this
  have aN:(0:Int)<=(k:Int):=In _
  have aO:(k:Int)<(bn:Int):=ω
  clear hd hE aB
  by_cases t1:b<=last
  ·have d1:decide (b<=last)=true:=by simpa using t1
   have HF:Hid (V5 bs es (-1) step=false):=Lh (by
    rw [aA.o,HD.o]
    cases es.drop k<;>simp [V5]<;>omega)
   clear t1
   go_wp2
   go_ret
   exact ⟨by rw [HF.o];rfl,rfl⟩
  have d1:decide (b<=last)=false:=by simp;omega
  by_cases t2:step<=b
  ·have d2:decide (step<=b)=true:=by simpa using t2
   have HF:Hid (V5 bs es (-1) step=false):=Lh (by
    rw [aA.o,HD.o]
    cases es.drop k<;>simp [V5]<;>omega)
   clear t1 t2
   go_wp2
   go_ret
   exact ⟨by rw [HF.o];rfl,rfl⟩
  have d2:decide (step<=b)=false:=by simp;omega
  by_cases aQ:k<en
  rotate_left
  ·have HR:Hid (V5 bs es (-1) step=V5 (bs.drop (k+1)) (es.drop (k+1)) last step):=Lh (by
    have h1:es.drop k=[]:=List.drop_eq_nil_of_le (by have:=aE.o;omega)
    have h2:es.drop (k+1)=[]:=List.drop_eq_nil_of_le (by have:=aE.o;omega)
    rw [aA.o,HD.o,h1,h2,Xv0 ω ω rfl])
   clear t1 t2
   go_wp2
   go_round
   case rel=>exact ⟨k+1,last,ω,by go_num,rfl,HR⟩
   case measure=>simp [intOf];omega
  obtain ⟨e,aC⟩:∃ x,es[k]?=some x:=⟨_,Lg (by have:=aE.o;omega)⟩
  have aJ:es.drop k=e::es.drop (k+1):=by
   obtain ⟨h1,rfl⟩:=List.getElem?_eq_some_iff.1 aC
   exact List.drop_eq_getElem_cons h1
  have aD:=Lh aJ
  rcases HE.o with h|⟨b2,o2,rfl,-,hE⟩
  ·subst h;simp at aC
  have c2:w.cell? (π b2 (o2+k))=some (ι e):=by have:=(hE k e aC).1;rw [Nat.mul_one] at this;exact this
  have aP:(k:Int)<(en:Int):=ω
  clear aJ hE aC
  by_cases t3:e<b
  ·have d3:decide (e<b)=true:=by simpa using t3
   have HF:Hid (V5 bs es (-1) step=false):=Lh (by
    rw [aA.o,HD.o,aD.o]
    simp [V5];omega)
   clear t1 t2 t3
   go_wp2
   go_ret
   exact ⟨by rw [HF.o];rfl,rfl⟩
  have d3:decide (e<b)=false:=by simp;omega
  by_cases t4:step<=e
  ·have d4:decide (step<=e)=true:=by simpa using t4
   have HF:Hid (V5 bs es (-1) step=false):=Lh (by
    rw [aA.o,HD.o,aD.o]
    simp [V5];omega)
   clear t1 t2 t3 t4
   go_wp2
   go_ret
   exact ⟨by rw [HF.o];rfl,rfl⟩
  have d4:decide (step<=e)=false:=by simp;omega
  have HR:Hid (V5 bs es (-1) step=V5 (bs.drop (k+1)) (es.drop (k+1)) e step):=Lh (by
   rw [aA.o,HD.o,aD.o]
   simp [V5,show last<b by omega,show b<step by omega,show b<=e by omega,show e<step by omega])
  clear t1 t2 t3 t4
  go_wp2
  go_round
  case rel=>exact ⟨k+1,e,ω,by go_num,rfl,HR⟩
  case measure=>simp [intOf];omega
theorem Xf.fm (h:Xf B w sz E v l):∃ a cap,v=σ a l.length cap:=by
 obtain ⟨a,cap,rfl,-⟩:=h;exact ⟨a,cap,rfl⟩
theorem Xf.nth {a:Option Addr} {cap n:Nat} (h:Xf B w sz E (σ a n cap) l) {k:Nat} {x:α} (hx:l[k]?=some x):∃ b o,a=some (π b o)/\b<B/\E w b (o+k*sz) x:=by
 obtain ⟨a',aA,he,-,-,-,h⟩:=h
 cases he
 rcases h with rfl|⟨b,o,rfl,hb,h⟩
 ·simp at hx
 ·exact ⟨b,o,rfl,hb,h k x hx⟩
theorem Xsd.open_ (h:Xsd B w v s):∃ ga gc ma mc ra rc na nc ca cc oa oc ba bc ea ec,v=.agg (Bt ga gc ma mc ra rc na nc ca cc oa oc ba bc ea ec s):=by
 obtain ⟨gv,mv,rv,nv,cv,ov,bv,ev,rfl,h1,h2,h3,h4,h5,h6,h7,h8,-⟩:=h
 obtain ⟨_,_,rfl⟩:=h1.fm
 obtain ⟨_,_,rfl⟩:=h2.fm
 obtain ⟨_,_,rfl⟩:=h3.fm
 obtain ⟨_,_,rfl⟩:=h4.fm
 obtain ⟨_,_,rfl⟩:=h5.fm
 obtain ⟨_,_,rfl⟩:=h6.fm
 obtain ⟨_,_,rfl⟩:=h7.fm
 obtain ⟨_,_,rfl⟩:=h8.fm
 exact ⟨_,_,_,_,_,_,_,_,_,_,_,_,_,_,_,_,rfl⟩
theorem Xsd.parts {gv mv fv rv nv cv ov bv ev tv:Value} (h:Xsd B w (.agg #[gv,mv,fv,rv,nv,cv,ov,bv,ev,tv]) s):Xf B w 1 Zd gv s.mem.globals/\Xf B w 2 (Xbc B) mv s.mem.nodes/\Xf B w 9 (Xu4 B) rv s.running/\Xf B w 1 Zd nv s.nodes/\
  Xf B w 1 (Xsa 2 (Xsr B) B) cv s.calls/\Xf B w 1 (Xsa 5 Xtu B) ov s.results/\Xf B w 1 (Xsa 1 Zd B) bv s.begins/\Xf B w 1 (Xsa 1 Zd B) ev s.ends/\in64 s.fuel/\in64 s.step:=by
 obtain ⟨gv,mv,rv,nv,cv,ov,bv,ev,he,h⟩:=h
 cases he
 exact h
def enB (s:Thr) (t:Nat):Bool:=match s.running[t]?,s.calls[t]? with
 | some m,some l=>decide (0<m.frames.length) || decide (0<l.length)
 | _,_=>false
theorem Xtl (s:Thr) (sv:Value) (t:Nat) (B:Nat) (w:World) (hB:B<=w.heap.size) (hs:Xsd B w sv s) (ht:t<s.running.length) (hl:s.calls.length=s.running.length) :
  Calls Tryz.prog 61 #[sv,ι t] w fun e w'=>e=.returned (.bool (enB s t))/\Below w.heap.size w w':=by
 obtain ⟨ga,gc,ma,mc,ra,rc,na,nc,ca,cc,oa,oc,ba,bc,ea,ec,rfl⟩:=hs.open_
 obtain ⟨-,-,hr,-,hc,-⟩:=hs.parts
 obtain ⟨m,hm⟩:∃ m,s.running[t]?=some m:=⟨_,Lg ht⟩
 obtain ⟨l,hx⟩:∃ m,s.calls[t]?=some m:=⟨_,Lg ω⟩
 obtain ⟨rb,ro,rfl,aI,fv,aA,aD,-⟩:=hr.nth hm
 obtain ⟨fa,fc,rfl⟩:=aD.fm
 obtain ⟨cb,co,rfl,aE,v,aC,aB⟩:=hc.nth hx
 obtain ⟨la,lc,rfl⟩:=aB.fm
 have HE:Hid (enB s t=(decide (0<m.frames.length) || decide (0<l.length))):=Lh (by unfold enB;rw [hm,hx])
 have r0:(w.alloc (χ #[σ ga s.mem.globals.length gc,σ ma s.mem.nodes.length mc,ι s.fuel,σ (some (π rb ro)) s.running.length rc,σ na s.nodes.length nc,σ (some (π cb co)) s.calls.length cc,σ oa s.results.length oc,σ ba s.begins.length bc,σ ea s.ends.length ec,ι s.step] 34)).cell? (π rb (ro+t*9))=some (σ fa m.frames.length fc):=by
  rw [World.cell?_alloc_past _ _ _ (by show rb<_;omega)];exact aA 0 _ rfl
 have c0:(w.alloc (χ #[σ ga s.mem.globals.length gc,σ ma s.mem.nodes.length mc,ι s.fuel,σ (some (π rb ro)) s.running.length rc,σ na s.nodes.length nc,σ (some (π cb co)) s.calls.length cc,σ oa s.results.length oc,σ ba s.begins.length bc,σ ea s.ends.length ec,ι s.step] 34)).cell? (π cb (co+t))=some (σ la l.length lc):=by
  rw [World.cell?_alloc_past _ _ _ (by show cb<_;omega)];simpa using aC
 have aF:(0:Int)<=(t:Int):=In _
 have aG:(t:Int)<(s.running.length:Int):=ω
 have aH:(t:Int)<(s.calls.length:Int):=ω
 clear hr hc hm hx aA aD aC aB hs hl
 by_cases h1:0<m.frames.length
 ·have d1:decide (0<m.frames.length)=true:=by simpa using h1
  have HF:Hid (enB s t=true):=Lh (by rw [HE.o];simp [h1])
  clear h1
  go_enter Tryz.func61,Tryz.ntmps61
  go_wp2
  go_ret
  exact ⟨by rw [HF.o];rfl,Xa _ _⟩
 ·have d1:decide (0<m.frames.length)=false:=by simpa using h1
  have HF:Hid (enB s t=decide (0<l.length)):=Lh (by rw [HE.o];simp [h1])
  clear h1
  go_enter Tryz.func61,Tryz.ntmps61
  go_wp2
  go_ret
  exact ⟨by rw [HF.o];rfl,Xa _ _⟩
def Xsl (s:Thr) (t:Int):Int:=if t<0 then 2 else if (s.running.length:Int)<=t then 2 else if enB s t.toNat then 0 else 14
theorem Xz5 (s:Thr) (sv:Value) (t:Int) (B:Nat) (w:World) (hB:B<=w.heap.size) (hs:Xsd B w sv s) (hl:s.calls.length=s.running.length) :
  Calls Tryz.prog 66 #[sv,ι t] w fun e w'=>e=.returned (ι (Xsl s t))/\Below w.heap.size w w':=by
 have HS:=Lh hs
 have HL:=Lh hl
 obtain ⟨ga,gc,ma,mc,ra,rc,na,nc,ca,cc,oa,oc,ba,bc,ea,ec,rfl⟩:=hs.open_
 clear hs hl
 by_cases h1:t<0
 ·have HF:Hid (Xsl s t=2):=Lh (by unfold Xsl;rw [if_pos h1])
  have d1:decide (t<0)=true:=by simpa using h1
  clear h1
  go_enter Tryz.func66,Tryz.ntmps66
  go_wp2
  go_ret
  exact ⟨by rw [HF.o];rfl,Xa _ _⟩
 have d1:decide (t<0)=false:=by simpa using h1
 by_cases h2:(s.running.length:Int)<=t
 ·have HF:Hid (Xsl s t=2):=Lh (by unfold Xsl;rw [if_neg h1,if_pos h2])
  have d2:decide ((s.running.length:Int)<=t)=true:=by simpa using h2
  clear h1 h2
  go_enter Tryz.func66,Tryz.ntmps66
  go_wp2
  go_ret
  exact ⟨by rw [HF.o];rfl,Xa _ _⟩
 have d2:decide ((s.running.length:Int)<=t)=false:=by simpa using h2
 obtain ⟨n,rfl⟩:∃ n:Nat,t=n:=⟨t.toNat,ω⟩
 have HN:Hid (n<s.running.length):=Lh ω
 have d3:decide (s.running.length<=n)=false:=by simp;omega
 cases aA:enB s n with
 | true=>
  have HF:Hid (Xsl s n=0):=Lh (by unfold Xsl;rw [if_neg h1,if_neg h2,Int.toNat_natCast,aA];rfl)
  have aB:=Lh aA
  clear h1 h2 aA
  go_enter Tryz.func66,Tryz.ntmps66
  go_wp2_with fail
  refine (Xtl s _ n B _ φ (HS.o.below (Xa _ _ |>.mono hB)) HN.o HL.o).mono ?_
  rintro e w1 ⟨rfl,hb⟩
  rw [aB.o]
  have aC:=Yi hb
  go_wp2
  go_ret
  exact ⟨by rw [HF.o];rfl,aC⟩
 | false=>
  have HF:Hid (Xsl s n=14):=Lh (by unfold Xsl;rw [if_neg h1,if_neg h2,Int.toNat_natCast,aA];rfl)
  have aB:=Lh aA
  clear h1 h2 aA
  go_enter Tryz.func66,Tryz.ntmps66
  go_wp2_with fail
  refine (Xtl s _ n B _ φ (HS.o.below (Xa _ _ |>.mono hB)) HN.o HL.o).mono ?_
  rintro e w1 ⟨rfl,hb⟩
  rw [aB.o]
  have aC:=Yi hb
  go_wp2
  go_ret
  exact ⟨by rw [HF.o];rfl,aC⟩
def Xxk (B:Nat) (w:World) (v:Value) (l:List Cal):Prop:=Xf B w 2 (Xsr B) v l
def Xz0 (_:Nat) (w:World) (v:Value) (l:List Xr7):Prop:=∃ B,Xf B w 5 Xtu v l
def Xzz (B:Nat) (w:World) (v:Value) (l:List Int):Prop:=Xf B w 1 Zd v l
theorem Xwj (kf:Nat) (caps:Array Value) (p:Cal->Bool) (l:List Cal) (v:Value) (B:Nat) (w:World) (he:Zn kf) (hB:B<=w.heap.size) (hv:Xf B w 2 (Xsr B) v l)
  (hf:∀ (x:Cal) (w1:World) (av:Value),Below w.heap.size w w1->J8 B w1 av x->Calls Tryz.prog kf (#[av]++caps) w1 (fun e w2=>e=.returned (.bool (p x))/\Below w1.heap.size w1 w2)) :
  Calls Tryz.prog 79 #[v,.func (.func kf) #[] caps] w fun e w'=>e=.returned (ι (Qw p l))/\Below w.heap.size w w':=by
 obtain ⟨a,cap,rfl,hl,aH,aI,hv⟩:=hv
 have HV:=Lh hv
 have HF:=Lh hf
 unfold Zn at he
 clear hv hf
 go_enter Tryz.func79,Tryz.ntmps79
 go_wp2
 go_loopw [8] (fun i wr=>∃ k:Nat,k<=l.length/\i=ι k/\Below w.heap.size w wr/\Hid (∀ j x,j<k->l[j]?=some x->p x=false)) (fun i _=>l.length - (intOf i).toNat)
 case atStart=>exact ⟨0,Nat.zero_le _,rfl,Below.refl _ _,fun j x hj=>by omega⟩
 case round=>
  obtain ⟨k,hk,rfl,hb,aB⟩:=hrel
  by_cases aG:k<l.length
  ·obtain ⟨x,hx⟩:∃ x,l[k]?=some x:=⟨_,Lg aG⟩
   rcases HV.o with h|⟨b,o,rfl,aE,hE⟩
   ·subst h;simp at hx
   have hE:=Xsr.below (hb.mono hB) aE (hE k x hx)
   obtain ⟨h1,⟨lv,h3,h4⟩,h7⟩:=hE
   have H4:=Lh h4
   clear h4
   have HX:=Lh hx
   clear hx
   go_wp2_with fail
   refine (HF.o x wr _ hb ⟨lv,rfl,H4.o,h7⟩).mono ?_
   rintro e w2 ⟨rfl,aD⟩
   have aC:Below w.heap.size w w2:=hb.trans (aD.mono hb.size)
   cases hp:p x with
   | true=>
    have aA:=Lh (Ue HX.o hp aB)
    clear hp
    go_wp2
    go_ret
    exact ⟨by rw [aA.o];rfl,aC⟩
   | false=>
    have aA:Hid (∀ j x,j<k+1->l[j]?=some x->p x=false):=by
     intro j y hj hy
     by_cases aF:j=k
     ·subst aF;have:=HX.o.symm.trans hy;simp at this;rw [<-this];exact hp
     ·exact aB j y ω hy
    clear hp
    go_wp2
    go_roundw
    case rel=>exact ⟨k+1,ω,by go_num,aC,aA⟩
    case measure=>simp [intOf];omega
  ·have aA:=Lh (Jk (p:=p) (l:=l) (fun j y hj hy=>aB j y ω hy))
   go_wp2
   go_ret
   exact ⟨by rw [aA.o];rfl,hb⟩
theorem Xtm (kf:Nat) (caps:Array Value) (p:Cal->Bool) (l:List Cal) (v:Value) (B:Nat) (w:World) (he:Zn kf) (hB:B<=w.heap.size) (hv:Xf B w 2 (Xsr B) v l)
  (hf:∀ (x:Cal) (w1:World) (av:Value),Below w.heap.size w w1->J8 B w1 av x->Calls Tryz.prog kf (#[av]++caps) w1 (fun e w2=>e=.returned (.bool (p x))/\Below w1.heap.size w1 w2)) :
  Calls Tryz.prog 36 #[v,.func (.func kf) #[] caps] w fun e w'=>e=.returned (.bool (l.any p))/\Below w.heap.size w w':=by
 have HV:=Lh hv
 have HF:=Lh hf
 have HE:=Lh he
 have aA:=Lh (Kd p l)
 clear hv hf he
 go_enter Tryz.func36,Tryz.ntmps36
 go_wp2_with fail
 refine (Xwj kf caps p l v B w HE.o hB HV.o HF.o).mono ?_
 rintro e w' ⟨rfl,hb⟩
 go_wp2
 go_ret
 exact ⟨by rw [<-aA.o];rfl,hb⟩
theorem Xv8 (kf:Nat) (caps:Array Value) (p:List Cal->Bool) (l:List (List Cal)) (v:Value) (B:Nat) (w:World) (he:Zn kf) (hB:B<=w.heap.size) (hv:Xf B w 1 (Xsa 2 (Xsr B) B) v l)
  (hf:∀ (x:List Cal) (w1:World) (av:Value),Below w.heap.size w w1->Xxk B w1 av x->Calls Tryz.prog kf (#[av]++caps) w1 (fun e w2=>e=.returned (.bool (p x))/\Below w1.heap.size w1 w2)) :
  Calls Tryz.prog 59 #[v,.func (.func kf) #[] caps] w fun e w'=>e=.returned (ι (Qw p l))/\Below w.heap.size w w':=by
 obtain ⟨a,cap,rfl,hl,aH,aI,hv⟩:=hv
 have HV:=Lh hv
 have HF:=Lh hf
 unfold Zn at he
 clear hv hf
 go_enter Tryz.func59,Tryz.ntmps59
 go_wp2
 go_loopw [8] (fun i wr=>∃ k:Nat,k<=l.length/\i=ι k/\Below w.heap.size w wr/\Hid (∀ j x,j<k->l[j]?=some x->p x=false)) (fun i _=>l.length - (intOf i).toNat)
 case atStart=>exact ⟨0,Nat.zero_le _,rfl,Below.refl _ _,fun j x hj=>by omega⟩
 case round=>
  obtain ⟨k,hk,rfl,hb,aB⟩:=hrel
  by_cases aG:k<l.length
  ·obtain ⟨x,hx⟩:∃ x,l[k]?=some x:=⟨_,Lg aG⟩
   rcases HV.o with h|⟨b,o,rfl,aE,hE⟩
   ·subst h;simp at hx
   have hE:=Xsa.below (hb.mono hB) (fun _ _ _ h=>Xsr.below (hb.mono hB) h) aE (hE k x hx)
   obtain ⟨cv,h1,h4⟩:=hE
   rw [Nat.mul_one] at h1
   have H4:=Lh h4
   clear h4
   have HX:=Lh hx
   clear hx
   go_wp2_with fail
   refine (HF.o x wr _ hb H4.o).mono ?_
   rintro e w2 ⟨rfl,aD⟩
   have aC:Below w.heap.size w w2:=hb.trans (aD.mono hb.size)
   cases hp:p x with
   | true=>
    have aA:=Lh (Ue HX.o hp aB)
    clear hp
    go_wp2
    go_ret
    exact ⟨by rw [aA.o];rfl,aC⟩
   | false=>
    have aA:Hid (∀ j x,j<k+1->l[j]?=some x->p x=false):=by
     intro j y hj hy
     by_cases aF:j=k
     ·subst aF;have:=HX.o.symm.trans hy;simp at this;rw [<-this];exact hp
     ·exact aB j y ω hy
    clear hp
    go_wp2
    go_roundw
    case rel=>exact ⟨k+1,ω,by go_num,aC,aA⟩
    case measure=>simp [intOf];omega
  ·have aA:=Lh (Jk (p:=p) (l:=l) (fun j y hj hy=>aB j y ω hy))
   go_wp2
   go_ret
   exact ⟨by rw [aA.o];rfl,hb⟩
theorem Xs0 (kf:Nat) (caps:Array Value) (p:List Cal->Bool) (l:List (List Cal)) (v:Value) (B:Nat) (w:World) (he:Zn kf) (hB:B<=w.heap.size) (hv:Xf B w 1 (Xsa 2 (Xsr B) B) v l)
  (hf:∀ (x:List Cal) (w1:World) (av:Value),Below w.heap.size w w1->Xxk B w1 av x->Calls Tryz.prog kf (#[av]++caps) w1 (fun e w2=>e=.returned (.bool (p x))/\Below w1.heap.size w1 w2)) :
  Calls Tryz.prog 17 #[v,.func (.func kf) #[] caps] w fun e w'=>e=.returned (.bool (l.any p))/\Below w.heap.size w w':=by
 have HV:=Lh hv
 have HF:=Lh hf
 have HE:=Lh he
 have aA:=Lh (Kd p l)
 clear hv hf he
 go_enter Tryz.func17,Tryz.ntmps17
 go_wp2_with fail
 refine (Xv8 kf caps p l v B w HE.o hB HV.o HF.o).mono ?_
 rintro e w' ⟨rfl,hb⟩
 go_wp2
 go_ret
 exact ⟨by rw [<-aA.o];rfl,hb⟩
theorem Xwn (kf:Nat) (caps:Array Value) (p:Mch->Bool) (l:List Mch) (v:Value) (B:Nat) (w:World) (he:Zn kf) (hB:B<=w.heap.size) (hv:Xf B w 9 (Xu4 B) v l)
  (hf:∀ (x:Mch) (w1:World) (av:Value),Below w.heap.size w w1->Xq8 B w1 av x->Calls Tryz.prog kf (#[av]++caps) w1 (fun e w2=>e=.returned (.bool (p x))/\Below w1.heap.size w1 w2)) :
  Calls Tryz.prog 58 #[v,.func (.func kf) #[] caps] w fun e w'=>e=.returned (ι (Qw p l))/\Below w.heap.size w w':=by
 obtain ⟨a,cap,rfl,hl,aH,aI,hv⟩:=hv
 have HV:=Lh hv
 have HF:=Lh hf
 unfold Zn at he
 clear hv hf
 go_enter Tryz.func58,Tryz.ntmps58
 go_wp2
 go_loopw [8] (fun i wr=>∃ k:Nat,k<=l.length/\i=ι k/\Below w.heap.size w wr/\Hid (∀ j x,j<k->l[j]?=some x->p x=false)) (fun i _=>l.length - (intOf i).toNat)
 case atStart=>exact ⟨0,Nat.zero_le _,rfl,Below.refl _ _,fun j x hj=>by omega⟩
 case round=>
  obtain ⟨k,hk,rfl,hb,aB⟩:=hrel
  by_cases aG:k<l.length
  ·obtain ⟨x,hx⟩:∃ x,l[k]?=some x:=⟨_,Lg aG⟩
   rcases HV.o with h|⟨b,o,rfl,aE,hE⟩
   ·subst h;simp at hx
   have hE:=Xu4.below (hb.mono hB) aE (hE k x hx)
   obtain ⟨fv,h4,k0,k1,k2,k3,k4,k5,k6,k7,k8,h7⟩:=hE.nine
   have H4:=Lh h4
   clear h4 hE
   have HX:=Lh hx
   clear hx
   go_wp2_with fail
   refine (HF.o x wr _ hb ⟨fv,rfl,H4.o,h7⟩).mono ?_
   rintro e w2 ⟨rfl,aD⟩
   have aC:Below w.heap.size w w2:=hb.trans (aD.mono hb.size)
   cases hp:p x with
   | true=>
    have aA:=Lh (Ue HX.o hp aB)
    clear hp
    go_wp2
    go_ret
    exact ⟨by rw [aA.o];rfl,aC⟩
   | false=>
    have aA:Hid (∀ j x,j<k+1->l[j]?=some x->p x=false):=by
     intro j y hj hy
     by_cases aF:j=k
     ·subst aF;have:=HX.o.symm.trans hy;simp at this;rw [<-this];exact hp
     ·exact aB j y ω hy
    clear hp
    go_wp2
    go_roundw
    case rel=>exact ⟨k+1,ω,by go_num,aC,aA⟩
    case measure=>simp [intOf];omega
  ·have aA:=Lh (Jk (p:=p) (l:=l) (fun j y hj hy=>aB j y ω hy))
   go_wp2
   go_ret
   exact ⟨by rw [aA.o];rfl,hb⟩
theorem Xtq (kf:Nat) (caps:Array Value) (p:Mch->Bool) (l:List Mch) (v:Value) (B:Nat) (w:World) (he:Zn kf) (hB:B<=w.heap.size) (hv:Xf B w 9 (Xu4 B) v l)
  (hf:∀ (x:Mch) (w1:World) (av:Value),Below w.heap.size w w1->Xq8 B w1 av x->Calls Tryz.prog kf (#[av]++caps) w1 (fun e w2=>e=.returned (.bool (p x))/\Below w1.heap.size w1 w2)) :
  Calls Tryz.prog 15 #[v,.func (.func kf) #[] caps] w fun e w'=>e=.returned (.bool (l.any p))/\Below w.heap.size w w':=by
 have HV:=Lh hv
 have HF:=Lh hf
 have HE:=Lh he
 have aA:=Lh (Kd p l)
 clear hv hf he
 go_enter Tryz.func15,Tryz.ntmps15
 go_wp2_with fail
 refine (Xwn kf caps p l v B w HE.o hB HV.o HF.o).mono ?_
 rintro e w' ⟨rfl,hb⟩
 go_wp2
 go_ret
 exact ⟨by rw [<-aA.o];rfl,hb⟩
theorem Xxa (kf:Nat) (caps:Array Value) (p:List Int->Bool) (l:List (List Int)) (v:Value) (B:Nat) (w:World) (he:Zn kf) (hB:B<=w.heap.size) (hv:Xf B w 1 (Xsa 1 Zd B) v l)
  (hf:∀ (x:List Int) (w1:World) (av:Value),Below w.heap.size w w1->Xzz B w1 av x->Calls Tryz.prog kf (#[av]++caps) w1 (fun e w2=>e=.returned (.bool (p x))/\Below w1.heap.size w1 w2)) :
  Calls Tryz.prog 83 #[v,.func (.func kf) #[] caps] w fun e w'=>e=.returned (ι (Qw p l))/\Below w.heap.size w w':=by
 obtain ⟨a,cap,rfl,hl,aH,aI,hv⟩:=hv
 have HV:=Lh hv
 have HF:=Lh hf
 unfold Zn at he
 clear hv hf
 go_enter Tryz.func83,Tryz.ntmps83
 go_wp2
 go_loopw [8] (fun i wr=>∃ k:Nat,k<=l.length/\i=ι k/\Below w.heap.size w wr/\Hid (∀ j x,j<k->l[j]?=some x->p x=false)) (fun i _=>l.length - (intOf i).toNat)
 case atStart=>exact ⟨0,Nat.zero_le _,rfl,Below.refl _ _,fun j x hj=>by omega⟩
 case round=>
  obtain ⟨k,hk,rfl,hb,aB⟩:=hrel
  by_cases aG:k<l.length
  ·obtain ⟨x,hx⟩:∃ x,l[k]?=some x:=⟨_,Lg aG⟩
   rcases HV.o with h|⟨b,o,rfl,aE,hE⟩
   ·subst h;simp at hx
   have hE:=Xsa.below (hb.mono hB) (fun _ _ _ h=>Zd.below (hb.mono hB) h) aE (hE k x hx)
   obtain ⟨cv,h1,h4⟩:=hE
   rw [Nat.mul_one] at h1
   have H4:=Lh h4
   clear h4
   have HX:=Lh hx
   clear hx
   go_wp2_with fail
   refine (HF.o x wr _ hb H4.o).mono ?_
   rintro e w2 ⟨rfl,aD⟩
   have aC:Below w.heap.size w w2:=hb.trans (aD.mono hb.size)
   cases hp:p x with
   | true=>
    have aA:=Lh (Ue HX.o hp aB)
    clear hp
    go_wp2
    go_ret
    exact ⟨by rw [aA.o];rfl,aC⟩
   | false=>
    have aA:Hid (∀ j x,j<k+1->l[j]?=some x->p x=false):=by
     intro j y hj hy
     by_cases aF:j=k
     ·subst aF;have:=HX.o.symm.trans hy;simp at this;rw [<-this];exact hp
     ·exact aB j y ω hy
    clear hp
    go_wp2
    go_roundw
    case rel=>exact ⟨k+1,ω,by go_num,aC,aA⟩
    case measure=>simp [intOf];omega
  ·have aA:=Lh (Jk (p:=p) (l:=l) (fun j y hj hy=>aB j y ω hy))
   go_wp2
   go_ret
   exact ⟨by rw [aA.o];rfl,hb⟩
theorem Xtp (kf:Nat) (caps:Array Value) (p:List Int->Bool) (l:List (List Int)) (v:Value) (B:Nat) (w:World) (he:Zn kf) (hB:B<=w.heap.size) (hv:Xf B w 1 (Xsa 1 Zd B) v l)
  (hf:∀ (x:List Int) (w1:World) (av:Value),Below w.heap.size w w1->Xzz B w1 av x->Calls Tryz.prog kf (#[av]++caps) w1 (fun e w2=>e=.returned (.bool (p x))/\Below w1.heap.size w1 w2)) :
  Calls Tryz.prog 43 #[v,.func (.func kf) #[] caps] w fun e w'=>e=.returned (.bool (l.any p))/\Below w.heap.size w w':=by
 have HV:=Lh hv
 have HF:=Lh hf
 have HE:=Lh he
 have aA:=Lh (Kd p l)
 clear hv hf he
 go_enter Tryz.func43,Tryz.ntmps43
 go_wp2_with fail
 refine (Xxa kf caps p l v B w HE.o hB HV.o HF.o).mono ?_
 rintro e w' ⟨rfl,hb⟩
 go_wp2
 go_ret
 exact ⟨by rw [<-aA.o];rfl,hb⟩
theorem Xwy (kf:Nat) (caps:Array Value) (p:List Xr7->Bool) (l:List (List Xr7)) (v:Value) (B:Nat) (w:World) (he:Zn kf) (hB:B<=w.heap.size) (hv:Xf B w 1 (Xsa 5 Xtu B) v l)
  (hf:∀ (x:List Xr7) (w1:World) (av:Value),Below w.heap.size w w1->Xz0 B w1 av x->Calls Tryz.prog kf (#[av]++caps) w1 (fun e w2=>e=.returned (.bool (p x))/\Below w1.heap.size w1 w2)) :
  Calls Tryz.prog 84 #[v,.func (.func kf) #[] caps] w fun e w'=>e=.returned (ι (Qw p l))/\Below w.heap.size w w':=by
 obtain ⟨a,cap,rfl,hl,aH,aI,hv⟩:=hv
 have HV:=Lh hv
 have HF:=Lh hf
 unfold Zn at he
 clear hv hf
 go_enter Tryz.func84,Tryz.ntmps84
 go_wp2
 go_loopw [8] (fun i wr=>∃ k:Nat,k<=l.length/\i=ι k/\Below w.heap.size w wr/\Hid (∀ j x,j<k->l[j]?=some x->p x=false)) (fun i _=>l.length - (intOf i).toNat)
 case atStart=>exact ⟨0,Nat.zero_le _,rfl,Below.refl _ _,fun j x hj=>by omega⟩
 case round=>
  obtain ⟨k,hk,rfl,hb,aB⟩:=hrel
  by_cases aG:k<l.length
  ·obtain ⟨x,hx⟩:∃ x,l[k]?=some x:=⟨_,Lg aG⟩
   rcases HV.o with h|⟨b,o,rfl,aE,hE⟩
   ·subst h;simp at hx
   have hE:=Xsa.below (hb.mono hB) (fun _ _ _ h=>Xtu.below (hb.mono hB) h) aE (hE k x hx)
   obtain ⟨cv,h1,h4⟩:=hE
   rw [Nat.mul_one] at h1
   have H4:=Lh h4
   clear h4
   have HX:=Lh hx
   clear hx
   go_wp2_with fail
   refine (HF.o x wr _ hb ⟨_,H4.o⟩).mono ?_
   rintro e w2 ⟨rfl,aD⟩
   have aC:Below w.heap.size w w2:=hb.trans (aD.mono hb.size)
   cases hp:p x with
   | true=>
    have aA:=Lh (Ue HX.o hp aB)
    clear hp
    go_wp2
    go_ret
    exact ⟨by rw [aA.o];rfl,aC⟩
   | false=>
    have aA:Hid (∀ j x,j<k+1->l[j]?=some x->p x=false):=by
     intro j y hj hy
     by_cases aF:j=k
     ·subst aF;have:=HX.o.symm.trans hy;simp at this;rw [<-this];exact hp
     ·exact aB j y ω hy
    clear hp
    go_wp2
    go_roundw
    case rel=>exact ⟨k+1,ω,by go_num,aC,aA⟩
    case measure=>simp [intOf];omega
  ·have aA:=Lh (Jk (p:=p) (l:=l) (fun j y hj hy=>aB j y ω hy))
   go_wp2
   go_ret
   exact ⟨by rw [aA.o];rfl,hb⟩
theorem Xvj (kf:Nat) (caps:Array Value) (p:List Xr7->Bool) (l:List (List Xr7)) (v:Value) (B:Nat) (w:World) (he:Zn kf) (hB:B<=w.heap.size) (hv:Xf B w 1 (Xsa 5 Xtu B) v l)
  (hf:∀ (x:List Xr7) (w1:World) (av:Value),Below w.heap.size w w1->Xz0 B w1 av x->Calls Tryz.prog kf (#[av]++caps) w1 (fun e w2=>e=.returned (.bool (p x))/\Below w1.heap.size w1 w2)) :
  Calls Tryz.prog 44 #[v,.func (.func kf) #[] caps] w fun e w'=>e=.returned (.bool (l.any p))/\Below w.heap.size w w':=by
 have HV:=Lh hv
 have HF:=Lh hf
 have HE:=Lh he
 have aA:=Lh (Kd p l)
 clear hv hf he
 go_enter Tryz.func44,Tryz.ntmps44
 go_wp2_with fail
 refine (Xwy kf caps p l v B w HE.o hB HV.o HF.o).mono ?_
 rintro e w' ⟨rfl,hb⟩
 go_wp2
 go_ret
 exact ⟨by rw [<-aA.o];rfl,hb⟩
