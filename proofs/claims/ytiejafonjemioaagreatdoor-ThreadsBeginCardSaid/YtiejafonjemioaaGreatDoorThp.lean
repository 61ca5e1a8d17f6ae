import Derived.Test.YtiejafonjemioaaGreatDoorThu
import Derived.Test.YtiejafonjemioaaGreatDoorReg
set_option maxHeartbeats 2000000
set_option maxRecDepth 100000
set_option linter.unusedVariables false
set_option linter.unusedSimpArgs false
open Go.Value renaming slice→σ
open Go.Obj renaming cells→χ
namespace Go.Proofs.YtiejafonjemioaaGreatDoor
open Go.RowKit
variable {o tag B bt b j t:Nat} {a w w' d:World} {c:Cod} {v:Value} {n:Int} {c':Clr} {s:Thr} {m m':Mch} {r:Rq}
theorem Xsy {o:Oper} {a:Act} {K:Act->World->Prop} {Q:Exit->Act->World->Prop} (T:Nat->Prop) (s x:Operand) (t e:TypeId) (ho:o.op=.call { callee:=.builtin .append,args:=#[s,x],argTypes:=#[t,t] }) (hu:Tryz.prog.underlying t=some (.slice e)) {z:Value} {sz bytes:Nat} (hi:(Tryz.prog.info? e).map (fun i=>(i.zero,i.size,i.bytes))=some (some z,sz,bytes)) (hz:z.cells.size=sz) (hsz:0<sz) (hb:bytes<=128)
  {c:Clr} {n:Nat} {xs:List Value} (hs:a.eval s=v) (hO:V3 w c tag e sz v n xs) (ad:Addr) (m cx:Nat) (news:List Value) (hx:a.eval x=σ (some ad) m cx) (hl:news.length=m*sz) (hnews:∀ (j:Nat) u,news[j]?=some u->w.cell? (ad.add j)=some u) (hone:∀ u∈news,u.oneCell'=true) (hm:0<m) (hn:n+m<=1000000000000) (hT:T tag) (h0:¬T 0) (hhi:∀ b,w.heap.size<=b->c b=0)
  (h:∀ g cap w' c',V3 w' c' tag e sz (σ (some (π g 0)) (n+m) cap) (n+m) (xs++news)->Chg T c c' w w'->(∀ b,w'.heap.size<=b->c' b=0)->c' g=tag->K (a.put o.dst (σ (some (π g 0)) (n+m) cap)) w'):o.wp Tryz.prog a w K Q:=by
 obtain ⟨ti,aB,aC,aD,aE⟩:=info_parts hi
 refine wp_append_lies w s x t ho 0 e ti z sz bytes hu aB aC aD aE hz hsz v n xs hs hO.1 ad m cx news hx hl hnews hone hm (by unfold maxLen;omega) ?_ (Nat.zero_le _) w.heap.size rfl (fun g cap w' h1 h2 h3 h4=>?_)
 ·exact Nt (Nat.mul_le_mul hn hb) δ
 ·have aA:g<w.heap.size->c g=tag:=fun aF=>by
   rcases h3 with h3|h3
   ·exact hO.2.1 g (by rw [h3];simp)
   ·omega
  refine h g cap w' (fun b=>if b=g then tag else c b) ⟨h1,fun b hb=>?_,ω⟩ ⟨h2.os,h2.tape,h2.output,h2.size,fun b hb hn=>h2.block b hb (fun e=>hn ?_),fun b hb=>?_,h0⟩ (fun b hb=>?_) (if_pos rfl)
  ·simp [Value.ownBlock] at hb
   exact if_pos hb
  ·rw [hO.2.1 b (by rw [<-e];simp)];exact hT
  ·split
   ·rename_i e;subst e;exact (aA hb).symm
   ·rfl
  ·rw [if_neg ω]
   exact hhi b (Nt h2.size hb)
theorem Xvh:(Tryz.prog.info? 84).map (fun i=>(i.zero,i.size,i.bytes))=some (some (.agg #[ι 0,ι 0,ι 0,ι 0,ι 0]),5,40):=by kernel_rfl
def Xwz (s:Thr) (t:Nat) (f v k n:Int):Thr:={ s with results:=s.results.modify t (·++[⟨f,v,k,n,0⟩]),ends:=s.ends.modify t (·++[s.step]),running:=s.running.set t Xl,nodes:=s.nodes.set t 0 }
def Xs5 (c:Clr) (bt:Nat) (s':Thr) (w w':World):Prop:=∃ c',V2 w' c' bt s'/\Chg NZ c c' w w'
theorem Xxt (s:Thr) (c:Clr) (bt t:Nat) (f v k n:Int) (r:List Xr7) (e:List Int) (m:Mch) (w:World) (h:V2 w c bt s) (hm:s.running[t]?=some m) (hn:s.nodes[t]?=some n) (hr:s.results[t]?=some r) (he:s.ends[t]?=some e) (bL:r.length<=1000000) (bK:e.length<=1000000) (hf:in64 f) (hv:in64 v) (hk:in64 k) :
  Calls Tryz.prog 103 #[.pointer (some (π bt 0)),ι t,ι f,ι v,ι k] w fun z w'=>z=.returned (.tuple #[])/\Xs5 c bt (Xwz s t f v k n) w w':=by
 have i0:(0:Int)<=(t:Int):=In _
 have H0:=Lh h
 obtain ⟨kb,kc,b4,k0,bN,bO,cX,kn,-⟩:=h.viewK hn
 have HN:=Lh (And.intro hm (And.intro hn (And.intro hr (And.intro he (And.intro bL bK)))))
 have cS:Hid (Xzy ⟨f,v,k,n,0⟩):=Lh ⟨hf,hv,hk,kn,by unfold in64;simp⟩
 have i1:(t:Int)<(s.results.length:Int):=by have:=(Ll hr);omega
 have i2:(t:Int)<(s.nodes.length:Int):=by have:=(Ll hn);omega
 have KC:=Lh bN
 clear h hm hn hr he bL bK hf hv hk bN bO cX kn
 go_enter Tryz.func103,Tryz.ntmps103
 go_upto_region 0 with fail
 obtain ⟨aC,bP,bE,pc0,b0,o0,bR,bT,bV,aX,aQ⟩:=H0.o.viewO HN.o.2.2.1
 have bA:=Lh H0.o.lab
 have aL:=Lh (And.intro bR (And.intro bT bV))
 have cP:=Lh aX
 have cD:=Lh aQ
 clear bR bT bV aX aQ
 refine X6 (fun Vs=>Vs.cell? (π bt 6)=some (σ (some (π aC 0)) s.results.length bP)/\Vs.cell? (π aC t)=some (σ bE r.length pc0)/\Vs.cell? (π bt 4)=some (σ (some (π kb 0)) s.nodes.length kc)/\Vs.cell? (π kb t)=some (ι n)) [24,25,27] true 28 rfl κ κ ⟨b0,o0,b4,k0⟩ ?_
 repeat (first|(refine' Xr4.take (Eq.refl false) _ (fun wV aS=>?_) ?_;rotate_left;(try dsimp only at aS);go_simp;(try with_reducible rfl);try simp only [Ap])|refine Xr4.skip (Eq.refl true) ?_)
 refine Xr4.stop ?_
 simp only [List.nil_append,List.cons_append]
 have aE:=Lh (And.intro b0 (And.intro o0 (And.intro b4 (k0))))
 clear b0 o0 b4 k0
 refine X5 κ ?_
 go_simp
 refine ⟨⟨Xc (Xa _ _) aE.o.1,Xc (Xa _ _) aE.o.2.1,Xc (Xa _ _) aE.o.2.2.1,Xc (Xa _ _) aE.o.2.2.2⟩,?_⟩
 have aF:Chg NO c c w (w.alloc (χ #[ι f,ι v,ι k,ι n,ι 0] 84)).drew:=Chg.of_below (Xsh w _) (no 0)
 refine X5 κ ?_
 refine Xsy (fun k=>k=11+5*t) (.tmp 21) (.tmp 34) 78 84 rfl Tryz.underlying78 Xvh rfl δ δ (c:=c) (tag:=11+5*t) (v:=σ bE r.length pc0) (n:=r.length) (xs:=Xss r) rfl (cP.o.keep aF (no _)) (π w.heap.size 0) 1 1 (Xsv ⟨f,v,k,n,0⟩) rfl rfl (fun j u hu=>(Xso w _ _ j).trans (by simpa [Xsv] using hu)) (by simp [Xsv,Value.oneCell']) δ (by have:=HN.o.2.2.2.2.1;omega) rfl ω (fun b hb=>bA.o.2.2.1 b (by simp at hb;omega)) (fun g0 aO aH c10 aA hC aU bC=>?_)
 have cN:=Lh aA
 have cF:=Lh hC
 have cJ:=Lh aU
 have q0:aH.cell? (π bt 6)=some (σ (some (π aC 0)) s.results.length bP):=hC.cell (aF.cell aE.o.1 (no _)) (by show ¬c bt=_;rw [bA.o.1];omega)
 have q1:aH.cell? (π aC t)=some (σ bE r.length pc0):=hC.cell (aF.cell aE.o.2.1 (no _)) (by show ¬c aC=_;rw [aL.o.1];omega)
 have q2:aH.cell? (π bt 4)=some (σ (some (π kb 0)) s.nodes.length kc):=hC.cell (aF.cell aE.o.2.2.1 (no _)) (by show ¬c bt=_;rw [bA.o.1];omega)
 have q3:aH.cell? (π kb t)=some (ι n):=hC.cell (aF.cell aE.o.2.2.2 (no _)) (by show ¬c kb=_;rw [KC.o];omega)
 have qf:aH.frozen? (π aC t)=false:=hC.frozen (by have:=aL.o.2.1;show aC<_;simp;omega) (aF.frozen aL.o.2.1 (aL.o.2.2 t) (no _)) (by show ¬c aC=_;rw [aL.o.1];omega)
 have bY:=Lh aF
 clear aA hC aU bC aF
 refine ⟨.inl ⟨q0,q1,q2,q3⟩,?_⟩
 clear q0 q2 q3
 refine X5 κ ?_
 go_simp
 refine Xr3 ?_
 clear q1 qf
 obtain ⟨st,cg⟩:=cD.o aH c10 (σ (some (π g0 0)) (r.length+1) aO) ⟨f,v,k,n,0⟩ (cF.o.aft bY.o) cJ.o cN.o cS.o
 obtain ⟨aZ,hw⟩:∃ u,u=aH.setCell (π aC t) (σ (some (π g0 0)) (r.length+1) aO):=⟨_,rfl⟩
 rw [<-hw] at st cg ⊢
 have aN:=Lh st
 have cA:=Lh cg
 clear hw st cg
 obtain ⟨s1,aJ⟩:∃ x:Thr,x={ s with results:=s.results.modify t (·++[⟨f,v,k,n,0⟩]) }:=⟨_,rfl⟩
 rw [<-aJ] at aN
 have cH:=Lh aJ
 have bG:Hid (s1.ends[t]?=some e):=Lh (by rw [aJ];exact HN.o.2.2.2.1)
 have cM:Hid (s1.running[t]?=some m):=Lh (by rw [aJ];exact HN.o.1)
 have cL:Hid (s1.nodes[t]?=some n):=Lh (by rw [aJ];exact HN.o.2.1)
 have i3:(t:Int)<(s1.ends.length:Int):=by have:=(Ll bG.o);omega
 have b9:=aN.o.step.1
 clear aJ i1 i2
 go_upto_region 1 with fail
 obtain ⟨aD,bQ,bF,pc1,b1,o1,bS,bU,bW,aY,aR⟩:=aN.o.viewE bG.o
 have bB:=Lh aN.o.lab
 have aM:=Lh (And.intro bS (And.intro bU bW))
 have cQ:=Lh aY
 have cE:=Lh aR
 clear bS bU bW aY aR
 refine X6 (fun Vs=>Vs.cell? (π bt 8)=some (σ (some (π aD 0)) s1.ends.length bQ)/\Vs.cell? (π aD t)=some (σ bF e.length pc1)/\Vs.cell? (π bt 9)=some (ι s1.step)) [16,17,19] true 20 rfl κ κ ⟨b1,o1,b9⟩ ?_
 repeat (first|(refine' Xr4.take (Eq.refl false) _ (fun wV aS=>?_) ?_;rotate_left;(try dsimp only at aS);go_simp;(try with_reducible rfl);try simp only [Ap])|refine Xr4.skip (Eq.refl true) ?_)
 refine Xr4.stop ?_
 simp only [List.nil_append,List.cons_append]
 have aI:=Lh (And.intro b1 (And.intro o1 (b9)))
 clear b1 o1 b9
 refine X5 κ ?_
 go_simp
 refine ⟨⟨Xc (Xa _ _) aI.o.1,Xc (Xa _ _) aI.o.2.1,Xc (Xa _ _) aI.o.2.2⟩,?_⟩
 have aG:Chg NO c10 c10 aZ (aZ.alloc (χ #[ι s1.step] 3)).drew:=Chg.of_below (Xsh aZ _) (no 0)
 refine X5 κ ?_
 refine Xsy (fun k=>k=13+5*t) (.tmp 48) (.tmp 53) 22 3 rfl Tryz.underlying22 Uc rfl δ δ (c:=c10) (tag:=13+5*t) (v:=σ bF e.length pc1) (n:=e.length) (xs:=e.map (Value.int .i64)) rfl (cQ.o.keep aG (no _)) (π aZ.heap.size 0) 1 1 ([ι s1.step]) rfl rfl (fun j u hu=>(Xso aZ _ _ j).trans (by simpa [Xsv] using hu)) (by simp [Xsv,Value.oneCell']) δ (by have:=HN.o.2.2.2.2.2;omega) rfl ω (fun b hb=>bB.o.2.2.1 b (by simp at hb;omega)) (fun g1 aP aK c11 aA hC aU bC=>?_)
 have cO:=Lh aA
 have cG:=Lh hC
 have cK:=Lh aU
 have q0:aK.cell? (π bt 8)=some (σ (some (π aD 0)) s1.ends.length bQ):=hC.cell (aG.cell aI.o.1 (no _)) (by show ¬c10 bt=_;rw [bB.o.1];omega)
 have q1:aK.cell? (π aD t)=some (σ bF e.length pc1):=hC.cell (aG.cell aI.o.2.1 (no _)) (by show ¬c10 aD=_;rw [aM.o.1];omega)
 have q2:aK.cell? (π bt 9)=some (ι s1.step):=hC.cell (aG.cell aI.o.2.2 (no _)) (by show ¬c10 bt=_;rw [bB.o.1];omega)
 have qf:aK.frozen? (π aD t)=false:=hC.frozen (by have:=aM.o.2.1;show aD<_;simp;omega) (aG.frozen aM.o.2.1 (aM.o.2.2 t) (no _)) (by show ¬c10 aD=_;rw [aM.o.1];omega)
 have bZ:=Lh aG
 clear aA hC aU bC aG
 refine ⟨.inl ⟨q0,q1,q2⟩,?_⟩
 clear q0 q2
 refine X5 κ ?_
 go_simp
 refine Xr3 ?_
 clear q1 qf
 obtain ⟨st,cg⟩:=cE.o aK c11 (σ (some (π g1 0)) (e.length+1) aP) s1.step (cG.o.aft bZ.o) cK.o cO.o aN.o.step.2
 obtain ⟨bX,hw⟩:∃ u,u=aK.setCell (π aD t) (σ (some (π g1 0)) (e.length+1) aP):=⟨_,rfl⟩
 rw [<-hw] at st cg ⊢
 have bJ:=Lh st
 have cB:=Lh cg
 clear hw st cg
 obtain ⟨s2,aV⟩:∃ x:Thr,x={ s1 with ends:=s1.ends.modify t (·++[s1.step]) }:=⟨_,rfl⟩
 rw [<-aV] at bJ
 have cI:=Lh aV
 have bI:Hid (s2.running[t]?=some m):=Lh (by rw [aV];exact cM.o)
 have bH:Hid (s2.nodes[t]?=some n):=Lh (by rw [aV];exact cL.o)
 have i4:(t:Int)<(s2.running.length:Int):=by have:=(Ll bI.o);omega
 have i5:(t:Int)<(s2.nodes.length:Int):=by have:=(Ll bH.o);omega
 clear aV i3
 obtain ⟨rb,rc,bM,cW,fa,fc,r3,k4,aB,aW,cY,bO,cV,cU,hx,y1,st,cg⟩:=bJ.o.viewRK bI.o bH.o
 obtain ⟨w3,bD⟩:∃ u,u=(Xt1 bX rb (t*9) (Xtv ν Xl)).setCell (π bM t) (ι 0):=⟨_,rfl⟩
 rw [<-bD] at st cg
 have cT:=Lh st
 have cC:=Lh cg
 have cR:=Lh bD
 have z0:=aB (t*9)
 have z1:=aB (t*9+1)
 have z2:=aB (t*9+2)
 have z3:=aB (t*9+3)
 have z4:=aB (t*9+4)
 have z5:=aB (t*9+5)
 have z6:=aB (t*9+6)
 have z7:=aB (t*9+7)
 have z8:=aB (t*9+8)
 have y0:=aW t
 have x0:bX.cell? (π rb (t*9))=some (σ fa m.frames.length fc):=hx 0 _ rfl
 have x1:=hx 1 _ rfl
 have x2:=hx 2 _ rfl
 have x3:=hx 3 _ rfl
 have x4:=hx 4 _ rfl
 have x5:=hx 5 _ rfl
 have x6:=hx 6 _ rfl
 have x7:=hx 7 _ rfl
 have x8:=hx 8 _ rfl
 have HZ:=Lh (And.intro r3 (And.intro k4 (And.intro cV cU)))
 clear aB aW bD st cg hx
 go_upto_region 2 with fail
 refine X6 (fun Vs=>Vs.cell? (π bt 3)=some (σ (some (π rb 0)) s2.running.length rc)/\Vs.cell? (π bt 4)=some (σ (some (π bM 0)) s2.nodes.length cW)) [12,14] true 15 rfl κ κ ⟨r3,k4⟩ ?_
 repeat (first|(refine' Xr4.take (Eq.refl false) _ (fun wV aS=>?_) ?_;rotate_left;(try dsimp only at aS);go_simp;(try with_reducible rfl);try simp only [Ap])|refine Xr4.skip (Eq.refl true) ?_)
 refine Xr4.stop ?_
 simp only [List.nil_append,List.cons_append]
 clear r3 k4
 refine X5 κ ?_
 go_simp
 refine ⟨⟨HZ.o.1,HZ.o.2.1⟩,?_⟩
 refine X5 κ ?_
 go_simp
 refine Xr3 ?_
 go_end0
 refine ⟨rfl,?_⟩
 have hd:Below w3.heap.size w3 w3.drew:=Xh Br 1
 have aT:Xs5 c bt (Xwz s t f v k n) w w3.drew:=⟨c11,by
  have:=cT.o.grow hd
  rw [cI.o,cH.o] at this
  exact this,((cA.o.trans cB.o).trans cC.o).trans (Chg.of_below hd nz0)⟩
 rw [cR.o] at aT
 exact aT
structure X35 (cd:Cod) (r:Rq):Prop where
 field:0<=r.field
 node:0<=r.node
 nodeV:r.node<=1099511627776
 value:in64 r.value
 alloc:r.kind=3->∃ n,cd.fields[r.field.toNat]?=some n/\0<=n/\n<=12
def rqC (r:Rq):Array Value:=#[ι r.kind,ι r.node,ι r.field,ι r.value,ι r.fault]
theorem Chg.belowN {c:Clr} (h:Chg NZ c c' w w') (hc:∀ b,b<B->¬NZ (c b)) (hB:B<=w.heap.size):Below B w w':=⟨h.os,h.tape,h.output,h.size,fun b hb=>h.keep b ω (hc b hb)⟩
theorem Chg.lowN {c:Clr} (h:Chg NZ c c' w w') (hc:∀ b,b<B->¬NZ (c b)) (hB:B<=w.heap.size):∀ b,b<B->¬NZ (c' b):=fun b hb=>by rw [h.old b ω];exact hc b hb
structure MemRd (w:World) (bt:Nat) (m:Mm):Prop where
 g:∃ ga gc,w.cell? (π bt 0)=some (σ ga m.globals.length gc)/\∀ (j:Nat) v,m.globals[j]?=some v->∃ b o,ga=some (π b o)
 n:∃ na nc,w.cell? (π bt 1)=some (σ na m.nodes.length nc)/\∀ (i:Nat) x,m.nodes[i]?=some x->∃ nb no la lc,na=some (π nb no)/\w.cell? (π nb (no+i*2+1))=some (σ la x.f.length lc)/\∀ (j:Nat) v,x.f[j]?=some v->∃ b o,la=some (π b o)
theorem V2.memAt {c:Clr} (h:V2 w c bt s):MemRd w bt s.mem:=by
 obtain ⟨ga,gc,b0,hg⟩:=h.viewG
 obtain ⟨na,nc,b1,hN⟩:=h.viewN
 exact ⟨⟨ga,gc,b0,fun j v hv=>by
  obtain ⟨b,h,-⟩:=hg j v hv
  exact ⟨b,0,h⟩⟩,na,nc,b1,fun i x hx=>by
  obtain ⟨nb,la,lc,h,-,n1,-,hf⟩:=hN i x hx
  exact ⟨nb,0,la,lc,h,by rw [Nat.zero_add];exact n1,fun j v hv=>by
   obtain ⟨b,h,-⟩:=hf j v hv
   exact ⟨b,0,h⟩⟩⟩
theorem MemRd.grow {m:Mm} (h:MemRd w bt m) (hb:Below w.heap.size w w'):MemRd w' bt m:=by
 obtain ⟨⟨ga,gc,b0,hg⟩,na,nc,b1,hN⟩:=h
 exact ⟨⟨ga,gc,Xc hb b0,hg⟩,na,nc,Xc hb b1,fun i x hx=>by
  obtain ⟨nb,no,la,lc,h,n1,hf⟩:=hN i x hx
  exact ⟨nb,no,la,lc,h,Xc hb n1,hf⟩⟩
def PlcO (w:World) (bt:Nat) (r:Rq) (b o:Nat):Prop:=(r.node=0/\∃ n k,w.cell? (π bt 0)=some (σ (some (π b o)) n k))\/(1<=r.node/\∃ nb no n k n2 k2,w.cell? (π bt 1)=some (σ (some (π nb no)) n k)/\w.cell? (π nb (no+(r.node - 1).toNat*2+1))=some (σ (some (π b o)) n2 k2))
theorem V2.plc {c:Clr} (h:V2 w c bt s) (hp:PlcO w bt r b o) (hf:0<=r.field) (hl:r.field<((Un s.mem r).length:Int)):o=0/\X0p w bt r b:=by
 rcases hp with ⟨h0,n,k,h1⟩|⟨h0,nb,no,n,k,n2,k2,h1,h2⟩
 ·obtain ⟨ga,gc,b0,hg⟩:=h.viewG
  rw [Xv5 h0] at hl
  obtain ⟨b',rfl,-⟩:=hg r.field.toNat _ (Lg ω)
  rw [b0] at h1
  cases h1
  exact ⟨rfl,.inl ⟨h0,_,_,b0⟩⟩
 ·obtain ⟨na,nc,b1,hN⟩:=h.viewN
  obtain ⟨x,hx⟩:=Xyn h0 hf hl
  rw [Xw4 h0 hx] at hl
  obtain ⟨aB,la,lc,rfl,-,n1,-,aA⟩:=hN _ x hx
  obtain ⟨b',rfl,-⟩:=aA r.field.toNat _ (Lg ω)
  rw [b1] at h1
  cases h1
  rw [Nat.zero_add,n1] at h2
  cases h2
  exact ⟨rfl,.inr ⟨h0,_,_,_,_,_,b1,n1⟩⟩
def Xzk (w:World) (bt:Nat) (m:Mm) (r:Rq) (e:Ending) (w':World):Prop:=Below w.heap.size w w'/\((((Un m r).length:Int)<=r.field/\e=.returned (.pointer none))\/(r.field<((Un m r).length:Int)/\∃ b o,PlcO w bt r b o/\e=.returned (.pointer (some (π b (o+r.field.toNat))))))
theorem Xuf {m:Mm} (hb:Below w.heap.size w w') (h:((Un m r).length:Int)<=r.field):Xzk w bt m r (.returned (.pointer none)) w':=⟨hb,.inl ⟨h,rfl⟩⟩
theorem Xv2 {m:Mm} (hb:Below w.heap.size w w') (h:r.field<((Un m r).length:Int)) (hp:PlcO w bt r b o) (hj:j=o+r.field.toNat):Xzk w bt m r (.returned (.pointer (some (π b j)))) w':=⟨hb,.inr ⟨h,b,o,hp,by rw [hj]⟩⟩
theorem Xya (m:Mm) (bt:Nat) (r:Rq) (w:World) (h:MemRd w bt m) (hn:0<=r.node) (hf:0<=r.field) (hn2:r.node<=1099511627776) :
  Calls Tryz.prog 108 #[.pointer (some (π bt 0)),.agg (rqC r)] w (Xzk w bt m r):=by
 obtain ⟨ga,gc,b0,hg⟩:=h.g
 obtain ⟨na,nc,b1,hN⟩:=h.n
 have aM:=Bl b0
 obtain ⟨kind,node,field,value,fault⟩:=r
 dsimp only at hn hf hn2
 unfold rqC
 dsimp only
 obtain ⟨f,rfl⟩:∃ f:Nat,field=f:=⟨field.toNat,ω⟩
 have aG:decide ((f:Int)<0)=false:=by simp
 have aK:(0:Int)<=(f:Int):=In _
 have aE:=Lh b0
 have aF:=Lh b1
 by_cases h0:node=0
 ·subst h0
  have hl:Un m ⟨kind,0,f,value,fault⟩=m.globals:=Xv5 rfl
  by_cases aA:m.globals.length<=f
  ·have HR:Hid (((Un m ⟨kind,0,f,value,fault⟩).length:Int)<=(f:Int)):=Lh (by rw [hl];omega)
   have d1:decide (m.globals.length<=f)=true:=by simpa using aA
   have k0:=Xc (Xa w (χ #[ι kind,ι 0,ι (f:Int),ι value,ι fault] 49)) b0
   clear h hg hN hl aA hn hf hn2 b0 b1
   go_enter Tryz.func108,Tryz.ntmps108
   go_wp2
   go_ret
   exact Xuf (Xa _ _) HR.o
  ·obtain ⟨v,hv⟩:∃ v,m.globals[f]?=some v:=⟨_,Lg ω⟩
   obtain ⟨b,o,rfl⟩:=hg f v hv
   have HR:Hid ((f:Int)<((Un m ⟨kind,0,f,value,fault⟩).length:Int)):=Lh (by rw [hl];omega)
   have d1:decide (m.globals.length<=f)=false:=by simpa using aA
   have i1:(f:Int)<(m.globals.length:Int):=ω
   have k0:=Xc (Xa w (χ #[ι kind,ι 0,ι (f:Int),ι value,ι fault] 49)) b0
   clear h hg hN hl aA hn hf hn2 b0 b1 hv
   go_enter Tryz.func108,Tryz.ntmps108
   go_wp2
   go_ret
   exact Xv2 (Xa _ _) HR.o (.inl ⟨rfl,_,_,aE.o⟩) ψ
 obtain ⟨i,rfl⟩:∃ i:Nat,node=(i:Int)+1:=⟨(node - 1).toNat,ω⟩
 have aH:((i:Int)+1 != 0)=true:=by simp;omega
 have aI:decide ((i:Int)+1<1)=false:=by simp;omega
 have aL:(0:Int)<=(i:Int):=In _
 have ew:IntKind.i64.wrap ((i:Int)+1 - 1)=(i:Int):=by rw [IntKind.wrap_i64]<;>omega
 have aJ:IntKind.i64.wrap (i:Int)=(i:Int):=by rw [IntKind.wrap_i64]<;>omega
 have et:((i:Int)+1 - 1).toNat=i:=ω
 by_cases hi:i<m.nodes.length
 rotate_left
 ·have HR:Hid (((Un m ⟨kind,(i:Int)+1,f,value,fault⟩).length:Int)<=(f:Int)):=Lh (by unfold Un;rw [if_pos (by dsimp only;omega)];simp)
  have d1:decide ((m.nodes.length:Int)<(i:Int)+1)=true:=by simp;omega
  have k1:=Xc (Xa w (χ #[ι kind,ι ((i:Int)+1),ι (f:Int),ι value,ι fault] 49)) b1
  clear h hg hN hn hf hn2 b1 hi h0
  have k0:=Xc (Xa w (χ #[ι kind,ι ((i:Int)+1),ι (f:Int),ι value,ι fault] 49)) b0
  clear b0
  go_enter Tryz.func108,Tryz.ntmps108
  go_wp2_with fail
  go_quiet (fail)
  go_wp2
  go_ret
  exact Xuf (Xh (Xa _ _) _) HR.o
 obtain ⟨x,hx⟩:∃ x,m.nodes[i]?=some x:=⟨_,Lg hi⟩
 have hl:Un m ⟨kind,(i:Int)+1,f,value,fault⟩=x.f:=Xw4 (by dsimp only;omega) (by dsimp only;rw [et];exact hx)
 obtain ⟨nb,no,la,lc,rfl,n1,aB⟩:=hN i x hx
 have aD:=Lh n1
 have d1:decide ((m.nodes.length:Int)<(i:Int)+1)=false:=by simp;omega
 have i2:(i:Int)<(m.nodes.length:Int):=ω
 have k0:=Xc (Xa w (χ #[ι kind,ι ((i:Int)+1),ι (f:Int),ι value,ι fault] 49)) b0
 have k1:=Xc (Xa w (χ #[ι kind,ι ((i:Int)+1),ι (f:Int),ι value,ι fault] 49)) b1
 have k2:=Xc (Xa w (χ #[ι kind,ι ((i:Int)+1),ι (f:Int),ι value,ι fault] 49)) n1
 by_cases aA:x.f.length<=f
 ·have HR:Hid (((Un m ⟨kind,(i:Int)+1,f,value,fault⟩).length:Int)<=(f:Int)):=Lh (by rw [hl];omega)
  have d2:decide (x.f.length<=f)=true:=by simpa using aA
  clear h hg hN hl aA hn hf hn2 b0 b1 n1 hi h0 hx aB et
  go_enter Tryz.func108,Tryz.ntmps108
  go_wp2_with fail
  go_quiet (fail)
  go_wp2_with fail
  go_quiet (fail)
  go_wp2
  go_ret
  exact Xuf (Xh (Xa _ _) _) HR.o
 ·obtain ⟨v,hv⟩:∃ v,x.f[f]?=some v:=⟨_,Lg ω⟩
  obtain ⟨b,o,rfl⟩:=aB f v hv
  have HR:Hid ((f:Int)<((Un m ⟨kind,(i:Int)+1,f,value,fault⟩).length:Int)):=Lh (by rw [hl];omega)
  have d2:decide (x.f.length<=f)=false:=by simpa using aA
  have i1:(f:Int)<(x.f.length:Int):=ω
  have aC:=Lh et
  clear h hg hN hl aA hn hf hn2 b0 b1 n1 hi h0 hx aB et hv
  go_enter Tryz.func108,Tryz.ntmps108
  go_wp2_with fail
  go_quiet (fail)
  go_wp2_with fail
  go_quiet (fail)
  go_wp2
  go_ret
  exact Xv2 (Xh (Xa _ _) _) HR.o (.inr ⟨by dsimp only;omega,_,_,_,_,_,_,aF.o,by dsimp only;rw [aC.o];exact aD.o⟩) ψ
def Xst (m:Mm) (r:Rq):Acc:=if r.kind=3 then (if m.nodes.length<4096 then ⟨3,(m.nodes.length:Int)+1,r.field⟩ else ⟨0,0,0⟩) else if ((Un m r).length:Int)<=r.field then ⟨0,0,0⟩ else ⟨r.kind,r.node,r.field⟩
def X3g (a:Acc):Value:=.agg #[ι a.kind,ι a.node,ι a.field]
def X09 (w:World) (a:Acc) (e:Ending) (w':World):Prop:=e=.returned (X3g a)/\Below w.heap.size w w'
theorem Xz8 {a:Acc} {x y z:Int} (hb:Below w.heap.size w w') (h:a=⟨x,y,z⟩):X09 w a (.returned (.agg #[ι x,ι y,ι z])) w':=by subst h;exact ⟨rfl,hb⟩
theorem Xsb (hb:Below w.heap.size w w') (hlt:w.heap.size<=b):Below w.heap.size w (w'.setCell (π b j) v):=
 ⟨hb.os,hb.tape,hb.output,by simpa using hb.size,fun k hk=>by rw [heap_setCell_other _ _ _ _ (by show k≠b;omega)];exact hb.block k hk⟩
theorem Xzr (m:Mm) (bt:Nat) (r:Rq) (w:World) (h:MemRd w bt m) (hn:0<=r.node) (hf:0<=r.field) (aG:r.node<=1099511627776) :
  Calls Tryz.prog 71 #[.pointer (some (π bt 0)),.agg (rqC r)] w (X09 w (Xst m r)):=by
 obtain ⟨na,nc,b1,-⟩:=h.n
 have aJ:=Bl b1
 have HH:=Lh h
 have HN:=Lh (And.intro hn (And.intro hf aG))
 obtain ⟨W,hW⟩:∃ W,W=(w.alloc (χ (rqC r) 49)).alloc (χ #[ι 0,ι 0,ι 0] 64):=⟨_,rfl⟩
 have aD:Hid (Below w.heap.size w W):=by rw [hW];exact Lh ((Xa _ _).then (Xa _ _))
 have aH:Hid (W.heap.size=w.heap.size+2):=by rw [hW];exact Lh ψ
 have HS:=Lh (HH.o.grow aD.o)
 have k1:=Xc aD.o b1
 have aC:W.heap[w.heap.size]?=some (χ (rqC r) 49 (0,0)):=by rw [hW,Ha _ _ _ ψ];exact Hn _ _
 have aB:W.heap[w.heap.size+1]?=some (χ #[ι 0,ι 0,ι 0] 64 (0,0)):=by rw [hW];have:=Hn (w.alloc (χ (rqC r) 49)) (χ #[ι 0,ι 0,ι 0] 64);simpa using this
 have zR:w.heap.size<W.heap.size:=by have:=aH.o;omega
 have zQ:w.heap.size+1<W.heap.size:=by have:=aH.o;omega
 have q0:=Cw aC 0 rfl
 have q1:=Cw aC 1 rfl
 have q2:=Cw aC 2 rfl
 have q3:=Cw aC 3 rfl
 have q4:=Cw aC 4 rfl
 have p0:=Cw aB 0 rfl
 have p1:=Cw aB 1 rfl
 have p2:=Cw aB 2 rfl
 have f0:W.frozen? (π (w.heap.size+1) 0)=false:=Fz aB
 have f1:W.frozen? (π (w.heap.size+1) 1)=false:=Fz aB
 have f2:W.frozen? (π (w.heap.size+1) 2)=false:=Fz aB
 have aE:=Lh aB
 clear h hn hf aG aC aB b1
 unfold rqC
 unfold rqC at hW
 by_cases h3:r.kind=3
 ·have e3:(r.kind == 3)=true:=by simpa using h3
  by_cases hl:m.nodes.length<4096
  ·have d1:decide (m.nodes.length<4096)=true:=by simpa using hl
   have d2:decide ((m.nodes.length:Int)<4096)=true:=by simp;omega
   have HA:Hid (Xst m r=⟨3,(m.nodes.length:Int)+1,r.field⟩):=Lh (by unfold Xst;rw [if_pos h3,if_pos hl])
   have ew:IntKind.i64.wrap ((m.nodes.length:Int)+1)=(m.nodes.length:Int)+1:=by rw [IntKind.wrap_i64]<;>omega
   clear hl h3
   go_enter Tryz.func71,Tryz.ntmps71
   go_upto_region 1 with fail
   rw [<-hW]
   clear hW
   go_upto_region 2 with fail
   refine X6 (fun Vs=>Vs.cell? (π bt 1)=some (σ na m.nodes.length nc)/\Vs.cell? (π w.heap.size 2)=some (ι r.field)) [9] true 10 rfl κ κ ⟨k1,q2⟩ ?_
   repeat (first|(refine' Xr4.take (Eq.refl false) _ (fun wV aI=>?_) ?_;rotate_left;(try dsimp only at aI);go_simp;(try with_reducible rfl);try simp only [Ap])|refine Xr4.skip (Eq.refl true) ?_)
   refine Xr4.stop ?_
   simp only [List.nil_append,List.cons_append]
   refine X5 κ ?_
   go_simp
   refine Xr3 ?_
   go_wp2_with fail
   refine bodyPost_ret (v:=.agg #[ι 3,ι ((m.nodes.length:Int)+1),ι r.field]) (by simp [results,Tryz.results71,go_sem,p0,p1,p2]) rfl ?_
   exact Xz8 (Xh (Xsb (Xsb (Xsb aD.o ω) ω) ω) 1) HA.o
  ·have d1:decide (m.nodes.length<4096)=false:=by simpa using hl
   have d2:decide ((m.nodes.length:Int)<4096)=false:=by simp;omega
   have HA:Hid (Xst m r=⟨0,0,0⟩):=Lh (by unfold Xst;rw [if_pos h3,if_neg hl])
   clear hl h3
   go_enter Tryz.func71,Tryz.ntmps71
   go_upto_region 1 with fail
   rw [<-hW]
   clear hW
   go_wp2_with fail
   refine bodyPost_ret (v:=.agg #[ι 0,ι 0,ι 0]) (by simp [results,Tryz.results71,go_sem,p0,p1,p2]) rfl ?_
   exact Xz8 (Xsb (Xsb (Xsb aD.o ω) ω) ω) HA.o
 ·have e3:(r.kind == 3)=false:=by simpa using h3
  have H3:=Lh h3
  have HC:=Lh (Xya m bt r W HS.o HN.o.1 HN.o.2.1 HN.o.2.2)
  unfold rqC at HC
  clear h3 k1
  go_enter Tryz.func71,Tryz.ntmps71
  go_upto_region 1 with fail
  rw [<-hW]
  clear hW
  go_wp2_with fail
  refine HC.o.mono ?_
  rintro e w1 ⟨aA,hr⟩
  have q0:=Xc aA q0
  have q1:=Xc aA q1
  have q2:=Xc aA q2
  have p0:=Xc aA p0
  have p1:=Xc aA p1
  have p2:=Xc aA p2
  have f0:w1.frozen? (π (w.heap.size+1) 0)=false:=Fz ((aA.block _ zQ).trans aE.o)
  have f1:w1.frozen? (π (w.heap.size+1) 1)=false:=Fz ((aA.block _ zQ).trans aE.o)
  have f2:w1.frozen? (π (w.heap.size+1) 2)=false:=Fz ((aA.block _ zQ).trans aE.o)
  have zR:w.heap.size<w1.heap.size:=Bl q0
  have zQ:w.heap.size+1<w1.heap.size:=Bl p0
  have aF:=Lh (aD.o.then aA)
  clear aA
  rcases hr with ⟨h1,rfl⟩|⟨h1,b,o,-,rfl⟩
  ·have HA:Hid (Xst m r=⟨0,0,0⟩):=Lh (by unfold Xst;rw [if_neg H3.o,if_pos h1])
   clear h1
   go_wp2_with fail
   refine bodyPost_ret (v:=.agg #[ι 0,ι 0,ι 0]) (by simp [results,Tryz.results71,go_sem,p0,p1,p2]) rfl ?_
   exact Xz8 (Xsb (Xsb (Xsb aF.o ω) ω) ω) HA.o
  ·have HA:Hid (Xst m r=⟨r.kind,r.node,r.field⟩):=Lh (by unfold Xst;rw [if_neg H3.o,if_neg ω])
   clear h1
   go_wp2_with fail
   refine bodyPost_ret (v:=.agg #[ι r.kind,ι r.node,ι r.field]) (by simp [results,Tryz.results71,go_sem,p0,p1,p2]) rfl ?_
   exact Xz8 (Xsb (Xsb (Xsb aF.o ω) ω) ω) HA.o
def Xtd (cd:Cod) (m:Mm) (r:Rq):Option (Mm×Int):=
 if r.kind=3 then (if m.nodes.length<4096 then some ({ m with nodes:=m.nodes++[⟨r.field,List.replicate (cd.fields.getD r.field.toNat 0).toNat 0⟩] },(m.nodes.length:Int)+1) else some (m,0))
 else if ((Un m r).length:Int)<=r.field then none
 else if r.kind=2 then some (Xw6 m r r.value,r.value) else some (m,(Un m r).getD r.field.toNat 0)
def Xve (c:Clr) (bt:Nat) (s:Thr) (o:Option (Mm×Int)) (w:World) (e:Ending) (w':World):Prop:=
 (o=none/\e=.returned (.tuple #[ι 0,.bool false])/\Xs5 c bt s w w')\/∃ m n,o=some (m,n)/\e=.returned (.tuple #[ι n,.bool true])/\Xs5 c bt { s with mem:=m } w w'
theorem V2.post {c:Clr} (h:V2 w c bt s) (hb:Below w.heap.size w w'):Xs5 c bt s w w':=⟨c,h.grow hb,Chg.of_below hb nz0⟩
theorem X0i {c:Clr} {o:Option (Mm×Int)} (h:o=none) (hp:Xs5 c bt s w w'):Xve c bt s o w (.returned (.tuple #[ι 0,.bool false])) w':=.inl ⟨h,rfl,hp⟩
theorem Xum {c:Clr} {o:Option (Mm×Int)} {m:Mm} (h:o=some (m,n)) (hp:Xs5 c bt { s with mem:=m } w w'):Xve c bt s o w (.returned (.tuple #[ι n,.bool true])) w':=.inr ⟨m,n,h,rfl,hp⟩
theorem Xwg:(Tryz.prog.info? 74).map (fun i=>(i.zero,i.size,i.bytes))=some (some (.agg #[ι 0,ν]),2,32):=by kernel_rfl
theorem Xzq {c:Clr} {k:Nat} (hk:k<=1000000) (hc:c w.heap.size=tag):Xsp (w.alloc (χ (Xx (List.replicate k 0)) 3)) c tag (σ (some (π w.heap.size 0)) k k) (List.replicate k 0):=by
 refine ⟨⟨⟨?_,.inr ⟨w.heap.size,k,Xx (List.replicate k 0),ψ,Nat.zero_le _,Hn w _,ψ,by unfold maxLen;omega,by simp [Xx],?_⟩⟩,fun b hb=>?_,by simp;omega⟩,fun n hn=>?_⟩
 ·simp
 ·simp [Xx]
 ·simp [Value.ownBlock] at hb;subst hb;exact hc
 ·simp at hn;rw [hn.2];unfold in64;omega
theorem Xyw (cd:Cod) (fa ga:Option Addr) (fc gc B:Nat) (s:Thr) (c:Clr) (bt:Nat) (r:Rq) (w:World) (h:V2 w c bt s) (hB:B<=w.heap.size) (hc:Yj B w (.agg (Bc fa fc ga gc cd)) cd) (hr:X35 cd r) (hlow:∀ b,b<B->¬NZ (c b)) (hf64:r.field<=1000000) :
  Calls Tryz.prog 102 #[.agg (Bc fa fc ga gc cd),.pointer (some (π bt 0)),.agg (rqC r)] w (Xve c bt s (Xtd cd s.mem r) w):=by
 obtain ⟨na,nc,nx,b1,aA,aL⟩:=h.viewA
 have HL:=Lh h.lab
 have HH:=Lh h
 have Xa4:=Lh aA
 have aQ:=Lh aL
 have HQ:=Lh hr
 have bE:=Lh hlow
 have aP:=Lh hf64
 clear hlow hf64
 obtain ⟨W,hW⟩:∃ W,W=(w.alloc (χ (Bc fa fc ga gc cd) 25)).alloc (χ (rqC r) 49):=⟨_,rfl⟩
 have aE:Hid (Below w.heap.size w W):=by rw [hW];exact Lh ((Xa _ _).then (Xa _ _))
 have aM:Hid (W.heap.size=w.heap.size+2):=by rw [hW];exact Lh ψ
 have HS:=Lh (HH.o.grow aE.o)
 have k1:=Xc aE.o b1
 have bB:W.heap[w.heap.size]?=some (χ (Bc fa fc ga gc cd) 25 (0,0)):=by rw [hW,Ha _ _ _ ψ];exact Hn _ _
 have aJ:W.heap[w.heap.size+1]?=some (χ (rqC r) 49 (0,0)):=by rw [hW];have:=Hn (w.alloc (χ (Bc fa fc ga gc cd) 25)) (χ (rqC r) 49);simpa using this
 have zR:w.heap.size<W.heap.size:=by have:=aM.o;omega
 have zQ:w.heap.size+1<W.heap.size:=by have:=aM.o;omega
 have c0:=Cw bB 0 rfl
 have q0:=Cw aJ 0 rfl
 have q1:=Cw aJ 1 rfl
 have q2:=Cw aJ 2 rfl
 have q3:=Cw aJ 3 rfl
 have q4:=Cw aJ 4 rfl
 have zt:=HL.o.2.1
 have HC:=Lh hc
 have bD:=Lh b1
 have HM:Hid (s.mem.nodes.length<=140737488355328):=Lh aA.2.2
 clear h aA aL hr bB aJ b1 hc
 unfold rqC
 unfold rqC at hW
 by_cases h3:r.kind=3
 ·have e3:(r.kind == 3)=true:=by simpa using h3
  by_cases hl:s.mem.nodes.length<4096
  ·have d1:decide (4096<=s.mem.nodes.length)=false:=by simpa using hl
   have d2:decide ((4096:Int)<=(s.mem.nodes.length:Int))=false:=by simp;omega
   obtain ⟨k,hk,bV,aU⟩:=HQ.o.alloc h3
   obtain ⟨kn,rfl⟩:∃ kn:Nat,k=kn:=⟨k.toNat,ω⟩
   obtain ⟨f,hf⟩:∃ f:Nat,r.field=f:=⟨r.field.toNat,by have:=HQ.o.field;omega⟩
   have HA:Hid (Xtd cd s.mem r=some ({ s.mem with nodes:=s.mem.nodes++[⟨(f:Int),List.replicate kn 0⟩] },(s.mem.nodes.length:Int)+1)):=Lh (by
    unfold Xtd
    rw [if_pos h3,if_pos hl,List.getD_eq_getElem?_getD,hk,hf]
    rfl)
   rw [hf,Int.toNat_natCast] at hk
   obtain ⟨fv,gv,e,aY,-⟩:=HC.o
   have e1:fv=σ fa cd.fields.length fc:=by simp at e;exact e.1.symm
   subst e1
   obtain ⟨fb,fo,rfl,bP,aZ⟩:=aY.nth hk
   have m1:=Xc aE.o aZ.1
   rw [Nat.mul_one] at m1
   rw [hf] at q2
   have i0:(0:Int)<=(f:Int):=In _
   have i1:(f:Int)<(cd.fields.length:Int):=by have:=(Ll hk);omega
   have j0:(0:Int)<=(kn:Int):=In _
   have aT:=bP
   have HF:Hid ((f:Int)<=1000000):=Lh (by have:=aP.o;omega)
   have bI:Hid (s.mem.nodes.length<4096):=Lh hl
   have HK:Hid (kn<=12/\r.field=f):=Lh ⟨ω,hf⟩
   have j1:(kn:Int)<=12:=aU
   clear e
   clear hl h3 hk aY aZ hf
   go_enter Tryz.func102,Tryz.ntmps102
   go_upto_region 1 with fail
   rw [<-hW]
   clear hW
   go_upto_region 4 with fail
   refine X6 (fun Vs=>Vs.cell? (π bt 1)=some (σ na s.mem.nodes.length nc)/\Vs.cell? (π (w.heap.size+1) 2)=some (ι (f:Int))/\Vs.cell? (π w.heap.size 0)=some (σ (some (π fb fo)) cd.fields.length fc)/\Vs.cell? (π fb (fo+f))=some (ι (kn:Int))) [13,14,15,16,19] true 20 rfl κ κ ⟨k1,q2,c0,m1⟩ ?_
   repeat (first|(refine' Xr4.take (Eq.refl false) _ (fun wV bM=>?_) ?_;rotate_left;(try dsimp only at bM);go_simp;(try with_reducible rfl);try simp only [Ap])|refine Xr4.skip (Eq.refl true) ?_)
   refine Xr4.stop ?_
   simp only [List.nil_append,List.cons_append]
   have HX:=Lh (And.intro k1 (And.intro q2 (And.intro c0 m1)))
   have HZ:=Lh (And.intro zR (And.intro zQ zt))
   clear k1 q2 c0 m1 q0 q1 q3 q4 zR zQ zt
   have bQ:=fun W=>K7 W kn ω
   refine X5 κ ?_
   go_simp
   clear bQ
   have aC:Below W.heap.size W (W.alloc (χ (Xx (List.replicate kn 0)) 3)).drew:=Xsh W _
   refine ⟨⟨Xc (Xa _ _) HX.o.1,Xc (Xa _ _) HX.o.2.1,Xc (Xa _ _) HX.o.2.2.1,Xc (Xa _ _) HX.o.2.2.2⟩,?_⟩
   obtain ⟨W1,aI⟩:∃ V,V=(W.alloc (χ (Xx (List.replicate kn 0)) 3)).drew:=⟨_,rfl⟩
   rw [<-aI]
   have aB:Hid (Below W.heap.size W W1):=Lh (by rw [aI];exact aC)
   have bG:Hid (∀ c',c' W.heap.size=10+5*s.mem.nodes.length->Xsp W1 c' (10+5*s.mem.nodes.length) (σ (some (π W.heap.size 0)) kn kn) (List.replicate kn 0)):=Lh (fun c' h'=>by
    have:=Xzq (w:=W) (c:=c') (k:=kn) ω h'
    rw [aI]
    exact this.keep (T:=NO) (Chg.of_below (Xh Br 1) (no 0)) (no _))
   have bC:W1.heap.size=W.heap.size+1:=by rw [aI];simp
   have bJ:=Lh bC
   have bT:=Lh aI
   clear aI aC bC
   refine X5 κ ?_
   go_simp
   refine ⟨⟨Xc aB.o HX.o.1,Xc aB.o HX.o.2.1,Xc aB.o HX.o.2.2.1,Xc aB.o HX.o.2.2.2⟩,?_⟩
   refine X5 κ ?_
   go_simp
   have aD:Below W1.heap.size W1 (W1.alloc (χ #[ι (f:Int),σ (some (π W.heap.size 0)) kn kn] 74)):=Xa _ _
   refine ⟨⟨Xc (aB.o.then aD) HX.o.1,Xc (aB.o.then aD) HX.o.2.1,Xc (aB.o.then aD) HX.o.2.2.1,Xc (aB.o.then aD) HX.o.2.2.2⟩,?_⟩
   obtain ⟨c1,aF⟩:∃ c1:Clr,c1=fun b=>if b=W.heap.size then 10+5*s.mem.nodes.length else c b:=⟨_,rfl⟩
   have aK:c1 W.heap.size=10+5*s.mem.nodes.length:=by rw [aF];exact if_pos rfl
   have aR:Chg NO c c1 w (W1.alloc (χ #[ι (f:Int),σ (some (π W.heap.size 0)) kn kn] 74)):=by
    have hb:=(aE.o.then aB.o).then aD
    exact ⟨hb.os,hb.tape,hb.output,hb.size,fun b h _=>hb.block b h,fun b h=>by rw [aF];exact if_neg (by have:=aE.o.size;omega),no 0⟩
   have aG:∀ b,(W1.alloc (χ #[ι (f:Int),σ (some (π W.heap.size 0)) kn kn] 74)).heap.size<=b->c1 b=0:=fun b h=>by
    have h1:=bJ.o
    have h2:=aE.o.size
    simp at h
    rw [aF]
    show (if b=W.heap.size then _ else _)=0
    rw [if_neg ω]
    exact HL.o.2.2.1 b ω
   have aV:=Lh aR
   have bF:=Lh aG
   have bH:=Lh ((bG.o c1 aK).keep (T:=NO) (Chg.of_below aD (no 0)) (no _))
   have bS:=Lh HQ.o.field
   clear aK
   refine X5 κ ?_
   refine Xsy (fun k=>k=3) (.tmp 22) (.tmp 33) 26 74 rfl Tryz.underlying26 Xwg rfl δ δ (c:=c1) (tag:=3) (v:=σ na s.mem.nodes.length nc) (n:=s.mem.nodes.length) (xs:=nx) rfl (Xa4.o.keep aR (no _)) (π W1.heap.size 0) 1 1 [ι (f:Int),σ (some (π W.heap.size 0)) kn kn] rfl rfl (fun j u hu=>by rw [Xtf,Nat.zero_add,Y5];simpa using hu) (by simp [Value.oneCell']) δ (by have:=bI.o;omega) rfl ω aG (fun g cap w2 c2 aA hC bA bO=>?_)
   obtain ⟨st,cg⟩:=aQ.o _ c1 w2 c2 _ ⟨(f:Int),List.replicate kn 0⟩ (σ (some (π g 0)) (s.mem.nodes.length+1) cap) aV.o bF.o bH.o (by show in64 (f:Int);have:=HF.o;unfold in64;omega) hC bA aA
   have h2:Chg (fun k=>k=3) c c2 w w2:=hC.aft aV.o
   have y1:w2.cell? (π bt 1)=some (σ na s.mem.nodes.length nc):=h2.cell bD.o (by show ¬c bt=3;rw [HL.o.1];omega)
   have yf:w2.frozen? (π bt 1)=false:=h2.frozen HL.o.2.1 (HL.o.2.2.2 1) (by show ¬c bt=3;rw [HL.o.1];omega)
   obtain ⟨W3,aS⟩:∃ V,V=w2.setCell (π bt 1) (σ (some (π g 0)) (s.mem.nodes.length+1) cap):=⟨_,rfl⟩
   rw [<-aS] at st cg
   have ST:=Lh st
   have CG:=Lh cg
   have aX:=Lh aS
   have bL:Hid (w2.cell? (π (w.heap.size+1) 2)=some (ι (f:Int))/\w2.cell? (π w.heap.size 0)=some (σ (some (π fb fo)) cd.fields.length fc)/\w2.cell? (π fb (fo+f))=some (ι (kn:Int))):=Lh ⟨hC.cell (Xc (aB.o.then aD) HX.o.2.1) (by show ¬c1 _=3;rw [aF];dsimp only;have:=aM.o;rw [if_neg ω,HL.o.2.2.1 _ ω];omega),hC.cell (Xc (aB.o.then aD) HX.o.2.2.1) (by show ¬c1 _=3;rw [aF];dsimp only;have:=aM.o;rw [if_neg ω,HL.o.2.2.1 _ ω];omega),hC.cell (Xc (aB.o.then aD) HX.o.2.2.2) (by show ¬c1 fb=3;rw [aF];dsimp only;have:=aM.o;rw [if_neg ω];exact fun e=>bE.o fb aT (by rw [e];exact ⟨δ,δ⟩))⟩
   clear hC bA aA bO st cg h2 aF aR aG aD
   refine ⟨.inl ⟨y1,bL.o⟩,?_⟩
   refine X5 κ ?_
   go_simp
   refine Xr3 ?_
   clear aS
   go_wp2_with fail
   refine bodyPost_ret (v:=.tuple #[ι ((s.mem.nodes.length:Int)+1),.bool true]) (by simp [results,Tryz.results102,go_sem]) rfl ?_
   exact Xum HA.o ⟨c2,by rw [<-aX.o];exact ST.o,by rw [<-aX.o];exact CG.o⟩
  ·have d1:decide (4096<=s.mem.nodes.length)=true:=by simp;omega
   have d2:decide ((4096:Int)<=(s.mem.nodes.length:Int))=true:=by simp;omega
   have HA:Hid (Xtd cd s.mem r=some (s.mem,0)):=Lh (by unfold Xtd;rw [if_pos h3,if_neg hl])
   clear hl h3
   go_enter Tryz.func102,Tryz.ntmps102
   go_upto_region 1 with fail
   rw [<-hW]
   clear hW
   go_wp2_with fail
   refine bodyPost_ret (v:=.tuple #[ι 0,.bool true]) (by simp [results,Tryz.results102,go_sem]) rfl ?_
   exact Xum HA.o (HH.o.post aE.o)
 ·have e3:(r.kind == 3)=false:=by simpa using h3
  have H3:=Lh h3
  have aW:=Lh (Xya s.mem bt r W HS.o.memAt HQ.o.node HQ.o.field HQ.o.nodeV)
  unfold rqC at aW
  clear h3 k1 c0 zt
  go_enter Tryz.func102,Tryz.ntmps102
  go_upto_region 1 with fail
  rw [<-hW]
  clear hW
  go_wp2_with fail
  refine aW.o.mono ?_
  rintro e w1 ⟨aC,hr⟩
  have aO:=Lh (aE.o.then aC)
  have bK:=Lh (HS.o.grow aC)
  rcases hr with ⟨h1,rfl⟩|⟨h1,b,o,hp,rfl⟩
  ·have HA:Hid (Xtd cd s.mem r=none):=Lh (by unfold Xtd;rw [if_neg H3.o,if_pos h1])
   clear h1 aC q0 q1 q2 q3 q4
   go_wp2_with fail
   refine bodyPost_ret (v:=.tuple #[ι 0,.bool false]) (by simp [results,Tryz.results102,go_sem]) rfl ?_
   exact X0i HA.o (HH.o.post aO.o)
  have bR:=HS.o.plc hp HQ.o.field h1
  clear hp
  obtain ⟨rfl,hp⟩:=bR
  rw [Nat.zero_add]
  have q0:=Xc aC q0
  have q3:=Xc aC q3
  obtain ⟨hv,bN,bU,aN,aH⟩:=bK.o.put (hp.keep aC) HQ.o.field h1
  have HP:=Lh aH
  have zQ:w.heap.size+1<w1.heap.size:=Bl q0
  by_cases h2:r.kind=2
  ·have e2:(r.kind == 2)=true:=by simpa using h2
   have HA:Hid (Xtd cd s.mem r=some (Xw6 s.mem r r.value,r.value)):=Lh (by unfold Xtd;rw [if_neg H3.o,if_neg ω,if_pos h2])
   clear h1 aC h2 q1 q2 q4 hp aH aN
   go_wp2_with fail
   refine bodyPost_ret (v:=.tuple #[ι r.value,.bool true]) (by simp [results,Tryz.results102,go_sem]) rfl ?_
   obtain ⟨st,cg⟩:=HP.o r.value HQ.o.value
   exact Xum HA.o ⟨c,st,(Chg.of_below aO.o nz0).trans cg⟩
  ·have e2:(r.kind == 2)=false:=by simpa using h2
   have HA:Hid (Xtd cd s.mem r=some (s.mem,(Un s.mem r).getD r.field.toNat 0)):=Lh (by unfold Xtd;rw [if_neg H3.o,if_neg ω,if_neg h2])
   clear h1 aC h2 q1 q2 q4 hp aH aN
   go_wp2_with fail
   refine bodyPost_ret (v:=.tuple #[ι ((Un s.mem r).getD r.field.toNat 0),.bool true]) (by simp [results,Tryz.results102,go_sem]) rfl ?_
   exact Xum HA.o (HH.o.post aO.o)
def Xr8 (s:Thr) (t:Nat) (m:Mch) (n:Int):Thr:=if m.req.kind=4 then Xwz s t 0 m.req.value m.compares n else if m.req.kind=5 then Xwz s t m.req.fault 0 m.compares n else { s with running:=s.running.set t m }
theorem Chg.pre {c:Clr} {b:World} (h:Below a.heap.size a b) (k:Chg NZ c c' b d):Chg NZ c c' a d:=(Chg.of_below h nz0).trans k
theorem Xs5.pre {c:Clr} {b:World} (h:Below a.heap.size a b) (k:Xs5 c bt s b d):Xs5 c bt s a d:=by
 obtain ⟨c',h1,h2⟩:=k
 exact ⟨c',h1,Chg.pre h h2⟩
theorem Xww (s:Thr) (c:Clr) (bt t:Nat) (n:Int) (r:List Xr7) (e:List Int) (m0 m:Mch) (fa:Option Addr) (fc:Nat) (w:World) (h:V2 w c bt s) (hm:s.running[t]?=some m0) (hn:s.nodes[t]?=some n) (hr:s.results[t]?=some r) (he:s.ends[t]?=some e) (aI:r.length<=1000000) (aH:e.length<=1000000)
  (hf:Xf w.heap.size (mask w c) 4 (Qp w.heap.size) (σ fa m.frames.length fc) m.frames) (hwf:Xt0 m) :
  Calls Tryz.prog 105 #[.pointer (some (π bt 0)),ι t,.agg (Xb (σ fa m.frames.length fc) m)] w fun z w'=>z=.returned (.tuple #[])/\Xs5 c bt (Xr8 s t m n) w w':=by
 have H0:=Lh h
 have HX:=Lh (And.intro hm (And.intro hn (And.intro hr (And.intro he (And.intro aI aH)))))
 have HF:=Lh hf
 have aD:=Lh hwf
 obtain ⟨W,hW⟩:∃ W,W=w.alloc (χ (Xb (σ fa m.frames.length fc) m) 51):=⟨_,rfl⟩
 have aC:Hid (Below w.heap.size w W):=by rw [hW];exact Lh (Xa _ _)
 have HS:=Lh (H0.o.grow aC.o)
 have aA:W.heap[w.heap.size]?=some (χ (Xb (σ fa m.frames.length fc) m) 51 (0,0)):=by rw [hW];exact Hn _ _
 have zR:w.heap.size<W.heap.size:=by rw [hW];simp
 have q0:=Cw aA 0 rfl
 have q1:=Cw aA 1 rfl
 have q2:=Cw aA 2 rfl
 have q3:=Cw aA 3 rfl
 have q4:=Cw aA 4 rfl
 have q5:=Cw aA 5 rfl
 have q6:=Cw aA 6 rfl
 have q7:=Cw aA 7 rfl
 have q8:=Cw aA 8 rfl
 have aK:Hid (Xf W.heap.size (mask W c) 4 (Qp W.heap.size) (σ fa m.frames.length fc) m.frames):=Lh (HF.o.ups Xsw aC.o.size (Chg.sub (T:=NO) (Chg.of_below aC.o (no 0))))
 clear h hm hn hr he aI aH hf hwf aA
 unfold Xb
 unfold Xb at hW
 by_cases h4:m.req.kind=4
 ·have e4:(m.req.kind == 4)=true:=by simpa using h4
  have HT:Hid (Xr8 s t m n=Xwz s t 0 m.req.value m.compares n):=Lh (by unfold Xr8;rw [if_pos h4])
  have HE:=Lh (Xxt s c bt t 0 m.req.value m.compares n r e m0 W HS.o HX.o.1 HX.o.2.1 HX.o.2.2.1 HX.o.2.2.2.1 HX.o.2.2.2.2.1 HX.o.2.2.2.2.2 (by unfold in64;simp) aD.o.1.2.2.2.1 aD.o.2.2.1)
  clear h4
  go_enter Tryz.func105,Tryz.ntmps105
  go_upto_region 1 with fail
  rw [<-hW]
  clear hW
  go_wp2_with fail
  refine HE.o.mono ?_
  rintro z w1 ⟨rfl,hp⟩
  have HP:=Lh hp
  clear hp
  go_wp2_with fail
  go_end0
  exact ⟨rfl,by rw [HT.o];exact HP.o.pre aC.o⟩
 have e4:(m.req.kind == 4)=false:=by simpa using h4
 by_cases h5:m.req.kind=5
 ·have e5:(m.req.kind == 5)=true:=by simpa using h5
  have HT:Hid (Xr8 s t m n=Xwz s t m.req.fault 0 m.compares n):=Lh (by unfold Xr8;rw [if_neg h4,if_pos h5])
  have HE:=Lh (Xxt s c bt t m.req.fault 0 m.compares n r e m0 W HS.o HX.o.1 HX.o.2.1 HX.o.2.2.1 HX.o.2.2.2.1 HX.o.2.2.2.2.1 HX.o.2.2.2.2.2 aD.o.1.2.2.2.2 (by unfold in64;simp) aD.o.2.2.1)
  clear h4 h5
  go_enter Tryz.func105,Tryz.ntmps105
  go_upto_region 1 with fail
  rw [<-hW]
  clear hW
  go_wp2_with fail
  refine HE.o.mono ?_
  rintro z w1 ⟨rfl,hp⟩
  have HP:=Lh hp
  clear hp
  go_wp2_with fail
  go_end0
  exact ⟨rfl,by rw [HT.o];exact HP.o.pre aC.o⟩
 have e5:(m.req.kind == 5)=false:=by simpa using h5
 have HT:Hid (Xr8 s t m n={ s with running:=s.running.set t m }):=Lh (by unfold Xr8;rw [if_neg h4,if_neg h5])
 obtain ⟨rb,rc,ga,gc,b3,hx,aO,aP,aB,-,-,aF⟩:=HS.o.viewR HX.o.1
 obtain ⟨st,cg⟩:=aF m (σ fa m.frames.length fc) aK.o aD.o
 obtain ⟨w3,aG⟩:∃ u,u=Xt1 W rb (t*9) (Xtv (σ fa m.frames.length fc) m):=⟨_,rfl⟩
 rw [<-aG] at st cg
 have aM:=Lh st
 have aJ:=Lh cg
 have aL:=Lh aG
 have i0:(0:Int)<=(t:Int):=In _
 have i1:(t:Int)<(s.running.length:Int):=by have:=(Ll HX.o.1);omega
 have z0:=aB (t*9)
 have z1:=aB (t*9+1)
 have z2:=aB (t*9+2)
 have z3:=aB (t*9+3)
 have z4:=aB (t*9+4)
 have z5:=aB (t*9+5)
 have z6:=aB (t*9+6)
 have z7:=aB (t*9+7)
 have z8:=aB (t*9+8)
 have x0:W.cell? (π rb (t*9))=some (σ ga m0.frames.length gc):=hx 0 _ rfl
 have x1:=hx 1 _ rfl
 have x2:=hx 2 _ rfl
 have x3:=hx 3 _ rfl
 have x4:=hx 4 _ rfl
 have x5:=hx 5 _ rfl
 have x6:=hx 6 _ rfl
 have x7:=hx 7 _ rfl
 have x8:=hx 8 _ rfl
 clear aB aG st cg hx aF aO h4 h5
 go_enter Tryz.func105,Tryz.ntmps105
 go_upto_region 1 with fail
 rw [<-hW]
 clear hW
 go_upto_region 2 with fail
 refine X6 (fun Vs=>Vs.cell? (π bt 3)=some (σ (some (π rb 0)) s.running.length rc)/\Vs.cell? (π w.heap.size 0)=some (σ fa m.frames.length fc)/\Vs.cell? (π w.heap.size 1)=some (ι m.req.kind)/\Vs.cell? (π w.heap.size 2)=some (ι m.req.node)/\Vs.cell? (π w.heap.size 3)=some (ι m.req.field)/\Vs.cell? (π w.heap.size 4)=some (ι m.req.value)/\Vs.cell? (π w.heap.size 5)=some (ι m.req.fault)/\Vs.cell? (π w.heap.size 6)=some (ι m.fuel)/\Vs.cell? (π w.heap.size 7)=some (ι m.compares)/\Vs.cell? (π w.heap.size 8)=some (ι m.idle)) [7] true 8 rfl κ κ ⟨b3,q0,q1,q2,q3,q4,q5,q6,q7,q8⟩ ?_
 repeat (first|(refine' Xr4.take (Eq.refl false) _ (fun wV aN=>?_) ?_;rotate_left;(try dsimp only at aN);go_simp;(try with_reducible rfl);try simp only [Ap])|refine Xr4.skip (Eq.refl true) ?_)
 refine Xr4.stop ?_
 simp only [List.nil_append,List.cons_append]
 clear b3 q0 q1 q2 q3 q4 q5 q6 q7 q8
 refine X5 κ ?_
 go_simp
 refine Xr3 ?_
 go_end0
 refine ⟨rfl,?_⟩
 have hd:Below w3.heap.size w3 w3.drew:=Xh Br 1
 have aE:Xs5 c bt (Xr8 s t m n) w w3.drew:=⟨c,by rw [HT.o];exact aM.o.grow hd,(Chg.pre aC.o aJ.o).trans (Chg.of_below hd nz0)⟩
 rw [aL.o] at aE
 exact aE
inductive Xuu (m:Mch):Out->Prop
 | go (m1:Mch):m1.fuel<=m.fuel/\m1.compares+pot m1<=m.compares+pot m/\m1.idle<=100000->Xuu m (.go m1)
 | stop (r:Rq) (m1:Mch):m1.fuel<=m.fuel/\m1.compares+pot m1<=m.compares+pot m/\m1.idle<=100000->Xuu m (.stop r m1)
theorem Xuu.ite {p:Prop} [Decidable p] {a b:Out} (ha:Xuu m a) (hb:Xuu m b):Xuu m (if p then a else b):=by split<;>assumption
theorem X1i (c:Cod) (m:Mch) (fs:List Fra) (f:Fra) (y:Fun) (x:Ins) (hi:m.idle<100000):Xuu m (Z0 c m fs f y x):=by
 have e1:∀ fr:List Fra,({ m with idle:=m.idle+1,frames:=fr }:Mch).fuel<=m.fuel/\({ m with idle:=m.idle+1,frames:=fr }:Mch).compares+pot { m with idle:=m.idle+1,frames:=fr }<=m.compares+pot m/\({ m with idle:=m.idle+1,frames:=fr }:Mch).idle<=100000:=fun fr=>by
  unfold pot;simp only [];omega
 have e2:∀ fr:List Fra,({ m with idle:=m.idle+1,compares:=m.compares+Zk x.op,frames:=fr }:Mch).fuel<=m.fuel/\({ m with idle:=m.idle+1,compares:=m.compares+Zk x.op,frames:=fr }:Mch).compares+pot { m with idle:=m.idle+1,compares:=m.compares+Zk x.op,frames:=fr }<=m.compares+pot m/\({ m with idle:=m.idle+1,compares:=m.compares+Zk x.op,frames:=fr }:Mch).idle<=100000:=fun fr=>by
  have:Zk x.op<=1:=by unfold Zk;split<;>omega
  unfold pot;simp only [];omega
 have e3:∀ fr:List Fra,({ m with fuel:=m.fuel - 1,idle:=0,frames:=fr }:Mch).fuel<=m.fuel/\({ m with fuel:=m.fuel - 1,idle:=0,frames:=fr }:Mch).compares+pot { m with fuel:=m.fuel - 1,idle:=0,frames:=fr }<=m.compares+pot m/\({ m with fuel:=m.fuel - 1,idle:=0,frames:=fr }:Mch).idle<=100000:=fun fr=>by
  unfold pot;simp only [];omega
 have e0:m.fuel<=m.fuel/\m.compares+pot m<=m.compares+pot m/\m.idle<=100000:=ω
 unfold Z0
 simp only []
 repeat' apply Xuu.ite
 all_goals first|exact .go _ (e1 _)|exact .stop _ _ (e1 _)|exact .go _ (e2 _)|exact .stop _ _ (e2 _)|exact .go _ (e3 _)|skip
 ·cases Je c x.a with
  | none=>exact .stop _ _ e0
  | some z=>
   simp only []
   apply Xuu.ite
   ·exact .go _ (e1 _)
   ·exact .stop _ _ (e1 _)
 ·cases fs.getLast? with
  | none=>exact .stop _ _ (e1 _)
  | some z=>exact .go _ (e1 _)
theorem Xys (c:Cod) (m:Mch) (hi:m.idle<=100000):Xuu m (stepP c m):=by
 have e0:m.fuel<=m.fuel/\m.compares+pot m<=m.compares+pot m/\m.idle<=100000:=ω
 unfold stepP
 split
 ·exact .stop _ _ e0
 ·cases m.frames.getLast? with
  | none=>exact .stop _ _ e0
  | some f=>
   simp only []
   cases c.funcs[f.fn.toNat]? with
   | none=>exact .stop _ _ e0
   | some y=>
    simp only []
    cases y.code[f.pc.toNat]? with
    | none=>exact .stop _ _ e0
    | some x=>exact X1i c m _ f y x ω
theorem Xvd (h:Zm c m m'):m.idle<=100000->m'.fuel<=m.fuel/\m'.compares+pot m'<=m.compares+pot m/\m'.idle<=100000:=by
 induction h with
 | stop hst=>
  intro hi
  have:=Xys c _ hi
  rw [hst] at this
  cases this with
  | stop _ _ h=>exact h
 | go hst _ ih=>
  intro hi
  have:=Xys c _ hi
  rw [hst] at this
  cases this with
  | go _ h=>have:=ih h.2.2;omega
theorem X0x {x:Ins} (h:Xf1 x r):Xr x r=true:=by
 unfold Xr
 rcases h with ⟨ho,rfl⟩|⟨v,ho,hv,rfl⟩|⟨n,ho,h1,h2,rfl⟩|⟨n,v,ho,h1,h2,hv,rfl⟩|⟨ho,rfl⟩
 ·rw [ho];simp [Xy,X4]
 ·rw [ho];simp [Xy,X4];exact .inr (Ye.2 hv)
 ·rw [ho];simp [Xy,X4];unfold isV at h2;omega
 ·rw [ho];simp [Xy,X4];unfold isV at h2;exact ⟨⟨h1,h2.2⟩,.inr (Ye.2 hv)⟩
 ·rw [ho];simp [Xy,X4]
theorem Xyj :∀ (l:List Fra) (g:Fra),Vr c l g.fn->∀ (j:Nat) f,l[j]?=some f->Jb c f (fun x=>x.op=9/\x.a=((if j=0 then some g else l[j - 1]?).map (·.fn)).getD 0)
 | [],g,_,j,f,h=>by simp at h
 | a::l,g,h,0,f,hf=>by
  simp at hf;subst hf
  exact h.1
 | a::l,g,h,j+1,f,hf=>by
  have:=Xyj l a h.2 j f (by simpa using hf)
  refine this.imp (fun x hx=>⟨hx.1,?_⟩)
  rw [hx.2]
  cases j with
  | zero=>simp
  | succ j=>simp
theorem Xwu (hs:Xv c) {fs:List Fra} {f:Fra} (hw:Qr c m m.req fs f) (hn:Ug m) (hf:m.fuel<=1048576) (hc:m.compares<=1099511627776):Yf c m:=by
 have hl:=hw.len
 have aA:=hw.fr
 refine ⟨hs,⟨hn.fuel,hf⟩,⟨hn.cmp0,hc⟩,⟨hn.idle0,hn.idle1⟩,by rw [aA];simp;omega,.inr ⟨by rw [aA];simp,fun k g hk=>?_⟩⟩
 have aE:m.frames.length=fs.length+1:=by rw [aA];simp
 unfold Yx
 by_cases aD:k<fs.length
 ·rw [aA,Al aD] at hk
  have h1:fs.reverse[fs.length - 1 - k]?=some g:=by rw [List.getElem?_reverse ω];rw [show fs.length - 1 - (fs.length - 1 - k)=k by omega];exact hk
  refine (Xyj _ _ hw.low _ _ h1).imp (fun x hx=>?_)
  rw [if_neg ω]
  refine ⟨hx.1,?_⟩
  by_cases h0:k+1=fs.length
  ·refine ⟨f,by rw [aA,Ar ω,h0];simp,?_⟩
   rw [hx.2,if_pos ω];rfl
  ·obtain ⟨g',aB⟩:∃ g',fs[k+1]?=some g':=⟨_,Lg ω⟩
   refine ⟨g',by rw [aA,Al ω];exact aB,?_⟩
   rw [hx.2,if_neg ω,List.getElem?_reverse ω,show fs.length - 1 - (fs.length - 1 - k - 1)=k+1 by omega,aB];rfl
 ·have aC:k=fs.length:=by
   have:=(Ll hk)
   omega
  rw [aA,aC] at hk
  simp at hk
  subst hk
  refine hw.top.imp (fun x hx=>?_)
  rw [if_pos ω]
  exact X0x hx
structure Xu8 (c:Cod) (m:Mch):Prop where
 waits:∃ fs f,Qr c m m.req fs f
 nums:Ug m
 fuel:m.fuel<=1048576
 cmp:m.compares+pot m<=1000000000000
theorem Xu8.valid (hs:Xv c) (h:Xu8 c m):Yf c m:=by
 obtain ⟨fs,f,hw⟩:=h.waits
 refine Xwu hs hw h.nums h.fuel ?_
 have h1:=h.nums.fuel
 have h2:=h.nums.idle1
 have h3:=h.cmp
 unfold pot at h3
 omega
theorem Xu8.kind (h:Xu8 c m):m.req.kind=1\/m.req.kind=2\/m.req.kind=3:=by
 obtain ⟨fs,f,hw⟩:=h.waits
 obtain ⟨_,x,_,_,_,_,ha,_⟩:=hw.top
 exact Ua ha
theorem Xu8.asks (h:Xu8 c m):Xsi m=true:=by
 unfold Xsi
 rcases h.kind with e|e|e<;>simp [e]
theorem Xty (h:Xsi m=true):m.req.kind≠4/\m.req.kind≠5:=by
 unfold Xsi at h
 simp at h
 omega
theorem Xm4.q (h:Xm4 c r):X35 c r:=⟨h.field,h.node,h.nodeV.2,by have:=h.value;unfold isV at this;unfold in64;omega,h.alloc⟩
theorem Xwh (h:Us c m) (ha:Xsi m=true) (hf:m.fuel<=1048576) (hc:m.compares+pot m<=1000000000000):Xu8 c m:=by
 obtain ⟨hn,h⟩:=h
 have hk:=Xty ha
 rcases h with ⟨e,_,hr,_⟩|⟨v,_,hr,_⟩|hw
 ·exact absurd (by rw [hr];rfl) hk.2
 ·exact absurd (by rw [hr];rfl) hk.1
 ·exact ⟨hw,hn,hf,hc⟩
theorem Xxf (hs:Xv c) {x:Cal} {fuel:Int} (h:Yd c x fuel=0) (hr:Zm c (Zo c x fuel) m):Us c m/\m.fuel<=1048576/\m.compares+pot m<=1000000000000:=by
 have hf:0<=fuel/\fuel<=1048576:=by
  unfold Yd at h
  by_cases h2:fuel<0\/1048576<fuel
  ·rw [if_pos h2] at h;omega
  ·omega
 have h1:=Xvd hr (by show (0:Int)<=100000;omega)
 have e1:(Zo c x fuel).fuel=fuel:=rfl
 have e2:(Zo c x fuel).compares+pot (Zo c x fuel)=0+(fuel*100001+(100000 - 0)):=rfl
 rw [e1,e2] at h1
 exact ⟨(Xch hs h hr).1,ω,ω⟩
theorem Xyh (hs:Xv c) (h:Xu8 c m) (ha:Yr m.req n=true) (hn:Jv c m n m'):(Us c m'\/(m'.frames=[]/\m'.req=X0 21/\Ug m'))/\m'.fuel<=1048576/\m'.compares+pot m'<=1000000000000:=by
 have hk:=Xty h.asks
 have hE:Us c m:=⟨h.nums,.inr (.inr h.waits)⟩
 refine ⟨(Xd7 hs hE hk.1 hk.2 ha hn).1,?_⟩
 have h1:=h.fuel
 have h2:=h.cmp
 have h3:=h.nums.idle1
 rcases hn with ⟨_,_,rfl⟩|⟨_,fs,f,_,hr⟩|⟨_,hr⟩
 ·exact ⟨h1,h2⟩
 ·have:=Xvd hr h3
  have e:({ m with req:=noR,frames:=fs++[{ f with stack:=f.stack++[n] }] }:Mch).compares+pot { m with req:=noR,frames:=fs++[{ f with stack:=f.stack++[n] }] }=m.compares+pot m:=rfl
  rw [e] at this
  exact ⟨Int.le_trans this.1 h1,Int.le_trans this.2.1 h2⟩
 ·have:=Xvd hr h3
  have e:({ m with req:=noR }:Mch).compares+pot { m with req:=noR }=m.compares+pot m:=rfl
  rw [e] at this
  exact ⟨Int.le_trans this.1 h1,Int.le_trans this.2.1 h2⟩
def Xud (s:Thr):Thr:={ s with step:=s.step+1 }
def X4c (s:Thr) (t:Nat) (l:List Cal):Thr:={ s with calls:=s.calls.set t l,begins:=s.begins.modify t (·++[s.step]) }
def X1l (c:Cod) (s:Thr) (t:Nat) (m0:Mch) (m:Mch) (s1:Thr):Prop:=
 (m0.frames≠[]/\m=m0/\s1=s)\/(m0.frames=[]/\∃ x l,s.calls[t]?=some (x::l)/\Zm c (Zo c x s.fuel) m/\s1=X4c s t l)
def Xs1 (m:Mm) (r:Rq):Int:=if (Xst m r).node≠0 then 1 else 0
def X4f (c:Cod) (s1:Thr) (t:Nat) (m:Mch) (n:Int) (s':Thr):Prop:=
 (Xsi m=false/\s'=Xud (Xr8 s1 t m n))\/
 (Xsi m=true/\Xtd c s1.mem m.req=none/\s'=Xud (Xwz s1 t 11 0 m.compares n))\/
 (Xsi m=true/\∃ mm a m',Xtd c s1.mem m.req=some (mm,a)/\Jv c m a m'/\s'=Xud (Xr8 { s1 with mem:=mm,nodes:=s1.nodes.set t (n+Xs1 s1.mem m.req) } t m' (n+Xs1 s1.mem m.req)))
def Xsq (c:Cod) (s:Thr) (t:Nat) (s':Thr):Prop:=∃ m0 n m s1,s.running[t]?=some m0/\s.nodes[t]?=some n/\X1l c s t m0 m s1/\X4f c s1 t m n s'
theorem Xt5 {m mm:Mm} (hm:Uv c m) (hr:Xm4 c r) (h:Xtd c m r=some (mm,n)):Yr r n=true:=by
 have:∃ p,J5 c ⟨m,[],0⟩ r=some (p,n):=by
  unfold Xtd at h
  unfold J5
  split at h
  ·rename_i h3
   rw [if_pos h3]
   split at h
   ·rename_i hl;rw [if_pos hl];cases h;exact ⟨_,rfl⟩
   ·rename_i hl;rw [if_neg hl];cases h;exact ⟨_,rfl⟩
  ·rename_i h3
   rw [if_neg h3]
   split at h
   ·cases h
   ·rename_i hl
    rw [if_neg hl]
    split at h
    ·rename_i h2;cases h;exact ⟨_,by rw [if_pos h2]⟩
    ·rename_i h2;cases h;exact ⟨_,by rw [if_neg h2]⟩
 obtain ⟨p,hp⟩:=this
 exact Ji hm hr hp
theorem Xm4.wf (h:Xm4 c r) (hf:r.fault=0):r.wf:=by
 have h1:=h.kind
 have h2:=h.field
 have h3:=h.field2
 have h4:=h.node
 have h5:=h.nodeV
 have h6:=h.value
 unfold isV at h5 h6
 unfold Rq.wf in64
 rw [hf]
 omega
theorem Xzv (hs:Xv c) (h:Us c m\/(m.frames=[]/\m.req=X0 21/\Ug m)) (hf:m.fuel<=1048576):Xt0 m:=by
 have aA:∀ m:Mch,Ug m->m.fuel<=1048576->in64 m.fuel/\in64 m.compares/\in64 m.idle:=fun m hn hf=>by
  have h1:=hn.fuel
  have h2:=hn.idle0
  have h3:=hn.idle1
  have h4:=hn.cmp0
  have h5:=hn.potle
  unfold pot at h5
  unfold in64
  omega
 rcases h with ⟨hn,h⟩|⟨_,hr,hn⟩
 ·refine ⟨?_,aA m hn hf⟩
  rcases h with ⟨e,he,hr,_⟩|⟨v,hv,hr,_⟩|⟨fs,f,hw⟩
  ·rw [hr];unfold X0 Rq.wf in64;simp;omega
  ·rw [hr];unfold isV at hv;unfold Jc Rq.wf in64;simp;omega
  ·refine (hw.req hs).wf ?_
   obtain ⟨_,x,_,_,_,_,ha,_⟩:=hw.top
   rcases ha with ⟨_,e⟩|⟨v,_,_,e⟩|⟨n,_,_,_,e⟩|⟨n,v,_,_,_,_,e⟩|⟨_,e⟩<;>rw [e]
 ·exact ⟨by rw [hr];unfold X0 Rq.wf in64;simp,aA m hn hf⟩
theorem Xx9 (hs:Xv c) (hsm:Zb c) (h:Us c m\/(m.frames=[]/\m.req=X0 21/\Ug m)):J6 m:=by
 rcases h with h|⟨h,_⟩
 ·exact h.modest hs hsm
 ·exact Xa5 h
theorem X1l.same {s1:Thr} {m0:Mch} (h:X1l c s t m0 m s1):s1.running=s.running/\s1.nodes=s.nodes/\s1.results=s.results/\s1.ends=s.ends/\s1.mem=s.mem/\s1.step=s.step/\s1.fuel=s.fuel:=by
 rcases h with ⟨_,_,rfl⟩|⟨_,x,l,_,_,rfl⟩
 ·exact ⟨rfl,rfl,rfl,rfl,rfl,rfl,rfl⟩
 ·exact ⟨rfl,rfl,rfl,rfl,rfl,rfl,rfl⟩
theorem Xts (s:Thr) (t:Nat) (m:Mch) (n:Int):(Xr8 s t m n).step=s.step:=by
 unfold Xr8 Xwz;split
 ·rfl
 split<;>rfl
theorem Xxu {m:Mm} (h:Xtd c m r=none):Xst m r=⟨0,0,0⟩:=by
 unfold Xtd at h
 unfold Xst
 split at h
 ·split at h<;>cases h
 ·rename_i h3
  rw [if_neg h3]
  split at h
  ·rename_i hl;rw [if_pos hl]
  ·split at h<;>cases h
theorem X1v {α:Type} {l:List α} {x:α} (h:l[t]?=some x):l.set t x=l:=by
 obtain ⟨h1,rfl⟩:=List.getElem?_eq_some_iff.1 h
 exact List.set_getElem_self h1
theorem Xm4.f64 (h:Xm4 c r):r.field<=1000000:=by have:=h.field2;omega
