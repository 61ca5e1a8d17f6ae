import Derived.Test.YtiejafonjemioaaGreatDoorFie
import Derived.Test.YtiejafonjemioaaGreatDoorNwn
import Derived.Test.YtiejafonjemioaaGreatDoorLsn
set_option maxHeartbeats 2000000
set_option maxRecDepth 100000
set_option linter.unusedVariables false
set_option linter.unusedSimpArgs false
open Go.Value renaming slice→σ
open Go.Obj renaming cells→χ
namespace Go.Proofs.YtiejafonjemioaaGreatDoor
open Go.RowKit
variable {c:Cod} {s s1 s2 s' T:Thr} {a a0:Act} {v:Value} {d i j:Nat} {w A:World} {sl:Nat->Option Tmp} {K:Int} {sch:List Int} {done:List Nat} {f:Nat->Value}
theorem Xsq.det {t:Nat} (h:Xsq c s t s1) (k:Xsq c s t s2):s1=s2:=by
 obtain ⟨m0,n,m,b,h1,h2,hB,hA⟩:=h
 obtain ⟨aA,n',m',b',k1,k2,kB,kA⟩:=k
 rw [h1] at k1
 rw [h2] at k2
 cases k1
 cases k2
 have e:m=m'/\b=b':=by
  rcases hB with ⟨hf,rfl,rfl⟩|⟨hf,x,l,hl,hR,rfl⟩
  ·rcases kB with ⟨_,rfl,rfl⟩|⟨kf,_⟩
   ·exact ⟨rfl,rfl⟩
   ·exact absurd kf hf
  ·rcases kB with ⟨kf,_⟩|⟨_,x',l',kl,kR,rfl⟩
   ·exact absurd hf kf
   ·rw [hl] at kl
    cases kl
    exact ⟨Vv hR kR,rfl⟩
 obtain ⟨rfl,rfl⟩:=e
 rcases hA with ⟨h3,rfl⟩|⟨h3,h4,rfl⟩|⟨h3,mm,a,m',h4,h5,rfl⟩
 ·rcases kA with ⟨k3,rfl⟩|⟨k3,_⟩|⟨k3,_⟩
  ·rfl
  ·rw [h3] at k3;cases k3
  ·rw [h3] at k3;cases k3
 ·rcases kA with ⟨k3,_⟩|⟨_,k4,rfl⟩|⟨_,_,_,_,k4,_⟩
  ·rw [h3] at k3;cases k3
  ·rfl
  ·rw [h4] at k4;cases k4
 ·rcases kA with ⟨k3,_⟩|⟨_,k4,_⟩|⟨_,aB,a',m2,k4,k5,rfl⟩
  ·rw [h3] at k3;cases k3
  ·rw [h4] at k4;cases k4
  ·rw [h4] at k4
   cases k4
   rw [Xb8 h5 k5]
theorem X1u {α:Type} {l l':List α} {a b:α} (h:l++[a]=l'++[b]):l=l'/\a=b:=by
 have h1:=List.append_inj' h rfl
 exact ⟨h1.1,by simpa using h1.2⟩
theorem Xt8.det {l:List Int} (h:Xt8 c s l s1):∀ {s2},Xt8 c s l s2->s1=s2:=by
 induction h with
 | nil=>
  intro s2 k
  generalize hl:([]:List Int)=l' at k
  cases k with
  | nil=>rfl
  | snoc=>simp at hl
 | @snoc l0 a b t0 _ _ _ hR ih=>
  intro s2 k
  generalize hl:l0++[t0]=l' at k
  cases k with
  | nil=>simp at hl
  | snoc k1 k2 k3 kR=>
   obtain ⟨rfl,rfl⟩:=X1u hl
   obtain rfl:=ih k1
   exact hR.det kR
def adF:Fun:=⟨⟨#[97,100,100]⟩,0,0,false,[⟨13,0⟩,⟨4,0⟩,⟨1,1⟩,⟨15,0⟩,⟨5,0⟩,⟨10,0⟩]⟩
def adC:Cod:=⟨[],1,[adF]⟩
def adX:Cal:=⟨⟨#[97,100,100]⟩,[]⟩
theorem X3f:Uz ⟨#[97,100,100]⟩=true:=by kernel_rfl
theorem X1s:Q4 adC=false:=by kernel_rfl
theorem X0q:Zh adC adF:=Xe5 [0,0,1,2,1,0] rfl δ (by
 intro i hi
 have:(List.range 6).all (Xnn adC adF [0,0,1,2,1,0])=true:=by kernel_rfl
 exact List.all_eq_true.1 this i (List.mem_range.2 hi))
theorem Xye:Xv adC:=by
 refine ⟨⟨by simp [adC],by simp [adC],by simp [adC],by simp [adC],by simp [adC],fun i x hx=>?_⟩,X1s,fun f hf=>?_⟩
 ·match i,hx with
  | 0,hx=>
   obtain rfl:x=adF:=by simpa [adC] using hx.symm
   exact ⟨X3f,by unfold Zr;simp [adF],ψ⟩
  | i+1,hx=>simp [adC] at hx
 ·simp only [adC,List.mem_cons,List.not_mem_nil,or_false] at hf
  rcases hf with rfl
  exact X0q
theorem Xx7:Zb adC:=fun y hy=>by
 simp only [adC,List.mem_cons,List.not_mem_nil,or_false] at hy
 rcases hy with rfl;simp [adF]
theorem Xyl:Yd adC adX 0=0:=by kernel_rfl
theorem Xz1:Q7 adC ⟨[0],[]⟩=true:=by kernel_rfl
def Xvz:List (List Cal):=[[adX],[adX]]
theorem X3n:Xs9 adC ⟨[0],[]⟩ Xvz 5=0:=by
 unfold Xs9
 rw [Zg Xye,Xz1]
 rw [if_neg ψ,if_neg ω,if_neg (by simp [Xvz]),if_neg (by simp [Xvz])]
 exact Xua (fun l hl y hy=>by
  simp only [Xvz,List.mem_cons,List.not_mem_nil,or_false,or_self] at hl
  subst hl
  simp only [List.mem_cons,List.not_mem_nil,or_false] at hy
  subst hy
  exact Xyl)
def adR:Mch:=⟨[⟨0,2,[],[]⟩],⟨1,0,0,0,0⟩,4,0,1⟩
def adW (v:Int):Mch:=⟨[⟨0,5,[],[]⟩],⟨2,0,0,v,0⟩,4,0,4⟩
def adE:Mch:=⟨[],Jc 0,4,0,5⟩
theorem Xwr:Zm adC (Zo adC adX 5) adR:=
 .go (m1:=⟨[⟨0,1,[],[]⟩],noR,4,0,0⟩) κ (Zm.stop (r:=⟨1,0,0,0,0⟩) (m1:=⟨[⟨0,2,[],[]⟩],noR,4,0,1⟩) κ)
theorem Xyq:Jv adC adR 0 (adW 1):=
 .inr (.inl ⟨.inl rfl,[],⟨0,2,[],[]⟩,rfl,.go (m1:=⟨[⟨0,3,[],[0,1]⟩],noR,4,0,2⟩) κ (.go (m1:=⟨[⟨0,4,[],[1]⟩],noR,4,0,3⟩) κ (Zm.stop (r:=⟨2,0,0,1,0⟩) (m1:=⟨[⟨0,5,[],[]⟩],noR,4,0,4⟩) κ))⟩)
theorem X1y:Jv adC adR 1 (adW 2):=
 .inr (.inl ⟨.inl rfl,[],⟨0,2,[],[]⟩,rfl,.go (m1:=⟨[⟨0,3,[],[1,1]⟩],noR,4,0,2⟩) κ (.go (m1:=⟨[⟨0,4,[],[2]⟩],noR,4,0,3⟩) κ (Zm.stop (r:=⟨2,0,0,2,0⟩) (m1:=⟨[⟨0,5,[],[]⟩],noR,4,0,4⟩) κ))⟩)
theorem Xu7 {v n:Int}:Jv adC (adW v) n adE:=
 .inr (.inr ⟨rfl,Zm.stop (r:=Jc 0) (m1:=⟨[],noR,4,0,5⟩) κ⟩)
def adO:Xr7:=⟨0,0,0,0,0⟩
def adS (g:Int) (m0 m1:Mch) (l0 l1:List Cal) (r0 r1:List Xr7) (b0 b1 e0 e1:List Int) (n:Int):Thr:=⟨⟨[g],[]⟩,5,[m0,m1],[0,0],[l0,l1],[r0,r1],[b0,b1],[e0,e1],n⟩
def Xzs:Thr:=adS 0 Xl Xl [adX] [adX] [] [] [] [] [] [] 0
def X28:Thr:=adS 0 (adW 1) Xl [] [adX] [] [] [0] [] [] [] 1
def X4d:Thr:=adS 1 Xl Xl [] [adX] [adO] [] [0] [] [1] [] 2
def X3w:Thr:=adS 1 Xl (adW 2) [] [] [adO] [] [0] [2] [1] [] 3
def Xvk:Thr:=adS 2 Xl Xl [] [] [adO] [adO] [0] [2] [1] [3] 4
def X36:Thr:=adS 0 (adW 1) (adW 1) [] [] [] [] [0] [1] [] [] 2
def X3y:Thr:=adS 1 Xl (adW 1) [] [] [adO] [] [0] [1] [2] [] 3
def Xvi:Thr:=adS 1 Xl Xl [] [] [adO] [adO] [0] [1] [2] [3] 4
theorem Xz3:Xtb ⟨[0],[]⟩ 5 Xvz=Xzs:=rfl
theorem X31:Xsq adC Xzs 0 X28:=⟨Xl,0,adR,_,rfl,rfl,.inr ⟨rfl,adX,[],rfl,Xwr,rfl⟩,.inr (.inr ⟨rfl,⟨[0],[]⟩,0,adW 1,rfl,Xyq,rfl⟩)⟩
theorem X4o:Xsq adC X28 0 X4d:=⟨adW 1,0,adW 1,_,rfl,rfl,.inl ⟨by simp [adW],rfl,rfl⟩,.inr (.inr ⟨rfl,⟨[1],[]⟩,1,adE,rfl,Xu7,rfl⟩)⟩
theorem X4m:Xsq adC X4d 1 X3w:=⟨Xl,0,adR,_,rfl,rfl,.inr ⟨rfl,adX,[],rfl,Xwr,rfl⟩,.inr (.inr ⟨rfl,⟨[1],[]⟩,1,adW 2,rfl,X1y,rfl⟩)⟩
theorem X4n:Xsq adC X3w 1 Xvk:=⟨adW 2,0,adW 2,_,rfl,rfl,.inl ⟨by simp [adW],rfl,rfl⟩,.inr (.inr ⟨rfl,⟨[2],[]⟩,2,adE,rfl,Xu7,rfl⟩)⟩
theorem X39:Xsq adC X28 1 X36:=⟨Xl,0,adR,_,rfl,rfl,.inr ⟨rfl,adX,[],rfl,Xwr,rfl⟩,.inr (.inr ⟨rfl,⟨[0],[]⟩,0,adW 1,rfl,Xyq,rfl⟩)⟩
theorem X32:Xsq adC X36 0 X3y:=⟨adW 1,0,adW 1,_,rfl,rfl,.inl ⟨by simp [adW],rfl,rfl⟩,.inr (.inr ⟨rfl,⟨[1],[]⟩,1,adE,rfl,Xu7,rfl⟩)⟩
theorem X4a:Xsq adC X3y 1 Xvi:=⟨adW 1,0,adW 1,_,rfl,rfl,.inl ⟨by simp [adW],rfl,rfl⟩,.inr (.inr ⟨rfl,⟨[1],[]⟩,1,adE,rfl,Xu7,rfl⟩)⟩
theorem X3q {s0 s3 s4:Thr} {a b d e:Int} (h1:Xsq c s0 a.toNat s1) (h2:Xsq c s1 b.toNat s2) (h3:Xsq c s2 d.toNat s3) (h4:Xsq c s3 e.toNat s4) (k0:Xsl s0 a=0/\s0.step<65536) (k1:Xsl s1 b=0/\s1.step<65536) (k2:Xsl s2 d=0/\s2.step<65536) (k3:Xsl s3 e=0/\s3.step<65536)
  (hp:Xt8 c s0 ([a,b,d,e].take i) s') (hi:i=[a,b,d,e].length\/∃ t,[a,b,d,e][i]?=some t/\(Xsl s' t≠0\/65536<=s'.step)):i=4/\s'=s4:=by
 have p0:Xt8 c s0 [] s0:=.nil
 have p1:Xt8 c s0 [a] s1:=.snoc (l:=[]) p0 k0.1 k0.2 h1
 have p2:Xt8 c s0 [a,b] s2:=.snoc (l:=[a]) p1 k1.1 k1.2 h2
 have p3:Xt8 c s0 [a,b,d] s3:=.snoc (l:=[a,b]) p2 k2.1 k2.2 h3
 have p4:Xt8 c s0 [a,b,d,e] s4:=.snoc (l:=[a,b,d]) p3 k3.1 k3.2 h4
 have no:∀ (s:Thr) (t:Int),Xsl s t=0/\s.step<65536->¬(Xsl s t≠0\/65536<=s.step):=fun s t h k=>by
  rcases k with k|k
  ·exact k h.1
  ·have:=h.2;omega
 match i,hp,hi with
 | 0,hp,hi=>
  obtain rfl:=hp.det p0
  rcases hi with hi|⟨t,ht,hk⟩
  ·cases hi
  ·cases ht;exact absurd hk (no _ _ k0)
 | 1,hp,hi=>
  obtain rfl:=hp.det p1
  rcases hi with hi|⟨t,ht,hk⟩
  ·cases hi
  ·cases ht;exact absurd hk (no _ _ k1)
 | 2,hp,hi=>
  obtain rfl:=hp.det p2
  rcases hi with hi|⟨t,ht,hk⟩
  ·cases hi
  ·cases ht;exact absurd hk (no _ _ k2)
 | 3,hp,hi=>
  obtain rfl:=hp.det p3
  rcases hi with hi|⟨t,ht,hk⟩
  ·cases hi
  ·cases ht;exact absurd hk (no _ _ k3)
 | 4,hp,hi=>exact ⟨rfl,hp.det p4⟩
 | i+5,hp,hi=>
  rcases hi with hi|⟨t,ht,hk⟩
  ·simp at hi
  ·simp at ht
theorem X2a (hp:Xt8 adC Xzs (([0,0,1,1]:List Int).take i) s') (hi:i=([0,0,1,1]:List Int).length\/∃ t,([0,0,1,1]:List Int)[i]?=some t/\(Xsl s' t≠0\/65536<=s'.step)):i=4/\s'=Xvk:=
 X3q X31 X4o X4m X4n ⟨rfl,δ⟩ ⟨rfl,δ⟩ ⟨rfl,δ⟩ ⟨rfl,δ⟩ hp hi
theorem X17 (hp:Xt8 adC Xzs (([0,1,0,1]:List Int).take i) s') (hi:i=([0,1,0,1]:List Int).length\/∃ t,([0,1,0,1]:List Int)[i]?=some t/\(Xsl s' t≠0\/65536<=s'.step)):i=4/\s'=Xvi:=
 X3q X31 X39 X32 X4a ⟨rfl,δ⟩ ⟨rfl,δ⟩ ⟨rfl,δ⟩ ⟨rfl,δ⟩ hp hi
theorem Xyy:Xs8 adC Xzs:=by
 rw [<-Xz3]
 refine X07 Xye (Xn1.1 Xz1) δ (fun l hl x hx=>?_) (fun l hl=>?_)
 ·simp only [Xvz,List.mem_cons,List.not_mem_nil,or_false,or_self] at hl
  subst hl
  simp only [List.mem_cons,List.not_mem_nil,or_false] at hx
  subst hx
  exact Xyl
 ·simp only [Xvz,List.mem_cons,List.not_mem_nil,or_false,or_self] at hl
  subst hl
  simp
theorem X0w:Xse adC Xzs:=Xyy.valT δ δ δ (fun t b e hb he=>by
 have aA:b=[]:=by
  match t,hb with
  | 0,hb=>cases hb;rfl
  | 1,hb=>cases hb;rfl
  | t+2,hb=>cases hb
 subst aA
 rfl)
def X23 (T:Thr) (K:Int) (v:Value) (w:World):Prop:=∃ (g o gc:Nat) (ma:Option Addr) (mc:Nat) (ra:Option Addr) (rc:Nat) (na:Option Addr) (nc:Nat) (ca:Option Addr) (cc:Nat) (oa:Option Addr) (oc:Nat) (ba:Option Addr) (bc:Nat) (ea:Option Addr) (ec:Nat),v=.tuple #[.agg #[σ (some (π g o)) T.mem.globals.length gc,σ ma T.mem.nodes.length mc,ι T.fuel,σ ra T.running.length rc,σ na T.nodes.length nc,σ ca T.calls.length cc,σ oa T.results.length oc,σ ba T.begins.length bc,σ ea T.ends.length ec,ι T.step],ι 4,ι 0]/\w.cell? (π g o)=some (ι K)
structure AwI (sl:Nat->Option Tmp) (T:Thr) (K:Int) (sch:List Int) (A:World) (a0:Act) (done:List Nat) (a:Act) (w:World) (f:Nat->Value):Prop where
 act:a=Xtx a0 sl f done
 nd:done.Nodup
 sub:∀ i∈done,i∈[0,2,3,4,5,6,7,8,9,10,11]
 below:Below A.heap.size A w
 c0:0∈done->3∉done->∃ fa fc qa qc,f 0=.agg #[σ fa adC.fields.length fc,ι 1,σ qa adC.funcs.length qc]/\Yj w.heap.size w (f 0) adC
 c2:2∈done->3∉done->∃ la lc,f 2=σ la 4 lc/\Xf w.heap.size w 1 Zd (f 2) sch
 c3:3∈done->X23 T K (f 3) w
 c4:4∈done->f 4=f 3/\3∈done
 c5:5∈done->3∈done/\∃ x y,f 3=.tuple #[f 5,x,y]
 c6:6∈done->f 6=ι 4
 c7:7∈done->f 7=ι 0
 c8:8∈done->∃ bo,f 8=.pointer (some (π bo 0))/\A.heap.size<=bo/\(9∉done->w.heap[bo]?=some (χ Bz 34 (0,0)))/\(9∈done->∃ vs,f 5=.agg vs/\w.heap[bo]?=some (χ vs 34 (0,0)))
 c10:10∈done->f 10=ι 4
 c11:11∈done->f 11=ι 0
 d9:9∈done->5∈done
 d8:9∈done->8∈done
theorem Xz4 {P:Program} {n:Nat} {Q:Exit->Act->World->Prop} {S:World->Prop} {fin:Bool} {ops:List (Nat×Oper)} (h:∀ a0,a0=a->Xsz P n Q S fin ops a0 w):Xsz P n Q S fin ops a w:=h a rfl
theorem AwI.at_ (h:AwI sl T K sch A a0 done a w f) (hi:i∈done) (hd:sl i=some d) (hs:d<a0.tmps.size) (hu:∀ j∈[0,2,3,4,5,6,7,8,9,10,11],sl j=some d->j=i):a.tmps[d]?.getD undef=f i:=by
 rw [h.act,Xz7 hd hs hi (fun j hj=>hu j (h.sub j hj))]
 rfl
theorem AwI.other (h:AwI sl T K sch A a0 done a w f) (hu:∀ j∈[0,2,3,4,5,6,7,8,9,10,11],sl j≠some d) (hv:a0.tmps[d]?.getD undef=v):a.tmps[d]?.getD undef=v:=by
 rw [h.act,Xwk a0 sl f d done (fun j hj=>hu j (h.sub j hj))]
 exact hv
theorem AwI.start (sl:Nat->Option Tmp) (T:Thr) (K:Int) (sch:List Int) (A:World) (a0:Act):AwI sl T K sch A a0 [] a0 A (fun _=>undef):=
 ⟨rfl,List.nodup_nil,ψ,Below.refl _ _,ψ,ψ,ψ,ψ,ψ,ψ,ψ,ψ,ψ,ψ,ψ,ψ⟩
def awU (f:Nat->Value) (i:Nat) (v:Value) (j:Nat):Value:=if j=i then v else f j
theorem Xsn (f:Nat->Value) (i:Nat) (v:Value):awU f i v i=v:=if_pos rfl
theorem X1g (h:j≠i):awU f i v j=f j:=if_neg h
theorem Xsg (h:j∈i::done) (hn:j≠i):j∈done:=by
 rcases List.mem_cons.1 h with h|h
 ·exact absurd h hn
 ·exact h
theorem AwI.next {w':World} (h:AwI sl T K sch A a0 done a w f) (hi:i∉done) (hm:i∈[0,2,3,4,5,6,7,8,9,10,11]) (v:Value) (hb:Below w.heap.size w w') (h9:i≠9:=by decide)
  (n0:i=0->∃ fa fc qa qc,v=.agg #[σ fa adC.fields.length fc,ι 1,σ qa adC.funcs.length qc]/\Yj w'.heap.size w' v adC:=by intro h;cases h)
  (n2:i=2->∃ la lc,v=σ la 4 lc/\Xf w'.heap.size w' 1 Zd v sch:=by intro h;cases h)
  (n3:i=3->X23 T K v w':=by intro h;cases h) (n4:i=4->v=f 3/\3∈done:=by intro h;cases h) (n5:i=5->3∈done/\∃ x y,f 3=.tuple #[v,x,y]:=by intro h;cases h) (n6:i=6->v=ι 4:=by intro h;cases h) (n7:i=7->v=ι 0:=by intro h;cases h)
  (n8:i=8->∃ bo,v=.pointer (some (π bo 0))/\A.heap.size<=bo/\9∉done/\w'.heap[bo]?=some (χ Bz 34 (0,0)):=by intro h;cases h) (n10:i=10->v=ι 4:=by intro h;cases h) (n11:i=11->v=ι 0:=by intro h;cases h):AwI sl T K sch A a0 (i::done) (a.put (sl i) v) w' (awU f i v):=by
 have aA:∀ j,j∈done->awU f i v j=f j:=fun j hj=>X1g (fun e=>hi (by rw [<-e];exact hj))
 have aB:9∈i::done->9∈done:=fun hj=>Xsg hj (Ne.symm h9)
 refine ⟨?_,List.nodup_cons.2 ⟨hi,h.nd⟩,fun j hj=>?_,h.below.trans (hb.mono h.below.size),fun hj h3=>?_,fun hj h3=>?_,fun hj=>?_,fun hj=>?_,fun hj=>?_,fun hj=>?_,fun hj=>?_,fun hj=>?_,fun hj=>?_,fun hj=>?_,fun hj=>List.mem_cons_of_mem _ (h.d9 (aB hj)),fun hj=>List.mem_cons_of_mem _ (h.d8 (aB hj))⟩
 ·show _=(Xtx a0 sl (awU f i v) done).put (sl i) (awU f i v i)
  rw [Xsn,Xu0 (l:=done) (g:=f) aA,<- h.act]
 ·rcases List.mem_cons.1 hj with rfl|hj
  ·exact hm
  ·exact h.sub j hj
 ·by_cases e:i=0
  ·subst e;rw [Xsn];exact n0 rfl
  ·have hj:=Xsg hj (Ne.symm e)
   obtain ⟨fa,fc,qa,qc,h1,h2⟩:=h.c0 hj (fun k=>h3 (List.mem_cons_of_mem _ k))
   rw [aA 0 hj]
   exact ⟨fa,fc,qa,qc,h1,(h2.below hb).up hb.size⟩
 ·by_cases e:i=2
  ·subst e;rw [Xsn];exact n2 rfl
  ·have hj:=Xsg hj (Ne.symm e)
   obtain ⟨la,lc,h1,h2⟩:=h.c2 hj (fun k=>h3 (List.mem_cons_of_mem _ k))
   rw [aA 2 hj]
   exact ⟨la,lc,h1,(h2.ints hb).upI hb.size⟩
 ·by_cases e:i=3
  ·subst e;rw [Xsn];exact n3 rfl
  ·have hj:=Xsg hj (Ne.symm e)
   rw [aA 3 hj]
   obtain ⟨g,o,gc,ma,mc,ra,rc,na,nc,ca,cc,oa,oc,ba,bc,ea,ec,h1,h2⟩:=h.c3 hj
   exact ⟨g,o,gc,ma,mc,ra,rc,na,nc,ca,cc,oa,oc,ba,bc,ea,ec,h1,Xc hb h2⟩
 ·by_cases e:i=4
  ·subst e
   have hk:=n4 rfl
   rw [Xsn,aA 3 hk.2]
   exact ⟨hk.1,List.mem_cons_of_mem _ hk.2⟩
  ·have hj:=Xsg hj (Ne.symm e)
   have hk:=h.c4 hj
   rw [aA 4 hj,aA 3 hk.2]
   exact ⟨hk.1,List.mem_cons_of_mem _ hk.2⟩
 ·by_cases e:i=5
  ·subst e
   have hk:=n5 rfl
   rw [Xsn,aA 3 hk.1]
   exact ⟨List.mem_cons_of_mem _ hk.1,hk.2⟩
  ·have hj:=Xsg hj (Ne.symm e)
   have hk:=h.c5 hj
   rw [aA 5 hj,aA 3 hk.1]
   exact ⟨List.mem_cons_of_mem _ hk.1,hk.2⟩
 ·by_cases e:i=6
  ·subst e;rw [Xsn];exact n6 rfl
  ·have hj:=Xsg hj (Ne.symm e);rw [aA 6 hj];exact h.c6 hj
 ·by_cases e:i=7
  ·subst e;rw [Xsn];exact n7 rfl
  ·have hj:=Xsg hj (Ne.symm e);rw [aA 7 hj];exact h.c7 hj
 ·by_cases e:i=8
  ·subst e
   obtain ⟨bo,h1,h2,h3,h4⟩:=n8 rfl
   rw [Xsn]
   exact ⟨bo,h1,h2,fun _=>h4,fun k=>absurd (aB k) h3⟩
  ·have hj:=Xsg hj (Ne.symm e)
   obtain ⟨bo,h1,h2,h3,h4⟩:=h.c8 hj
   rw [aA 8 hj]
   refine ⟨bo,h1,h2,fun k=>?_,fun k=>?_⟩
   ·have h5:=h3 (fun k'=>k (List.mem_cons_of_mem _ k'))
    exact (hb.block bo (La h5)).trans h5
   ·obtain ⟨vs,h5,h6⟩:=h4 (aB k)
    rw [aA 5 (h.d9 (aB k))]
    exact ⟨vs,h5,(hb.block bo (La h6)).trans h6⟩
 ·by_cases e:i=10
  ·subst e;rw [Xsn];exact n10 rfl
  ·have hj:=Xsg hj (Ne.symm e);rw [aA 10 hj];exact h.c10 hj
 ·by_cases e:i=11
  ·subst e;rw [Xsn];exact n11 rfl
  ·have hj:=Xsg hj (Ne.symm e);rw [aA 11 hj];exact h.c11 hj
theorem X2y {b o:Nat} (h:w.heap[b]?=some (χ Bz 34 (0,0))) (hc:w.cell? (π b o)=some (ι K)):K=0:=by
 rw [cell_of_row _ _ _ _ _ _ h] at hc
 match o,hc with
 | 0,hc=>cases hc
 | 1,hc=>cases hc
 | 2,hc=>cases hc;rfl
 | 3,hc=>cases hc
 | 4,hc=>cases hc
 | 5,hc=>cases hc
 | 6,hc=>cases hc
 | 7,hc=>cases hc
 | 8,hc=>cases hc
 | 9,hc=>cases hc;rfl
 | o+10,hc=>cases hc
theorem AwI.store (h:AwI sl T K sch A a0 done a w f) (hK:K≠0) (hi:9∉done) (h8:8∈done) (h5:5∈done) (h3:3∈done):∃ (g o gc:Nat) (ma:Option Addr) (mc:Nat) (ra:Option Addr) (rc:Nat) (na:Option Addr) (nc:Nat) (ca:Option Addr) (cc:Nat) (oa:Option Addr) (oc:Nat) (ba:Option Addr) (bc:Nat) (ea:Option Addr) (ec bo:Nat),f 8=.pointer (some (π bo 0))/\f 5=.agg #[σ (some (π g o)) T.mem.globals.length gc,σ ma T.mem.nodes.length mc,ι T.fuel,σ ra T.running.length rc,σ na T.nodes.length nc,σ ca T.calls.length cc,σ oa T.results.length oc,σ ba T.begins.length bc,σ ea T.ends.length ec,ι T.step]/\w.heap[bo]?=some (χ Bz 34 (0,0))/\
  ∀ v,AwI sl T K sch A a0 (9::done) (a.put (sl 9) v) (Xr6 w bo (σ (some (π g o)) T.mem.globals.length gc) (σ ma T.mem.nodes.length mc) (ι T.fuel) (σ ra T.running.length rc) (σ na T.nodes.length nc) (σ ca T.calls.length cc) (σ oa T.results.length oc) (σ ba T.begins.length bc) (σ ea T.ends.length ec) (ι T.step)) (awU f 9 v):=by
 obtain ⟨g,o,gc,ma,mc,ra,rc,na,nc,ca,cc,oa,oc,ba,bc,ea,ec,e3,hc⟩:=h.c3 h3
 obtain ⟨-,x,y,e5⟩:=h.c5 h5
 obtain ⟨bo,e8,hA,aB,-⟩:=h.c8 h8
 have aB:=aB hi
 rw [e3] at e5
 have aC:f 5=.agg #[σ (some (π g o)) T.mem.globals.length gc,σ ma T.mem.nodes.length mc,ι T.fuel,σ ra T.running.length rc,σ na T.nodes.length nc,σ ca T.calls.length cc,σ oa T.results.length oc,σ ba T.begins.length bc,σ ea T.ends.length ec,ι T.step]:=by
  have:=(Value.tuple.inj e5)
  have:=congrArg (fun q:Array Value=>q[0]?) this
  simpa using this.symm
 refine ⟨g,o,gc,ma,mc,ra,rc,na,nc,ca,cc,oa,oc,ba,bc,ea,ec,bo,e8,aC,aB,fun v=>?_⟩
 have aA:∀ j,j∈done->awU f 9 v j=f j:=fun j hj=>X1g (fun e=>hi (by rw [<-e];exact hj))
 have aF:=(La aB)
 have hP:Chg (fun t=>t=1) (fun b=>if b=bo then 1 else 0) (fun b=>if b=bo then 1 else 0) w (Xr6 w bo (σ (some (π g o)) T.mem.globals.length gc) (σ ma T.mem.nodes.length mc) (ι T.fuel) (σ ra T.running.length rc) (σ na T.nodes.length nc) (σ ca T.calls.length cc) (σ oa T.results.length oc) (σ ba T.begins.length bc) (σ ea T.ends.length ec) (ι T.step)):=Xs2 (if_pos rfl) ω
 have aE:=V4 aB (σ (some (π g o)) T.mem.globals.length gc) (σ ma T.mem.nodes.length mc) (ι T.fuel) (σ ra T.running.length rc) (σ na T.nodes.length nc) (σ ca T.calls.length cc) (σ oa T.results.length oc) (σ ba T.begins.length bc) (σ ea T.ends.length ec) (ι T.step)
 have aD:g≠bo:=fun e=>hK (X2y aB (by rw [<-e];exact hc))
 refine ⟨?_,List.nodup_cons.2 ⟨hi,h.nd⟩,fun j hj=>?_,h.below.trans (hP.below (fun b hb=>if_neg ω) h.below.size),fun _ k=>absurd (List.mem_cons_of_mem _ h3) k,fun _ k=>absurd (List.mem_cons_of_mem _ h3) k,fun _=>?_,fun hj=>?_,fun hj=>?_,fun hj=>?_,fun hj=>?_,fun hj=>?_,fun hj=>?_,fun hj=>?_,fun _=>List.mem_cons_of_mem _ h5,fun _=>List.mem_cons_of_mem _ h8⟩
 ·show _=(Xtx a0 sl (awU f 9 v) done).put (sl 9) (awU f 9 v 9)
  rw [Xsn,Xu0 (l:=done) (g:=f) aA,<- h.act]
 ·rcases List.mem_cons.1 hj with rfl|hj
  ·decide
  ·exact h.sub j hj
 ·rw [aA 3 h3]
  exact ⟨g,o,gc,ma,mc,ra,rc,na,nc,ca,cc,oa,oc,ba,bc,ea,ec,e3,hP.cell hc (by show ¬(if g=bo then 1 else 0)=1;rw [if_neg aD];decide)⟩
 ·have hj:=Xsg hj δ
  have hk:=h.c4 hj
  rw [aA 4 hj,aA 3 hk.2]
  exact ⟨hk.1,List.mem_cons_of_mem _ hk.2⟩
 ·have hj:=Xsg hj δ
  have hk:=h.c5 hj
  rw [aA 5 hj,aA 3 hk.1]
  exact ⟨List.mem_cons_of_mem _ hk.1,hk.2⟩
 ·have hj:=Xsg hj δ;rw [aA 6 hj];exact h.c6 hj
 ·have hj:=Xsg hj δ;rw [aA 7 hj];exact h.c7 hj
 ·rw [aA 8 h8]
  refine ⟨bo,e8,hA,fun k=>absurd (List.mem_cons_self ..) k,fun _=>⟨_,?_,aE⟩⟩
  rw [aA 5 h5];exact aC
 ·have hj:=Xsg hj δ;rw [aA 10 hj];exact h.c10 hj
 ·have hj:=Xsg hj δ;rw [aA 11 hj];exact h.c11 hj
theorem AwI.full (h:AwI sl T K sch A a0 done a w f) (hall:∀ i∈[0,2,3,4,5,6,7,8,9,10,11],i∈done) (hinj:∀ i∈[0,2,3,4,5,6,7,8,9,10,11],∀ j∈[0,2,3,4,5,6,7,8,9,10,11],∀ d,sl i=some d->sl j=some d->i=j) :
  a=Xtx a0 sl f [11,10,9,8,7,6,5,4,3,2,0]/\Below A.heap.size A w/\∃ (g o gc:Nat) (ma:Option Addr) (mc:Nat) (ra:Option Addr) (rc:Nat) (na:Option Addr) (nc:Nat) (ca:Option Addr) (cc:Nat) (oa:Option Addr) (oc:Nat) (ba:Option Addr) (bc:Nat) (ea:Option Addr) (ec bo:Nat),f 8=.pointer (some (π bo 0))/\f 10=ι 4/\f 11=ι 0/\w.heap[bo]?=some (χ #[σ (some (π g o)) T.mem.globals.length gc,σ ma T.mem.nodes.length mc,ι T.fuel,σ ra T.running.length rc,σ na T.nodes.length nc,σ ca T.calls.length cc,σ oa T.results.length oc,σ ba T.begins.length bc,σ ea T.ends.length ec,ι T.step] 34 (0,0))/\w.cell? (π g o)=some (ι K):=by
 refine ⟨?_,h.below,?_⟩
 ·rw [h.act]
  exact X0s h.nd δ (fun i hi=>by have:=h.sub i hi;simp only [List.mem_cons,List.mem_nil_iff,or_false] at this ⊢;omega) (fun i hi=>hall i (by simp only [List.mem_cons,List.mem_nil_iff,or_false] at hi ⊢;omega)) (fun i hi j hj=>hinj i (by simp only [List.mem_cons,List.mem_nil_iff,or_false] at hi ⊢;omega) j (by simp only [List.mem_cons,List.mem_nil_iff,or_false] at hj ⊢;omega))
 ·obtain ⟨g,o,gc,ma,mc,ra,rc,na,nc,ca,cc,oa,oc,ba,bc,ea,ec,e3,hc⟩:=h.c3 (hall 3 δ)
  obtain ⟨-,x,y,e5⟩:=h.c5 (hall 5 δ)
  obtain ⟨bo,e8,-,-,aA⟩:=h.c8 (hall 8 δ)
  obtain ⟨vs,k5,aA⟩:=aA (hall 9 δ)
  rw [e3] at e5
  have aB:f 5=.agg #[σ (some (π g o)) T.mem.globals.length gc,σ ma T.mem.nodes.length mc,ι T.fuel,σ ra T.running.length rc,σ na T.nodes.length nc,σ ca T.calls.length cc,σ oa T.results.length oc,σ ba T.begins.length bc,σ ea T.ends.length ec,ι T.step]:=by
   have:=(Value.tuple.inj e5)
   have:=congrArg (fun q:Array Value=>q[0]?) this
   simpa using this.symm
  rw [aB] at k5
  cases k5
  exact ⟨g,o,gc,ma,mc,ra,rc,na,nc,ca,cc,oa,oc,ba,bc,ea,ec,bo,e8,h.c10 (hall 10 δ),h.c11 (hall 11 δ),aA,hc⟩
def Xui (l:List Ins):List Value:=l.flatMap (fun x=>[ι x.op,ι x.a])
theorem Xwe:∀ {l:List Ins} {i:Nat} {x:Ins},l[i]?=some x->(Xui l)[i*2]?=some (ι x.op)/\(Xui l)[i*2+1]?=some (ι x.a)
 | [],_,_,h=>by simp at h
 | y::l,0,x,h=>by
  simp at h
  subst h
  simp [Xui]
 | y::l,i+1,x,h=>by
  obtain ⟨h1,h2⟩:=Xwe (l:=l) (i:=i) (x:=x) (by simpa using h)
  have e:Xui (y::l)=[ι y.op,ι y.a]++Xui l:=rfl
  rw [e]
  refine ⟨?_,?_⟩
  ·rw [show (i+1)*2=i*2+1+1 by omega];simpa using h1
  ·rw [show (i+1)*2+1=(i*2+1)+1+1 by omega];simpa using h2
def X00 (w:World) (e:Ending) (w':World):Prop:=∃ (fa qa:Option Addr) (fc qc:Nat),e=.returned (.agg #[σ fa adC.fields.length fc,ι 1,σ qa adC.funcs.length qc])/\Yj w'.heap.size w' (.agg #[σ fa adC.fields.length fc,ι 1,σ qa adC.funcs.length qc]) adC/\Below w.heap.size w w'
theorem Xvs (w:World):Calls Tryz.prog 33 #[] w (X00 w):=by
 obtain ⟨W,hW⟩:∃ W,W=((w.alloc (χ #[ν,ι 1,σ (some (π (w.heap.size+1+1) 0)) 1 1] 25)).alloc (χ #[ι 13,ι 0,ι 4,ι 0,ι 1,ι 1,ι 15,ι 0,ι 5,ι 0,ι 10,ι 0] 124)).alloc (χ #[.string ⟨#[97,100,100]⟩,ι 0,ι 0,.bool false,σ (some (π (w.heap.size+1) 0)) 6 6] 93):=⟨_,rfl⟩
 have aD:Hid (Below w.heap.size w W):=by rw [hW];exact Lh (((Xa _ _).then (Xa _ _)).then (Xa _ _))
 have aC:Hid (W.heap.size=w.heap.size+3):=by rw [hW];exact Lh ψ
 have h0:Hid (W.heap[w.heap.size]?=some (χ #[ν,ι 1,σ (some (π (w.heap.size+1+1) 0)) 1 1] 25 (0,0))):=Lh (by
  rw [hW,Ha _ _ _ φ,Ha _ _ _ ψ]
  exact Hn _ _)
 have h1:Hid (W.heap[w.heap.size+1]?=some (χ #[ι 13,ι 0,ι 4,ι 0,ι 1,ι 1,ι 15,ι 0,ι 5,ι 0,ι 10,ι 0] 124 (0,0))):=Lh (by
  rw [hW,Ha _ _ _ ψ]
  have:=Hn (w.alloc (χ #[ν,ι 1,σ (some (π (w.heap.size+1+1) 0)) 1 1] 25)) (χ #[ι 13,ι 0,ι 4,ι 0,ι 1,ι 1,ι 15,ι 0,ι 5,ι 0,ι 10,ι 0] 124)
  rw [show (w.alloc (χ #[ν,ι 1,σ (some (π (w.heap.size+1+1) 0)) 1 1] 25)).heap.size=w.heap.size+1 by simp] at this
  exact this)
 have h2:Hid (W.heap[w.heap.size+1+1]?=some (χ #[.string ⟨#[97,100,100]⟩,ι 0,ι 0,.bool false,σ (some (π (w.heap.size+1) 0)) 6 6] 93 (0,0))):=Lh (by
  rw [hW]
  have:=Hn ((w.alloc (χ #[ν,ι 1,σ (some (π (w.heap.size+1+1) 0)) 1 1] 25)).alloc (χ #[ι 13,ι 0,ι 4,ι 0,ι 1,ι 1,ι 15,ι 0,ι 5,ι 0,ι 10,ι 0] 124)) (χ #[.string ⟨#[97,100,100]⟩,ι 0,ι 0,.bool false,σ (some (π (w.heap.size+1) 0)) 6 6] 93)
  rw [show ((w.alloc (χ #[ν,ι 1,σ (some (π (w.heap.size+1+1) 0)) 1 1] 25)).alloc (χ #[ι 13,ι 0,ι 4,ι 0,ι 1,ι 1,ι 15,ι 0,ι 5,ι 0,ι 10,ι 0] 124)).heap.size=w.heap.size+1+1 by simp] at this
  exact this)
 have hC:Hid (Yj W.heap.size W (.agg #[ν,ι 1,σ (some (π (w.heap.size+1+1) 0)) 1 1]) adC):=Lh (by
  refine ⟨_,_,rfl,⟨none,0,rfl,by simp [adC],by simp [adC],ω,.inl rfl⟩,⟨_,1,rfl,by simp [adC],by simp [adC],ω,.inr ⟨_,0,rfl,by have:=aC.o;omega,fun i x hx=>?_⟩⟩,by simp [adC,in64]⟩
  have aA:∀ (j:Nat) v,(#[.string ⟨#[97,100,100]⟩,ι 0,ι 0,.bool false,σ (some (π (w.heap.size+1) 0)) 6 6]:Array Value)[j]?=some v->W.cell? (π (w.heap.size+1+1) j)=some v:=fun j v hv=>by rw [cell_of_row _ _ _ _ _ _ h2.o];exact hv
  have aB:∀ (j:Nat) v,(#[ι 13,ι 0,ι 4,ι 0,ι 1,ι 1,ι 15,ι 0,ι 5,ι 0,ι 10,ι 0]:Array Value)[j]?=some v->W.cell? (π (w.heap.size+1) j)=some v:=fun j v hv=>by rw [cell_of_row _ _ _ _ _ _ h1.o];exact hv
  match i,hx with
  | 0,hx=>
   obtain rfl:x=adF:=by simpa [adC] using hx.symm
   refine ⟨aA 0 _ rfl,aA 1 _ rfl,aA 2 _ rfl,aA 3 _ rfl,⟨_,aA 4 _ rfl,⟨_,6,rfl,by simp [adF],by simp [adF],ω,.inr ⟨_,0,rfl,by have:=aC.o;omega,fun k y hy=>?_⟩⟩⟩,δ,by simp [adF,in64],by simp [adF,in64]⟩
   obtain ⟨k1,k2⟩:=Xwe hy
   have e:Xui adF.code=(#[ι 13,ι 0,ι 4,ι 0,ι 1,ι 1,ι 15,ι 0,ι 5,ι 0,ι 10,ι 0]:Array Value).toList:=rfl
   rw [e] at k1 k2
   rw [Nat.zero_add]
   refine ⟨aB _ _ (by simpa using k1),aB _ _ (by simpa using k2),?_⟩
   have hm:=Lm hy
   simp only [adF,List.mem_cons,List.not_mem_nil,or_false] at hm
   rcases hm with rfl|rfl|rfl|rfl|rfl|rfl<;>simp [in64]
  | i+1,hx=>simp [adC] at hx)
 have hP:Hid (X00 w (.returned (.agg #[ν,ι 1,σ (some (π (w.heap.size+1+1) 0)) 1 1])) W):=Lh ⟨none,_,0,1,rfl,hC.o,aD.o⟩
 have c0:=Cw h0.o 0 rfl
 have c1:=Cw h0.o 1 rfl
 have c2:=Cw h0.o 2 rfl
 go_enter Tryz.func33,Tryz.ntmps33
 go_wp2_with fail
 rw [<-hW]
 exact bodyPost_ret (v:=.agg #[ν,ι 1,σ (some (π (w.heap.size+1+1) 0)) 1 1]) (by simp [results,Tryz.results33,go_sem,c0,c1,c2]) rfl hP.o
