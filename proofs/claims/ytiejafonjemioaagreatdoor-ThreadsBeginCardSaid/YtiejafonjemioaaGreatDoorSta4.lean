import Derived.Test.YtiejafonjemioaaGreatDoorRun8
set_option maxHeartbeats 8000000
set_option maxRecDepth 100000
set_option linter.unusedVariables false
set_option linter.unusedSimpArgs false
open Go.Value renaming slice→σ
open Go.Obj renaming cells→χ
namespace Go.Proofs.YtiejafonjemioaaGreatDoor
open Go.RowKit
theorem Xb2:Zn 168:=fun _ _=>by kernel_rfl
theorem Xaq:Zn 136:=fun _ _=>by kernel_rfl
theorem Xeg (nm nm2:ByteArray) (p l r c:Value) (b:Nat) (w:World) (hb:b<w.heap.size) (h:w.cell? (π b 0)=some (.string nm2)) :
  Calls Tryz.prog 168 #[.agg #[.string nm,p,l,r,c],.pointer (some (π b 0))] w fun e w'=>e=.returned (.bool (Zt nm nm2))/\Below w.heap.size w w':=by
 have h':(w.alloc (χ #[.string nm,p,l,r,c] 93)).cell? (π b 0)=some (.string nm2):=by rw [World.cell?_alloc_past _ _ _ hb];exact h
 go_enter Tryz.func168,Tryz.ntmps168
 go_wp2
 go_ret
 exact ⟨rfl,Br.alloc (Nr _) _⟩
theorem Xgj (nm:ByteArray) (b:Nat) (B:Nat) (w:World) (hb:b<w.heap.size) (h:w.cell? (π b 0)=some (.string nm)):∀ (x:Fun) (w1:World) (av:Value),Below w.heap.size w w1->J4 B w1 av x->Calls Tryz.prog 168 (#[av]++#[.pointer (some (π b 0))]) w1 (fun e w2=>e=.returned (.bool (Zt x.name nm))/\Below w1.heap.size w1 w2):=by
 rintro x w1 av aA ⟨cv,rfl,_⟩
 exact Xeg x.name nm _ _ _ _ b w1 (by have:=aA.size;omega) (by rw [aA.cell (p:=(π b 0)) hb];exact h)
theorem Xj7 (n:Int) (w:World) :
  Calls Tryz.prog 136 #[ι n] w fun e w'=>e=.returned (.bool (!X1 n))/\w=w':=by
 go_enter Tryz.func136,Tryz.ntmps136
 go_wp2_with (go_at_call 137;refine (Yy n _).mono ?_;rintro e w' ⟨rfl,rfl⟩)
 go_ret
 exact ⟨rfl,rfl⟩
theorem Xe6 (w:World):∀ (x:Int) (w1:World) (av:Value),Below w.heap.size w w1->Xlj 0 w1 av x->Calls Tryz.prog 136 (#[av]++#[]) w1 (fun e w2=>e=.returned (.bool (!X1 x))/\Below w1.heap.size w1 w2):=by
 rintro x w1 av _ ⟨rfl,_⟩
 exact (Xj7 x w1).mono fun e w2 ⟨he,hw⟩=>⟨he,hw▸Below.refl _ _⟩
theorem Ky (c:Cod) (cv:Value) (nm:ByteArray) (B:Nat) (w:World) (hB:B<=w.heap.size) (hc:Yj B w cv c) :
  Calls Tryz.prog 135 #[cv,.string nm] w fun e w'=>e=.returned (ι (Q8 c nm))/\Below w.heap.size w w':=by
 have aM:∀ (fn:Fn) (first cap:Array Value) (w:World),(Instr.makeFunc fn first cap).run Tryz.prog w=.ok (.func fn first cap) w:=fun _ _ _ _=>rfl
 obtain ⟨fv,gv,rfl,hf,hg,aL⟩:=hc
 have HG:=Lh hg
 obtain ⟨fa,aB,rfl,aK,_,_,_⟩:=hf
 obtain ⟨ga,aC,rfl,aH,aI,aJ,aG⟩:=hg
 obtain ⟨W,hW⟩:∃ W,W=(w.alloc (χ (Bc fa aB ga aC c) 25)).alloc (χ #[.string nm] 9):=⟨_,rfl⟩
 have aD:Hid (Below w.heap.size w W):=by rw [hW];exact (Xa _ _).then (Xa _ _)
 have aA:Hid (W.cell? (π (w.heap.size+1) 0)=some (.string nm)):=by rw [hW];refine Lh ?_;go_simp
 have aF:=Lh (HG.o.funs (aD.o.mono hB))
 have aE:Hid (W.heap.size=w.heap.size+2):=by rw [hW];exact Lh ψ
 clear aG
 go_enter Tryz.func135,Tryz.ntmps135
 go_wp2_with fail
 rw [<-hW]
 have HW:=Lh hW
 clear hW
 refine (Xae 168 #[.pointer (some (π (w.heap.size+1) 0))] (fun f=>Zt f.name nm) c.funcs _ B _ Xb2 (by have:=aE.o;omega) aF.o (Xgj nm _ B _ (by have:=aE.o;omega) aA.o)).mono ?_
 rintro e w' ⟨rfl,hb⟩
 go_wp2
 go_ret
 exact ⟨rfl,aD.o.then hb⟩
def Qn (c:Cod) (x:Cal) (fuel:Int) (w:World) (e:Ending) (w':World):Prop:=
 (Yd c x fuel≠0/\e=.returned (.tuple #[Xi ν Xl,ι (Yd c x fuel)])/\Below w.heap.size w w')\/
 (Yd c x fuel=0/\∃ m' fv,Zm c (Zo c x fuel) m'/\e=.returned (.tuple #[Xi fv m',ι 0])/\Qq w fv m' w')
theorem Xg4 (c:Cod) (x:Cal) (fuel:Int) (fa ga xa:Option Addr) (fn fc gn gc xn xc:Nat) (g:Int) (w:World) (hf:fuel<0\/1048576<fuel) :
  Calls Tryz.prog 107 #[.agg #[σ fa fn fc,ι g,σ ga gn gc],.agg #[.string x.proc,σ xa xn xc],ι fuel] w (Qn c x fuel w):=by
 have hE:Hid (Yd c x fuel=2):=Lh (by unfold Yd;rw [if_pos hf])
 have aB:∀ w',Below w.heap.size w w'->Qn c x fuel w (.returned (.tuple #[Xi ν Xl,ι 2])) w':=fun w' hb=>.inl ⟨by rw [hE.o];decide,by rw [hE.o],hb⟩
 have aA:=Lh aB
 clear aB
 by_cases h0:fuel<0
 ·go_enter Tryz.func107,Tryz.ntmps107
  go_wp2
  exact bodyPost_ret (v:=.tuple #[Xi ν Xl,ι 2]) (by simp [results,Tryz.results107,go_sem,Xi,Xb,Xl]) rfl (aA.o _ (((Xa _ _).then (Xa _ _)).then (Xa _ _)))
 ·have h1:1048576<fuel:=ω
  have aC:decide (fuel<0)=false:=by simp;omega
  go_enter Tryz.func107,Tryz.ntmps107
  go_wp2
  exact bodyPost_ret (v:=.tuple #[Xi ν Xl,ι 2]) (by simp [results,Tryz.results107,go_sem,Xi,Xb,Xl]) rfl (aA.o _ (((Xa _ _).then (Xa _ _)).then (Xa _ _)))
def Xwi (w:World) (b:Nat):Prop:=w.heap[b]?=some (χ #[ν,ι 0,ι 0,ι 0,ι 0,ι 0,ι 0,ι 0,ι 0] 51 (0,0))
theorem Xwi.look {w:World} {b:Nat} (h:Xwi w b):(w.cell? (π b 0)=some ν/\w.cell? (π b 1)=some (ι 0)/\w.cell? (π b 2)=some (ι 0)/\w.cell? (π b 3)=some (ι 0)/\w.cell? (π b 4)=some (ι 0)/\w.cell? (π b 5)=some (ι 0)/\w.cell? (π b 6)=some (ι 0)/\w.cell? (π b 7)=some (ι 0)/\w.cell? (π b 8)=some (ι 0))/\
  (w.frozen? (π b 0)=false/\w.frozen? (π b 1)=false/\w.frozen? (π b 2)=false/\w.frozen? (π b 3)=false/\w.frozen? (π b 4)=false/\w.frozen? (π b 5)=false/\w.frozen? (π b 6)=false/\w.frozen? (π b 7)=false/\w.frozen? (π b 8)=false)/\b<w.heap.size:=
 ⟨⟨Cr h rfl,Cr h rfl,Cr h rfl,Cr h rfl,Cr h rfl,Cr h rfl,Cr h rfl,Cr h rfl,Cr h rfl⟩,⟨Fz h,Fz h,Fz h,Fz h,Fz h,Fz h,Fz h,Fz h,Fz h⟩,(La h)⟩
theorem Xwi.keep {w w':World} {b:Nat} (h:Xwi w b) (hb:Below w.heap.size w w'):Xwi w' b:=(hb.block _ (La h)).trans h
theorem X4k (w:World) (l k:List Value) (t u:TypeId) {W:World} (hW:W=((w.alloc (χ l.toArray t)).alloc (χ k.toArray u)).alloc (χ #[ν,ι 0,ι 0,ι 0,ι 0,ι 0,ι 0,ι 0,ι 0] 51)):Below w.heap.size w W/\W.heap.size=w.heap.size+3/\Xo W w.heap.size l/\Xo W (w.heap.size+1) k/\Xwi W (w.heap.size+1+1):=by
 subst hW
 refine ⟨((Xa _ _).then (Xa _ _)).then (Xa _ _),ψ,Xd.alloc _ |>.alloc _,?_,?_⟩
 ·have:=(@Xd (w.alloc (χ l.toArray t)) k.toArray u).alloc (χ #[ν,ι 0,ι 0,ι 0,ι 0,ι 0,ι 0,ι 0,ι 0] 51)
  simpa using this
 ·have:=Hn ((w.alloc (χ l.toArray t)).alloc (χ k.toArray u)) (χ #[ν,ι 0,ι 0,ι 0,ι 0,ι 0,ι 0,ι 0,ι 0] 51)
  rw [show ((w.alloc (χ l.toArray t)).alloc (χ k.toArray u)).heap.size=w.heap.size+1+1 by simp] at this
  exact this
theorem Xny {w:World} {bl:Nat} {l:List Int} (h:w.heap[bl]?=some (χ (Xx l) 3 (0,0))) (hl:l.length<=1000000) (h64:∀ n∈l,in64 n):Yv w (σ (some (π bl 0)) l.length l.length) l [bl]:=
 ⟨⟨ψ,.inr ⟨bl,l.length,Xx l,rfl,Nat.zero_le _,h,Nr _,by unfold maxLen;omega,by simp [Xx],by simp only [Xx,Nat.mul_one];exact List.take_of_length_le ψ⟩⟩,rfl,h64⟩
theorem Xbt (b o j:Nat):((π b o):Addr).add j=(π b (o+j)):=by unfold Addr.add;split<;>simp_all
theorem Xlt {w:World} {bm fb bl:Nat} {m:Mch} {f:Fra} (hm:w.heap[bm]?=some (χ (Xb (σ (some (π fb 0)) 1 1) m) 51 (0,0))) (hf:w.heap[fb]?=some (χ #[ι f.fn,ι f.pc,σ (some (π bl 0)) f.locals.length f.locals.length,ν] 129 (0,0)))
  (hl:w.heap[bl]?=some (χ (Xx f.locals) 3 (0,0))) (hll:f.locals.length<=1000000) (h64:∀ n∈f.locals,in64 n) (hst:f.stack=[]) (h1:in64 f.fn) (h2:in64 f.pc) (hfr:m.frames=[f]) (n1:bm≠fb) (n2:bm≠bl) (n3:fb≠bl):X3 w bm m [bm,fb,bl]:=by
 refine Xt.2 ⟨_,[fb,bl],hm,⟨[ι f.fn,ι f.pc,σ (some (π bl 0)) f.locals.length f.locals.length,ν],[bl],?_,?_,rfl,by simp [n3]⟩,rfl,by simp [n1,n2]⟩
 ·rw [hfr]
  exact ⟨rfl,.inr ⟨fb,1,_,rfl,Nat.zero_le _,hf,Nr _,by unfold maxLen;omega,rfl,rfl⟩⟩
 ·rw [hfr]
  exact ⟨_,_,[],[bl],[],[],rfl,Xny hl hll h64,by rw [hst];exact ⟨World.ownsRow_nil _ _ _ _,rfl,ψ⟩,h1,h2,⟨rfl,rfl⟩,ψ⟩
theorem Xb5 (c:Cod) (x:Cal) (fuel:Int) (cv xv:Value) (B:Nat) (w:World) (hB:B<=w.heap.size) (hc:Yj B w cv c) (hx:J8 B w xv x) (hs:Xv c) (hsm:Zb c) :
  Calls Tryz.prog 107 #[cv,xv,ι fuel] w (Qn c x fuel w):=by
 have HC:=Lh hc
 obtain ⟨fv,gv,rfl,hf,hg,cD⟩:=hc
 obtain ⟨fa,fc,rfl⟩:=hf.form
 obtain ⟨ga,gc,rfl⟩:=hg.form
 obtain ⟨av,rfl,cI,fB⟩:=hx
 obtain ⟨xa,xc,rfl⟩:=cI.form
 have dE:=Lh hg
 have bV:=Lh cI
 obtain ⟨fn,dI⟩:∃ n,n=c.fields.length:=⟨_,rfl⟩
 obtain ⟨g,dK⟩:∃ n,n=c.globals:=⟨_,rfl⟩
 rw [<-dI,<- dK] at HC ⊢
 clear hf hg cI dI dK cD
 by_cases hr:fuel<0\/1048576<fuel
 ·exact Xg4 c x fuel fa ga xa _ fc _ gc _ xc _ w hr
 have hf:0<=fuel/\fuel<=1048576:=ω
 obtain ⟨W,hW⟩:∃ W,W=((w.alloc (χ #[σ fa fn fc,ι g,σ ga c.funcs.length gc] 25)).alloc (χ #[.string x.proc,σ xa x.args.length xc] 80)).alloc (χ #[ν,ι 0,ι 0,ι 0,ι 0,ι 0,ι 0,ι 0,ι 0] 51):=⟨_,rfl⟩
 obtain ⟨bN,bK,b0,b1,b2⟩:=X4k w [σ fa fn fc,ι g,σ ga c.funcs.length gc] [.string x.proc,σ xa x.args.length xc] 25 80 hW
 have bN:=Lh bN
 have bK:=Lh bK
 have b2:=Lh b2
 have dY:=Lh (HC.o.below (bN.o.mono hB))
 have aW:=Lh hf
 have eO:decide (fuel<0)=false:=by simp;omega
 have eP:decide (1048576<fuel)=false:=by simp;omega
 have dX:B<=W.heap.size:=by have:=bK.o;omega
 clear hr hf
 go_enter Tryz.func107,Tryz.ntmps107
 go_upto_region 3 with fail
 rw [<-hW]
 have HW:=Lh hW
 clear hW
 have i0:=b0 0 _ rfl
 have i1:=b0 1 _ rfl
 have i2:=b0 2 _ rfl
 have i3:=b1 0 _ rfl
 have i4:=b1 1 _ rfl
 have z0:w.heap.size<W.heap.size:=by have:=bK.o;omega
 have z1:w.heap.size+1<W.heap.size:=by have:=bK.o;omega
 clear b0 b1
 go_wp2_with fail
 refine (Ky c _ x.proc B W dX dY.o).mono ?_
 rintro e w1 ⟨rfl,aJ⟩
 have i0:=Xc aJ i0
 have i1:=Xc aJ i1
 have i2:=Xc aJ i2
 have i3:=Xc aJ i3
 have i4:=Xc aJ i4
 have z0:=Bl i0
 have z1:=Bl i3
 have r1:=Lh (b2.o.keep aJ)
 have aR:=Lh (bN.o.then aJ)
 clear aJ
 rcases Xca (fun f=>Zt f.name x.proc) c.funcs with hi|⟨k,hk,hi⟩
 ·have HE:Hid (Yd c x fuel=9):=Lh (by
   have:=aW.o
   unfold Yd
   rw [if_neg ω]
   cases c.funcs[(Q8 c x.proc).toNat]? with
   | none=>rfl
   | some y=>simp only [];rw [if_pos (by rw [show Q8 c x.proc = -1 from hi];omega)])
  rw [show Q8 c x.proc = -1 from hi]
  clear hi
  obtain ⟨⟨cK,cL,cM,cN,cO,cP,cQ,cR,cS⟩,⟨cT,cU,cV,cW,cX,cY,cZ,dA,dB⟩,rz⟩:=r1.o.look
  have aA:=Lh (Xz (R:=w.heap.size+1+1) (fv0:=ν) (m0:=Xl) (W:=w1) r1.o ν Xl)
  have aV:=Lh ((aR.o).trans (aA.o.2.below (fun b hb=>by simp at hb;omega) (aR.o).size))
  go_wp2
  exact bodyPost_ret (Y6 rfl aA.o.1 _ _ rfl rfl) rfl (.inl ⟨by rw [HE.o];decide,by rw [HE.o];rfl,aV.o⟩)
 have hi:Q8 c x.proc=k:=hi
 rw [hi]
 have HI:=Lh hi
 obtain ⟨y,hy⟩:∃ y,c.funcs[k]?=some y:=⟨_,Lg hk⟩
 have HY:=Lh hy
 obtain ⟨a0,bW,dH,eT,eU,eV,hE⟩:=dE.o
 obtain ⟨rfl,rfl⟩:ga=a0/\gc=bW:=by simpa using dH
 rcases hE with h0|⟨yb,yo,rfl,cJ,hE⟩
 ·rw [h0] at hk;simp at hk
 have bY:=(hE k y hy).below (aR.o.mono hB) cJ
 obtain ⟨a1,aM,bO,eE,eF,eG,bM⟩:=bV.o
 obtain ⟨rfl,rfl⟩:xa=a1/\xc=aM:=by simpa using bO
 have p1:=bY.2.1
 have p2:=bY.2.2.1
 have eI:=Bl p1
 have eQ:(0:Int)<=(k:Int):=In _
 have eR:(k:Int)<(c.funcs.length:Int):=ω
 have eS:decide ((k:Int)<0)=false:=by simp
 clear dH bO hE bM hi hy bY
 by_cases hl:(x.args.length:Int)=y.params
 rotate_left
 ·have HE:Hid (Yd c x fuel=3):=Lh (by
   have:=aW.o
   unfold Yd
   rw [if_neg ω,HI.o]
   simp only [Int.toNat_natCast,HY.o]
   rw [if_neg ω,if_pos hl])
  have eB:((x.args.length:Int) == y.params)=false:=by simp [hl]
  have cG:((x.args.length:Int) != y.params)=true:=by simp [hl]
  go_wp2_with fail
  go_quiet (fail)
  obtain ⟨⟨cK,cL,cM,cN,cO,cP,cQ,cR,cS⟩,⟨cT,cU,cV,cW,cX,cY,cZ,dA,dB⟩,rz⟩:=(show Xwi (w1.drewN nq) _ from r1.o).look
  have aA:=Lh (Xz (R:=w.heap.size+1+1) (fv0:=ν) (m0:=Xl) (W:=w1.drewN nq) r1.o ν Xl)
  have aV:=Lh ((Xh aR.o nq).trans (aA.o.2.below (fun b hb=>by simp at hb;omega) (Xh aR.o nq).size))
  go_wp2
  exact bodyPost_ret (Y6 rfl aA.o.1 _ _ rfl rfl) rfl (.inl ⟨by rw [HE.o];decide,by rw [HE.o];rfl,aV.o⟩)
 have eB:((x.args.length:Int) == y.params)=true:=by simp [hl]
 have cG:((x.args.length:Int) != y.params)=false:=by simp [hl]
 rw [<-hl] at p1
 have bS:=Lh hl
 clear hl
 go_wp2_with fail
 go_quiet (fail)
 have aL:=Lh (Xh aR.o nq)
 have eH:=Lh (bV.o.ints (aL.o.mono hB))
 go_wp2_with fail
 refine (Y3 136 #[] (fun n=>!X1 n) x.args _ B _ Xaq (Nt hB aL.o.size) eH.o (Xe6 _)).mono ?_
 rintro e w2 ⟨rfl,aE⟩
 have r2:=Lh ((show Xwi (w1.drewN nq) _ from r1.o).keep aE)
 have aS:=Lh (aL.o.then aE)
 have dU:=Lh (bV.o.ints (aS.o.mono hB))
 cases hv:x.args.any (fun n=>!X1 n) with
 | true=>
  have HE:Hid (Yd c x fuel=11):=Lh (by
   have:=aW.o
   unfold Yd
   rw [if_neg ω,HI.o]
   simp only [Int.toNat_natCast,HY.o]
   rw [if_neg ω,if_neg (by simp [bS.o]),if_pos hv])
  clear aE hv
  obtain ⟨⟨cK,cL,cM,cN,cO,cP,cQ,cR,cS⟩,⟨cT,cU,cV,cW,cX,cY,cZ,dA,dB⟩,rz⟩:=r2.o.look
  have aA:=Lh (Xz (R:=w.heap.size+1+1) (fv0:=ν) (m0:=Xl) (W:=w2) r2.o ν Xl)
  have aV:=Lh ((aS.o).trans (aA.o.2.below (fun b hb=>by simp at hb;omega) (aS.o).size))
  go_wp2
  exact bodyPost_ret (Y6 rfl aA.o.1 _ _ rfl rfl) rfl (.inl ⟨by rw [HE.o];decide,by rw [HE.o];rfl,aV.o⟩)
 | false=>
  have HE:Hid (Yd c x fuel=0):=Lh (by
   have:=aW.o
   unfold Yd
   rw [if_neg ω,HI.o]
   simp only [Int.toNat_natCast,HY.o]
   rw [if_neg ω,if_neg (by simp [bS.o]),if_neg (by simp [hv])])
  have hf:=aW.o
  have dJ:=hs.fok HY.o
  unfold Zr at dJ
  have hl:=bS.o
  obtain ⟨q,hq⟩:∃ q:Nat,y.locals=x.args.length+q:=⟨(y.locals - y.params).toNat,ω⟩
  have eC:Hid (Zo c x fuel=⟨[⟨(k:Int),0,x.args++List.replicate q 0,[]⟩],⟨0,0,0,0,0⟩,fuel,0,0⟩):=Lh (by
   unfold Zo
   rw [HI.o]
   simp only [Int.toNat_natCast,HY.o,Option.map_some,Option.getD_some]
   rw [show (y.locals - y.params).toNat=q by omega])
  have aI:∀ n∈x.args,isV n:=fun n hn=>by
   rw [List.any_eq_false] at hv
   have:=hv n hn
   simp at this
   exact Ye.1 this
  have aK:Hid (∀ n∈x.args++List.replicate q 0,isV n):=Lh (fun n hn=>by
   rw [List.mem_append,List.mem_replicate] at hn
   rcases hn with h|h
   ·exact aI n h
   ·rw [h.2];unfold isV;omega)
  have bF:Hid (Ja c ⟨[⟨(k:Int),0,x.args++List.replicate q 0,[]⟩],⟨0,0,0,0,0⟩,fuel,0,0⟩ [] ⟨(k:Int),0,x.args++List.replicate q 0,[]⟩):=Lh
   ⟨rfl,⟨y,⟨by show (0:Int)<=(k:Int);omega,by show c.funcs[(k:Int).toNat]?=some y;rw [Int.toNat_natCast];exact HY.o,by show (0:Int)<=0;omega,by show ((x.args++List.replicate q 0).length:Int)=y.locals;rw [List.length_append,List.length_replicate];omega,aK.o,ψ⟩,Reach.zero c y⟩,trivial,ψ,⟨hf.1,by show (0:Int)<=0;omega,by show (0:Int)<=100000;omega,by show (0:Int)<=0;omega,by show (0:Int)+(fuel*100001+(100000 - 0))<=_;omega⟩⟩
  obtain ⟨n,hn⟩:∃ n:Nat,n=x.args.length+q:=⟨_,rfl⟩
  have HN:=Lh hn
  have eJ:Hid (y.locals=(n:Int)):=Lh ω
  have eZ:n<=100:=ω
  clear hn
  clear hv hq aI hl hf dJ
  have dP:(w1.drewN nq).cell? _=_:=i2
  have dQ:(w1.drewN nq).cell? _=_:=i4
  have dR:(w1.drewN nq).cell? _=_:=p2
  have dN:(w1.drewN nq).cell? _=_:=i0
  have dO:(w1.drewN nq).cell? _=_:=i1
  have j0:=Xc aE dN
  have j1:=Xc aE dO
  have j2:=Xc aE dP
  have j4:=Xc aE dQ
  have s2:=Xc aE dR
  rw [eJ.o] at s2
  have eK:=Bl j2
  have eL:=Bl j4
  have fC:=Bl s2
  clear i0 i1 i2 i3 i4 p1 p2 dP dQ dR dN dO eI z0 z1 aE
  have eW:=fun W=>K7 W n ω
  go_upto_region 11 with fail
  obtain ⟨W3,bA⟩:∃ W,W=w2.alloc (χ (Xx (List.replicate n 0)) 3):=⟨_,rfl⟩
  obtain ⟨bl,aU⟩:∃ b,b=w2.heap.size:=⟨_,rfl⟩
  have aN:Hid (Below w2.heap.size w2 W3):=by rw [bA];exact Xa _ _
  have g3:Hid (W3.heap[bl]?=some (χ ((List.replicate n 0).map (Value.int .i64)).toArray 3 (0,0))):=by rw [bA,aU];exact Lh (Hn _ _)
  have dM:=dU.o.ints ((aN.o.mono (Nt hB aS.o.size)))
  have cH:Hid (0<(x.args.map (Value.int .i64)).length->some ((π bl 0):Addr)=some (π bl 0)/\∃ ad,xa=some ad/\∀ j v,(x.args.map (Value.int .i64))[j]?=some v->W3.cell? (ad.add j)=some v):=Lh (fun bI=>by
   obtain ⟨a1,aM,bO,_,_,_,bM⟩:=dM
   obtain ⟨rfl,rfl⟩:xa=a1/\xc=aM:=by simpa using bO
   rcases bM with h0|⟨xb,xo,rfl,_,bM⟩
   ·rw [h0] at bI;simp at bI
   ·refine ⟨rfl,_,rfl,fun j v hj=>?_⟩
    rw [List.getElem?_map] at hj
    cases hg:x.args[j]? with
    | none=>rw [hg] at hj;simp at hj
    | some u=>
     rw [hg] at hj
     simp at hj
     subst hj
     have:=(bM j u hg).1
     rw [Nat.mul_one] at this
     rw [Xbt]
     exact this)
  rw [<-bA,<- aU]
  have j0:=Xc aN.o j0
  have j1:=Xc aN.o j1
  have j2:=Xc aN.o j2
  have j4:=Xc aN.o j4
  have eK:=Bl j2
  have eL:=Bl j4
  have aQ:w.heap.size<bl:=by rw [aU];assumption
  have dZ:w.heap.size+1<bl:=by rw [aU];assumption
  have bG:(x.args.map (Value.int .i64)).length=Nat.min x.args.length n:=by have:=HN.o;rw [List.length_map];exact (Nat.min_eq_left ω).symm
  have bD:0+(x.args.map (Value.int .i64)).length<=((List.replicate n 0).map (Value.int .i64)).length:=by have:=HN.o;simp;omega
  have bH:∀ v∈x.args.map (Value.int .i64),v.oneCell'=true:=fun v hv=>by
   rw [List.mem_map] at hv
   obtain ⟨_,_,rfl⟩:=hv
   rfl
  have bR:=Lh bG
  have bQ:=Lh bD
  have bU:=Lh bH
  have eM:=Lh bA
  have bP:=Lh aU
  clear bA aU dM bG bD bH
  go_wp2_with (with_reducible refine wpList_copy_splice rfl (.tmp 50) (.tmp 52) 22 22 rfl 3 Tryz.underlying22 Xb7 (some (π bl 0)) xa n n x.args.length xc rfl rfl bl 0 ((List.replicate n 0).map (Value.int .i64)) 3 g3.o (x.args.map (Value.int .i64)) bR.o cH.o bQ.o bU.o bl W3 Br (Nr _) ?_;intro w4 cB bB;have m0:=(bB.cell (p:=(π w.heap.size 0)) aQ).trans j0;have m1:=(bB.cell (p:=(π w.heap.size 1)) aQ).trans j1;have m2:=(bB.cell (p:=(π w.heap.size 2)) aQ).trans j2;have dC:=Lh bB;have mz:=Bl m0;clear bB)
  have aC:Hid (w4.heap[bl]?=some (χ (Xx (x.args++List.replicate q 0)) 3 (0,0))):=by
   have h1:=cB.o
   have h2:splice ((List.replicate n 0).map (Value.int .i64)) 0 (x.args.map (Value.int .i64))=(x.args++List.replicate q 0).map (Value.int .i64):=by
    unfold splice
    rw [HN.o]
    simp
   rw [h2] at h1
   exact Lh h1
  have aX:Hid (Below w.heap.size w w4):=Lh ((aS.o.then aN.o).trans (dC.o.mono (by rw [bP.o];exact aS.o.size)))
  obtain ⟨W5,aT⟩:∃ W,W=(w4.alloc (χ #[ι (k:Int),ι 0,σ (some (π bl 0)) n n,ν] 129)).alloc (χ #[σ (some (π w4.heap.size 0)) 1 1,ι 0,ι 0,ι 0,ι 0,ι 0,ι fuel,ι 0,ι 0] 51):=⟨_,rfl⟩
  have aO:Hid (Below w4.heap.size w4 W5):=by rw [aT];exact (Xa _ _).then (Xa _ _)
  have dL:(x.args++List.replicate q 0).length=n:=by rw [List.length_append,List.length_replicate];exact HN.o.symm
  have bC:=(La aC.o)
  have dV:Hid (X3 W5 (w4.heap.size+1) ⟨[⟨(k:Int),0,x.args++List.replicate q 0,[]⟩],⟨0,0,0,0,0⟩,fuel,0,0⟩ [w4.heap.size+1,w4.heap.size,bl]):=Lh (Xlt (f:=⟨(k:Int),0,x.args++List.replicate q 0,[]⟩) (by
    rw [aT]
    have:=Hn (w4.alloc (χ #[ι (k:Int),ι 0,σ (some (π bl 0)) n n,ν] 129)) (χ #[σ (some (π w4.heap.size 0)) 1 1,ι 0,ι 0,ι 0,ι 0,ι 0,ι fuel,ι 0,ι 0] 51)
    rw [show (w4.alloc (χ #[ι (k:Int),ι 0,σ (some (π bl 0)) n n,ν] 129)).heap.size=w4.heap.size+1 by simp] at this
    exact this) (by
    show W5.heap[w4.heap.size]?=some (χ #[ι (k:Int),ι 0,σ (some (π bl 0)) (x.args++List.replicate q 0).length (x.args++List.replicate q 0).length,ν] 129 (0,0))
    rw [aT,dL,Ha _ _ _ ψ]
    exact Hn _ _) (by rw [aO.o.block bl bC];exact aC.o) (by show (x.args++List.replicate q 0).length<=_;omega) (fun n hn=>(aK.o n hn).in64) rfl ⟨by show (_:Int)<=(k:Int);omega,by show (k:Int)<=_;omega⟩ ⟨by show (_:Int)<=0;omega,by show (0:Int)<=_;omega⟩ rfl ω ω ω)
  have fA:w.heap.size<=bl:=ω
  have eD:=aX.o.size
  have cE:∀ b∈[w4.heap.size+1,w4.heap.size,bl],w.heap.size<=b:=fun b hb=>by simp at hb;omega
  have cF:Hid (∀ b∈[w4.heap.size+1,w4.heap.size,bl],B<=b):=Lh (fun b hb=>Nt hB (cE b hb))
  have aD:=Lh (aX.o.then aO.o)
  have cC:=Lh (dE.o.funs (aD.o.mono hB))
  have r5:Hid (Xwi W5 (w.heap.size+1+1)):=Lh (Xwi.keep (w:=w4) ((dC.o.block _ (by rw [bP.o];exact (La r2.o))).trans (r2.o.keep aN.o)) aO.o)
  have dW:w.heap.size+1+1<bl:=by have hr:=(La r2.o);rw [bP.o];exact hr
  have cA:w.heap.size+1+1∉[w4.heap.size+1,w4.heap.size,bl]:=fun e=>by simp at e;omega
  rw [<-aT]
  have dD:=Lh cE
  have eN:=Lh aT
  clear aT cE dL
  refine (Xc2 hs hsm fa (some (π yb yo)) fn fc gc g bF.o dV.o B cF.o cC.o).mono ?_
  rintro e w6 ⟨rfl,m1,F6,dG,dF,aY⟩
  obtain ⟨fv,F0,aB,bL,bZ,eA⟩:=Xt.1 dF
  obtain ⟨aF,aG,rfl⟩:=bL.form
  obtain ⟨aH,aP⟩:∃ n,n=m1.frames.length:=⟨_,rfl⟩
  rw [<-aP] at aB bL
  have dS:=Lh aP
  clear aP
  have r6:Hid (Xwi w6 (w.heap.size+1+1)):=Lh ((aY.block _ (La r5.o) cA).trans r5.o)
  obtain ⟨⟨cK,cL,cM,cN,cO,cP,cQ,cR,cS⟩,⟨cT,cU,cV,cW,cX,cY,cZ,dA,dB⟩,rz⟩:=r6.o.look
  have fD:=Xe aB 0 (σ aF aH aG) rfl
  have fE:=Xe aB 1 (ι m1.req.kind) rfl
  have fF:=Xe aB 2 (ι m1.req.node) rfl
  have fG:=Xe aB 3 (ι m1.req.field) rfl
  have fH:=Xe aB 4 (ι m1.req.value) rfl
  have fI:=Xe aB 5 (ι m1.req.fault) rfl
  have fJ:=Xe aB 6 (ι m1.fuel) rfl
  have fK:=Xe aB 7 (ι m1.compares) rfl
  have fL:=Xe aB 8 (ι m1.idle) rfl
  have eY:=(La aB)
  have aA:=Lh (Xz (R:=w.heap.size+1+1) (fv0:=ν) (m0:=Xl) r6.o (σ aF aH aG) m1)
  have aZ:w.heap.size+1+1∉F6:=aY.notin (La r5.o) cA
  have bE:∀ b∈F6,w.heap.size<=b:=aY.ge dD.o aD.o.size
  have bX:=aD.o.trans (aY.below dD.o aD.o.size)
  have bT:Hid (Qq w (σ aF aH aG) m1 (Yp w6 (w.heap.size+1+1) (σ aF aH aG) m1)):=Lh ⟨F0,bL.keep (fun b hb=>aA.o.2.block b (bL.lt b hb) (fun e=>aZ (by rw [List.mem_singleton] at e;rw [bZ];exact List.mem_cons_of_mem _ (e▸hb)))),fun b hb=>bE b (by rw [bZ];exact List.mem_cons_of_mem _ hb),bX.trans (aA.o.2.below (fun b hb=>by simp at hb;omega) bX.size)⟩
  have dT:Hid (Zm c (Zo c x fuel) m1):=Lh (by rw [eC.o];exact dG)
  have eX:¬w4.heap.size+1=w.heap.size+1+1:=ω
  clear aB bL dF aY dG bE bX aZ cA bZ eA
  go_wp2_with fail
  have bJ:Qn c x fuel w (.returned (.tuple #[Xi (σ aF aH aG) m1,ι 0])) (Yp w6 (w.heap.size+1+1) (σ aF aH aG) m1):=.inr ⟨HE.o,m1,(σ aF aH aG),dT.o,rfl,bT.o⟩
  exact bodyPost_ret (v:=.tuple #[Xi (σ aF aH aG) m1,ι 0]) (Y6 (p:=6) (u:=7) rfl aA.o.1 _ _ rfl rfl) rfl bJ
def Xdc (c:Cod) (x:Cal) (fuel:Int) (w:World) (e:Ending) (w':World):Prop:=
 (¬Xv c/\e=.returned (.tuple #[Xi ν Xl,ι 1])/\Below w.heap.size w w')\/(Xv c/\Qn c x fuel w e w')
theorem Xff (c:Cod) (x:Cal) (fuel:Int) (cv xv:Value) (B:Nat) (w:World) (hL:Qa w) (hB:B<=w.heap.size) (hc:Yj B w cv c) (hx:J8 B w xv x) (hsm:Zb c) :
  Calls Tryz.prog 69 #[cv,xv,ι fuel] w (Xdc c x fuel w):=by
 have HC:=Lh hc
 have HX:=Lh hx
 obtain ⟨fv,gv,rfl,hf,hg,aL⟩:=hc
 obtain ⟨fa,fc,rfl⟩:=hf.form
 obtain ⟨ga,gc,rfl⟩:=hg.form
 obtain ⟨av,rfl,aR,bQ⟩:=hx
 obtain ⟨xa,xc,rfl⟩:=aR.form
 obtain ⟨fn,aO⟩:∃ n,n=c.fields.length:=⟨_,rfl⟩
 obtain ⟨g,aQ⟩:∃ n,n=c.globals:=⟨_,rfl⟩
 rw [<-aO,<- aQ] at HC ⊢
 clear hf hg aR aO aQ aL
 obtain ⟨W,hW⟩:∃ W,W=((w.alloc (χ #[σ fa fn fc,ι g,σ ga c.funcs.length gc] 25)).alloc (χ #[.string x.proc,σ xa x.args.length xc] 80)).alloc (χ #[ν,ι 0,ι 0,ι 0,ι 0,ι 0,ι 0,ι 0,ι 0] 51):=⟨_,rfl⟩
 obtain ⟨aH,aJ,b0,b1,b2⟩:=X4k w [σ fa fn fc,ι g,σ ga c.funcs.length gc] [.string x.proc,σ xa x.args.length xc] 25 80 hW
 have aH:=Lh aH
 have aJ:=Lh aJ
 have b2:=Lh b2
 have aV:=Lh (HC.o.below (aH.o.mono hB))
 have bP:=Lh (HX.o.below (aH.o.mono hB))
 have HL:=Lh (hL.below aH.o)
 have aU:B<=W.heap.size:=by have:=aJ.o;omega
 clear hL
 go_enter Tryz.func69,Tryz.ntmps69
 go_upto_region 1 with fail
 rw [<-hW]
 have HW:=Lh hW
 clear hW
 have i0:=b0 0 _ rfl
 have i1:=b0 1 _ rfl
 have i2:=b0 2 _ rfl
 have i3:=b1 0 _ rfl
 have i4:=b1 1 _ rfl
 have z0:w.heap.size<W.heap.size:=by have:=aJ.o;omega
 have z1:w.heap.size+1<W.heap.size:=by have:=aJ.o;omega
 clear b0 b1
 go_wp2_with fail
 refine (Jm c _ B W HL.o aU aV.o).mono ?_
 rintro e w1 ⟨rfl,aF⟩
 have i0:=Xc aF i0
 have i1:=Xc aF i1
 have i2:=Xc aF i2
 have i3:=Xc aF i3
 have i4:=Xc aF i4
 have z0:=Bl i0
 have z1:=Bl i3
 have r1:=Lh (b2.o.keep aF)
 have aB:=Lh (aH.o.then aF)
 clear aF
 by_cases hs:Xv c
 ·have aK:=Lh (HC.o.below (aB.o.mono hB))
  have aM:=Lh (HX.o.below (aB.o.mono hB))
  rw [Zg hs]
  go_wp2_with fail
  refine (Xb5 c x fuel _ _ B w1 (Nt hB aB.o.size) aK.o aM.o hs hsm).mono ?_
  rintro e w2 hP
  have bO:=(La r1.o)
  obtain ⟨aC,aG,aD,m1,er,rfl,aN,aT⟩:∃ aC aG aD m1 er,e=.returned (.tuple #[Xi (σ aC aG aD) m1,ι er])/\Below w1.heap.size w1 w2/\Hid (∀ w3,Xp [w.heap.size+1+1] [w.heap.size+1+1] w2 w3->Qn c x fuel w (.returned (.tuple #[Xi (σ aC aG aD) m1,ι er])) w3):=by
   rcases hP with ⟨h0,rfl,hb⟩|⟨h0,m1,fv,hR,rfl,F,hv,aP,hb⟩
   ·refine ⟨none,0,0,Xl,_,rfl,hb,Lh fun w3 hM=>.inl ⟨h0,rfl,(aB.o.then hb).trans (hM.below (fun b aE=>by simp at aE;omega) (aB.o.then hb).size)⟩⟩
   ·obtain ⟨aC,aD,rfl⟩:=hv.form
    refine ⟨aC,_,aD,m1,0,rfl,hb,Lh fun w3 hM=>.inr ⟨h0,m1,_,hR,rfl,F,hv.keep (fun b aE=>hM.block b (hv.lt b aE) (fun e=>?_)),fun b aE=>Nt aB.o.size (aP b aE),(aB.o.then hb).trans (hM.below (fun b aE=>by simp at aE;omega) (aB.o.then hb).size)⟩⟩
    have:=aP b aE
    rw [List.mem_singleton] at e
    omega
  have r2:=Lh (r1.o.keep aN)
  obtain ⟨⟨aW,aX,aY,aZ,bA,bB,bC,bD,bE⟩,⟨bF,bG,bH,bI,bJ,bK,bL,bM,bN⟩,rz⟩:=r2.o.look
  have aA:=Lh (Xz (R:=w.heap.size+1+1) (fv0:=ν) (m0:=Xl) r2.o (σ aC aG aD) m1)
  clear aN hP
  unfold Xi Xb
  go_wp2_with fail
  have aI:Xdc c x fuel w (.returned (.tuple #[Xi (σ aC aG aD) m1,ι er])) (Yp w2 (w.heap.size+1+1) (σ aC aG aD) m1):=.inr ⟨hs,aT.o _ aA.o.2⟩
  exact bodyPost_ret (v:=.tuple #[Xi (σ aC aG aD) m1,ι er]) (Y6 (p:=6) (u:=7) rfl aA.o.1 _ _ rfl rfl) rfl aI
 ·rw [Jp hs]
  obtain ⟨⟨aW,aX,aY,aZ,bA,bB,bC,bD,bE⟩,⟨bF,bG,bH,bI,bJ,bK,bL,bM,bN⟩,rz⟩:=r1.o.look
  have aA:=Lh (Xz (R:=w.heap.size+1+1) (fv0:=ν) (m0:=Xl) r1.o ν Xl)
  have aS:Hid (Below w.heap.size w (Yp w1 (w.heap.size+1+1) ν Xl)):=Lh (aB.o.trans (aA.o.2.below (fun b hb=>by simp at hb;omega) aB.o.size))
  go_wp2
  exact bodyPost_ret (Y6 rfl aA.o.1 _ _ rfl rfl) rfl (.inl ⟨hs,rfl,aS.o⟩)
