/- Plain: with more fuel a machine goes as before, until it lacks fuel. Plain: the example of the chapter. Plain: a loop without ticks ends with a fault. -/
import Derived.Test.YtbmeoklmachjpaaGreatDoorPly
set_option linter.unusedVariables false
set_option linter.unusedSimpArgs false
namespace Go.Proofs.YtbmeoklmachjpaaGreatDoor
open Go.RowKit
def U1 (d:Int) (m:Mch):Mch:={ m with fuel:=m.fuel+d }
def Xrr (d:Int):Out→Out
 | .go m=>.go (U1 d m)
 | .stop r m=>.stop r (U1 d m)
def Xnd:Out→Int
 | .go m=>m.fuel
 | .stop _ m=>m.fuel
def Xed (d:Int) (o o':Out):Prop:=(∃ m1,o=.stop (X0 20) m1)∨(o'=Xrr d o∧0≤Xnd o)
theorem Xed.ite {d:Int} {p:Prop} [Decidable p] {a b a' b':Out} (ha:Xed d a a') (hb:Xed d b b'):Xed d (if p then a else b) (if p then a' else b'):=by split<;>assumption
theorem Xj1 {d:Int} (hd:0≤d) (c:Cod) (m:Mch) (h0:0≤m.fuel) (fs:List Fra) (f:Fra) (y:Fun) (x:Ins):Xed d (Z0 c m fs f y x) (Z0 c (U1 d m) fs f y x):=by
 unfold Z0
 simp only []
 by_cases h13:x.op=13
 ·simp only [h13]
  by_cases hf:m.fuel=0
  ·left;exact ⟨_,by simp [hf];rfl⟩
  ·right
   have hf2:¬(U1 d m).fuel=0:=by show ¬m.fuel+d=0;omega
   simp only [hf,hf2]
   refine ⟨?_,by simp [Xnd];omega⟩
   simp [Xrr,U1]
   omega
 rw [if_neg h13,if_neg h13]
 repeat' apply Xed.ite
 all_goals first|exact .inr ⟨rfl,h0⟩|skip
 ·cases Je c x.a with
  | none=>exact .inr ⟨rfl,h0⟩
  | some z=>
   simp only []
   apply Xed.ite<;>exact .inr ⟨rfl,h0⟩
 ·cases fs.getLast? with
  | none=>exact .inr ⟨rfl,h0⟩
  | some z=>exact .inr ⟨rfl,h0⟩
theorem Xdu {d:Int} (hd:0≤d) (c:Cod) (m:Mch) (h0:0≤m.fuel):Xed d (stepP c m) (stepP c (U1 d m)):=by
 unfold stepP
 apply Xed.ite
 ·exact .inr ⟨rfl,h0⟩
 show Xed d (match m.frames.getLast? with
 | none=>.stop (X0 0) m
 | some f=>match c.funcs[f.fn.toNat]? with
  | none=>.stop (X0 0) m
  | some y=>match y.code[f.pc.toNat]? with
   | none=>.stop (X0 0) m
   | some x=>Z0 c m m.frames.dropLast f y x) (match m.frames.getLast? with
 | none=>.stop (X0 0) (U1 d m)
 | some f=>match c.funcs[f.fn.toNat]? with
  | none=>.stop (X0 0) (U1 d m)
  | some y=>match y.code[f.pc.toNat]? with
   | none=>.stop (X0 0) (U1 d m)
   | some x=>Z0 c (U1 d m) m.frames.dropLast f y x)
 cases m.frames.getLast? with
 | none=>exact .inr ⟨rfl,h0⟩
 | some f=>
  simp only []
  cases c.funcs[f.fn.toNat]? with
  | none=>exact .inr ⟨rfl,h0⟩
  | some y=>
   simp only []
   cases y.code[f.pc.toNat]? with
   | none=>exact .inr ⟨rfl,h0⟩
   | some x=>exact Xj1 hd c m h0 _ _ _ _
/-- m' is m with more fuel, or m lacks fuel -/
def FR (d:Int) (m m':Mch):Prop:=m.req=X0 20∨(m'=U1 d m∧0≤m.fuel)
theorem Xeq {d:Int} (hd:0≤d) {c:Cod} {m m1:Mch} (h:Zm c m m1):∀ m1',0≤m.fuel→Zm c (U1 d m) m1'→FR d m1 m1':=by
 induction h with
 | stop hst=>
  rename_i m r m2
  intro m1' h0 h'
  rcases Xdu hd c m h0 with ⟨m3,h3⟩|⟨h3,h4⟩
  ·rw [hst] at h3
   cases h3
   exact .inl rfl
  ·rw [hst] at h3 h4
   cases h' with
   | stop hst'=>
    rw [h3] at hst'
    cases hst'
    exact .inr ⟨rfl,h4⟩
   | go hst' _=>
    rw [h3] at hst'
    cases hst'
 | go hst _ ih=>
  rename_i m m2 m3 _
  intro m1' h0 h'
  rcases Xdu hd c m h0 with ⟨m4,h3⟩|⟨h3,h4⟩
  ·rw [hst] at h3;cases h3
  ·rw [hst] at h3 h4
   cases h' with
   | stop hst'=>rw [h3] at hst';cases hst'
   | go hst' hr=>
    rw [h3] at hst'
    cases hst'
    exact ih _ h4 hr
theorem Xi5 {d:Int} (hd:0≤d) {c:Cod} {m m1 m1':Mch} {n:Int} (h0:0≤m.fuel) (h:Jv c m n m1) (h':Jv c (U1 d m) n m1'):FR d m1 m1':=by
 have hk:(U1 d m).req=m.req:=rfl
 have hf:(U1 d m).frames=m.frames:=rfl
 unfold Jv at h'
 rw [hk,hf] at h'
 rcases h with ⟨a1,a2,rfl⟩|⟨a1,fs,f,a2,a3⟩|⟨a1,a2⟩
 ·rcases h' with ⟨b1,b2,rfl⟩|⟨b1,_⟩|⟨b1,_⟩
  ·exact .inr ⟨rfl,h0⟩
  ·omega
  ·omega
 ·rcases h' with ⟨b1,b2,rfl⟩|⟨b1,fs',f',b2,b3⟩|⟨b1,_⟩
  ·omega
  ·have he:=a2.symm.trans b2
   obtain ⟨rfl,he2⟩:=List.append_inj' he rfl
   cases he2
   exact Xeq hd a3 _ h0 b3
  ·omega
 ·rcases h' with ⟨b1,b2,rfl⟩|⟨b1,_⟩|⟨b1,b2⟩
  ·omega
  ·omega
  ·exact Xeq hd a2 _ h0 b2
theorem Xp2 {c:Cod} {p p':Ply} {r:Rq} {n:Int} (h:J5 c p r=some (p',n)):p.log <+: p'.log:=by
 unfold J5 at h
 split at h
 ·split at h
  ·simp at h;rw [←h.1];exact List.prefix_append _ _
  ·simp at h;rw [←h.1];exact List.prefix_refl _
 ·split at h
  ·simp at h
  ·simp at h;rw [←h.1];exact List.prefix_append _ _
theorem Xb6 {c:Cod} {m:Mch} {p p2:Ply} {o:Ks} (h:Zx c m p o p2):p.log <+: p2.log:=by
 induction h with
 | done _=>exact List.prefix_refl _
 | fail _=>exact List.prefix_refl _
 | type _ _ _=>exact List.prefix_refl _
 | step _ _ ha _ _ ih=>exact (Xp2 ha).trans ih
/-- a run with more fuel -/
theorem Xqu {d:Int} (hd:0≤d) {c:Cod} {m:Mch} {p p2:Ply} {o:Ks} (h:Zx c m p o p2):∀ m' o' p2',FR d m m'→Zx c m' p o' p2'→p2.log <+: p2'.log∧(o.fault=20∨(o=o'∧p2=p2')):=by
 induction h with
 | done hk=>
  intro m' o' p2' hR h'
  refine ⟨Xb6 h',.inr ?_⟩
  rcases hR with hR|⟨rfl,_⟩
  ·rw [hR] at hk;simp [X0] at hk
  ·have hk':(U1 d _).req.kind=4:=hk
   cases h' with
   | done _=>exact ⟨rfl,rfl⟩
   | fail k=>omega
   | type k _ _=>exact absurd hk' k
   | step k _ _ _ _=>exact absurd hk' k
 | fail hk=>
  intro m' o' p2' hR h'
  refine ⟨Xb6 h',?_⟩
  rcases hR with hR|⟨rfl,_⟩
  ·left;rw [hR];rfl
  ·right
   have hk':(U1 d _).req.kind=5:=hk
   cases h' with
   | done k=>omega
   | fail _=>exact ⟨rfl,rfl⟩
   | type _ k _=>exact absurd hk' k
   | step _ k _ _ _=>exact absurd hk' k
 | type h4 h5 ha=>
  intro m' o' p2' hR h'
  refine ⟨Xb6 h',.inr ?_⟩
  rcases hR with hR|⟨rfl,_⟩
  ·rw [hR] at h5;exact absurd rfl h5
  ·cases h' with
   | done k=>exact absurd k h4
   | fail k=>exact absurd k h5
   | type _ _ _=>exact ⟨rfl,rfl⟩
   | step _ _ ha' _ _=>
    exact absurd (ha.symm.trans ha') (by simp)
 | step h4 h5 ha hn _ ih=>
  rename_i m m1 p p1 p2 n o _
  intro m' o' p2' hR h'
  rcases hR with hR|⟨rfl,h0⟩
  ·rw [hR] at h5;exact absurd rfl h5
  ·cases h' with
   | done k=>exact absurd k h4
   | fail k=>exact absurd k h5
   | type _ _ ha'=>rw [show (U1 d m).req=m.req from rfl,ha] at ha';cases ha'
   | step _ _ ha' hn' hp'=>
    rw [show (U1 d m).req=m.req from rfl,ha] at ha'
    cases ha'
    exact ih _ _ _ (Xi5 hd h0 hn hn') hp'
theorem Xb8 {c:Cod} {m m1 m2:Mch} {n:Int} (h:Jv c m n m1) (h':Jv c m n m2):m1=m2:=by
 rcases h with ⟨a1,a2,rfl⟩|⟨a1,fs,f,a2,a3⟩|⟨a1,a2⟩
 ·rcases h' with ⟨b1,b2,rfl⟩|⟨b1,_⟩|⟨b1,_⟩
  ·rfl
  ·omega
  ·omega
 ·rcases h' with ⟨b1,b2,rfl⟩|⟨b1,fs',f',b2,b3⟩|⟨b1,_⟩
  ·omega
  ·have he:=a2.symm.trans b2
   obtain ⟨rfl,he2⟩:=List.append_inj' he rfl
   cases he2
   exact Vv a3 b3
  ·omega
 ·rcases h' with ⟨b1,b2,rfl⟩|⟨b1,_⟩|⟨b1,b2⟩
  ·omega
  ·omega
  ·exact Vv a2 b2
theorem Xlp {c:Cod} {m:Mch} {p p2 p2':Ply} {o o':Ks} (h:Zx c m p o p2) (h':Zx c m p o' p2'):o=o'∧p2=p2':=by
 induction h with
 | done hk=>
  cases h' with
  | done _=>exact ⟨rfl,rfl⟩
  | fail k=>omega
  | type k _ _=>exact absurd hk k
  | step k _ _ _ _=>exact absurd hk k
 | fail hk=>
  cases h' with
  | done k=>omega
  | fail _=>exact ⟨rfl,rfl⟩
  | type _ k _=>exact absurd hk k
  | step _ k _ _ _=>exact absurd hk k
 | type h4 h5 ha=>
  cases h' with
  | done k=>exact absurd k h4
  | fail k=>exact absurd k h5
  | type _ _ _=>exact ⟨rfl,rfl⟩
  | step _ _ ha' _ _=>rw [ha] at ha';cases ha'
 | step h4 h5 ha hn _ ih=>
  cases h' with
  | done k=>exact absurd k h4
  | fail k=>exact absurd k h5
  | type _ _ ha'=>rw [ha] at ha';cases ha'
  | step _ _ ha' hn' hp'=>
   rw [ha] at ha'
   cases ha'
   rw [Xb8 hn' hn] at hp'
   exact ih hp'
/-- instruction i is right for these heights -/
def Xnn (c:Cod) (f:Fun) (hs:List Int) (i:Nat):Bool:=match f.code[i]?,hs[i]? with
 | some x,some h=>decide (Xm c f x≤h) && ((decide (x.op≠10) || decide (h=Xm c f x)) && (X2 x i).all (fun k=>decide (k<f.code.length) && decide (hs[k]?=some (h - Xm c f x+Xj c f x))))
 | _,_=>false
theorem Xe5 {c:Cod} {f:Fun} (hs:List Int) (h0:hs[0]?=some 0) (hf:0<f.code.length) (hall:∀ i,i<f.code.length→Xnn c f hs i=true):Zh c f:=by
 have key:∀ i n,Reach c f i n→i<f.code.length∧hs[i]?=some n:=fun i n h=>by
  refine h (fun i n=>i<f.code.length∧hs[i]?=some n) ⟨hf,h0⟩ ?_
  rintro i n x k ⟨h1,h2⟩ hx hk
  have:=hall i h1
  unfold Xnn at this
  rw [hx,h2] at this
  simp only [Bool.and_eq_true,decide_eq_true_eq,List.all_eq_true] at this
  exact this.2.2 k hk
 refine ⟨fun i n h=>?_,fun i n m h1 h2=>?_⟩
 ·obtain ⟨h1,h2⟩:=key i n h
  have:=hall i h1
  unfold Xnn at this
  obtain ⟨x,hx⟩:∃ x,f.code[i]?=some x:=⟨_,List.getElem?_eq_getElem h1⟩
  rw [hx,h2] at this
  simp only [Bool.and_eq_true,Bool.or_eq_true,decide_eq_true_eq,List.all_eq_true] at this
  refine ⟨x,hx,this.1,fun e=>?_,fun k hk=>(this.2.2 k hk).1⟩
  rcases this.2.1 with h|h
  ·exact absurd e h
  ·exact Int.le_of_eq h
 ·have a:=(key i n h1).2
  have b:=(key i m h2).2
  rw [a] at b
  exact Option.some.inj b
def exP:Fun:=⟨⟨#[112]⟩,1,1,true,[⟨13,0⟩,⟨2,0⟩,⟨1,1⟩,⟨15,0⟩,⟨10,0⟩]⟩
def exQ:Fun:=⟨⟨#[113]⟩,0,0,true,[⟨4,0⟩,⟨10,0⟩]⟩
def exC:Cod:=⟨[],1,[exP,exQ]⟩
def Xcd:Cal:=⟨⟨#[112]⟩,[4]⟩
def Xih:Cal:=⟨⟨#[113]⟩,[]⟩
theorem Xq9:Uz ⟨#[112]⟩=true:=by kernel_rfl
theorem Xrd:Uz ⟨#[113]⟩=true:=by kernel_rfl
theorem Xpf:(exC.funcs.take 1).any (fun g=>Zt g.name exQ.name)=false:=by kernel_rfl
theorem Xoa:Q4 exC=false:=by kernel_rfl
theorem Xl4:Zh exC exP:=Xe5 [0,0,1,2,1] rfl (by decide) (by
 intro i hi
 have:(List.range 5).all (Xnn exC exP [0,0,1,2,1])=true:=by kernel_rfl
 exact List.all_eq_true.1 this i (List.mem_range.2 hi))
theorem Xlm:Zh exC exQ:=Xe5 [0,1] rfl (by decide) (by
 intro i hi
 have:(List.range 2).all (Xnn exC exQ [0,1])=true:=by kernel_rfl
 exact List.all_eq_true.1 this i (List.mem_range.2 hi))
theorem Xac:Xv exC:=by
 refine ⟨⟨by simp [exC],by simp [exC],by simp [exC],by simp [exC],by simp [exC],fun i x hx=>?_⟩,Xoa,fun f hf=>?_⟩
 ·match i,hx with
  | 0,hx=>
   obtain rfl:x=exP:=by simpa [exC] using hx.symm
   exact ⟨Xq9,by unfold Zr;simp [exP],by simp⟩
  | 1,hx=>
   obtain rfl:x=exQ:=by simpa [exC] using hx.symm
   exact ⟨Xrd,by unfold Zr;simp [exQ],Xpf⟩
  | i+2,hx=>simp [exC] at hx
 ·simp only [exC,List.mem_cons,List.not_mem_nil,or_false] at hf
  rcases hf with rfl|rfl
  ·exact Xl4
  ·exact Xlm
theorem Vp:Zb exC:=fun y hy=>by
 simp only [exC,List.mem_cons,List.not_mem_nil,or_false] at hy
 rcases hy with rfl|rfl<;>simp [exP,exQ]
theorem Xez (fuel:Int) (h:fuel=0∨fuel=1):Yd exC Xcd fuel=0:=by rcases h with rfl|rfl<;>kernel_rfl
theorem Xev:Yd exC Xih 0=0:=by kernel_rfl
/-- what the machines of the example ask for -/
def Xp0:Mch:=⟨[],Jc 5,0,0,4⟩
def Xp7:Mch:=⟨[],X0 20,0,0,1⟩
def U2:Mch:=⟨[⟨1,1,[],[]⟩],⟨1,0,0,0,0⟩,0,0,1⟩
def Xp5:Mch:=⟨[],Jc 9,0,0,2⟩
theorem Xo8:Zm exC (Zo exC Xcd 1) Xp0:=by
 refine .go (m1:=⟨[⟨0,1,[4],[]⟩],noR,0,0,0⟩) (by kernel_rfl) (.go (m1:=⟨[⟨0,2,[4],[4]⟩],noR,0,0,1⟩) (by kernel_rfl) (.go (m1:=⟨[⟨0,3,[4],[4,1]⟩],noR,0,0,2⟩) (by kernel_rfl) (.go (m1:=⟨[⟨0,4,[4],[5]⟩],noR,0,0,3⟩) (by kernel_rfl) ?_)))
 exact Zm.stop (r:=Jc 5) (m1:=⟨[],noR,0,0,4⟩) (by kernel_rfl)
theorem Xos:Zm exC (Zo exC Xcd 0) Xp7:=
 Zm.stop (r:=X0 20) (m1:=⟨[⟨0,1,[4],[]⟩],noR,0,0,1⟩) (by kernel_rfl)
theorem Xkv:Zm exC (Zo exC Xih 0) U2:=
 Zm.stop (r:=⟨1,0,0,0,0⟩) (m1:=⟨[⟨1,1,[],[]⟩],noR,0,0,1⟩) (by kernel_rfl)
theorem Xkp:Jv exC U2 9 Xp5:=by
 refine .inr (.inl ⟨.inl rfl,[],⟨1,1,[],[]⟩,rfl,?_⟩)
 exact Zm.stop (r:=Jc 9) (m1:=⟨[],noR,0,0,2⟩) (by kernel_rfl)
theorem Xoj:Yf exC U2:=by
 refine ⟨Xac,by simp [U2],by simp [U2],by simp [U2],by simp [U2],.inr ⟨by simp [U2],fun k f hf=>?_⟩⟩
 match k,hf with
 | 0,hf=>
  obtain rfl:f=⟨1,1,[],[]⟩:=by simpa [U2] using hf.symm
  exact ⟨exQ,⟨4,0⟩,0,⟨by decide,rfl,by decide,by simp [exQ],by simp,by simp⟩,by decide,rfl,by show Xr _ _=true;kernel_rfl,Reach.zero _ _,by kernel_rfl⟩
 | k+1,hf=>simp [U2] at hf
theorem Xpm:Q7 exC ⟨[9],[]⟩=true:=by kernel_rfl
theorem Xm8:Zx exC U2 ⟨⟨[9],[]⟩,[],0⟩ ⟨0,9,0,0⟩ ⟨⟨[9],[]⟩,[⟨1,0,0⟩],0⟩:=
 .step (m':=Xp5) (p':=⟨⟨[9],[]⟩,[⟨1,0,0⟩],0⟩) (n:=9) (by decide) (by decide) (by kernel_rfl) Xkp (.done rfl)
def Xan:Nat→List Ins
 | 0=>[]
 | k+1=>Xan k++[⟨1,1⟩,⟨30,0⟩]
def Zy (k:Nat):Fun:=⟨⟨#[102]⟩,0,0,false,Xan k++[⟨11,0⟩]⟩
def Y4 (k:Nat):Cod:=⟨[],0,[Zy k]⟩
def Vd:Cal:=⟨⟨#[102]⟩,[]⟩
theorem Qv (k:Nat):(Xan k).length=2*k:=by
 induction k with
 | zero=>rfl
 | succ k ih=>unfold Xan;rw [List.length_append,ih];simp;omega
theorem Xin (k i:Nat) (h:i<2*k):(Xan k)[i]?=some (if i % 2=0 then ⟨1,1⟩ else ⟨30,0⟩):=by
 induction k with
 | zero=>omega
 | succ k ih=>
  unfold Xan
  by_cases h1:i<2*k
  ·rw [List.getElem?_append_left (by rw [Qv];exact h1)];exact ih h1
  ·rw [List.getElem?_append_right (by rw [Qv];omega),Qv]
   by_cases h2:i=2*k
   ·subst h2;simp
   ·obtain rfl:i=2*k+1:=by omega
    rw [show 2*k+1 - 2*k=1 by omega,if_neg (by omega)];rfl
theorem Xam (k i:Nat):(Zy k).code[i]?=if i<2*k then some (if i % 2=0 then ⟨1,1⟩ else ⟨30,0⟩) else if i=2*k then some ⟨11,0⟩ else none:=by
 unfold Zy
 simp only []
 split
 ·rename_i h
  rw [List.getElem?_append_left (by rw [Qv];exact h)];exact Xin k i h
 ·rw [List.getElem?_append_right (by rw [Qv];omega),Qv]
  split
  ·rename_i h;subst h;simp
  ·rw [List.getElem?_eq_none (by simp;omega)]
theorem Ux (k:Nat):(Zy k).code.length=2*k+1:=by
 unfold Zy;simp [Qv]
theorem Xnq {k:Nat} {x:Ins} (h:x∈(Zy k).code):x=⟨1,1⟩∨x=⟨30,0⟩∨x=⟨11,0⟩:=by
 obtain ⟨i,hi⟩:=List.mem_iff_getElem?.1 h
 rw [Xam] at hi
 split at hi
 ·split at hi
  ·left;simpa using hi.symm
  ·right;left;simpa using hi.symm
 split at hi
 ·right;right;simpa using hi.symm
 ·cases hi
theorem Xa1 {k i:Nat} {n:Int} (h:Reach (Y4 k) (Zy k) i n):i≤2*k∧n=(i % 2:Nat):=by
 refine h (fun i n=>i≤2*k∧n=(i % 2:Nat)) ⟨by omega,by simp⟩ ?_
 rintro i n x j ⟨h1,h2⟩ hx hj
 rw [Xam] at hx
 split at hx
 ·split at hx
  ·cases hx
   simp [X2] at hj
   subst hj
   simp [Xm,Xj,Ya,Y1,Z7]
   omega
  ·cases hx
   simp [X2] at hj
   subst hj
   simp [Xm,Xj,Ya,Y1,Z7]
   omega
 split at hx
 ·cases hx
  simp [X2] at hj
  subst hj
  simp [Xm,Xj,Ya,Y1,Z7]
  omega
 ·cases hx
theorem Xp4:Uz ⟨#[102]⟩=true:=by kernel_rfl
theorem Xq4 {k:Nat} (hk:k<50):Xv (Y4 k):=by
 refine ⟨⟨by simp [Y4],by simp [Y4],by simp [Y4],by simp [Y4],by simp [Y4],fun i x hx=>?_⟩,?_,fun f hf=>?_⟩
 ·have hi:i=0∧x=Zy k:=by
   unfold Y4 at hx
   match i,hx with
   | 0,hx=>exact ⟨rfl,by simpa using hx.symm⟩
   | i+1,hx=>simp at hx
  obtain ⟨rfl,rfl⟩:=hi
  refine ⟨Xp4,⟨by simp [Zy],by simp [Zy],by simp [Zy],by simp [Zy],by rw [Ux];omega,by rw [Ux];omega⟩,by simp⟩
 ·unfold Q4
  rw [List.any_eq_false]
  intro f hf
  simp only [Y4,List.mem_singleton] at hf
  subst hf
  simp only [Bool.not_eq_true,List.any_eq_false]
  intro x hx
  rcases Xnq hx with rfl|rfl|rfl
  ·simp [Zq,Jw]
  ·simp [Zq,Jw]
  ·simp [Zq,Jw,Ux];omega
 ·simp only [Y4,List.mem_singleton] at hf
  subst hf
  refine ⟨fun i n h=>?_,fun i n m h1 h2=>by rw [(Xa1 h1).2,(Xa1 h2).2]⟩
  obtain ⟨h1,h2⟩:=Xa1 h
  by_cases hi:i<2*k
  ·by_cases he:i % 2=0
   ·refine ⟨⟨1,1⟩,by rw [Xam,if_pos hi,if_pos he],by simp [Xm,Ya,Y1];omega,by simp,fun j hj=>?_⟩
    simp [X2] at hj
    rw [Ux];omega
   ·refine ⟨⟨30,0⟩,by rw [Xam,if_pos hi,if_neg he],by simp [Xm,Ya,Y1];omega,by simp,fun j hj=>?_⟩
    simp [X2] at hj
    rw [Ux];omega
  ·refine ⟨⟨11,0⟩,by rw [Xam,if_neg hi,if_pos (by omega)],by simp [Xm,Ya,Y1];omega,by simp,fun j hj=>?_⟩
   simp [X2] at hj
   rw [Ux];omega
/-- where the loop stands -/
def Ko (fuel:Int) (t pc:Nat):Mch:=⟨[⟨0,pc,[],if pc % 2=0 then [] else [1]⟩],noR,fuel,0,t⟩
def Xc1 (fuel:Int):Mch:=⟨[],X0 6,fuel,0,100000⟩
theorem Xmc {k:Nat} {fuel:Int} {t pc:Nat} (ht:t<100000) (hpc:pc≤2*k):∃ pc',pc'≤2*k∧stepP (Y4 k) (Ko fuel t pc)=.go (Ko fuel (t+1) pc'):=by
 have hx:=Xam k pc
 have e:stepP (Y4 k) (Ko fuel t pc)=match (Zy k).code[pc]? with
   | none=>.stop (X0 0) (Ko fuel t pc)
   | some x=>Z0 (Y4 k) (Ko fuel t pc) [] ⟨0,pc,[],if pc % 2=0 then [] else [1]⟩ (Zy k) x:=by
  unfold stepP
  rw [if_neg (by simp [Ko];omega)]
  rfl
 by_cases hi:pc<2*k
 ·by_cases he:pc % 2=0
  ·refine ⟨pc+1,by omega,?_⟩
   rw [e,hx,if_pos hi,if_pos he]
   simp [Z0,Ko,he]
   omega
  ·refine ⟨pc+1,by omega,?_⟩
   rw [e,hx,if_pos hi,if_neg he]
   simp [Z0,Ko,he]
   omega
 ·refine ⟨0,by omega,?_⟩
  obtain rfl:pc=2*k:=by omega
  rw [e,hx,if_neg hi,if_pos rfl]
  simp [Z0,Ko]
theorem Xe3 {k:Nat} {fuel:Int}:∀ (d t pc:Nat),t+d=100000→pc≤2*k→Zm (Y4 k) (Ko fuel t pc) (Xc1 fuel)
 | 0,t,pc,ht,hpc=>by
  have e:stepP (Y4 k) (Ko fuel t pc)=.stop (X0 6) (Ko fuel t pc):=by
   unfold stepP
   rw [if_pos (by simp [Ko];omega)]
  have:=Zm.stop e
  have e2:Jf (X0 6) (Ko fuel t pc)=Xc1 fuel:=by
   obtain rfl:t=100000:=by omega
   simp [Jf,Ko,Xc1,X0]
  rwa [e2] at this
 | d+1,t,pc,ht,hpc=>by
  obtain ⟨pc',h1,h2⟩:=Xmc (k:=k) (fuel:=fuel) (t:=t) (pc:=pc) (by omega) hpc
  exact .go h2 (Xe3 d (t+1) pc' (by omega) h1)
theorem Xg5 (k:Nat):Q8 (Y4 k) Vd.proc=0:=by
 unfold Q8 Qw Y4 Vd
 simp [List.findIdx?_cons,Zy,Zt]
theorem Xqi {k:Nat} {fuel:Int} (h0:0≤fuel) (h1:fuel≤65535):Yd (Y4 k) Vd fuel=0:=by
 unfold Yd
 rw [if_neg (by omega),Xg5]
 simp [Y4,Zy,Vd]
theorem Xj4 {k:Nat} {fuel:Int}:Zo (Y4 k) Vd fuel=Ko fuel 0 0:=by
 unfold Zo
 rw [Xg5]
 simp [Y4,Zy,Vd,Ko,noR]
theorem Xrj {k:Nat} {fuel:Int}:Zm (Y4 k) (Zo (Y4 k) Vd fuel) (Xc1 fuel):=by
 rw [Xj4];exact Xe3 100000 0 0 rfl (by omega)
end Go.Proofs.YtbmeoklmachjpaaGreatDoor
