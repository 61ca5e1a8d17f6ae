/- Plain: with more fuel a machine goes as before, until it lacks fuel. Plain: the example of the chapter. Plain: a loop without ticks ends with a fault. -/
import Derived.Test.YtbmeoklmachjpaaGreatDoorPly
set_option linter.unusedVariables false
set_option linter.unusedSimpArgs false
namespace Go.Proofs.YtbmeoklmachjpaaGreatDoor
open Go.RowKit
def addF (d:Int) (m:Mch):Mch:={ m with fuel:=m.fuel+d }
def addO (d:Int):Out→Out
 | .go m=>.go (addF d m)
 | .stop r m=>.stop r (addF d m)
def fuelOf:Out→Int
 | .go m=>m.fuel
 | .stop _ m=>m.fuel
def FRel (d:Int) (o o':Out):Prop:=(∃ m1,o=.stop (failR 20) m1)∨(o'=addO d o∧0≤fuelOf o)
theorem FRel.ite {d:Int} {p:Prop} [Decidable p] {a b a' b':Out} (ha:FRel d a a') (hb:FRel d b b'):FRel d (if p then a else b) (if p then a' else b'):=by split<;>assumption
theorem stepI_fuel {d:Int} (hd:0≤d) (c:Cod) (m:Mch) (h0:0≤m.fuel) (fs:List Fra) (f:Fra) (y:Fun) (x:Ins):FRel d (stepI c m fs f y x) (stepI c (addF d m) fs f y x):=by
 unfold stepI
 simp only []
 by_cases h13:x.op=13
 ·simp only [h13]
  by_cases hf:m.fuel=0
  ·left;exact ⟨_,by simp [hf];rfl⟩
  ·right
   have hf2:¬(addF d m).fuel=0:=by show ¬m.fuel+d=0;omega
   simp only [hf,hf2]
   refine ⟨?_,by simp [fuelOf];omega⟩
   simp [addO,addF]
   omega
 rw [if_neg h13,if_neg h13]
 repeat' apply FRel.ite
 all_goals first|exact .inr ⟨rfl,h0⟩|skip
 ·cases funAt c x.a with
  | none=>exact .inr ⟨rfl,h0⟩
  | some z=>
   simp only []
   apply FRel.ite<;>exact .inr ⟨rfl,h0⟩
 ·cases fs.getLast? with
  | none=>exact .inr ⟨rfl,h0⟩
  | some z=>exact .inr ⟨rfl,h0⟩
theorem stepP_fuel {d:Int} (hd:0≤d) (c:Cod) (m:Mch) (h0:0≤m.fuel):FRel d (stepP c m) (stepP c (addF d m)):=by
 unfold stepP
 apply FRel.ite
 ·exact .inr ⟨rfl,h0⟩
 show FRel d (match m.frames.getLast? with
 | none=>.stop (failR 0) m
 | some f=>match c.funcs[f.fn.toNat]? with
  | none=>.stop (failR 0) m
  | some y=>match y.code[f.pc.toNat]? with
   | none=>.stop (failR 0) m
   | some x=>stepI c m m.frames.dropLast f y x) (match m.frames.getLast? with
 | none=>.stop (failR 0) (addF d m)
 | some f=>match c.funcs[f.fn.toNat]? with
  | none=>.stop (failR 0) (addF d m)
  | some y=>match y.code[f.pc.toNat]? with
   | none=>.stop (failR 0) (addF d m)
   | some x=>stepI c (addF d m) m.frames.dropLast f y x)
 cases m.frames.getLast? with
 | none=>exact .inr ⟨rfl,h0⟩
 | some f=>
  simp only []
  cases c.funcs[f.fn.toNat]? with
  | none=>exact .inr ⟨rfl,h0⟩
  | some y=>
   simp only []
   cases y.code[f.pc.toNat]? with
   | none=>exact .inr ⟨rfl,h0⟩
   | some x=>exact stepI_fuel hd c m h0 _ _ _ _
/-- m' is m with more fuel, or m lacks fuel -/
def FR (d:Int) (m m':Mch):Prop:=m.req=failR 20∨(m'=addF d m∧0≤m.fuel)
theorem runs_fuel {d:Int} (hd:0≤d) {c:Cod} {m m1:Mch} (h:Runs c m m1):∀ m1',0≤m.fuel→Runs c (addF d m) m1'→FR d m1 m1':=by
 induction h with
 | stop hst=>
  rename_i m r m2
  intro m1' h0 h'
  rcases stepP_fuel hd c m h0 with ⟨m3,h3⟩|⟨h3,h4⟩
  ·rw [hst] at h3
   cases h3
   exact .inl rfl
  ·rw [hst] at h3 h4
   cases h' with
   | stop hst'=>
    rw [h3] at hst'
    cases hst'
    exact .inr ⟨rfl,h4⟩
   | go hst' _=>
    rw [h3] at hst'
    cases hst'
 | go hst _ ih=>
  rename_i m m2 m3 _
  intro m1' h0 h'
  rcases stepP_fuel hd c m h0 with ⟨m4,h3⟩|⟨h3,h4⟩
  ·rw [hst] at h3;cases h3
  ·rw [hst] at h3 h4
   cases h' with
   | stop hst'=>rw [h3] at hst';cases hst'
   | go hst' hr=>
    rw [h3] at hst'
    cases hst'
    exact ih _ h4 hr
theorem nexts_fuel {d:Int} (hd:0≤d) {c:Cod} {m m1 m1':Mch} {n:Int} (h0:0≤m.fuel) (h:Nexts c m n m1) (h':Nexts c (addF d m) n m1'):FR d m1 m1':=by
 have hk:(addF d m).req=m.req:=rfl
 have hf:(addF d m).frames=m.frames:=rfl
 unfold Nexts at h'
 rw [hk,hf] at h'
 rcases h with ⟨a1,a2,rfl⟩|⟨a1,fs,f,a2,a3⟩|⟨a1,a2⟩
 ·rcases h' with ⟨b1,b2,rfl⟩|⟨b1,_⟩|⟨b1,_⟩
  ·exact .inr ⟨rfl,h0⟩
  ·omega
  ·omega
 ·rcases h' with ⟨b1,b2,rfl⟩|⟨b1,fs',f',b2,b3⟩|⟨b1,_⟩
  ·omega
  ·have he:=a2.symm.trans b2
   obtain ⟨rfl,he2⟩:=List.append_inj' he rfl
   cases he2
   exact runs_fuel hd a3 _ h0 b3
  ·omega
 ·rcases h' with ⟨b1,b2,rfl⟩|⟨b1,_⟩|⟨b1,b2⟩
  ·omega
  ·omega
  ·exact runs_fuel hd a2 _ h0 b2
theorem ask_log {c:Cod} {p p':Ply} {r:Rq} {n:Int} (h:askM c p r=some (p',n)):p.log <+: p'.log:=by
 unfold askM at h
 split at h
 ·split at h
  ·simp at h;rw [←h.1];exact List.prefix_append _ _
  ·simp at h;rw [←h.1];exact List.prefix_refl _
 ·split at h
  ·simp at h
  ·simp at h;rw [←h.1];exact List.prefix_append _ _
theorem plays_log {c:Cod} {m:Mch} {p p2:Ply} {o:OutC} (h:Plays c m p o p2):p.log <+: p2.log:=by
 induction h with
 | done _=>exact List.prefix_refl _
 | fail _=>exact List.prefix_refl _
 | type _ _ _=>exact List.prefix_refl _
 | step _ _ ha _ _ ih=>exact (ask_log ha).trans ih
/-- a run with more fuel -/
theorem plays_fuel {d:Int} (hd:0≤d) {c:Cod} {m:Mch} {p p2:Ply} {o:OutC} (h:Plays c m p o p2):∀ m' o' p2',FR d m m'→Plays c m' p o' p2'→p2.log <+: p2'.log∧(o.fault=20∨(o=o'∧p2=p2')):=by
 induction h with
 | done hk=>
  intro m' o' p2' hR h'
  refine ⟨plays_log h',.inr ?_⟩
  rcases hR with hR|⟨rfl,_⟩
  ·rw [hR] at hk;simp [failR] at hk
  ·have hk':(addF d _).req.kind=4:=hk
   cases h' with
   | done _=>exact ⟨rfl,rfl⟩
   | fail k=>omega
   | type k _ _=>exact absurd hk' k
   | step k _ _ _ _=>exact absurd hk' k
 | fail hk=>
  intro m' o' p2' hR h'
  refine ⟨plays_log h',?_⟩
  rcases hR with hR|⟨rfl,_⟩
  ·left;rw [hR];rfl
  ·right
   have hk':(addF d _).req.kind=5:=hk
   cases h' with
   | done k=>omega
   | fail _=>exact ⟨rfl,rfl⟩
   | type _ k _=>exact absurd hk' k
   | step _ k _ _ _=>exact absurd hk' k
 | type h4 h5 ha=>
  intro m' o' p2' hR h'
  refine ⟨plays_log h',.inr ?_⟩
  rcases hR with hR|⟨rfl,_⟩
  ·rw [hR] at h5;exact absurd rfl h5
  ·cases h' with
   | done k=>exact absurd k h4
   | fail k=>exact absurd k h5
   | type _ _ _=>exact ⟨rfl,rfl⟩
   | step _ _ ha' _ _=>
    exact absurd (ha.symm.trans ha') (by simp)
 | step h4 h5 ha hn _ ih=>
  rename_i m m1 p p1 p2 n o _
  intro m' o' p2' hR h'
  rcases hR with hR|⟨rfl,h0⟩
  ·rw [hR] at h5;exact absurd rfl h5
  ·cases h' with
   | done k=>exact absurd k h4
   | fail k=>exact absurd k h5
   | type _ _ ha'=>rw [show (addF d m).req=m.req from rfl,ha] at ha';cases ha'
   | step _ _ ha' hn' hp'=>
    rw [show (addF d m).req=m.req from rfl,ha] at ha'
    cases ha'
    exact ih _ _ _ (nexts_fuel hd h0 hn hn') hp'
theorem nexts_det {c:Cod} {m m1 m2:Mch} {n:Int} (h:Nexts c m n m1) (h':Nexts c m n m2):m1=m2:=by
 rcases h with ⟨a1,a2,rfl⟩|⟨a1,fs,f,a2,a3⟩|⟨a1,a2⟩
 ·rcases h' with ⟨b1,b2,rfl⟩|⟨b1,_⟩|⟨b1,_⟩
  ·rfl
  ·omega
  ·omega
 ·rcases h' with ⟨b1,b2,rfl⟩|⟨b1,fs',f',b2,b3⟩|⟨b1,_⟩
  ·omega
  ·have he:=a2.symm.trans b2
   obtain ⟨rfl,he2⟩:=List.append_inj' he rfl
   cases he2
   exact runs_det a3 b3
  ·omega
 ·rcases h' with ⟨b1,b2,rfl⟩|⟨b1,_⟩|⟨b1,b2⟩
  ·omega
  ·omega
  ·exact runs_det a2 b2
theorem plays_det {c:Cod} {m:Mch} {p p2 p2':Ply} {o o':OutC} (h:Plays c m p o p2) (h':Plays c m p o' p2'):o=o'∧p2=p2':=by
 induction h with
 | done hk=>
  cases h' with
  | done _=>exact ⟨rfl,rfl⟩
  | fail k=>omega
  | type k _ _=>exact absurd hk k
  | step k _ _ _ _=>exact absurd hk k
 | fail hk=>
  cases h' with
  | done k=>omega
  | fail _=>exact ⟨rfl,rfl⟩
  | type _ k _=>exact absurd hk k
  | step _ k _ _ _=>exact absurd hk k
 | type h4 h5 ha=>
  cases h' with
  | done k=>exact absurd k h4
  | fail k=>exact absurd k h5
  | type _ _ _=>exact ⟨rfl,rfl⟩
  | step _ _ ha' _ _=>rw [ha] at ha';cases ha'
 | step h4 h5 ha hn _ ih=>
  cases h' with
  | done k=>exact absurd k h4
  | fail k=>exact absurd k h5
  | type _ _ ha'=>rw [ha] at ha';cases ha'
  | step _ _ ha' hn' hp'=>
   rw [ha] at ha'
   cases ha'
   rw [nexts_det hn' hn] at hp'
   exact ih hp'
/-- instruction i is right for these heights -/
def okAt (c:Cod) (f:Fun) (hs:List Int) (i:Nat):Bool:=match f.code[i]?,hs[i]? with
 | some x,some h=>decide (popsOf c f x≤h) && ((decide (x.op≠10) || decide (h=popsOf c f x)) && (succs x i).all (fun k=>decide (k<f.code.length) && decide (hs[k]?=some (h - popsOf c f x+pushesOf c f x))))
 | _,_=>false
theorem soundF_of {c:Cod} {f:Fun} (hs:List Int) (h0:hs[0]?=some 0) (hf:0<f.code.length) (hall:∀ i,i<f.code.length→okAt c f hs i=true):SoundF c f:=by
 have key:∀ i n,Reach c f i n→i<f.code.length∧hs[i]?=some n:=fun i n h=>by
  refine h (fun i n=>i<f.code.length∧hs[i]?=some n) ⟨hf,h0⟩ ?_
  rintro i n x k ⟨h1,h2⟩ hx hk
  have:=hall i h1
  unfold okAt at this
  rw [hx,h2] at this
  simp only [Bool.and_eq_true,decide_eq_true_eq,List.all_eq_true] at this
  exact this.2.2 k hk
 refine ⟨fun i n h=>?_,fun i n m h1 h2=>?_⟩
 ·obtain ⟨h1,h2⟩:=key i n h
  have:=hall i h1
  unfold okAt at this
  obtain ⟨x,hx⟩:∃ x,f.code[i]?=some x:=⟨_,List.getElem?_eq_getElem h1⟩
  rw [hx,h2] at this
  simp only [Bool.and_eq_true,Bool.or_eq_true,decide_eq_true_eq,List.all_eq_true] at this
  refine ⟨x,hx,this.1,fun e=>?_,fun k hk=>(this.2.2 k hk).1⟩
  rcases this.2.1 with h|h
  ·exact absurd e h
  ·exact Int.le_of_eq h
 ·have a:=(key i n h1).2
  have b:=(key i m h2).2
  rw [a] at b
  exact Option.some.inj b
def exP:Fun:=⟨⟨#[112]⟩,1,1,true,[⟨13,0⟩,⟨2,0⟩,⟨1,1⟩,⟨15,0⟩,⟨10,0⟩]⟩
def exQ:Fun:=⟨⟨#[113]⟩,0,0,true,[⟨4,0⟩,⟨10,0⟩]⟩
def exC:Cod:=⟨[],1,[exP,exQ]⟩
def callP:Cal:=⟨⟨#[112]⟩,[4]⟩
def callQ:Cal:=⟨⟨#[113]⟩,[]⟩
theorem exP_nm:isNm ⟨#[112]⟩=true:=by kernel_rfl
theorem exQ_nm:isNm ⟨#[113]⟩=true:=by kernel_rfl
theorem ex_dist:(exC.funcs.take 1).any (fun g=>strEq g.name exQ.name)=false:=by kernel_rfl
theorem ex_wrong:wrongB exC=false:=by kernel_rfl
theorem exP_sound:SoundF exC exP:=soundF_of [0,0,1,2,1] rfl (by decide) (by
 intro i hi
 have:(List.range 5).all (okAt exC exP [0,0,1,2,1])=true:=by kernel_rfl
 exact List.all_eq_true.1 this i (List.mem_range.2 hi))
theorem exQ_sound:SoundF exC exQ:=soundF_of [0,1] rfl (by decide) (by
 intro i hi
 have:(List.range 2).all (okAt exC exQ [0,1])=true:=by kernel_rfl
 exact List.all_eq_true.1 this i (List.mem_range.2 hi))
theorem ex_sound:SoundP exC:=by
 refine ⟨⟨by simp [exC],by simp [exC],by simp [exC],by simp [exC],by simp [exC],fun i x hx=>?_⟩,ex_wrong,fun f hf=>?_⟩
 ·match i,hx with
  | 0,hx=>
   obtain rfl:x=exP:=by simpa [exC] using hx.symm
   exact ⟨exP_nm,by unfold FunOkP;simp [exP],by simp⟩
  | 1,hx=>
   obtain rfl:x=exQ:=by simpa [exC] using hx.symm
   exact ⟨exQ_nm,by unfold FunOkP;simp [exQ],ex_dist⟩
  | i+2,hx=>simp [exC] at hx
 ·simp only [exC,List.mem_cons,List.not_mem_nil,or_false] at hf
  rcases hf with rfl|rfl
  ·exact exP_sound
  ·exact exQ_sound
theorem ex_small:Small exC:=fun y hy=>by
 simp only [exC,List.mem_cons,List.not_mem_nil,or_false] at hy
 rcases hy with rfl|rfl<;>simp [exP,exQ]
theorem exP_given (fuel:Int) (h:fuel=0∨fuel=1):givenE exC callP fuel=0:=by rcases h with rfl|rfl<;>kernel_rfl
theorem exQ_given:givenE exC callQ 0=0:=by kernel_rfl
/-- what the machines of the example ask for -/
def exM1:Mch:=⟨[],doneR 5,0,0,4⟩
def exM0:Mch:=⟨[],failR 20,0,0,1⟩
def exMq:Mch:=⟨[⟨1,1,[],[]⟩],⟨1,0,0,0,0⟩,0,0,1⟩
def exMd:Mch:=⟨[],doneR 9,0,0,2⟩
theorem ex_run1:Runs exC (startM exC callP 1) exM1:=by
 refine .go (m1:=⟨[⟨0,1,[4],[]⟩],noR,0,0,0⟩) (by kernel_rfl) (.go (m1:=⟨[⟨0,2,[4],[4]⟩],noR,0,0,1⟩) (by kernel_rfl) (.go (m1:=⟨[⟨0,3,[4],[4,1]⟩],noR,0,0,2⟩) (by kernel_rfl) (.go (m1:=⟨[⟨0,4,[4],[5]⟩],noR,0,0,3⟩) (by kernel_rfl) ?_)))
 exact Runs.stop (r:=doneR 5) (m1:=⟨[],noR,0,0,4⟩) (by kernel_rfl)
theorem ex_run0:Runs exC (startM exC callP 0) exM0:=
 Runs.stop (r:=failR 20) (m1:=⟨[⟨0,1,[4],[]⟩],noR,0,0,1⟩) (by kernel_rfl)
theorem ex_runq:Runs exC (startM exC callQ 0) exMq:=
 Runs.stop (r:=⟨1,0,0,0,0⟩) (m1:=⟨[⟨1,1,[],[]⟩],noR,0,0,1⟩) (by kernel_rfl)
theorem ex_next:Nexts exC exMq 9 exMd:=by
 refine .inr (.inl ⟨.inl rfl,[],⟨1,1,[],[]⟩,rfl,?_⟩)
 exact Runs.stop (r:=doneR 9) (m1:=⟨[],noR,0,0,2⟩) (by kernel_rfl)
theorem ex_valid:ValidP exC exMq:=by
 refine ⟨ex_sound,by simp [exMq],by simp [exMq],by simp [exMq],by simp [exMq],.inr ⟨by simp [exMq],fun k f hf=>?_⟩⟩
 match k,hf with
 | 0,hf=>
  obtain rfl:f=⟨1,1,[],[]⟩:=by simpa [exMq] using hf.symm
  exact ⟨exQ,⟨4,0⟩,0,⟨by decide,rfl,by decide,by simp [exQ],by simp,by simp⟩,by decide,rfl,by show askedB _ _=true;kernel_rfl,Reach.zero _ _,by kernel_rfl⟩
 | k+1,hf=>simp [exMq] at hf
theorem ex_fits:fitsB exC ⟨[9],[]⟩=true:=by kernel_rfl
theorem ex_plays:Plays exC exMq ⟨⟨[9],[]⟩,[],0⟩ ⟨0,9,0,0⟩ ⟨⟨[9],[]⟩,[⟨1,0,0⟩],0⟩:=
 .step (m':=exMd) (p':=⟨⟨[9],[]⟩,[⟨1,0,0⟩],0⟩) (n:=9) (by decide) (by decide) (by kernel_rfl) ex_next (.done rfl)
def idlePre:Nat→List Ins
 | 0=>[]
 | k+1=>idlePre k++[⟨1,1⟩,⟨30,0⟩]
def idleFun (k:Nat):Fun:=⟨⟨#[102]⟩,0,0,false,idlePre k++[⟨11,0⟩]⟩
def idleCod (k:Nat):Cod:=⟨[],0,[idleFun k]⟩
def idleCal:Cal:=⟨⟨#[102]⟩,[]⟩
theorem idlePre_len (k:Nat):(idlePre k).length=2*k:=by
 induction k with
 | zero=>rfl
 | succ k ih=>unfold idlePre;rw [List.length_append,ih];simp;omega
theorem idlePre_at (k i:Nat) (h:i<2*k):(idlePre k)[i]?=some (if i % 2=0 then ⟨1,1⟩ else ⟨30,0⟩):=by
 induction k with
 | zero=>omega
 | succ k ih=>
  unfold idlePre
  by_cases h1:i<2*k
  ·rw [List.getElem?_append_left (by rw [idlePre_len];exact h1)];exact ih h1
  ·rw [List.getElem?_append_right (by rw [idlePre_len];omega),idlePre_len]
   by_cases h2:i=2*k
   ·subst h2;simp
   ·obtain rfl:i=2*k+1:=by omega
    rw [show 2*k+1 - 2*k=1 by omega,if_neg (by omega)];rfl
theorem idle_at (k i:Nat):(idleFun k).code[i]?=if i<2*k then some (if i % 2=0 then ⟨1,1⟩ else ⟨30,0⟩) else if i=2*k then some ⟨11,0⟩ else none:=by
 unfold idleFun
 simp only []
 split
 ·rename_i h
  rw [List.getElem?_append_left (by rw [idlePre_len];exact h)];exact idlePre_at k i h
 ·rw [List.getElem?_append_right (by rw [idlePre_len];omega),idlePre_len]
  split
  ·rename_i h;subst h;simp
  ·rw [List.getElem?_eq_none (by simp;omega)]
theorem idle_len (k:Nat):(idleFun k).code.length=2*k+1:=by
 unfold idleFun;simp [idlePre_len]
theorem idle_mem {k:Nat} {x:Ins} (h:x∈(idleFun k).code):x=⟨1,1⟩∨x=⟨30,0⟩∨x=⟨11,0⟩:=by
 obtain ⟨i,hi⟩:=List.mem_iff_getElem?.1 h
 rw [idle_at] at hi
 split at hi
 ·split at hi
  ·left;simpa using hi.symm
  ·right;left;simpa using hi.symm
 split at hi
 ·right;right;simpa using hi.symm
 ·cases hi
theorem idle_reach {k i:Nat} {n:Int} (h:Reach (idleCod k) (idleFun k) i n):i≤2*k∧n=(i % 2:Nat):=by
 refine h (fun i n=>i≤2*k∧n=(i % 2:Nat)) ⟨by omega,by simp⟩ ?_
 rintro i n x j ⟨h1,h2⟩ hx hj
 rw [idle_at] at hx
 split at hx
 ·split at hx
  ·cases hx
   simp [succs] at hj
   subst hj
   simp [popsOf,pushesOf,isTwo,popT,pushT]
   omega
  ·cases hx
   simp [succs] at hj
   subst hj
   simp [popsOf,pushesOf,isTwo,popT,pushT]
   omega
 split at hx
 ·cases hx
  simp [succs] at hj
  subst hj
  simp [popsOf,pushesOf,isTwo,popT,pushT]
  omega
 ·cases hx
theorem idle_nm:isNm ⟨#[102]⟩=true:=by kernel_rfl
theorem idle_sound {k:Nat} (hk:k<50):SoundP (idleCod k):=by
 refine ⟨⟨by simp [idleCod],by simp [idleCod],by simp [idleCod],by simp [idleCod],by simp [idleCod],fun i x hx=>?_⟩,?_,fun f hf=>?_⟩
 ·have hi:i=0∧x=idleFun k:=by
   unfold idleCod at hx
   match i,hx with
   | 0,hx=>exact ⟨rfl,by simpa using hx.symm⟩
   | i+1,hx=>simp at hx
  obtain ⟨rfl,rfl⟩:=hi
  refine ⟨idle_nm,⟨by simp [idleFun],by simp [idleFun],by simp [idleFun],by simp [idleFun],by rw [idle_len];omega,by rw [idle_len];omega⟩,by simp⟩
 ·unfold wrongB
  rw [List.any_eq_false]
  intro f hf
  simp only [idleCod,List.mem_singleton] at hf
  subst hf
  simp only [Bool.not_eq_true,List.any_eq_false]
  intro x hx
  rcases idle_mem hx with rfl|rfl|rfl
  ·simp [insOk,limOf]
  ·simp [insOk,limOf]
  ·simp [insOk,limOf,idle_len];omega
 ·simp only [idleCod,List.mem_singleton] at hf
  subst hf
  refine ⟨fun i n h=>?_,fun i n m h1 h2=>by rw [(idle_reach h1).2,(idle_reach h2).2]⟩
  obtain ⟨h1,h2⟩:=idle_reach h
  by_cases hi:i<2*k
  ·by_cases he:i % 2=0
   ·refine ⟨⟨1,1⟩,by rw [idle_at,if_pos hi,if_pos he],by simp [popsOf,isTwo,popT];omega,by simp,fun j hj=>?_⟩
    simp [succs] at hj
    rw [idle_len];omega
   ·refine ⟨⟨30,0⟩,by rw [idle_at,if_pos hi,if_neg he],by simp [popsOf,isTwo,popT];omega,by simp,fun j hj=>?_⟩
    simp [succs] at hj
    rw [idle_len];omega
  ·refine ⟨⟨11,0⟩,by rw [idle_at,if_neg hi,if_pos (by omega)],by simp [popsOf,isTwo,popT];omega,by simp,fun j hj=>?_⟩
   simp [succs] at hj
   rw [idle_len];omega
/-- where the loop stands -/
def idleM (fuel:Int) (t pc:Nat):Mch:=⟨[⟨0,pc,[],if pc % 2=0 then [] else [1]⟩],noR,fuel,0,t⟩
def idleEnd (fuel:Int):Mch:=⟨[],failR 6,fuel,0,100000⟩
theorem idle_step {k:Nat} {fuel:Int} {t pc:Nat} (ht:t<100000) (hpc:pc≤2*k):∃ pc',pc'≤2*k∧stepP (idleCod k) (idleM fuel t pc)=.go (idleM fuel (t+1) pc'):=by
 have hx:=idle_at k pc
 have e:stepP (idleCod k) (idleM fuel t pc)=match (idleFun k).code[pc]? with
   | none=>.stop (failR 0) (idleM fuel t pc)
   | some x=>stepI (idleCod k) (idleM fuel t pc) [] ⟨0,pc,[],if pc % 2=0 then [] else [1]⟩ (idleFun k) x:=by
  unfold stepP
  rw [if_neg (by simp [idleM];omega)]
  rfl
 by_cases hi:pc<2*k
 ·by_cases he:pc % 2=0
  ·refine ⟨pc+1,by omega,?_⟩
   rw [e,hx,if_pos hi,if_pos he]
   simp [stepI,idleM,he]
   omega
  ·refine ⟨pc+1,by omega,?_⟩
   rw [e,hx,if_pos hi,if_neg he]
   simp [stepI,idleM,he]
   omega
 ·refine ⟨0,by omega,?_⟩
  obtain rfl:pc=2*k:=by omega
  rw [e,hx,if_neg hi,if_pos rfl]
  simp [stepI,idleM]
theorem idle_runs {k:Nat} {fuel:Int}:∀ (d t pc:Nat),t+d=100000→pc≤2*k→Runs (idleCod k) (idleM fuel t pc) (idleEnd fuel)
 | 0,t,pc,ht,hpc=>by
  have e:stepP (idleCod k) (idleM fuel t pc)=.stop (failR 6) (idleM fuel t pc):=by
   unfold stepP
   rw [if_pos (by simp [idleM];omega)]
  have:=Runs.stop e
  have e2:stopM (failR 6) (idleM fuel t pc)=idleEnd fuel:=by
   obtain rfl:t=100000:=by omega
   simp [stopM,idleM,idleEnd,failR]
  rwa [e2] at this
 | d+1,t,pc,ht,hpc=>by
  obtain ⟨pc',h1,h2⟩:=idle_step (k:=k) (fuel:=fuel) (t:=t) (pc:=pc) (by omega) hpc
  exact .go h2 (idle_runs d (t+1) pc' (by omega) h1)
theorem idle_idx (k:Nat):fnIdx (idleCod k) idleCal.proc=0:=by
 unfold fnIdx idxOf idleCod idleCal
 simp [List.findIdx?_cons,idleFun,strEq]
theorem idle_given {k:Nat} {fuel:Int} (h0:0≤fuel) (h1:fuel≤65535):givenE (idleCod k) idleCal fuel=0:=by
 unfold givenE
 rw [if_neg (by omega),idle_idx]
 simp [idleCod,idleFun,idleCal]
theorem idle_start {k:Nat} {fuel:Int}:startM (idleCod k) idleCal fuel=idleM fuel 0 0:=by
 unfold startM
 rw [idle_idx]
 simp [idleCod,idleFun,idleCal,idleM,noR]
theorem idle_law {k:Nat} {fuel:Int}:Runs (idleCod k) (startM (idleCod k) idleCal fuel) (idleEnd fuel):=by
 rw [idle_start];exact idle_runs 100000 0 0 rfl (by omega)
end Go.Proofs.YtbmeoklmachjpaaGreatDoor
