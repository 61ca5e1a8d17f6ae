import Derived.Test.YtigbfkiddlhhjaaGreatDoorCpc
set_option linter.all false
open Option renaming some→ς
open Go.Value renaming slice→σ
open Go.Obj renaming cells→χ
namespace Go.Proofs.YtigbfkiddlhhjaaGreatDoor
open Go.RowKit Proofs.Tryz
variable {a:Act} {sl:Nat->Nat} {f:Nat->Value} {l:List Nat} {i:Nat} {c:AQ} {m:Mm} {cs:List (List Bi)} {fuel:Int}
def GS (a:Act) (sl:Nat->Nat) (f:Nat->Value):List Nat->Act
 | []=>a
 | i::l=>(GS a sl f l).put (ς (sl i)) (f i)
def Ja (a:Act) (sl:Nat->Nat) (f:Nat->Value):∀ l,(GS a sl f l).tmps.size=a.tmps.size
 | []=>rfl
 | _::l=>(BQ _ _ _).trans (Ja a sl f l)
def K5 (a:Act) (sl:Nat->Nat) (f:Nat->Value) (d:Nat):∀ l:List Nat,(∀ i∈l,sl i≠d)->(GS a sl f l).tmps[d]?=a.tmps[d]?
 | [],_=>rfl
 | i::l,h=>by show ((GS a sl f l).put (ς (sl i)) (f i)).tmps[d]?=_;rw [A0 _ _ _ _ (λe=>h i ψ (by simpa using e))];exact K5 a sl f d l (λj b=>h j (by simp [b]))
def SA {d:Nat} (h:∀ i∈l,sl i≠d):(GS a sl f l).eval (.tmp d)=a.eval (.tmp d):=by
 show (GS a sl f l).tmps.getD d undef=a.tmps.getD d undef;rw [Array.getD_eq_getD_getElem?,Array.getD_eq_getD_getElem?,K5 a sl f d l h]
def K4 {g:Nat->Value}:∀ {l:List Nat},(∀ i∈l,f i=g i)->GS a sl f l=GS a sl g l
 | [],_=>rfl
 | i::l,h=>by show (GS a sl f l).put _ _=(GS a sl g l).put _ _;rw [K4 (l:=l) (λj b=>h j (by simp [b])),h i ψ]
def O0 (a:Act) {j:Nat} (u v:Value) (h:i≠j):(a.put (ς i) u).put (ς j) v=(a.put (ς j) v).put (ς i) u:=by
 refine NA rfl (λd=>?_);by_cases c:d=j
 .subst c
  rw [A0 (a.put (ς d) v) _ _ _ (λe=>h (by simpa using e))];by_cases b:d<a.tmps.size
  .rw [CA _ _ _ (by rw [BQ];exact b),CA _ _ _ b]
  .rw [Array.getElem?_eq_none (by rw [BQ,BQ];omega),Array.getElem?_eq_none (by rw [BQ];omega)]
 .rw [A0 _ _ _ _ (λe=>c (by simpa using e.symm))]
  by_cases f:d=i
  .subst f
   by_cases b:d<a.tmps.size
   .rw [CA _ _ _ b,CA _ _ _ (by rw [BQ];exact b)]
   .rw [Array.getElem?_eq_none (by rw [BQ];omega),Array.getElem?_eq_none (by rw [BQ,BQ];omega)]
  .rw [A0 _ _ _ _ (λe=>f (by simpa using e.symm)),A0 _ _ _ _ (λe=>f (by simpa using e.symm)),A0 _ _ _ _ (λe=>c (by simpa using e.symm))]
def SB {m:List Nat} (o:l.Perm m):(∀ i∈l,∀ j∈l,sl i=sl j->i=j)->GS a sl f l=GS a sl f m:=by
 induction o with
 | nil=>intro _;rfl
 | cons x _ p=>intro h;exact congrArg (λq:Act=>q.put (ς (sl x)) (f x)) (p (λi b j c=>h i (by simp [b]) j (by simp [c])))
 | swap x y l=>
  intro h;show ((GS a sl f l).put (ς (sl x)) (f x)).put (ς (sl y)) (f y)=((GS a sl f l).put (ς (sl y)) (f y)).put (ς (sl x)) (f x);by_cases e:x=y
  .subst e;rfl
  .exact O0 _ _ _ (λn=>e (h x ψ y ψ n))
 | trans k _ d g=>intro h;exact (d h).trans (g (λi b j c=>h i (k.mem_iff.2 b) j (k.mem_iff.2 c)))
def X4 {o:Oper} {K:Act->World->Prop} {Q:Exit->Act->World->Prop} {w:World} (x:Nat) (t e:TypeId) (y:o.op=.makeSlice t (.tmp x) (.tmp x)) (A:prog.underlying t=ς (.slice e)) {z:Value} {sz bytes:Nat} (u:(prog.info? e).map (λi=>(i.zero,i.size,i.bytes))=ς (ς z,sz,bytes)) (f:bytes<=1024) (n:Nat) (B:a.eval (.tmp x)=ι (n:Int)) (v:n<=1000)
  (h:∀ g,g.heap[(w:Nat)]?=ς (χ (madeCells z.cells (n*sz)) e (0,0))->(∀ (c:A1) d,(∀ b,(w:Nat)<=b->c b=0)->∃ j,AT NO c j w g/\(∀ b,g.heap.size<=b->j b=0)/\Ao g j d e sz (σ (ς (π w 0)) n n) n (madeCells z.cells (n*sz)).toList)->K (a.put o.dst (σ (ς (π w 0)) n n)) g):o.wp prog a w K Q:=by
 obtain ⟨l,m,p,q,r⟩:=info_parts u;have C:l.bytes*n<=1024*1000:=Nat.mul_le_mul (by rw [r];exact f) v;have k:=run_make w t e l z A m p .i64 .i64 (n:Int) (n:Int) ω ω (by rw [<-Int.natCast_mul];omega) ω;simp only [Int.toNat_natCast,q] at k;have D:(World.alloc w (χ (madeCells z.cells (n*sz)) e)).heap.size=(w:Nat)+1:=by simp
 unfold Oper.wp;simp [execOp,y,B,k];refine h _ (Hn _ _) (λc d s=>⟨λx=>if x=(w:Nat) then d else c x,AT.paint _ _ (AA _ _) (Nr _),λb f=>?_,⟨World.ownsRow_lit w _ n (Nat.zero_le _) (by unfold maxLen;omega) (size_madeCells _ _),λb f=>?_,ω⟩⟩)
 .show (if _ then _ else _)=_
  rw [if_neg ω];exact s b ω
 .simp [Value.ownBlock] at f
  exact if_pos f
def Eh (c:AQ):List Bi->Int
 | []=>0
 | x::l=>if AS c x 0=0 then Eh c l else AS c x 0
def Ed (c:AQ):List (List Bi)->Int
 | []=>0
 | l::r=>if Eh c l=0 then Ed c r else Eh c l
def GV :∀ {l:List Bi},(∀ y∈l,AS c y 0=0)->Eh c l=0
 | [],_=>rfl
 | x::l,h=>by unfold Eh;rw [if_pos (h x ψ)];exact GV (λy a=>h y (by simp [a]))
def J6 :∀ {l:List Bi} {p:Nat} {x:Bi},l[p]?=ς x->(∀ y∈l.take p,AS c y 0=0)->AS c x 0≠0->Eh c l=AS c x 0
 | [],_,_,h,_,_=>by simp at h
 | z::l,0,x,h,_,hx=>by simp at h;subst h;unfold Eh;rw [if_neg hx]
 | z::l,p+1,x,h,hall,hx=>by unfold Eh;rw [if_pos (hall z ψ)];exact J6 (by simpa using h) (λy a=>hall y (by simp [a])) hx
def Gp :∀ {cs:List (List Bi)},(∀ l∈cs,∀ y∈l,AS c y 0=0)->Ed c cs=0
 | [],_=>rfl
 | l::r,h=>by unfold Ed;rw [if_pos (GV (h l ψ))];exact Gp (λb a=>h b (by simp [a]))
def Km :∀ {cs:List (List Bi)} {k:Nat} {l:List Bi} {p:Nat} {x:Bi},cs[k]?=ς l->(∀ z∈cs.take k,∀ y∈z,AS c y 0=0)->l[p]?=ς x->(∀ y∈l.take p,AS c y 0=0)->AS c x 0≠0->Ed c cs=AS c x 0
 | [],_,_,_,_,h,_,_,_,_=>by simp at h
 | z::r,0,l,p,x,h,_,hp,hl,hx=>by simp at h;subst h;have e:=J6 hp hl hx;unfold Ed;rw [if_neg (by rw [e];exact hx),e]
 | z::r,k+1,l,p,x,h,hall,hp,hl,hx=>by unfold Ed;rw [if_pos (GV (hall z ψ))];exact Km (by simpa using h) (λy a=>hall y (by simp [a])) hp hl hx
def ZS :∀ {l:List Bi},Eh c l=0->∀ y∈l,AS c y 0=0
 | [],_,_,a=>by cases a
 | x::l,h,y,a=>by
  unfold Eh at h;split at h
  .rename_i h0
   rcases List.mem_cons.1 a with rfl|a
   .exact h0
   .exact ZS h y a
  .rename_i h0
   exact absurd h h0
def Y5 :∀ {cs:List (List Bi)},Ed c cs=0->∀ l∈cs,∀ y∈l,AS c y 0=0
 | [],_,_,a=>by cases a
 | x::r,h,l,a=>by
  unfold Ed at h;split at h
  .rename_i h0
   rcases List.mem_cons.1 a with rfl|a
   .exact ZS h0
   .exact Y5 h l a
  .rename_i h0
   exact absurd h h0
noncomputable def GO (c:AQ) (m:Mm) (cs:List (List Bi)) (fuel:Int):Int:=
 if ¬(DW c=true/\Bb c m=true) then 1 else if fuel<0\/1048576<fuel then 2 else if cs.length=0 then 3 else if 8<cs.length\/cs.any (λl=>decide (2000<(l:Int)))=true then 4 else Ed c cs
def WX:GC AI:=by
 unfold GC Rq.wf AI in64;simp
def NB :∀ {l:List Nat},(∀ j∈l,sl j=sl i->j=i)->i∈l->sl i<a.tmps.size->(GS a sl f l).tmps[sl i]?=ς (f i)
 | j::l,h,hi,hs=>by
  by_cases e:j=i
  .subst e
   exact CA _ _ _ (by rw [Ja];exact hs)
  .show ((GS a sl f l).put (ς (sl j)) (f j)).tmps[sl i]?=_
   rw [A0 _ _ _ _ (λk=>e (h j ψ (by simpa using k)))];exact NB (λk b=>h k (by simp [b])) (by rcases List.mem_cons.1 hi with k|k;exact absurd k.symm e;exact k) hs
def TT (h:DW c=false\/Bb c m=false):GO c m cs fuel=1:=by
 unfold GO;rw [if_pos (λk=>by rcases h with h|h;rw [h] at k;cases k.1;rw [h] at k;cases k.2)]
def TY (h:DW c=true/\Bb c m=true) (a:fuel<0\/1048576<fuel):GO c m cs fuel=2:=by
 unfold GO;rw [if_neg (λk=>k h),if_pos a]
def Wm (h:DW c=true/\Bb c m=true) (b:0<=fuel/\fuel<=1048576) (a:cs.length=0):GO c m cs fuel=3:=by
 unfold GO;rw [if_neg (λk=>k h),if_neg ω,if_pos a]
def TU (h:DW c=true/\Bb c m=true) (d:0<=fuel/\fuel<=1048576) (a:cs.length≠0) (b:8<cs.length\/cs.any (λl=>decide (2000<(l:Int)))=true):GO c m cs fuel=4:=by
 unfold GO;rw [if_neg (λk=>k h),if_neg ω,if_neg a,if_pos b]
def Wn (h:DW c=true/\Bb c m=true) (e:0<=fuel/\fuel<=1048576) (a:cs.length≠0) (d:cs.length<=8) (b:cs.any (λl=>decide (2000<(l:Int)))=false):GO c m cs fuel=Ed c cs:=by
 unfold GO;rw [if_neg (λk=>k h),if_neg ω,if_neg a,if_neg (λk=>by rcases k with k|k;omega;rw [b] at k;cases k)]
structure Xe (m:Mm) (cs:List (List Bi)):Prop where
 g:m.G.length<=1000000
 n:m.N.length<=4096
 f:∀ x∈m.N,x.f.length<=1000000
 a:∀ l∈cs,∀ x∈l,x.args.length<=1000000
