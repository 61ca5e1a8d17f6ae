import Derived.Test.YtigbfkiddlhhjaaGreatDoorThp
import Derived.Great.BuildSlice
set_option maxHeartbeats 1000000
set_option linter.all false
open Go.Value renaming slice→σ
open Go.Obj renaming cells→χ
namespace Go.Proofs.YtigbfkiddlhhjaaGreatDoor
open Go.RowKit Proofs.Tryz
variable {e:TypeId} {w w':World} {c c1 c':A1} {tag sz n b B:Nat} {T:Nat->Prop} {v:Value} {m:AV}
def WK {a:Nat} (g:w.heap[a]?=some (χ #[] e (0,0))) (f:c a=tag):Ao w c tag e sz (σ (some (π a 0)) 0 0) 0 []:=
 ⟨⟨ψ,.inr ⟨a,0,#[],rfl,Nat.zero_le _,g,Nr _,by unfold maxLen;omega,ψ,ψ⟩⟩,λb d=>by simp [Value.ownBlock] at d;subst d;exact f,ω⟩
def AT.paint (b tag:Nat) (h:Below w w w') (d:w.heap.size<=b):AT NO c (λx=>if x=b then tag else c x) w w':=
 ⟨h.os,h.tape,h.output,h.size,λx a _=>h.block x a,λx a=>if_neg ω,no 0⟩
def EN (n:Nat):A1:=λb=>if b<n then 99 else 0
def Ee :∀ b,n<=b->EN n b=0:=λb a=>if_neg ω
def Mv (h:b<n):EN n b=99:=if_pos h
def AT.seen (h:AT T (EN w) c1 w w') (f:∀ b,w.heap.size<=b->c b=0):JT (mask w' c1) (mask w' c):=λa v d=>by
 rw [GJ] at d ⊢;split at d
 .rename_i h1
  rw [if_pos (f _ (Nat.le_of_not_lt λe=>by rw [h.old _ e,Mv e] at h1;cases h1))];exact d
 .cases d
def AT.fresh (h:AT T (EN w) c1 w w') (c:c1 b=tag) (d:tag≠99:=by decide):w.heap.size<=b:=Nat.le_of_not_lt λa=>by
 rw [h.old _ a,Mv a] at c;exact d c.symm
def AT.below0 (h:AT T (EN w) c1 w w') (c:¬T 99):Below w w w':=
 ⟨h.os,h.tape,h.output,h.size,λb a=>h.kp b a (by rw [Mv a];exact c)⟩
def Ao.seen (h:AT T (EN w) c1 w w') (f:∀ b,w.heap.size<=b->c b=0) {xs:List Value} (a:Ao w' c1 tag e sz v n xs) (g:tag≠99:=by decide):Ao (mask w' c) c1 tag e sz v n xs:=
 ⟨JV a.1 (λb d=>Jj (f b (h.fresh (a.2.1 b d) g))),a.2⟩
def PX:(prog.info? 64).map (λi=>(i.zero,i.size,i.bytes))=some (some (.agg #[.string ⟨#[]⟩,ν]),2,40):=by kernel_rfl
def TM (t:Nat):Prop:=t≠0/\t≠99
def YK:¬TM 0:=λh=>h.1 rfl
def AT.tm {t:Nat} (h:AT (λk=>k=t) c c' w w') (a:t≠0) (b:t≠99):AT TM c c' w w':=h.mono (λk d=>by subst d;exact ⟨a,b⟩) YK
def ET {a d e:Nat} (h:a≠b) (k:a≠d) (l:a≠e):¬(((NO a\/a=b)\/a=d)\/a=e):=λx=>by
 rcases x with ((x|x)|x)|x
 .exact x
 .exact h x
 .exact k x
 .exact l x
def AT.t5 (h:AT NO c c' w w'):AT (λt=>t=5) c c' w w':=h.mono (λt h=>h.elim) δ
def WS:Tl (λ_=>JW):=λ_ _ _ _ _ _ _ _ a h=>⟨a _ _ h.1,a _ _ h.2.1,h.2.2⟩
def WR:Tl CW:=λ_ _ _ _ _ _ _ j a h=>by
 obtain ⟨b,c,d,e,⟨v,f,g⟩,i⟩:=h;exact ⟨a _ _ b,a _ _ c,a _ _ d,a _ _ e,⟨v,a _ _ f,g.ups WS j a⟩,i⟩
def BF.ups {a:Nat} {cd:AQ} (b:B<=a) (c:JT w w') (h:BF B w v cd):BF a w' v cd:=by
 obtain ⟨d,e,f,g,i,j⟩:=h;exact ⟨d,e,f,g.ups B5 b c,i.ups WR b c,j⟩
def CE.below {fv:Value} (h:CE w fv m w'):Below w w w':=by obtain ⟨F,_,_,h⟩:=h;exact h
def CE.fras {e:Option Addr} {f:Nat} (h:CE w (σ e m.J f) m w') (a:∀ b,w.heap.size<=b->c b=0) (d:IK m):AE w' (mask w' c) 4 (CK w') (σ e m.J f) m.J:=by
 obtain ⟨F,g,i,k⟩:=h;have:=(g.kp (w':=mask w' c) (λb j=>Jj (a b (i b j)))).reads d.1 d.2;rw [Hk] at this;exact this
def AE.tail {α:Type} {E:World->Nat->Nat->α->Prop} {o cap:Nat} {x:α} {l:List α} {a:Option Addr} (h:AE B w sz E (σ (some (π b o)) (x::l).length cap) (x::l)) (d:(if cap=1 then some ((π b o):Addr) else some (π b (o+sz)))=a):AE B w sz E (σ a l (cap - 1)) l:=by
 obtain ⟨k,m,e,f,g,n,c⟩:=h;cases e;simp only [List.length_cons] at f g;refine ⟨a,cap - 1,rfl,ω,ω,ω,?_⟩;split at d
 .left;exact List.eq_nil_of_length_eq_zero ω
 .rcases c with c|⟨b',o',e,hb,c⟩
  .cases c
  .cases e
   refine .inr ⟨b,o+sz,d.symm,hb,λi y j=>?_⟩;have:=c (i+1) y (by simpa using j);rwa [Nat.add_mul,Nat.one_mul,show o+(i*sz+sz)=o+sz+i*sz by omega] at this
def DL.mil {c:AQ} (hs:AU c) (b:Bv c) {g:AY} {P:Cd->Prop} (h:DL c g P):g.L.length<=1000000/\g.S.length<=1000000:=by
 obtain ⟨y,x,m,a,i,f,_,e,n⟩:=h;have j:=DJ (hs.wf a.fn) (hs.snd a.fn) e;have k:=b y (Lm a.fn);have l:=((hs.wf a.fn).pops x (Lm f)).1;have d:=hs.fok a.fn;unfold CX at d;have:=a.loc;omega
def P8 {c:AQ} (hs:AU c) {x:Bi} {k:Int} (h:AS c x k=0):x.args.length<=1000000:=by
 unfold AS at h;split at h
 .cases h
 .split at h
  .cases h
  .rename_i y hy
   split at h
   .cases h
   .split at h
    .cases h
    .rename_i hp
     have a:=hs.fok hy;unfold CX at a;omega
def ju {d:Array Oper} {rest:List Oper} {o:Oper} {a:Act} {Q:Exit->Act->World->Prop} (f:o.guard=none) (s x:Operand) (C:o.op=.call { callee:=.builtin .append,args:=#[s,x],argTypes:=#[22,22] })
  (p:Option Addr) (n cap:Nat) (l:List Int) (hs:a.eval s=σ p n cap) (hl:n=l.length) (m:Dq w c 1 (σ p n cap) l) (e:Nat) (y:Int) (E:a.eval x=σ (some (π e 0)) 1 1) (B:w.cell? (π e 0)=some (ι y)) (F:in64 y) (G:n<=1000000) (i:∀ b,w.heap.size<=b->c b=0)
  (h:∀ g cap w' c',Dq w' c' 1 (σ (some (π g 0)) (n+1) cap) (l++[y])->AT (λt=>t=1) c c' w w'->(∀ b,w'.heap.size<=b->c' b=0)->wpList prog d Q rest (a.put o.dst (σ (some (π g 0)) (n+1) cap)) w'):wpList prog d Q (o::rest) a w:=by
 subst hl;refine wpList_plain f λ_ A=>?_;refine Dz (λt=>t=1) s x 22 3 C underlying22 Cx rfl δ δ (c:=c) (tag:=1) hs m.1 (π e 0) 1 1 [ι y] E rfl (λj u k=>?_) (by simp [Value.oneCell']) δ ω rfl δ i (λg cap w' c' r v z _=>A _ _ (h g cap w' c' ⟨by rw [List.length_append,List.map_append];exact r,λq D=>?_⟩ v z))
 .rw [GB]
  cases j with
  | zero=>simp at k;subst k;exact B
  | succ j=>simp at k
 .rcases List.mem_append.1 D with h|h
  .exact m.2 q h
  .simp at h;subst h;exact F
def Iv.ne {c:AQ} (h:Iv c m):m.J≠[]:=by
 obtain ⟨b,f,a⟩:=h.waits;rw [a.fr];simp
