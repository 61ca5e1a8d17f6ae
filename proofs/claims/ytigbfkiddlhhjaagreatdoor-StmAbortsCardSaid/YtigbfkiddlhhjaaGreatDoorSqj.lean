import Derived.Test.YtigbfkiddlhhjaaGreatDoorSqi
import Derived.Test.YtigbfkiddlhhjaaGreatDoorNwn
set_option maxHeartbeats 2000000
set_option maxRecDepth 100000
set_option linter.all false
open Option renaming some→ς
open List renaming mem_cons→ϰ
open Go.Value renaming slice→σ
open Go.Obj renaming cells→χ
namespace Go.Proofs.YtigbfkiddlhhjaaGreatDoor
open Go.RowKit Proofs.Tryz
variable {c:AQ} {s a b s1 s' s2:Tra} {i:Nat} {x:Trx} {v:Int} {l:List Int}
def BegS.det {y:Trx} (h:BegS c s i x) (k:BegS c s i y):x=y:=by
 obtain ⟨g,l,m,b,d,rfl⟩:=h;obtain ⟨f,j,n,a,e,rfl⟩:=k;rw [b] at a;cases a;rw [Kb d e]
def CommitS.det {f:Int} (h:CommitS c s i x f v a) (k:CommitS c s i x f v b):a=b:=by
 rcases h with ⟨d,y,e,rfl⟩|⟨d,rfl⟩
 .rcases k with ⟨_,z,hz,rfl⟩|⟨k1,_⟩
  .rw [e.det hz]
  .rw [d] at k1;cases k1
 .rcases k with ⟨k1,_⟩|⟨_,rfl⟩
  .rw [d] at k1;cases k1
  .rfl
def DoS.det (h:DoS c s i x a) (k:DoS c s i x b):a=b:=by
 rcases h with ⟨d,e,m,f,rfl⟩|⟨d,e,m,f,rfl⟩|⟨d,e,m,f,rfl⟩|⟨d,e,f⟩
 .rcases k with ⟨_,_,m',k3,rfl⟩|⟨_,k2,_⟩|⟨k1,_⟩|⟨k1,_⟩
  .rw [Ri f k3]
  .exact absurd e k2
  .exact absurd d k1
  .exact absurd d k1
 .rcases k with ⟨_,k2,_⟩|⟨_,_,m',k3,rfl⟩|⟨k1,_⟩|⟨k1,_⟩
  .exact absurd k2 e
  .rw [Ri f k3]
  .exact absurd d k1
  .exact absurd d k1
 .rcases k with ⟨k1,_⟩|⟨k1,_⟩|⟨_,_,m',k3,rfl⟩|⟨_,k2,_⟩
  .exact absurd k1 d
  .exact absurd k1 d
  .rw [Ri f k3]
  .exact absurd e k2
 .rcases k with ⟨k1,_⟩|⟨k1,_⟩|⟨_,k2,_⟩|⟨_,_,k3⟩
  .exact absurd k1 d
  .exact absurd k1 d
  .exact absurd k2 e
  .exact f.det k3
def GoS.det {g:Bool} (h:GoS c s i x g a) (k:GoS c s i x g b):a=b:=by
 rcases h with ⟨d,e,rfl⟩|⟨d,e,f⟩|⟨d,f⟩
 .rcases k with ⟨_,_,rfl⟩|⟨_,k2,_⟩|⟨k1,_⟩
  .rfl
  .rw [e] at k2;cases k2
  .rw [d] at k1;cases k1
 .rcases k with ⟨_,k2,_⟩|⟨_,_,k3⟩|⟨k1,_⟩
  .rw [e] at k2;cases k2
  .exact f.det k3
  .rw [d] at k1;cases k1
 .rcases k with ⟨k1,_⟩|⟨k1,_⟩|⟨_,k3⟩
  .rw [d] at k1;cases k1
  .rw [d] at k1;cases k1
  .exact f.det k3
def gw.det (h:gw c s i a) (k:gw c s i b):a=b:=by
 obtain ⟨x,s2,j,rfl,l⟩:=h;obtain ⟨o,n,f,rfl,g⟩:=k;rw [j] at f;cases f;rcases l with ⟨d,y,m,e⟩|⟨d,e⟩
 .rcases g with ⟨_,y',k4,k5⟩|⟨k3,_⟩
  .obtain rfl:=m.det k4
   rw [e.det k5]
  .exact absurd d k3
 .rcases g with ⟨k3,_⟩|⟨_,k5⟩
  .exact absurd k3 d
  .rw [e.det k5]
def snoc_same {α:Type} {l d:List α} {a b:α} (h:l++[a]=d++[b]):l=d/\a=b:=by
 have c:=List.append_inj' h rfl;exact ⟨c.1,by simpa using c.2⟩
def PathS.det (h:PathS c s l s1):∀ {s2},PathS c s l s2->s1=s2:=by
 induction h with
 | nil=>
  intro s2 k;generalize a:([]:List Int)=l' at k;cases k with
  | nil=>rfl
  | snoc=>simp at a
 | @snoc g i _ _ _ _ b d=>
  intro s2 k;generalize a:g++[i]=l' at k;cases k with
  | nil=>simp at a
  | snoc e j f=>obtain ⟨rfl,rfl⟩:=snoc_same a;obtain rfl:=d e;exact b.det f
inductive ChainS (c:AQ):Tra->List Int->Tra->Prop
 | nil (s:Tra):ChainS c s [] s
 | cons {s s1 s2:Tra} {t:Int} {l:List Int} (hr:refE s t=0) (hs:gw c s t.toNat s1) (h:ChainS c s1 l s2):ChainS c s (t::l) s2
def ChainS.path {f:Tra} (h:ChainS c s l s'):∀ (p:List Int),PathS c f p s->∀ i,i<=l.length->∃ si,PathS c f (p++l.take i) si/\(∀ t,l[i]?=ς t->refE si t=0)/\(i=l.length->si=s'):=by
 induction h with
 | nil s=>intro p b i d;exact ⟨s,by simpa using b,λt a=>by simp at a,λ_=>rfl⟩
 | @cons s s1 s2 t l e j h k=>
  intro p b i d;cases i with
  | zero=>exact ⟨s,by simpa using b,λg a=>by simp at a;rw [<-a];exact e,λh=>by simp at h⟩
  | succ i=>obtain ⟨si,m,n,o⟩:=k (p++[t]) (.snoc b e j) i (by simpa using d);exact ⟨si,by simpa using m,λg a=>n g (by simpa using a),λh=>o (by simpa using h)⟩
def ChainS.run (h:ChainS c s l s') (b:i<=l.length) (e:PathS c s (l.take i) s1) (a:i=l.length\/∃ t,l[i]?=ς t/\refE s1 t≠0):i=l.length/\s1=s':=by
 obtain ⟨si,g,j,k⟩:=h.path [] .nil i b;obtain rfl:=e.det (by simpa using g);rcases a with rfl|⟨t,f,d⟩
 .exact ⟨rfl,k rfl⟩
 .exact absurd (j t f) d
def FinS.one (b:∀ i s2,gw c s i s2->s2=s1) (h:FinS c s s'):s'=s\/FinS c s1 s':=by
 cases h with
 | nil=>exact .inl rfl
 | step d a h=>rw [b _ _ a] at h;exact .inr h
def gw.none (h:gw c s i s2):¬(s.active[i]?=ς zeroX/\s.A[i]?=ς []):=by
 rintro ⟨d,e⟩;obtain ⟨x,j,b,-,f⟩:=h;rw [d] at b;cases b;rcases f with ⟨_,y,⟨g,l,m,a,_⟩,_⟩|⟨a,_⟩
 .rw [e] at a;cases a
 .exact a rfl
def gw.second (h:gw c s i s2) (a:s.active=[zeroX,x]) (e:s.A[0]?=ς []) (d:gw c s 1 s1):s2=s1:=by
 match i,h with
 | 0,h=>exact absurd ⟨by rw [a];rfl,e⟩ h.none
 | 1,h=>exact h.det d
 | i+2,h=>obtain ⟨y,_,b,_⟩:=h;rw [a] at b;simp at b
def ctF:BK:=⟨⟨#[97,100,100]⟩,0,0,false,[⟨4,0⟩,⟨1,1⟩,⟨15,0⟩,⟨5,0⟩,⟨10,0⟩]⟩
def ctC:AQ:=⟨[],1,[ctF]⟩
def ctX:Bi:=⟨⟨#[97,100,100]⟩,[]⟩
def ctF_nm:Gi ⟨#[97,100,100]⟩=true:=by kernel_rfl
def ct_wrong:Dl ctC=false:=by kernel_rfl
def ctF_sound:CQ ctC ctF:=Ro [0,1,2,1,0] rfl δ (by
 intro i a;have:(List.range 5).all (VP ctC ctF [0,1,2,1,0])=true:=by kernel_rfl
 exact List.all_eq_true.1 this i (List.mem_range.2 a))
def ct_sound:AU ctC:=by
 refine ⟨⟨by simp [ctC],by simp [ctC],by simp [ctC],by simp [ctC],by simp [ctC],λi x a=>?_⟩,ct_wrong,λf b=>?_⟩
 .match i,a with
  | 0,a=>
   obtain rfl:x=ctF:=by simpa [ctC] using a.symm
   exact ⟨ctF_nm,by unfold CX;simp [ctF],ψ⟩
  | i+1,a=>simp [ctC] at a
 .simp only [ctC,ϰ,List.not_mem_nil,or_false] at b
  rcases b with rfl;exact ctF_sound
def ct_small:Bv ctC:=λy a=>by
 simp only [ctC,ϰ,List.not_mem_nil,or_false] at a;rcases a with rfl;simp [ctF]
def ct_given:AS ctC ctX 0=0:=by kernel_rfl
def ct_fits:Bb ctC ⟨[0],[]⟩=true:=by kernel_rfl
def ctCs:List (List Bi):=[[ctX],[ctX]]
def ct_all:∀ l∈ctCs,∀ y∈l,AS ctC y 0=0:=λl a y b=>by
 simp only [ctCs,ϰ,List.not_mem_nil,or_false,or_self] at a;subst a;simp only [ϰ,List.not_mem_nil,or_false] at b;subst b;exact ct_given
def ct_new:GO ctC ⟨[0],[]⟩ ctCs 9=0:=by
 unfold GO;rw [CZ ct_sound,ct_fits];rw [if_neg ψ,if_neg ω,if_neg (by simp [ctCs]),if_neg (by simp [ctCs])];exact Gp ct_all
def ctR:AV:=⟨[⟨0,1,[],[]⟩],⟨1,0,0,0,0⟩,9,0,1⟩
def ctW (v:Int):AV:=⟨[⟨0,4,[],[]⟩],⟨2,0,0,v,0⟩,9,0,4⟩
def ctE:AV:=⟨[],EE 0,9,0,5⟩
def ct_start:Cf ctC (CF ctC ctX 9) ctR:=Cf.stop (r:=⟨1,0,0,0,0⟩) (m1:=⟨[⟨0,1,[],[]⟩],Eg,9,0,1⟩) κ
def ct_read0:ED ctC ctR 0 (ctW 1):=
 .inr (.inl ⟨.inl rfl,[],⟨0,1,[],[]⟩,rfl,.go (m1:=⟨[⟨0,2,[],[0,1]⟩],Eg,9,0,2⟩) κ (.go (m1:=⟨[⟨0,3,[],[1]⟩],Eg,9,0,3⟩) κ (Cf.stop (r:=⟨2,0,0,1,0⟩) (m1:=⟨[⟨0,4,[],[]⟩],Eg,9,0,4⟩) κ))⟩)
def ct_read1:ED ctC ctR 1 (ctW 2):=
 .inr (.inl ⟨.inl rfl,[],⟨0,1,[],[]⟩,rfl,.go (m1:=⟨[⟨0,2,[],[1,1]⟩],Eg,9,0,2⟩) κ (.go (m1:=⟨[⟨0,3,[],[2]⟩],Eg,9,0,3⟩) κ (Cf.stop (r:=⟨2,0,0,2,0⟩) (m1:=⟨[⟨0,4,[],[]⟩],Eg,9,0,4⟩) κ))⟩)
def ct_write {n:Int}:ED ctC (ctW v) n ctE:=.inr (.inr ⟨rfl,Cf.stop (r:=EE 0) (m1:=⟨[],Eg,9,0,5⟩) κ⟩)
def ctO:CD:=⟨0,0,0,0,0⟩
def ctA (g k:Int) (x0 x1:Trx) (l0 l1:List Bi) (r0 r1:List CD) (b0 b1 e0 e1:List Int) (o:List (Int×Int)) (a n:Int):Tra:=⟨⟨[g],[]⟩,[[k]],k,9,[x0,x1],[l0,l1],[r0,r1],[b0,b1],[e0,e1],o,a,n⟩
def ctS0:Tra:=ctA 0 0 zeroX zeroX [ctX] [ctX] [] [] [] [] [] [] [] 0 0
def ctS1:Tra:=ctA 0 0 ⟨ctW 1,0,0,[(0,0)],[]⟩ zeroX [ctX] [ctX] [] [] [0] [] [] [] [] 0 1
def ctS2:Tra:=ctA 0 0 ⟨ctW 1,0,0,[(0,0)],[]⟩ ⟨ctW 1,0,0,[(0,0)],[]⟩ [ctX] [ctX] [] [] [0] [1] [] [] [] 0 2
def ctS3:Tra:=ctA 0 0 ⟨ctE,0,0,[(0,0)],[(0,0,1)]⟩ ⟨ctW 1,0,0,[(0,0)],[]⟩ [ctX] [ctX] [] [] [0] [1] [] [] [] 0 3
def ctS4:Tra:=ctA 0 0 ⟨ctE,0,0,[(0,0)],[(0,0,1)]⟩ ⟨ctE,0,0,[(0,0)],[(0,0,1)]⟩ [ctX] [ctX] [] [] [0] [1] [] [] [] 0 4
def ctS5:Tra:=ctA 1 1 zeroX ⟨ctE,0,0,[(0,0)],[(0,0,1)]⟩ [] [ctX] [ctO] [] [0] [1] [4] [] [(0,0)] 0 5
def ctS6:Tra:=ctA 1 1 zeroX ⟨ctR,1,0,[],[]⟩ [] [ctX] [ctO] [] [0] [1] [4] [] [(0,0)] 1 6
def ctS7:Tra:=ctA 1 1 zeroX ⟨ctW 2,1,0,[(0,0)],[]⟩ [] [ctX] [ctO] [] [0] [1] [4] [] [(0,0)] 1 7
def ctS8:Tra:=ctA 1 1 zeroX ⟨ctE,1,0,[(0,0)],[(0,0,2)]⟩ [] [ctX] [ctO] [] [0] [1] [4] [] [(0,0)] 1 8
def ctS9:Tra:=ctA 2 2 zeroX zeroX [] [] [ctO] [ctO] [0] [1] [4] [8] [(0,0),(1,0)] 1 9
def ct_newS:ff ⟨[0],[]⟩ 9 ctCs=ctS0:=rfl
def ct01:gw ctC ctS0 0 ctS1:=⟨zeroX,_,rfl,rfl,.inl ⟨rfl,⟨ctR,0,0,[],[]⟩,⟨ctX,[],ctR,rfl,ct_start,rfl⟩,.inr (.inr ⟨rfl,.inr (.inr (.inl ⟨δ,δ,ctW 1,ct_read0,rfl⟩))⟩)⟩⟩
def ct12:gw ctC ctS1 1 ctS2:=⟨zeroX,_,rfl,rfl,.inl ⟨rfl,⟨ctR,0,0,[],[]⟩,⟨ctX,[],ctR,rfl,ct_start,rfl⟩,.inr (.inr ⟨rfl,.inr (.inr (.inl ⟨δ,δ,ctW 1,ct_read0,rfl⟩))⟩)⟩⟩
def ct23:gw ctC ctS2 0 ctS3:=⟨⟨ctW 1,0,0,[(0,0)],[]⟩,_,rfl,rfl,.inr ⟨δ,.inr (.inr ⟨rfl,.inr (.inr (.inl ⟨δ,δ,ctE,ct_write,rfl⟩))⟩)⟩⟩
def ct34:gw ctC ctS3 1 ctS4:=⟨⟨ctW 1,0,0,[(0,0)],[]⟩,_,rfl,rfl,.inr ⟨δ,.inr (.inr ⟨rfl,.inr (.inr (.inl ⟨δ,δ,ctE,ct_write,rfl⟩))⟩)⟩⟩
def ct45:gw ctC ctS4 0 ctS5:=⟨⟨ctE,0,0,[(0,0)],[(0,0,1)]⟩,_,rfl,rfl,.inr ⟨δ,.inr (.inl ⟨rfl,rfl,.inr ⟨rfl,rfl⟩⟩)⟩⟩
def ct56:gw ctC ctS5 1 ctS6:=⟨⟨ctE,0,0,[(0,0)],[(0,0,1)]⟩,_,rfl,rfl,.inr ⟨δ,.inr (.inl ⟨rfl,rfl,.inl ⟨rfl,⟨ctR,1,0,[],[]⟩,⟨ctX,[],ctR,rfl,ct_start,rfl⟩,rfl⟩⟩)⟩⟩
def ct67:gw ctC ctS6 1 ctS7:=⟨⟨ctR,1,0,[],[]⟩,_,rfl,rfl,.inr ⟨δ,.inr (.inr ⟨rfl,.inr (.inr (.inl ⟨δ,δ,ctW 2,ct_read1,rfl⟩))⟩)⟩⟩
def ct78:gw ctC ctS7 1 ctS8:=⟨⟨ctW 2,1,0,[(0,0)],[]⟩,_,rfl,rfl,.inr ⟨δ,.inr (.inr ⟨rfl,.inr (.inr (.inl ⟨δ,δ,ctE,ct_write,rfl⟩))⟩)⟩⟩
def ct89:gw ctC ctS8 1 ctS9:=⟨⟨ctE,1,0,[(0,0)],[(0,0,2)]⟩,_,rfl,rfl,.inr ⟨δ,.inr (.inl ⟨rfl,rfl,.inr ⟨rfl,rfl⟩⟩)⟩⟩
def ct_chain:ChainS ctC ctS0 [0,1,0,1,0,1] ctS6:=.cons rfl ct01 (.cons rfl ct12 (.cons rfl ct23 (.cons rfl ct34 (.cons rfl ct45 (.cons rfl ct56 (.nil _))))))
def ct_fin (h:FinS ctC ctS6 s'):s'.U<65536/\(enS s' s'.A.length=[]->s'=ctS9):=by
 rcases FinS.one (λi s2 a=>a.second rfl rfl ct67) h with rfl|h
 .exact ⟨δ,λh=>by cases h⟩
 rcases FinS.one (λi s2 a=>a.second rfl rfl ct78) h with rfl|h
 .exact ⟨δ,λh=>by cases h⟩
 rcases FinS.one (λi s2 a=>a.second rfl rfl ct89) h with rfl|h
 .exact ⟨δ,λh=>by cases h⟩
 cases h with
 | nil=>exact ⟨δ,λ_=>rfl⟩
 | @step _ _ _ i c a h=>
  match i,a with
  | 0,a=>exact absurd ⟨rfl,rfl⟩ a.none
  | 1,a=>exact absurd ⟨rfl,rfl⟩ a.none
  | i+2,a=>obtain ⟨y,_,b,_⟩:=a;cases b
def ct_inv:TraI ctC ctS0:=by
 rw [<-ct_newS];refine ⟨newS_inv ct_sound (Ik.1 ct_fits) ω ct_all (λl a=>?_),newS_outs _ _ _,δ,δ,δ⟩;simp only [ctCs,ϰ,List.not_mem_nil,or_false,or_self] at a;subst a;simp
def ctCells (l:List Cd):List Value:=l.flatMap (λx=>[ι x.op,ι x.a])
def ctCells_at:∀ {l:List Cd} {i:Nat} {x:Cd},l[i]?=ς x->(ctCells l)[i*2]?=ς (ι x.op)/\(ctCells l)[i*2+1]?=ς (ι x.a)
 | [],_,_,h=>by simp at h
 | y::l,0,x,h=>by simp at h;subst h;simp [ctCells]
 | y::l,i+1,x,h=>by
  obtain ⟨a,b⟩:=ctCells_at (l:=l) (i:=i) (x:=x) (by simpa using h);have e:ctCells (y::l)=[ι y.op,ι y.a]++ctCells l:=rfl;rw [e];refine ⟨?_,?_⟩
  .rw [show (i+1)*2=i*2+1+1 by omega];simpa using a
  .rw [show (i+1)*2+1=(i*2+1)+1+1 by omega];simpa using b
def CtPost (w:World) (e:Ending) (w':World):Prop:=∃ (fa qa:Option Addr) (fc qc:Nat),e=.returned (.agg #[σ fa ctC.H fc,ι 1,σ qa ctC.funcs qc])/\BF w' w' (.agg #[σ fa ctC.H fc,ι 1,σ qa ctC.funcs qc]) ctC/\Below w w w'
def counter_any (w:World):Calls prog 19 #[] w (CtPost w):=by
 obtain ⟨W,a⟩:=ε (((w.alloc (χ #[ν,ι 1,σ (ς (π (w+1+1) 0)) 1 1] 25)).alloc (χ #[ι 4,ι 0,ι 1,ι 1,ι 15,ι 0,ι 5,ι 0,ι 10,ι 0] 96)).alloc (χ #[.string ⟨#[97,100,100]⟩,ι 0,ι 0,.bool false,σ (ς (π (w+1) 0)) 5 5] 70));obtain ⟨p,h,q,r,s⟩:=Λ5 (bl3 a) (sz3 a) (ro31 a) (ro32 a) (ro33 a);have t:=@Lh (BF W W (.agg #[ν,ι 1,σ (ς (π (w+1+1) 0)) 1 1]) ctC) (by
  refine ⟨_,_,rfl,⟨none,0,rfl,by simp [ctC],by simp [ctC],ω,.inl rfl⟩,⟨_,1,rfl,by simp [ctC],by simp [ctC],ω,.inr ⟨_,0,rfl,by have:=h.o;omega,λi x c=>?_⟩⟩,by simp [ctC,in64]⟩;have b:∀ (j:Nat) v,(#[.string ⟨#[97,100,100]⟩,ι 0,ι 0,.bool false,σ (ς (π (w+1) 0)) 5 5]:Array Value)[j]?=ς v->W.cell? (π (w+1+1) j)=ς v:=λj v f=>by rw [cell_of_row _ _ _ _ _ _ s.o];exact f
  have g:∀ (j:Nat) v,(#[ι 4,ι 0,ι 1,ι 1,ι 15,ι 0,ι 5,ι 0,ι 10,ι 0]:Array Value)[j]?=ς v->W.cell? (π (w+1) j)=ς v:=λj v f=>by rw [cell_of_row _ _ _ _ _ _ r.o];exact f
  match i,c with
  | 0,c=>
   obtain rfl:x=ctF:=by simpa [ctC] using c.symm
   refine ⟨b 0 _ rfl,b 1 _ rfl,b 2 _ rfl,b 3 _ rfl,⟨_,b 4 _ rfl,⟨_,5,rfl,by simp [ctF],by simp [ctF],ω,.inr ⟨_,0,rfl,by have:=h.o;omega,λk y m=>?_⟩⟩⟩,δ,by simp [ctF,in64],by simp [ctF,in64]⟩;obtain ⟨n,o⟩:=ctCells_at m;have e:ctCells ctF.code=(#[ι 4,ι 0,ι 1,ι 1,ι 15,ι 0,ι 5,ι 0,ι 10,ι 0]:Array Value).toList:=rfl;rw [e] at n o;rw [Nat.zero_add];refine ⟨g _ _ (by simpa using n),g _ _ (by simpa using o),?_⟩;have l:=Lm m;simp only [ctF,ϰ,List.not_mem_nil,or_false] at l;rcases l with rfl|rfl|rfl|rfl|rfl<;>simp [in64]
  | i+1,c=>simp [ctC] at c)
 have u:Hid (CtPost w (.returned (.agg #[ν,ι 1,σ (ς (π (w+1+1) 0)) 1 1])) W):=Lh ⟨none,_,0,1,rfl,t.o,p.o⟩;have d:=Ω3 q.o;go_enter func19,ntmps19;go_wp2_with fail;rw [<-a];exact bodyPost_ret (v:=.agg #[ν,ι 1,σ (ς (π (w+1+1) 0)) 1 1]) (by simp [results,results19,go_sem,d.1,d.2.1,d.2.2]) rfl u.o
