import Derived.Test.YtigbfkiddlhhjaaGreatDoorHtSt
import Derived.Deep.AppendLies
import Derived.Deep.RegionLaw
import Derived.Deep.RegionHeld3
import Derived.Deep.RegionWith
set_option maxHeartbeats 8000000
set_option maxRecDepth 100000
set_option linter.all false
open Go renaming World→Ϣ,Value→ϒ,Calls→ϙ,heap_setCell_same→ϡ
open Go.RowKit renaming Below→ϐ
open Option renaming some→ς
open Bool renaming false→ϝ,true→ϑ
open List renaming replicate→ϱ,mem_cons→ϰ
open Go.Value renaming slice→σ
open Go.Obj renaming cells→χ
namespace Go.Proofs.YtigbfkiddlhhjaaGreatDoor
open Go.RowKit Proofs.Tryz
variable {c:AQ} {f f':AY} {F F' Fi Fl Fs Fs':List Nat} {a:Addr} {w w' W wr:Ϣ} {B bm fb cap k n z bl lb:Nat} {v lv sv sv':ϒ} {l args:List Int} {m m':AV} {fs:List AY} {cur:Array ϒ} {cs:List ϒ} {op:Int}
def AU (c:AQ):Prop:=Jy c/\Dl c=ϝ/\∀ f∈c.funcs,CQ c f
noncomputable def DW (c:AQ):Bool:=@decide (AU c) (Classical.propDecidable _)
def CZ (h:AU c):DW c=ϑ:=by unfold DW;exact @decide_eq_true _ (Classical.propDecidable _) h
def FA (h:¬AU c):DW c=ϝ:=by unfold DW;exact @decide_eq_false _ (Classical.propDecidable _) h
def Ki :DW c=ϑ↔AU c:=by
 constructor
 .intro h
  by_cases a:AU c
  .exact a
  .rw [FA a] at h;cases h
 .exact CZ
def LN {f:BK} {x:Cd} (a:Dl c=ϝ) (b:f∈c.funcs) (d:x∈f.code):Ct c f x=ϑ:=by
 unfold Dl at a;rw [List.any_eq_false] at a;have:=a f b;simp only [Bool.not_eq_true] at this;rw [List.any_eq_false] at this;simpa using this x d
def Pm (b:Bool):0<=D0 b/\D0 b<=1:=by cases b<;>simp [D0]
def V6 (op:Int):0<=Bk op/\Bk op<=2:=by unfold Bk;split<;>(try split)<;>omega
def UU (op:Int):0<=DI op/\DI op<=2:=by unfold DI;split<;>(try split)<;>omega
def NM (h:Jy c) {f:BK} (a:f∈c.funcs):CX f:=by
 obtain ⟨i,b,rfl⟩:=List.getElem_of_mem a;exact (h.2.2.2.2.2 i _ (Lg b)).2.1
def Qr {f:BK} (h:Jy c) (k:Dl c=ϝ) (i:f∈c.funcs):Pg c f:=by
 have e:=NM h i;unfold CX at e;have j:∀ x∈f.code,1<=x.op/\x.op<=31:=λx a=>by
  have:=LN k i a;unfold Ct at this;split at this
  .cases this
  .omega
 have d:∀ x∈f.code,∀ n,Ey c f x.op=ς n->0<=x.a/\x.a<n:=λx a n m=>by have:=LN k i a;have o:=j x a;unfold Ct at this;rw [if_neg ω,m] at this;simpa using this
 refine ⟨e.2.2.2.2.1,e.2.2.2.2.2,j,λx a l=>?_,λx a b=>?_,λx a=>?_,λx a=>?_⟩
 .have:=d x a c.funcs.length (by unfold Ey;rw [l];rfl)
  exact this
 .rcases b with b|b
  .exact d x a f.code.length (by unfold Ey;rw [b];rfl)
  .exact d x a f.code.length (by unfold Ey;rw [b];rfl)
 .unfold AM
  split
  .cases hg:Dt c x.a with
   | none=>simp
   | some g=>have:=NM h (Lm hg);unfold CX at this;simp only [];omega
  .split
   .have:=Pm f.result;omega
   .split
    .omega
    .have:=V6 x.op;omega
 .unfold AK
  split
  .cases hg:Dt c x.a with
   | none=>simp
   | some g=>have:=Pm g.result;simp only [];omega
  .split
   .omega
   .split
    .omega
    .exact UU x.op
def Q6 (c:AQ) (w:Ϣ) (e:Ending) (w':Ϣ):Prop:=
 ∃ i k err:Int,e=.returned (.tuple #[ι i,ι k,ι err])/\(err=0↔AU c)/\ϐ w w w'
def MQ (c:AQ) (M:ϒ) (B:Nat) (w:Ϣ) (O:C8 w) (a:B<=w) (Q:BF B w M c) :
  ϙ prog 48 #[M] w (Q6 c w):=by
 have v:=Lh Q;have F:=Lh O;obtain ⟨bE,bF,rfl,aY,aZ,-⟩:=Q;obtain ⟨ca,aW,rfl,-,-,-,-⟩:=aY;obtain ⟨cb,aQ,rfl,bI,bJ,bK,L⟩:=aZ;have Y:=Lh L;clear O L;go_enter func48,ntmps48;go_wp2_with fail;refine (LH c _ B _ (F.o.below (AA _ _)) φ (v.o.below ((AA _ _).mono a))).mono ?_;rintro e w1 ⟨rfl,u⟩;have S:=Cc u 0 _ rfl;have T:=Cc u 1 _ rfl;have U:=Cc u 2 _ rfl;have s:=As u;by_cases l:Jy c
 .rw [FP l]
  have E:=Lh l;clear l;go_wp2_with fail;refine (Mk c _ B _ (Nt a s.size) (v.o.below (s.mono a))).mono ?_;rintro e V ⟨i,k,rfl,J⟩;have t:=Δ3 J S T U;have I:=s.th J;clear S T U;cases m:Dl c with
  | true=>
   have d:Hid (¬AU c):=λh=>by rw [h.2.1] at m;cases m
   clear m;go_wp2_with fail
   go_ret3
   exact ⟨_,_,_,rfl,⟨(λh=>by cases h),λh=>absurd h d⟩,I⟩
  | false=>
   have K:=Lh m;clear m;go_wp2_with fail;go_loopg [28] (c.funcs.length+1) (λgk ix wr=>∃ k:Nat,c.funcs.length+1<=gk+k/\k<=c.funcs.length/\ix=ι k/\ϐ V V wr/\Hid (∀ (j:Nat) f,j<k->c.funcs[j]?=ς f->CQ c f))
   case atStart=>exact ⟨0,ω,Nat.zero_le _,rfl,Below.refl _ _,λj f D=>by omega⟩
   case round=>
    obtain ⟨k,bH,hk,rfl,y,H⟩:=hrel;have p:=I.th y;have m0:=Δ3 y t.1 t.2.1 t.2.2;have bL:(w:Nat)<wr:=Bl m0.1;by_cases bC:k<c.funcs.length
    .obtain ⟨x,hx⟩:∃ x,c.funcs[k]?=ς x:=⟨_,Lg bC⟩
     rcases Y.o with h|⟨b,o,rfl,Z,C⟩
     .rw [h] at hx;simp at hx
     have C:=(C k x hx).below (p.mono a) Z;obtain ⟨g1,g2,g3,g4,⟨xv,g5,N⟩,g7,g8,g9⟩:=C;have W:=Lh N;obtain ⟨xa,X,rfl,-,-,-,-⟩:=N;have bD:=Lh (Qr E.o K.o (Lm hx));have G:=Lh hx;clear hx;have r:=p.th (AA wr (χ #[.string x.name,ι x.params,ι x.L,.bool x.result,σ xa x.code X] 70));clear t;go_wp2_with fail;refine (KA c _ x _ B _ (F.o.below r) (Nt a r.size) (v.o.below (r.mono a)) ⟨_,rfl,W.o.inss ((AA _ _).mono (Nt a p.size)),g7,g8,g9⟩ bD.o).mono ?_;rintro e w3 (⟨q,bG,rfl,R,bA,d,z⟩|⟨g,hs,rfl,hg,bB,P,hA,z⟩)
     .have aL:Hid (¬AU c):=λh=>d (h.2.2 x (Lm G.o))
      have e1:=bne_iff_ne.2 R;have A:=r.th z;clear d;go_wp2_with fail
      go_ret3
      exact ⟨_,_,_,rfl,⟨λh=>absurd h R,λh=>absurd h aL⟩,A⟩
     .have aM:Hid (∀ (j:Nat) f,j<k+1->c.funcs[j]?=ς f->CQ c f):=λj f D n=>by
       by_cases e:j=k
       .subst e;rw [G.o] at n;cases n;exact P
       .exact H j f ω n
      have A:=y.thenA z;clear P hA bB;go_wp2_with fail
      go_roundg (gk - 1)
      case measure=>omega
      case rel=>exact ⟨k+1,ω,ω,by go_num,A,aM⟩
    .have aN:Hid (AU c):=⟨E.o,K.o,λf n=>by
      obtain ⟨j,D,rfl⟩:=List.getElem_of_mem n;exact H j _ ω (Lg D)⟩
     go_wp2_with fail
     go_ret3
     exact ⟨_,_,_,rfl,⟨λ_=>aN,λ_=>rfl⟩,p⟩
 .rw [Bs l]
  have d:Hid (¬AU c):=λh=>l h.1;clear l;go_wp2_with fail
  go_ret3
  exact ⟨_,_,_,rfl,⟨(λh=>by cases h),λh=>absurd h d⟩,s⟩
def Hc (c:AQ) (g:ϒ) (B:Nat) (w:Ϣ) (j:C8 w) (s:B<=w) (l:BF B w g c) :
  ϙ prog 138 #[g] w λe w'=>e=.returned (.bool (DW c))/\ϐ w w w':=by
 have m:=Lh l;have n:=Lh j;obtain ⟨x,y,rfl,p,q,-⟩:=l;obtain ⟨D,v,rfl,-,-,-,-⟩:=p;obtain ⟨E,u,rfl,z,A,C,-⟩:=q;clear j;go_enter func138,ntmps138;go_wp2_with fail;refine (MQ c _ B _ (n.o.below (AA _ _)) φ (m.o.below ((AA _ _).mono s))).mono ?_;rintro e F ⟨i,k,o,rfl,a,t⟩;have f:=As t;by_cases d:o=0
 .have aB:=Lh (CZ (a.1 d))
  subst d;clear a;go_wp2;go_ret;exact ⟨by rw [aB.o];rfl,f⟩
 .have aB:=Lh (FA (λh=>d (a.2 h)))
  have r:=beq_eq_false_iff_ne.2 d;clear a;go_wp2;go_ret;exact ⟨by rw [aB.o];exact congrArg (λb=>Ending.returned (.bool b)) (by first|exact r|rfl),f⟩
def Be (w:Ϣ) (v:ϒ) (l:List Int) (F:List Nat):Prop:=
 w.ownsRow 0 3 1 v l.length (l.map (Value.int .i64))/\F=v.ownBlock.toList/\(∀ n∈l,in64 n)
def BJ (w:Ϣ):List ϒ->List AY->List Nat->Prop
 | cells,[],F=>cells=[]/\F=[]
 | cells,f::fs,F=>∃ lv sv cs Fl Fs Fr,cells=ι f.fn::ι f.pc::lv::sv::cs/\Be w lv f.L Fl/\Be w sv f.S Fs/\in64 f.fn/\in64 f.pc/\BJ w cs fs Fr/\F=Fl++(Fs++Fr)
structure AW (F F':List Nat) (w w':Ϣ):Prop where
 os:w'.os=w.os
 tape:w'.tape=w.tape
 output:w'.output=w.output
 size:(w:Nat)<=w'
 block:∀ k,k<(w:Nat)->k∉F->w'.heap[k]?=w.heap[k]?
 new:∀ b∈F',b∈F\/(w:Nat)<=b
def AW.trans {d:List Nat} {a b c:Ϣ} (h:AW F F' a b) (k:AW F' d b c):AW F d a c:=
 ⟨k.os.trans h.os,k.tape.trans h.tape,k.output.trans h.output,Nt h.size k.size,λi f hF=>by
  rw [k.block i (Nl f h.size) (λg=>by rcases h.new i g with e|e;exact hF e;omega),h.block i f hF],λx j=>by
  rcases k.new x j with e|e
  .exact h.new x e
  .have:=h.size;right;omega⟩
def AW.ob (h:ϐ w w w'):AW F F w w':=⟨h.os,h.tape,h.output,h.size,λk b _=>h.block k b,λ_ a=>.inl a⟩
def AW.below (h:AW F F' w w') (hF:∀ b∈F,B<=b) (c:B<=w):ϐ B w w':=
 ⟨h.os,h.tape,h.output,h.size,λk d=>h.block k ω (λa=>by have:=hF k a;omega)⟩
def AW.cell (h:AW F F' w w') (b:w.cell? a=ς v) (hF:a.block∉F):w'.cell? a=ς v:=by
 rw [World.cell?_of_block (w:=w) (h.block a.block (World.block_lt_of_cell? w a b) hF)];exact b
def AW.cd (h:AW F F' w.drew w') (b:w.cell? a=ς v) (hF:a.block∉F):w'.cell? a=ς v:=h.cell b hF
def AW.ge (h:AW F F' w w') (hF:∀ b∈F,B<=b) (d:B<=w):∀ b∈F',B<=b:=λb c=>by
 rcases h.new b c with a|a
 .exact hF b a
 .omega
def Be.kp (h:Be w v l F) (k:∀ b∈F,w'.heap[b]?=w.heap[b]?):Be w' v l F:=by
 obtain ⟨a,d,f⟩:=h;subst d;refine ⟨⟨a.1,?_⟩,rfl,f⟩;rcases a.2 with e|⟨g,cap,c,rfl,i,j,r⟩
 .exact .inl e
 .exact .inr ⟨g,cap,c,rfl,i,by rw [k g (by simp [Value.ownBlock])];exact j,r⟩
def Be.lt (h:Be w v l F):∀ b∈F,b<(w:Nat):=λb a=>by
 obtain ⟨c,d,_⟩:=h;subst d;simp at a;exact (c.lt b a).2
def BJ.kp :∀ {fs:List AY} {cells:List ϒ} {F:List Nat},BJ w cells fs F->(∀ b∈F,w'.heap[b]?=w.heap[b]?)->BJ w' cells fs F
 | [],_,_,h,_=>h
 | _::_,_,_,h,hk=>by obtain ⟨lv,sv,cs,Fl,Fs,c,d,e,f,g,i,j,rfl⟩:=h;exact ⟨lv,sv,cs,Fl,Fs,c,d,e.kp (λb a=>hk b (by simp [a])),f.kp (λb a=>hk b (by simp [a])),g,i,j.kp (λb a=>hk b (by simp [a])),rfl⟩
def BJ.lt :∀ {fs:List AY} {cells:List ϒ} {F:List Nat},BJ w cells fs F->∀ b∈F,b<(w:Nat)
 | [],_,_,h,b,a=>by obtain ⟨_,rfl⟩:=h;simp at a
 | _::_,_,_,h,b,a=>by
  obtain ⟨lv,sv,cs,Fl,Fs,f,g,c,d,i,j,e,rfl⟩:=h;simp at a;rcases a with a|a|a
  .exact c.lt b a
  .exact d.lt b a
  .exact e.lt b a
def BJ.len :∀ {fs:List AY} {cells:List ϒ} {F:List Nat},BJ w cells fs F->cells.length=fs.length*4
 | [],_,_,h=>by obtain ⟨rfl,_⟩:=h;rfl
 | _::_,_,_,h=>by obtain ⟨lv,sv,cs,Fl,Fs,b,rfl,c,d,e,f,a,rfl⟩:=h;simp [a.len];omega
def BJ.snoc :∀ {fs:List AY} {f:AY} {cells:List ϒ} {F:List Nat},BJ w cells (fs++[f]) F->
  ∃ cs lv sv Fi Fl Fs,cells=cs++[ι f.fn,ι f.pc,lv,sv]/\BJ w cs fs Fi/\Be w lv f.L Fl/\Be w sv f.S Fs/\in64 f.fn/\in64 f.pc/\F=Fi++(Fl++Fs)
 | [],f,cells,F,h=>by obtain ⟨lv,sv,cs,Fl,Fs,j,rfl,b,c,d,e,⟨rfl,rfl⟩,rfl⟩:=h;exact ⟨[],lv,sv,[],Fl,Fs,rfl,⟨rfl,rfl⟩,b,c,d,e,ψ⟩
 | g::fs,f,cells,F,h=>by obtain ⟨lv,sv,cs,Fl,Fs,j,rfl,b,c,d,e,l,rfl⟩:=h;obtain ⟨a,i,sv',Fi,k,Fs',rfl,m,n,o,p,q,rfl⟩:=l.snoc;exact ⟨_,i,sv',Fl++(Fs++Fi),k,Fs',ψ,⟨lv,sv,a,Fl,Fs,Fi,rfl,b,c,d,e,m,rfl⟩,n,o,p,q,ψ⟩
def BJ.add :∀ {fs:List AY} {f:AY} {cs:List ϒ} {lv sv:ϒ} {Fi Fl Fs:List Nat},BJ w cs fs Fi->Be w lv f.L Fl->Be w sv f.S Fs->in64 f.fn->in64 f.pc->
  BJ w (cs++[ι f.fn,ι f.pc,lv,sv]) (fs++[f]) (Fi++(Fl++Fs))
 | [],f,cs,lv,sv,Fi,Fl,Fs,h,h2,h3,h4,h5=>by obtain ⟨rfl,rfl⟩:=h;exact ⟨lv,sv,[],Fl,Fs,[],rfl,h2,h3,h4,h5,⟨rfl,rfl⟩,ψ⟩
 | g::fs,f,cs,lv,sv,Fi,Fl,Fs,h,h2,h3,h4,h5=>by obtain ⟨a,sv',d,b,Fs',c,rfl,e,i,j,k,l,rfl⟩:=h;exact ⟨a,sv',_,b,Fs',c++(Fl++Fs),rfl,e,i,j,k,l.add h2 h3 h4 h5,ψ⟩
def AC (fv:ϒ) (m:AV):Array ϒ:=#[fv,ι m.Q.K,ι m.Q.O,ι m.Q.D,ι m.Q.V,ι m.Q.X,ι m.Y,ι m.C,ι m.I]
def Ak (w:Ϣ) (bm:Nat) (m:AV) (F:List Nat):Prop:=
 ∃ fv cells Fr,w.heap[bm]?=ς (χ (AC fv m) 59 (0,0))/\w.ownsRow 0 150 4 fv m.J.length cells/\BJ w cells m.J Fr/\F=bm::(fv.ownBlock.toList++Fr)/\F.Nodup
structure AN (w:Ϣ) (bm fb cap:Nat) (cur:Array ϒ) (cs:List ϒ) (fs:List AY) (f:AY) (lv sv:ϒ) (m:AV) (Fi Fl Fs:List Nat):Prop where
 mach:w.heap[bm]?=ς (χ (AC (σ (ς (π fb 0)) (fs.length+1) cap) m) 59 (0,0))
 row:w.heap[fb]?=ς (χ cur 150 (0,0))
 capl:fs.length+1<=cap
 capm:cap<=9223372036854775807
 csize:cur.size=cap*4
 take:cur.toList.take ((fs.length+1)*4)=cs++[ι f.fn,ι f.pc,lv,sv]
 init:BJ w cs fs Fi
 loc:Be w lv f.L Fl
 stk:Be w sv f.S Fs
 fn:in64 f.fn
 pc:in64 f.pc
 nodup:(bm::fb::(Fi++(Fl++Fs))).Nodup
def Ak.top (h:Ak w bm m F) (o:m.J=fs++[f]) :
  ∃ fb cap a cs lv sv Fi Fl Fs,AN w bm fb cap a cs fs f lv sv m Fi Fl Fs/\F=bm::fb::(Fi++(Fl++Fs)):=by
 obtain ⟨y,b,x,c,d,e,rfl,l⟩:=h;rw [o] at d e;obtain ⟨cs,lv,sv,Fi,Fl,Fs,rfl,r,s,t,u,v,rfl⟩:=e.snoc;rcases d.2 with ⟨_,p⟩|⟨g,cap,a,rfl,_,n,i,k,q,j⟩
 .simp at p
 .simp only [List.length_append,List.length_singleton] at i j c
  refine ⟨g,cap,a,cs,lv,sv,Fi,Fl,Fs,⟨c,n,i,by unfold maxLen at k;omega,q,j,r,s,t,u,v,?_⟩,?_⟩
  .simpa [Value.ownBlock] using l
  .simp [Value.ownBlock]
def AN.cslen (h:AN w bm fb cap cur cs fs f lv sv m Fi Fl Fs):cs.length=fs.length*4:=h.init.len
def AN.own (h:AN w bm fb cap cur cs fs f lv sv m Fi Fl Fs) (a:m.J=fs++[f]) :
  Ak w bm m (bm::fb::(Fi++(Fl++Fs))):=by
 have b:m.J.length=fs.length+1:=by rw [a];simp
 refine ⟨σ (ς (π fb 0)) (fs.length+1) cap,cs++[ι f.fn,ι f.pc,lv,sv],Fi++(Fl++Fs),h.mach,?_,by rw [a];exact h.init.add h.loc h.stk h.fn h.pc,by simp [Value.ownBlock],h.nodup⟩;rw [b];refine ⟨by simp [h.cslen];omega,.inr ⟨fb,cap,cur,rfl,Nat.zero_le _,h.row,h.capl,by unfold maxLen;have:=h.capm;omega,h.csize,h.take⟩⟩
def AN.kp (h:AN w bm fb cap cur cs fs f lv sv m Fi Fl Fs) (c:ϐ w w w'):AN w' bm fb cap cur cs fs f lv sv m Fi Fl Fs:=
 ⟨by rw [c.block bm (La h.mach)];exact h.mach,by rw [c.block fb (La h.row)];exact h.row,h.capl,h.capm,h.csize,h.take,h.init.kp (λb a=>c.block b (h.init.lt b a)),h.loc.kp (λb a=>c.block b (h.loc.lt b a)),h.stk.kp (λb a=>c.block b (h.stk.lt b a)),h.fn,h.pc,h.nodup⟩
def AN.sub (h:AN w bm fb cap cur cs fs f lv sv m Fi Fl Fs) (c:∀ b∈bm::fb::(Fi++(Fl++Fs)),w'.heap[b]?=w.heap[b]?):AN w' bm fb cap cur cs fs f lv sv m Fi Fl Fs:=
 ⟨by rw [c bm ψ];exact h.mach,by rw [c fb ψ];exact h.row,h.capl,h.capm,h.csize,h.take,h.init.kp (λb a=>c b (by simp [a])),h.loc.kp (λb a=>c b (by simp [a])),h.stk.kp (λb a=>c b (by simp [a])),h.fn,h.pc,h.nodup⟩
def AN.at_ (h:AN w bm fb cap cur cs fs f lv sv m Fi Fl Fs) (j:Nat) (v:ϒ) (b:([ι f.fn,ι f.pc,lv,sv]:List ϒ)[j]?=ς v):w.cell? (π fb (fs.length*4+j))=ς v:=by
 rw [cell_of_row _ _ _ _ _ _ h.row];have a:(cs++[ι f.fn,ι f.pc,lv,sv])[fs.length*4+j]?=ς v:=by rw [Ar (by rw [h.cslen];omega),h.cslen,Nat.add_sub_cancel_left];exact b
 rw [<-h.take,List.getElem?_take] at a;split at a
 .simpa using a
 .cases a
def AN.ofm (h:AN w bm fb cap cur cs fs f lv sv m Fi Fl Fs) (j:Nat) (v:ϒ) (a:(AC (σ (ς (π fb 0)) (fs.length+1) cap) m)[j]?=ς v):w.cell? (π bm j)=ς v:=by
 rw [cell_of_row _ _ _ _ _ _ h.mach];exact a
def AN.cFrames (h:AN w bm fb cap cur cs fs f lv sv m Fi Fl Fs):w.cell? (π bm 0)=ς (σ (ς (π fb 0)) (fs.length+1) cap):=h.ofm 0 _ rfl
def AN.cFuel (h:AN w bm fb cap cur cs fs f lv sv m Fi Fl Fs):w.cell? (π bm 6)=ς (ι m.Y):=h.ofm 6 _ rfl
def AN.cCompares (h:AN w bm fb cap cur cs fs f lv sv m Fi Fl Fs):w.cell? (π bm 7)=ς (ι m.C):=h.ofm 7 _ rfl
def AN.cIdle (h:AN w bm fb cap cur cs fs f lv sv m Fi Fl Fs):w.cell? (π bm 8)=ς (ι m.I):=h.ofm 8 _ rfl
def AN.cFn (h:AN w bm fb cap cur cs fs f lv sv m Fi Fl Fs):w.cell? (π fb (fs.length*4))=ς (ι f.fn):=h.at_ 0 _ rfl
def AN.cPc (h:AN w bm fb cap cur cs fs f lv sv m Fi Fl Fs):w.cell? (π fb (fs.length*4+1))=ς (ι f.pc):=h.at_ 1 _ rfl
def AN.cLv (h:AN w bm fb cap cur cs fs f lv sv m Fi Fl Fs):w.cell? (π fb (fs.length*4+2))=ς (lv):=h.at_ 2 _ rfl
def AN.cSv (h:AN w bm fb cap cur cs fs f lv sv m Fi Fl Fs):w.cell? (π fb (fs.length*4+3))=ς (sv):=h.at_ 3 _ rfl
def AN.frm (h:AN w bm fb cap cur cs fs f lv sv m Fi Fl Fs) (j:Nat):w.frozen? (π bm j)=ϝ:=Fz h.mach
def AN.frf (h:AN w bm fb cap cur cs fs f lv sv m Fi Fl Fs) (j:Nat):w.frozen? (π fb j)=ϝ:=Fz h.row
def U2 {j:Nat} {L:List ϒ} (a:cs.length=k*4) (b:L.length=4) (h:cur.toList.take ((k+1)*4)=cs++L):(cur.setIfInBounds (k*4+j) v).toList.take ((k+1)*4)=cs++L.set j v:=by
 rw [Array.toList_setIfInBounds,List.take_set,h,List.set_append_right _ _ ω,a,Nat.add_sub_cancel_left]
def AN.put {lv':ϒ} {a:List Nat} (h:AN w bm fb cap cur cs fs f lv sv m Fi Fl Fs) (j:Nat) (v:ϒ)
  (k:w'.heap[bm]?=w.heap[bm]?) (g:w'.heap[fb]?=ς (χ (cur.setIfInBounds (fs.length*4+j) v) 150 (0,0))) (e:([ι f.fn,ι f.pc,lv,sv]:List ϒ).set j v=[ι f'.fn,ι f'.pc,lv',sv'])
  (i:∀ b∈Fi,w'.heap[b]?=w.heap[b]?) (hl:Be w' lv' f'.L a) (hs:Be w' sv' f'.S Fs') (c:in64 f'.fn) (d:in64 f'.pc) (l:(bm::fb::(Fi++(a++Fs'))).Nodup) :
  AN w' bm fb cap (cur.setIfInBounds (fs.length*4+j) v) cs fs f' lv' sv' m Fi a Fs':=
 ⟨by rw [k];exact h.mach,g,h.capl,h.capm,by simpa using h.csize,by rw [<-e];exact U2 h.cslen rfl h.take,h.init.kp i,hl,hs,c,d,l⟩
def AN.putM (h:AN w bm fb cap cur cs fs f lv sv m Fi Fl Fs)
  (d:w'.heap[bm]?=ς (χ (AC (σ (ς (π fb 0)) (fs.length+1) cap) m') 59 (0,0))) (c:∀ b∈fb::(Fi++(Fl++Fs)),w'.heap[b]?=w.heap[b]?) :
  AN w' bm fb cap cur cs fs f lv sv m' Fi Fl Fs:=
 ⟨d,by rw [c fb ψ];exact h.row,h.capl,h.capm,h.csize,h.take,h.init.kp (λb a=>c b (by simp [a])),h.loc.kp (λb a=>c b (by simp [a])),h.stk.kp (λb a=>c b (by simp [a])),h.fn,h.pc,h.nodup⟩
def AN.lt (h:AN w bm fb cap cur cs fs f lv sv m Fi Fl Fs):∀ b∈bm::fb::(Fi++(Fl++Fs)),b<w:=λb a=>by
 simp only [ϰ,List.mem_append] at a;rcases a with rfl|rfl|a|a|a
 .exact (La h.mach)
 .exact (La h.row)
 .exact h.init.lt b a
 .exact h.loc.lt b a
 .exact h.stk.lt b a
def AN.ne (h:AN w bm fb cap cur cs fs f lv sv m Fi Fl Fs) :
  bm≠fb/\(∀ b∈Fi++(Fl++Fs),b≠bm/\b≠fb):=by
 have:=h.nodup;simp only [List.nodup_cons,ϰ,not_or] at this;obtain ⟨⟨c,d⟩,g,_⟩:=this;exact ⟨c,λb a=>⟨λe=>d (e▸a),λe=>g (e▸a)⟩⟩
def Bn (w:Ϣ) (bm fb cap:Nat) (cs:List ϒ) (fs:List AY) (f':AY) (lv:ϒ) (m':AV) (Fi Fl F:List Nat) (w':Ϣ):Prop:=
 ∃ cur' sv' Fs',AN w' bm fb cap cur' cs fs f' lv sv' m' Fi Fl Fs'/\AW F (bm::fb::(Fi++(Fl++Fs'))) w w'
def Af (n:Int):Bool:=decide (-1099511627776<=n/\n<=1099511627776)
def Bh (n:Int) (w:Ϣ) :
  ϙ prog 141 #[ι n] w λe w'=>e=.returned (.bool (Af n))/\w=w':=by
 go_enter func141,ntmps141;go_wp2;all_goals (go_ret;exact ⟨by unfold Af;congr 2;simp;omega,rfl⟩)
def Jr (b:Bool) (w:Ϣ) :
  ϙ prog 187 #[.bool b] w λe w'=>e=.returned (ι (D0 b))/\w=w':=by
 cases b
 .go_enter func187,ntmps187
  go_wp2;go_ret;exact ⟨rfl,rfl⟩
 .go_enter func187,ntmps187
  go_wp2;go_ret;exact ⟨rfl,rfl⟩
def DH (cf cg:ϒ) (g:Int) (bm:Nat):ϒ:=.agg #[cf,ι g,cg,.pointer (ς (π bm 0))]
def KX (a d:Option Addr) (c b j i:Nat) (g:Int) (h:AN w bm fb cap cur cs fs f lv sv m Fi Fl Fs) (l:fs.length<=200) :
  ϙ prog 166 #[DH (σ a c b) (σ d j i) g bm] w λe w'=>e=.returned (.pointer (ς (π fb (fs.length*4))))/\ϐ w w w':=by
 have k:=h.kp (AA w (χ #[σ a c b,ι g,σ d j i,.pointer (ς (π bm 0))] 199));have n:=k.cFrames;clear k h;unfold DH;go_enter func166,ntmps166;go_wp2_with fail;go_quiet (fail);go_wp2;go_ret;exact ⟨rfl,AG (AA _ _) _⟩
def Be.last {n:Int} (h:Be w v (l++[n]) F) :
  ∃ a cap b,v=σ (ς (π a 0)) (l.length+1) cap/\F=[a]/\w.heap[a]?=ς (χ b 3 (0,0))/\l.length+1<=cap/\cap<=9223372036854775807/\w.cell? (π a l.length)=ς (ι n)/\
   Be w (σ (ς (π a 0)) l cap) l [a]/\in64 n:=by
 obtain ⟨m,o,i⟩:=h;rcases m.2 with ⟨_,p⟩|⟨g,cap,b,rfl,r,d,j,f,k,e⟩
 .simp at p
 .simp only [List.length_append,List.length_singleton,Nat.mul_one] at j e k
  refine ⟨g,cap,b,ψ,by rw [o];rfl,d,j,by unfold maxLen at f;omega,?_,⟨⟨ψ,.inr ⟨g,cap,b,rfl,Nat.zero_le _,d,ω,f,by simpa using k,?_⟩⟩,rfl,λx q=>i x (by simp [q])⟩,i n ψ⟩
  .rw [cell_of_row _ _ _ _ _ _ d]
   have c:((l++[n]).map (Value.int .i64))[l.length]?=ς (ι n):=by simp
   rw [<-e,List.getElem?_take] at c;split at c
   .simpa using c
   .cases c
  .have:=congrArg (List.take l.length) e
   rw [List.take_take,Nat.min_eq_left ω] at this;rw [Nat.mul_one,this,<- List.map_take];simp
def AW.self :AW F F w w:=⟨rfl,rfl,rfl,Nr _,λ_ _ _=>rfl,λ_ h=>.inl h⟩
def Nc {st:List Int} (H:AN w bm fb cap cur cs fs f lv sv m Fi Fl Fs)
  (p:W.heap[bm]?=w.heap[bm]?) (o:W.heap[fb]?=w.heap[fb]?) (j:∀ b∈Fi++Fl,W.heap[b]?=w.heap[b]?) (n:Be W sv' st Fs') (c:(bm::fb::(Fi++(Fl++Fs'))).Nodup) (l:AW (bm::fb::(Fi++(Fl++Fs))) (bm::fb::(Fi++(Fl++Fs'))) w W) :
  Bn w bm fb cap cs fs { f with S:=st } lv m Fi Fl (bm::fb::(Fi++(Fl++Fs))) (W.setCell (π fb (fs.length*4+3)) sv'):=by
 have i:=c;simp only [List.nodup_cons,ϰ,not_or] at i;obtain ⟨⟨q,t⟩,r,_⟩:=i;have d:∀ b,b≠fb->(W.setCell (π fb (fs.length*4+3)) sv').heap[b]?=W.heap[b]?:=λb a=>heap_setCell_other _ _ _ _ a;have g:∀ b∈Fi++(Fl++Fs'),b≠fb:=λb a e=>r (e▸a);refine ⟨cur.setIfInBounds (fs.length*4+3) sv',sv',Fs',H.put 3 sv' (by rw [d bm q,p]) (ϡ _ _ _ _ _ _ (by rw [o];exact H.row)) rfl (λb a=>by rw [d b (g b (by simp [a])),j b (by simp [a])]) (H.loc.kp (λb a=>by rw [d b (g b (by simp [a])),j b (by simp [a])])) (n.kp (λb a=>d b (g b (by simp [a])))) H.fn H.pc c,l.trans ⟨rfl,rfl,rfl,ψ,λk s hF=>d k (λe=>hF (by simp [e])),λ_ h=>.inl h⟩⟩
def Cm (k q:Option Addr) (p o s r:Nat) (g:Int) (h:AN w bm fb cap cur cs fs f lv sv m Fi Fl Fs) (C:fs.length<=200) (l:List Int) (n:Int) (d:f.S=l++[n]) :
  ϙ prog 181 #[DH (σ k p o) (σ q s r) g bm] w λe w'=>e=.returned (ι n)/\Bn w bm fb cap cs fs { f with S:=l } lv m Fi Fl (bm::fb::(Fi++(Fl++Fs))) w':=by
 have j:=h.stk;rw [d] at j;obtain ⟨O,F,G,rfl,rfl,K,I,J,u,v,E⟩:=j.last;have H:=Lh h;have t:=Lh v;have z:=AA w (χ #[σ k p o,ι g,σ q s r,.pointer (ς (π bm 0))] 199);have B:=Lh (h.kp z);have A:=h.ne;clear d j v h A;unfold DH;go_enter func181,ntmps181;go_wp2_with fail;refine (KX k q p o s r g B.o C).mono ?_;rintro e D ⟨rfl,y⟩;have i:=As y;have x:=Lh (H.o.kp i);have L:=x.o.cSv;have M:=AB i u;have N:=x.o.frf (fs.length*4+3);clear u;go_wp2_with fail;go_quiet (fail);go_wp2_with fail
 go_region
 go_wp2;go_ret;have c:ϐ w w (D.drewN (nq+1)):=AG i _;refine ⟨rfl,Nc H.o (c.block bm (H.o.lt bm ψ)) (c.block fb (H.o.lt fb ψ)) (λb a=>c.block b (H.o.lt b (by simp at a ⊢;rcases a with a|a<;>simp [a]))) (t.o.kp (λb a=>c.block b (t.o.lt b a))) H.o.nodup (AW.ob c)⟩
def GT {P:Program} (w:Ϣ) (t y e:TypeId) (i:TypeInfo) (z:ϒ) (size bytes:Nat) (C:P.underlying t=ς (.slice e)) (B:P.info? e=ς i) (H:i.zero=ς z)
  (l:i.size=size) (q:i.bytes=bytes) (x:z.cells.size=size) (s:0<size)
  (v:ϒ) (n:Nat) (xs:List ϒ) (k:w.ownsRow 0 e size v n xs)
  (a:Addr) (m c:Nat) (b:List ϒ) (hl:b.length=m*size) (f:∀ j u,b[j]?=ς u->w.cell? (a.add j)=ς u) (E:∀ u∈b,u.oneCell'=ϑ)
  (p:n+m<=maxLen) (d:(n+m)*bytes<=140737488355328) (W:0<m) :
  ∃ A w' g,(Builtin.append_ #[t,t] y #[v,σ (ς a) m c]).run P w=.ok A w'/\w'.ownsRow 0 e size A (n+m) (xs++b)/\w.grownBy w' v.ownBlock/\A.ownBlock=ς g/\(v.ownBlock=ς g\/(w:Nat)<=g):=by
 obtain ⟨A,w',r,G,F,J⟩:=run_append_own (P:=P) w 0 t y e i z size bytes C B H l q x s v n xs k a m c b hl f E p d (Nat.zero_le _);have M:A≠ν:=λh=>by have:=(J.1 h).2;omega
 rcases k.2 with ⟨rfl,rfl⟩|⟨g,cap,D,rfl,T,L,V,U,K,S⟩
 .have hx:=List.eq_nil_of_length_eq_zero (by simpa using k.1)
  subst hx;obtain ⟨Q,R,o,N,_,_⟩:=run_append_own (P:=P) w (w:Nat) t y e i z size bytes C B H l q x s _ 0 [] (World.ownsRow_nil w (w:Nat) e size) a m c b hl f E p d (Nr _);rw [r] at o;simp only [Result.ok.injEq] at o;obtain ⟨rfl,rfl⟩:=o;rcases N.2 with ⟨h,_⟩|⟨g,cap,D,rfl,O,_⟩
  .exact absurd h M
  .exact ⟨_,_,g,r,G,F,rfl,.inr O⟩
 .subst l
  subst q;by_cases I:n+m<=cap
  .have aE:n*i.size+b.length<=D.size:=by rw [hl,K,<- Nat.add_mul];exact Nat.mul_le_mul_right _ I
   have o:=run_append_room (P:=P) w t y e i C B g n cap D L a m c b hl f E I aE;rw [r] at o;simp only [Result.ok.injEq] at o;obtain ⟨rfl,rfl⟩:=o;exact ⟨_,_,g,r,G,F,rfl,.inl rfl⟩
  .have aC:=k.cells (g:=g) rfl
   have o:=run_append_grow (P:=P) w t y e i z C B H (π g 0) n cap xs k.1 aC a m c b hl f ω (by have:=p;simp only [maxLen] at this;omega) (growslice_fits ω d);rw [r] at o;simp only [Result.ok.injEq] at o;obtain ⟨rfl,rfl⟩:=o;exact ⟨_,_,(w:Nat),r,G,F,rfl,.inr (Nr _)⟩
def Ga {v':ϒ} {g:Nat} (a:w.grownBy w' v.ownBlock) (d:v'.ownBlock=ς g) (h:v.ownBlock=ς g\/(w:Nat)<=g):AW v.ownBlock.toList v'.ownBlock.toList w w':=
 ⟨a.os,a.tape,a.output,a.size,λk f hF=>a.block k f (λe=>hF (by rw [<-e];simp)),λb c=>by
  rw [d] at c;simp at c;subst c;rcases h with h|h
  .left;rw [h];simp
  .right;exact h⟩
def UW (w:Ϣ) (v:ϒ) (l:List Int) (F:List Nat) (e:Be w v l F) (d:Addr) (n:Int) (A:in64 n) (y:w.cell? d=ς (ι n)) (hl:l.length<1000000) (m:TypeId) :
  ∃ b w' F',(Builtin.append_ #[22,22] m #[v,σ (ς d) 1 1]).run prog w=.ok b w'/\Be w' b (l++[n]) F'/\AW F F' w w'/\(∃ g,F'=[g]/\(F=[g]\/(w:Nat)<=g))/\(∃ o s,b=σ o (l.length+1) s):=by
 obtain ⟨i,z,p,q,r⟩:=info_parts Cx;obtain ⟨b,w',g,B,h,t,k,a⟩:=GT (P:=prog) w 22 m 3 i (ι 0) 1 8 underlying22 z p q r rfl δ v l.length (l.map (Value.int .i64)) e.1 d 1 1 [ι n] rfl
  (λj u f=>by
   cases j with
   | zero=>simp at f;subst f;exact y
   | succ j=>simp at f) (by simp [Value.oneCell']) (by unfold maxLen;omega) ω ω
 have hF:=e.2.1;refine ⟨b,w',b.ownBlock.toList,B,⟨by simpa using h,rfl,λx c=>by simp at c;rcases c with c|rfl;exact e.2.2 x c;exact A⟩,by rw [hF];exact Ga t k a,⟨g,by rw [k];rfl,?_⟩,?_⟩
 .rcases a with a|a
  .left;rw [hF,a];rfl
  .right;exact a
 .rcases h.2 with ⟨rfl,aE⟩|⟨g',cap,aD,rfl,_⟩
  .omega
  .exact ⟨_,_,rfl⟩
def PM {b:Array Oper} {rest:List Oper} {o:Oper} {a:Act} {Q:Exit->Act->Ϣ->Prop} (f:o.guard=none) (s x:Operand) (t:o.op=.call { callee:=.builtin .append,args:=#[s,x],argTypes:=#[22,22] })
  (v:ϒ) (l:List Int) (F:List Nat) (hs:a.eval s=v) (p:Be w v l F) (e:Addr) (n:Int) (r:in64 n) (y:a.eval x=σ (ς e) 1 1) (q:w.cell? e=ς (ι n)) (hl:l.length<1000000)
  (h:∀ c d w' F',Be w' (σ c (l.length+1) d) (l++[n]) F'->AW F F' w w'->(∃ g,F'=[g]/\(F=[g]\/(w:Nat)<=g))->wpList prog b Q rest (a.put o.dst (σ c (l.length+1) d)) w'):wpList prog b Q (o::rest) a w:=by
 refine wpList_plain f λK m=>?_;obtain ⟨z,w',F',u,i,j,k,⟨c,d,rfl⟩⟩:=UW w v l F p e n r q hl o.type;unfold Oper.wp execOp;simp only [t,resolve,invoke,builtin,Sem.run_bind,Sem.run_pure,Result.andThen_ok,List.map_toArray,List.map_cons,List.map_nil,hs,y,u];exact m _ _ (h c d w' F' i j k)
def LV (h:(bm::fb::(Fi++(Fl++Fs))).Nodup) (d:∀ b∈bm::fb::(Fi++(Fl++Fs)),b<n) (hF:∃ g,Fs'=[g]/\(Fs=[g]\/n<=g)):(bm::fb::(Fi++(Fl++Fs'))).Nodup:=by
 obtain ⟨g,rfl,i⟩:=hF;rcases i with rfl|i
 .exact h
 .have h2:(bm::fb::(Fi++Fl)).Nodup:=by
   have e:bm::fb::(Fi++(Fl++Fs))=(bm::fb::(Fi++Fl))++Fs:=by simp
   rw [e] at h;exact (List.nodup_append.1 h).1
  have e:bm::fb::(Fi++(Fl++[g]))=(bm::fb::(Fi++Fl))++[g]:=by simp
  rw [e,List.nodup_append];refine ⟨h2,ψ,λa c b f=>?_⟩;simp at f;subst f;have:=d a (by simp at c ⊢;rcases c with c|c|c|c<;>simp [c]);omega
def AW.wide (h:AW Fs Fs' w w') (c:∀ b∈Fs,b∈F) (d:∀ b∈F',b∈Fs'\/b∈F):AW F F' w w':=
 ⟨h.os,h.tape,h.output,h.size,λk f hF=>h.block k f (λg=>hF (c k g)),λb e=>by
  rcases d b e with a|a
  .rcases h.new b a with h4|h4
   .exact .inl (c b h4)
   .exact .inr h4
  .exact .inl a⟩
def Da (p s:Option Addr) (r q u t:Nat) (g:Int) (h:AN w bm fb cap cur cs fs f lv sv m Fi Fl Fs) (S:fs.length<=200) (n:Int) (v:in64 n) (y:f.S.length<1000000) :
  ϙ prog 147 #[DH (σ p r q) (σ s u t) g bm,ι n] w λe w'=>e=.returned (.tuple #[])/\Bn w bm fb cap cs fs { f with S:=f.S++[n] } lv m Fi Fl (bm::fb::(Fi++(Fl++Fs))) w':=by
 have H:=Lh h;have L:=AA w (χ #[σ p r q,ι g,σ s u t,.pointer (ς (π bm 0))] 199);have R:=Lh (h.kp L);have O:=h.ne;have o:=Lh h.lt;have N:=h.lt fb ψ;have J:fb∉Fs:=λe=>(O.2 fb (by simp [e])).2 rfl;clear h;unfold DH;go_enter func147,ntmps147;go_wp2_with fail;refine (KX p s r q u t g R.o S).mono ?_;rintro e D ⟨rfl,K⟩;have k:=As K;have c:=Lh (H.o.kp k);have P:=c.o.cSv;have I:=Nl N k.size;have G:=Lh v;go_wp2_with (at_builtin;refine PM rfl (.tmp 11) (.tmp 13) rfl sv f.S Fs rfl (c.o.stk.kp (λb a=>(Ha _ _ _ (c.o.stk.lt b a)))) (π D 0) n G.o rfl (by exact (B6 _ _ _ 0)) y ?_;intro T V z F' C x hF;have i:z.heap[fb]?=ς (χ cur 150 (0,0)):=(by rw [x.block fb φ J,Ha _ _ _ I];exact c.o.row);have W:z.cell? (π fb (fs.length*4+3))=ς sv:=(by rw [cell_of_row _ _ _ _ _ _ i,<- cell_of_row _ _ _ _ _ _ c.o.row];exact P);have X:=frozen_of_row _ _ (fs.length*4+3) _ _ i;have U:=Lh i;have F:=Lh C;have A:=Lh x;have E:=Lh hF;clear C x hF i)
 go_end0
 have j:=k.th (AA D (χ #[ι n] 3));have l:∀ b∈bm::fb::(Fi++Fl),z.heap[b]?=w.heap[b]?:=λb a=>by
  have B:b∈bm::fb::(Fi++(Fl++Fs)):=by simp at a ⊢;rcases a with a|a|a|a<;>simp [a]
  have M:b∉Fs:=λe=>by
   have Q:bm::fb::(Fi++(Fl++Fs))=(bm::fb::(Fi++Fl))++Fs:=by simp
   have:=H.o.nodup;rw [Q,List.nodup_append] at this;exact this.2.2 b a b e rfl
  rw [A.o.block b (Nl (o.o b B) j.size) M,j.block b (o.o b B)]
 refine ⟨rfl,Nc H.o (l bm ψ) (l fb ψ) (λb a=>l b (by simp at a ⊢;rcases a with a|a<;>simp [a])) F.o (LV H.o.nodup o.o ?_) ((AW.ob j).trans (A.o.wide (λb a=>by simp [a]) (λb a=>?_)))⟩
 .obtain ⟨g',c,d⟩:=E.o
  exact ⟨g',c,by rcases d with d|d;exact .inl d;exact .inr (Nt j.size d)⟩
 .simp only [ϰ,List.mem_append] at a ⊢
  rcases a with a|a|a|a|a<;>simp [a]
def Ln (r:Rq):ϒ:=.iface 218 (.agg #[ι r.K,ι r.O,ι r.D,ι r.V,ι r.X])
def Ky (r:Rq) (w:Ϣ) (e:Ending) (w':Ϣ):Prop:=e=.panicked [{ v:=Ln r,recovered:=ϝ }]/\ϐ w w w'
def GU (a d:Option Addr) (c b i h:Nat) (g:Int) (bm:Nat) (k n f v e:Int) (w:Ϣ) :
  ϙ prog 182 #[DH (σ a c b) (σ d i h) g bm,.agg #[ι k,ι n,ι f,ι v,ι e]] w (Ky ⟨k,n,f,v,e⟩ w):=by
 unfold DH;go_enter func182,ntmps182;go_wp2_with fail;exact ⟨rfl,⟨rfl,(Br.alloc (Nr _) _).alloc ψ _⟩⟩
def Ah (e:Int):Rq:=⟨5,0,0,0,e⟩
def Ek (a d:Option Addr) (c b h f:Nat) (g:Int) (bm:Nat) (e:Int) (w:Ϣ) :
  ϙ prog 180 #[DH (σ a c b) (σ d h f) g bm,ι e] w (Ky (Ah e) w):=by
 unfold DH;go_enter func180,ntmps180;go_wp2_with fail;refine (GU a d c b h f g bm 5 0 0 0 e _).mono ?_;rintro j k ⟨rfl,i⟩;exact ⟨rfl,rfl,As i⟩
def J1 (a d:Option Addr) (c b i f:Nat) (g:Int) (bm:Nat) (n:Int) (w:Ϣ) (h:Af n=ϑ) :
  ϙ prog 186 #[DH (σ a c b) (σ d i f) g bm,ι n] w λe w'=>e=.returned (ι n)/\ϐ w w w':=by
 unfold DH;have H:=Lh h;clear h;go_enter func186,ntmps186;go_wp2_with fail;refine (Bh n _).mono ?_;rintro j k ⟨rfl,rfl⟩;rw [H.o];go_wp2;go_ret;exact ⟨rfl,AA _ _⟩
def Po (a d:Option Addr) (c b f e:Nat) (g:Int) (bm:Nat) (n:Int) (w:Ϣ) (h:Af n=ϝ) :
  ϙ prog 186 #[DH (σ a c b) (σ d f e) g bm,ι n] w (Ky (Ah 5) w):=by
 unfold DH;have H:=Lh h;clear h;go_enter func186,ntmps186;go_wp2_with fail;refine (Bh n _).mono ?_;rintro i k ⟨rfl,rfl⟩;rw [H.o];go_wp2_with fail;refine (Ek a d c b f e g bm 5 _).mono ?_;rintro i k ⟨rfl,j⟩;exact ⟨rfl,rfl,As j⟩
def GZ (a:Int):max a (-a)=((a.natAbs:Nat):Int):=ω
def TA (j m:Option Addr) (l k o n:Nat) (g:Int) (bm:Nat) (a b:Int) (w:Ϣ) (s:-1099511627776<=a/\a<=1099511627776) (t:-1099511627776<=b/\b<=1099511627776) (h:a.natAbs*b.natAbs<=1099511627776) :
  ϙ prog 206 #[DH (σ j l k) (σ m o n) g bm,ι a,ι b] w λe w'=>e=.returned (ι (a*b))/\ϐ w w w':=by
 unfold DH;have c:Hid (a.natAbs*b.natAbs / 18446744073709551616=0):=by show _=_;omega
 have d:Hid (a.natAbs*b.natAbs % 18446744073709551616=a.natAbs*b.natAbs):=by show _=_;omega
 have r:-1099511627776<=a*b/\a*b<=1099511627776:=by have:(a*b).natAbs=a.natAbs*b.natAbs:=Int.natAbs_mul a b;omega
 go_enter func206,ntmps206;go_wp2_with fail;rw [GZ,GZ];refine (bits_Mul64 a.natAbs b.natAbs ω ω _).mono ?_;rintro e u ⟨rfl,rfl⟩;rw [c.o,d.o];generalize a.natAbs*b.natAbs=p at *
 clear c d;generalize f:a*b=q at *
 have i:=Lh f;clear f;go_wp2_with (rw [i.o]);go_ret;exact ⟨E8 (IntWalk.wrap64_in q ω),AA _ _⟩
def U3 (d j:Option Addr) (i f l k:Nat) (g:Int) (bm:Nat) (a b:Int) (w:Ϣ) (s:-1099511627776<=a/\a<=1099511627776) (c:-1099511627776<=b/\b<=1099511627776) (h:1099511627776<a.natAbs*b.natAbs) :
  ϙ prog 206 #[DH (σ d i f) (σ j l k) g bm,ι a,ι b] w (Ky (Ah 5) w):=by
 unfold DH;go_enter func206,ntmps206;go_wp2_with fail;rw [GZ,GZ];refine (bits_Mul64 a.natAbs b.natAbs ω ω _).mono ?_;rintro e n ⟨rfl,rfl⟩;have m:0<a.natAbs*b.natAbs / 18446744073709551616\/1099511627776<a.natAbs*b.natAbs % 18446744073709551616:=ω;generalize a.natAbs*b.natAbs / 18446744073709551616=p at *
 generalize a.natAbs*b.natAbs % 18446744073709551616=q at *
 by_cases r:0<p
 .clear m
  go_wp2_with fail;refine (Ek d j i f l k g bm 5 _).mono ?_;rintro o n ⟨rfl,c⟩;exact ⟨rfl,rfl,As c⟩
 .have hq:1099511627776<q:=ω
  obtain rfl:p=0:=ω;clear m r;go_wp2_with fail;refine (Ek d j i f l k g bm 5 _).mono ?_;rintro o n ⟨rfl,c⟩;exact ⟨rfl,rfl,As c⟩
def KD (h:AN w bm fb cap cur cs fs f lv sv m Fi Fl Fs) (a:ϐ w w W) (j:Nat) (v:ϒ)
  (i:(AC (σ (ς (π fb 0)) (fs.length+1) cap) m).setIfInBounds j v=AC (σ (ς (π fb 0)) (fs.length+1) cap) m') :
  AN (W.setCell (π bm j) v) bm fb cap cur cs fs f lv sv m' Fi Fl Fs/\AW (bm::fb::(Fi++(Fl++Fs))) (bm::fb::(Fi++(Fl++Fs))) w (W.setCell (π bm j) v):=by
 have c:=h.ne;have d:=h.kp a;have g:∀ b,b≠bm->(W.setCell (π bm j) v).heap[b]?=W.heap[b]?:=λb a=>heap_setCell_other _ _ _ _ a;refine ⟨d.putM (by rw [<-i];exact ϡ _ _ _ _ _ _ d.mach) (λb a=>g b ?_),(AW.ob a).trans ⟨rfl,rfl,rfl,ψ,λk l hF=>g k (λe=>hF (by simp [e])),λ_ h=>.inl h⟩⟩;simp only [ϰ] at a;rcases a with rfl|a
 .exact λe=>c.1 e.symm
 .exact (c.2 b a).1
def GR (r:Rq) (w:Ϣ) (bm fb cap:Nat) (cs:List ϒ) (fs:List AY) (f':AY) (lv:ϒ) (m':AV) (Fi Fl F:List Nat) (e:Ending) (w':Ϣ):Prop:=
 e=.panicked [{ v:=Ln r,recovered:=ϝ }]/\Bn w bm fb cap cs fs f' lv m' Fi Fl F w'
def Bn.th {a w2:Ϣ} (h:Bn w bm fb cap cs fs f' lv m' Fi Fl F a) (b:ϐ a a w2):Bn w bm fb cap cs fs f' lv m' Fi Fl F w2:=by
 obtain ⟨c,sv',Fs',d,e⟩:=h;exact ⟨c,sv',Fs',d.kp b,e.trans (AW.ob b)⟩
def IG (b i:Option Addr) (d c k j:Nat) (g:Int) (h:AN w bm fb cap cur cs fs f lv sv m Fi Fl Fs) (x:fs.length<=200) (l:List Int) (n:Int) (a:f.S=l++[n]) (y:1<=n) :
  ϙ prog 183 #[DH (σ b d c) (σ i k j) g bm] w λe w'=>e=.returned (ι n)/\Bn w bm fb cap cs fs { f with S:=l } lv m Fi Fl (bm::fb::(Fi++(Fl++Fs))) w':=by
 have o:=AA w (χ #[σ b d c,ι g,σ i k j,.pointer (ς (π bm 0))] 199);have v:=Lh (h.kp o);have s:=Lh a;clear a h;unfold DH;go_enter func183,ntmps183;go_wp2_with fail;refine (Cm b i d c k j g v.o x l n s.o).mono ?_;rintro e z ⟨rfl,u,sv',Fs',q,p⟩;have t:=Lh q;have r:=Lh p;clear q p;go_wp2;go_ret;exact ⟨rfl,u,sv',Fs',t.o,(AW.ob o).trans r.o⟩
def JI (d k:Option Addr) (j i p o:Nat) (g:Int) (h:AN w bm fb cap cur cs fs f lv sv m Fi Fl Fs) (A:fs.length<=200) (l:List Int) (n:Int) (b:f.S=l++[n]) (C:n<1) :
  ϙ prog 183 #[DH (σ d j i) (σ k p o) g bm] w (GR (Ah 17) w bm fb cap cs fs { f with S:=l } lv m Fi Fl (bm::fb::(Fi++(Fl++Fs)))):=by
 have q:=AA w (χ #[σ d j i,ι g,σ k p o,.pointer (ς (π bm 0))] 199);have x:=Lh h.lt;have y:=Lh (h.kp q);have t:=Lh b;clear b h;unfold DH;go_enter func183,ntmps183;go_wp2_with fail;refine (Cm d k j i p o g y.o A l n t.o).mono ?_;rintro e H ⟨rfl,v,sv',Fs',r,a⟩;have u:=Lh r;have s:=Lh a;have c:(w:Nat)∉bm::fb::(Fi++(Fl++Fs)):=λe=>by have:=x.o _ e;omega
 have D:=a.cell (AF (w:=w) 0 _ rfl) c;have E:=a.cell (AF (w:=w) 1 _ rfl) c;have F:=a.cell (AF (w:=w) 2 _ rfl) c;have G:=a.cell (AF (w:=w) 3 _ rfl) c;clear r a;go_wp2_with fail;refine (Ek d k j i p o g bm 17 _).mono ?_;rintro B I ⟨rfl,z⟩;exact ⟨rfl,rfl,Bn.th ⟨v,sv',Fs',u.o,(AW.ob q).trans s.o⟩ z⟩
def AW.notin (h:AW F F' w w') (b:n<w) (hF:n∉F):n∉F':=λe=>by
 rcases h.new n e with a|a
 .exact hF a
 .omega
def DS (op:Int):Int:=if 20<=op/\op<=23 then 1 else 0
def BG (op a b:Int):Int:=
 if op=15 then (if Af (a+b) then 0 else 5) else if op=16 then (if Af (a - b) then 0 else 5) else if op=17 then (if a.natAbs*b.natAbs<=1099511627776 then 0 else 5)
 else if op=18\/op=19 then (if b=0 then 18 else 0) else 0
def Du (op a b:Int):Int:=
 if op=15 then a+b else if op=16 then a - b else if op=17 then a*b else if op=18 then a.tdiv b else if op=19 then a.tmod b
 else if op=20\/op=24 then D0 (a == b) else if op=21\/op=25 then D0 (a != b) else if op=22 then D0 (decide (a<b)) else if op=23 then D0 (decide (a<=b))
 else if op=27 then max a b else min a b
def Iq (op a b:Int) (w:Ϣ) (bm fb cap:Nat) (cs:List ϒ) (fs:List AY) (f':AY) (lv:ϒ) (m:AV) (Fi Fl F:List Nat) (e:Ending) (w':Ϣ):Prop:=
 (BG op a b=0/\e=.returned (ι (Du op a b))/\Bn w bm fb cap cs fs f' lv { m with C:=m.C+DS op } Fi Fl F w')\/
 (BG op a b≠0/\GR (Ah (BG op a b)) w bm fb cap cs fs f' lv { m with C:=m.C+DS op } Fi Fl F e w')
def YJ (a b:Int) (e:-1099511627776<=a/\a<=1099511627776) (f:-1099511627776<=b/\b<=1099511627776) (g:b≠0):wrap64 (a.tdiv b)=a.tdiv b/\wrap64 (a.tmod b)=a.tmod b:=by
 have c:(a.tdiv b).natAbs<=a.natAbs:=by rw [Int.natAbs_tdiv];exact Nat.div_le_self _ _
 have d:(a.tmod b).natAbs<=a.natAbs:=by rw [Int.natAbs_tmod];exact Nat.mod_le _ _
 exact ⟨IntWalk.wrap64_in _ ω,IntWalk.wrap64_in _ ω⟩
def G0 (h:¬(20<=op/\op<=23)):({ m with C:=m.C+DS op }:AV)=m:=by
 unfold DS;rw [if_neg h];simp
def Vj (h:20<=op/\op<=23):({ m with C:=m.C+DS op }:AV)={ m with C:=m.C+1 }:=by
 unfold DS;rw [if_pos h]
def LA (op:Int) (D:BB op) (p s:Option Addr) (r q u t:Nat) (g:Int) (h:AN w bm fb cap cur cs fs f lv sv m Fi Fl Fs) (S:fs.length<=200) (l:List Int) (a b:Int) (E:f.S=l++[a]++[b])
  (G:-1099511627776<=a/\a<=1099511627776) (H:-1099511627776<=b/\b<=1099511627776) (hc:-1<=m.C/\m.C<=4611686018427387904) :
  ϙ prog 189 #[DH (σ p r q) (σ s u t) g bm,ι op] w (Iq op a b w bm fb cap cs fs { f with S:=l } lv m Fi Fl (bm::fb::(Fi++(Fl++Fs)))):=by
 have L:=Lh D;clear D;have P:=AA w (χ #[σ p r q,ι g,σ s u t,.pointer (ς (π bm 0))] 199);have Y:=Lh h.lt;have hA:=Lh (h.kp P);have X:=Lh E;clear E h;have C:(w:Nat)∉bm::fb::(Fi++(Fl++Fs)):=λe=>by have:=Y.o _ e;omega
 unfold DH;go_enter func189,ntmps189;go_wp2_with fail;refine (Cm p s r q u t g hA.o S (l++[a]) b X.o).mono ?_;rintro e w1 ⟨rfl,aR,aW,aU,N,z⟩;have T:=z.cell (AF (w:=w) 0 _ rfl) C;have U:=z.cell (AF (w:=w) 1 _ rfl) C;have V:=z.cell (AF (w:=w) 2 _ rfl) C;have W:=z.cell (AF (w:=w) 3 _ rfl) C;have F:=z.notin ψ C;have M:=Lh N;have K:=Lh z;clear N z;go_wp2_with fail;refine (Cm p s r q u t g M.o S l a rfl).mono ?_;rintro e w2 ⟨rfl,i,o,j,O,A⟩;have k0:=A.cell T F;have k1:=A.cell U F;have k2:=A.cell V F;have k3:=A.cell W F;have d:=Lh O;have k:=Lh (((AW.ob P).trans K.o).trans A);clear O A T U V W M K;have D:=L.o;unfold BB at D;have:(op=15\/op=16)\/op=17\/(op=18\/op=19)\/(op=20\/op=21\/op=22\/op=23)\/(op=24\/op=25)\/op=27\/op=28:=ω;clear L D;rcases this with h|rfl|h|h|h|h
 .obtain ⟨x,v⟩:=ε (if op=15 then a+b else a - b)
  have J:=Lh v;clear v;rcases h with rfl|rfl;all_goals
   go_wp2_with fail;have v:=J.o;simp only [Int.reduceEq,if_true,if_false] at v;rw [<-v];cases c:Af x with
   | true=>refine (J1 p s r q u t g bm _ _ c).mono ?_;rintro e B ⟨rfl,n⟩;rw [v] at c;have y:=Lh c;clear c v;go_wp2;go_ret;have c:=y.o;exact .inl ⟨by simp [BG,c],by rw [J.o];rfl,by rw [G0 δ];exact Bn.th ⟨i,o,j,d.o,k.o⟩ n⟩
   | false=>
    refine (Po p s r q u t g bm _ _ c).mono ?_;rintro e B ⟨rfl,n⟩;rw [v] at c;refine ⟨rfl,.inr ⟨by simp [BG,c],?_⟩⟩;rw [G0 δ];first|rw [show BG 15 a b=5 by simp [BG,c]]|rw [show BG 16 a b=5 by simp [BG,c]]
    exact ⟨rfl,Bn.th ⟨i,o,j,d.o,k.o⟩ n⟩
 .by_cases c:a.natAbs*b.natAbs<=1099511627776
  all_goals
   have y:=Lh c;clear c;go_wp2_with fail
  .refine (TA p s r q u t g bm a b _ G H y.o).mono ?_
   rintro e B ⟨rfl,n⟩;go_wp2;go_ret;exact .inl ⟨by simp [BG,y.o],rfl,by rw [G0 δ];exact Bn.th ⟨i,o,j,d.o,k.o⟩ n⟩
  .refine (U3 p s r q u t g bm a b _ G H (by have:=y.o;omega)).mono ?_
   rintro e B ⟨rfl,n⟩;refine ⟨rfl,.inr ⟨by simp [BG,y.o],?_⟩⟩;rw [G0 δ,show BG 17 a b=5 by simp [BG,y.o]];exact ⟨rfl,Bn.th ⟨i,o,j,d.o,k.o⟩ n⟩
 .by_cases hz:b=0
  .have HZ:=Lh hz
   have Z:(b == 0)=ϑ:=by rw [hz];rfl
   clear hz;rcases h with rfl|rfl;all_goals
    go_wp2_with fail;refine (Ek p s r q u t g bm 18 _).mono ?_;rintro e B ⟨rfl,n⟩;refine ⟨rfl,.inr ⟨by simp [BG,HZ.o],?_⟩⟩;rw [G0 δ];first|rw [show BG 18 a b=18 by simp [BG,HZ.o]]|rw [show BG 19 a b=18 by simp [BG,HZ.o]]
    exact ⟨rfl,Bn.th ⟨i,o,j,d.o,k.o⟩ n⟩
  .have Z:=beq_eq_false_iff_ne.2 hz
   have R:=YJ a b G H hz;rcases h with rfl|rfl;all_goals
    go_wp2;go_ret;exact .inl ⟨by simp [BG,hz],E8 (by unfold Du;simp only [Int.reduceEq,or_false,if_false,if_true];try (first|rfl|exact R.1|exact R.2)),by rw [G0 δ];exact ⟨i,o,j,d.o,k.o⟩⟩
 .have cC:=d.o.cCompares
  have aV:=d.o.frm 7;have Q:=KD (m':={ m with C:=m.C+1 }) d.o Br 7 (ι (m.C+1)) rfl;have I:=Lh Q;clear Q;rcases h with rfl|rfl|rfl|rfl;all_goals
   go_wp2_with fail;refine (Jr _ _).mono ?_;rintro e B ⟨rfl,rfl⟩;go_wp2;go_ret;exact .inl ⟨by simp [BG],E8 (by simp [Du]),by rw [Vj δ];exact ⟨i,o,j,I.o.1,k.o.trans I.o.2⟩⟩
 .rcases h with rfl|rfl
  all_goals
   go_wp2_with fail;refine (Jr _ _).mono ?_;rintro e B ⟨rfl,rfl⟩;go_wp2;go_ret;exact .inl ⟨by simp [BG],E8 (by simp [Du]),by rw [G0 δ];exact ⟨i,o,j,d.o,k.o⟩⟩
 .rcases h with rfl|rfl
  all_goals
   go_wp2;go_ret;exact .inl ⟨by simp [BG],E8 (by simp [Du]),by rw [G0 δ];exact ⟨i,o,j,d.o,k.o⟩⟩
def DF (args:List Int) (z k:Nat):List Int:=ϱ k 0++(args.drop k++ϱ z 0)
def LS {a:Int} (h:args[k]?=ς a):(DF args z (k+1)).set k a=DF args z k:=by
 unfold DF;have b:=(Ll h)
 rw [List.drop_eq_getElem_cons b,List.replicate_succ',List.append_assoc,List.set_append_right _ _ ψ];have:args[k]=a:=by rw [Lg b] at h;simpa using h
 simp [this]
def LR (h:k<=args.length):(DF args z k).length=args.length+z:=by
 simp [DF];omega
def LQ (args:List Int) (z:Nat):DF args z args.length=ϱ (args.length+z) 0:=by
 simp [DF,List.replicate_append_replicate]
def FK (W:Ϣ) (n:Nat) (a:n<=1048576):(Instr.makeSlice 22 (ι (n:Int)) (ι (n:Int))).run prog W=.ok (σ (ς (π W 0)) n n) (W.alloc (χ (Ad (ϱ n 0)) 3)):=by
 rw [MI W n a];simp [ES,Ad]
def Mf {a:Int} (h:l[k]?=ς a):l.take (k+1)=l.take k++[a]:=by
 obtain ⟨b,rfl⟩:=List.getElem?_eq_some_iff.1 h;exact List.take_succ_eq_append_getElem b
def AW.drop (a:ϐ w w W) (h:AW (bl::F) F' W wr) (d:(w:Nat)<=bl):AW F F' w wr:=
 ⟨h.os.trans a.os,h.tape.trans a.tape,h.output.trans a.output,Nt a.size h.size,λk f hF=>by
  rw [h.block k (Nl f a.size) (λe=>by rw [ϰ] at e;rcases e with e|e;omega;exact hF e),a.block k f],λb g=>by
  rcases h.new b g with c|c
  .rw [ϰ] at c
   rcases c with rfl|c
   .exact .inr d
   .exact .inl c
  .exact .inr (Nt a.size c)⟩
def AN.rowOwn (h:AN w bm fb cap cur cs fs f lv sv m Fi Fl Fs):w.ownsRow 0 150 4 (σ (ς (π fb 0)) (fs.length+1) cap) (fs.length+1) (cs++[ι f.fn,ι f.pc,lv,sv]):=
 ⟨by simp [h.cslen];omega,.inr ⟨fb,cap,cur,rfl,Nat.zero_le _,h.row,h.capl,by unfold maxLen;have:=h.capm;omega,h.csize,h.take⟩⟩
def add_zero (g j:Nat):((π g 0):Addr).add j=(π g j):=by unfold Addr.add;split<;>simp_all
def Mw (W:Ϣ) (vs:List ϒ) (T:TypeId):∀ j u,vs[j]?=ς u->(W.alloc (χ vs.toArray T)).drew.cell? (((π W 0):Addr).add j)=ς u:=λj u a=>by
 rw [add_zero];show (W.alloc (χ vs.toArray T)).cell? _=_;rw [B6];simpa using a
def FT:(prog.info? 150).map (λi=>(i.zero,i.size,i.bytes))=ς (ς (.agg #[ι 0,ι 0,ν,ν]),4,64):=by kernel_rfl
def OH {w5:Ϣ} {p:AY} {o:Obj} {g d:Nat} {locs:List Int} (l:AN wr bm fb cap cur cs fs p lv sv m Fi Fl Fs) (i:AW F (bm::fb::(Fi++(Fl++Fs))) w wr) (J:locs.length=n) (X:n<=1000000) (E:∀ x∈locs,in64 x) (Z:k<=1000000)
  (W:(w:Nat)<=bl) (j:bl∉bm::fb::(Fi++(Fl++Fs))) (t:wr.heap[bl]?=ς (χ (Ad locs) 3 (0,0)))
  (q:w5.ownsRow 0 150 4 (σ (ς (π g 0)) (fs.length+1+1) d) (fs.length+1+1) ((cs++[ι p.fn,ι p.pc,lv,sv])++[ι (k:Int),ι 0,σ (ς (π bl 0)) n n,ν]))
  (u:((wr.alloc o).drew).grownBy w5 (ς fb)) (s:ς fb=ς g\/g=((wr.alloc o).drew).heap.size) :
  ∃ F',Ak (w5.setCell (π bm 0) (σ (ς (π g 0)) (fs.length+1+1) d)) bm { m with J:=fs++[p]++[⟨k,0,locs,[]⟩] } F'/\AW F F' w (w5.setCell (π bm 0) (σ (ς (π g 0)) (fs.length+1+1) d)):=by
 have z:=l.ne;have y:=l.lt;have N:=(La t)
 have v:g=fb\/(wr:Nat)<g:=by
  rcases s with h|h
  .left;simpa using h.symm
  .right;rw [h];simp
 have H:g≠bm:=by
  have:=y bm ψ;rcases v with h|h
  .rw [h];exact λe=>z.1 e.symm
  .omega
 have A:∀ b,b<(wr:Nat)->b≠fb->w5.heap[b]?=wr.heap[b]?:=λb c Q=>by rw [u.block b φ (λe=>Q (by simpa using e))];exact Ha _ _ _ c
 have B:∀ b,b≠bm->(w5.setCell (π bm 0) (σ (ς (π g 0)) (fs.length+1+1) d)).heap[b]?=w5.heap[b]?:=λb c=>heap_setCell_other _ _ _ _ c;have C:∀ b∈Fi++(Fl++Fs),(w5.setCell (π bm 0) (σ (ς (π g 0)) (fs.length+1+1) d)).heap[b]?=wr.heap[b]?:=λb c=>by rw [B b (z.2 b c).1,A b (y b (by simp only [ϰ];exact .inr (.inr c))) (z.2 b c).2]
 have M:(w5.setCell (π bm 0) (σ (ς (π g 0)) (fs.length+1+1) d)).heap[bl]?=ς (χ (Ad locs) 3 (0,0)):=by rw [B bl (λe=>j (by simp [e])),A bl N (λe=>j (by simp [e]))];exact t
 have K:(w5.setCell (π bm 0) (σ (ς (π g 0)) (fs.length+1+1) d)).ownsRow 0 150 4 (σ (ς (π g 0)) (fs.length+1+1) d) (fs.length+1+1) ((cs++[ι p.fn,ι p.pc,lv,sv])++[ι (k:Int),ι 0,σ (ς (π bl 0)) n n,ν]):=by
  refine ⟨q.1,?_⟩;rcases q.2 with ⟨h,_⟩|⟨D,S,T,G,c,R,r⟩
  .cases h
  .have:D=g:=by simp at G;exact G.1.symm
   exact .inr ⟨D,S,T,G,c,by rw [B D (by rw [this];exact H)];exact R,r⟩
 have O:Be (w5.setCell (π bm 0) (σ (ς (π g 0)) (fs.length+1+1) d)) (σ (ς (π bl 0)) n n) locs [bl]:=
  ⟨⟨ψ,.inr ⟨bl,n,Ad locs,by rw [J],Nat.zero_le _,M,ω,by unfold maxLen;omega,by simp only [Ad,List.size_toArray,List.length_map,Nat.mul_one];exact J,by simp only [Ad,Nat.mul_one];exact List.take_of_length_le ψ⟩⟩,rfl,E⟩
 have P:Be (w5.setCell (π bm 0) (σ (ς (π g 0)) (fs.length+1+1) d)) ν [] []:=⟨World.ownsRow_nil _ _ _ _,rfl,ψ⟩
 refine ⟨bm::g::((Fi++(Fl++Fs))++([bl]++[])),⟨σ (ς (π g 0)) (fs.length+1+1) d,(cs++[ι p.fn,ι p.pc,lv,sv])++[ι (k:Int),ι 0,σ (ς (π bl 0)) n n,ν],(Fi++(Fl++Fs))++([bl]++[]),?_,?_,?_,by simp [Value.ownBlock],?_⟩,?_⟩
 .exact ϡ _ _ _ _ _ _ (by rw [A bm (y bm ψ) z.1];exact l.mach)
 .have:(fs++[p]++[(⟨k,0,locs,[]⟩:AY)]).length=fs.length+1+1:=by simp
  rw [this];exact K
 .exact ((l.init.kp (λb c=>C b (by simp [c]))).add (l.loc.kp (λb c=>C b (by simp [c]))) (l.stk.kp (λb c=>C b (by simp [c]))) l.fn l.pc).add (f:=⟨k,0,locs,[]⟩) O P ⟨by show (_:Int)<=(k:Int);omega,by show (k:Int)<=_;omega⟩ ⟨by show (_:Int)<=(0:Int);omega,by show (0:Int)<=_;omega⟩
 .have hd:=l.nodup
  simp only [List.nodup_cons,ϰ,not_or] at hd j;have L:=λb c=>y b (by simp only [ϰ];exact .inr (.inr c));simp only [List.append_nil,List.nodup_cons,ϰ,not_or];refine ⟨⟨λe=>H e.symm,?_⟩,?_,?_⟩
  .rw [List.mem_append,not_or];exact ⟨hd.1.2,by simp;exact λe=>j.1 e.symm⟩
  .rw [List.mem_append,not_or]
   constructor
   .intro e
    rcases v with h|h
    .rw [h] at e;exact hd.2.1 e
    .have:=L _ e;omega
   .simp
    intro e;rcases v with h|h
    .exact j.2.1 (e▸h)
    .omega
  .rw [List.nodup_append]
   exact ⟨hd.2.2,ψ,λa V b c=>by simp at c;subst c;exact λe=>j.2.2 (e▸V)⟩
 .refine ⟨u.os.trans i.os,u.tape.trans i.tape,u.output.trans i.output,by have U:=u.size;have Y:=i.size;simp at U ⊢;omega,λb c hF=>?_,λb c=>?_⟩
  .have aM:=Nl c i.size
   have I:=i.notin c hF;rw [B b (λe=>I (by simp [e])),A b aM (λe=>I (by simp [e])),i.block b c hF]
  .simp only [ϰ,List.mem_append,List.append_nil,List.not_mem_nil,or_false] at c
   rcases c with c|c|(c|c|c)|c
   .exact i.new b (by simp [c])
   .rcases v with h|h
    .exact i.new b (by simp [c,h])
    .right;have:=i.size;omega
   .exact i.new b (by simp [c])
   .exact i.new b (by simp [c])
   .exact i.new b (by simp [c])
   .right;omega
def UL (hs:f.S=l++args) (h:∀ n∈f.S,in64 n):∀ n∈args++ϱ z 0,in64 n:=λn a=>by
 rw [List.mem_append] at a;rcases a with a|a
 .exact h n (by rw [hs];simp [a])
 .rw [List.eq_of_mem_replicate a];exact ⟨δ,δ⟩
def KB (args:List Int) (z:Nat):DF args z 0=args++ϱ z 0:=by simp [DF]
def JX (W:Ϣ) (bm fb cap:Nat) (cs:List ϒ) (fs:List AY) (f':AY) (lv:ϒ) (m:AV) (Fi Fl F:List Nat) (bl:Nat) (wr:Ϣ):Prop:=
 ∃ cur' sv' Fs',AN wr bm fb cap cur' cs fs f' lv sv' m Fi Fl Fs'/\AW (bl::F) (bl::bm::fb::(Fi++(Fl++Fs'))) W wr/\bl∉bm::fb::(Fi++(Fl++Fs'))
def Td (w:Ϣ) (bm fb cap:Nat) (cs:List ϒ) (fs:List AY) (f:AY) (l args:List Int) (z k:Nat) (lv:ϒ) (m:AV) (Fi Fl F:List Nat) (e:Ending) (w':Ϣ):Prop:=
 (fs.length+1<200/\e=.returned (.tuple #[])/\∃ F',Ak w' bm { m with J:=fs++[{ f with S:=l }]++[⟨k,0,args++ϱ z 0,[]⟩] } F'/\AW F F' w w')\/
 (¬fs.length+1<200/\GR (Ah 19) w bm fb cap cs fs { f with S:=l } lv m Fi Fl F e w')
def OG (t P:Option Addr) (v u p:Nat) (g:Int) (h:AN w bm fb cap cur cs fs f lv sv m Fi Fl Fs) (hn:fs.length<200)
  (B:Nat) (hB:∀ b∈bm::fb::(Fi++(Fl++Fs)),B<=b) (c:List BK) (cN:c.length<=1000000) (T:AE B w 5 (CW B) (σ P c p) c) (k:Nat) (x:BK) (J:c[k]?=ς x) (l args:List Int) (N:f.S=l++args) (hp:x.params=args.length) (z:Nat) (hq:x.L=args.length+z) (cO:args.length+z<=100) (I:∀ n∈f.S,in64 n) (hm:m.J=fs++[f]) :
  ϙ prog 184 #[DH (σ t v u) (σ P c p) g bm,ι (k:Int)] w (Td w bm fb cap cs fs f l args z k lv m Fi Fl (bm::fb::(Fi++(Fl++Fs)))):=by
 have bP:=AA w (χ #[σ t v u,ι g,σ P c p,.pointer (ς (π bm 0))] 199);have bI:=Lh h.lt;have bN:=Nat.le_of_lt (Nat.lt_of_le_of_lt (hB bm ψ) (h.lt bm ψ));have aY:(w:Nat)∉bm::fb::(Fi++(Fl++Fs)):=λe=>by have:=bI.o _ e;omega
 obtain ⟨a0,aT,bG,cG,cH,cI,Q⟩:=T;obtain ⟨rfl,rfl⟩:P=a0/\p=aT:=by simpa using bG
 have cE:=(Ll J)
 rcases Q with h0|⟨b,o,rfl,bQ,Q⟩
 .rw [h0] at J;simp at J
 obtain ⟨g1,S,g3,g4,⟨xv,g5,g6⟩,g7,-,-⟩:=(Q k x J).below (bP.mono bN) bQ;obtain ⟨xa,aO,rfl,-,-,-,-⟩:=g6;rw [hp] at S;rw [hq] at g3;have H:=Lh h;have X:=Lh N;have bK:=Lh I;have bU:∀ W,(Instr.makeSlice 22 (ι ((args:Int)+(z:Int))) (ι ((args:Int)+(z:Int)))).run prog W=.ok (σ (ς (π W.heap.size 0)) (args.length+z) (args.length+z)) (W.alloc (χ (Ad (ϱ (args.length+z) 0)) 3)):=by intro W;have:=FK W (args.length+z) ω;rw [Int.natCast_add] at this;exact this
 clear h hB Q bG N J hp hq I hm;unfold DH;go_enter func184,ntmps184;go_wp2_with fail;obtain ⟨s,A⟩:=ε ((((w.alloc (χ #[σ t v u,ι g,σ (ς (π b o)) c p,.pointer (ς (π bm 0))] 199)).alloc (χ #[.string x.name,ι (args:Int),ι ((args:Int)+(z:Int)),.bool x.result,σ xa x.code aO] 70)).alloc (χ (Ad (ϱ (args.length+z) 0)) 3)));have aH:ϐ w w s:=by rw [A];exact ((Br.alloc (Nr _) _).alloc ψ _).alloc φ _
 have aI:(s:Nat)=(w:Nat)+1+1+1:=by rw [A];simp
 have K:Hid (AR s w [σ t v u,ι g,σ (ς (π b o)) c p,.pointer (ς (π bm 0))]):=by rw [A];exact (AF.alloc _).alloc _
 have bR:Hid (s.heap[(w:Nat)+1+1]?=ς (χ (Ad (DF args z args.length)) 3 (0,0))):=by show _=_;rw [LQ,A];have:=Hn ((w.alloc (χ #[σ t v u,ι g,σ (ς (π b o)) c p,.pointer (ς (π bm 0))] 199)).alloc (χ #[.string x.name,ι (args:Int),ι ((args:Int)+(z:Int)),.bool x.result,σ xa x.code aO] 70)) (χ (Ad (ϱ (args.length+z) 0)) 3);simpa using this
 have aW:(w:Nat)+1+1∉bm::fb::(Fi++(Fl++Fs)):=λe=>by have:=bI.o _ e;omega
 have E:(w:Nat)∉((w:Nat)+1+1)::bm::fb::(Fi++(Fl++Fs)):=λe=>by rw [ϰ] at e;rcases e with e|e;omega;exact aY e
 have bA:Hid (JX s bm fb cap cs fs { f with S:=l++args.take args.length } lv m Fi Fl (bm::fb::(Fi++(Fl++Fs))) (w+1+1) s):=by
  refine ⟨cur,sv,Fs,?_,AW.self,aW⟩;have:({ f with S:=l++args.take args.length }:AY)=f:=by rw [List.take_length,<- X.o]
  rw [this];exact H.o.kp aH
 rw [<-A];have aS:=Lh aI;clear A aI bU g1 S g3 g4 g5;go_loopg [6] (args.length+1) (λgk ix wr=>∃ r:Nat,r<gk/\r<=args.length/\ix=ι ((r:Int) - 1)/\Hid (JX s bm fb cap cs fs { f with S:=l++args.take r } lv m Fi Fl (bm::fb::(Fi++(Fl++Fs))) (w+1+1) wr)/\Hid (wr.heap[(w:Nat)+1+1]?=ς (χ (Ad (DF args z r)) 3 (0,0))))
 case atStart=>exact ⟨args.length,ω,Nr _,rfl,bA,bR⟩
 case round=>
  obtain ⟨r,cK,cL,rfl,N,U⟩:=hrel;obtain ⟨aG,sv',Fs',C,i,R⟩:=N.o;have k0:=i.cell (K.o 0 _ rfl) E;have k1:=i.cell (K.o 1 _ rfl) E;have k2:=i.cell (K.o 2 _ rfl) E;have k3:=i.cell (K.o 3 _ rfl) E;have bJ:=(La U.o)
  have bV:(w:Nat)∉bm::fb::(Fi++(Fl++Fs')):=λe=>(i.notin (by have:=aS.o;omega) E) (List.mem_cons_of_mem _ e)
  by_cases cJ:0<r
  .obtain ⟨q,rfl⟩:∃ q,r=q+1:=⟨r - 1,ω⟩
   obtain ⟨a,ha⟩:∃ a,args[q]?=ς a:=⟨_,Lg ω⟩
   have j:=Lh C;have HM:=Lh i;have V:=Lh ha;clear C i ha;go_wp2_with fail;refine (Cm t (ς (π b o)) v u c.length p g j.o ω (l++args.take q) a (by show l++args.take (q+1)=_;rw [Mf V.o,List.append_assoc])).mono ?_;rintro e D ⟨rfl,aU,cB,bD,bF,L⟩;have M:D.heap[(w:Nat)+1+1]?=ς (χ (Ad (DF args z (q+1))) 3 (0,0)):=by rw [L.block _ bJ R];exact U.o
   have aM:=L.notin bJ R;obtain ⟨y,aN⟩:∃ y,(DF args z (q+1))[q]?=ς y:=⟨_,Lg (by rw [LR ω];omega)⟩
   have cl:D.cell? (π (w+1+1) q)=ς (ι y):=by rw [cell_of_row _ _ _ _ _ _ M];exact DC aN
   have fr:=frozen_of_row _ _ q _ _ M;have aX:Hid ((D.setCell (π (w+1+1) q) (ι a)).heap[(w:Nat)+1+1]?=ς (χ (Ad (DF args z q)) 3 (0,0))):=by show _=_;rw [ϡ _ _ _ _ _ _ M,D6,LS V.o]
   have ho:∀ O,O≠(w:Nat)+1+1->(D.setCell (π (w+1+1) q) (ι a)).heap[O]?=D.heap[O]?:=λO d=>heap_setCell_other _ _ _ _ d;have bB:Hid (JX s bm fb cap cs fs { f with S:=l++args.take q } lv m Fi Fl (bm::fb::(Fi++(Fl++Fs))) (w+1+1) (D.setCell (π (w+1+1) q) (ι a))):=by
    refine ⟨aU,cB,bD,?_,(HM.o.trans (L.wide (F:=((w:Nat)+1+1)::bm::fb::(Fi++(Fl++Fs'))) (F':=((w:Nat)+1+1)::bm::fb::(Fi++(Fl++bD))) (λb d=>List.mem_cons_of_mem _ d) (λb d=>?_))).trans ⟨rfl,rfl,rfl,ψ,λk hk hF=>ho k (λe=>hF (by simp [e])),λ_ h=>.inl h⟩,aM⟩
    .exact bF.sub (λb d=>ho b (λe=>aM (e▸d)))
    .rw [ϰ] at d;rcases d with d|d;right;simp [d];left;exact d
   clear bF L aN M;go_wp2_with fail
   go_roundg (gk - 1)
   case measure=>omega
   case rel=>exact ⟨q,ω,ω,by go_num,bB,aX⟩
  .obtain rfl:r=0:=ω
   have bE:=Lh ((i.drop aH ω).wide (F:=bm::fb::(Fi++(Fl++Fs))) (F':=bm::fb::(Fi++(Fl++Fs'))) (λ_ h=>h) (λ_ h=>.inl (List.mem_cons_of_mem _ h)));have j:Hid (AN wr bm fb cap aG cs fs { f with S:=l } lv sv' m Fi Fl Fs'):=by
    have e:({ f with S:=l++args.take 0 }:AY)={ f with S:=l }:=by simp
    rw [e] at C;exact C
   have bT:Hid (wr.heap[(w:Nat)+1+1]?=ς (χ (Ad (args++ϱ z 0)) 3 (0,0))):=by show _=_;rw [<-KB];exact U.o
   have cF:=j.o.cFrames;have fF:=j.o.frm 0;have bS:=j.o.lt bm ψ;have Y:¬bm=fb:=j.o.ne.1;have bW:(w:Nat)<wr:=ω;have bC:¬(w:Nat)=fb:=λe=>bV (by simp [e]);by_cases aK:fs.length+1<200
   .have aZ:=Lh j.o.rowOwn
    obtain ⟨ti,bX,bY,bZ,cA⟩:=info_parts FT;clear C i;go_wp2_with fail
    go_region_law (refine step_append_lies _ rfl (.tmp 43) (.tmp 47) 55 rfl 0 150 ti (.agg #[ι 0,ι 0,ν,ν]) 4 64 underlying55 bX bY bZ cA rfl δ (σ (ς (π fb 0)) (fs.length+1) cap) (fs.length+1) (cs++[ι f.fn,ι f.pc,lv,sv']) rfl ((aZ.o.alloc _).drew) (π wr 0) 1 1 [ι (k:Int),ι 0,σ (ς (π (w+1+1) 0)) (args.length+z) (args.length+z),ν] rfl rfl (Mw wr _ _) (by simp [Value.oneCell']) ω (by unfold maxLen;omega) ω (Nat.zero_le _) _ rfl ?_;intro S bM w5 Z G aL bH;have aF:=Lh Z;have bL:=Lh G;have cC:=(World.grownBy.cell G (show ((wr.alloc (χ #[ι (k:Int),ι 0,σ (ς (π (w+1+1) 0)) (args.length+z) (args.length+z),ν] 150)).drew).cell? (π bm 0)=_ from AB (AA _ _) cF) (by simp [Value.ownBlock];exact Y));have cM:=(World.grownBy.cell G (show ((wr.alloc (χ #[ι (k:Int),ι 0,σ (ς (π (w+1+1) 0)) (args.length+z) (args.length+z),ν] 150)).drew).cell? (π w 3)=_ from AB (AA _ _) k3) (by simp [Value.ownBlock];exact bC));have cD:w5.frozen? (π bm 0)=ϝ:=(by rw [World.frozen?_of_block (w:=wr) (a:=(π bm 0)) (by rw [G.block bm φ (by simp [Value.ownBlock];exact Y)];exact Ha _ _ _ bS)];exact fF);clear Z G)
    all_goals go_end0
    all_goals exact .inl ⟨aK,rfl,OH j.o bE.o ψ ω (UL X.o bK.o) ω ω R bT.o aF.o bL.o aL⟩
   .clear C i
    go_wp2_with fail;refine (Ek t (ς (π b o)) v u c.length p g bm 19 _).mono ?_;rintro e w4 ⟨rfl,bO⟩;exact ⟨rfl,.inr ⟨aK,rfl,Bn.th ⟨aG,sv',Fs',j.o,bE.o⟩ bO⟩⟩
def Ak.kp (h:Ak w bm m F) (c:ϐ w w w'):Ak w' bm m F:=by
 obtain ⟨o,a,k,d,f,i,rfl,p⟩:=h;refine ⟨o,a,k,by rw [c.block _ (La d)];exact d,⟨f.1,?_⟩,i.kp (λb n=>c.block b (i.lt b n)),rfl,p⟩;rcases f.2 with e|⟨g,cap,l,rfl,x,j,r⟩
 .exact .inl e
 .exact .inr ⟨g,cap,l,rfl,x,by rw [c.block g (La j)];exact j,r⟩
def AN.reframe (h:AN w bm fb cap cur cs fs f lv sv m Fi Fl Fs) (l:List AY):AN w bm fb cap cur cs fs f lv sv { m with J:=l } Fi Fl Fs:=
 ⟨h.mach,h.row,h.capl,h.capm,h.csize,h.take,h.init,h.loc,h.stk,h.fn,h.pc,h.nodup⟩
def RK (h:AN w bm fb cap cur cs fs f lv sv m Fi Fl Fs) (a:ϐ w w W) :
  Ak (W.setCell (π bm 0) (σ (ς (π fb 0)) fs cap)) bm { m with J:=fs } (bm::fb::Fi)/\AW (bm::fb::(Fi++(Fl++Fs))) (bm::fb::Fi) w (W.setCell (π bm 0) (σ (ς (π fb 0)) fs cap)):=by
 have g:=h.ne;have c:=h.kp a;have d:∀ b,b≠bm->(W.setCell (π bm 0) (σ (ς (π fb 0)) fs cap)).heap[b]?=W.heap[b]?:=λb a=>heap_setCell_other _ _ _ _ a;have i:(bm::fb::Fi).Nodup:=by
  have e:bm::fb::(Fi++(Fl++Fs))=(bm::fb::Fi)++(Fl++Fs):=by simp
  have:=h.nodup;rw [e] at this;exact (List.nodup_append.1 this).1
 refine ⟨⟨σ (ς (π fb 0)) fs cap,cs,Fi,ϡ _ _ _ _ _ _ c.mach,?_,c.init.kp (λb a=>d b (g.2 b (by simp [a])).1),by simp [Value.ownBlock],i⟩,(AW.ob a).trans ⟨rfl,rfl,rfl,ψ,λk j hF=>d k (λe=>hF (by simp [e])),λb a=>.inl (by simp at a ⊢;rcases a with a|a|a<;>simp [a])⟩⟩;refine ⟨h.cslen,.inr ⟨fb,cap,cur,rfl,Nat.zero_le _,by rw [d fb (λe=>g.1 e.symm)];exact c.row,by have:=h.capl;show fs.length<=cap;omega,by unfold maxLen;have:=h.capm;omega,h.csize,?_⟩⟩;have e:=congrArg (List.take (fs.length*4)) h.take;rw [List.take_take,Nat.min_eq_left ω] at e;refine e.trans ?_;rw [<-h.cslen];exact List.take_left
def EE (v:Int):Rq:=⟨4,0,0,v,0⟩
def Tc (w:Ϣ) (bm:Nat) (fs:List AY) (has:Bool) (v:Int) (m:AV) (F:List Nat) (e:Ending) (w':Ϣ):Prop:=
 (fs=[]/\e=.panicked [{ v:=Ln (EE v),recovered:=ϝ }]/\∃ F',Ak w' bm { m with J:=[] } F'/\AW F F' w w')\/
 ∃ fs' f',fs=fs'++[f']/\e=.returned (.tuple #[])/\∃ F',Ak w' bm { m with J:=fs'++[{ f' with S:=f'.S++(if has then [v] else []) }] } F'/\AW F F' w w'
def OD (n R:Option Addr) (q p i:Nat) (g:Int) (h:AN w bm fb cap cur cs fs f lv sv m Fi Fl Fs) (hn:fs.length<200)
  (B:Nat) (hB:∀ b∈bm::fb::(Fi++(Fl++Fs)),B<=b) (c:List BK) (cK:AE B w 5 (CW B) (σ R c i) c) (k:Nat) (hk:f.fn=k) (x:BK) (K:c[k]?=ς x) (v:Int) (J:f.S=if x.result then [v] else []) (hv:x.result=ϝ->v=0) (Y:in64 v)
  (cL:∀ f∈fs,f.S.length<1000000) :
  ϙ prog 185 #[DH (σ n q p) (σ R c i) g bm] w (Tc w bm fs x.result v m (bm::fb::(Fi++(Fl++Fs)))):=by
 have bB:=AA w (χ #[σ n q p,ι g,σ R c i,.pointer (ς (π bm 0))] 199);have bX:=Lh h.lt;have G:(w:Nat)∉bm::fb::(Fi++(Fl++Fs)):=λe=>by have:=bX.o _ e;omega
 obtain ⟨a0,aQ,bC,cG,cH,cI,z⟩:=cK;obtain ⟨rfl,rfl⟩:R=a0/\i=aQ:=by simpa using bC
 have cE:=(Ll K)
 rcases z with h0|⟨b,o,rfl,cA,z⟩
 .rw [h0] at K;simp at K
 have z:=z k x K;have H:=Lh h;have HS:=Lh J;have HV:=Lh hv;have V:=h.cFn;rw [hk] at V;have q3:=z.2.2.2.1;clear h hB bC J K hv z hk;obtain ⟨u,Q⟩:=ε (w.alloc (χ #[σ n q p,ι g,σ (ς (π b o)) c i,.pointer (ς (π bm 0))] 199));have aD:=ce11 Q;obtain ⟨A,C,D,E⟩:=Γ4 aD;have F:ϐ w w u:=by rw [Q];exact bB
 have aJ:=AB F V;have bE:=AB F q3;have aI:=Lh F;have bJ:Hid (AN u.drew bm fb cap cur cs fs f lv sv m Fi Fl Fs):=H.o.kp (AG F 1);have cC:=In k;have cD:(k:Int)<(c:Int):=ω;clear aD F V q3;unfold DH;go_enter func185,ntmps185;go_upto_region 1 with fail;rw [<-Q];clear Q bB;go_region_held3 (λW=>W.cell? (π w 0)=ς (σ n q p)/\W.cell? (π w 1)=ς (ι g)/\W.cell? (π w 2)=ς (σ (ς (π b o)) c i)/\W.cell? (π w 3)=ς (.pointer (ς (π bm 0)))/\W.cell? (π fb (fs.length*4))=ς (ι (k:Int))/\W.cell? (π b (o+k*5+3))=ς (.bool x.result)/\Hid (ϐ u u W))
  (first|exact ⟨A,C,D,E,aJ,bE,Lh (AG Br 1)⟩|exact ⟨AB d A,AB d C,AB d D,AB d E,AB d aJ,AB d bE,Lh d⟩)
  (first|(go_at_call 166;refine (KX n (ς (π b o)) q p c.length i g bJ.o ω).mono ?_;rintro e j ⟨rfl,bU⟩;have d:ϐ u u j:=(AG Br 1).trans bU))
 have h1:=Lh (H.o.kp (aI.o.th d));obtain ⟨A,C,D,E,-,-,-⟩:j.cell? (π w 0)=ς (σ n q p)/\j.cell? (π w 1)=ς (ι g)/\j.cell? (π w 2)=ς (σ (ς (π b o)) c i)/\j.cell? (π w 3)=ς (.pointer (ς (π bm 0)))/\True/\True/\True:=⟨AB d A,AB d C,AB d D,AB d E,trivial,trivial,trivial⟩
 have aU:=Lh (aI.o.th d);clear d;go_upto_if 15 with fail
 go_cut [2,3] (λs2 s3 wx=>s2=.bool x.result/\s3=ι v/\Hid (Bn w bm fb cap cs fs { f with S:=[] } lv m Fi Fl (bm::fb::(Fi++(Fl++Fs))) wx)/\Hid (AW (bm::fb::(Fi++(Fl++Fs))) [] j wx))
 case first=>
  cases r:x.result
  .have bZ:=HV.o r
   subst bZ;have y:=HS.o;rw [r] at y;have e:f={ f with S:=[] }:=by cases f;simp_all
   have T:Hid (Bn w bm fb cap cs fs { f with S:=[] } lv m Fi Fl (bm::fb::(Fi++(Fl++Fs))) j):=⟨cur,sv,Fs,e▸h1.o,AW.ob aU.o⟩
   have U:Hid (AW (bm::fb::(Fi++(Fl++Fs))) [] j j):=⟨rfl,rfl,rfl,Nr _,λ_ _ _=>rfl,ψ⟩
   clear y e;go_wp2;go_meet;exact ⟨by rw [r],rfl,T,U⟩
  .have y:=HS.o
   rw [r] at y;have bM:=Lh y;clear y;go_wp2_with fail;refine (Cm n (ς (π b o)) q p c.length i g h1.o ω [] v (by rw [bM.o];rfl)).mono ?_;rintro e w2 ⟨rfl,Z⟩;obtain ⟨aK,bF,aT,aZ,t⟩:=Z;have T:Hid (Bn w bm fb cap cs fs { f with S:=[] } lv m Fi Fl (bm::fb::(Fi++(Fl++Fs))) w2):=⟨aK,bF,aT,aZ,(AW.ob aU.o).trans t⟩
   have U:Hid (AW (bm::fb::(Fi++(Fl++Fs))) [] j w2):=⟨t.os,t.tape,t.output,t.size,t.block,ψ⟩
   clear aZ t;go_wp2;go_meet;exact ⟨by rw [r],rfl,T,U⟩
 case rest=>
  obtain ⟨rfl,rfl,Z,S⟩:=hcut;obtain ⟨aK,bF,aT,I,aX⟩:=Z.o;have A:=S.o.cell A G;have C:=S.o.cell C G;have D:=S.o.cell D G;have E:=S.o.cell E G;have cF:=I.cFrames;have fF:=I.frm 0;have cB:¬(w:Nat)=bm:=λe=>G (by simp [e]);have bV:=I.capl;have HT:=Lh I;have bL:=Lh aX;clear I aX;go_wp2_with fail;obtain ⟨hO,aW⟩:=RK HT.o Br;have M:Hid (Ak ((wc.setCell (π bm 0) (σ (ς (π fb 0)) fs cap)).drew) bm { m with J:=fs } (bm::fb::Fi)):=hO.kp (AG Br 1);have O:Hid (AW (bm::fb::(Fi++(Fl++Fs))) (bm::fb::Fi) w ((wc.setCell (π bm 0) (σ (ς (π fb 0)) fs cap)).drew)):=(bL.o.trans aW).trans (AW.ob (AG Br 1));clear hO aW;by_cases hz:(fs:Int)=0
  .have bW:fs.length=0:=ω
   have P:=M.o;have N:=O.o;rw [bW] at P N;have P:=Lh P;have N:=Lh N;clear M O
   go_region
   go_wp2_with fail;refine (GU n (ς (π b o)) q p c.length i g bm 4 0 0 v 0 _).mono ?_;rintro e w6 ⟨rfl,bA⟩;have bD:=List.eq_nil_of_length_eq_zero ω;refine ⟨rfl,.inl ⟨bD,rfl,bm::fb::Fi,?_,N.o.trans (AW.ob bA)⟩⟩;have:=P.o.kp bA;rw [bD] at this;exact this
  .obtain ⟨s,f',hf⟩:∃ s f',fs=s++[f']:=by
    rcases List.eq_nil_or_concat fs with e|⟨l,a,e⟩
    .rw [e] at hz;simp at hz
    .exact ⟨l,a,by rw [e];simp⟩
   have L:=Lh hf;have bY:=cL f' (by rw [hf];simp);obtain ⟨bR,bO,bP,cM,cN,sv',bG,bH,Fs',aY,aV⟩:=M.o.top hf;have bN:=Lh aY;have bK:=Lh aV;clear aY aV hf;cases r:x.result
   .go_region
    go_wp2_with fail
    go_end0
    refine .inr ⟨s,f',L.o,rfl,bm::fb::Fi,?_,O.o⟩;have X:({ m with J:=s++[{ f' with S:=f'.S++(if x.result then [v] else []) }] }:AV)={ m with J:=fs }:=by rw [r,L.o];simp
    rw [X];exact M.o
   .go_region
    go_wp2_with fail;refine (Da n (ς (π b o)) q p c.length i g bN.o (by have:=congrArg List.length L.o;simp at this;omega) v Y bY).mono ?_;rintro e w6 ⟨rfl,bQ,cJ,bI,bT,bS⟩;go_wp2_with fail
    go_end0
    have X:({ m with J:=s++[{ f' with S:=f'.S++(if x.result then [v] else []) }] }:AV)={ m with J:=s++[{ f' with S:=f'.S++[v] }] }:=by rw [r];simp
    refine .inr ⟨s,f',L.o,rfl,bm::bR::(bG++(bH++bI)),?_,O.o.trans ?_⟩
    .rw [X];exact (bT.reframe (s++[{ f' with S:=f'.S++[v] }])).own rfl
    .rw [bK.o];exact bS
def Sh (f:AY) (has:Bool) (v:Int):AY:={ f with S:=f.S++(if has then [v] else []) }
inductive KM where
 | go (m:AV)
 | stop (r:Rq) (m:AV)
def EM (w:Ϣ) (bm:Nat) (F:List Nat) (o:KM) (e:Ending) (w':Ϣ):Prop:=
 match o with
 | .go m=>e=.returned (.tuple #[])/\∃ F',Ak w' bm m F'/\AW F F' w w'
 | .stop r m=>e=.panicked [{ v:=Ln r,recovered:=ϝ }]/\∃ F',Ak w' bm m F'/\AW F F' w w'
def Jl (h:AN w bm fb cap cur cs fs f lv sv m Fi Fl Fs) (n:Int) (g:in64 n) :
  AN (w.setCell (π fb (fs.length*4+1)) (ι n)) bm fb cap (cur.setIfInBounds (fs.length*4+1) (ι n)) cs fs { f with pc:=n } lv sv m Fi Fl Fs/\AW (bm::fb::(Fi++(Fl++Fs))) (bm::fb::(Fi++(Fl++Fs))) w (w.setCell (π fb (fs.length*4+1)) (ι n)):=by
 have d:=h.ne;have c:∀ b,b≠fb->(w.setCell (π fb (fs.length*4+1)) (ι n)).heap[b]?=w.heap[b]?:=λb a=>heap_setCell_other _ _ _ _ a;refine ⟨h.put (f':={ f with pc:=n }) 1 _ (c bm d.1) (ϡ _ _ _ _ _ _ h.row) rfl (λb a=>c b (d.2 b (by simp [a])).2) (h.loc.kp (λb a=>c b (d.2 b (by simp [a])).2)) (h.stk.kp (λb a=>c b (d.2 b (by simp [a])).2)) h.fn g h.nodup,rfl,rfl,rfl,ψ,λk i hF=>c k (λe=>hF (by simp [e])),λ_ h=>.inl h⟩
def Be.form (h:Be w v l F) (hl:0<l.length):∃ lb cap,v=σ (ς (π lb 0)) l cap/\F=[lb]/\l.length<=cap/\cap<=9223372036854775807:=by
 obtain ⟨b,c,f⟩:=h;rcases b.2 with ⟨_,k⟩|⟨g,cap,e,rfl,i,j,d,a,m,n⟩
 .omega
 .exact ⟨g,cap,rfl,c,d,by unfold maxLen at a;omega⟩
def Be.cellAt (h:Be w (σ (ς (π lb 0)) l cap) l F) {i:Nat} {n:Int} (a:l[i]?=ς n):w.cell? (π lb i)=ς (ι n):=by
 have b:=(Ll a)
 rw [h.1.cellAt i ω,List.getElem?_map,a];rfl
def RS {a:Nat} (h:AN w bm fb cap cur cs fs f (σ (ς (π lb 0)) f.L a) sv m Fi Fl Fs) (i:Nat) (n:Int) (g:in64 n) :
  AN (w.setCell (π lb i) (ι n)) bm fb cap cur cs fs { f with L:=f.L.set i n } (σ (ς (π lb 0)) f.L a) sv m Fi Fl Fs/\AW (bm::fb::(Fi++(Fl++Fs))) (bm::fb::(Fi++(Fl++Fs))) w (w.setCell (π lb i) (ι n)):=by
 have q:=h.ne;have d:∀ b,b≠lb->(w.setCell (π lb i) (ι n)).heap[b]?=w.heap[b]?:=λb c=>heap_setCell_other _ _ _ _ c;obtain ⟨s,t,u⟩:=h.loc;obtain rfl:Fl=[lb]:=t;have l:=q.2 lb ψ;have j:=h.nodup;simp only [List.nodup_cons,ϰ,List.nodup_append,List.mem_append,List.mem_singleton,List.not_mem_nil,or_false] at j;obtain ⟨-,-,v,⟨-,y,p⟩,o⟩:=j;refine ⟨⟨?_,?_,h.capl,h.capm,h.csize,h.take,h.init.kp (λb c=>d b (λe=>?_)),⟨?_,rfl,λx r=>?_⟩,h.stk.kp (λb c=>d b (λe=>?_)),h.fn,h.pc,h.nodup⟩,rfl,rfl,rfl,ψ,λk z hF=>d k (λe=>hF (by simp [e])),λ_ h=>.inl h⟩
 .rw [d bm (λe=>l.1 e.symm)];exact h.mach
 .rw [d fb (λe=>l.2 e.symm)];exact h.row
 .exact o b c lb ψ e
 .have:=(s.stored i (ι n)).1
  rw [<-List.map_set] at this;simpa using this
 .rcases List.mem_or_eq_of_mem_set r with h|h
  .exact u x h
  .rw [h];exact g
 .exact p lb rfl b c e.symm
def E6:∀ f x,Lib.bitLenAux f x<=f
 | 0,x=>by simp [Lib.bitLenAux]
 | f+1,x=>by have:=E6 f (x / 2);unfold Lib.bitLenAux;split<;>omega
