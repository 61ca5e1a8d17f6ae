import Derived.Test.YtiejafonjemioaaGreatDoorRy
import Derived.Test.YtiejafonjemioaaGreatDoorLsc
import Derived.Test.YtiejafonjemioaaGreatDoorAsk
import Derived.OwnWalk
set_option maxHeartbeats 4000000
set_option maxRecDepth 100000
set_option linter.all false
open Go renaming World→Ϣ,Value→ϒ,bodyPost_ret→ϖ,heap_setCell_same→ϡ
open Option renaming some→ς
open List renaming mem_cons→ϰ
open Go.Value renaming slice→σ
open Go.Obj renaming cells→χ
namespace Go.Proofs.YtiejafonjemioaaGreatDoor
open Go.RowKit Proofs.Tryz
variable {T:TypeId} {c:AQ} {w w' w8:Ϣ} {fv lv sv:ϒ} {m:AV} {fs:List AY} {f:AY} {e1 g n:Nat}
def Rk (c:AQ) (m:AV) (n:Int) (w:Ϣ) (F:List Nat) (e:Ending) (w':Ϣ):Prop:=∃ m',ED c m n m'/\DK w F m' e w'
def Rm (hs:AU c) (E:Bv c) {F:List Nat} (fa Q:Option Addr) (fn fc S:Nat) (g n:Int) (d:C9 c m m.Q fs f) (t:EB m)
  (B:Nat) (hB:B<=w) (V:AE B w 5 (CW B) (σ Q c.funcs S) c.funcs) (hv:Cv w fv m.J F) (T:∀ b∈F,B<=b) (I:Bj m.Q n=true) :
  Calls prog 139 #[.agg #[σ fa fn fc,ι g,σ Q c.funcs S],AJ fv m,ι n] w (Rk c m n w F):=by
 obtain ⟨D,P,bO,cs,lv,sv,J,K,Fs,rfl,rfl,hT⟩:=hv.top d.fr;obtain ⟨Y,aM,aY,aL,aZ⟩:=Λ5 hv.lt T V d t;have aT:m.Q.K=1\/m.Q.K=2\/m.Q.K=3:=by obtain ⟨_,x,_,_,_,_,bK,_⟩:=d.top;exact EW bK
 have bD:Hid (m.Q.K=1\/m.Q.K=3->BP n):=Lh (λh=>by
  unfold Bj at I;rcases h with h|h
  .rw [if_pos h] at I;exact Aq.1 I
  .rw [if_neg ω,if_pos h] at I;simp at I;unfold BP;omega)
 have aW:f.S.length<1000000:=by obtain ⟨y,x,hh,a,h1,i,_,hr,hl⟩:=d.top;have s:=DJ (hs.wf a.fn) (hs.snd a.fn) hr;have q:=E y (Lm a.fn);have h4:=((hs.wf a.fn).pops x (Lm i)).1;omega
 have bP:=d.len;obtain ⟨bF,aG⟩:=ε c.funcs.length;have aI:=Lh aG;rw [<-aG];obtain ⟨W,r⟩:=ε (((w.alloc (χ #[σ fa fn fc,ι g,σ Q bF S] 25)).alloc (χ (AC (σ (ς (π D 0)) (fs.length+1) P) m) 51)).alloc (χ (AC ν AI) 51));have C:=Lh (bl3 r);have G:=Lh (sz3 r);have b0:=Lh (ce31 r);have b1:=ro32 r;have b2:=ro33 r;have bA:=hT W ((w:Nat)+1) m C.o b1 ω;have H:=Lh bA;have bB:(w:Nat)∉((w:Nat)+1)::D::(J++(K++Fs)):=λe=>by
  rw [ϰ] at e;rcases e with e|e
  .omega
  .have:=Y.o _ e;omega
 have aN:=Lh bB;have X:=AO b1;have B2:=Lh b2;clear b1 b2 hT bA hv d t I T V bB aG;unfold AJ;unfold AC AI at r;unfold AC;dsimp only at r ⊢;go_enter func139,ntmps139;go_upto_region 1 with fail;rw [<-r];clear r;by_cases q:m.Q.K=3/\n=0
 .have e3:=ζ m.Q.K 3 q.1
  have e0:=ζ n 0 q.2;have hN:=@Lh (ED c m n { m with Q:=Ah 21,J:=[] }) (.inl ⟨q.1,q.2,rfl⟩);clear q aT;go_wp2_with fail;refine (DX _ _ _ m 21 _).mono ?_;rintro e w9 ⟨rfl,bC⟩;obtain ⟨k,l,o⟩:=EF (R:=(w:Nat)+1+1) (bm:=(w:Nat)+1) (F0:=[]) (F2:=[]) (m1:={ m with Q:=Ah 21,J:=[] }) (fv:=ν) C.o (Ds w9) ((AW.ob bC).wide (Fs:=[]) (Fs':=[]) ψ ψ) ψ Y.o ω ω ω (by have:=G.o;omega) B2.o;have L:=Lh l;have M:=Lh o;have r0:=AO k;have q0:=AX k;clear k l o bC X e3 e0;unfold AJ AC;go_wp2;exact ϖ (v:=AJ ν { m with Q:=Ah 21,J:=[] }) (AL (p:=6) rfl L.o _ rfl) rfl ⟨_,hN.o,M.o⟩
 by_cases s:m.Q.K=2
 .have e3:=ξ m.Q.K 3
  have e2:(m.Q.K != 2)=false:=by simp [s]
  have aB:=Lh (aL.o.goOn aZ.o s Eg);have aV:=@Lh (∀ j,Cf c { m with Q:=Eg } j->ED c m n j) (λj h=>.inr (.inr ⟨s,h⟩));have aR:=Lh (aY.o.funs (C.o.mono hB));have bM:=@Lh (Cv W (σ (ς (π D 0)) (fs.length+1) P) m.J (D::(J++(K++Fs)))) (by rw [aL.o.fr];exact Kk H.o);have i0:=Γ3 b0.o;clear q s aT;go_wp2_with fail;have u:=Kj (m:=m) hs E fa Q fn fc S g aB.o B (Nt hB C.o.size) aR.o bM.o aM.o;rw [<-aI.o] at u;refine u.mono ?_;clear u;rintro e w9 ⟨j,U,bH,F9,rfl,A,N⟩;obtain ⟨a9,c9,rfl⟩:=A.form;have HR:=Lh U;obtain ⟨k,l,o⟩:=EF (R:=(w:Nat)+1+1) (bm:=(w:Nat)+1) C.o A ((N.wide (F:=((w:Nat)+1)::D::(J++(K++Fs))) (F':=((w:Nat)+1)::F9) (λb a=>List.mem_cons_of_mem _ a) (λb a=>by rw [ϰ] at a;rcases a with a|a;right;simp [a];left;exact a))) (λx i=>List.mem_cons_of_mem _ i) Y.o ω ω ω (by have:=G.o;omega) B2.o;obtain ⟨n9,O⟩:=ε j.J.length;rw [<-O] at l o ⊢;have L:=Lh l;have M:=Lh o;have r0:=AO k;have q0:=AX k;clear k l o U A N O X i0;unfold AJ AC;go_wp2;exact ϖ (v:=AJ (σ a9 n9 c9) j) (AL (p:=6) rfl L.o _ rfl) rfl ⟨_,aV.o _ HR.o,M.o⟩
 .have e2:=τ m.Q.K 2 s
  have Z:m.Q.K=1\/m.Q.K=3:=ω;have aB:=Lh (aL.o.push aZ.o Z n (bD.o Z) Eg);have aV:=@Lh (∀ j,Cf c { m with Q:=Eg,J:=fs++[{ f with S:=f.S++[n] }] } j->ED c m n j) (λj h=>.inr (.inl ⟨ω,fs,f,aL.o.fr,h⟩));have aU:=(bD.o Z).in64;have bL:((m.Q.K == 3)=true/\(n == 0)=false)\/(m.Q.K == 3)=false:=by
   by_cases h:m.Q.K=3
   .left
    exact ⟨by simpa using h,by simpa using λe=>q ⟨h,e⟩⟩
   .right;simpa using h
  clear q s aT Z;rcases bL with ⟨e3,e0⟩|e3;all_goals
   go_wp2_with fail;refine (DP m H.o ω n aU aW).mono ?_;rintro e w2 ⟨rfl,bG,bQ,aX,aQ,z⟩;have bE:=Lh z;have i0:=z.cell (b0.o 0 _ rfl) aN.o;have i1:=z.cell (b0.o 1 _ rfl) aN.o;have i2:=z.cell (b0.o 2 _ rfl) aN.o;clear X;have X:=AO aQ.mach;have aO:Below B W w2:=z.below (λx i=>by
    rw [ϰ] at i;rcases i with i|i
    .omega
    .exact aM.o x i) (by have:=G.o;omega)
   have aS:=Lh ((aY.o.funs (C.o.mono hB)).funs aO);have bI:B<=w2:=by have h1:=aO.size;have s:=G.o;omega
   have bN:=Lh (Kk aQ);have aP:Hid (∀ x∈D::(J++(K++aX)),B<=x):=Lh (λx i=>by
    rcases z.new x (List.mem_cons_of_mem _ i) with h|h
    .rw [ϰ] at h
     rcases h with h|h
     .omega
     .exact aM.o x h
    .have:=G.o;omega)
   have bJ:=bE;clear aQ z aO;go_wp2_with fail;have u:=Kj (m:={ m with J:=fs++[{ f with S:=f.S++[n] }] }) hs E fa Q fn fc S g aB.o B bI aS.o bN.o aP.o;rw [<-aI.o] at u;refine u.mono ?_;clear u;rintro e w9 ⟨j,U,bH,F9,rfl,A,N⟩;obtain ⟨a9,c9,rfl⟩:=A.form;have HR:=Lh U;obtain ⟨k,l,o⟩:=EF (R:=(w:Nat)+1+1) (bm:=(w:Nat)+1) C.o A (bJ.o.trans (N.wide (F:=((w:Nat)+1)::D::(J++(K++aX))) (F':=((w:Nat)+1)::F9) (λb a=>List.mem_cons_of_mem _ a) (λb a=>by rw [ϰ] at a;rcases a with a|a;right;simp [a];left;exact a))) (λx i=>List.mem_cons_of_mem _ i) Y.o ω ω ω (by have:=G.o;omega) B2.o;obtain ⟨n9,O⟩:=ε j.J.length;rw [<-O] at l o ⊢;have L:=Lh l;have M:=Lh o;have r0:=AO k;have q0:=AX k;clear k l o U A N O X i0 i1 i2;unfold AJ AC;go_wp2;exact ϖ (v:=AJ (σ a9 n9 c9) j) (AL (p:=6) rfl L.o _ rfl) rfl ⟨_,aV.o _ HR.o,M.o⟩
def KR (d:TypeId) (b c:Nat) (w:Ϣ):(Builtin.append_ #[22,22] d #[σ (ς (π b 0)) 0 0,σ none 0 c]).run prog w=.ok (σ (ς (π b 0)) 0 0) w:=by
 obtain ⟨h,a,e,f,g⟩:=info_parts Cx;simp [Builtin.append_,run_underlying underlying22,sizeOf,typeInfo,a,Builtin.lenOf,Builtin.firstCells,storeCells]
def QN (a:w.heap[e1]?=ς (χ #[] 3 (0,0))):Be w (σ (ς (π e1 0)) 0 0) [] [e1]:=
 ⟨⟨rfl,.inr ⟨e1,0,#[],rfl,Nat.zero_le _,a,Nr _,by unfold maxLen;omega,rfl,rfl⟩⟩,rfl,ψ⟩
def J8 (h:w.grownBy w' (ς e1)) (a:e1<w):Below e1 w w':=
 ⟨h.os,h.tape,h.output,h.size,λk b=>h.block k ω φ⟩
def JS {m:Array Oper} {e:List Oper} {o:Oper} {a:Act} {Q:Exit->Act->Ϣ->Prop} (f:o.guard=none) (s x:Operand) (D:o.op=.call { callee:=.builtin .append,args:=#[s,x],argTypes:=#[22,22] })
  (e1:Nat) (G:w.heap[e1]?=ς (χ #[] 3 (0,0))) (hs:a.eval s=σ (ς (π e1 0)) 0 0) (xa:Option Addr) (n xc:Nat) (l:List Int) (B:Nat) (z:a.eval x=σ xa n xc) (hl:AE B w 1 Aj (σ xa n xc) l) (V:l.length<=1000000)
  (h:∀ g c w',Be w' (σ (ς (π g 0)) n c) l [g]->e1<=g->g<w'.heap.size->Below e1 w w'->wpList prog m Q e (a.put o.dst (σ (ς (π g 0)) n c)) w'):wpList prog m Q (o::e) a w:=by
 have p:=(La G)
 have A:=QN G;obtain ⟨H,E,M,F,N⟩:=info_parts Cx;obtain ⟨O,P,L,Y,Z,aO,y⟩:=hl;obtain ⟨rfl,rfl,rfl⟩:xa=O/\n=l.length/\xc=P:=by simpa using L
 cases l with
 | nil=>
  cases xa with
  | none=>refine wpList_plain f λK J=>?_;have I:=KR o.type e1 xc w;unfold Oper.wp;simp only [List.length_nil] at z;simp [execOp,D,resolve,invoke,builtin,hs,z,I,Result.andThen];exact J _ _ (h e1 0 w A (Nr _) p Br)
  | some R=>refine wpList_append_fits w f s x 22 D 0 3 H 1 underlying22 E F e1 0 0 [] hs A.1 R 0 xc [] z rfl ψ ψ (Nr _) (λw' k r=>?_);refine h e1 0 w' ⟨by simpa using k,rfl,ψ⟩ (Nr _) (Nl p r.size) (J8 r p)
 | cons v l=>
  rcases y with S|⟨b,W,rfl,X,y⟩
  .simp at S
  refine wpList_append_lies w f s x 22 D 0 3 H (ι 0) 1 8 underlying22 E M F N rfl δ (σ (ς (π e1 0)) 0 0) 0 [] hs A.1 (π b W) (v::l).length xc ((v::l).map (Value.int .i64)) z ψ (λj u d=>?_) (λu d=>?_) ψ (by unfold maxLen;simp at *;omega) (by simp at *;omega) (Nat.zero_le _) (w:Nat) rfl (λg c w' k r t T=>?_)
  .rw [List.getElem?_map] at d
   cases C:(v::l)[j]? with
   | none=>rw [C] at d;simp at d
   | some q=>rw [C] at d;simp at d;subst d;have:=(y j q C).1;rw [Nat.mul_one] at this;rw [MO];exact this
  .obtain ⟨_,_,rfl⟩:=List.mem_map.1 d;rfl
  .rw [Nat.zero_add] at k ⊢
   rw [List.nil_append] at k;refine h g c w' ⟨k,rfl,λq U=>?_⟩ ?_ T (J8 r p)
   .obtain ⟨i,hi,rfl⟩:=List.getElem_of_mem U
    exact (y i _ (Lg hi)).2
   .rcases t with t|t
    .simp [Value.ownBlock] at t;omega
    .omega
def SJ {wr i:Ϣ} {bo cap:Nat} {c:List ϒ} {l Fl Fs:List Nat} (U:wr.heap[bo]?=ς (χ (AC fv m) 51 (0,0))) (s:BJ wr c fs l) (v:wr.ownsRow 0 129 4 fv n c) (u:(bo::(fv.ownBlock.toList++l)).Nodup)
  (p:Below wr wr w8) (hl:Be w8 lv f.L Fl) (hs:Be w8 sv f.S Fs) (j:∀ b∈Fl++Fs,(wr:Nat)<=b) (G:(Fl++Fs).Nodup) (h1:in64 f.fn) (h2:in64 f.pc)
  (o:i.ownsRow 0 129 4 (σ (ς (π g 0)) (n+1) cap) (n+1) (c++[ι f.fn,ι f.pc,lv,sv])) (t:w8.grownBy i fv.ownBlock) (d:fv.ownBlock=ς g\/g=(w8:Nat)) :
  (i.setCell (π bo 0) (σ (ς (π g 0)) (n+1) cap)).heap[bo]?=ς (χ (AC (σ (ς (π g 0)) (n+1) cap) m) 51 (0,0))/\BJ (i.setCell (π bo 0) (σ (ς (π g 0)) (n+1) cap)) (c++[ι f.fn,ι f.pc,lv,sv]) (fs++[f]) (l++(Fl++Fs))/\
  (i.setCell (π bo 0) (σ (ς (π g 0)) (n+1) cap)).ownsRow 0 129 4 (σ (ς (π g 0)) (n+1) cap) (n+1) (c++[ι f.fn,ι f.pc,lv,sv])/\(bo::g::(l++(Fl++Fs))).Nodup/\
  AW (bo::(fv.ownBlock.toList++l)) (bo::g::(l++(Fl++Fs))) wr (i.setCell (π bo 0) (σ (ς (π g 0)) (n+1) cap)):=by
 have I:=(La U)
 have D:=p.size;rw [List.nodup_cons,List.mem_append,not_or] at u;obtain ⟨⟨aU,O⟩,L⟩:=u;rw [List.nodup_append] at L;obtain ⟨-,Z,Y⟩:=L;have aP:∀ x,fv.ownBlock=ς x->x<(wr:Nat):=λx q=>by
  rcases v.2 with ⟨e,_⟩|⟨z,Q,R,rfl,_,E,_⟩
  .rw [e] at q;simp [Value.ownBlock] at q
  .simp [Value.ownBlock] at q;subst q;exact (La E)
 have w:=s.lt;have H:∀ b∈Fl++Fs,b<(w8:Nat):=λb a=>by
  rw [List.mem_append] at a;rcases a with h|h
  .exact hl.lt b h
  .exact hs.lt b h
 have W:=Nl I D;have A:∀ b,b<(w8:Nat)->fv.ownBlock≠ς b->i.heap[b]?=w8.heap[b]?:=λb a aX=>t.block b a (λe=>aX e.symm);have J:fv.ownBlock≠ς bo:=λe=>aU (by rw [e];simp);have K:g≠bo:=by
  rcases d with h|h
  .intro e;rw [e] at h;exact J h
  .omega
 have B:∀ b,b≠bo->(i.setCell (π bo 0) (σ (ς (π g 0)) (n+1) cap)).heap[b]?=i.heap[b]?:=λb a=>heap_setCell_other _ _ _ _ a;have M:∀ b∈l,fv.ownBlock≠ς b:=λb a e=>Y b (by rw [e];simp) b a rfl;have N:∀ b∈Fl++Fs,fv.ownBlock≠ς b:=λb a e=>by have S:=j b a;have h4:=aP b e;omega
 have aW:∀ b∈l,(i.setCell (π bo 0) (σ (ς (π g 0)) (n+1) cap)).heap[b]?=wr.heap[b]?:=λb a=>by rw [B b (λe=>O (e▸a)),A b (Nl (w b a) D) (M b a),p.block b (w b a)]
 have P:∀ b∈Fl++Fs,(i.setCell (π bo 0) (σ (ς (π g 0)) (n+1) cap)).heap[b]?=w8.heap[b]?:=λb a=>by rw [B b (λe=>by have:=j b a;omega),A b (H b a) (N b a)]
 have V:i.heap[bo]?=ς (χ (AC fv m) 51 (0,0)):=by rw [A bo W J,p.block bo I];exact U
 refine ⟨?_,(s.kp aW).add (hl.kp (λb a=>P b (by simp [a]))) (hs.kp (λb a=>P b (by simp [a]))) h1 h2,?_,?_,?_⟩
 .rw [ϡ _ _ _ _ _ _ V,CY]
 .refine ⟨o.1,?_⟩
  rcases o.2 with ⟨h,_⟩|⟨z,Q,R,F,a,E,r⟩
  .cases h
  .have:z=g:=by simp at F;exact F.1.symm
   exact .inr ⟨z,Q,R,F,a,by rw [B z (by rw [this];exact K)];exact E,r⟩
 .have aV:g∉l++(Fl++Fs):=λe=>by
   rcases d with h|h
   .rw [List.mem_append] at e
    rcases e with e|e
    .exact M g e h
    .exact N g e h
   .rw [List.mem_append] at e
    rcases e with e|e
    .have:=w g e;omega
    .have:=H g e;omega
  have X:bo∉l++(Fl++Fs):=λe=>by
   rw [List.mem_append] at e;rcases e with e|e
   .exact O e
   .have:=j bo e;omega
  rw [List.nodup_cons,List.nodup_cons];refine ⟨λe=>?_,aV,?_⟩
  .rw [ϰ] at e
   rcases e with e|e
   .exact K e.symm
   .exact X e
  .rw [List.nodup_append]
   exact ⟨Z,G,λx q y hy=>λe=>by have S:=w x q;have h4:=j y hy;omega⟩
 .refine ⟨t.os.trans p.os,t.tape.trans p.tape,t.output.trans p.output,by have S:=t.size;simp;omega,λk T C=>?_,λb a=>?_⟩
  .rw [ϰ,List.mem_append,not_or,not_or] at C
   rw [B k C.1,A k (Nl T D) (λe=>C.2.1 (by rw [e];simp)),p.block k T]
  .rw [ϰ,ϰ,List.mem_append] at a
   rcases a with a|a|a|a
   .exact .inl (by simp [a])
   .rcases d with h|h
    .exact .inl (by rw [a,ϰ,List.mem_append];exact .inr (.inl (by rw [h];simp)))
    .right;omega
   .exact .inl (by simp [a])
   .exact .inr (j b a)
def Ws (m:AV) (bo:Nat) (W:Ϣ) (k:Nat) (wr:Ϣ):Prop:=
 ∃ (a:Option Addr) (cap:Nat) (cells:List ϒ) (Fr:List Nat),wr.heap[bo]?=ς (χ (AC (σ a k cap) m) 51 (0,0))/\wr.ownsRow 0 129 4 (σ a k cap) k cells/\BJ wr cells (m.J.take k) Fr/\(bo::((Value.slice a k cap).ownBlock.toList++Fr)).Nodup/\AW [bo] (bo::((Value.slice a k cap).ownBlock.toList++Fr)) W wr
def Nz (m:AV) (w:Ϣ) (e:Ending) (w':Ϣ):Prop:=∃ fv,e=.returned (AJ fv m)/\CE w fv m w'
def UA {W:Ϣ} {b:Nat} {c pc:Int} (h:W.heap[b]?=ς (χ (BM c pc lv sv) T (0,0))) :
  W.cell? (π b 0)=ς (ι c)/\W.cell? (π b 1)=ς (ι pc)/\W.cell? (π b 2)=ς lv/\W.cell? (π b 3)=ς sv/\W.frozen? (π b 2)=false/\W.frozen? (π b 3)=false/\b<W:=by
 have a:∀ (j:Nat) (v:ϒ),(BM c pc lv sv)[j]?=ς v->W.cell? (π b j)=ς v:=λj v d=>by rw [cell_of_row _ _ _ _ _ _ h];exact d
 exact ⟨a 0 _ rfl,a 1 _ rfl,a 2 _ rfl,a 3 _ rfl,Fz h,Fz h,(La h)⟩
def MS {d V:Ϣ} {a c j:Nat} {l:List Int} {i cs':Array ϒ} (h:V.heap[a]?=ς (χ i T (0,0))) (q:Be w8 (σ (ς (π g 0)) n c) l [g]) (t:(V:Nat)<=g) (f:Below V V w8) (o:Below d d V) (s:(d:Nat)<=a) (r:i.setIfInBounds j (σ (ς (π g 0)) n c)=cs') :
  (w8.setCell (π a j) (σ (ς (π g 0)) n c)).heap[a]?=ς (χ cs' T (0,0))/\Be (w8.setCell (π a j) (σ (ς (π g 0)) n c)) (σ (ς (π g 0)) n c) l [g]/\
  Below d d (w8.setCell (π a j) (σ (ς (π g 0)) n c))/\(∀ b,b<(V:Nat)->b≠a->(w8.setCell (π a j) (σ (ς (π g 0)) n c)).heap[b]?=V.heap[b]?)/\(w8.setCell (π a j) (σ (ς (π g 0)) n c)).heap.size=(w8:Nat):=by
 have k:=(La h)
 have p:=(f.block a k).trans h;refine ⟨?_,q.kp (λb e=>?_),(o.th f).setCell s _,λb e m=>?_,ψ⟩
 .rw [<-r];exact ϡ _ _ _ _ _ _ p
 .simp at e
  exact heap_setCell_other _ _ _ _ (by show b≠a;omega)
 .rw [heap_setCell_other _ _ _ _ m,f.block b e]
def Mc (m:AV) (fv:ϒ) (B:Nat) (w:Ϣ) (hB:B<=w) (hm:AE B w 4 (CK B) fv m.J) (eJ:m.J.length<=1000) (A:∀ f∈m.J,f.L.length<=1000000/\f.S.length<=1000000) :
  Calls prog 111 #[AJ fv m] w (Nz m w):=by
 obtain ⟨X,Y,rfl⟩:=hm.form;have dN:=Lh hm;have dK:=Lh A;obtain ⟨n,hn⟩:=ε m.J.length;rw [<-hn] at eJ ⊢;have HN:=Lh hn;obtain ⟨W2,q⟩:=ε (((w.alloc (χ (AC (σ X n Y) m) 51)).alloc (χ (AC ν AI) 51)).alloc (χ (AC (σ X n Y) m) 51));have aI:=bl3 q;have dF:=sz3 q;have b0:=ro31 q;have b1:=ro32 q;have b2:=ro33 q;obtain ⟨W,T⟩:=ε (W2.setCell (π (w+1+1) 0) ν);have bF:AW [(w:Nat)+1+1] [(w:Nat)+1+1] W2 W:=by rw [T];exact BX
 have x:W.heap[(w:Nat)+1+1]?=ς (χ (AC ν m) 51 (0,0)):=by rw [T,ϡ _ _ _ _ _ _ b2,CY]
 have c0:W.heap[(w:Nat)]?=ς (χ (AC (σ X n Y) m) 51 (0,0)):=by rw [bF.block _ ω (by simp<;>omega)];exact b0
 have s:W.heap[(w:Nat)+1]?=ς (χ (AC ν AI) 51 (0,0)):=by rw [bF.block _ ω ψ];exact b1
 have cY:=@Lh (Below w w W) (aI.trans (bF.below (λb a=>by simp at a;omega) aI.size));have Q:=@Lh ((W:Nat)=(w:Nat)+3) (by rw [T];simpa using dF);have cC:Hid (Ws m (w+1+1) W 0 W):=Lh ⟨none,0,[],[],x,World.ownsRow_nil _ _ _ _,⟨rfl,rfl⟩,by simp [Value.ownBlock],by simpa [Value.ownBlock] using (AW.self:AW [(w:Nat)+1+1] [(w:Nat)+1+1] W W)⟩;have k0:=AO b0;have j0:=AO b2;have g0:=AX b2;have C0:=Lh c0;have C1:=Lh s;clear b0 b1 b2 bF aI c0 s x hn hm A dF;unfold AJ;unfold AC AI at q;unfold AC;dsimp only at q ⊢;go_enter func111,ntmps111;have HW:=Lh T;clear T;go_upto_region 2 with fail;rw [<-q];have eD:=Lh q;clear q;go_upto_region 3 with fail;rw [<-HW.o];clear k0 j0 g0;obtain ⟨tf,eA,dU,dV,dW⟩:=info_parts FT;go_wp2_with fail;go_loopw [4] (λi wr=>∃ k:Nat,k<=n/\i=ι k/\Hid (Ws m (w+1+1) W k wr)) (λi _=>n - (intOf i).toNat)
 case atStart=>exact ⟨0,Nat.zero_le _,rfl,cC⟩
 case round=>
  obtain ⟨k,hk,rfl,cB⟩:=hrel;obtain ⟨d,c,l,Fr,R,aE,S,bJ,z⟩:=cB.o;have aU:=Lh (La R);have bT:wr.heap[(w:Nat)]?=ς (χ (AC (σ X n Y) m) 51 (0,0)):=by rw [z.block _ (by have:=Q.o;omega) (by simp<;>omega)];exact C0.o
  have i0:=AD bT 0 (σ X n Y) rfl;by_cases dY:k<n
  .obtain ⟨f,hf⟩:∃ f,m.J[k]?=ς f:=⟨_,Lg (by rw [<-HN.o];exact dY)⟩
   have O:Below B w wr:=(cY.o.mono hB).trans (z.below (λb a=>by simp at a;omega) (by have:=Q.o;omega));obtain ⟨sb,so,rfl,eG,e1,e2,⟨lv,e3,bY⟩,⟨sv,e4,cD⟩,cS⟩:=(dN.o.fras O).elem hf;obtain ⟨U,V,rfl,-⟩:=bY.frm;obtain ⟨G,H,rfl,-⟩:=cD.frm;have eE:=In k;have eF:(k:Int)<(n:Int):=ω;have dD:=dK.o f (Lm hf);obtain ⟨D,J⟩:=ε (wr.alloc (χ (BM f.fn f.pc (σ U f.L V) (σ G f.S H)) 129));obtain ⟨o,bI⟩:=ε (wr:Nat);have bG:=bl1 J;have cA:D.heap[o]?=ς (χ (BM f.fn f.pc (σ U f.L V) (σ G f.S H)) 129 (0,0)):=by rw [J,bI];exact Hn _ _
   obtain ⟨E7,bE⟩:=ε (D.alloc (χ #[] 3));have aD:=bl1 bE;have dB:=ro11 bE;have dE:E7.heap[o]?=ς (χ (BM f.fn f.pc (σ U f.L V) (σ G f.S H)) 129 (0,0)):=by rw [aD.block o (La cA)];exact cA
   have bB:=Lh (bY.ints ((bG.mono (by have:=O.size;omega)).trans (aD.mono (by have F:=bG.size;have h2:=O.size;omega))));obtain ⟨dR,dI,cJ,cP,dH,cK⟩:=Λ6 cD bE dB dE (bG.th aD) bI;obtain ⟨cR,bK,aG,dJ,cL,HM⟩:=Λ6 J R aE S bJ z;have HF:=Lh hf;have cF:=Lh cS;have aN:=Lh O;clear R aE S bJ z hf bY cD bT cB bG aD cA dE dB O cS;unfold BM at J;have cV:=dI.o;rw [cV] at cJ cP dH bB;clear cV;go_upto_region 7 with fail;rw [<-J,<- bI];clear J bI bE i0 e1 e2 e4;have cE:o<D:=by rw [cR.o,cK.o];simp
   have bP:D.heap[o]?=ς (χ (BM f.fn f.pc (σ U f.L V) (σ G f.S H)) 129 (0,0)):=by rw [<-Ha _ _ _ cE];exact cP.o
   have Z6:=Lh cE;have cU:=@Lh (Below wr wr D) (by rw [cR.o];exact AA _ _);have s0:=UA bP;have cO:=Lh bP;clear bP cE;go_upto_region 8 with (with_reducible refine JS rfl (.tmp 20) (.tmp 22) rfl D cJ.o rfl U f.L.length V f.L B rfl bB.o dD.1 ?_;intro y s w8 cW aY bW E;have dO:=Lh cW;have bM:=Lh aY;have cG:=Lh ((AA D _).trans E);obtain ⟨t0,t1,t2,t3,g4,g5,tz⟩:=UA ((cG.o.block o Z6.o).trans cO.o);clear cW aY bW E)
   obtain ⟨M,bR⟩:=ε (w8.setCell (π o 2) (σ (ς (π y 0)) f.L s));rw [<-bR];have aK:(wr:Nat)<=o:=by rw [cK.o];exact Nr _
   obtain ⟨t,C,r,K,Z⟩:=MS (j:=2) (cs':=BM f.fn f.pc (σ (ς (π y 0)) f.L s) (σ G f.S H)) cO.o dO.o bM.o cG.o cU.o aK rfl;rw [<-bR] at t C r K Z;obtain ⟨cQ,dQ,cI,dL⟩:=Λ4 t C r aK;have aW:=C.lt y ψ;have aO:=Lh aW;have dG:=(La t)
   have Z8:=Lh dG;have s0:=UA t;have bL:=@Lh ((M.alloc (χ #[] 3)).heap[(M:Nat)]?=ς (χ #[] 3 (0,0))) (Hn _ _);have bQ:=@Lh (AE B (M.alloc (χ #[] 3)) 1 Aj (σ G f.S H) f.S) (dR.o.ints ((r.mono (by have:=aN.o.size;omega)).trans ((AA _ _).mono (by have F:=aN.o.size;have h2:=r.size;omega))));clear bR aK t C r K Z t0 t1 t2 t3 g4 g5 tz aW dG;go_upto_region 9 with (with_reducible refine JS rfl (.tmp 25) (.tmp 27) rfl M bL.o rfl G f.S.length H f.S B rfl bQ.o dD.2 ?_;intro P x eC cX aZ bX cZ;have dP:=Lh cX;have bN:=Lh aZ;have cH:=Lh ((AA M _).trans cZ);obtain ⟨t0,t1,t2,t3,g4,g5,tz⟩:=UA ((cH.o.block o Z8.o).trans cQ.o);clear cX aZ bX cZ)
   obtain ⟨N,bS⟩:=ε (eC.setCell (π o 3) (σ (ς (π P 0)) f.S x));rw [<-bS];obtain ⟨t,C,r,K,Z⟩:=MS (j:=3) (cs':=BM f.fn f.pc (σ (ς (π y 0)) f.L s) (σ (ς (π P 0)) f.S x)) cQ.o dP.o bN.o cH.o cI.o dL.o rfl;rw [<-bS] at t C r K Z;have aX:y≠o:=by have F:=bM.o;have h2:=Z6.o;omega
   have cM:=Lh (dQ.o.kp (λb a=>by
    simp at a;subst a;exact K _ aO.o aX))
   have cN:=Lh C;obtain ⟨L,bD⟩:=ε (N.alloc (χ #[ι f.fn,ι f.pc,σ (ς (π y 0)) f.L s,σ (ς (π P 0)) f.S x] 129));have cT:=bl1 bD;have aH:=Lh (r.th cT);have I:=Lh bD;have aT:N.heap[(w:Nat)+1+1]?=ς (χ (AC (σ d k c) m) 51 (0,0)):=by rw [r.block _ aU.o];exact bK.o
   have v0:=AD aT 0 (σ d k c) rfl;have bC:=Lh (KZ aG.o (λb a=>aH.o.block b (PQ aG.o b a)));have s0:=UA t;have dZ:=@Lh (∀ j u,[Value.int .i64 f.fn,ι f.pc,σ (ς (π y 0)) f.L s,σ (ς (π P 0)) f.S x][j]?=ς u->L.cell? (((π N 0):Addr).add j)=ς u) (by rw [bD];exact Mw N _ _);clear bS t C r K Z t0 t1 t2 t3 g4 g5 tz aX bD cT aT;have bZ:Hid ((Value.slice d k c).ownBlock≠ς ((w:Nat)+1+1)):=Lh (λe=>by
    have F:=cL.o;rw [e,List.nodup_cons] at F;exact F.1 ψ)
   have dA:=@Lh (L.heap[(w:Nat)+1+1]?=ς (χ (AC (σ d k c) m) 51 (0,0))) (by rw [aH.o.block _ aU.o];exact bK.o);have eB:=Lh (La dA.o);go_upto_region 5 with ((with_reducible refine wpList_append_lies _ rfl (.tmp 31) (.tmp 33) 47 rfl 0 129 tf (.agg #[ι 0,ι 0,ν,ν]) 4 64 underlying47 eA dU dV dW rfl δ (σ d k c) k l rfl (by rw [<-I.o];exact bC.o) (π N 0) 1 1 [ι f.fn,ι f.pc,σ (ς (π y 0)) f.L s,σ (ς (π P 0)) f.S x] rfl rfl (by rw [<-I.o];exact dZ.o) (by simp [Value.oneCell']) ω (by unfold maxLen;omega) ω (Nat.zero_le _) (L:Nat) (by rw [I.o]) ?_;intro g eI w9 ho hg aF dX;rw [<-I.o] at hg;have HO:=Lh ho;have HG:=Lh hg;have dM:=Lh aF;have bH:w9.heap[(w:Nat)+1+1]?=ς (χ (AC (σ d k c) m) 51 (0,0)):=(hg.block ((w:Nat)+1+1) eB.o bZ.o.symm).trans dA.o;trace "B";have v9:=AD bH 0 (σ d k c) rfl;trace "C";obtain ⟨vf9,-⟩:=AX bH;trace "D";have eH:=(La bH);clear ho hg aF bH))
   have dC:=SJ (m:=m) (fs:=m.J.take k) (f:=f) bK.o dJ.o aG.o cL.o aH.o (hl:=cM.o.kp (w':=L) (λb a=>by rw [I.o];exact Ha _ _ _ (cM.o.lt b a))) (hs:=cN.o.kp (w':=L) (λb a=>by rw [I.o];exact Ha _ _ _ (cN.o.lt b a)))
    (λb a=>by have F:=bM.o;have h2:=bN.o;have h3:=cU.o.size;have h4:=cI.o.size;simp at a;omega) (by have F:=aO.o;have h2:=bN.o;simp;omega) cF.o.1 cF.o.2 HO.o HG.o dM.o
   obtain ⟨dS,aQ⟩:=ε (w9.setCell (π (w+1+1) 0) (σ (ς (π g 0)) (k+1) eI));rw [<-aQ] at dC ⊢;obtain ⟨r1,r2,r3,r4,r5⟩:=dC;have dT:Hid (Ws m (w+1+1) W (k+1) dS):=Lh ⟨_,_,_,_,r1,r3,by rw [List.take_add_one,HF.o];exact r2,r4,HM.o.trans r5⟩;clear aQ r1 r2 r3 r4 r5;go_wp2;go_roundw
   case rel=>exact ⟨k+1,ω,by go_num,dT⟩
   case measure=>simp [intOf];omega
  .obtain rfl:k=n:=ω
   have bA:(m.J.take k)=m.J:=by rw [HN.o];exact List.take_length
   rw [bA] at S;have hv:Cv wr (σ d k c) m.J ((Value.slice d k c).ownBlock.toList++Fr):=⟨l,Fr,by rw [<-HN.o];exact aE,S,rfl,(List.nodup_cons.1 bJ).2⟩
   have bV:∀ b∈(Value.slice d k c).ownBlock.toList++Fr,(w:Nat)+1+1<=b:=λb a=>by
    rcases z.new b (List.mem_cons_of_mem _ a) with h|h
    .simp at h;omega
    .have:=Q.o;omega
   have E:wr.heap[(w:Nat)+1]?=ς (χ (AC ν AI) 51 (0,0)):=by rw [z.block _ (by have:=Q.o;omega) ψ];exact C1.o
   have bO:Below w w wr:=cY.o.trans (z.below (λb a=>by simp at a;omega) (by have:=Q.o;omega));obtain ⟨p1,p2⟩:=AZ E (σ d k c) m;have bU:Hid (Nz m w (.returned (AJ (σ d k c) m)) (Ai wr (w+1) (σ d k c) m)):=Lh ⟨_,rfl,_,hv.kp (λb a=>p2.block b (hv.lt b a) (λe=>by
    have:=bV b a;rw [List.mem_singleton] at e;omega)),λb a=>by have:=bV b a;omega,bO.trans (p2.below (λb a=>by simp at a;omega) bO.size)⟩
   have Q1:=Lh p1;have k0:=AO R;have r0:=AO E;have q0:=AX E;clear bA S hv bV E bO p1 p2 R aE bJ z cB bT;go_wp2;exact ϖ (v:=AJ (σ d k c) m) (AL (p:=2) rfl Q1.o _ rfl) rfl bU.o
def N4 (c:AQ) (m:AV) (n:Int) (w:Ϣ) (e:Ending) (w':Ϣ):Prop:=∃ m' fv,ED c m n m'/\e=.returned (AJ fv m')/\CE w fv m' w'
def Sp {m':AV} {n:Int} (f:ED c m n m') (h:DK w [] m' (.returned (AJ fv m')) w'):N4 c m n w (.returned (AJ fv m')) w':=by
 obtain ⟨e,d,j,g,a⟩:=h;refine ⟨m',e,f,j,d,g,λb i=>?_,a.below ψ (Nr _)⟩;rcases a.new b i with h|h
 .simp at h
 .exact h
def C9.nframes {r:Rq} (h:C9 c m r fs f):m.J.length<=200:=by
 rw [h.fr,List.length_append];have:=h.len;simp;omega
def Sg (hs:AU c) (J:Bv c) (cv fv:ϒ) (m:AV) (n:Int) (l:C9 c m m.Q fs f) (j:EB m) (B:Nat) (w:Ϣ) (H:B<=w) (hc:BF B w cv c) (I:AE B w 4 (CK B) fv m.J) (o:∀ f∈m.J,f.L.length<=1000000/\f.S.length<=1000000) (ha:Bj m.Q n=true) :
  Calls prog 110 #[cv,AJ fv m,ι n] w (N4 c m n w):=by
 obtain ⟨cf,cg,rfl,aR,C,bA⟩:=id hc;obtain ⟨E,G,rfl⟩:=aR.form;obtain ⟨y,z,rfl⟩:=C.form;obtain ⟨ma,mc,rfl⟩:=I.form;obtain ⟨mn,D⟩:=ε m.J.length;have aD:=l.nframes;obtain ⟨HM,aS,aZ,aW,HA⟩:=Λ5 I o l j ha;rw [<-D] at aD ⊢;have q:=Lh D;obtain ⟨W,i⟩:=ε (((w.alloc (χ (Bc E G y z c) 25)).alloc (χ (AC (σ ma mn mc) m) 51)).alloc (χ (AC ν AI) 51));have x:=Lh (bl3 i);have bB:=Lh (sz3 i);have b0:=ce31 i;have b1:=ro32 i;have b2:=ro33 i;have B2:=Lh b2;obtain ⟨N,O,P,Q,S,T,U,X,Y⟩:=AO b1;obtain ⟨K,L,M⟩:=Γ3 b0;have t:=Nt H x.o.size;have aV:=@Lh (AE B W.drew 4 (CK B) (σ ma mn mc) m.J) ((HM.o.fras (x.o.mono H)).fras (AG Br 1) |> λh=>by rw [<-q.o] at h;exact h);have aU:=@Lh (AE B W.drew 5 (CW B) (σ y c.funcs z) c.funcs) ((C.funs (x.o.mono H)).funs (AG Br 1));clear b0 b1 b2 hc I l j ha o D aR C;unfold AJ;unfold AC AI at i;unfold AC;dsimp only at i ⊢;go_enter func110,ntmps110;go_upto_region 1 with fail;rw [<-i];clear i;go_region_held3 (λV=>V.cell? (π w 0)=ς (σ E c.H G)/\V.cell? (π w 1)=ς (ι c.G)/\V.cell? (π w 2)=ς (σ y c.funcs z)/\V.cell? (π (w+1) 0)=ς (σ ma mn mc)/\V.cell? (π (w+1) 1)=ς (ι m.Q.K)/\V.cell? (π (w+1) 2)=ς (ι m.Q.O)/\V.cell? (π (w+1) 3)=ς (ι m.Q.D)/\V.cell? (π (w+1) 4)=ς (ι m.Q.V)/\V.cell? (π (w+1) 5)=ς (ι m.Q.X)/\V.cell? (π (w+1) 6)=ς (ι m.Y)/\V.cell? (π (w+1) 7)=ς (ι m.C)/\V.cell? (π (w+1) 8)=ς (ι m.I))
  (first|with_reducible exact ⟨n0,n1,n2,u0,u1,u2,u3,u4,u5,u6,u7,u8⟩|with_reducible exact ⟨j0,j1,j2,v0,v1,v2,v3,v4,v5,v6,v7,v8⟩|exact ⟨p0,p1,p2,s0,s1,s2,s3,s4,s5,s6,s7,s8⟩|exact ⟨K,L,M,N,O,P,Q,S,T,U,X,Y⟩)
  (first
   | (go_at_call 111;refine (Mc m _ B W.drew t aV.o (by rw [<-q.o];omega) aS.o).mono ?_;rintro e w1 ⟨bE,rfl,F1,r,aF,A⟩;obtain ⟨a1,c1,rfl⟩:=r.form;rw [<-q.o] at r;have d:Below W W w1:=(AG Br 1).trans A;have aY:=Lh r;have aE:Hid (∀ b∈F1,(W:Nat)<=b):=Lh aF;have aT:=Lh (aU.o.funs (A.mono t));have j0:=AB d K;have j1:=AB d L;have j2:=AB d M;have v0:=AB d N;have v1:=AB d O;have v2:=AB d P;have v3:=AB d Q;have v4:=AB d S;have v5:=AB d T;have v6:=AB d U;have v7:=AB d X;have v8:=AB d Y;have aO:=Lh d;clear r aF A d;unfold AJ AC;rw [<-q.o])
   | (go_at_call 139;refine (Rm hs J E y _ G z c.G n aZ.o aW.o B (Nt t aO.o.size) aT.o aY.o (λb k=>Nt t (aE.o b k)) HA.o).mono ?_;rintro e w9 ⟨Z,hR,bF,F9,rfl,s,aP⟩;obtain ⟨a9,c9,rfl⟩:=s.form;have aX:=Lh hR;have a:=LU aO.o aP (λb k=>aE.o b k);have bD:=Lh s;have aQ:=a.wide (F:=[(w:Nat)+1]) (F':=F9) ψ (λb k=>.inl k);obtain ⟨t1,t2,t3⟩:=EF (R:=(w:Nat)+1+1) (bm:=(w:Nat)+1) (F:=[]) x.o s aQ (λb k=>k) ψ ω ω ω (by have:=bB.o;omega) B2.o;obtain ⟨r0,r1,r2,r3,r4,r5,r6,r7,r8⟩:=AO t1;obtain ⟨q0,q1,q2,q3,q4,q5,q6,q7,q8⟩:=AX t1;have zR:=(La t1);obtain ⟨n9,hn9⟩:∃ u,u=Z.J.length:=⟨_,rfl⟩;rw [<-hn9] at t2 t3 ⊢;have bC:=Lh hn9;have Q2:=Lh t2;have Q3:=Lh t3;have n0:=a.cell K ψ;have n1:=a.cell L ψ;have n2:=a.cell M ψ;have u0:=a.cell N ψ;have u1:=a.cell O ψ;have u2:=a.cell P ψ;have u3:=a.cell Q ψ;have u4:=a.cell S ψ;have u5:=a.cell T ψ;have u6:=a.cell U ψ;have u7:=a.cell X ψ;have u8:=a.cell Y ψ;have g:=(AZ t1 (σ a9 n9 c9) Z).2;have p0:=g.cell n0 φ;have p1:=g.cell n1 φ;have p2:=g.cell n2 φ;have s0:=g.cell u0 ψ;have s1:=g.cell u1 ψ;have s2:=g.cell u2 ψ;have s3:=g.cell u3 ψ;have s4:=g.cell u4 ψ;have s5:=g.cell u5 ψ;have s6:=g.cell u6 ψ;have s7:=g.cell u7 ψ;have s8:=g.cell u8 ψ;clear g;clear hR s aP a aQ t1 t2 t3 hn9;unfold AJ AC))
 all_goals
  go_wp2;exact ϖ (v:=AJ (σ a9 n9 c9) Z) (AL (p:=6) rfl Q2.o _ rfl) rfl (Sp aX.o Q3.o)
