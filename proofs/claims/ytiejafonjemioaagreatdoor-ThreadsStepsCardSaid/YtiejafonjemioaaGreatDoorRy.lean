import Derived.Test.YtiejafonjemioaaGreatDoorRsa
import Derived.Test.YtiejafonjemioaaGreatDoorRqa
import Derived.Test.YtiejafonjemioaaGreatDoorRu
import Derived.BigRegion
set_option maxHeartbeats 4000000
set_option maxRecDepth 100000
set_option linter.all false
open Go renaming World→Ϣ,Value→ϒ,bodyPost_ret→ϖ
open Option renaming some→ς
open List renaming replicate→ϱ,mem_cons→ϰ
open Go.Value renaming slice→σ
open Go.Obj renaming cells→χ
namespace Go.Proofs.YtiejafonjemioaaGreatDoor
open Go.RowKit Proofs.Tryz
variable {r:Rq} {m m1:AV} {c:AQ} {w W w9:Ϣ} {fv:ϒ} {F F9:List Nat} {fs:List AY} {f:AY} {x:Bi} {bl:Nat} {l:List Int} {fuel:Int}
def outM:KM->AV
 | .go m=>m
 | .stop r m=>EG r m
def G6 (a:r.K≠4) (b:r.K≠5):outM (.stop r m)={ m with Q:=r }:=by
 show EG r m=_;unfold EG;rw [if_neg ω]
def FE {e:Int} :outM (.stop (Ah e) m)={ m with Q:=Ah e,J:=[] }:=by
 show EG _ m=_;unfold EG;rw [if_pos (.inr rfl)]
def MY {v:Int} :outM (.stop (EE v) m)={ m with Q:=EE v,J:=[] }:=by
 show EG _ m=_;unfold EG;rw [if_pos (.inl rfl)]
inductive Ft (q:Rq):KM->Prop
 | go (m1:AV):m1.Q=q->Ft q (.go m1)
 | stop (r:Rq) (m1:AV):Ft q (.stop r m1)
def Ft.ite {q:Rq} {p:Prop} [Decidable p] {a b:KM} (c:Ft q a) (d:Ft q b):Ft q (if p then a else b):=by split<;>assumption
def Sw (c:AQ) (m:AV) (fs:List AY) (f:AY) (y:BK) (x:Cd):Ft m.Q (Df c m fs f y x):=by
 unfold Df;simp only []
 repeat' apply Ft.ite
 all_goals first|exact .go _ rfl|exact .stop _ _|skip
 .cases Dt c x.a with
  | none=>exact .stop _ _
  | some z=>
   simp only [];apply Ft.ite
   .exact .go _ rfl
   .exact .stop _ _
 .cases fs.getLast? with
  | none=>exact .stop _ _
  | some z=>exact .go _ rfl
def Tw {c a b:Int} (h:¬BG c a b=0):DS c=0:=by
 unfold DS;rw [if_neg];intro d;refine h ?_;unfold BG;rw [if_neg ω,if_neg ω,if_neg ω,if_neg ω]
def Sq (hs:AU c) (bR:Bv c) {y:BK} {x:Cd} (hg:Dr c m fs f) (bT:m.I<100000) (r:Gr c f y) (hr:Reach c y f.pc.toNat f.S.length) (H:y.code[f.pc.toNat]?=ς x) (t:AM c y x<=f.S.length) (aI:x.op=10->(f.S:Int)=AM c y x)
  (k i:Option Addr) (o l j:Nat) (g:Int) (B:Nat) (hB:B<=w) (bQ:AE B w 5 (CW B) (σ i c.funcs j) c.funcs) (hV:Cv w fv (fs++[{ f with pc:=f.pc+1 }]) F) (bS:∀ b∈F,B<=b) :
  Calls prog 173 #[.agg #[σ k o l,ι g,σ i c.funcs j],AJ fv { m with I:=m.I+1,J:=fs++[{ f with pc:=f.pc+1 }] },.agg #[ι x.op,ι x.a]] w (DK w F (outM (Df c m fs f y x))):=by
 have hn:=hg.len;have I:=hg.nums;have bF:=(hs.wf r.fn).op x (Lm H);have bJ:=bR y (Lm r.fn);have bP:=DJ (hs.wf r.fn) (hs.snd r.fn) hr;have u:f.S.length<1000000 - 2:=ω;have aX:f.S.length<1000000:=ω;have bD:=hg.low.small hs bR;have aW:∀ f∈fs,f.S.length<1000000:=λf hf=>by have:=bD f (List.mem_reverse.2 hf);omega
 have hk:=(Int.toNat_of_nonneg r.fn0).symm;have bH:=λn h=>(r.sv n h).in64;have bL:=hs.fok r.fn;unfold CX at bL;have v:1<=f.S.length->BP (f.S.getLastD 0):=λs=>r.sv _ (by rw [Bq s];simp);have hu:2<=f.S.length->BP (f.S.dropLast.getLastD 0):=λs=>r.sv _ (by rw [FL s];simp);have q:=hV.lt;obtain ⟨a,cp,rfl⟩:=hV.form;have p:∀ W,Below w w W->Cv W (σ a (fs++[{ f with pc:=f.pc+1 }]).length cp) (fs++[{ f with pc:=f.pc+1 }]) F:=λW d=>hV.kp (λb r=>d.block b (q b r));have Y:∀ W,Below w w W->B<=W.heap.size:=λW d=>Nt hB d.size;have Z:∀ W,Below w w W->AE B W 5 (CW B) (σ i c.funcs j) c.funcs:=λW d=>bQ.funs (d.mono hB);have aF:in64 x.a:=by
  obtain ⟨a0,c0,s,-,-,-,A⟩:=bQ;rcases A with h0|⟨b0,o0,rfl,-,A⟩
  .have:=r.fn;rw [h0] at this;simp at this
  obtain ⟨yv,-,yc⟩:=(A _ y r.fn).2.2.2.2.1;obtain ⟨a1,c1,s,-,-,-,bB⟩:=yc;rcases bB with h0|⟨b1,o1,rfl,-,bB⟩
  .rw [h0] at H;simp at H
  exact (bB _ x H).2.2.2
 have bK:c.funcs.length<=1000000:=by have:=hs.1.2.2.2.2.1;omega
 unfold Df;simp only [];by_cases e1:x.op=1
 .rw [if_pos e1,e1]
  exact BV a k i _ _ o l _ j g 1 x.a q (Lh rfl) rfl rfl (Lh (by unfold BB;decide)) (λW d=>DG (m:={ m with I:=m.I+1,J:=fs++[{ f with pc:=f.pc+1 }] }) (fs:=fs) (f:={ f with pc:=f.pc+1 }) 1 x.a _ (.inl ⟨rfl,aF,rfl⟩) (p W d) rfl ω u)
 rw [if_neg e1];by_cases e2:x.op=2
 .rw [if_pos e2,e2]
  have aV:=hs.lim r.fn H (n:=y.L) (by rw [e2];rfl);have bC:=r.loc;have hi:f.L[x.a.toNat]?=ς (f.L.getD x.a.toNat 0):=getD_some ω;have aY:=(Int.toNat_of_nonneg aV.1).symm;refine BV a k i _ _ o l _ j g 2 x.a q (Lh rfl) rfl rfl (Lh (by unfold BB;decide)) (λW d=>?_);exact DG (m:={ m with I:=m.I+1,J:=fs++[{ f with pc:=f.pc+1 }] }) (fs:=fs) (f:={ f with pc:=f.pc+1 }) 2 x.a _ (.inr (.inl ⟨rfl,x.a.toNat,aY,(f.L.getD x.a.toNat 0),hi,(r.lv _ (Lm hi)).in64,rfl⟩)) (p W d) rfl ω u
 rw [if_neg e2];by_cases E:x.op=3
 .rw [if_pos E]
  have e:=BN (c:=c) (y:=y) (x:=x) (by rw [E];decide);rw [E] at e;rw [e.1] at t;simp [Bk] at t;have aV:=hs.lim r.fn H (n:=y.L) (by rw [E];rfl);have bC:=r.loc;have aY:=(Int.toNat_of_nonneg aV.1).symm;rw [E];refine BV a k i _ _ o l _ j g 3 x.a q (Lh rfl) rfl rfl (Lh (by unfold BB;decide)) (λW d=>?_);exact Gc (m:={ m with I:=m.I+1,J:=fs++[{ f with pc:=f.pc+1 }] }) (fs:=fs) (f:={ f with pc:=f.pc+1 }) 3 x.a _ (.inl ⟨rfl,x.a.toNat,aY,(show x.a.toNat<f.L.length by omega),f.S.dropLast,(f.S.getLastD 0),(Bq (show 1<=f.S.length by omega)),(v ω).in64,rfl⟩) (p W d) rfl ω u
 rw [if_neg E];by_cases e4:x.op=4
 .rw [if_pos e4,e4,G6 ψ ψ]
  exact Eb a k i _ _ o l _ j g 4 x.a q (Lh rfl) (λW d=>JM (m:={ m with I:=m.I+1,J:=fs++[{ f with pc:=f.pc+1 }] }) (fs:=fs) (f:={ f with pc:=f.pc+1 }) 4 x.a _ (.inl ⟨rfl,rfl⟩) (p W d) rfl ω u)
 rw [if_neg e4];by_cases S:x.op=5
 .rw [if_pos S,G6 ψ ψ]
  have e:=BN (c:=c) (y:=y) (x:=x) (by rw [S];decide);rw [S] at e;rw [e.1] at t;simp [Bk] at t;rw [S];exact Eb a k i _ _ o l _ j g 5 x.a q (Lh rfl) (λW d=>JM (m:={ m with I:=m.I+1,J:=fs++[{ f with pc:=f.pc+1 }] }) (fs:=fs) (f:={ f with pc:=f.pc+1 }) 5 x.a _ (.inr (.inr (.inl ⟨rfl,f.S.dropLast,(f.S.getLastD 0),(Bq (show 1<=f.S.length by omega)),rfl⟩))) (p W d) rfl ω u)
 rw [if_neg S];by_cases T:x.op=6
 .rw [if_pos T]
  have e:=BN (c:=c) (y:=y) (x:=x) (by rw [T];decide);rw [T] at e;rw [e.1] at t;simp [Bk] at t;rw [T];split
  .rename_i s
   rw [FE];exact Eb a k i _ _ o l _ j g 6 x.a q (Lh rfl) (λW d=>JM (m:={ m with I:=m.I+1,J:=fs++[{ f with pc:=f.pc+1 }] }) (fs:=fs) (f:={ f with pc:=f.pc+1 }) 6 x.a _ (.inr (.inr (.inr (.inr (⟨rfl,f.S.dropLast,(f.S.getLastD 0),(Bq (show 1<=f.S.length by omega)),s,rfl⟩))))) (p W d) rfl ω u)
  .rename_i s
   rw [G6 ψ ψ];exact Eb a k i _ _ o l _ j g 6 x.a q (Lh rfl) (λW d=>JM (m:={ m with I:=m.I+1,J:=fs++[{ f with pc:=f.pc+1 }] }) (fs:=fs) (f:={ f with pc:=f.pc+1 }) 6 x.a _ (.inr (.inr (.inr (.inl ⟨rfl,f.S.dropLast,(f.S.getLastD 0),(Bq (show 1<=f.S.length by omega)),ω,rfl⟩)))) (p W d) rfl ω u)
 rw [if_neg T];by_cases U:x.op=7
 .rw [if_pos U]
  have e:=BN (c:=c) (y:=y) (x:=x) (by rw [U];decide);rw [U] at e;rw [e.1] at t;simp [Bk] at t;rw [U];split
  .rename_i s
   rw [FE];exact Eb a k i _ _ o l _ j g 7 x.a q (Lh rfl) (λW d=>RU (m:={ m with I:=m.I+1,J:=fs++[{ f with pc:=f.pc+1 }] }) (fs:=fs) (f:={ f with pc:=f.pc+1 }) 7 x.a _ (.inr (⟨rfl,f.S.dropLast.dropLast,(f.S.dropLast.getLastD 0),(f.S.getLastD 0),(FL (show 2<=f.S.length by omega)),s,rfl⟩)) (p W d) rfl ω u)
  .rename_i s
   rw [G6 ψ ψ];exact Eb a k i _ _ o l _ j g 7 x.a q (Lh rfl) (λW d=>RU (m:={ m with I:=m.I+1,J:=fs++[{ f with pc:=f.pc+1 }] }) (fs:=fs) (f:={ f with pc:=f.pc+1 }) 7 x.a _ (.inl ⟨rfl,f.S.dropLast.dropLast,(f.S.dropLast.getLastD 0),(f.S.getLastD 0),(FL (show 2<=f.S.length by omega)),ω,rfl⟩) (p W d) rfl ω u)
 rw [if_neg U];by_cases e8:x.op=8
 .rw [if_pos e8,e8,G6 ψ ψ]
  exact Eb a k i _ _ o l _ j g 8 x.a q (Lh rfl) (λW d=>JM (m:={ m with I:=m.I+1,J:=fs++[{ f with pc:=f.pc+1 }] }) (fs:=fs) (f:={ f with pc:=f.pc+1 }) 8 x.a _ (.inr (.inl ⟨rfl,rfl⟩)) (p W d) rfl ω u)
 rw [if_neg e8];have HA:=@Lh (E0 x.op=false) (by unfold E0;simp;omega);by_cases G:x.op=9
 .rw [if_pos G]
  have aV:=hs.lim r.fn H (n:=c.funcs.length) (by rw [G];rfl);obtain ⟨z,hz⟩:∃ z,c.funcs[x.a.toNat]?=ς z:=⟨_,Lg ω⟩
  have bG:Dt c x.a=ς z:=hz;have e:AM c y x=z.params:=by unfold AM;rw [if_pos G,bG]
  rw [e] at t;have bN:=hs.fok hz;unfold CX at bN;rw [bG];simp only [];have bM:f.S=f.S.take (f.S.length - z.params.toNat)++f.S.drop (f.S.length - z.params.toNat):=(List.take_append_drop _ _).symm;have C:(f.S.drop (f.S.length - z.params.toNat)).length=z.params.toNat:=by rw [List.length_drop];omega
  have aY:=(Int.toNat_of_nonneg aV.1).symm;refine Qd a k i _ _ o l _ j g x.op x.a q HA (by rw [G];rfl) (λW d=>?_);split
  .rename_i hd
   have:=Ua (m:={ m with I:=m.I+1,J:=fs++[{ f with pc:=f.pc+1 }] }) (f:={ f with pc:=f.pc+1 }) k i o l j g B (Y W d) bS c.funcs bK (Z W d) x.a.toNat z hz (f.S.take (f.S.length - z.params.toNat)) (f.S.drop (f.S.length - z.params.toNat)) bM (by rw [C];omega) (z.L - z.params).toNat (by rw [C];omega) (by rw [C];omega) bH (p W d) rfl hd;rw [<-aY] at this;exact this
  .rename_i hd
   rw [FE];exact QR (m:={ m with I:=m.I+1,J:=fs++[{ f with pc:=f.pc+1 }] }) (fs:=fs) (f:={ f with pc:=f.pc+1 }) k i o l _ j g x.a (p W d) rfl ω
 rw [if_neg G];have E9:=ξ x.op 9 G;by_cases K:x.op=10
 .rw [if_pos K]
  have e:AM c y x=D0 y.result:=by unfold AM;rw [if_neg ω,if_pos K]
  have D:=aI K;rw [e] at D;refine Qc a k i _ _ o l _ j g x.op x.a q HA E9 (by rw [K];rfl) (λW d=>?_);cases J:y.result with
  | true=>
   rw [J] at D;simp [D0] at D;have s:=Bq (st:=f.S) ω;have h2:f.S.dropLast=[]:=List.eq_nil_of_length_eq_zero (by rw [List.length_dropLast];omega);rw [h2] at s;have h3:f.S=[f.S.getLastD 0]:=by simpa using s
   cases aU:fs.getLast? with
   | none=>have aH:=List.getLast?_eq_none_iff.1 aU;simp only [if_true];rw [MY];exact Ho (m:={ m with I:=m.I+1,J:=fs++[{ f with pc:=f.pc+1 }] }) (f:={ f with pc:=f.pc+1 }) k i o l j g B (Y W d) c.funcs (Z W d) f.fn.toNat hk y r.fn (p W d) rfl ω _ (.inl ⟨J,(f.S.getLastD 0),(v ω).in64,h3,aH,rfl⟩)
   | some V=>
    obtain ⟨X,R⟩:=List.getLast?_eq_some_iff.1 aU;have C:fs.dropLast=X:=by rw [R];simp
    simp only [if_true];rw [C];exact Ho (m:={ m with I:=m.I+1,J:=fs++[{ f with pc:=f.pc+1 }] }) (f:={ f with pc:=f.pc+1 }) k i o l j g B (Y W d) c.funcs (Z W d) f.fn.toNat hk y r.fn (p W d) rfl ω _ (.inr (.inr (.inl ⟨J,(f.S.getLastD 0),(v ω).in64,h3,X,V,R,(aW V (by rw [R];simp)),rfl⟩)))
  | false=>
   rw [J] at D;simp [D0] at D;cases aU:fs.getLast? with
   | none=>have aH:=List.getLast?_eq_none_iff.1 aU;simp only [Bool.false_eq_true,if_false];rw [MY];exact Ho (m:={ m with I:=m.I+1,J:=fs++[{ f with pc:=f.pc+1 }] }) (f:={ f with pc:=f.pc+1 }) k i o l j g B (Y W d) c.funcs (Z W d) f.fn.toNat hk y r.fn (p W d) rfl ω _ (.inr (.inl ⟨J,D,aH,rfl⟩))
   | some V=>
    obtain ⟨X,R⟩:=List.getLast?_eq_some_iff.1 aU;have C:fs.dropLast=X:=by rw [R];simp
    have aI:Sh V false 0=V:=by unfold Sh;simp
    simp only [Bool.false_eq_true,if_false];rw [C,aI];exact Ho (m:={ m with I:=m.I+1,J:=fs++[{ f with pc:=f.pc+1 }] }) (f:={ f with pc:=f.pc+1 }) k i o l j g B (Y W d) c.funcs (Z W d) f.fn.toNat hk y r.fn (p W d) rfl ω _ (.inr (.inr (.inr (⟨J,D,X,V,R,rfl⟩))))
 rw [if_neg K];by_cases aZ:x.op=11
 .rw [if_pos aZ,aZ]
  exact BV a k i _ _ o l _ j g 11 x.a q (Lh rfl) rfl rfl (Lh (by unfold BB;decide)) (λW d=>DG (m:={ m with I:=m.I+1,J:=fs++[{ f with pc:=f.pc+1 }] }) (fs:=fs) (f:={ f with pc:=f.pc+1 }) 11 x.a _ (.inr (.inr (.inl ⟨rfl,aF,rfl⟩))) (p W d) rfl ω u)
 rw [if_neg aZ];by_cases L:x.op=12
 .rw [if_pos L]
  have e:=BN (c:=c) (y:=y) (x:=x) (by rw [L];decide);rw [L] at e;rw [e.1] at t;simp [Bk] at t;rw [L];split
  .rename_i s
   exact BV a k i _ _ o l _ j g 12 x.a q (Lh rfl) rfl rfl (Lh (by unfold BB;decide)) (λW d=>DG (m:={ m with I:=m.I+1,J:=fs++[{ f with pc:=f.pc+1 }] }) (fs:=fs) (f:={ f with pc:=f.pc+1 }) 12 x.a _ (.inr (.inr (.inr (.inl ⟨rfl,aF,f.S.dropLast,(f.S.getLastD 0),(Bq (show 1<=f.S.length by omega)),s,rfl⟩)))) (p W d) rfl ω u)
  .rename_i s
   exact BV a k i _ _ o l _ j g 12 x.a q (Lh rfl) rfl rfl (Lh (by unfold BB;decide)) (λW d=>DG (m:={ m with I:=m.I+1,J:=fs++[{ f with pc:=f.pc+1 }] }) (fs:=fs) (f:={ f with pc:=f.pc+1 }) 12 x.a _ (.inr (.inr (.inr (.inr (.inl ⟨rfl,f.S.dropLast,(f.S.getLastD 0),(Bq (show 1<=f.S.length by omega)),s,rfl⟩))))) (p W d) rfl ω u)
 rw [if_neg L];by_cases bA:x.op=13
 .rw [if_pos bA,bA]
  split
  .rename_i s
   rw [FE];exact BV a k i _ _ o l _ j g 13 x.a q (Lh rfl) rfl rfl (Lh (by unfold BB;decide)) (λW d=>DG (m:={ m with I:=m.I+1,J:=fs++[{ f with pc:=f.pc+1 }] }) (fs:=fs) (f:={ f with pc:=f.pc+1 }) 13 x.a _ (.inr (.inr (.inr (.inr (.inr (.inl ⟨rfl,s,rfl⟩)))))) (p W d) rfl ω u)
  .rename_i s
   have bE:=I.potle;have bI:=I.cmp0;unfold Co at bE;exact BV a k i _ _ o l _ j g 13 x.a q (Lh rfl) rfl rfl (Lh (by unfold BB;decide)) (λW d=>DG (m:={ m with I:=m.I+1,J:=fs++[{ f with pc:=f.pc+1 }] }) (fs:=fs) (f:={ f with pc:=f.pc+1 }) 13 x.a _ (.inr (.inr (.inr (.inr (.inr (.inr (.inl ⟨rfl,s,⟨I.Y,by show m.Y<=_;omega⟩,rfl⟩))))))) (p W d) rfl ω u)
 rw [if_neg bA];by_cases M:x.op=14
 .rw [if_pos M]
  have e:=BN (c:=c) (y:=y) (x:=x) (by rw [M];decide);rw [M] at e;rw [e.1] at t;simp [Bk] at t;rw [M];exact BV a k i _ _ o l _ j g 14 x.a q (Lh rfl) rfl rfl (Lh (by unfold BB;decide)) (λW d=>Gc (m:={ m with I:=m.I+1,J:=fs++[{ f with pc:=f.pc+1 }] }) (fs:=fs) (f:={ f with pc:=f.pc+1 }) 14 x.a _ (.inr (.inl ⟨rfl,f.S.dropLast,(f.S.getLastD 0),(Bq (show 1<=f.S.length by omega)),(v ω),rfl⟩)) (p W d) rfl ω u)
 rw [if_neg M];by_cases N:x.op=26
 .rw [if_pos N]
  have e:=BN (c:=c) (y:=y) (x:=x) (by rw [N];decide);rw [N] at e;rw [e.1] at t;simp [Bk] at t;rw [N];exact BV a k i _ _ o l _ j g 26 x.a q (Lh rfl) rfl rfl (Lh (by unfold BB;decide)) (λW d=>Gc (m:={ m with I:=m.I+1,J:=fs++[{ f with pc:=f.pc+1 }] }) (fs:=fs) (f:={ f with pc:=f.pc+1 }) 26 x.a _ (.inr (.inr (.inl ⟨rfl,f.S.dropLast,(f.S.getLastD 0),(Bq (show 1<=f.S.length by omega)),(v ω),rfl⟩))) (p W d) rfl ω u)
 rw [if_neg N];by_cases O:x.op=29
 .rw [if_pos O]
  have e:=BN (c:=c) (y:=y) (x:=x) (by rw [O];decide);rw [O] at e;rw [e.1] at t;simp [Bk] at t;rw [O];exact BV a k i _ _ o l _ j g 29 x.a q (Lh rfl) rfl rfl (Lh (by unfold BB;decide)) (λW d=>Gc (m:={ m with I:=m.I+1,J:=fs++[{ f with pc:=f.pc+1 }] }) (fs:=fs) (f:={ f with pc:=f.pc+1 }) 29 x.a _ (.inr (.inr (.inr (⟨rfl,f.S.dropLast,(f.S.getLastD 0),(Bq (show 1<=f.S.length by omega)),(v ω),rfl⟩)))) (p W d) rfl ω u)
 rw [if_neg O];by_cases P:x.op=30
 .rw [if_pos P]
  have e:=BN (c:=c) (y:=y) (x:=x) (by rw [P];decide);rw [P] at e;rw [e.1] at t;simp [Bk] at t;rw [P];exact BV a k i _ _ o l _ j g 30 x.a q (Lh rfl) rfl rfl (Lh (by unfold BB;decide)) (λW d=>DG (m:={ m with I:=m.I+1,J:=fs++[{ f with pc:=f.pc+1 }] }) (fs:=fs) (f:={ f with pc:=f.pc+1 }) 30 x.a _ (.inr (.inr (.inr (.inr (.inr (.inr (.inr (.inl ⟨rfl,f.S.dropLast,(f.S.getLastD 0),(Bq (show 1<=f.S.length by omega)),rfl⟩)))))))) (p W d) rfl ω u)
 rw [if_neg P];by_cases Q:x.op=31
 .rw [if_pos Q]
  have e:=BN (c:=c) (y:=y) (x:=x) (by rw [Q];decide);rw [Q] at e;rw [e.1] at t;simp [Bk] at t;rw [Q];exact BV a k i _ _ o l _ j g 31 x.a q (Lh rfl) rfl rfl (Lh (by unfold BB;decide)) (λW d=>DG (m:={ m with I:=m.I+1,J:=fs++[{ f with pc:=f.pc+1 }] }) (fs:=fs) (f:={ f with pc:=f.pc+1 }) 31 x.a _ (.inr (.inr (.inr (.inr (.inr (.inr (.inr (.inr (⟨rfl,f.S.dropLast,(f.S.getLastD 0),(Bq (show 1<=f.S.length by omega)),(v ω).in64,rfl⟩))))))))) (p W d) rfl ω u)
 rw [if_neg Q];have h2:=Qn bF.1 bF.2 ⟨e1,e2,E,e4,S,T,U,e8,G,K,aZ,L,bA,M,N,O,P,Q⟩;have e:=JH (c:=c) (y:=y) h2;rw [e.1] at t;have bE:=I.potle;have bI:=I.cmp0;have bO:=I.Y;unfold Co at bE;split
 .rename_i A
  exact Sr (m:={ m with I:=m.I+1,J:=fs++[{ f with pc:=f.pc+1 }] }) (fs:=fs) (f:={ f with pc:=f.pc+1 }) k i o l _ j g x.op x.a h2 f.S.dropLast.dropLast (f.S.dropLast.getLastD 0) (f.S.getLastD 0) (FL (show 2<=f.S.length by omega)) (hu ω) (v ω) A ⟨by show -1<=m.C;omega,by show m.C<=_;omega⟩ (p w Br) rfl ω aX
 .rename_i A
  rw [FE,Tw A];have:=Na (m:={ m with I:=m.I+1,J:=fs++[{ f with pc:=f.pc+1 }] }) (f:={ f with pc:=f.pc+1 }) k i o l c.funcs.length j g x.op x.a h2 f.S.dropLast.dropLast (f.S.dropLast.getLastD 0) (f.S.getLastD 0) (FL (show 2<=f.S.length by omega)) (hu ω) (v ω) A (p w Br) rfl ω aX;simpa using this
def Sx (h:stepP c m=.go m1):m1.Q=m.Q:=by
 unfold stepP at h;split at h
 .cases h
 .split at h
  .cases h
  .split at h
   .cases h
   .split at h
    .cases h
    .rename_i f _ y _ x _
     have a:Ft m.Q (.go m1):=by rw [<-h];exact Sw c m _ _ _ _
     cases a with
     | go _ b=>exact b
def IW.kind0 (h:IW c r m):r.K≠0:=by
 rcases h.2 with ⟨e,_,rfl⟩|⟨v,_,rfl,_⟩|⟨fs,f,a⟩
 .simp [Ah]
 .simp [EE]
 .obtain ⟨_,x,_,_,_,_,aA,_⟩:=a.top
  have:=EW aA;omega
def Ti (c:AQ) (m0:AV) (w:Ϣ) (F:List Nat) (e:Ending) (w':Ϣ):Prop:=∃ m',Cf c m0 m'/\DK w F m' e w'
def Pe (c:AQ) (m0:AV) (bm:Nat) (F:List Nat) (W:Ϣ) (gk:Nat) (wr:Ϣ):Prop:=
 ∃ mr fvr Fr,wr.heap[bm]?=ς (χ (AC fvr mr) 51 (0,0))/\Cv wr fvr mr.J Fr/\bm∉Fr/\AW (bm::F) (bm::Fr) W wr/\
  ((∃ fs f,Dr c mr fs f/\mr.Q=Eg/\(Co mr).toNat+1<gk/\∀ m',Cf c mr m'->Cf c m0 m')\/(mr.Q.K≠0/\Cf c m0 mr/\0<gk))
def O9 {m0 m:AV} {bm:Nat} {k:List Nat} {l:Ϣ} {d g:ϒ} {gk:Nat} (q:l.heap[bm]?=ς (χ (AC g m) 51 (0,0))) (r:bm∉k) (u:AW (bm::F) (bm::k) W l) (j:Cv w9 d m1.J F9) (i:AW k F9 l w9)
  (h:(∃ fs f,Dr c m1 fs f/\m1.Q=Eg/\(Co m1).toNat+1<gk/\∀ s,Cf c m1 s->Cf c m0 s)\/(m1.Q.K≠0/\Cf c m0 m1/\0<gk)) :
  w9.heap[bm]?=ς (χ (AC g m) 51 (0,0))/\Pe c m0 bm F W gk (Ai w9 bm d m1):=by
 have p:=(La q)
 have o:w9.heap[bm]?=ς (χ (AC g m) 51 (0,0)):=by rw [i.block bm p r];exact q
 have n:=i.notin p r;obtain ⟨v,t⟩:=AZ o d m1;refine ⟨o,m1,d,F9,v,j.kp (λb a=>t.block b (j.lt b a) (λe=>?_)),n,?_,h⟩
 .rw [List.mem_singleton] at e;exact n (e▸a)
 .have h1:AW (bm::k) (bm::F9) l w9:=i.wide (λb a=>List.mem_cons_of_mem _ a) (λb a=>by
   rw [ϰ] at a;rcases a with a|a
   .right;simp [a]
   .left;exact a)
  exact (u.trans h1).trans (t.wide (λb a=>by simp at a;simp [a]) (λb a=>.inr a))
def Kj (hs:AU c) (fU:Bv c) (fa ga:Option Addr) (fn fc gc:Nat) (g:Int) (hg:Dr c { m with Q:=Eg } fs f)
  (B:Nat) (hB:B<=w) (fT:AE B w 5 (CW B) (σ ga c.funcs gc) c.funcs) (s:Cv w fv m.J F) (fS:∀ b∈F,B<=b) :
  Calls prog 140 #[.agg #[σ fa fn fc,ι g,σ ga c.funcs gc],AJ fv m] w (Ti c { m with Q:=Eg } w F):=by
 obtain ⟨a,cp,rfl⟩:=s.form;obtain ⟨mn,cO⟩:=ε m.J.length;rw [<-cO] at s ⊢;obtain ⟨Z,bV,dM,eW⟩:=Λ4 s.lt fS fT cO;have eB:=hg.top;obtain ⟨y0,dG,-⟩:=eB;obtain ⟨a0,cC,dC,fK,fL,fM,hE⟩:=fT;obtain ⟨rfl,rfl⟩:ga=a0/\gc=cC:=by simpa using dC
 rcases hE with h0|⟨b,o,rfl,dZ,hE⟩
 .have:=dG.fn;rw [h0] at this;simp at this
 have HE:=Lh hE;clear hE dC dG;obtain ⟨cD,aL⟩:=ε c.funcs.length;have aT:=Lh aL;rw [<-aL];obtain ⟨W,C⟩:=ε (((w.alloc (χ #[σ fa fn fc,ι g,σ (ς (π b o)) cD gc] 25)).alloc (χ (AC (σ a mn cp) m) 51)).alloc (χ (AC ν AI) 51));have aY:=Lh (bl3 C);have U:=Lh (sz3 C);have b0:=Lh (ce31 C);have b1:=ro32 C;have b2:=ro33 C;have B2:=Lh b2;have cI:∀ x∈F,x<(w:Nat)+1:=λx i=>by have:=Z.o x i;omega
 obtain ⟨p1,p2⟩:=EP b1 Eg;obtain ⟨V,hV⟩:=ε (BO W (w+1) Eg);rw [<-hV] at p1 p2;have bG:Hid (Pe c { m with Q:=Eg } ((w:Nat)+1) F W ((Co { m with Q:=Eg }).toNat+2) V):=Lh ⟨_,_,F,p1,(s.kp (λb t=>by rw [p2.block b (by have h1:=Z.o b t;have Y:=U.o;omega) (by have h1:=Z.o b t;simp;omega)];exact aY.o.block b (Z.o b t))),λe=>by have:=cI _ e;omega,p2.wide (λb t=>by simp at t;simp [t]) (λb t=>.inr t),.inl ⟨fs,f,hg,rfl,ω,λ_ h=>h⟩⟩;obtain ⟨u,H,I,J,K,L,M,N,O⟩:=AO b1;obtain ⟨f0,n,f2,f3,f4,f5,f6,f7,f8⟩:=AX b1;have z:=(La b1)
 obtain ⟨dW,aM⟩:∃ q,q=(Co { m with Q:=Eg }).toNat+2:=⟨_,rfl⟩
 rw [<-aM] at bG;have dN:=Lh aM;clear b1 b2 s cO aL hg p1 p2 fS aM;unfold AJ;unfold AC AI at C;unfold AC;unfold BO Eg at hV;dsimp only at C hV ⊢;go_enter func140,ntmps140;go_upto_region 1 with fail;rw [<-C];have HW:=Lh C;clear C;go_wp2_with fail;rw [<-hV];have HV:=Lh hV;clear hV u H I J K L M N O f0 n f2 f3 f4 f5 f6 f7 f8 z;go_loopg [5] dW (λgk _ wr=>Hid (Pe c { m with Q:=Eg } ((w:Nat)+1) F W gk wr))
 case atStart=>exact bG
 case round=>
  obtain ⟨d,fF,Fr,T,aS,aZ,A,eA⟩:=hrel.o;obtain ⟨ra,rc,rfl⟩:=aS.form;have bL:(w:Nat)∉((w:Nat)+1)::F:=λe=>by
   rw [ϰ] at e;rcases e with e|e
   .omega
   .have:=Z.o _ e;omega
  have E:=A.cell (b0.o 0 _ rfl) bL;have c1:=A.cell (b0.o 1 _ rfl) bL;have X:=A.cell (b0.o 2 _ rfl) bL;have z0:=Bl E;have aP:=@Lh ((w:Nat)∉((w:Nat)+1)::Fr) (Cq A (by have:=U.o;omega) bL);obtain ⟨u,H,I,J,K,L,M,N,O⟩:=AO T;have z:=(La T)
  rcases eA with ⟨l,n,Q,bR,bP,bQ⟩|⟨dE,bF,fG⟩
  .obtain ⟨HG,cU,dS,dR,HM,eS⟩:=Λ6 Q bQ bP T A aZ
   have bC:=Q.nums;have fH:=bC.idle0;have fI:=bC.idle1;have e0:(d.Q.K == 0)=true:=by rw [bR];rfl
   have dU:=Lh bR;by_cases bM:d.I=100000
   .have e1:=ζ d.I 100000 bM
    have cK:=@Lh (Cf c { m with Q:=Eg } { d with Q:=Ah 6,J:=[] }) (by
     have eK:stepP c d=.stop (Ah 6) d:=by unfold stepP;rw [if_pos ω]
     have:=bQ _ (.stop eK);have Y:EG (Ah 6) d={ d with Q:=Ah 6,J:=[] }:=FE;rwa [Y] at this)
    clear Q bQ bP T A aZ hrel bM bR aS;go_wp2_with fail;refine (DX _ _ _ d 6 _).mono ?_;rintro e w9 ⟨rfl,dB⟩;obtain ⟨P,t2,t3⟩:=EF (R:=(w:Nat)+1+1) (bm:=(w:Nat)+1) (F0:=[]) (F2:=[]) (m1:={ d with Q:=Ah 6,J:=[] }) (fv:=ν) aY.o (Ds w9) (HM.o.trans ((AW.ob dB).wide (Fs:=[]) (Fs':=[]) ψ ψ)) ψ Z.o ω ω ω (by have:=U.o;omega) B2.o;have Q2:=Lh t2;have Q3:=Lh t3;obtain ⟨r0,r1,r2,r3,r4,r5,r6,r7,r8⟩:=AO P;obtain ⟨q0,q1,q2,q3,q4,q5,q6,q7,q8⟩:=AX P;have y2:=(La P)
    clear P t2 t3 dB u H I J K L M N O E c1 X e0 e1 z0 z;unfold AJ AC;go_wp2;exact ϖ (v:=AJ ν { d with Q:=Ah 6,J:=[] }) (AL (p:=4) rfl Q2.o _ rfl) rfl ⟨_,cK.o,Q3.o⟩
   .have bB:d.I<100000:=ω
    have e1:=ξ d.I 100000 bM;obtain ⟨y,x,t,hr,i,hp,bE⟩:=Q.at_ hs;have D:=Q.stepP t.fn i bB;have S:=GA hs Q;rw [D] at S;obtain ⟨cB,dP,dI,HR,HX,bY⟩:=Λ6 D S t hr i bE;have HP:=Lh hp;obtain ⟨G,fV,fD,cs,lv,sv,Fi,Fl,Fs,hT,cY⟩:=(Ab.2 ⟨_,Fr,T,aS,rfl,aZ⟩:Ak wr (w+1) d (((w:Nat)+1)::Fr)).top Q.fr;obtain rfl:Fr=G::(Fi++(Fl++Fs)):=(List.cons.inj cY).2;clear u H I J K L M N O;obtain ⟨u,H,I,J,K,L,M,N,O⟩:=AO hT.mach;have g8:=hT.frm 8;obtain ⟨Y,aR⟩:=KD hT Br (m':={ d with I:=d.I+1 }) 8 (ι (d.I+1)) (by unfold AC;rfl);obtain ⟨w2,bS⟩:=ε (wr.setCell (π (w+1) 8) (ι (d.I+1)));rw [<-bS] at Y aR;have aI:=Lh Y;have cS:=Lh (A.trans aR);have E:=aR.cell E aP.o;have c1:=aR.cell c1 aP.o;have cV:=aR.cell X aP.o;have cR:=Lh cV;have dK:=Lh E;have dL:=Lh c1;clear A aR Y hT T aS aZ hrel bM D S bQ bP cY Q bE E c1 cV bR;go_upto_region 6 with fail;rw [<-bS];have eZ:=Lh bS;clear bS u H I J K L M N O g8 X z0 z e0 e1;have hk:n.fn=(n.fn.toNat:Int):=(Int.toNat_of_nonneg t.fn0).symm;have bO:n.pc=(n.pc.toNat:Int):=(Int.toNat_of_nonneg t.pc0).symm;obtain ⟨k,bN⟩:=ε n.fn.toNat;obtain ⟨p,cQ⟩:=ε n.pc.toNat;rw [<-bN] at hk;rw [<-cQ] at bO i;have hy:=t.fn;rw [<-bN] at hy;have fJ:k<c.funcs.length:=(Ll hy)
    have fR:p<y.code.length:=(Ll i)
    have bI:Below B w w2:=(aY.o.mono hB).trans (cS.o.below (λx i=>by
     rw [ϰ] at i;rcases i with i|i
     .omega
     .exact bV.o x i) (by have:=U.o;omega))
    have cX:=(HE.o k y hy).below bI dZ;obtain ⟨yv,q4,eN⟩:=cX.2.2.2.2.1;obtain ⟨ya,eR,rfl,eO,eP,eQ,bJ⟩:=eN;rcases bJ with h0|⟨yb,yo,rfl,eM,bJ⟩
    .rw [h0] at i;simp at i
    obtain ⟨i0,i1,eC,dD⟩:=bJ p x i;have cE:=aI.o.cFn;rw [hk] at cE;have aQ:=aI.o.cPc;rw [bO] at aQ;have cF:=aI.o.frf (l.length*4+1);have X:=cR.o;have zc:=Bl X;have zf:=Bl cE;have zq:=Bl q4;have zy:=Bl i0;obtain ⟨u,-⟩:=AO aI.o.mach;have z:=(La aI.o.mach)
    have fN:=In l;have fO:(l:Int)<(l:Int)+1:=ω;have fP:(l:Int)<=200:=by have:=HG.o.len;omega
    have eE:=In k;have eF:(k:Int)<(cD:Int):=by have:=aT.o;omega
    have eH:=In p;have eI:(p:Int)<(y.code:Int):=ω;obtain ⟨dO,fC,eU,eY,HK,cT⟩:=Λ6 i0 i bN cQ hk bO;have HY:=Lh hy;clear bJ cX i t bN cQ hk bO hy;go_upto_region 7 with fail
    go_region
    obtain ⟨w3,bH⟩:=ε ((w2.alloc (χ #[ι x.op,ι x.a] 124)).drew);obtain ⟨ib,bA⟩:=ε (w2:Nat);have aK:Below w2 w2 w3:=by rw [bH];exact AG (AA _ _) 1
    have cZ:=@Lh (AR w3 ib [ι x.op,ι x.a]) (by rw [bH,bA];exact @AF w2 #[ι x.op,ι x.a] 124);have eD:(w:Nat)+1<ib:=by rw [bA];exact z
    have aU:=@Lh (ib∉((w:Nat)+1)::G::(Fi++(Fl++Fs))) (λe=>by have:=aI.o.lt _ e;omega);rw [<-bH,<- bA];have aV:=Lh (aI.o.kp aK);have dQ:=Lh (cS.o.trans (AW.ob aK));have fA:=Lh bH;have eT:=Lh bA;have dJ:=Lh (bI.trans (aK.mono (by have:=bI.size;omega)));have bU:Hid (AR w3 w [σ fa fn fc,ι g,σ (ς (π b o)) cD gc]):=Lh (λj v s=>by
     match j,s with
     | 0,s=>simp at s;subst s;exact AB aK dK.o
     | 1,s=>simp at s;subst s;exact AB aK dL.o
     | 2,s=>simp at s;subst s;exact AB aK cR.o)
    clear bH bA aK bI X cE aQ cF q4 i0 i1 zc zf zq zy u z dO;have aQ:=aV.o.cPc;rw [cT.o] at aQ;have cF:=aV.o.frf (l.length*4+1);have zf:=Bl aQ;obtain ⟨u,-⟩:=AO aV.o.mach;have z:=(La aV.o.mach)
    have dF:(p:Int)<=100000:=by have:=fU y (Lm HY.o);omega
    obtain ⟨cW,aX⟩:=Jl aV.o ((p:Int)+1) ⟨ω,ω⟩;have eL:IntKind.i64.wrap ((p:Int)+1)=(p:Int)+1:=by rw [IntKind.wrap_i64];omega
    have dH:=Lh cW;have bW:=Lh aX;clear cW aX;go_upto_region 8 with fail
    go_region
    obtain ⟨w5,bT⟩:=ε ((w3.setCell (π G (l.length*4+1)) (ι ((p:Int)+1))).drew);have cH:Below (w3.setCell (π G (l.length*4+1)) (ι ((p:Int)+1))).heap.size (w3.setCell (π G (l.length*4+1)) (ι ((p:Int)+1))) w5:=by rw [bT];exact AG Br 1
    have H5:=Lh (dH.o.kp cH);have aC:=bW.o.trans (AW.ob cH);have bX:=Lh (dQ.o.trans aC);rw [<-bT];have fB:=Lh bT;clear bT cH eL aQ cF zf u z;have E:=aC.cell (bU.o 0 _ rfl) aP.o;have c1:=aC.cell (bU.o 1 _ rfl) aP.o;have X:=aC.cell (bU.o 2 _ rfl) aP.o;have i0:=aC.cell (cZ.o 0 _ rfl) aU.o;have i1:=aC.cell (cZ.o 1 _ rfl) aU.o;have z0:=Bl E;have z2:=Bl i0;obtain ⟨u,H,I,J,K,L,M,N,O⟩:=AO H5.o.mach;have z:=(La H5.o.mach)
    have aJ:Below B W w5:=bX.o.below (λx i=>by
     rw [ϰ] at i;rcases i with i|i
     .omega
     .exact bV.o x i) (by have:=U.o;omega)
    have cL:=@Lh (AE B w5 5 (CW B) (σ (ς (π b o)) c.funcs gc) c.funcs) ((dM.o.funs (aY.o.mono hB)).funs aJ);have dY:=@Lh (Cv w5 (σ (ς (π G 0)) (l.length+1) fV) (l++[{ n with pc:=n.pc+1 }]) (G::(Fi++(Fl++Fs)))) (by
     have:=Nd H5.o;rwa [<-cT.o] at this)
    have dX:B<=w5:=by have h1:=aJ.size;have Y:=U.o;omega
    have cG:Hid (∀ x∈G::(Fi++(Fl++Fs)),B<=x):=Lh (λx i=>by
     rcases bX.o.new x (List.mem_cons_of_mem _ i) with h|h
     .rw [ϰ] at h
      rcases h with h|h
      .omega
      .exact bV.o x h
     .have:=U.o;omega)
    clear aC aJ;go_wp2_with fail;have aD:=Sq hs fU HG.o bB dI.o HR.o HX.o HP.o bY.o fa (ς (π b o)) fn fc gc g B dX cL.o dY.o cG.o;rw [<-aT.o] at aD;refine aD.mono ?_;clear aD;rintro e w9 ⟨fE,F9,rfl,bK,dA⟩;have bD:∃ aW,aW<gk/\((∃ fs f,Dr c (outM (Df c d l n y x)) fs f/\(outM (Df c d l n y x)).Q=Eg/\(Co (outM (Df c d l n y x))).toNat+1<aW/\∀ m',Cf c (outM (Df c d l n y x)) m'->Cf c { m with Q:=Eg } m')\/((outM (Df c d l n y x)).Q.K≠0/\Cf c { m with Q:=Eg } (outM (Df c d l n y x))/\0<aW)):=by
     have bP:=dS.o;have S:=dP.o;have D:=cB.o;cases ho:Df c d l n y x with
     | go m1=>
      rw [ho] at S D;obtain ⟨⟨dV,f2,cM⟩,fQ⟩:=S;have eJ:0<=Co m1:=by have h1:=cM.nums.Y;have Y:=cM.nums.idle1;unfold Co;omega
      refine ⟨(Co m1).toNat+2,ω,.inl ⟨dV,f2,cM,(Sx D).trans dU.o,by show (Co m1).toNat+1<_;omega,λm' h=>cU.o m' (.go D h)⟩⟩
     | stop r m1=>rw [ho] at S D;exact ⟨1,ω,.inr ⟨IW.kind0 S,cU.o _ (.stop D),ω⟩⟩
    obtain ⟨m9,cN⟩:=ε (outM (Df c d l n y x));rw [<-cN] at bD bK ⊢;have eV:=Lh cN;obtain ⟨aW,eG,bD⟩:=bD;obtain ⟨a9,c9,rfl⟩:=bK.form;have cJ:(w:Nat)+1∉G::(Fi++(Fl++Fs)):=(List.nodup_cons.1 H5.o.nodup).1;obtain ⟨h9,aO⟩:=O9 (W:=W) (F:=F) H5.o.mach cJ bX.o bK dA bD;obtain ⟨n9,cP⟩:=ε m9.J.length;rw [<-cP] at aO ⊢;have eX:=Lh cP;have cA:=Lh aO;clear cP aO bK dA bD cN u H I J K L M N O E c1 X i0 i1 z0 z z2;obtain ⟨u,H,I,J,K,L,M,N,O⟩:=AO h9;obtain ⟨q0,q1,q2,q3,q4,q5,q6,q7,q8⟩:=AX h9;have z:=(La h9)
    clear h9;unfold AJ AC;go_wp2_with fail
    go_roundg aW
    case measure=>exact eG
    case rel=>exact cA
  .have bZ:=Lh bF
   have dR:=Lh T;have e0:=ξ d.Q.K 0 dE;obtain ⟨P,t2,t3⟩:=EF (R:=(w:Nat)+1+1) (bm:=(w:Nat)+1) aY.o aS A (λx i=>List.mem_cons_of_mem _ i) Z.o ω ω ω (by have:=U.o;omega) B2.o;obtain ⟨rn,aN⟩:=ε d.J.length;rw [<-aN] at t2 t3 u;have dT:=Lh aN;have Q2:=Lh t2;have Q3:=Lh t3;obtain ⟨r0,r1,r2,r3,r4,r5,r6,r7,r8⟩:=AO P;obtain ⟨q0,q1,q2,q3,q4,q5,q6,q7,q8⟩:=AX P;have y2:=(La P)
   clear P t2 t3 bF T A aZ hrel aS dE aN;go_wp2;exact ϖ (v:=AJ (σ ra rn rc) d) (AL (p:=4) rfl Q2.o _ rfl) rfl ⟨_,bZ.o,Q3.o⟩
def QO (h:w.heap[bl]?=ς (χ (Ad l) 3 (0,0))) (hl:l.length<=1000000) (a:∀ n∈l,in64 n):Be w (σ (ς (π bl 0)) l l.length) l [bl]:=
 ⟨⟨ψ,.inr ⟨bl,l.length,_,rfl,Nat.zero_le _,h,Nr _,by unfold maxLen;omega,by simp [Ad],by simp only [Ad,Nat.mul_one];exact List.take_of_length_le ψ⟩⟩,rfl,a⟩
def UQ {a n:Nat} {k:Int} (e:w.heap[a]?=ς (χ #[ι k,ι 0,σ (ς (π bl 0)) n n,ν] 129 (0,0)))
  (hl:w.heap[bl]?=ς (χ (Ad l) 3 (0,0))) (f:n=l.length) (c:l.length<=1000000) (b:∀ n∈l,in64 n) (d:in64 k) (n3:a≠bl):Cv w (σ (ς (π a 0)) 1 1) [⟨k,0,l,[]⟩] [a,bl]:=by
 subst f;refine ⟨[ι k,ι 0,σ (ς (π bl 0)) l l.length,ν],[bl],?_,?_,rfl,by simp [n3]⟩
 .exact ⟨rfl,.inr ⟨a,1,_,rfl,Nat.zero_le _,e,Nr _,by unfold maxLen;omega,rfl,rfl⟩⟩
 .exact ⟨_,_,[],[bl],[],[],rfl,QO hl c b,⟨World.ownsRow_nil _ _ _ _,rfl,ψ⟩,d,⟨by show (_:Int)<=0;omega,by show (0:Int)<=_;omega⟩,⟨rfl,rfl⟩,ψ⟩
def OX (h:AS c x fuel=0):(0<=fuel/\fuel<=1048576)/\∃ (k:Nat) (y:BK),Dh c x.proc=k/\c.funcs[k]?=ς y/\(x.args:Int)=y.params/\∀ n∈x.args,BP n:=by
 unfold AS at h;split at h
 .cases h
 .rename_i hr
  refine ⟨ω,?_⟩;split at h
  .cases h
  .rename_i y hy
   split at h
   .cases h
   .rename_i hp
    split at h
    .cases h
    .rename_i hl
     split at h
     .cases h
     .rename_i hv
      refine ⟨(Dh c x.proc).toNat,y,ω,hy,by simpa using hl,λn a=>?_⟩;rw [Bool.not_eq_true,List.any_eq_false] at hv;have:=hv n a;simp at this;exact Aq.1 this
def PG (hs:AU c) (i:AS c x fuel=0):∃ (k q:Nat) (y:BK),Dh c x.proc=k/\c.funcs[k]?=ς y/\y.params=x.args.length/\y.L=x.args.length+q/\x.args.length+q<=1000/\
  CF c x fuel=⟨[⟨k,0,x.args++ϱ q 0,[]⟩],Eg,fuel,0,0⟩/\Dr c ⟨[⟨k,0,x.args++ϱ q 0,[]⟩],Eg,fuel,0,0⟩ [] ⟨k,0,x.args++ϱ q 0,[]⟩/\∀ n∈x.args++ϱ q 0,BP n:=by
 obtain ⟨g,k,y,d,a,j,m⟩:=OX i;have f:=hs.fok a;unfold CX at f;obtain ⟨q,l⟩:=ε ((y.L - y.params).toNat:Nat);have b:∀ n∈x.args++ϱ q 0,BP n:=λn e=>by
  rw [List.mem_append,List.mem_replicate] at e;rcases e with h|h
  .exact m n h
  .rw [h.2];unfold BP;omega
 refine ⟨k,q,y,d,a,j.symm,ω,ω,?_,⟨rfl,⟨y,⟨by show (0:Int)<=(k:Int);omega,by show c.funcs[(k:Int).toNat]?=ς y;rw [Int.toNat_natCast];exact a,by show (0:Int)<=0;omega,by show ((x.args++ϱ q 0).length:Int)=y.L;rw [List.length_append,List.length_replicate];omega,b,ψ⟩,Reach.zero c y⟩,trivial,ψ,⟨g.1,by show (0:Int)<=0;omega,by show (0:Int)<=100000;omega,by show (0:Int)<=0;omega,by show (0:Int)+(fuel*100001+(100000 - 0))<=_;omega⟩⟩,b⟩;unfold CF;rw [d];simp only [Int.toNat_natCast,a,Option.map_some,Option.getD_some];rw [<-l];rfl
def Kv (c:AQ) (x:Bi) (fuel:Int) (w:Ϣ) (e:Ending) (w':Ϣ):Prop:=∃ m' fv,Cf c (CF c x fuel) m'/\e=.returned (AJ fv m')/\CE w fv m' w'
def LU {g:Ϣ} {G:List Nat} (a:Below W W g) (c:AW G F9 g w9) (d:∀ b∈G,(W:Nat)<=b):AW [] F9 W w9:=
 ⟨c.os.trans a.os,c.tape.trans a.tape,c.output.trans a.output,Nt a.size c.size,λk f _=>by rw [c.block k (Nl f a.size) (λe=>by have:=d k e;omega),a.block k f],λb i=>by
  rcases c.new b i with h|h
  .exact .inr (d b h)
  .exact .inr (Nt a.size h)⟩
def Qb {w':Ϣ} {m':AV} (e:Cf c (CF c x fuel) m') (h:DK w [] m' (.returned (AJ fv m')) w'):Kv c x fuel w (.returned (AJ fv m')) w':=by
 obtain ⟨d,F9,i,f,a⟩:=h;refine ⟨m',d,e,i,F9,f,λb g=>?_,a.below ψ (Nr _)⟩;rcases a.new b g with h|h
 .simp at h
 .exact h
def PY (c:AQ) (cv:ϒ) (x:Bi) (xv:ϒ) (fuel:Int) (B:Nat) (w:Ϣ) (G:B<=w) (M:BF B w cv c) (hx:Gh B w xv x) (hs:AU c) (O:Bv c) (D:AS c x fuel=0) :
  Calls prog 112 #[cv,xv,ι fuel] w (Kv c x fuel w):=by
 obtain ⟨fv,gv,rfl,hf,N,bN⟩:=id M;obtain ⟨A,C,rfl⟩:=hf.form;obtain ⟨l,o,rfl⟩:=N.form;obtain ⟨av,rfl,L,bW⟩:=hx;obtain ⟨H,I,rfl⟩:=L.form;obtain ⟨k,q,y,hi,P,bO,aZ,bP,bA,Z,aJ⟩:=PG hs D;obtain ⟨W,g⟩:=ε (((w.alloc (χ (Bc A C l o c) 25)).alloc (χ #[.string x.proc,σ H x.args I] 80)).alloc (χ (AC ν AI) 51));have z:=Lh (bl3 g);have bB:=Lh (sz3 g);have b0:=ce31 g;have b1:=ce32 g;have b2:=ro33 g;have B2:=Lh b2;obtain ⟨Q,S,T⟩:=Γ3 b0;obtain ⟨X,Y⟩:=Γ2 b1;have h:=Nt G z.o.size;have bC:=@Lh (BF B W.drew (.agg (Bc A C l o c)) c) ((M.below (z.o.mono G)).below (AG Br 1));have bL:=@Lh (AE B W.drew 1 Aj (σ H x.args I) x.args) ((L.ints (z.o.mono G)).ints (AG Br 1));have bF:=@Lh (AE B W.drew 5 (CW B) (σ l c.funcs o) c.funcs) ((N.funs (z.o.mono G)).funs (AG Br 1));have HI:=@Lh (Cz (λf=>CM f.name x.proc) c.funcs=(k:Int)) hi;obtain ⟨HY,bG,bI,aH,aN⟩:=Λ5 P aZ bA Z aJ;have bM:c.funcs.length<=1000000:=by have:=hs.1.2.2.2.2.1;omega
 have bU:=In k;have bV:=(Ll P)
 have aY:(x.args++ϱ q 0).length=x.args.length+q:=by simp
 have aT:=Lh aY;have z1:(w:Nat)+1<W:=by have:=bB.o;omega
 clear hf N L M b0 b1 b2 hi P bO aZ bA Z aJ D aY;unfold AC AI at g;dsimp only at g;go_enter func112,ntmps112;go_upto_region 1 with fail;rw [<-g];clear g;go_region_held3 (λV=>V.cell? (π w 0)=ς (σ A c.H C)/\V.cell? (π w 1)=ς (ι c.G)/\V.cell? (π w 2)=ς (σ l c.funcs o)/\V.cell? (π (w+1) 0)=ς (.string x.proc)/\V.cell? (π (w+1) 1)=ς (σ H x.args I))
  (first|with_reducible exact ⟨n0,n1,n2,u0,u1⟩|with_reducible exact ⟨p0,p1,p2,s0,s1⟩|with_reducible exact ⟨l0,l1,l2,v0,v1⟩|with_reducible exact ⟨j0,j1,j2,y0,y1⟩|exact ⟨g0,g1,g2,h0,h1⟩|exact ⟨Q,S,T,X,Y⟩)
  (first
   | (go_at_call 95;refine (Ic c _ x.proc B W.drew h bC.o).mono ?_;rintro e w1 ⟨rfl,d⟩;rw [HI.o];have j0:=keepD d Q;have j1:=keepD d S;have j2:=keepD d T;have y0:=keepD d X;have y1:=keepD d Y;have t:Hid (Below W W w1):=Lh ((AG Br 1).trans d);have bK:=Lh (bL.o.ints (d.mono h));have aS:=Lh (bF.o.funs (d.mono h));clear d)
   | (go_at_call 141;refine (Lc A l H _ C o I c.G B B w1 (Nt h t.o.size) c.funcs aS.o k y HY.o x.args (Nt h t.o.size) bK.o q bG.o bP bM).mono ?_;rintro e a ⟨bl,rfl,K,aP,i⟩;have l0:=AB i j0;have l1:=AB i j1;have l2:=AB i j2;have v0:=AB i y0;have v1:=AB i y1;have J:=Lh (t.o.th i);have aM:=Lh K;have aQ:bl<a:=(La K);have bD:=Lh (aS.o.funs (i.mono (Nt h t.o.size)));have aX:(W:Nat)<=bl:=Nt t.o.size aP;have aU:Hid (Below W W (a.alloc (χ #[ι (k:Int),ι 0,σ (ς (π bl 0)) (x.args.length+q) (x.args.length+q),ν] 129))):=Lh (J.o.th (AA _ _));have bJ:Hid (Cv (a.alloc (χ #[ι (k:Int),ι 0,σ (ς (π bl 0)) (x.args.length+q) (x.args.length+q),ν] 129)) (σ (ς (π a 0)) 1 1) [⟨k,0,x.args++ϱ q 0,[]⟩] [(a:Nat),bl]):=Lh (UQ (Hn _ _) (by rw [Ha _ _ _ aQ];exact aM.o) aT.o.symm (by rw [aT.o];omega) (λn hn=>(aN.o n hn).in64) ⟨ω,ω⟩ ω);have bE:Hid (AE B (a.alloc (χ #[ι (k:Int),ι 0,σ (ς (π bl 0)) (x.args.length+q) (x.args.length+q),ν] 129)) 5 (CW B) (σ l c.funcs o) c.funcs):=Lh (bD.o.funs ((AA _ _).mono (Nt h J.o.size)));have bQ:(W:Nat)<=a:=J.o.size;have p0:=AB (AA a (χ #[ι (k:Int),ι 0,σ (ς (π bl 0)) (x.args.length+q) (x.args.length+q),ν] 129)) l0;have p1:=AB (AA a (χ #[ι (k:Int),ι 0,σ (ς (π bl 0)) (x.args.length+q) (x.args.length+q),ν] 129)) l1;have p2:=AB (AA a (χ #[ι (k:Int),ι 0,σ (ς (π bl 0)) (x.args.length+q) (x.args.length+q),ν] 129)) l2;have s0:=AB (AA a (χ #[ι (k:Int),ι 0,σ (ς (π bl 0)) (x.args.length+q) (x.args.length+q),ν] 129)) v0;have s1:=AB (AA a (χ #[ι (k:Int),ι 0,σ (ς (π bl 0)) (x.args.length+q) (x.args.length+q),ν] 129)) v1;clear K i)
   | (go_at_call 140;refine (Kj (m:=⟨[⟨k,0,x.args++ϱ q 0,[]⟩],Eg,fuel,0,0⟩) hs O A l _ C o c.G aH.o B (Nt h aU.o.size) bE.o bJ.o (λb r=>by simp at r;omega)).mono ?_;rintro e w9 ⟨U,hR,bT,F9,rfl,E,aV⟩;obtain ⟨a9,c9,rfl⟩:=E.form;have bH:=Lh hR;have j:=LU aU.o aV (λb r=>by simp at r;omega);have bS:=Lh E;have aW:=j.wide (F:=[(w:Nat)+1]) (F':=F9) ψ (λb r=>.inl r);obtain ⟨t1,t2,t3⟩:=EF (R:=(w:Nat)+1+1) (bm:=(w:Nat)+1) (F:=[]) z.o E aW (λb r=>r) ψ ω ω ω (by have:=bB.o;omega) B2.o;obtain ⟨r0,r1,r2,r3,r4,r5,r6,r7,r8⟩:=AO t1;obtain ⟨q0,q1,q2,q3,q4,q5,q6,q7,q8⟩:=AX t1;have zR:=(La t1);obtain ⟨n9,hn9⟩:∃ u,u=U.J.length:=⟨_,rfl⟩;rw [<-hn9] at t2 t3 ⊢;have bR:=Lh hn9;have Q2:=Lh t2;have Q3:=Lh t3;have n0:=j.cell Q ψ;have n1:=j.cell S ψ;have n2:=j.cell T ψ;have u0:=j.cell X ψ;have u1:=j.cell Y ψ;have s:=(AZ t1 (σ a9 n9 c9) U).2;have g0:=s.cell n0 φ;have g1:=s.cell n1 φ;have g2:=s.cell n2 φ;have h0:=s.cell u0 ψ;have h1:=s.cell u1 ψ;clear s;clear hR E aV j aW t1 t2 t3 hn9;unfold AJ AC))
 all_goals
  go_wp2;exact ϖ (v:=AJ (σ a9 n9 c9) U) (AL (p:=6) rfl Q2.o _ rfl) rfl (Qb (by rw [bI.o];exact bH.o) Q3.o)
