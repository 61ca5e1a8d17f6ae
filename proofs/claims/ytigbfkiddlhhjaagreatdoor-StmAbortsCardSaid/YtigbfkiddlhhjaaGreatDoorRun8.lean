import Derived.Test.YtigbfkiddlhhjaaGreatDoorSga
import Derived.Test.YtigbfkiddlhhjaaGreatDoorSgd
import Derived.Test.YtigbfkiddlhhjaaGreatDoorPst3
import Derived.Defers
import Derived.Recover
import Derived.Outline
set_option maxHeartbeats 8000000
set_option maxRecDepth 100000
set_option linter.all false
open Go renaming World→Ϣ,Value→ϒ,Calls→ϙ,bodyPost_ret→ϖ
open Go.RowKit renaming Below→ϐ
open Option renaming some→ς
open Bool renaming false→ϝ,true→ϑ
open List renaming replicate→ϱ
open Go.Value renaming slice→σ
open Go.Obj renaming cells→χ
namespace Go.Proofs.YtigbfkiddlhhjaaGreatDoor
open Go.RowKit Proofs.Tryz
variable {c:AQ} {w W:Ϣ} {bm b bl:Nat} {m:AV} {F:List Nat} {fs:List AY} {f:AY}
def Uz (hs:AU c) (bU:Bv c) (o k:Option Addr) (q p l:Nat) (g:Int) (S:Dr c m fs f) (hO:Ak w bm m F)
  (B:Nat) (A:∀ b∈F,B<=b) (a:AE B w 5 (CW B) (σ k c.funcs l) c.funcs) :
  ϙ prog 168 #[DH (σ o q p) (σ k c.funcs l) g bm] w (EM w bm F (stepP c m)):=by
 obtain ⟨fb,bV,bR,cs,lv,sv,Fi,Fl,Fs,s,rfl⟩:=hO.top S.fr;have u:c.funcs.length<=1000000:=by have:=hs.1.2.2.2.2.1;omega
 have D:=S.len;have H:=S.nums;by_cases bE:100000<=m.I
 .have e:stepP c m=.stop (Ah 6) m:=by unfold stepP;rw [if_pos bE]
  rw [e];exact Qi o k q p c.funcs.length l g s S.fr ⟨bE,H.idle1⟩
 have r:0<=m.I/\m.I<100000:=⟨H.idle0,ω⟩
 obtain ⟨y,x,d,hr,j,E,aZ⟩:=S.at_ hs;rw [S.stepP d.fn j r.2];have bH:=(hs.wf d.fn).op x (Lm j);have bN:=bU y (Lm d.fn);have t:y.code.length<=1000000:=ω;have bT:=DJ (hs.wf d.fn) (hs.snd d.fn) hr;have bP:f.S.length<999999:=ω;have L:f.S.length<1000000:=ω;have aW:=S.low.small hs bU;have aH:∀ f∈fs,f.S.length<1000000:=λf hf=>by have:=aW f (List.mem_reverse.2 hf);omega
 have C:=(Int.toNat_of_nonneg d.fn0).symm;have v:=(Int.toNat_of_nonneg d.pc0).symm;have bC:=λn h=>(d.sv n h).in64;have bO:=hs.fok d.fn;unfold CX at bO;have bG:f.L.length<=1000:=by have:=d.loc;omega
 have K:1<=f.S.length->BP (f.S.getLastD 0):=λG=>d.sv _ (by rw [Bq G];simp);have hu:2<=f.S.length->BP (f.S.dropLast.getLastD 0):=λG=>d.sv _ (by rw [FL G];simp);unfold Df;simp only [];by_cases e1:x.op=1
 .rw [if_pos e1]
  exact Es o k q p l g s D B A c.funcs u a f.fn.toNat C y d.fn f.pc.toNat v x j t r _ (.inl ⟨e1,L,rfl⟩)
 rw [if_neg e1];by_cases e2:x.op=2
 .rw [if_pos e2]
  have aU:=hs.lim d.fn j (n:=y.L) (by rw [e2];rfl);have aV:=d.loc;have hi:f.L[x.a.toNat]?=ς (f.L.getD x.a.toNat 0):=getD_some ω;exact Et o k q p l g s D B A c.funcs u a f.fn.toNat C y d.fn f.pc.toNat v x j t r _ (.inr (.inr (.inr (.inr (.inr (.inr (.inr (⟨e2,x.a.toNat,ω,(f.L.getD x.a.toNat 0),hi,(d.lv _ (Lm hi)).in64,L,bG,rfl⟩))))))))
 rw [if_neg e2];by_cases O:x.op=3
 .rw [if_pos O]
  have i:=BN (c:=c) (y:=y) (x:=x) (by rw [O];decide);rw [O] at i;rw [i.1] at E;simp [Bk] at E;have aU:=hs.lim d.fn j (n:=y.L) (by rw [O];rfl);have aV:=d.loc;exact JP o k q p l g s D B A c.funcs u a f.fn.toNat C y d.fn f.pc.toNat v x j t r _ (.inl ⟨O,x.a.toNat,ω,ω,f.S.dropLast,(f.S.getLastD 0),(Bq ω),(K ω).in64,bG,rfl⟩)
 rw [if_neg O];by_cases e4:x.op=4
 .rw [if_pos e4]
  exact Es o k q p l g s D B A c.funcs u a f.fn.toNat C y d.fn f.pc.toNat v x j t r _ (.inr (.inl ⟨e4,rfl⟩))
 rw [if_neg e4];by_cases Y:x.op=5
 .rw [if_pos Y]
  have i:=BN (c:=c) (y:=y) (x:=x) (by rw [Y];decide);rw [Y] at i;rw [i.1] at E;simp [Bk] at E;exact Es o k q p l g s D B A c.funcs u a f.fn.toNat C y d.fn f.pc.toNat v x j t r _ (.inr (.inr (.inr (.inr (.inl ⟨Y,f.S.dropLast,(f.S.getLastD 0),(Bq ω),rfl⟩)))))
 rw [if_neg Y];by_cases P:x.op=6
 .rw [if_pos P]
  have i:=BN (c:=c) (y:=y) (x:=x) (by rw [P];decide);rw [P] at i;rw [i.1] at E;simp [Bk] at E;split
  .rename_i G
   exact PE o k q p l g s D B A c.funcs u a f.fn.toNat C y d.fn f.pc.toNat v x j t r _ (.inl ⟨P,f.S.dropLast,(f.S.getLastD 0),(Bq ω),G,rfl⟩)
  .rename_i G
   exact PE o k q p l g s D B A c.funcs u a f.fn.toNat C y d.fn f.pc.toNat v x j t r _ (.inr (⟨P,f.S.dropLast,(f.S.getLastD 0),(Bq ω),ω,rfl⟩))
 rw [if_neg P];by_cases Q:x.op=7
 .rw [if_pos Q]
  have i:=BN (c:=c) (y:=y) (x:=x) (by rw [Q];decide);rw [Q] at i;rw [i.1] at E;simp [Bk] at E;split
  .rename_i G
   exact PF o k q p l g s D B A c.funcs u a f.fn.toNat C y d.fn f.pc.toNat v x j t r _ (.inl ⟨Q,f.S.dropLast.dropLast,(f.S.dropLast.getLastD 0),(f.S.getLastD 0),(FL ω),G,rfl⟩)
  .rename_i G
   exact PF o k q p l g s D B A c.funcs u a f.fn.toNat C y d.fn f.pc.toNat v x j t r _ (.inr (⟨Q,f.S.dropLast.dropLast,(f.S.dropLast.getLastD 0),(f.S.getLastD 0),(FL ω),ω,rfl⟩))
 rw [if_neg Q];by_cases e8:x.op=8
 .rw [if_pos e8]
  exact Es o k q p l g s D B A c.funcs u a f.fn.toNat C y d.fn f.pc.toNat v x j t r _ (.inr (.inr (.inl ⟨e8,rfl⟩)))
 rw [if_neg e8];by_cases R:x.op=9
 .rw [if_pos R]
  have aU:=hs.lim d.fn j (n:=c.funcs.length) (by rw [R];rfl);obtain ⟨z,hz⟩:∃ z,c.funcs[x.a.toNat]?=ς z:=⟨_,Lg ω⟩
  have bL:Dt c x.a=ς z:=hz;have i:AM c y x=z.params:=by unfold AM;rw [if_pos R,bL]
  rw [i] at E;have bQ:=hs.fok hz;unfold CX at bQ;rw [bL];simp only [];have bI:f.S=f.S.take (f.S.length - z.params.toNat)++f.S.drop (f.S.length - z.params.toNat):=(List.take_append_drop _ _).symm;have I:(f.S.drop (f.S.length - z.params.toNat)).length=z.params.toNat:=by rw [List.length_drop];omega
  have bA:=(Int.toNat_of_nonneg aU.1).symm;split
  .rename_i hd
   rw [show (⟨x.a,0,f.S.drop (f.S.length - z.params.toNat)++ϱ (z.L - z.params).toNat 0,[]⟩:AY)=⟨(x.a.toNat:Int),0,f.S.drop (f.S.length - z.params.toNat)++ϱ (z.L - z.params).toNat 0,[]⟩ from by rw [<-bA]];exact Et o k q p l g s D B A c.funcs u a f.fn.toNat C y d.fn f.pc.toNat v x j t r _ (.inr (.inr (.inr (.inl ⟨R,x.a.toNat,bA,z,hz,_,_,bI,(by rw [I];omega),(z.L - z.params).toNat,(by rw [I];omega),(by rw [I];omega),bC,hd,rfl⟩))))
  .rename_i hd
   exact Et o k q p l g s D B A c.funcs u a f.fn.toNat C y d.fn f.pc.toNat v x j t r _ (.inr (.inr (.inr (.inr (.inl ⟨R,x.a.toNat,bA,z,hz,_,_,bI,(by rw [I];omega),(z.L - z.params).toNat,(by rw [I];omega),(by rw [I];omega),bC,hd,rfl⟩)))))
 rw [if_neg R];by_cases M:x.op=10
 .rw [if_pos M]
  have i:AM c y x=D0 y.result:=by unfold AM;rw [if_neg ω,if_pos M]
  have J:=aZ M;rw [i] at J;have aS:f.S=if y.result then [if y.result=ϑ then f.S.getLastD 0 else 0] else []:=by
   cases aR:y.result with
   | true=>rw [aR] at J;simp [D0] at J;have G:=Bq (st:=f.S) ω;have Z:f.S.dropLast=[]:=List.eq_nil_of_length_eq_zero (by rw [List.length_dropLast];omega);rw [Z] at G;simpa using G
   | false=>rw [aR] at J;simp [D0] at J;simpa using J
  have bJ:y.result=ϝ->(if y.result=ϑ then f.S.getLastD 0 else 0)=0:=λh=>by rw [h];rfl
  have bK:in64 (if y.result=ϑ then f.S.getLastD 0 else 0):=by
   split
   .rename_i hr1;rw [hr1] at J;simp [D0] at J;exact (K ω).in64
   .unfold in64;omega
  cases bD:fs.getLast? with
  | none=>have aX:=List.getLast?_eq_none_iff.1 bD;exact Et o k q p l g s D B A c.funcs u a f.fn.toNat C y d.fn f.pc.toNat v x j t r _ (.inr (.inr (.inr (.inr (.inr (.inl ⟨M,_,aS,bJ,bK,aH,aX,rfl⟩))))))
  | some f'=>
   obtain ⟨bB,bF⟩:=List.getLast?_eq_some_iff.1 bD;have I:fs.dropLast=bB:=by rw [bF];simp
   simp only [];rw [I];exact Et o k q p l g s D B A c.funcs u a f.fn.toNat C y d.fn f.pc.toNat v x j t r _ (.inr (.inr (.inr (.inr (.inr (.inr (.inl ⟨M,_,aS,bJ,bK,aH,bB,f',bF,rfl⟩)))))))
 rw [if_neg M];by_cases aT:x.op=11
 .rw [if_pos aT]
  exact Es o k q p l g s D B A c.funcs u a f.fn.toNat C y d.fn f.pc.toNat v x j t r _ (.inr (.inr (.inr (.inl ⟨aT,rfl⟩))))
 rw [if_neg aT];by_cases N:x.op=12
 .rw [if_pos N]
  have i:=BN (c:=c) (y:=y) (x:=x) (by rw [N];decide);rw [N] at i;rw [i.1] at E;simp [Bk] at E;split
  .rename_i G
   exact Es o k q p l g s D B A c.funcs u a f.fn.toNat C y d.fn f.pc.toNat v x j t r _ (.inr (.inr (.inr (.inr (.inr (.inr (.inr (⟨N,f.S.dropLast,(by rw [<-G];exact Bq ω),rfl⟩))))))))
  .rename_i G
   exact Es o k q p l g s D B A c.funcs u a f.fn.toNat C y d.fn f.pc.toNat v x j t r _ (.inr (.inr (.inr (.inr (.inr (.inr (.inl ⟨N,f.S.dropLast,(f.S.getLastD 0),(Bq ω),G,rfl⟩)))))))
 rw [if_neg N];by_cases aQ:x.op=13
 .rw [if_pos aQ]
  split
  .rename_i G
   exact Et o k q p l g s D B A c.funcs u a f.fn.toNat C y d.fn f.pc.toNat v x j t r _ (.inr (.inl ⟨aQ,G,rfl⟩))
  .rename_i G
   have aY:=H.potle;have bM:=H.cmp0;unfold Co at aY;exact Et o k q p l g s D B A c.funcs u a f.fn.toNat C y d.fn f.pc.toNat v x j t r _ (.inr (.inr (.inl ⟨aQ,G,⟨H.Y,ω⟩,rfl⟩)))
 rw [if_neg aQ];by_cases T:x.op=14
 .rw [if_pos T]
  have i:=BN (c:=c) (y:=y) (x:=x) (by rw [T];decide);rw [T] at i;rw [i.1] at E;simp [Bk] at E;exact JP o k q p l g s D B A c.funcs u a f.fn.toNat C y d.fn f.pc.toNat v x j t r _ (.inr (.inl ⟨T,L,f.S.dropLast,(f.S.getLastD 0),(Bq ω),(K ω),rfl⟩))
 rw [if_neg T];by_cases U:x.op=26
 .rw [if_pos U]
  have i:=BN (c:=c) (y:=y) (x:=x) (by rw [U];decide);rw [U] at i;rw [i.1] at E;simp [Bk] at E;exact JP o k q p l g s D B A c.funcs u a f.fn.toNat C y d.fn f.pc.toNat v x j t r _ (.inr (.inr (.inl ⟨U,L,f.S.dropLast,(f.S.getLastD 0),(Bq ω),rfl⟩)))
 rw [if_neg U];by_cases V:x.op=29
 .rw [if_pos V]
  have i:=BN (c:=c) (y:=y) (x:=x) (by rw [V];decide);rw [V] at i;rw [i.1] at E;simp [Bk] at E;exact JP o k q p l g s D B A c.funcs u a f.fn.toNat C y d.fn f.pc.toNat v x j t r _ (.inr (.inr (.inr (⟨V,L,f.S.dropLast,(f.S.getLastD 0),(Bq ω),(K ω),rfl⟩))))
 rw [if_neg V];by_cases W:x.op=30
 .rw [if_pos W]
  have i:=BN (c:=c) (y:=y) (x:=x) (by rw [W];decide);rw [W] at i;rw [i.1] at E;simp [Bk] at E;exact Es o k q p l g s D B A c.funcs u a f.fn.toNat C y d.fn f.pc.toNat v x j t r _ (.inr (.inr (.inr (.inr (.inr (.inl ⟨W,f.S.dropLast,(f.S.getLastD 0),(Bq ω),rfl⟩))))))
 rw [if_neg W];by_cases X:x.op=31
 .rw [if_pos X]
  have i:=BN (c:=c) (y:=y) (x:=x) (by rw [X];decide);rw [X] at i;rw [i.1] at E;simp [Bk] at E;exact Et o k q p l g s D B A c.funcs u a f.fn.toNat C y d.fn f.pc.toNat v x j t r _ (.inl ⟨X,bP,f.S.dropLast,(f.S.getLastD 0),(Bq ω),(K ω).in64,rfl⟩)
 rw [if_neg X];have Z:=Qn bH.1 bH.2 ⟨e1,e2,O,e4,Y,P,Q,e8,R,M,aT,N,aQ,T,U,V,W,X⟩;have i:=JH (c:=c) (y:=y) Z;rw [i.1] at E;have aY:=H.potle;have bM:=H.cmp0;have bS:=H.Y;unfold Co at aY;split
 .rename_i hE
  exact PD o k q p l g s D B A c.funcs u a f.fn.toNat C y d.fn f.pc.toNat v x j t r _ (.inl ⟨Z,L,f.S.dropLast.dropLast,(f.S.dropLast.getLastD 0),(f.S.getLastD 0),(FL ω),(hu ω),(K ω),⟨ω,ω⟩,hE,(K9 Z (hu ω) (K ω) hE).in64,rfl⟩)
 .rename_i hE
  exact PD o k q p l g s D B A c.funcs u a f.fn.toNat C y d.fn f.pc.toNat v x j t r _ (.inr (⟨Z,L,f.S.dropLast.dropLast,(f.S.dropLast.getLastD 0),(f.S.getLastD 0),(FL ω),(hu ω),(K ω),⟨ω,ω⟩,hE,rfl⟩))
def Ok {fv c:ϒ} {m':AV} {F0 d:List Nat} (r:w.heap[bm]?=ς (χ (AC fv m) 59 (0,0))) (j:bm∉d) (hs:∀ b∈d,b∈F0)
  (p:W.heap[bm]?=ς (χ (AC c m') 59 (0,0))) (f:AW [bm] [bm] w W) (l:Cv w c m'.J d) (o:Obj) :
  ∃ g,Ak (W.alloc o) bm m' g/\AW (bm::F0) g w (W.alloc o):=by
 have n:=(La r)
 have s:=f.size;have h:=l.lt;have i:∀ k,k<(w:Nat)->(W.alloc o).heap[k]?=W.heap[k]?:=λk t=>Ha _ _ _ ω;refine ⟨bm::d,Ab.2 ⟨c,d,by rw [i bm n];exact p,l.kp (λb a=>by rw [i b (h b a),f.block b (h b a) (λe=>j (by rw [List.mem_singleton] at e;exact e▸a))]),rfl,j⟩,?_⟩;have q:=f.trans (AW.ob (F:=[bm]) (AA W o));exact q.wide (λb a=>by simp at a;simp [a]) (λb a=>by
  rw [List.mem_cons] at a;rcases a with rfl|a
  .left;simp
  .right;simp [hs b a])
def OC:∀ (v:ϒ) (w:Ϣ),(Instr.typeAssert (.iface 218 v) 20 218 ϑ).run prog w=.ok (.tuple #[v,.bool ϑ]) w:=λv w=>by kernel_rfl
def P6 (x y:ϒ):(#[x]++((((Array.replicate 32 undef).setIfInBounds 3 y).setIfInBounds 0 y).setIfInBounds 4 y).setIfInBounds 5 (.bool ϑ))=#[x,y,undef,undef,y,y,.bool ϑ,undef,undef,undef,undef,undef,undef,undef,undef,undef,undef,undef,undef,undef,undef,undef,undef,undef,undef,undef,undef,undef,undef,undef,undef,undef,undef]:=by kernel_rfl
def Ss {y:Nat} (h:Ak w bm m F) (z:y∉F) (M:w.cell? (π y 0)=ς (.pointer (ς (π bm 0)))) (r:Rq) (i:List PanicEntry) :
  CallsD prog 167 #[.pointer (ς (π y 0))] (.panicking ({ v:=Ln r,recovered:=ϝ }::i)) w λe N H=>
   e=.returned (.tuple #[])/\N=.panicking ({ v:=Ln r,recovered:=ϑ }::i)/\∃ n,Ak H bm (EG r m) n/\AW F n w H:=by
 obtain ⟨D,B,l,G,rfl,L⟩:=Ab.1 h;have R:=(La l)
 have p:∀ j v,(AC D m)[j]?=ς v->w.cell? (π bm j)=ς v:=λj v K=>by rw [cell_of_row _ _ _ _ _ _ l];exact K
 have U:=p 0 D rfl;have V:=p 1 (ι m.Q.K) rfl;have W:=p 2 (ι m.Q.O) rfl;have X:=p 3 (ι m.Q.D) rfl;have Y:=p 4 (ι m.Q.V) rfl;have Z:=p 5 (ι m.Q.X) rfl;have f0:=Ψ 0 l;have f1:=Ψ 1 l;have f2:=Ψ 2 l;have f3:=Ψ 3 l;have f4:=Ψ 4 l;have f5:=Ψ 5 l;have S:=Bl M;have u:=Lh l;have I:=Lh G;clear l G h p z;have T:=OC;unfold Ln;refine callsD_of_wpS func167 rfl λc₀ cs A=>?_;apply wpS_seq;apply wpS_region;simp [wpOpsS,go_sem,recoverD,A,ntmps167,Exit.thenS];apply wpS_seq;apply wpS_region;simp [wpOpsS,go_sem,ntmps167,Exit.thenS];refine wpS_cond (t:=ϑ) (by simp [Act.eval,Array.replicate]) ?_;simp only [if_true];have O:=Lh A;clear A;refine wpS_of_wp ?_;obtain ⟨sV,x⟩:=ε (.iface 218 (.agg #[ι r.K,ι r.O,ι r.D,ι r.V,ι r.X]):ϒ);rw [<-x];rw [P6];rw [x];clear x;have q:=Lh (EP u.o r);by_cases d:r.K=4\/r.K=5
 .have s:Hid (EG r m={ m with Q:=r,J:=[] }):=by refine Lh ?_;unfold EG;rw [if_pos d]
  have c:Hid (∃ n,Ak (((BO w bm r).setCell (π bm 0) ν).alloc (χ #[ι r.K,ι r.O,ι r.D,ι r.V,ι r.X] 218)) bm (EG r m) n/\AW (bm::B) n w (((BO w bm r).setCell (π bm 0) ν).alloc (χ #[ι r.K,ι r.O,ι r.D,ι r.V,ι r.X] 218))):=by rw [s.o];have E:=heap_setCell_same _ bm 0 _ _ ν q.o.1;rw [CY] at E;exact Ok u.o ψ (λb J=>by simp at J) (m':={ m with Q:=r,J:=[] }) E (q.o.2.trans BX) (Ds w) _
  unfold BO at c;rcases d with d|d
  .obtain ⟨a,o,g,k,f⟩:=r
   dsimp only at d;subst d;go_wp2;refine ⟨rfl,_,rfl,_,results_none rfl _ _ _,rfl,rfl,?_⟩;exact c.o
  .obtain ⟨a,o,g,k,f⟩:=r
   dsimp only at d;subst d;go_wp2;refine ⟨rfl,_,rfl,_,results_none rfl _ _ _,rfl,rfl,?_⟩;exact c.o
 .have aC:¬r.K=4:=λe=>d (.inl e)
  have C:¬r.K=5:=λe=>d (.inr e);have s:Hid (EG r m={ m with Q:=r }):=by refine Lh ?_;unfold EG;rw [if_neg d]
  have c:Hid (∃ n,Ak ((BO w bm r).alloc (χ #[ι r.K,ι r.O,ι r.D,ι r.V,ι r.X] 218)) bm (EG r m) n/\AW (bm::B) n w ((BO w bm r).alloc (χ #[ι r.K,ι r.O,ι r.D,ι r.V,ι r.X] 218))):=by rw [s.o];exact Ok u.o L (λ_ h=>h) (m':={ m with Q:=r }) q.o.1 q.o.2 I.o _
  unfold BO at c;clear d s q;obtain ⟨a,o,g,k,f⟩:=r;dsimp only at aC C;have P:(a == 4)=ϝ:=by simp [aC]
  have Q:(a == 5)=ϝ:=by simp [C]
  go_wp2;refine ⟨rfl,_,rfl,_,results_none rfl _ _ _,rfl,rfl,?_⟩;exact c.o
def KT (c:AQ) (m:AV) (bm:Nat) (F:List Nat) (w:Ϣ) (e:Ending) (w':Ϣ):Prop:=
 e=.returned (.tuple #[])/\∃ m' F',Cf c m m'/\Ak w' bm m' F'/\AW F F' w w'
def Tj (c:AQ) (m:AV) (bm:Nat) (F:List Nat) (W:Ϣ) (fa:Option Addr) (fn fc:Nat) (g:Int) (gv:ϒ) (gk:Nat) (b4:Nat) (wr:Ϣ):Prop:=
 ∃ mr fs f Fr,Dr c mr fs f/\(Co mr).toNat<gk/\(∀ m',Cf c mr m'->Cf c m m')/\Ak wr bm mr Fr/\AW F Fr W wr/\b4∉Fr/\AR wr b4 [σ fa fn fc,ι g,gv,.pointer (ς (π bm 0))]
def KW (hs:AU c) (K:Bv c) (j d:Option Addr) (l k i:Nat) (g:Int) (q:Dr c m fs f) (n:Ak w bm m F)
  (B:Nat) (J:∀ b∈F,B<=b) (v:AE B w 5 (CW B) (σ d c.funcs i) c.funcs) :
  ϙ prog 148 #[.agg #[σ j l k,ι g,σ d c.funcs i],.pointer (ς (π bm 0))] w (KT c m bm F w):=by
 have H:=Lh n.lt;obtain ⟨W,o⟩:=ε (((w.alloc (χ #[σ j l k,ι g,σ d c.funcs i] 25)).alloc (χ #[.pointer (ς (π bm 0))] 166)).alloc (χ #[σ j l k,ι g,σ d c.funcs i,.pointer (ς (π bm 0))] 199));have G:=Lh (bl3 o);have Z:=Lh (sz3 o);have bH:Hid (W.cell? (π (w+1) 0)=ς (.pointer (ς (π bm 0)))):=by rw [o];refine Lh ?_;go_simp
 have R:=Lh (ce33 o);have aO:Hid (Tj c m bm F W j l k g (σ d c.funcs i) ((Co m).toNat+1) ((w:Nat)+1+1) W):=
  Lh ⟨m,fs,f,F,q,ω,λ_ h=>h,n.kp G.o,AW.self,λe=>by have:=H.o _ e;omega,R.o⟩
 have bD:B<=w:=by obtain ⟨fv,F0,hm,hv,rfl,hn⟩:=Ab.1 n;have h1:=J bm ψ;have h2:=H.o bm ψ;omega
 have Q:=@Lh (B<=W) (by have:=Z.o;omega);have bA:=Lh v;have L:=Lh J;clear v J q n
 go_enter_defers func148,ntmps148
 go_wp2_with fail;rw [<-o];clear o R;go_loopg [4] ((Co m).toNat+1) (λgk p wr=>∃ I:Nat,p=.pointer (ς (π I 0))/\Hid (Tj c m bm F W j l k g (σ d c.funcs i) gk I wr))
 case atStart=>exact ⟨(w:Nat)+1+1,rfl,aO⟩
 case round=>
  obtain ⟨I,rfl,Y⟩:=hrel;obtain ⟨mr,bL,f',Fr,q,V,X,n,C,N,M⟩:=Y.o;have x:=Γ4 M;obtain ⟨HG,bB,P,HO,y,z⟩:=Λ6 q V X n C N;have bE:=Lh (C.ge L.o Q.o);have bJ:=Lh (bA.o.funs ((G.o.mono bD).trans (C.below L.o Q.o)));have U:=GA hs q;clear Y q V X n C M N;go_wp2_with fail;refine (Uz hs K j d l k i g HG.o HO.o B bE.o bJ.o).mono ?_;rintro e w1 D;cases t:stepP c mr with
  | go s=>
   rw [t] at D U;obtain ⟨rfl,E,u,a⟩:=D;obtain ⟨⟨bC,f1,A⟩,bK⟩:=U;have aN:0<=Co s:=by have h1:=A.nums.Y;have h2:=A.nums.idle1;unfold Co;omega
   have j0:=a.cell x.1 z.o;have j1:=a.cell x.2.1 z.o;have j2:=a.cell x.2.2.1 z.o;have j3:=a.cell x.2.2.2 z.o;have aP:Hid (Tj c m bm F W j l k g (σ d c.funcs i) ((Co s).toNat+1) (w1:Nat) (w1.alloc (χ #[σ j l k,ι g,σ d c.funcs i,.pointer (ς (π bm 0))] 199))):=
    Lh ⟨s,bC,f1,E,A,ω,λm' h=>P.o m' (.go t h),u.kp (AA _ _),(y.o.trans a).trans (AW.ob (AA _ _)),λe=>by have:=u.lt _ e;omega,AF⟩
   have aM:=@Lh ((Co s).toNat+1<gk) (by have:=bB.o;omega);clear u a A bK aN t x;go_wp2_with fail
   go_roundg ((Co s).toNat+1)
   case measure=>exact aM.o
   case rel=>exact ⟨_,rfl,aP⟩
  | stop r s=>
   rw [t] at D;obtain ⟨rfl,E,u,a⟩:=D;have S:(w:Nat)+1∉F:=λe=>by have:=H.o _ e;omega
   have O:=y.o.notin (by have:=Z.o;omega) S;have T:=y.o.cell bH.o S;have aJ:(w:Nat)+1∉E:=a.notin (Bl T) O;have bI:=a.cell T O;refine leaves_cons (f:=167) (args:=#[.pointer (ς (π (w+1) 0))]) ψ (by simp [go_sem]) ?_;refine (Ss u aJ bI r []).mono ?_;rintro e u' w2 ⟨rfl,rfl,F2,bG,bF⟩;have aK:KT c m bm F w (.returned (.tuple #[])) w2:=⟨rfl,_,F2,P.o _ (.stop t),bG,(AW.ob G.o).trans ((y.o.trans a).trans bF)⟩
   simp [Leaves,settle,results,results148,go_sem];exact aK
def Jf:An 179:=λ_ _=>by kernel_rfl
def L2:An 163:=λ_ _=>by kernel_rfl
def L4 (d a:ByteArray) (p l r c:ϒ) (b:Nat) (w:Ϣ) (f:b<w) (h:w.cell? (π b 0)=ς (.string a)) :
  ϙ prog 179 #[.agg #[.string d,p,l,r,c],.pointer (ς (π b 0))] w λe g=>e=.returned (.bool (CM d a))/\ϐ w w g:=by
 have i:(w.alloc (χ #[.string d,p,l,r,c] 70)).cell? (π b 0)=ς (.string a):=by rw [World.cell?_alloc_past _ _ _ f];exact h
 go_enter func179,ntmps179;go_wp2;go_ret;exact ⟨rfl,Br.alloc (Nr _) _⟩
def NK (d:ByteArray) (b:Nat) (B:Nat) (w:Ϣ) (g:b<w) (h:w.cell? (π b 0)=ς (.string d)):∀ (x:BK) (a:Ϣ) (c:ϒ),ϐ w w a->EI B a c x->ϙ prog 179 (#[c]++#[.pointer (ς (π b 0))]) a (λe i=>e=.returned (.bool (CM x.name d))/\ϐ a a i):=by
 rintro x a c f ⟨j,rfl,_⟩;exact L4 x.name d _ _ _ _ b a (by have:=f.size;omega) (by rw [f.cell (p:=(π b 0)) g];exact h)
def Qg (n:Int) (w:Ϣ) :
  ϙ prog 163 #[ι n] w λe a=>e=.returned (.bool (!Af n))/\w=a:=by
 go_enter func163,ntmps163;go_wp2_with (go_at_call 141;refine (Bh n _).mono ?_;rintro e a ⟨rfl,rfl⟩);go_ret;exact ⟨rfl,rfl⟩
def Su (w:Ϣ):∀ (x:Int) (a:Ϣ) (b:ϒ),ϐ w w a->Ny 0 a b x->ϙ prog 163 (#[b]++#[]) a (λe c=>e=.returned (.bool (!Af x))/\ϐ a a c):=by
 rintro x a b _ ⟨rfl,_⟩;exact (Qg x a).mono λe c ⟨d,f⟩=>⟨d,f▸Below.refl _ _⟩
def NL (c:AQ) (h:ϒ) (a:ByteArray) (B:Nat) (w:Ϣ) (s:B<=w) (u:BF B w h c) :
  ϙ prog 162 #[h,.string a] w λe j=>e=.returned (ι (Dh c a))/\ϐ w w j:=by
 obtain ⟨D,E,rfl,v,i,C⟩:=u;have k:=Lh i;obtain ⟨q,m,rfl,A,_,_,_⟩:=v;obtain ⟨r,n,rfl,x,y,z,p⟩:=i;obtain ⟨W,b⟩:=ε ((w.alloc (χ (Bc q m r n c) 25)).alloc (χ #[.string a] 9));have d:=Lh (bl2 b);have l:Hid (W.cell? (π (w+1) 0)=ς (.string a)):=by rw [b];refine Lh ?_;go_simp
 have o:=Lh (k.o.funs (d.o.mono s));have g:=Lh (sz2 b);clear p;go_enter func162,ntmps162;go_wp2_with fail;rw [<-b];clear b;refine (FQ 179 #[.pointer (ς (π (w+1) 0))] (λf=>CM f.name a) c.funcs _ B _ Jf (by have:=g.o;omega) o.o (NK a _ B _ (by have:=g.o;omega) l.o)).mono ?_;rintro e j ⟨rfl,t⟩;go_wp2;go_ret;exact ⟨rfl,d.o.th t⟩
def FC (c:AQ) (x:Bi) (fuel:Int) (w:Ϣ) (e:Ending) (w':Ϣ):Prop:=
 (AS c x fuel≠0/\e=.returned (.tuple #[AJ ν AI,ι (AS c x fuel)])/\ϐ w w w')\/
 (AS c x fuel=0/\∃ m' fv,Cf c (CF c x fuel) m'/\e=.returned (.tuple #[AJ fv m',ι 0])/\CE w fv m' w')
def PH (c:AQ) (x:Bi) (fuel:Int) (f j xa:Option Addr) (i h l k xn xc:Nat) (g:Int) (w:Ϣ) (n:fuel<0\/1048576<fuel) :
  ϙ prog 139 #[.agg #[σ f i h,ι g,σ j l k],.agg #[.string x.proc,σ xa xn xc],ι fuel] w (FC c x fuel w):=by
 have e:=@Lh (AS c x fuel=2) (by unfold AS;rw [if_pos n]);have d:∀ a,ϐ w w a->FC c x fuel w (.returned (.tuple #[AJ ν AI,ι 2])) a:=λa m=>.inl ⟨by rw [e.o];decide,by rw [e.o],m⟩;have b:=Lh d;clear d;by_cases o:fuel<0
 .go_enter func139,ntmps139
  go_wp2;exact ϖ (v:=.tuple #[AJ ν AI,ι 2]) (by simp [results,results139,go_sem,AJ,AC,AI]) rfl (b.o _ (((AA _ _).th (AA _ _)).th (AA _ _)))
 .have h1:1048576<fuel:=ω
  go_enter func139,ntmps139;go_wp2;exact ϖ (v:=.tuple #[AJ ν AI,ι 2]) (by simp [results,results139,go_sem,AJ,AC,AI]) rfl (b.o _ (((AA _ _).th (AA _ _)).th (AA _ _)))
def Kz (w:Ϣ) (b:Nat):Prop:=w.heap[b]?=ς (χ #[ν,ι 0,ι 0,ι 0,ι 0,ι 0,ι 0,ι 0,ι 0] 59 (0,0))
def Kz.look (h:Kz w b):(w.cell? (π b 0)=ς ν/\w.cell? (π b 1)=ς (ι 0)/\w.cell? (π b 2)=ς (ι 0)/\w.cell? (π b 3)=ς (ι 0)/\w.cell? (π b 4)=ς (ι 0)/\w.cell? (π b 5)=ς (ι 0)/\w.cell? (π b 6)=ς (ι 0)/\w.cell? (π b 7)=ς (ι 0)/\w.cell? (π b 8)=ς (ι 0))/\
  (w.frozen? (π b 0)=ϝ/\w.frozen? (π b 1)=ϝ/\w.frozen? (π b 2)=ϝ/\w.frozen? (π b 3)=ϝ/\w.frozen? (π b 4)=ϝ/\w.frozen? (π b 5)=ϝ/\w.frozen? (π b 6)=ϝ/\w.frozen? (π b 7)=ϝ/\w.frozen? (π b 8)=ϝ)/\b<w:=
 ⟨⟨Cr h rfl,Cr h rfl,Cr h rfl,Cr h rfl,Cr h rfl,Cr h rfl,Cr h rfl,Cr h rfl,Cr h rfl⟩,⟨Fz h,Fz h,Fz h,Fz h,Fz h,Fz h,Fz h,Fz h,Fz h⟩,(La h)⟩
def Kz.kp {w':Ϣ} (h:Kz w b) (a:ϐ w w w'):Kz w' b:=(a.block _ (La h)).trans h
def Xz (w:Ϣ) (l k:List ϒ) (t u:TypeId) (a:W=((w.alloc (χ l.toArray t)).alloc (χ k.toArray u)).alloc (χ #[ν,ι 0,ι 0,ι 0,ι 0,ι 0,ι 0,ι 0,ι 0] 59)):ϐ w w W/\(W:Nat)=(w:Nat)+3/\AR W w l/\AR W (w+1) k/\Kz W (w+1+1):=by
 subst a;refine ⟨((AA _ _).th (AA _ _)).th (AA _ _),ψ,AF.alloc _ |>.alloc _,?_,?_⟩
 .have:=(@AF (w.alloc (χ l.toArray t)) k.toArray u).alloc (χ #[ν,ι 0,ι 0,ι 0,ι 0,ι 0,ι 0,ι 0,ι 0] 59)
  simpa using this
 .have:=Hn ((w.alloc (χ l.toArray t)).alloc (χ k.toArray u)) (χ #[ν,ι 0,ι 0,ι 0,ι 0,ι 0,ι 0,ι 0,ι 0] 59)
  rw [show ((w.alloc (χ l.toArray t)).alloc (χ k.toArray u)).heap.size=(w:Nat)+1+1 by simp] at this;exact this
def US {l:List Int} (h:w.heap[bl]?=ς (χ (Ad l) 3 (0,0))) (hl:l.length<=1000000) (a:∀ n∈l,in64 n):Be w (σ (ς (π bl 0)) l l.length) l [bl]:=
 ⟨⟨ψ,.inr ⟨bl,l.length,Ad l,rfl,Nat.zero_le _,h,Nr _,by unfold maxLen;omega,by simp [Ad],by simp only [Ad,Nat.mul_one];exact List.take_of_length_le ψ⟩⟩,rfl,a⟩
def Qt (b o j:Nat):((π b o):Addr).add j=(π b (o+j)):=by unfold Addr.add;split<;>simp_all
def Sa {a:Nat} (j:w.heap[bm]?=ς (χ (AC (σ (ς (π a 0)) 1 1) m) 59 (0,0))) (i:w.heap[a]?=ς (χ #[ι f.fn,ι f.pc,σ (ς (π bl 0)) f.L f.L.length,ν] 150 (0,0)))
  (hl:w.heap[bl]?=ς (χ (Ad f.L) 3 (0,0))) (d:f.L.length<=1000000) (c:∀ n∈f.L,in64 n) (e:f.S=[]) (g:in64 f.fn) (h:in64 f.pc) (b:m.J=[f]) (k:bm≠a) (n2:bm≠bl) (n3:a≠bl):Ak w bm m [bm,a,bl]:=by
 refine Ab.2 ⟨_,[a,bl],j,⟨[ι f.fn,ι f.pc,σ (ς (π bl 0)) f.L f.L.length,ν],[bl],?_,?_,rfl,by simp [n3]⟩,rfl,by simp [k,n2]⟩
 .rw [b]
  exact ⟨rfl,.inr ⟨a,1,_,rfl,Nat.zero_le _,i,Nr _,by unfold maxLen;omega,rfl,rfl⟩⟩
 .rw [b]
  exact ⟨_,_,[],[bl],[],[],rfl,US hl d c,by rw [e];exact ⟨World.ownsRow_nil _ _ _ _,rfl,ψ⟩,g,h,⟨rfl,rfl⟩,ψ⟩
def Rp (c:AQ) (x:Bi) (fuel:Int) (cv xv:ϒ) (B:Nat) (w:Ϣ) (E:B<=w) (hc:BF B w cv c) (hx:Gh B w xv x) (hs:AU c) (fC:Bv c) :
  ϙ prog 139 #[cv,xv,ι fuel] w (FC c x fuel w):=by
 have HC:=Lh hc;obtain ⟨fv,gv,rfl,F,H,cC⟩:=hc;obtain ⟨fa,fc,rfl⟩:=F.form;obtain ⟨ga,gc,rfl⟩:=H.form;obtain ⟨av,rfl,cI,eS⟩:=hx;obtain ⟨J,P,rfl⟩:=cI.form;have dE:=Lh H;have bT:=Lh cI;obtain ⟨fn,dI⟩:=ε c.H.length;obtain ⟨g,dK⟩:=ε c.G;rw [<-dI,<- dK] at HC ⊢;clear F H cI dI dK cC;by_cases hr:fuel<0\/1048576<fuel
 .exact PH c x fuel fa ga J _ fc _ gc _ P _ w hr
 have F:0<=fuel/\fuel<=1048576:=ω;obtain ⟨W,hW⟩:=ε (((w.alloc (χ #[σ fa fn fc,ι g,σ ga c.funcs gc] 25)).alloc (χ #[.string x.proc,σ J x.args P] 64)).alloc (χ #[ν,ι 0,ι 0,ι 0,ι 0,ι 0,ι 0,ι 0,ι 0] 59));obtain ⟨bL,cH,b0,b1,b2⟩:=Xz w [σ fa fn fc,ι g,σ ga c.funcs gc] [.string x.proc,σ J x.args P] 25 64 hW;have bL:=Lh bL;have cH:=Lh cH;have b2:=Lh b2;have dX:=Lh (HC.o.below (bL.o.mono E));have T:=Lh F;have eI:=θ (fuel<0);have eJ:=θ (1048576<fuel);have dW:B<=W:=by have:=cH.o;omega
 clear hr F;go_enter func139,ntmps139;go_upto_region 3 with fail;rw [<-hW];have HW:=Lh hW;clear hW;obtain ⟨I,i1,i2⟩:=Γ3 b0;obtain ⟨i3,i4⟩:=Γ2 b1;clear b0 b1;go_wp2_with fail;refine (NL c _ x.proc B W dW dX.o).mono ?_;rintro e z ⟨rfl,aJ⟩;have I:=Δ5 aJ I i1 i2 i3 i4;have r1:=Lh (b2.o.kp aJ);have L:=Lh (bL.o.th aJ);clear aJ;rcases G1 (λf=>CM f.name x.proc) c.funcs with r|⟨k,hk,r⟩
 .have o:=@Lh (AS c x fuel=9) (by
   have:=T.o;unfold AS;rw [if_neg ω];cases c.funcs[(Dh c x.proc).toNat]? with
   | none=>rfl
   | some y=>simp only [];rw [if_pos (by rw [show Dh c x.proc = -1 from r];omega)])
  rw [show Dh c x.proc = -1 from r];clear r;obtain ⟨⟨cK,cL,cM,cN,cO,cP,cQ,cR,cS⟩,⟨cT,cU,cV,cW,cX,cY,cZ,dA,dB⟩,rz⟩:=r1.o.look;have l:=Lh (AZ (R:=(w:Nat)+1+1) (fv0:=ν) (m0:=AI) (W:=z) r1.o ν AI);have S:=Lh ((L.o).trans (l.o.2.below (λb d=>by simp at d;omega) (L.o).size));go_wp2;exact ϖ (Bp rfl l.o.1 _ _ rfl rfl) rfl (.inl ⟨by rw [o.o];decide,by rw [o.o];rfl,S.o⟩)
 have r:Dh c x.proc=k:=r;rw [r];have HI:=Lh r;obtain ⟨y,hy⟩:∃ y,c.funcs[k]?=ς y:=⟨_,Lg hk⟩
 have K:=Lh hy;obtain ⟨a0,bU,dH,eN,eO,eP,hE⟩:=dE.o;obtain ⟨rfl,rfl⟩:ga=a0/\gc=bU:=by simpa using dH
 rcases hE with h0|⟨yb,yo,rfl,cJ,hE⟩
 .rw [h0] at hk;simp at hk
 have bX:=(hE k y hy).below (L.o.mono E) cJ;obtain ⟨a1,aM,bM,eB,eC,eD,Z⟩:=bT.o;obtain ⟨rfl,rfl⟩:J=a1/\P=aM:=by simpa using bM
 have p1:=bX.2.1;have p2:=bX.2.2.1;have eK:=In k;have eL:(k:Int)<(c.funcs:Int):=ω;have eM:=θ ((k:Int)<0);clear dH bM hE Z r hy bX;by_cases G:(x.args:Int)=y.params;rotate_left
 .have o:=@Lh (AS c x fuel=3) (by
   have:=T.o;unfold AS;rw [if_neg ω,HI.o];simp only [Int.toNat_natCast,K.o];rw [if_neg ω,if_pos G])
  have cF:((x.args:Int) != y.params)=ϑ:=by simp [G]
  go_wp2_with fail;go_quiet (fail);obtain ⟨⟨cK,cL,cM,cN,cO,cP,cQ,cR,cS⟩,⟨cT,cU,cV,cW,cX,cY,cZ,dA,dB⟩,rz⟩:=(show Kz (z.drewN nq) _ from r1.o).look;have l:=Lh (AZ (R:=(w:Nat)+1+1) (fv0:=ν) (m0:=AI) (W:=z.drewN nq) r1.o ν AI);have S:=Lh ((AG L.o nq).trans (l.o.2.below (λb d=>by simp at d;omega) (AG L.o nq).size));go_wp2;exact ϖ (Bp rfl l.o.1 _ _ rfl rfl) rfl (.inl ⟨by rw [o.o];decide,by rw [o.o];rfl,S.o⟩)
 have cF:((x.args:Int) != y.params)=ϝ:=by simp [G]
 rw [<-G] at p1;have bQ:=Lh G;clear G;go_wp2_with fail;go_quiet (fail);have aL:=Lh (AG L.o nq);have eE:=Lh (bT.o.ints (aL.o.mono E));go_wp2_with fail;refine (BT 163 #[] (λn=>!Af n) x.args _ B _ L2 (Nt E aL.o.size) eE.o (Su _)).mono ?_;rintro e w2 ⟨rfl,Q⟩;have r2:=Lh ((show Kz (z.drewN nq) _ from r1.o).kp Q);have M:=Lh (aL.o.th Q);have dT:=Lh (bT.o.ints (M.o.mono E));cases t:x.args.any (λn=>!Af n) with
 | true=>
  have o:=@Lh (AS c x fuel=11) (by
   have:=T.o;unfold AS;rw [if_neg ω,HI.o];simp only [Int.toNat_natCast,K.o];rw [if_neg ω,if_neg (by simp [bQ.o]),if_pos t])
  clear Q t;obtain ⟨⟨cK,cL,cM,cN,cO,cP,cQ,cR,cS⟩,⟨cT,cU,cV,cW,cX,cY,cZ,dA,dB⟩,rz⟩:=r2.o.look;have l:=Lh (AZ (R:=(w:Nat)+1+1) (fv0:=ν) (m0:=AI) (W:=w2) r2.o ν AI);have S:=Lh ((M.o).trans (l.o.2.below (λb d=>by simp at d;omega) (M.o).size));go_wp2;exact ϖ (Bp rfl l.o.1 _ _ rfl rfl) rfl (.inl ⟨by rw [o.o];decide,by rw [o.o];rfl,S.o⟩)
 | false=>
  have o:=@Lh (AS c x fuel=0) (by
   have:=T.o;unfold AS;rw [if_neg ω,HI.o];simp only [Int.toNat_natCast,K.o];rw [if_neg ω,if_neg (by simp [bQ.o]),if_neg (by simp [t])])
  have F:=T.o;have dJ:=hs.fok K.o;unfold CX at dJ;have G:=bQ.o;obtain ⟨q,hq⟩:∃ q:Nat,y.L=x.args.length+q:=⟨(y.L - y.params).toNat,ω⟩
  have eA:=@Lh (CF c x fuel=⟨[⟨(k:Int),0,x.args++ϱ q 0,[]⟩],⟨0,0,0,0,0⟩,fuel,0,0⟩) (by
   unfold CF;rw [HI.o];simp only [Int.toNat_natCast,K.o,Option.map_some,Option.getD_some];rw [show (y.L - y.params).toNat=q by omega])
  have aI:=λn s=>by rw [List.any_eq_false] at t;have:=t n s;simp at this;exact Aq.1 this
  have aK:Hid (∀ n∈x.args++ϱ q 0,BP n):=Lh (λn s=>by
   rw [List.mem_append,List.mem_replicate] at s;rcases s with h|h
   .exact aI n h
   .rw [h.2];unfold BP;omega)
  have bD:Hid (Dr c ⟨[⟨(k:Int),0,x.args++ϱ q 0,[]⟩],⟨0,0,0,0,0⟩,fuel,0,0⟩ [] ⟨(k:Int),0,x.args++ϱ q 0,[]⟩):=Lh
   ⟨rfl,⟨y,⟨by show (0:Int)<=(k:Int);omega,by show c.funcs[(k:Int).toNat]?=ς y;rw [Int.toNat_natCast];exact K.o,by show (0:Int)<=0;omega,by show ((x.args++ϱ q 0).length:Int)=y.L;rw [List.length_append,List.length_replicate];omega,aK.o,ψ⟩,Reach.zero c y⟩,trivial,ψ,⟨F.1,by show (0:Int)<=0;omega,by show (0:Int)<=100000;omega,by show (0:Int)<=0;omega,by show (0:Int)+(fuel*100001+(100000 - 0))<=_;omega⟩⟩
  obtain ⟨n,s⟩:=ε (x.args.length+q:Nat);have HN:=Lh s;have eF:=@Lh (y.L=(n:Int)) ω;have eR:n<=100:=ω;clear s;clear t hq aI G F dJ;have dP:(z.drewN nq).cell? _=_:=I.2.2.1;have dQ:(z.drewN nq).cell? _=_:=I.2.2.2.2;have dR:(z.drewN nq).cell? _=_:=p2;have dN:(z.drewN nq).cell? _=_:=I.1;have dO:(z.drewN nq).cell? _=_:=I.2.1;obtain ⟨j0,j1,j2,j4,s2⟩:=Δ5 Q dN dO dP dQ dR;rw [eF.o] at s2;have eG:=Bl j2;have eH:=Bl j4;clear I p1 p2 dP dQ dR dN dO Q;have eQ:=λW=>FK W n ω;go_upto_region 11 with fail;obtain ⟨W3,bK⟩:=ε (w2.alloc (χ (Ad (ϱ n 0)) 3));obtain ⟨bl,N⟩:=ε (w2:Nat);have aN:=Lh (bl1 bK);have g3:=@Lh (W3.heap[bl]?=ς (χ ((ϱ n 0).map (Value.int .i64)).toArray 3 (0,0))) (by rw [bK,N];exact Hn _ _);have dM:=dT.o.ints ((aN.o.mono (Nt E M.o.size)));have cG:Hid (0<(x.args.map (Value.int .i64)).length->ς ((π bl 0):Addr)=ς (π bl 0)/\∃ ad,J=ς ad/\∀ j v,(x.args.map (Value.int .i64))[j]?=ς v->W3.cell? (ad.add j)=ς v):=Lh (λbG=>by
   obtain ⟨a1,aM,bM,_,_,_,Z⟩:=dM;obtain ⟨rfl,rfl⟩:J=a1/\P=aM:=by simpa using bM
   rcases Z with h0|⟨xb,xo,rfl,_,Z⟩
   .rw [h0] at bG;simp at bG
   .refine ⟨rfl,_,rfl,λj v O=>?_⟩
    rw [List.getElem?_map] at O;cases H:x.args[j]? with
    | none=>rw [H] at O;simp at O
    | some u=>
     rw [H] at O;simp at O;subst O;have:=(Z j u H).1;rw [Nat.mul_one] at this;rw [Qt];exact this)
  rw [<-bK,<- N];obtain ⟨j0,j1,j2,j4⟩:=Δ4 aN.o j0 j1 j2 j4;have eG:=Bl j2;have eH:=Bl j4;have aP:(w:Nat)<bl:=by rw [N];assumption
  have dY:(w:Nat)+1<bl:=by rw [N];assumption
  have bE:(x.args.map (Value.int .i64)).length=Nat.min x.args.length n:=by have:=HN.o;rw [List.length_map];exact (Nat.min_eq_left ω).symm
  have bA:0+(x.args.map (Value.int .i64)).length<=((ϱ n 0).map (Value.int .i64)).length:=by have:=HN.o;simp;omega
  have bF:∀ v∈x.args.map (Value.int .i64),v.oneCell'=ϑ:=λv t=>by rw [List.mem_map] at t;obtain ⟨_,_,rfl⟩:=t;rfl
  obtain ⟨bP,bO,bS,bN⟩:=Λ4 bE bA bF N;clear bK N dM bE bA bF;go_wp2_with (with_reducible refine wpList_copy_splice rfl (.tmp 50) (.tmp 52) 22 22 rfl 3 underlying22 Jh (ς (π bl 0)) J n n x.args.length P rfl rfl bl 0 ((ϱ n 0).map (Value.int .i64)) 3 g3.o (x.args.map (Value.int .i64)) bP.o cG.o bO.o bS.o bl W3 Br (Nr _) ?_;intro i cA X;have m0:=(X.cell (p:=(π w 0)) aP).trans j0;have a:=(X.cell (p:=(π w 1)) aP).trans j1;have m2:=(X.cell (p:=(π w 2)) aP).trans j2;have dC:=Lh X;have mz:=Bl m0;clear X);have aB:Hid (i.heap[bl]?=ς (χ (Ad (x.args++ϱ q 0)) 3 (0,0))):=by
   have h1:=cA.o;have h2:splice ((ϱ n 0).map (Value.int .i64)) 0 (x.args.map (Value.int .i64))=(x.args++ϱ q 0).map (Value.int .i64):=by unfold splice;rw [HN.o];simp
   rw [h2] at h1;exact Lh h1
  have bW:=Lh ((M.o.th aN.o).trans (dC.o.mono (by rw [bN.o];exact M.o.size)));obtain ⟨W5,V⟩:=ε ((i.alloc (χ #[ι (k:Int),ι 0,σ (ς (π bl 0)) n n,ν] 150)).alloc (χ #[σ (ς (π i 0)) 1 1,ι 0,ι 0,ι 0,ι 0,ι 0,ι fuel,ι 0,ι 0] 59));have aO:=Lh (bl2 V);have dL:(x.args++ϱ q 0).length=n:=by rw [List.length_append,List.length_replicate];exact HN.o.symm
  have aZ:=(La aB.o)
  have dU:Hid (Ak W5 (i+1) ⟨[⟨(k:Int),0,x.args++ϱ q 0,[]⟩],⟨0,0,0,0,0⟩,fuel,0,0⟩ [(i:Nat)+1,(i:Nat),bl]):=Lh (Sa (f:=⟨(k:Int),0,x.args++ϱ q 0,[]⟩) (by
    rw [V];have:=Hn (i.alloc (χ #[ι (k:Int),ι 0,σ (ς (π bl 0)) n n,ν] 150)) (χ #[σ (ς (π i 0)) 1 1,ι 0,ι 0,ι 0,ι 0,ι 0,ι fuel,ι 0,ι 0] 59);rw [show (i.alloc (χ #[ι (k:Int),ι 0,σ (ς (π bl 0)) n n,ν] 150)).heap.size=(i:Nat)+1 by simp] at this;exact this) (by
    show W5.heap[(i:Nat)]?=ς (χ #[ι (k:Int),ι 0,σ (ς (π bl 0)) (x.args++ϱ q 0).length (x.args++ϱ q 0).length,ν] 150 (0,0));rw [V,dL,Ha _ _ _ ψ];exact Hn _ _) (by rw [aO.o.block bl aZ];exact aB.o) (by show (x.args++ϱ q 0).length<=_;omega) (λn s=>(aK.o n s).in64) rfl ⟨by show (_:Int)<=(k:Int);omega,by show (k:Int)<=_;omega⟩ ⟨by show (_:Int)<=0;omega,by show (0:Int)<=_;omega⟩ rfl ω ω ω)
  have cD:∀ b∈[(i:Nat)+1,(i:Nat),bl],(w:Nat)<=b:=λb d=>by simp at d;omega
  have cE:=Lh (λb d=>Nt E (cD b d));have aD:=Lh (bW.o.th aO.o);have cB:=Lh (dE.o.funs (aD.o.mono E));have r5:=Lh (Kz.kp (w:=i) ((dC.o.block _ (by rw [bN.o];exact (La r2.o))).trans (r2.o.kp aN.o)) aO.o);have dV:(w:Nat)+1+1<bl:=by have hr:=(La r2.o);rw [bN.o];exact hr
  have bZ:(w:Nat)+1+1∉[(i:Nat)+1,(i:Nat),bl]:=λe=>by simp at e;omega
  rw [<-V];have dD:=Lh cD;clear V cD dL;refine (KW hs fC fa (ς (π yb yo)) fn fc gc g bD.o dU.o B cE.o cB.o).mono ?_;rintro e w6 ⟨rfl,a,F6,dG,dF,U⟩;obtain ⟨fv,F0,m,Y,bY,dZ⟩:=Ab.1 dF;obtain ⟨A,C,rfl⟩:=Y.form;obtain ⟨D,bB⟩:=ε a.J.length;rw [<-bB] at m Y;clear bB;have r6:=@Lh (Kz w6 (w+1+1)) ((U.block _ (La r5.o) bZ).trans r5.o);obtain ⟨⟨cK,cL,cM,cN,cO,cP,cQ,cR,cS⟩,⟨cT,cU,cV,cW,cX,cY,cZ,dA,dB⟩,rz⟩:=r6.o.look;have eT:=AD m 0 (σ A D C) rfl;have eU:=AD m 1 (ι a.Q.K) rfl;have eV:=AD m 2 (ι a.Q.O) rfl;have eW:=AD m 3 (ι a.Q.D) rfl;have eX:=AD m 4 (ι a.Q.V) rfl;have eY:=AD m 5 (ι a.Q.X) rfl;have eZ:=AD m 6 (ι a.Y) rfl;have fA:=AD m 7 (ι a.C) rfl;have fB:=AD m 8 (ι a.I) rfl;have l:=Lh (AZ (R:=(w:Nat)+1+1) (fv0:=ν) (m0:=AI) r6.o (σ A D C) a);have aW:=U.notin (La r5.o) bZ;have bC:=U.ge dD.o aD.o.size;have bV:=aD.o.trans (U.below dD.o aD.o.size);have bR:Hid (CE w (σ A D C) a (Ai w6 (w+1+1) (σ A D C) a)):=Lh ⟨F0,Y.kp (λb d=>l.o.2.block b (Y.lt b d) (λe=>aW (by rw [List.mem_singleton] at e;rw [bY];exact List.mem_cons_of_mem _ (e▸d)))),λb d=>bC b (by rw [bY];exact List.mem_cons_of_mem _ d),bV.trans (l.o.2.below (λb d=>by simp at d;omega) bV.size)⟩;have dS:=@Lh (Cf c (CF c x fuel) a) (by rw [eA.o];exact dG);clear m Y dF U dG bC bV aW bZ bY dZ;go_wp2_with fail;have bH:FC c x fuel w (.returned (.tuple #[AJ (σ A D C) a,ι 0])) (Ai w6 (w+1+1) (σ A D C) a):=.inr ⟨o.o,a,(σ A D C),dS.o,rfl,bR.o⟩;exact ϖ (v:=.tuple #[AJ (σ A D C) a,ι 0]) (Bp (p:=6) (u:=7) rfl l.o.1 _ _ rfl rfl) rfl bH
def Kw (c:AQ) (x:Bi) (fuel:Int) (w:Ϣ) (e:Ending) (w':Ϣ):Prop:=
 (¬AU c/\e=.returned (.tuple #[AJ ν AI,ι 1])/\ϐ w w w')\/(AU c/\FC c x fuel w e w')
def ME (c:AQ) (x:Bi) (fuel:Int) (S xv:ϒ) (B:Nat) (w:Ϣ) (Z:C8 w) (r:B<=w) (hc:BF B w S c) (hx:Gh B w xv x) (H:Bv c) :
  ϙ prog 105 #[S,xv,ι fuel] w (Kw c x fuel w):=by
 have A:=Lh hc;have HX:=Lh hx;obtain ⟨fv,gv,rfl,hf,hg,aK⟩:=hc;obtain ⟨T,U,rfl⟩:=hf.form;obtain ⟨X,Y,rfl⟩:=hg.form;obtain ⟨av,rfl,O,bP⟩:=hx;obtain ⟨xa,xc,rfl⟩:=O.form;obtain ⟨V,L⟩:=ε c.H.length;obtain ⟨g,N⟩:=ε c.G;rw [<-L,<- N] at A ⊢;clear hf hg O L N aK;obtain ⟨W,G⟩:=ε (((w.alloc (χ #[σ T V U,ι g,σ X c.funcs Y] 25)).alloc (χ #[.string x.proc,σ xa x.args xc] 64)).alloc (χ #[ν,ι 0,ι 0,ι 0,ι 0,ι 0,ι 0,ι 0,ι 0] 59));obtain ⟨m,C,P,Q,D⟩:=Xz w [σ T V U,ι g,σ X c.funcs Y] [.string x.proc,σ xa x.args xc] 25 64 G;have m:=Lh m;have C:=Lh C;have D:=Lh D;have aV:=Lh (A.o.below (m.o.mono r));have HL:=Lh (Z.below m.o);have aU:B<=W:=by have:=C.o;omega
 clear Z;go_enter func105,ntmps105;go_upto_region 1 with fail;rw [<-G];clear G;obtain ⟨i0,i1,i2⟩:=Γ3 P;obtain ⟨i3,i4⟩:=Γ2 Q;clear P Q;go_wp2_with fail;refine (Hc c _ B W HL.o aU aV.o).mono ?_;rintro e y ⟨rfl,q⟩;have i0:=Δ5 q i0 i1 i2 i3 i4;have t:=Lh (D.o.kp q);have a:=Lh (m.o.th q);clear q;by_cases o:AU c
 .have aJ:=Lh (A.o.below (a.o.mono r))
  have aM:=Lh (HX.o.below (a.o.mono r));rw [CZ o];go_wp2_with fail;refine (Rp c x fuel _ _ B y (Nt r a.o.size) aJ.o aM.o o H).mono ?_;rintro e J hP;have bO:=(La t.o)
  obtain ⟨f,k,h,d,n,rfl,K,aT⟩:∃ f k h d n,e=.returned (.tuple #[AJ (σ f k h) d,ι n])/\ϐ y y J/\Hid (∀ z,AW [(w:Nat)+1+1] [(w:Nat)+1+1] J z->FC c x fuel w (.returned (.tuple #[AJ (σ f k h) d,ι n])) z):=by
   rcases hP with ⟨E,rfl,i⟩|⟨E,d,fv,hR,rfl,F,I,M,i⟩
   .refine ⟨none,0,0,AI,_,rfl,i,Lh λz s=>.inl ⟨E,rfl,(a.o.th i).trans (s.below (λb j=>by simp at j;omega) (a.o.th i).size)⟩⟩
   .obtain ⟨f,h,rfl⟩:=I.form
    refine ⟨f,_,h,d,0,rfl,i,Lh λz s=>.inr ⟨E,d,_,hR,rfl,F,I.kp (λb j=>s.block b (I.lt b j) (λe=>?_)),λb j=>Nt a.o.size (M b j),(a.o.th i).trans (s.below (λb j=>by simp at j;omega) (a.o.th i).size)⟩⟩;have:=M b j;rw [List.mem_singleton] at e;omega
  have r2:=Lh (t.o.kp K);obtain ⟨⟨aW,aX,aY,aZ,bA,bB,bC,bD,bE⟩,⟨bF,bG,bH,bI,bJ,bK,bL,bM,bN⟩,rz⟩:=r2.o.look;have l:=Lh (AZ (R:=(w:Nat)+1+1) (fv0:=ν) (m0:=AI) r2.o (σ f k h) d);clear K hP;unfold AJ AC;go_wp2_with fail;have aI:Kw c x fuel w (.returned (.tuple #[AJ (σ f k h) d,ι n])) (Ai J (w+1+1) (σ f k h) d):=.inr ⟨o,aT.o _ l.o.2⟩;exact ϖ (v:=.tuple #[AJ (σ f k h) d,ι n]) (Bp (p:=6) (u:=7) rfl l.o.1 _ _ rfl rfl) rfl aI
 .rw [FA o]
  obtain ⟨⟨aW,aX,aY,aZ,bA,bB,bC,bD,bE⟩,⟨bF,bG,bH,bI,bJ,bK,bL,bM,bN⟩,rz⟩:=t.o.look;have l:=Lh (AZ (R:=(w:Nat)+1+1) (fv0:=ν) (m0:=AI) t.o ν AI);have aS:=@Lh (ϐ w w (Ai y (w+1+1) ν AI)) (a.o.trans (l.o.2.below (λb i=>by simp at i;omega) a.o.size));go_wp2;exact ϖ (Bp rfl l.o.1 _ _ rfl rfl) rfl (.inl ⟨o,rfl,aS.o⟩)
