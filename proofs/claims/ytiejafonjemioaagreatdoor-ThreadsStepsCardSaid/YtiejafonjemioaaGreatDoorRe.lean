import Derived.Test.YtiejafonjemioaaGreatDoorPst3
import Derived.Outline
set_option maxHeartbeats 1000000
set_option maxRecDepth 100000
set_option linter.all false
open Go renaming World→Ϣ,Value→ϒ,Calls→ϙ,bodyPost_ret→ϖ
open Option renaming some→ς
open Bool renaming false→ϝ,true→ϑ
open List renaming mem_cons→ϰ
open Go.Value renaming slice→σ
open Go.Obj renaming cells→χ
namespace Go.Proofs.YtiejafonjemioaaGreatDoor
open Go.RowKit Proofs.Tryz
variable {a b n:Int} {w w':Ϣ} {bm fb cap:Nat} {cur:Array ϒ} {cs:List ϒ} {fs:List AY} {f:AY} {lv sv:ϒ} {m:AV} {Fi Fl Fs F:List Nat}
def Ba (n:Int) (w:Ϣ):ϙ prog 125 #[ι n] w λe w'=>e=.returned (.bool (Af n))/\w=w':=by
 go_enter func125,ntmps125;go_wp2;all_goals (go_ret;exact ⟨by unfold Af;congr 2;simp;omega,rfl⟩)
def Eo (b:Bool) (w:Ϣ):ϙ prog 205 #[.bool b] w λe w'=>e=.returned (ι (D0 b))/\w=w':=by
 cases b;all_goals
  go_enter func205,ntmps205;go_wp2;go_ret;exact ⟨rfl,rfl⟩
def Lf (a:Int) (w:Ϣ):ϙ prog 201 #[ι a] w λe w'=>e=.returned (.bool (decide (BB a)))/\w=w':=by
 go_enter func201,ntmps201;go_wp2;all_goals (go_ret;exact ⟨Ca (by rw [Bool.eq_iff_iff];simp only [Bool.or_eq_true,Bool.and_eq_true,decide_eq_true_eq,beq_iff_eq,eq_self,true_iff];unfold BB;omega),rfl⟩)
def L8 (a:Int) (w:Ϣ):ϙ prog 206 #[ι a] w λe w'=>e=.returned (.bool (decide (20<=a/\a<=23)))/\w=w':=by
 go_enter func206,ntmps206;go_wp2;all_goals (go_ret;exact ⟨Ca (by simp;try omega),rfl⟩)
def E0 (op:Int):Bool:=decide (4<=op/\op<=8)
def Ea (a:Int) (w:Ϣ):ϙ prog 165 #[ι a] w λe w'=>e=.returned (.bool (E0 a))/\w=w':=by
 go_enter func165,ntmps165;go_wp2;all_goals (go_ret;exact ⟨Ca (by rw [Bool.eq_iff_iff];unfold E0;simp only [Bool.or_eq_true,Bool.and_eq_true,decide_eq_true_eq,beq_iff_eq,eq_self,true_iff];omega),rfl⟩)
def Fj (a b:Int):Int:=if a.natAbs*b.natAbs<=1099511627776 then a*b else 1099511627777
def J4 (c:1<=b.natAbs):((1099511627776 / b.natAbs<a.natAbs)↔¬a.natAbs*b.natAbs<=1099511627776):=by
 rw [Nat.div_lt_iff_lt_mul ω];omega
def RM (b:Int):(1099511627776:Int) / max b (-b)=((1099511627776 / b.natAbs:Nat):Int):=by
 rw [GZ,Int.natCast_ediv];rfl
def V7 (c:1<=b.natAbs) (h:1099511627776 / max b (-b)<max a (-a)):Fj a b=1099511627777:=by
 rw [RM,GZ] at h;unfold Fj;rw [if_neg ((J4 c).1 ω)]
def WB (d:1<=b.natAbs) (h:max a (-a)<=1099511627776 / max b (-b)):Fj a b=a*b/\-9223372036854775808<=a*b/\a*b<=9223372036854775807:=by
 rw [RM,GZ] at h;have c:a.natAbs*b.natAbs<=1099511627776:=by apply Decidable.byContradiction;intro e;have:=(J4 d).2 e;omega
 have f:=Int.natAbs_mul a b;exact ⟨by unfold Fj;rw [if_pos c],ω,ω⟩
def NY (a b:Int) (j:-1099511627776<=a/\a<=1099511627776) (k:-1099511627776<=b/\b<=1099511627776) (w:Ϣ):ϙ prog 218 #[ι a,ι b] w λe w'=>e=.returned (ι (Fj a b))/\w=w':=by
 by_cases c:a=0
 .have hf:=@Lh (Fj a b=0) (by unfold Fj;rw [c];simp)
  have g:=ζ a 0 c;clear c;go_enter func218,ntmps218;go_wp2;go_ret;exact ⟨by rw [hf.o];rfl,rfl⟩
 have g:=ξ a 0 c;by_cases d:b=0
 .have hf:=@Lh (Fj a b=0) (by unfold Fj;rw [d];simp)
  have h:=ζ b 0 d;clear d c;go_enter func218,ntmps218;go_wp2;go_ret;exact ⟨by rw [hf.o];rfl,rfl⟩
 have h:=ξ b 0 d;have f:1<=max b (0 - b):=ω;have i:max b (0 - b)<=1099511627776:=ω;clear c d;go_enter func218,ntmps218;go_wp2_with fail
 .have hf:=V7 (a:=a) (b:=b) (by have:=f;omega) (by assumption)
  go_ret;exact ⟨by rw [hf];rfl,rfl⟩
 .obtain ⟨hf,h1,h2⟩:=WB (a:=a) (b:=b) (by have:=f;omega) (by assumption)
  go_ret;exact ⟨by rw [hf];exact E8 (IntWalk.wrap64_in _ ⟨h1,h2⟩),rfl⟩
def UV {i w5:Ϣ} (H:AN w bm fb cap cur cs fs f lv sv m Fi Fl Fs) (a:Below w w i) {o:Obj} {d c:Nat} (r:in64 n)
  (B:w5.ownsRow 0 3 1 (σ (ς (π d 0)) (f.S.length+1) c) (f.S.length+1) (f.S.map (Value.int .i64)++[ι n])) (C:((i.alloc o).drew).grownBy w5 sv.ownBlock) (hl:sv.ownBlock=ς d\/d=((i.alloc o).drew).heap.size) :
  Bn w bm fb cap cs fs { f with S:=f.S++[n] } lv m Fi Fl (bm::fb::(Fi++(Fl++Fs))) (w5.setCell (π fb (fs.length*4+3)) (σ (ς (π d 0)) (f.S.length+1) c)):=by
 have s:=H.stk.2.1;have j:Below w w ((i.alloc o).drew):=a.trans ((Br.alloc a.size _).trans (AG Br 1));have q:=H.lt;have t:AW Fs [d] ((i.alloc o).drew) w5:=by rw [s];have:=Ga (v:=sv) (v':=σ (ς (π d 0)) (f.S.length+1) c) (g:=d) C rfl (by rcases hl with h|h;exact .inl h;right;omega);simpa [Value.ownBlock] using this
 have l:∀ b∈bm::fb::(Fi++Fl),w5.heap[b]?=w.heap[b]?:=λb p=>by
  have u:b∈bm::fb::(Fi++(Fl++Fs)):=by simp at p ⊢;rcases p with a|a|a|a<;>simp [a]
  have z:b∉Fs:=λe=>by
   have A:bm::fb::(Fi++(Fl++Fs))=(bm::fb::(Fi++Fl))++Fs:=by simp
   have:=H.nodup;rw [A,List.nodup_append] at this;exact this.2.2 b p b e rfl
  rw [t.block b (Nl (q b u) j.size) z,j.block b (q b u)]
 have y:Be w5 (σ (ς (π d 0)) (f.S.length+1) c) (f.S++[n]) [d]:=⟨by simpa using B,rfl,λx k=>by
  simp at k;rcases k with k|rfl
  .exact H.stk.2.2 x k
  .exact r⟩
 refine Nc H (l bm ψ) (l fb ψ) (λb a=>l b (by simp at a ⊢;rcases a with a|a<;>simp [a])) y (LV H.nodup q ⟨d,rfl,?_⟩) ((AW.ob j).trans (t.wide (λb a=>by simp [a]) (λb a=>?_)))
 .rcases hl with h|h
  .left;rw [s,h];rfl
  .right;have:=j.size;omega
 .simp only [ϰ,List.mem_append,List.not_mem_nil,or_false] at a ⊢
  rcases a with a|a|a|a|a<;>simp [a]
def DP (m':AV) (h:AN w bm fb cap cur cs fs f lv sv m Fi Fl Fs) (U:fs.length<=200) (n:Int) (g:in64 n) (G:f.S.length<1000000) :
  ϙ prog 172 #[AJ (σ (ς (π fb 0)) (fs.length+1) cap) m',ι n] w λe w'=>e=.returned (.tuple #[])/\Bn w bm fb cap cs fs { f with S:=f.S++[n] } lv m Fi Fl (bm::fb::(Fi++(Fl++Fs))) w':=by
 have H:=Lh h;have j:=h.stk.2.1;have q:=h.ne;have p:=h.lt;have P:=h.lt fb ψ;have o:¬ς fb=sv.ownBlock:=λe=>(q.2 fb (by rw [j,<- e];simp)).2 rfl;have u:¬ς (w:Nat)=sv.ownBlock:=λe=>by have:=p (w:Nat) (by rw [j,<- e];simp);omega
 obtain ⟨J,A,B,C,D⟩:=info_parts Cx;obtain ⟨b,c⟩:=ε (w.alloc (χ (AC (σ (ς (π fb 0)) (fs.length+1) cap) m') 51));have k:=bl1 c;have R:(w:Nat)<b:=by rw [c];simp
 have I:b.cell? (π w 0)=ς (σ (ς (π fb 0)) (fs.length+1) cap):=by rw [c];exact AF 0 _ rfl
 have i:=h.kp k;have E:=i.cSv;have F:=i.frf (fs.length*4+3);have v:fb<b:=ω;have x:=Lh i.stk.1;have r:=Lh k;have y:=Lh g;have Q:(fs:Int)<(fs:Int)+1:=ω;clear h i k g q p j;unfold AJ;unfold AC at c ⊢;go_enter func172,ntmps172;go_upto_region 1 with fail;rw [<-c];clear c;go_upto_region 2 with fail
 go_region_law (refine step_append_lies _ rfl (.tmp 17) (.tmp 19) 22 rfl 0 3 J (ι 0) 1 8 underlying22 A B C D rfl δ sv f.S.length (f.S.map (Value.int .i64)) rfl ((x.o.alloc _).drew) (π b 0) 1 1 [ι n] rfl rfl (Mw b _ _) (by simp [Value.oneCell']) ω (by unfold maxLen;omega) ω (Nat.zero_le _) _ rfl ?_;intro T M K l d t L;have s:=Lh l;have z:=Lh d;have S:=(World.grownBy.cell d (show ((b.alloc (χ #[ι n] 3)).drew).cell? (π w 0)=_ from AB (AA _ _) I) u);have N:=(World.grownBy.cell d (show ((b.alloc (χ #[ι n] 3)).drew).cell? (π fb (fs.length*4+3))=_ from AB (AA _ _) E) o);have O:K.frozen? (π fb (fs.length*4+3))=ϝ:=(by rw [World.frozen?_of_block (w:=b) (a:=(π fb (fs.length*4+3))) (by rw [d.block fb φ o];exact Ha _ _ _ v)];exact F);clear l d)
 all_goals go_end0
 all_goals exact ⟨rfl,UV H.o r.o y.o s.o z.o t⟩
def BZ (m':AV) (h:AN w bm fb cap cur cs fs f lv sv m Fi Fl Fs) (J:fs.length<=200) (l:List Int) (n:Int) (g:f.S=l++[n]) :
  ϙ prog 203 #[AJ (σ (ς (π fb 0)) (fs.length+1) cap) m'] w λe w'=>e=.returned (ι n)/\Bn w bm fb cap cs fs { f with S:=l } lv m Fi Fl (bm::fb::(Fi++(Fl++Fs))) w':=by
 have j:=h.stk;rw [g] at j;obtain ⟨u,x,y,rfl,rfl,t,B,C,p,q,v⟩:=j.last;have H:=Lh h;have o:=Lh q;have r:=h.ne;have D:=(r.2 u ψ).2;obtain ⟨i,c⟩:=ε (w.alloc (χ (AC (σ (ς (π fb 0)) (fs.length+1) cap) m') 51));have a:=bl1 c;have z:=h.lt fb ψ;have E:(w:Nat)<i:=by rw [c];simp
 have K:i.cell? (π w 0)=ς (σ (ς (π fb 0)) (fs.length+1) cap):=by rw [c];exact AF 0 _ rfl
 have k:=h.kp a;have F:=k.cSv;have I:=k.frf (fs.length*4+3);have G:=AB a p;have s:=Lh a;have A:(fs:Int)<(fs:Int)+1:=ω;clear h k a r g j q p t;unfold AJ;unfold AC at c ⊢;go_enter func203,ntmps203;go_upto_region 1 with fail;rw [<-c];clear c;go_upto_region 3 with fail
 go_region
 go_wp2;go_ret;have d:Below w w (i.drew):=AG s.o _;refine ⟨rfl,Nc H.o (d.block bm (H.o.lt bm ψ)) (d.block fb (H.o.lt fb ψ)) (λb a=>d.block b (H.o.lt b (by simp at a ⊢;rcases a with a|a<;>simp [a]))) (o.o.kp (λb a=>d.block b (o.o.lt b a))) H.o.nodup (AW.ob d)⟩
def DK (w:Ϣ) (F:List Nat) (m':AV) (e:Ending) (w':Ϣ):Prop:=∃ fv F',e=.returned (AJ fv m')/\Cv w' fv m'.J F'/\AW F F' w w'
def Cv.top {fv:ϒ} (h:Cv w fv m.J F) (r:m.J=fs++[f]) :
  ∃ fb cap j cs lv sv Fi Fl Fs,fv=σ (ς (π fb 0)) (fs.length+1) cap/\F=fb::(Fi++(Fl++Fs))/\∀ (W:Ϣ) (bm:Nat) (l:AV),Below w w W->W.heap[bm]?=ς (χ (AC (σ (ς (π fb 0)) (fs.length+1) cap) l) 51 (0,0))->(w:Nat)<=bm->AN W bm fb cap j cs fs f lv sv l Fi Fl Fs:=by
 have q:=Ab.2 ⟨fv,F,Hn _ _,h.kp (λb d=>Ha _ _ _ (h.lt b d)),rfl,λe=>by have:=h.lt _ e;omega⟩;obtain ⟨fb,cap,j,cs,lv,sv,Fi,Fl,Fs,c,hF⟩:=q.top r;have p:fv=σ (ς (π fb 0)) (fs.length+1) cap:=by have g:=c.mach;rw [Hn] at g;simp only [Option.some.injEq,Obj.cells.injEq,AC] at g;have:=congrArg (λa=>a[0]?) g.1;simpa using this
 have k:F=fb::(Fi++(Fl++Fs)):=by simpa using hF
 refine ⟨fb,cap,j,cs,lv,sv,Fi,Fl,Fs,p,k,λW bm l d o s=>?_⟩;have i:∀ b∈F,W.heap[b]?=(w.alloc (χ (AC fv m) 51)).heap[b]?:=λb n=>by rw [d.block b (h.lt b n),Ha _ _ _ (h.lt b n)]
 rw [k] at i;refine ⟨o,by rw [i fb ψ];exact c.row,c.capl,c.capm,c.csize,c.take,c.init.kp (λb d=>i b (by simp [d])),c.loc.kp (λb d=>i b (by simp [d])),c.stk.kp (λb d=>i b (by simp [d])),c.fn,c.pc,?_⟩;have g:=c.nodup;rw [List.nodup_cons] at g ⊢;refine ⟨λe=>?_,g.2⟩;have:=h.lt bm (by rw [k];exact e);omega
def Cq {F':List Nat} (h:AW F F' w w') {b:Nat} (c:b<w) (hF:b∉F):b∉F':=λe=>by
 rcases h.new b e with a|a
 .exact hF a
 .omega
def Ep {W i:Ϣ} {f':AY} {m1:AV} {R:Nat} (c:Below w w W)
  (q:AN i w fb cap cur cs fs f' lv sv m1 Fi Fl Fs) (d:AW ((w:Nat)::F) ((w:Nat)::fb::(Fi++(Fl++Fs))) W i) (hF:∀ b∈F,b<(w:Nat)) (B:(w:Nat)<R) (j:R<W)
  (v:W.heap[R]?=ς (χ (AC ν AI) 51 (0,0))) :
  i.heap[R]?=ς (χ (AC ν AI) 51 (0,0))/\(Ai i R (σ (ς (π fb 0)) (fs.length+1) cap) m1).heap[R]?=ς (χ (AC (σ (ς (π fb 0)) (fs.length+1) cap) m1) 51 (0,0))/\
  DK w F { m1 with J:=fs++[f'] } (.returned (AJ (σ (ς (π fb 0)) (fs.length+1) cap) m1)) (Ai i R (σ (ς (π fb 0)) (fs.length+1) cap) m1):=by
 have p:R∉(w:Nat)::F:=λe=>by
  rw [ϰ] at e;rcases e with e|e
  .omega
  .have:=hF _ e;omega
 have s:=Cq d j p;have f:i.heap[R]?=ς (χ (AC ν AI) 51 (0,0)):=by rw [d.block R j p];exact v
 obtain ⟨y,g⟩:=AZ f (σ (ς (π fb 0)) (fs.length+1) cap) m1;obtain ⟨x,n,z,r,A,C⟩:=Ab.1 ((q.reframe (fs++[f'])).own rfl);have t:x=σ (ς (π fb 0)) (fs.length+1) cap:=by have f:=q.mach;rw [z] at f;simp only [Option.some.injEq,Obj.cells.injEq,AC] at f;have:=congrArg (λa=>a[0]?) f.1;simpa using this
 subst t;have o:n=fb::(Fi++(Fl++Fs)):=by simpa using A.symm
 refine ⟨f,y,_,n,rfl,r.kp (λb l=>g.block b (r.lt b l) (λe=>?_)),?_⟩
 .rw [List.mem_singleton] at e
  exact s (by rw [<-e,<- o];exact List.mem_cons_of_mem _ l)
 .refine ⟨g.os.trans (d.os.trans c.os),g.tape.trans (d.tape.trans c.tape),g.output.trans (d.output.trans c.output),Nt c.size (Nt d.size g.size),λk m u=>?_,λb l=>?_⟩
  .rw [g.block k (Nl m (Nt c.size d.size)) φ,d.block k (Nl m c.size) (λe=>by rw [ϰ] at e;rcases e with e|e;omega;exact u e),c.block k m]
  .rcases d.new b (List.mem_cons_of_mem _ (by rw [<-o];exact l)) with h|h
   .rw [ϰ] at h
    rcases h with h|h
    .right;omega
    .exact .inl h
   .right;exact Nt c.size h
def Ib (a:Option Addr) (n c:Nat) (m:AV) (r:Rq) (w:Ϣ) :
  ϙ prog 197 #[AJ (σ a n c) m,XZ r] w λe w'=>e=.returned (AJ ν { m with Q:=r,J:=[] })/\Below w w w':=by
 obtain ⟨W,d⟩:=ε (((w.alloc (χ (AC (σ a n c) m) 51)).alloc (χ #[ι r.K,ι r.O,ι r.D,ι r.V,ι r.X] 49)).alloc (χ (AC ν AI) 51));have q:=Lh (bl3 d);have G:=Lh (sz3 d);have l:=ro31 d;have g:=Lh (ce32 d);have y:=ro33 d;obtain ⟨B,k⟩:=ε (W.setCell (π w 0) ν);have h:=heap_setCell_same _ (w:Nat) 0 _ _ ν l;rw [CY,<- k] at h;obtain ⟨H,s⟩:=ε (BO B w r);obtain ⟨t,o⟩:=EP h r;rw [<-s] at t o;have f:AW [(w:Nat)] [(w:Nat)] W B:=by rw [k];exact BX
 have j:=f.trans o;have i:H.heap[(w:Nat)+1+1]?=ς (χ (AC ν AI) 51 (0,0)):=by rw [j.block _ (by have:=G.o;omega) φ];exact y
 obtain ⟨z,A⟩:=AZ i ν { m with Q:=r,J:=[] };have D:=Lh ((q.o.trans (j.below (λb x=>by simp at x;omega) q.o.size)).trans (A.below (λb x=>by simp at x;omega) (by have M:=q.o.size;have N:=j.size;omega)));have C:=Lh z;have I:=AO l;have K:=AX l;have J:=AO h;have L:=AX h;have T:=AO t;have V:=AO i;have U:=AX i;have O:=f.cell (g.o 0 _ rfl) ψ;have P:=f.cell (g.o 1 _ rfl) ψ;have Q:=f.cell (g.o 2 _ rfl) ψ;have R:=f.cell (g.o 3 _ rfl) ψ;have S:=f.cell (g.o 4 _ rfl) ψ;have E:=Lh k;have F:=Lh s;clear l y h t i f o j z A k s;unfold AJ XZ;unfold AC AI at d;unfold AC;dsimp only at d ⊢;go_enter func197,ntmps197;go_upto_region 1 with fail;rw [<-d];clear d;go_upto_region 2 with fail;rw [<-E.o];go_upto_region 3 with fail;have u:=F.o.symm;unfold BO at u;rw [u];clear u;go_wp2;exact ϖ (v:=AJ ν { m with Q:=r,J:=[] }) (AL (p:=4) rfl C.o _ rfl) rfl ⟨rfl,D.o⟩
def DX (a:Option Addr) (n c:Nat) (m:AV) (f:Int) (w:Ϣ) :
  ϙ prog 171 #[AJ (σ a n c) m,ι f] w λe w'=>e=.returned (AJ ν { m with Q:=Ah f,J:=[] })/\Below w w w':=by
 obtain ⟨W,d⟩:=ε ((w.alloc (χ (AC (σ a n c) m) 51)).alloc (χ (AC ν AI) 51));have i:=Lh (bl2 d);have t:=Lh (sz2 d);have j:=ro21 d;have k:=ro22 d;have x:=AO j;have s:=Lh k;clear j k;unfold AJ;unfold AC AI at d;unfold AC;dsimp only at d ⊢;go_enter func171,ntmps171;go_upto_region 1 with fail;rw [<-d];clear d;go_wp2_with fail;refine (Ib a n c m (Ah f) _).mono ?_;rintro e y ⟨rfl,h⟩;have g:y.heap[(w:Nat)+1]?=ς (χ (AC ν AI) 51 (0,0)):=by rw [h.block _ (by have:=t.o;omega)];exact s.o
 obtain ⟨l,o⟩:=AZ g ν { m with Q:=Ah f,J:=[] };have r:=Lh ((i.o.th h).trans (o.below (λb u=>by simp at u;omega) (i.o.th h).size));have q:=Lh l;have A:=AO g;have z:=AX g;clear g l o h x;unfold AJ AC;go_wp2;exact ϖ (v:=AJ ν { m with Q:=Ah f,J:=[] }) (AL (p:=4) rfl q.o _ rfl) rfl ⟨rfl,r.o⟩
def Bo (op a b:Int):Int:=if BG op a b=0 then Du op a b else 0
def EH (op a b:Int) (w:Ϣ) (e:Ending) (w':Ϣ):Prop:=e=.returned (.tuple #[ι (Bo op a b),ι (BG op a b)])/\w=w'
def D9 (b:Bool):Af (D0 b)=ϑ:=by cases b<;>rfl
def Ub (a b:Int) (d:BP a) (f:BP b) (w:Ϣ):ϙ prog 204 #[ι 15,ι a,ι b] w (EH 15 a b w):=by
 unfold BP at d f;go_enter func204,ntmps204;go_wp2_with fail;refine (Ba (a+b) _).mono ?_;rintro e g ⟨rfl,rfl⟩;cases c:Af (a+b)
 .have hf:=@Lh (Bo 15 a b=0/\BG 15 a b=5) (by simp [Bo,BG,c])
  clear c;go_wp2_with fail
  go_ret2
  exact ⟨by rw [hf.o.1,hf.o.2];rfl,rfl⟩
 .have hf:=@Lh (Bo 15 a b=a+b/\BG 15 a b=0) (by simp [Bo,BG,Du,c])
  clear c;go_wp2_with fail
  go_ret2
  exact ⟨by rw [hf.o.1,hf.o.2];rfl,rfl⟩
def Uc (a b:Int) (d:BP a) (f:BP b) (w:Ϣ):ϙ prog 204 #[ι 16,ι a,ι b] w (EH 16 a b w):=by
 unfold BP at d f;go_enter func204,ntmps204;go_wp2_with fail;refine (Ba (a - b) _).mono ?_;rintro e g ⟨rfl,rfl⟩;cases c:Af (a - b)
 .have hf:=@Lh (Bo 16 a b=0/\BG 16 a b=5) (by simp [Bo,BG,c])
  clear c;go_wp2_with fail
  go_ret2
  exact ⟨by rw [hf.o.1,hf.o.2];rfl,rfl⟩
 .have hf:=@Lh (Bo 16 a b=a - b/\BG 16 a b=0) (by simp [Bo,BG,Du,c])
  clear c;go_wp2_with fail
  go_ret2
  exact ⟨by rw [hf.o.1,hf.o.2];rfl,rfl⟩
def Ud (a b:Int) (h:BP a) (i:BP b) (w:Ϣ):ϙ prog 204 #[ι 17,ι a,ι b] w (EH 17 a b w):=by
 unfold BP at h i;go_enter func204,ntmps204;go_wp2_with fail;refine (NY a b h i _).mono ?_;rintro e j ⟨rfl,rfl⟩;go_wp2_with fail;refine (Ba (Fj a b) _).mono ?_;rintro e j ⟨rfl,rfl⟩;by_cases c:a.natAbs*b.natAbs<=1099511627776
 .have h2:=Int.natAbs_mul a b
  have g:Af (a*b)=ϑ:=Aq.2 (by unfold BP;omega);have f:Fj a b=a*b:=by unfold Fj;rw [if_pos c]
  have d:=@Lh (Bo 17 a b=a*b/\BG 17 a b=0) (by simp [Bo,BG,Du,c]);rw [f,g];clear g f h2 c;go_wp2_with fail
  go_ret2
  exact ⟨by rw [d.o.1,d.o.2];rfl,rfl⟩
 .have g:Af (1099511627777)=ϝ:=rfl
  have f:Fj a b=1099511627777:=by unfold Fj;rw [if_neg c]
  have d:=@Lh (Bo 17 a b=0/\BG 17 a b=5) (by simp [Bo,BG,c]);rw [f,g];clear g f c;go_wp2_with fail
  go_ret2
  exact ⟨by rw [d.o.1,d.o.2];rfl,rfl⟩
def Ue (a b:Int) (f:BP a) (g:BP b) (w:Ϣ):ϙ prog 204 #[ι 18,ι a,ι b] w (EH 18 a b w):=by
 unfold BP at f g;by_cases c:b=0
 .have aA:(b == 0)=ϑ:=by rw [c];rfl
  have d:=@Lh (Bo 18 a b=0/\BG 18 a b=18) (by simp [Bo,BG,c]);clear c;go_enter func204,ntmps204;go_wp2_with fail
  go_ret2
  exact ⟨by rw [d.o.1,d.o.2];rfl,rfl⟩
 .have aA:=beq_eq_false_iff_ne.2 c
  have d:=@Lh (Bo 18 a b=a.tdiv b/\BG 18 a b=0) (by simp [Bo,BG,Du,c]);have h:=YJ a b f g c;have i:(a.tdiv b).natAbs<=a.natAbs:=by rw [Int.natAbs_tdiv];exact Nat.div_le_self _ _
  have j:=@Lh (Af (a.tdiv b)=ϑ) (Aq.2 (by unfold BP;omega));clear i;go_enter func204,ntmps204;go_wp2_with fail;try rw [h.1]
  try rw [h.2]
  refine (Ba (a.tdiv b) _).mono ?_;rintro e k ⟨rfl,rfl⟩;rw [j.o];go_wp2_with fail
  go_ret2
  exact ⟨by rw [d.o.1,d.o.2];rfl,rfl⟩
def Uf (a b:Int) (f:BP a) (g:BP b) (w:Ϣ):ϙ prog 204 #[ι 19,ι a,ι b] w (EH 19 a b w):=by
 unfold BP at f g;by_cases c:b=0
 .have aA:(b == 0)=ϑ:=by rw [c];rfl
  have d:=@Lh (Bo 19 a b=0/\BG 19 a b=18) (by simp [Bo,BG,c]);clear c;go_enter func204,ntmps204;go_wp2_with fail
  go_ret2
  exact ⟨by rw [d.o.1,d.o.2];rfl,rfl⟩
 .have aA:=beq_eq_false_iff_ne.2 c
  have d:=@Lh (Bo 19 a b=a.tmod b/\BG 19 a b=0) (by simp [Bo,BG,Du,c]);have h:=YJ a b f g c;have i:(a.tmod b).natAbs<=a.natAbs:=by rw [Int.natAbs_tmod];exact Nat.mod_le _ _
  have j:=@Lh (Af (a.tmod b)=ϑ) (Aq.2 (by unfold BP;omega));clear i;go_enter func204,ntmps204;go_wp2_with fail;try rw [h.1]
  try rw [h.2]
  refine (Ba (a.tmod b) _).mono ?_;rintro e k ⟨rfl,rfl⟩;rw [j.o];go_wp2_with fail
  go_ret2
  exact ⟨by rw [d.o.1,d.o.2];rfl,rfl⟩
def Ug (a b:Int) (d:BP a) (f:BP b) (w:Ϣ):ϙ prog 204 #[ι 20,ι a,ι b] w (EH 20 a b w):=by
 unfold BP at d f;have c:=@Lh (Bo 20 a b=D0 (a == b)/\BG 20 a b=0) (by simp [Bo,BG,Du]);have g:=@Lh (Af (D0 (a == b))=ϑ) (by first|exact D9 _|exact Aq.2 (by unfold BP;omega));go_enter func204,ntmps204;go_wp2_with fail;refine (Eo (a == b) _).mono ?_;rintro e h ⟨rfl,rfl⟩;go_wp2_with fail;refine (Ba (D0 (a == b)) _).mono ?_;rintro e h ⟨rfl,rfl⟩;rw [g.o];go_wp2_with fail
 go_ret2
 exact ⟨by rw [c.o.1,c.o.2];rfl,rfl⟩
def Uk (a b:Int) (d:BP a) (f:BP b) (w:Ϣ):ϙ prog 204 #[ι 24,ι a,ι b] w (EH 24 a b w):=by
 unfold BP at d f;have c:=@Lh (Bo 24 a b=D0 (a == b)/\BG 24 a b=0) (by simp [Bo,BG,Du]);have g:=@Lh (Af (D0 (a == b))=ϑ) (by first|exact D9 _|exact Aq.2 (by unfold BP;omega));go_enter func204,ntmps204;go_wp2_with fail;refine (Eo (a == b) _).mono ?_;rintro e h ⟨rfl,rfl⟩;go_wp2_with fail;refine (Ba (D0 (a == b)) _).mono ?_;rintro e h ⟨rfl,rfl⟩;rw [g.o];go_wp2_with fail
 go_ret2
 exact ⟨by rw [c.o.1,c.o.2];rfl,rfl⟩
def Uh (a b:Int) (d:BP a) (f:BP b) (w:Ϣ):ϙ prog 204 #[ι 21,ι a,ι b] w (EH 21 a b w):=by
 unfold BP at d f;have c:=@Lh (Bo 21 a b=D0 (a != b)/\BG 21 a b=0) (by simp [Bo,BG,Du]);have g:=@Lh (Af (D0 (a != b))=ϑ) (by first|exact D9 _|exact Aq.2 (by unfold BP;omega));go_enter func204,ntmps204;go_wp2_with fail;refine (Eo (a != b) _).mono ?_;rintro e h ⟨rfl,rfl⟩;go_wp2_with fail;refine (Ba (D0 (a != b)) _).mono ?_;rintro e h ⟨rfl,rfl⟩;rw [g.o];go_wp2_with fail
 go_ret2
 exact ⟨by rw [c.o.1,c.o.2];rfl,rfl⟩
def Ul (a b:Int) (d:BP a) (f:BP b) (w:Ϣ):ϙ prog 204 #[ι 25,ι a,ι b] w (EH 25 a b w):=by
 unfold BP at d f;have c:=@Lh (Bo 25 a b=D0 (a != b)/\BG 25 a b=0) (by simp [Bo,BG,Du]);have g:=@Lh (Af (D0 (a != b))=ϑ) (by first|exact D9 _|exact Aq.2 (by unfold BP;omega));go_enter func204,ntmps204;go_wp2_with fail;refine (Eo (a != b) _).mono ?_;rintro e h ⟨rfl,rfl⟩;go_wp2_with fail;refine (Ba (D0 (a != b)) _).mono ?_;rintro e h ⟨rfl,rfl⟩;rw [g.o];go_wp2_with fail
 go_ret2
 exact ⟨by rw [c.o.1,c.o.2];rfl,rfl⟩
def Ui (a b:Int) (d:BP a) (f:BP b) (w:Ϣ):ϙ prog 204 #[ι 22,ι a,ι b] w (EH 22 a b w):=by
 unfold BP at d f;have c:=@Lh (Bo 22 a b=D0 (decide (a<b))/\BG 22 a b=0) (by simp [Bo,BG,Du]);have g:=@Lh (Af (D0 (decide (a<b)))=ϑ) (by first|exact D9 _|exact Aq.2 (by unfold BP;omega));go_enter func204,ntmps204;go_wp2_with fail;refine (Eo (decide (a<b)) _).mono ?_;rintro e h ⟨rfl,rfl⟩;go_wp2_with fail;refine (Ba (D0 (decide (a<b))) _).mono ?_;rintro e h ⟨rfl,rfl⟩;rw [g.o];go_wp2_with fail
 go_ret2
 exact ⟨by rw [c.o.1,c.o.2];rfl,rfl⟩
def Uj (a b:Int) (d:BP a) (f:BP b) (w:Ϣ):ϙ prog 204 #[ι 23,ι a,ι b] w (EH 23 a b w):=by
 unfold BP at d f;have c:=@Lh (Bo 23 a b=D0 (decide (a<=b))/\BG 23 a b=0) (by simp [Bo,BG,Du]);have g:=@Lh (Af (D0 (decide (a<=b)))=ϑ) (by first|exact D9 _|exact Aq.2 (by unfold BP;omega));go_enter func204,ntmps204;go_wp2_with fail;refine (Eo (decide (a<=b)) _).mono ?_;rintro e h ⟨rfl,rfl⟩;go_wp2_with fail;refine (Ba (D0 (decide (a<=b))) _).mono ?_;rintro e h ⟨rfl,rfl⟩;rw [g.o];go_wp2_with fail
 go_ret2
 exact ⟨by rw [c.o.1,c.o.2];rfl,rfl⟩
def Um (a b:Int) (d:BP a) (f:BP b) (w:Ϣ):ϙ prog 204 #[ι 27,ι a,ι b] w (EH 27 a b w):=by
 unfold BP at d f;have c:=@Lh (Bo 27 a b=max a b/\BG 27 a b=0) (by simp [Bo,BG,Du]);have g:=@Lh (Af (max a b)=ϑ) (by first|exact D9 _|exact Aq.2 (by unfold BP;omega));go_enter func204,ntmps204;go_wp2_with fail;refine (Ba (max a b) _).mono ?_;rintro e h ⟨rfl,rfl⟩;rw [g.o];go_wp2_with fail
 go_ret2
 exact ⟨by rw [c.o.1,c.o.2];rfl,rfl⟩
def Un (a b:Int) (d:BP a) (f:BP b) (w:Ϣ):ϙ prog 204 #[ι 28,ι a,ι b] w (EH 28 a b w):=by
 unfold BP at d f;have c:=@Lh (Bo 28 a b=min a b/\BG 28 a b=0) (by simp [Bo,BG,Du]);have g:=@Lh (Af (min a b)=ϑ) (by first|exact D9 _|exact Aq.2 (by unfold BP;omega));go_enter func204,ntmps204;go_wp2_with fail;refine (Ba (min a b) _).mono ?_;rintro e h ⟨rfl,rfl⟩;rw [g.o];go_wp2_with fail
 go_ret2
 exact ⟨by rw [c.o.1,c.o.2];rfl,rfl⟩
def Mb (c a b:Int) (h:BB c) (d:BP a) (e:BP b) (w:Ϣ):ϙ prog 204 #[ι c,ι a,ι b] w (EH c a b w):=by
 have f:c=15\/c=16\/c=17\/c=18\/c=19\/c=20\/c=21\/c=22\/c=23\/c=24\/c=25\/c=27\/c=28:=by unfold BB at h;omega
 rcases f with rfl|rfl|rfl|rfl|rfl|rfl|rfl|rfl|rfl|rfl|rfl|rfl|rfl
 .exact Ub a b d e w
 .exact Uc a b d e w
 .exact Ud a b d e w
 .exact Ue a b d e w
 .exact Uf a b d e w
 .exact Ug a b d e w
 .exact Uh a b d e w
 .exact Ui a b d e w
 .exact Uj a b d e w
 .exact Uk a b d e w
 .exact Ul a b d e w
 .exact Um a b d e w
 .exact Un a b d e w
def J0:∀ (f x:Nat),x<2 ^ f->Lib.bitLenAux (f+1) x=Lib.bitLenAux f x
 | 0,x,h=>by
  have:x=0:=by simpa using h
  subst this;rfl
 | f+1,x,h=>by
  have a:=J0 f (x / 2) (by rw [Nat.pow_succ] at h;omega);show (if x=0 then 0 else 1+Lib.bitLenAux (f+1) (x / 2))=(if x=0 then 0 else 1+Lib.bitLenAux f (x / 2))
  rw [a]
def OF {x:Nat} (c:2<=x) (h:x<2 ^ 64):Lib.bitLen x=Lib.bitLen (x / 2)+1:=by
 have a:Lib.bitLenAux 64 (x / 2)=Lib.bitLenAux 63 (x / 2):=J0 63 (x / 2) ω;have b:Lib.bitLenAux 64 x=1+Lib.bitLenAux 63 (x / 2):=by show (if x=0 then 0 else 1+Lib.bitLenAux 63 (x / 2))=_;rw [if_neg ω]
 show Lib.bitLenAux 64 x=Lib.bitLenAux 64 (x / 2)+1;rw [a,b,Nat.add_comm]
def Sn (v:Int) (i:BP v) (w:Ϣ):ϙ prog 217 #[ι v] w λe w'=>e=.returned (ι (EA v))/\w=w':=by
 unfold BP at i;go_enter func217,ntmps217;go_wp2_with fail
 go_loop [0,3] (λx k=>∃ y j:Int,x=ι y/\k=ι j/\0<=j/\j<=64/\-1099511627776<=y/\y<=1099511627776/\Hid (EA y+j=EA v)) (λx k=>(intOf x).toNat)
 case atStart=>exact ⟨v,0,rfl,rfl,ω,ω,ω,ω,Lh ω⟩
 case round=>
  obtain ⟨y,j,rfl,rfl,m,n,p,q,d⟩:=hrel;by_cases l:1<y
  .have hd:y.tdiv 2=y / 2:=by rw [Int.tdiv_eq_ediv_of_nonneg ω]
   have h:EA y=EA (y / 2)+1:=by unfold EA;have b:(max 1 y).toNat=y.toNat:=ω;have g:(max 1 (y / 2)).toNat=y.toNat / 2:=ω;rw [b,g,OF (x:=y.toNat) ω ω];omega
   have c:=@Lh (EA (y / 2)+(j+1)=EA v) (by have:=d.o;omega);have o:j+1<=64:=by
    have r:=c.o;have s:EA v<=63:=by unfold EA Lib.bitLen;have:=E6 64 (max 1 v).toNat;omega
    have t:0<=EA (y / 2):=by
     unfold EA;have:1<=Lib.bitLen (max 1 (y / 2)).toNat:=by unfold Lib.bitLen Lib.bitLenAux;rw [if_neg ω];omega
     omega
    omega
   clear h;go_wp2_with (rw [hd]);go_round
   .exact ⟨y / 2,j+1,by go_num,by go_num,ω,ω,ω,ω,c⟩
   .show (y / 2).toNat<y.toNat
    omega
  .have hy:EA y=0:=by unfold EA;have b:(max 1 y).toNat=1:=ω;rw [b];rfl
   have a:=d.o;rw [hy] at a;have f:=Lh a;clear a hy;go_wp2;go_ret;exact ⟨by rw [<-f.o];simp,rfl⟩
def Ce (l:List Int):Bool:=!(l.any λn=>!Af n)
def Db (l:List Int) (v:ϒ) (B:Nat) (w:Ϣ) (A:AE B w 1 Aj v l):ϙ prog 94 #[v] w λe w'=>e=.returned (.bool (Ce l))/\w=w':=by
 obtain ⟨a,cap,rfl,H,D,E,d⟩:=A;have s:=Lh d;clear d;go_enter func94,ntmps94;go_wp2_with fail
 go_loop [3] (λi=>∃ k:Nat,k<=l.length/\i=ι k/\Hid (∀ (j:Nat) x,j<k->l[j]?=ς x->Af x=ϑ)) (λi=>l.length - (intOf i).toNat)
 case atStart=>exact ⟨0,Nat.zero_le _,rfl,Lh (λj x m=>by omega)⟩
 case round=>
  obtain ⟨k,G,rfl,q⟩:=hrel;by_cases z:k<l.length
  .obtain ⟨x,c⟩:∃ x,l[k]?=ς x:=⟨_,Lg z⟩
   rcases s.o with h|⟨b,o,rfl,C,d⟩
   .subst h;simp at c
   have F:w.cell? (π b (o+k))=ς (ι x):=by have:=(d k x c).1;rw [Nat.mul_one] at this;exact this
   have p:=Lh c;clear c d;go_wp2_with fail;refine (Ba _ _).mono ?_;rintro e w' ⟨rfl,rfl⟩;cases f:Af x with
   | false=>
    have g:=@Lh (Ce l=ϝ) (by
     unfold Ce;have:l.any (λn=>!Af n)=ϑ:=List.any_eq_true.2 ⟨x,Lm p.o,by rw [f];rfl⟩;rw [this];rfl)
    clear f;go_wp2;go_ret;exact ⟨by rw [g.o];rfl,rfl⟩
   | true=>
    have t:Hid (∀ (j:Nat) y,j<k+1->l[j]?=ς y->Af y=ϑ):=Lh (λj y m r=>by
     by_cases u:j=k
     .subst u;have:=p.o.symm.trans r;cases this;exact f
     .exact q.o j y ω r)
    clear f;go_wp2;go_round
    case rel=>exact ⟨k+1,ω,by go_num,t⟩
    case measure=>simp [intOf];omega
  .have g:=@Lh (Ce l=ϑ) (by
    unfold Ce;have:l.any (λn=>!Af n)=ϝ:=by rw [List.any_eq_false];intro x c;obtain ⟨j,m,rfl⟩:=List.getElem_of_mem c;rw [q.o j _ ω (Lg m)];simp
    rw [this];rfl)
   go_wp2;go_ret;exact ⟨by rw [g.o];rfl,rfl⟩
def Ic (c:AQ) (t:ϒ) (a:ByteArray) (B:Nat) (w:Ϣ) (N:B<=w) (O:BF B w t c):ϙ prog 95 #[t,.string a] w λe w'=>e=.returned (ι (Cz (λf=>CM f.name a) c.funcs))/\Below w w w':=by
 obtain ⟨P,Q,rfl,E,F,-⟩:=O;obtain ⟨J,K,rfl,-⟩:=E;obtain ⟨L,M,rfl,R,S,T,s⟩:=F;have A:=Lh s;obtain ⟨W,l⟩:=ε (w.alloc (χ (Bc J K L M c) 25));have n:=Lh (bl1 l);have v:=Lh (ce11 l);have C:=Lh l;clear l s;go_enter func95,ntmps95;go_wp2_with fail;rw [<-C.o];have X:=v.o 2 _ rfl
 go_loop [5] (λi=>∃ k:Nat,k<=c.funcs.length/\i=ι k/\Hid (∀ (j:Nat) x,j<k->c.funcs[j]?=ς x->CM x.name a=ϝ)) (λi=>c.funcs.length - (intOf i).toNat)
 case atStart=>exact ⟨0,Nat.zero_le _,rfl,Lh (λj x m=>by omega)⟩
 case round=>
  obtain ⟨k,V,rfl,p⟩:=hrel;by_cases H:k<c.funcs.length
  .obtain ⟨x,hx⟩:∃ x,c.funcs[k]?=ς x:=⟨_,Lg H⟩
   rcases A.o with h|⟨b,o,rfl,D,u⟩
   .rw [h] at hx;simp at hx
   have U:=((u k x hx).below (n.o.mono N) D).1;have r:=Lh hx;clear hx u;cases d:CM x.name a with
   | true=>have q:=Lh (DO r.o d (λj y m g=>p.o j y m g));have I:(x.name.toList == a.toList)=ϑ:=d;clear d;go_wp2;go_ret;exact ⟨by rw [q.o];rfl,n.o⟩
   | false=>
    have z:Hid (∀ (j:Nat) y,j<k+1->c.funcs[j]?=ς y->CM y.name a=ϝ):=Lh (λj y m g=>by
     by_cases G:j=k
     .subst G;have:=r.o.symm.trans g;cases this;exact d
     .exact p.o j y ω g)
    have I:(x.name.toList == a.toList)=ϝ:=d;clear d;go_wp2;go_round
    case rel=>exact ⟨k+1,ω,by go_num,z⟩
    case measure=>simp [intOf];omega
  .have q:=Lh (CR (λj y m g=>p.o j y ω g))
   go_wp2;go_ret;exact ⟨by rw [q.o];rfl,n.o⟩
def Q7 (c:AQ) (x:Bi) (fuel:Int) (w:Ϣ) (e:Ending) (w':Ϣ):Prop:=e=.returned (ι (AS c x fuel))/\Below w w w'
def EY {c:AQ} {x:Bi} {fuel:Int} (h:AS c x fuel=n) (a:Below w w w'):Q7 c x fuel w (.returned (ι n)) w':=⟨by rw [h],a⟩
def PS (c:AQ) (M:ϒ) (x:Bi) (T:ϒ) (fuel:Int) (B:Nat) (w:Ϣ) (q:B<=w) (A:BF B w M c) (hx:Gh B w T x) :
  ϙ prog 55 #[M,T,ι fuel] w (Q7 c x fuel w):=by
 obtain ⟨fv,gv,rfl,Q,C,aS⟩:=id A;obtain ⟨fa,fc,rfl⟩:=Q.form;obtain ⟨N,O,rfl⟩:=C.form;obtain ⟨av,rfl,z,bC⟩:=hx;obtain ⟨xa,xc,rfl⟩:=z.form;obtain ⟨W,a⟩:=ε ((w.alloc (χ (Bc fa fc N O c) 25)).alloc (χ #[.string x.proc,σ xa x.args xc] 80));have h:=Lh (bl2 a);have K:=ce21 a;have L:=ce22 a;by_cases D:fuel<0\/1048576<fuel
 .have i:=@Lh (AS c x fuel=2) (by unfold AS;rw [if_pos D])
  by_cases P:fuel<0
  .go_enter func55,ntmps55
   go_upto_region 1 with fail;rw [<-a];clear a;go_wp2;go_ret;exact EY i.o h.o
  .have h1:1048576<fuel:=ω
   go_enter func55,ntmps55;go_upto_region 1 with fail;rw [<-a];clear a;go_wp2;go_ret;exact EY i.o h.o
 have p:=Lh D;have aU:=θ (fuel<0);have aV:=θ (1048576<fuel);obtain ⟨R,i1,i2⟩:=Γ3 K;obtain ⟨x0,x1⟩:=Γ2 L;have E:=Lh (A.below (h.o.mono q));have aQ:=Lh (z.ints (h.o.mono q));have v:=Nt q h.o.size;have U:=Lh C;clear Q C z A K L D;rcases G1 (λf=>CM f.name x.proc) c.funcs with j|⟨k,hk,j⟩
 .have d:=@Lh (AS c x fuel=9) (by
   have hn:Dh c x.proc = -1:=j;unfold AS;rw [if_neg p.o];cases c.funcs[(Dh c x.proc).toNat]? with
   | none=>rfl
   | some y=>simp only [];rw [if_pos ω])
  have r:=Lh j;clear j;go_enter func55,ntmps55;go_upto_region 1 with fail;rw [<-a];clear a;go_wp2_with fail;refine (Ic c _ x.proc B W v E.o).mono ?_;rintro e w1 ⟨rfl,g⟩;rw [r.o];have m:=Lh (h.o.th g);clear g;go_wp2;go_ret;exact EY d.o m.o
 obtain ⟨y,n⟩:∃ y,c.funcs[k]?=ς y:=⟨_,Lg hk⟩
 have r:=Lh j;have J:Dh c x.proc=k:=j;have u:=Lh J;clear j J;obtain ⟨V,Y,I,aZ,bA,bB,i⟩:=U.o;obtain ⟨rfl,rfl⟩:N=V/\O=Y:=by simpa using I
 rcases i with P|⟨yb,yo,rfl,aM,i⟩
 .rw [P] at n;simp at n
 have aR:=Lh (i k y n);have t:=Lh n;have aW:=In k;have aX:(k:Int)<(c.funcs:Int):=ω;have aY:=θ ((k:Int)<0);clear I i n;go_enter func55,ntmps55;go_upto_region 1 with fail;rw [<-a];clear a;go_wp2_with fail;refine (Ic c _ x.proc B W v E.o).mono ?_;rintro e w1 ⟨rfl,g⟩;rw [r.o];have m:=Lh (h.o.th g);have R:=Δ5 g R i1 i2 x0 x1;have H:=aR.o.below (m.o.mono q) aM;have S:=H.2.1;have X:=Lh (aQ.o.ints (g.mono v));clear g H;by_cases l:(x.args:Int)=y.params;rotate_left
 .have d:=@Lh (AS c x fuel=3) (by
   unfold AS;rw [if_neg p.o,u.o];simp only [Int.toNat_natCast,t.o];rw [if_neg ω,if_pos l])
  have Z:((x.args:Int) != y.params)=ϑ:=by simp [l]
  clear l;go_wp2_with fail;go_quiet (fail);have o:=Lh (AG m.o nq);go_wp2;go_ret;exact EY d.o o.o
 have Z:((x.args:Int) != y.params)=ϝ:=by simp [l]
 have F:=Lh l;have aT:=S;rw [<-l] at aT;clear l S;go_wp2_with fail;go_quiet (fail);have o:=Lh (AG m.o nq);have G:=Lh (X.o.ints (AG Br nq));cases b:Ce x.args with
 | false=>
  have d:=@Lh (AS c x fuel=11) (by
   unfold AS;rw [if_neg p.o,u.o];simp only [Int.toNat_natCast,t.o];unfold Ce at b;rw [if_neg ω,if_neg (by rw [F.o];simp),if_pos (by simpa using b)])
  have s:=Lh b;clear b;go_wp2_with fail;refine (Db x.args _ B _ G.o).mono ?_;rintro e w2 ⟨rfl,rfl⟩;rw [s.o];go_wp2;go_ret;exact EY d.o o.o
 | true=>
  have d:=@Lh (AS c x fuel=0) (by
   unfold AS;rw [if_neg p.o,u.o];simp only [Int.toNat_natCast,t.o];unfold Ce at b;rw [if_neg ω,if_neg (by rw [F.o];simp),if_neg (by simpa using b)])
  have s:=Lh b;clear b;go_wp2_with fail;refine (Db x.args _ B _ G.o).mono ?_;rintro e w2 ⟨rfl,rfl⟩;rw [s.o];go_wp2;go_ret;exact EY d.o o.o
