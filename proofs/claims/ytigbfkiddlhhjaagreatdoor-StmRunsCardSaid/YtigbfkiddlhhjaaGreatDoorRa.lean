import Derived.Test.YtigbfkiddlhhjaaGreatDoorPst3
set_option maxHeartbeats 8000000
set_option maxRecDepth 100000
set_option linter.all false
open Go renaming World→Ϣ,Value→ϒ,Calls→ϙ,bodyPost_ret→ϖ,heap_setCell_same→ϡ
open Option renaming some→X
open Bool renaming false→ϝ,true→ϑ
open List renaming mem_cons→ϰ
open Go.Value renaming slice→U
open Go.Obj renaming cells→K
namespace Go.Proofs.YtigbfkiddlhhjaaGreatDoor
open Go.RowKit Proofs.Tryz
open Go.RowKit renaming ι→O,π→D,ω→H,ν→Z
variable{a n:Int}{b bm fb cap R rb j:Nat}{w w' W w1 V:Ϣ}{cur:Array ϒ}{cs:List ϒ}{fs:List AY}{f:AY}{lv sv fv v:ϒ}{m:AV}{Fi Fl Fs F:List Nat}{r:Rq}
def Ba(n:Int)(w:Ϣ):ϙ prog 96 #[O n] w λa w'=>a=.returned (.bool (Af n))/\w=w':=by
 go_in;go_wp2;all_goals (go_ret;exact⟨by unfold Af;congr 2;simp;omega,rfl⟩)
def Eo(b:Bool)(w:Ϣ):ϙ prog 199 #[.bool b] w λa w'=>a=.returned (O (D0 b))/\w=w':=by
 cases b;all_goals
  go_in;go_wp2;go_ret;exact⟨rfl,rfl⟩
def Lf(a:Int)(w:Ϣ):ϙ prog 195 #[O a] w λb w'=>b=.returned (.bool (decide (BB a)))/\w=w':=by
 go_in;go_wp2;all_goals (go_ret;exact⟨Ca (by rw[Bool.eq_iff_iff];simp only[Bool.or_eq_true,Bool.and_eq_true,decide_eq_true_eq,beq_iff_eq,eq_self,true_iff];unfold BB;omega),rfl⟩)
def L8(a:Int)(w:Ϣ):ϙ prog 200 #[O a] w λb w'=>b=.returned (.bool (decide (20<=a/\a<=23)))/\w=w':=by
 go_in;go_wp2;all_goals (go_ret;exact⟨Ca (by simp;try omega),rfl⟩)
def E0(op:Int):Bool:=decide (4<=op/\op<=8)
def Ea(a:Int)(w:Ϣ):ϙ prog 191 #[O a] w λb w'=>b=.returned (.bool (E0 a))/\w=w':=by
 go_in;go_wp2;all_goals (go_ret;exact⟨Ca (by rw[Bool.eq_iff_iff];unfold E0;simp only[Bool.or_eq_true,Bool.and_eq_true,decide_eq_true_eq,beq_iff_eq,eq_self,true_iff];omega),rfl⟩)
def Fj(a b:Int):Int:=if a.natAbs*b.natAbs<=1099511627776 then a*b else 1099511627777
def J4{b:Int}(c:1<=b.natAbs):((1099511627776/b.natAbs<a.natAbs)↔¬a.natAbs*b.natAbs<=1099511627776):=by
 rw[Nat.div_lt_iff_lt_mul H];omega
def RM(b:Int):(1099511627776:Int)/max b (-b)=((1099511627776/b.natAbs:Nat):Int):=by
 rw[GZ,Int.natCast_ediv];rfl
def V7{b:Int}(d:1<=b.natAbs)(c:1099511627776/max b (-b)<max a (-a)):Fj a b=1099511627777:=by
 rw[RM,GZ]at c;unfold Fj;rw[if_neg ((J4 d).1 H)]
def WB{b:Int}(e:1<=b.natAbs)(c:max a (-a)<=1099511627776/max b (-b)):Fj a b=a*b/\-9223372036854775808<=a*b/\a*b<=9223372036854775807:=by
 rw[RM,GZ]at c;have d:a.natAbs*b.natAbs<=1099511627776:=by apply Decidable.byContradiction;intro c;have:=(J4 e).2 c;omega
 have:=Int.natAbs_mul a b;exact⟨by unfold Fj;rw[if_pos d],H,H⟩
def NY(a b:Int)(f:-1099511627776<=a/\a<=1099511627776)(f:-1099511627776<=b/\b<=1099511627776)(w:Ϣ):ϙ prog 208 #[O a,O b] w λf w'=>f=.returned (O (Fj a b))/\w=w':=by
 by_cases d:a=0
 .have k:=@Lh (Fj a b=0) (by unfold Fj;rw[d];simp)
  have:=ζ a 0 d;go_in;go_wp2;go_ret;exact⟨by rw[k.o];rfl,rfl⟩
 have:=ξ a 0 d;by_cases c:b=0
 .have l:=@Lh (Fj a b=0) (by unfold Fj;rw[c];simp)
  have:=ζ b 0 c;go_in;go_wp2;go_ret;exact⟨by rw[l.o];rfl,rfl⟩
 have:=ξ b 0 c;have e:1<=max b (0-b):=H;have:max b (0-b)<=1099511627776:=H;go_in;go_wp2_with fail
 .have g:=V7 (a:=a) (b:=b) (by have:=e;omega) (by assumption)
  go_ret;exact⟨by rw[g];rfl,rfl⟩
 obtain⟨h,i,j⟩:=WB (a:=a) (b:=b) (by have:=e;omega) (by assumption);go_ret;exact⟨by rw[h];exact E8 (IntWalk.wrap64_in _ ⟨i,j⟩),rfl⟩
def UV{e w5:Ϣ}(j:AN w bm fb cap cur cs fs f lv sv m Fi Fl Fs)(a:Below w w e){o:Obj}{d p:Nat}(B:in64 n)
  (A:w5.ownsRow 0 3 1 (U (X (D d 0)) (f.S.length+1) p) (f.S.length+1) (f.S.map (Value.int .i64)++[O n])) (t:((e.alloc o).drew).grownBy w5 sv.ownBlock) (hl:sv.ownBlock=X d\/d=((e.alloc o).drew).heap.size) :
  Bn w bm fb cap cs fs {f with S:=f.S++[n]} lv m Fi Fl (bm::fb::(Fi++(Fl++Fs))) (w5.setCell (D fb (fs.length*4+3)) (U (X (D d 0)) (f.S.length+1) p)):=by
 have z:=j.stk.2.1;have l:Below w w ((e.alloc o).drew):=a.trans ((Br.alloc a.size _).trans (AG Br 1));have r:=j.lt;have x:AW Fs [d] ((e.alloc o).drew) w5:=by rw[z];have:=Ga (v:=sv) (v':=U (X (D d 0)) (f.S.length+1) p) (g:=d) t rfl (by rcases hl with h|h;exact .inl h;right;omega);simpa[Value.ownBlock]using this
 have k:∀b∈bm::fb::(Fi++Fl),w5.heap[b]?=w.heap[b]?:=λb i=>by
  have q:b∈bm::fb::(Fi++(Fl++Fs)):=by simp at i ⊢;rcases i with a|a|a|a<;>simp[a]
  have u:b∉Fs:=λt=>by
   have e:bm::fb::(Fi++(Fl++Fs))=(bm::fb::(Fi++Fl))++Fs:=by simp
   have:=j.nodup;rw[e,List.nodup_append]at this;exact this.2.2 b i b t rfl
  rw[x.block b (Nl (r b q) l.size) u,l.block b (r b q)]
 have y:Be w5 (U (X (D d 0)) (f.S.length+1) p) (f.S++[n]) [d]:=⟨by simpa using A,rfl,λs c=>by
  simp at c;rcases c with c|rfl
  .exact j.stk.2.2 s c
  exact B⟩
 refine Nc j (k bm ψ) (k fb ψ) (λb a=>k b (by simp at a ⊢;rcases a with a|a<;>simp[a])) y (LV j.nodup r ⟨d,rfl,?_⟩) ((AW.ob l).trans (x.wide (λb a=>by simp[a]) (λb a=>?_)))
 .rcases hl with h|h
  .left;rw[z,h];rfl
  right;have:=l.size;omega
 simp only[ϰ,List.mem_append,List.not_mem_nil,or_false]at a ⊢;rcases a with a|a|a|a|a<;>simp[a]
def DP(m':AV)(d:AN w bm fb cap cur cs fs f lv sv m Fi Fl Fs)(e:fs.length<=200)(n:Int)(v:in64 n)(e:f.S.length<1000000) :
  ϙ prog 171 #[AJ (U (X (D fb 0)) (fs.length+1) cap) m',O n] w λe w'=>e=.returned (.tuple #[])/\Bn w bm fb cap cs fs {f with S:=f.S++[n]} lv m Fi Fl (bm::fb::(Fi++(Fl++Fs))) w':=by
 have B:=Lh d;have e:=d.stk.2.1;have h:=d.ne;have i:=d.lt;have:=d.lt fb ψ;have j:¬X fb=sv.ownBlock:=λg=>(h.2 fb (by rw[e,<- g];simp)).2 rfl;have l:¬X (w:Nat)=sv.ownBlock:=λg=>by have:=i (w:Nat) (by rw[e,<- g];simp);omega
 let⟨o,p,q,r,s⟩:=info_parts Cx;let⟨c,b⟩:=ε (w.alloc (K (AC (U (X (D fb 0)) (fs.length+1) cap) m') 59));have g:=bl1 b;have:(w:Nat)<c:=by rw[b];simp
 have t:c.cell? (D w 0)=X (U (X (D fb 0)) (fs.length+1) cap):=by rw[b];exact AF 0 _ rfl
 have e:=d.kp g;have u:=e.cSv;have A:=e.frf (fs.length*4+3);have x:fb<c:=H;have k:=Lh e.stk.1;have z:=Lh g;have y:=Lh v;have:(fs:Int)<(fs:Int)+1:=H;unfold AJ;unfold AC at b ⊢;go_in;go_upto_region 1 with fail;rw[<-b];clear b;go_upto_region 2 with fail;go_region_law (refine step_append_lies _ rfl (.tmp 17) (.tmp 19) 22 rfl 0 3 o (O 0) 1 8 underlying22 p q r s rfl δ sv f.S.length (f.S.map (Value.int .i64)) rfl ((k.o.alloc _).drew) (D c 0) 1 1 [O n] rfl rfl (Mw c _ _) (by simp[Value.oneCell']) H (by unfold maxLen;omega) H (Nat.zero_le _) _ rfl ?_;intro b b e d b i g;have h:=Lh d;have g:=Lh b;have:=(World.grownBy.cell b (show((c.alloc (K #[O n] 3)).drew).cell? (D w 0)=_ from AB (AA _ _) t) l);have:=(World.grownBy.cell b (show((c.alloc (K #[O n] 3)).drew).cell? (D fb (fs.length*4+3))=_ from AB (AA _ _) u) j);have:e.frozen? (D fb (fs.length*4+3))=ϝ:=(by rw[World.frozen?_of_block (w:=c) (a:=(D fb (fs.length*4+3))) (by rw[b.block fb φ j];exact Ha _ _ _ x)];exact A);clear d b);all_goals go_end0
 all_goals exact⟨rfl,UV B.o z.o y.o h.o g.o i⟩
def BZ(m':AV)(g:AN w bm fb cap cur cs fs f lv sv m Fi Fl Fs)(h:fs.length<=200)(l:List Int)(n:Int)(p:f.S=l++[n]) :
  ϙ prog 197 #[AJ (U (X (D fb 0)) (fs.length+1) cap) m'] w λh w'=>h=.returned (O n)/\Bn w bm fb cap cs fs {f with S:=l} lv m Fi Fl (bm::fb::(Fi++(Fl++Fs))) w':=by
 have e:=g.stk;rw[p]at e;obtain⟨k,_,_,rfl,rfl,_,_,_,r,i,_⟩:=e.last;have d:=Lh g;have o:=Lh i;have e:=g.ne;have:=(e.2 k ψ).2;let⟨j,c⟩:=ε (w.alloc (K (AC (U (X (D fb 0)) (fs.length+1) cap) m') 59));have a:=bl1 c;have:j.cell? (D w 0)=X (U (X (D fb 0)) (fs.length+1) cap):=by rw[c];exact AF 0 _ rfl
 have e:=g.kp a;have:=e.cSv;have:=e.frf (fs.length*4+3);have:=AB a r;have q:=Lh a;have:(fs:Int)<(fs:Int)+1:=H;unfold AJ;unfold AC at c ⊢;go_in;go_upto_region 1 with fail;rw[<-c];clear c;go_upto_region 3 with fail;go_region;go_wp2;go_ret;have c:Below w w (j.drew):=AG q.o _;refine⟨rfl,Nc d.o (c.block bm (d.o.lt bm ψ)) (c.block fb (d.o.lt fb ψ)) (λb a=>c.block b (d.o.lt b (by simp at a ⊢;rcases a with a|a<;>simp[a]))) (o.o.kp (λb a=>c.block b (o.o.lt b a))) d.o.nodup (AW.ob c)⟩
def DK(w:Ϣ)(F:List Nat)(m':AV)(e:Ending)(w':Ϣ):Prop:=∃fv F',e=.returned (AJ fv m')/\Cv w' fv m'.J F'/\AW F F' w w'
def Cv.top(g:Cv w fv m.J F)(h:m.J=fs++[f]) :
  ∃fb cap c cs lv sv Fi Fl Fs,fv=U (X (D fb 0)) (fs.length+1) cap/\F=fb::(Fi++(Fl++Fs))/\∀(W:Ϣ)(bm:Nat)(m1:AV),Below w w W->W.heap[bm]?=X (K (AC (U (X (D fb 0)) (fs.length+1) cap) m1) 59 (0,0))->(w:Nat)<=bm->AN W bm fb cap c cs fs f lv sv m1 Fi Fl Fs:=by
 have e:=Ab.2 ⟨fv,F,Hn _ _,g.kp (λb d=>Ha _ _ _ (g.lt b d)),rfl,λc=>by have:=g.lt _ c;omega⟩;let⟨fb,cap,j,cs,lv,sv,Fi,Fl,Fs,c,hF⟩:=e.top h;have h:fv=U (X (D fb 0)) (fs.length+1) cap:=by have e:=c.u2;rw[Hn]at e;simp only[Option.some.injEq,Obj.cells.injEq,AC]at e;have:=congrArg (λa=>a[0]?) e.1;simpa using this
 have i:F=fb::(Fi++(Fl++Fs)):=by simpa using hF
 refine⟨fb,cap,j,cs,lv,sv,Fi,Fl,Fs,h,i,λW bm m1 d j e=>?_⟩;have e:∀b∈F,W.heap[b]?=(w.alloc (K (AC fv m) 59)).heap[b]?:=λb h=>by rw[d.block b (g.lt b h),Ha _ _ _ (g.lt b h)]
 rw[i]at e;refine⟨j,by rw[e fb ψ];exact c.row,c.capl,c.capm,c.csize,c.take,c.init.kp (λb d=>e b (by simp[d])),c.loc.kp (λb d=>e b (by simp[d])),c.stk.kp (λb d=>e b (by simp[d])),c.fn,c.pc,?_⟩;have d:=c.nodup;rw[List.nodup_cons]at d ⊢;refine⟨λc=>?_,d.2⟩;have:=g.lt bm (by rw[i];exact c);omega
def Cq{F':List Nat}(d:AW F F' w w')(e:b<w)(hF:b∉F):b∉F':=λc=>by
 rcases d.new b c with a|a
 .exact hF a
 omega
def Ep{f':AY}{m1:AV}(h:Below w w W)
  (s:AN w1 w fb cap cur cs fs f' lv sv m1 Fi Fl Fs) (f:AW ((w:Nat)::F) ((w:Nat)::fb::(Fi++(Fl++Fs))) W w1) (hF:∀b∈F,b<(w:Nat)) (y:(w:Nat)<R) (o:R<W)
  (v:W.heap[R]?=X (K (AC Z AI) 59 (0,0))) :
  w1.heap[R]?=X (K (AC Z AI) 59 (0,0))/\(Ai w1 R (U (X (D fb 0)) (fs.length+1) cap) m1).heap[R]?=X (K (AC (U (X (D fb 0)) (fs.length+1) cap) m1) 59 (0,0))/\
  DK w F {m1 with J:=fs++[f']} (.returned (AJ (U (X (D fb 0)) (fs.length+1) cap) m1)) (Ai w1 R (U (X (D fb 0)) (fs.length+1) cap) m1):=by
 have l:R∉(w:Nat)::F:=λc=>by
  rw[ϰ]at c;rcases c with c|c
  .omega
  have:=hF _ c;omega
 have x:=Cq f o l;have e:w1.heap[R]?=X (K (AC Z AI) 59 (0,0)):=by rw[f.block R o l];exact v
 let⟨u,g⟩:=AZ e (U (X (D fb 0)) (fs.length+1) cap) m1;let⟨fv,m,l,n,t,_⟩:=Ab.1 ((s.reframe (fs++[f'])).own rfl);have r:fv=U (X (D fb 0)) (fs.length+1) cap:=by have e:=s.u2;rw[l]at e;simp only[Option.some.injEq,Obj.cells.injEq,AC]at e;have:=congrArg (λa=>a[0]?) e.1;simpa using this
 subst r;have p:m=fb::(Fi++(Fl++Fs)):=by simpa using t.symm
 refine⟨e,u,_,m,rfl,n.kp (λb k=>g.block b (n.lt b k) (λc=>?_)),?_⟩
 .rw [List.mem_singleton]at c
  exact x (by rw[<-c,<- p];exact List.mem_cons_of_mem _ k)
 refine⟨g.os.trans (f.os.trans h.os),g.tape.trans (f.tape.trans h.tape),g.output.trans (f.output.trans h.output),Nt h.size (Nt f.size g.size),λj i q=>?_,λb k=>?_⟩
 .rw [g.block j (Nl i (Nt h.size f.size)) φ,f.block j (Nl i h.size) (λc=>by rw[ϰ]at c;rcases c with c|c;omega;exact q c),h.block j i]
 rcases f.new b (List.mem_cons_of_mem _ (by rw[<-p];exact k))with d|d
 .rw [ϰ]at d
  rcases d with d|d
  .right;omega
  exact .inl d
 right;exact Nt h.size d
def Ib(a:Option Addr)(n c:Nat)(m:AV)(r:Rq)(w:Ϣ) :
  ϙ prog 190 #[AJ (U a n c) m,XZ r] w λe w'=>e=.returned (AJ Z {m with Q:=r,J:=[]})/\Below w w w':=by
 let⟨W,d⟩:=ε (((w.alloc (K (AC (U a n c) m) 59)).alloc (K #[O r.K,O r.O,O r.D,O r.V,O r.X] 57)).alloc (K (AC Z AI) 59));have l:=Lh (bl3 d);have z:=Lh (sz3 d);have o:=Xda d;have g:=Lh (Xhh d);have x:=Xbs d;let⟨w1,k⟩:=ε (W.setCell (D w 0) Z);have h:=ϡ _ (w:Nat) 0 _ _ Z o;rw[CY,<- k]at h;let⟨t,q⟩:=ε (BO w1 w r);let⟨s,f⟩:=EP h r;rw[<-q]at s f;have e:AW [(w:Nat)] [(w:Nat)] W w1:=by rw[k];exact BX
 have i:=e.trans f;have j:t.heap[(w:Nat)+1+1]?=X (K (AC Z AI) 59 (0,0)):=by rw[i.block _ (by have:=z.o;omega) φ];exact x
 let⟨x,t⟩:=AZ j Z {m with Q:=r,J:=[]};have B:=Lh ((l.o.trans (i.below (λb f=>by simp at f;omega) l.o.size)).trans (t.below (λb f=>by simp at f;omega) (by have:=l.o.size;have:=i.size;omega)));have A:=Lh x;have:=AO o;have:=AX o;have:=AO h;have:=AX h;have:=AO s;have:=AO j;have:=AX j;have:=e.cell (g.o 0 _ rfl) ψ;have:=e.cell (g.o 1 _ rfl) ψ;have:=e.cell (g.o 2 _ rfl) ψ;have:=e.cell (g.o 3 _ rfl) ψ;have:=e.cell (g.o 4 _ rfl) ψ;have u:=Lh k;have y:=Lh q;clear k q;unfold AJ XZ;unfold AC AI at d;unfold AC;dsimp only at d ⊢;go_in;go_upto_region 1 with fail;rw[<-d];clear d;go_upto_region 2 with fail;rw[<-u.o];go_upto_region 3 with fail;have d:=y.o.symm;unfold BO at d;rw[d];go_wp2;exact ϖ (v:=AJ Z {m with Q:=r,J:=[]}) (AL (p:=4) rfl A.o _ rfl) rfl ⟨rfl,B.o⟩
def DX(a:Option Addr)(n c:Nat)(m:AV)(e:Int)(w:Ϣ) :
  ϙ prog 169 #[AJ (U a n c) m,O e] w λf w'=>f=.returned (AJ Z {m with Q:=Ah e,J:=[]})/\Below w w w':=by
 let⟨W,d⟩:=ε ((w.alloc (K (AC (U a n c) m) 59)).alloc (K (AC Z AI) 59));have h:=Lh (bl2 d);have l:=Lh (sz2 d);have g:=Xct d;have f:=Xcm d;have:=AO g;have j:=Lh f;unfold AJ;unfold AC AI at d;unfold AC;dsimp only at d ⊢;go_in;go_upto_region 1 with fail;rw[<-d];clear d;go_wp2_with fail;refine(Ib a n c m (Ah e) _).mono ?_;rintro f w1⟨rfl,d⟩;have f:w1.heap[(w:Nat)+1]?=X (K (AC Z AI) 59 (0,0)):=by rw[d.block _ (by have:=l.o;omega)];exact j.o
 let⟨j,g⟩:=AZ f Z {m with Q:=Ah e,J:=[]};have k:=Lh ((h.o.th d).trans (g.below (λb g=>by simp at g;omega) (h.o.th d).size));have i:=Lh j;have:=AO f;have:=AX f;unfold AJ AC;go_wp2;exact ϖ (v:=AJ Z {m with Q:=Ah e,J:=[]}) (AL (p:=4) rfl i.o _ rfl) rfl ⟨rfl,k.o⟩
def Bo(op a b:Int):Int:=if BG op a b=0 then Du op a b else 0
def EH(op a b:Int)(w:Ϣ)(e:Ending)(w':Ϣ):Prop:=e=.returned (.tuple #[O (Bo op a b),O (BG op a b)])/\w=w'
def D9(b:Bool):Af (D0 b)=ϑ:=by cases b<;>rfl
def Ub(a b:Int)(g:BP a)(f:BP b)(w:Ϣ):ϙ prog 198 #[O 15,O a,O b] w (EH 15 a b w):=by
 unfold BP at g f;go_in;go_wp2_with fail;refine(Ba (a+b) _).mono ?_;rintro h w1⟨rfl,rfl⟩;cases c:Af (a+b)
 .have d:=@Lh (Bo 15 a b=0/\BG 15 a b=5) (by simp[Bo,BG,c])
  go_wp2_with fail;go_ret2;exact⟨by rw[d.o.1,d.o.2];rfl,rfl⟩
 have e:=@Lh (Bo 15 a b=a+b/\BG 15 a b=0) (by simp[Bo,BG,Du,c]);go_wp2_with fail;go_ret2;exact⟨by rw[e.o.1,e.o.2];rfl,rfl⟩
def Uc(a b:Int)(g:BP a)(f:BP b)(w:Ϣ):ϙ prog 198 #[O 16,O a,O b] w (EH 16 a b w):=by
 unfold BP at g f;go_in;go_wp2_with fail;refine(Ba (a-b) _).mono ?_;rintro h w1⟨rfl,rfl⟩;cases c:Af (a-b)
 .have d:=@Lh (Bo 16 a b=0/\BG 16 a b=5) (by simp[Bo,BG,c])
  go_wp2_with fail;go_ret2;exact⟨by rw[d.o.1,d.o.2];rfl,rfl⟩
 have e:=@Lh (Bo 16 a b=a-b/\BG 16 a b=0) (by simp[Bo,BG,Du,c]);go_wp2_with fail;go_ret2;exact⟨by rw[e.o.1,e.o.2];rfl,rfl⟩
def Ud(a b:Int)(g:BP a)(f:BP b)(w:Ϣ):ϙ prog 198 #[O 17,O a,O b] w (EH 17 a b w):=by
 unfold BP at g f;go_in;go_wp2_with fail;refine(NY a b g f _).mono ?_;rintro h w1⟨rfl,rfl⟩;go_wp2_with fail;refine(Ba (Fj a b) _).mono ?_;rintro i w1⟨rfl,rfl⟩;by_cases c:a.natAbs*b.natAbs<=1099511627776
 .have:=Int.natAbs_mul a b
  have g:Af (a*b)=ϑ:=Aq.2 (by unfold BP;omega);have f:Fj a b=a*b:=by unfold Fj;rw[if_pos c]
  have e:=@Lh (Bo 17 a b=a*b/\BG 17 a b=0) (by simp[Bo,BG,Du,c]);rw[f,g];go_wp2_with fail;go_ret2;exact⟨by rw[e.o.1,e.o.2];rfl,rfl⟩
 have f:Af (1099511627777)=ϝ:=rfl;have e:Fj a b=1099511627777:=by unfold Fj;rw[if_neg c]
 have d:=@Lh (Bo 17 a b=0/\BG 17 a b=5) (by simp[Bo,BG,c]);rw[e,f];go_wp2_with fail;go_ret2;exact⟨by rw[d.o.1,d.o.2];rfl,rfl⟩
def Ue(a b:Int)(h:BP a)(f:BP b)(w:Ϣ):ϙ prog 198 #[O 18,O a,O b] w (EH 18 a b w):=by
 unfold BP at h f;by_cases c:b=0
 .have:(b==0)=ϑ:=by rw[c];rfl
  have d:=@Lh (Bo 18 a b=0/\BG 18 a b=18) (by simp[Bo,BG,c]);go_in;go_wp2_with fail;go_ret2;exact⟨by rw[d.o.1,d.o.2];rfl,rfl⟩
 have:=beq_eq_false_iff_ne.2 c;have g:=@Lh (Bo 18 a b=a.tdiv b/\BG 18 a b=0) (by simp[Bo,BG,Du,c]);have e:=YJ a b h f c;have:(a.tdiv b).natAbs<=a.natAbs:=by rw[Int.natAbs_tdiv];exact Nat.div_le_self _ _
 have i:=@Lh (Af (a.tdiv b)=ϑ) (Aq.2 (by unfold BP;omega));go_in;go_wp2_with fail;try rw[e.1]
 try rw[e.2]
 refine(Ba (a.tdiv b) _).mono ?_;rintro j w1⟨rfl,rfl⟩;rw[i.o];go_wp2_with fail;go_ret2;exact⟨by rw[g.o.1,g.o.2];rfl,rfl⟩
def Uf(a b:Int)(h:BP a)(f:BP b)(w:Ϣ):ϙ prog 198 #[O 19,O a,O b] w (EH 19 a b w):=by
 unfold BP at h f;by_cases c:b=0
 .have:(b==0)=ϑ:=by rw[c];rfl
  have d:=@Lh (Bo 19 a b=0/\BG 19 a b=18) (by simp[Bo,BG,c]);go_in;go_wp2_with fail;go_ret2;exact⟨by rw[d.o.1,d.o.2];rfl,rfl⟩
 have:=beq_eq_false_iff_ne.2 c;have g:=@Lh (Bo 19 a b=a.tmod b/\BG 19 a b=0) (by simp[Bo,BG,Du,c]);have e:=YJ a b h f c;have:(a.tmod b).natAbs<=a.natAbs:=by rw[Int.natAbs_tmod];exact Nat.mod_le _ _
 have i:=@Lh (Af (a.tmod b)=ϑ) (Aq.2 (by unfold BP;omega));go_in;go_wp2_with fail;try rw[e.1]
 try rw[e.2]
 refine(Ba (a.tmod b) _).mono ?_;rintro j w1⟨rfl,rfl⟩;rw[i.o];go_wp2_with fail;go_ret2;exact⟨by rw[g.o.1,g.o.2];rfl,rfl⟩
def Ug(a b:Int)(e:BP a)(d:BP b)(w:Ϣ):ϙ prog 198 #[O 20,O a,O b] w (EH 20 a b w):=by
 unfold BP at e d;have c:=@Lh (Bo 20 a b=D0 (a==b)/\BG 20 a b=0) (by simp[Bo,BG,Du]);have f:=@Lh (Af (D0 (a==b))=ϑ) (by first|exact D9 _|exact Aq.2 (by unfold BP;omega));go_in;go_wp2_with fail;refine(Eo (a==b) _).mono ?_;rintro g w1⟨rfl,rfl⟩;go_wp2_with fail;refine(Ba (D0 (a==b)) _).mono ?_;rintro h w1⟨rfl,rfl⟩;rw[f.o];go_wp2_with fail;go_ret2;exact⟨by rw[c.o.1,c.o.2];rfl,rfl⟩
def Uk(a b:Int)(e:BP a)(d:BP b)(w:Ϣ):ϙ prog 198 #[O 24,O a,O b] w (EH 24 a b w):=by
 unfold BP at e d;have c:=@Lh (Bo 24 a b=D0 (a==b)/\BG 24 a b=0) (by simp[Bo,BG,Du]);have f:=@Lh (Af (D0 (a==b))=ϑ) (by first|exact D9 _|exact Aq.2 (by unfold BP;omega));go_in;go_wp2_with fail;refine(Eo (a==b) _).mono ?_;rintro g w1⟨rfl,rfl⟩;go_wp2_with fail;refine(Ba (D0 (a==b)) _).mono ?_;rintro h w1⟨rfl,rfl⟩;rw[f.o];go_wp2_with fail;go_ret2;exact⟨by rw[c.o.1,c.o.2];rfl,rfl⟩
def Uh(a b:Int)(e:BP a)(d:BP b)(w:Ϣ):ϙ prog 198 #[O 21,O a,O b] w (EH 21 a b w):=by
 unfold BP at e d;have c:=@Lh (Bo 21 a b=D0 (a !=b)/\BG 21 a b=0) (by simp[Bo,BG,Du]);have f:=@Lh (Af (D0 (a !=b))=ϑ) (by first|exact D9 _|exact Aq.2 (by unfold BP;omega));go_in;go_wp2_with fail;refine(Eo (a !=b) _).mono ?_;rintro g w1⟨rfl,rfl⟩;go_wp2_with fail;refine(Ba (D0 (a !=b)) _).mono ?_;rintro h w1⟨rfl,rfl⟩;rw[f.o];go_wp2_with fail;go_ret2;exact⟨by rw[c.o.1,c.o.2];rfl,rfl⟩
def Ul(a b:Int)(e:BP a)(d:BP b)(w:Ϣ):ϙ prog 198 #[O 25,O a,O b] w (EH 25 a b w):=by
 unfold BP at e d;have c:=@Lh (Bo 25 a b=D0 (a !=b)/\BG 25 a b=0) (by simp[Bo,BG,Du]);have f:=@Lh (Af (D0 (a !=b))=ϑ) (by first|exact D9 _|exact Aq.2 (by unfold BP;omega));go_in;go_wp2_with fail;refine(Eo (a !=b) _).mono ?_;rintro g w1⟨rfl,rfl⟩;go_wp2_with fail;refine(Ba (D0 (a !=b)) _).mono ?_;rintro h w1⟨rfl,rfl⟩;rw[f.o];go_wp2_with fail;go_ret2;exact⟨by rw[c.o.1,c.o.2];rfl,rfl⟩
def Ui(a b:Int)(e:BP a)(d:BP b)(w:Ϣ):ϙ prog 198 #[O 22,O a,O b] w (EH 22 a b w):=by
 unfold BP at e d;have c:=@Lh (Bo 22 a b=D0 (decide (a<b))/\BG 22 a b=0) (by simp[Bo,BG,Du]);have f:=@Lh (Af (D0 (decide (a<b)))=ϑ) (by first|exact D9 _|exact Aq.2 (by unfold BP;omega));go_in;go_wp2_with fail;refine(Eo (decide (a<b)) _).mono ?_;rintro g w1⟨rfl,rfl⟩;go_wp2_with fail;refine(Ba (D0 (decide (a<b))) _).mono ?_;rintro h w1⟨rfl,rfl⟩;rw[f.o];go_wp2_with fail;go_ret2;exact⟨by rw[c.o.1,c.o.2];rfl,rfl⟩
def Uj(a b:Int)(e:BP a)(d:BP b)(w:Ϣ):ϙ prog 198 #[O 23,O a,O b] w (EH 23 a b w):=by
 unfold BP at e d;have c:=@Lh (Bo 23 a b=D0 (decide (a<=b))/\BG 23 a b=0) (by simp[Bo,BG,Du]);have f:=@Lh (Af (D0 (decide (a<=b)))=ϑ) (by first|exact D9 _|exact Aq.2 (by unfold BP;omega));go_in;go_wp2_with fail;refine(Eo (decide (a<=b)) _).mono ?_;rintro g w1⟨rfl,rfl⟩;go_wp2_with fail;refine(Ba (D0 (decide (a<=b))) _).mono ?_;rintro h w1⟨rfl,rfl⟩;rw[f.o];go_wp2_with fail;go_ret2;exact⟨by rw[c.o.1,c.o.2];rfl,rfl⟩
def Um(a b:Int)(e:BP a)(d:BP b)(w:Ϣ):ϙ prog 198 #[O 27,O a,O b] w (EH 27 a b w):=by
 unfold BP at e d;have c:=@Lh (Bo 27 a b=max a b/\BG 27 a b=0) (by simp[Bo,BG,Du]);have f:=@Lh (Af (max a b)=ϑ) (by first|exact D9 _|exact Aq.2 (by unfold BP;omega));go_in;go_wp2_with fail;refine(Ba (max a b) _).mono ?_;rintro g w1⟨rfl,rfl⟩;rw[f.o];go_wp2_with fail;go_ret2;exact⟨by rw[c.o.1,c.o.2];rfl,rfl⟩
def Un(a b:Int)(e:BP a)(d:BP b)(w:Ϣ):ϙ prog 198 #[O 28,O a,O b] w (EH 28 a b w):=by
 unfold BP at e d;have c:=@Lh (Bo 28 a b=min a b/\BG 28 a b=0) (by simp[Bo,BG,Du]);have f:=@Lh (Af (min a b)=ϑ) (by first|exact D9 _|exact Aq.2 (by unfold BP;omega));go_in;go_wp2_with fail;refine(Ba (min a b) _).mono ?_;rintro g w1⟨rfl,rfl⟩;rw[f.o];go_wp2_with fail;go_ret2;exact⟨by rw[c.o.1,c.o.2];rfl,rfl⟩
def Mb(c a b:Int)(g:BB c)(e:BP a)(d:BP b)(w:Ϣ):ϙ prog 198 #[O c,O a,O b] w (EH c a b w):=by
 have f:c=15\/c=16\/c=17\/c=18\/c=19\/c=20\/c=21\/c=22\/c=23\/c=24\/c=25\/c=27\/c=28:=by unfold BB at g;omega
 rcases f with rfl|rfl|rfl|rfl|rfl|rfl|rfl|rfl|rfl|rfl|rfl|rfl|rfl
 .exact Ub a b e d w
 .exact Uc a b e d w
 .exact Ud a b e d w
 .exact Ue a b e d w
 .exact Uf a b e d w
 .exact Ug a b e d w
 .exact Uh a b e d w
 .exact Ui a b e d w
 .exact Uj a b e d w
 .exact Uk a b e d w
 .exact Ul a b e d w
 .exact Um a b e d w
 exact Un a b e d w
def J0:∀(f x:Nat),x<2 ^ f->Lib.bitLenAux (f+1) x=Lib.bitLenAux f x
 |0,x,a=>by
  have:x=0:=by simpa using a
  subst this;rfl
 |f+1,x,a=>by
  have b:=J0 f (x/2) (by rw[Nat.pow_succ]at a;omega);show(if x=0 then 0 else 1+Lib.bitLenAux (f+1) (x/2))=(if x=0 then 0 else 1+Lib.bitLenAux f (x/2));rw[b]
def OF{x:Nat}(a:2<=x)(a:x<2 ^ 64):Lib.bitLen x=Lib.bitLen (x/2)+1:=by
 have b:Lib.bitLenAux 64 (x/2)=Lib.bitLenAux 63 (x/2):=J0 63 (x/2) H;have a:Lib.bitLenAux 64 x=1+Lib.bitLenAux 63 (x/2):=by show(if x=0 then 0 else 1+Lib.bitLenAux 63 (x/2))=_;rw[if_neg H]
 show Lib.bitLenAux 64 x=Lib.bitLenAux 64 (x/2)+1;rw[b,a,Nat.add_comm]
def Sn(v:Int)(c:BP v)(w:Ϣ):ϙ prog 207 #[O v] w λb w'=>b=.returned (O (EA v))/\w=w':=by
 unfold BP at c;go_in;go_wp2_with fail;go_loop[0,3] (λx c=>∃b j:Int,x=O b/\c=O j/\0<=j/\j<=64/\-1099511627776<=b/\b<=1099511627776/\Hid (EA b+j=EA v)) (λx c=>(intOf x).toNat);exact⟨v,0,rfl,rfl,H,H,H,H,Lh H⟩;obtain⟨a,j,rfl,rfl,_,_,_,_,f⟩:=hrel;by_cases h:1<a
 .have g:a.tdiv 2=a/2:=by rw[Int.tdiv_eq_ediv_of_nonneg H]
  have:EA a=EA (a/2)+1:=by unfold EA;have c:(max 1 a).toNat=a.toNat:=H;have b:(max 1 (a/2)).toNat=a.toNat/2:=H;rw[c,b,OF (x:=a.toNat) H H];omega
  have d:=@Lh (EA (a/2)+(j+1)=EA v) (by have:=f.o;omega);have:j+1<=64:=by
   have:=d.o;have:EA v<=63:=by unfold EA Lib.bitLen;have:=E6 64 (max 1 v).toNat;omega
   have:0<=EA (a/2):=by
    unfold EA;have:1<=Lib.bitLen (max 1 (a/2)).toNat:=by unfold Lib.bitLen Lib.bitLenAux;rw[if_neg H];omega
    omega
   omega
  go_wp2_with(rw[g]);go_round
  .exact ⟨a/2,j+1,by go_num,by go_num,H,H,H,H,d⟩
  show(a/2).toNat<a.toNat;omega
 have c:EA a=0:=by unfold EA;have b:(max 1 a).toNat=1:=H;rw[b];rfl
 have a:=f.o;rw[c]at a;have e:=Lh a;go_wp2;go_ret;exact⟨by rw[<-e.o];simp,rfl⟩
def Ce(l:List Int):Bool:=!(l.any λn=>!Af n)
def Db(l:List Int)(v:ϒ)(B:Nat)(w:Ϣ)(g:AE B w 1 Aj v l):ϙ prog 65 #[v] w λf w'=>f=.returned (.bool (Ce l))/\w=w':=by
 obtain⟨a,cap,rfl,_,_,_,k⟩:=g;have C:=Lh k;go_in;go_wp2_with fail;go_loop[3] (λg=>∃f:Nat,f<=l.length/\g=O f/\Hid (∀(j:Nat) c,j<f->l[j]?=X c->Af c=ϑ)) (λg=>l.length-(intOf g).toNat);exact⟨0,Nat.zero_le _,rfl,Lh (λj c f=>by omega)⟩;obtain⟨d,_,rfl,z⟩:=hrel;by_cases A:d<l.length
 .obtain ⟨c,h⟩:=Ϡ l d A
  rcases C.o with o|⟨b,t,rfl,_,k⟩
  .subst o;simp at h
  have:w.cell? (D b (t+d))=X (O c):=by have:=(k d c h).1;rw[Nat.mul_one]at this;exact this
  have p:=Lh h;go_wp2_with fail;refine(Ba _ _).mono ?_;rintro E w'⟨rfl,rfl⟩;cases m:Af c with
  |false=>
   have u:=@Lh (Ce l=ϝ) (by
    unfold Ce;have:l.any (λn=>!Af n)=ϑ:=List.any_eq_true.2 ⟨c,Lm p.o,by rw[m];rfl⟩;rw[this];rfl)
   go_wp2;go_ret;exact⟨by rw[u.o];rfl,rfl⟩
  |true=>
   have x:Hid (∀(j:Nat) e,j<d+1->l[j]?=X e->Af e=ϑ):=Lh (λj e f i=>by
    by_cases r:j=d
    .subst r;have:=p.o.symm.trans i;cases this;exact m
    exact z.o j e H i)
   go_wp2;go_round;exact⟨d+1,H,by go_num,x⟩;simp[intOf];omega
 have y:=@Lh (Ce l=ϑ) (by
  unfold Ce;have:l.any (λn=>!Af n)=ϝ:=by rw[List.any_eq_false];intro c q;obtain⟨j,s,rfl⟩:=List.getElem_of_mem q;rw[z.o j _ H (Lg s)];simp
  rw[this];rfl)
 go_wp2;go_ret;exact⟨by rw[y.o];rfl,rfl⟩
def Ic(c:AQ)(h:ϒ)(l:ByteArray)(B:Nat)(w:Ϣ)(P:B<=w)(J:BF B w h c):ϙ prog 66 #[h,.string l] w λh w'=>h=.returned (O (Cz (λf=>CM f.name l) c.q0))/\Below w w w':=by
 obtain⟨_,_,rfl,r,t,-⟩:=J;obtain⟨A,C,rfl,-⟩:=r;obtain⟨y,z,rfl,_,_,_,i⟩:=t;have N:=Lh i;let⟨W,a⟩:=ε (w.alloc (K (Bc A C y z c) 25));have E:=Lh (bl1 a);have F:=Lh (Xbq a);have u:=Lh a;clear a;go_in;go_wp2_with fail;rw[<-u.o];have:=F.o 2 _ rfl;go_loop[5] (λi=>∃h:Nat,h<=c.q0.length/\i=O h/\Hid (∀(j:Nat) a,j<h->c.q0[j]?=X a->CM a.name l=ϝ)) (λi=>c.q0.length-(intOf i).toNat);exact⟨0,Nat.zero_le _,rfl,Lh (λj a h=>by omega)⟩;obtain⟨g,_,rfl,n⟩:=hrel;by_cases L:g<c.q0.length
 .obtain ⟨a,e⟩:=Ϡ c.q0 g L
  rcases N.o with q|⟨b,_,rfl,x,s⟩
  .rw [q]at e;simp at e
  have:=((s g a e).below (E.o.mono P) x).1;have p:=Lh e;cases k:CM a.name l with
  |true=>have G:=Lh (DO p.o k (λj d e h=>n.o j d e h));have:(a.name.toList==l.toList)=ϑ:=k;go_wp2;go_ret;exact⟨by rw[G.o];rfl,E.o⟩
  |false=>
   have M:Hid (∀(j:Nat) d,j<g+1->c.q0[j]?=X d->CM d.name l=ϝ):=Lh (λj d e m=>by
    by_cases o:j=g
    .subst o;have:=p.o.symm.trans m;cases this;exact k
    exact n.o j d H m)
   have:(a.name.toList==l.toList)=ϝ:=k;go_wp2;go_round;exact⟨g+1,H,by go_num,M⟩;simp[intOf];omega
 have v:=Lh (CR (λj d e a=>n.o j d H a));go_wp2;go_ret;exact⟨by rw[v.o];rfl,E.o⟩
def Q7(c:AQ)(x:Bi)(fuel:Int)(w:Ϣ)(e:Ending)(w':Ϣ):Prop:=e=.returned (O (AS c x fuel))/\Below w w w'
def EY{c:AQ}{x:Bi}{fuel:Int}(b:AS c x fuel=n)(a:Below w w w'):Q7 c x fuel w (.returned (O n)) w':=⟨by rw[b],a⟩
def PS(c:AQ)(l:ϒ)(x:Bi)(k:ϒ)(fuel:Int)(B:Nat)(w:Ϣ)(z:B<=w)(T:BF B w l c)(R:Gh B w k x) :
  ϙ prog 35 #[l,k,O fuel] w (Q7 c x fuel w):=by
 obtain⟨fv,_,rfl,n,S,_⟩:=id T;obtain⟨C,E,rfl⟩:=n.u1;obtain⟨bO,bP,rfl⟩:=S.u1;obtain⟨_,rfl,M,_⟩:=R;obtain⟨y,A,rfl⟩:=M.u1;let⟨W,a⟩:=ε ((w.alloc (K (Bc C E bO bP c) 25)).alloc (K #[.string x.proc,U y x.args A] 64));have i:=Lh (bl2 a);have bM:=Xdu a;have bN:=Xek a;by_cases bS:fuel<0\/1048576<fuel
 .have j:=@Lh (AS c x fuel=2) (by unfold AS;rw[if_pos bS])
  by_cases bQ:fuel<0
  .go_in
   go_upto_region 1 with fail;rw[<-a];clear a;go_wp2;go_ret;exact EY j.o i.o
  have:1048576<fuel:=H;go_in;go_upto_region 1 with fail;rw[<-a];clear a;go_wp2;go_ret;exact EY j.o i.o
 have L:=Lh bS;have:=θ (fuel<0);have:=θ (1048576<fuel);let⟨bG,cB,cC⟩:=Γ3 bM;let⟨bY,bZ⟩:=Γ2 bN;have bE:=Lh (T.below (i.o.mono z));have cA:=Lh (M.ints (i.o.mono z));have t:=Nt z i.o.size;have bT:=Lh S;rcases G1 (λf=>CM f.name x.proc) c.q0 with e|⟨b,bL,e⟩
 .have bI:=@Lh (AS c x fuel=9) (by
   have:Dh c x.proc = -1:=e;unfold AS;rw[if_neg L.o];cases c.q0[(Dh c x.proc).toNat]? with
   |none=>rfl
   |some g=>simp only[];rw[if_pos H])
  have Q:=Lh e;go_in;go_upto_region 1 with fail;rw[<-a];clear a;go_wp2_with fail;refine(Ic c _ x.proc B W t bE.o).mono ?_;rintro l w1⟨rfl,k⟩;rw[Q.o];have r:=Lh (i.o.th k);go_wp2;go_ret;exact EY bI.o r.o
 let⟨g,d⟩:=Ϡ c.q0 b bL;have bK:=Lh e;have k:Dh c x.proc=b:=e;have N:=Lh k;let⟨o,p,s,_,_,_,j⟩:=bT.o;obtain⟨rfl,rfl⟩:bO=o/\bP=p:=by simpa using s
 rcases j with bQ|⟨_,_,rfl,bH,j⟩
 .rw [bQ]at d;simp at d
 have bF:=Lh (j b g d);have F:=Lh d;have:=In b;have:(b:Int)<(c.q0:Int):=H;have:=θ ((b:Int)<0);go_in;go_upto_region 1 with fail;rw[<-a];clear a;go_wp2_with fail;refine(Ic c _ x.proc B W t bE.o).mono ?_;rintro d w1⟨rfl,b⟩;rw[bK.o];have m:=Lh (i.o.th b);have bG:=Δ5 b bG cB cC bY bZ;have d:=bF.o.below (m.o.mono z) bH;have bJ:=d.2.1;have bR:=Lh (cA.o.ints (b.mono t));by_cases h:(x.args:Int)=g.params;rotate_left
 .have V:=@Lh (AS c x fuel=3) (by
   unfold AS;rw[if_neg L.o,N.o];simp only[Int.toNat_natCast,F.o];rw[if_neg H,if_pos h])
  have:((x.args:Int) !=g.params)=ϑ:=by simp[h]
  go_wp2_with fail;go_quiet(fail);have q:=Lh (AG m.o nq);go_wp2;go_ret;exact EY V.o q.o
 have:((x.args:Int) !=g.params)=ϝ:=by simp[h]
 have J:=Lh h;have b:=bJ;rw[<-h]at b;go_wp2_with fail;go_quiet(fail);have P:=Lh (AG m.o nq);have G:=Lh (bR.o.ints (AG Br nq));cases a:Ce x.args with
 |false=>
  have bD:=@Lh (AS c x fuel=11) (by
   unfold AS;rw[if_neg L.o,N.o];simp only[Int.toNat_natCast,F.o];unfold Ce at a;rw[if_neg H,if_neg (by rw[J.o];simp),if_pos (by simpa using a)])
  have u:=Lh a;go_wp2_with fail;refine(Db x.args _ B _ G.o).mono ?_;rintro bU bW⟨rfl,rfl⟩;rw[u.o];go_wp2;go_ret;exact EY bD.o P.o
 |true=>
  have Y:=@Lh (AS c x fuel=0) (by
   unfold AS;rw[if_neg L.o,N.o];simp only[Int.toNat_natCast,F.o];unfold Ce at a;rw[if_neg H,if_neg (by rw[J.o];simp),if_neg (by simpa using a)])
  have v:=Lh a;go_wp2_with fail;refine(Db x.args _ B _ G.o).mono ?_;rintro bV bX⟨rfl,rfl⟩;rw[v.o];go_wp2;go_ret;exact EY Y.o P.o
def Gc(e xa:Int)(m':AV)(q:(e=3/\∃(c:Nat),xa=(c:Int)/\(c<f.L.length)/\∃(b:List Int),∃(v:Int),(f.S=b++[v])/\(in64 v)/\m'={m with J:=fs++[{f with L:=f.L.set c v,S:=b}]})\/(e=14/\∃(b:List Int),∃(v:Int),(f.S=b++[v])/\(BP v)/\m'={m with J:=fs++[{f with S:=b++[-v]}]})\/(e=26/\∃(b:List Int),∃(v:Int),(f.S=b++[v])/\(BP v)/\m'={m with J:=fs++[{f with S:=b++[D0 (v==0)]}]})\/(e=29/\∃(b:List Int),∃(v:Int),(f.S=b++[v])/\(BP v)/\m'={m with J:=fs++[{f with S:=b++[EA v]}]}))(j:Cv w fv m.J F)(o:m.J=fs++[f])(G:fs.length<=200)(bY:f.S.length<1000000-2) :
  ϙ prog 196 #[AJ fv m,.agg #[O e,O xa]] w (DK w F m'):=by
 obtain⟨fb,cap,Q,cs,lv,sv,Fi,Fl,Fs,rfl,rfl,l⟩:=j.top o;have hF:=Lh j.lt;let⟨W,a⟩:=ε (((w.alloc (K (AC (U (X (D fb 0)) (fs.length+1) cap) m) 59)).alloc (K #[O e,O xa] 96)).alloc (K (AC Z AI) 59));have Y:=Lh (bl3 a);have bX:=Lh (sz3 a);have i:=Xda a;have g:=Xhh a;have k:=Xbs a;have d:=l W (w:Nat) m Y.o i (Nr _);have bP:=Lh d;have bR:=@Lh (AN W.drew w fb cap Q cs fs f lv sv m Fi Fl Fs) (d.kp (AG Br 1));let⟨r,s,t,u,x,y,z,A,B⟩:=AO i;have T:=Γ2 g;have bW:=Lh k;have:(fs:Int)<(fs:Int)+1:=H;have:=In fs;have bZ:(w:Nat)+1∉(w:Nat)::fb::(Fi++(Fl++Fs)):=λh=>by
  rw[ϰ]at h;rcases h with h|h
  .omega
  have:=hF.o _ h;omega
 have:=Lh g;have P:=Lh q;clear i g k l d j o q;unfold AJ;unfold AC AI at a;unfold AC;dsimp only at a ⊢;go_in;go_upto_region 1 with fail;rw[<-a];have:=Lh a;clear a;rcases P.o with ⟨rfl,c,rfl,k,b,v,d,bU,rfl⟩|⟨rfl,b,v,d,N,rfl⟩|⟨rfl,b,v,d,N,rfl⟩|⟨rfl,b,v,d,N,rfl⟩
 .have a:=bP.o
  let⟨n,g⟩:=Ϡ f.L c k;have S:=Lh g;let⟨bQ,_,j,l,o,i⟩:=a.loc.u1 H;subst j;have bS:=a.cLv;have:=In c;have:(c:Int)<(f.L:Int):=H;have C:=Lh d;clear a P g d;clear l o i;go_upto_region 8 with fail;go_region_with (first|(go_at_call 197;refine(BZ m bR.o G b v C.o).mono ?_;rintro h w1⟨rfl,_,_,l,a,i⟩;let⟨j0,j1,j2,j3,j4,j5,j6,j7,j8⟩:=AO a.u2;have M:=i.cd T.2 bZ;have L:=a.cLv;have J:=a.loc.cellAt S.o;have E:=a.loc.1.frozenAt c;have o:=Lh a;have q:Hid (AW ((w:Nat)::fb::(Fi++(Fl++Fs))) ((w:Nat)::fb::(Fi++(Fl++l))) W w1):=Lh ((AW.ob (AG Br 1)).trans i);clear a i));all_goals
   let⟨g,e⟩:=RS o.o c v bU;let⟨_,j⟩:=ε (w1.setCell (D bQ c) (O v));rw[<-j]at g e ⊢;have k:=Lh g;have C:=Lh (q.o.trans e);clear g e j T bS M L J E r s t u x y z A B j0 j1 j2 j3 j4 j5 j6 j7 j8;let⟨c,e,g⟩:=Ep Y.o k.o C.o hF.o (R:=(w:Nat)+1+1) H (by have:=bX.o;omega) bW.o;have M:=Lh e;have T3:=Lh g;have:=AO k.o.u2;have:=AO c;have:=AX c;clear c e g;go_wp2;exact ϖ (v:=AJ (U (X (D fb 0)) (fs.length+1) cap) m) (AL (p:=4) rfl M.o _ rfl) rfl T3.o
 .have c:=bP.o
  have bV:=Lh d;have L:b.length<1000000:=by have:=congrArg List.length d;simp at this;omega
  have:-1099511627776<=v/\v<=1099511627776:=N;have J:in64 (-v):=⟨H,H⟩;have:IntKind.i64.wrap (-v) = -v:=by rw[IntKind.wrap_i64];omega
  clear c P d;go_upto_region 20 with fail;go_region_held3 (λV=>V.cell? (D w 0)=X (U (X (D fb 0)) (fs.length+1) cap)/\V.cell? (D w 1)=X (O m.Q.K)/\V.cell? (D w 2)=X (O m.Q.O)/\V.cell? (D w 3)=X (O m.Q.D)/\V.cell? (D w 4)=X (O m.Q.V)/\V.cell? (D w 5)=X (O m.Q.X)/\V.cell? (D w 6)=X (O m.Y)/\V.cell? (D w 7)=X (O m.C)/\V.cell? (D w 8)=X (O m.I))
   (first|exact⟨r,s,t,u,x,y,z,A,B⟩|exact⟨p0,p1,p2,p3,p4,p5,p6,p7,p8⟩|exact⟨j0,j1,j2,j3,j4,j5,j6,j7,j8⟩)
   (first|(go_at_call 197;refine(BZ m bR.o G b v bV.o).mono ?_;rintro h w1⟨rfl,_,_,l,a,i⟩;let⟨j0,j1,j2,j3,j4,j5,j6,j7,j8⟩:=AO a.u2;have o:=Lh a;have q:Hid (AW ((w:Nat)::fb::(Fi++(Fl++Fs))) ((w:Nat)::fb::(Fi++(Fl++l))) W w1):=Lh ((AW.ob (AG Br 1)).trans i);clear a i)|(go_at_call 171;refine(DP m o.o G (-v) ?_ ?_).mono ?_;(exact J);(exact L);rintro h w2⟨rfl,cur2,sv2,Fs2,hT2,hM2⟩;let⟨p0,p1,p2,p3,p4,p5,p6,p7,p8⟩:=AO hT2.u2;have g:=Lh hT2;have E:=Lh (q.o.trans hM2);clear hT2 hM2))
  clear T r s t u x y z A B j0 j1 j2 j3 j4 j5 j6 j7 j8 p0 p1 p2 p3 p4 p5 p6 p7 p8;let⟨c,e,j⟩:=Ep Y.o g.o E.o hF.o (R:=(w:Nat)+1+1) H (by have:=bX.o;omega) bW.o;have J:=Lh e;have T3:=Lh j;have:=AO g.o.u2;have:=AO c;have:=AX c;clear c e j;go_wp2;exact ϖ (v:=AJ (U (X (D fb 0)) (fs.length+1) cap) m) (AL (p:=4) rfl J.o _ rfl) rfl T3.o
 .have L:=bP.o
  have bT:=Lh d;have cA:b.length<1000000:=by have:=congrArg List.length d;simp at this;omega
  have:-1099511627776<=v/\v<=1099511627776:=N;have bS:in64 (D0 (v==0)):=by cases(v==0)<;>exact⟨δ,δ⟩
  clear L P d;go_upto_region 22 with fail;go_region_held3 (λV=>V.cell? (D w 0)=X (U (X (D fb 0)) (fs.length+1) cap)/\V.cell? (D w 1)=X (O m.Q.K)/\V.cell? (D w 2)=X (O m.Q.O)/\V.cell? (D w 3)=X (O m.Q.D)/\V.cell? (D w 4)=X (O m.Q.V)/\V.cell? (D w 5)=X (O m.Q.X)/\V.cell? (D w 6)=X (O m.Y)/\V.cell? (D w 7)=X (O m.C)/\V.cell? (D w 8)=X (O m.I))
   (first|exact⟨r,s,t,u,x,y,z,A,B⟩|exact⟨p0,p1,p2,p3,p4,p5,p6,p7,p8⟩|exact⟨j0,j1,j2,j3,j4,j5,j6,j7,j8⟩)
   (first|(go_at_call 197;refine(BZ m bR.o G b v bT.o).mono ?_;rintro h w1⟨rfl,_,_,l,a,i⟩;let⟨j0,j1,j2,j3,j4,j5,j6,j7,j8⟩:=AO a.u2;have o:=Lh a;have q:Hid (AW ((w:Nat)::fb::(Fi++(Fl++Fs))) ((w:Nat)::fb::(Fi++(Fl++l))) W w1):=Lh ((AW.ob (AG Br 1)).trans i);clear a i)|(go_at_call 199;refine(Eo (v==0) _).mono ?_;rintro h w3⟨rfl,rfl⟩)|(go_at_call 171;refine(DP m o.o G (D0 (v==0)) ?_ ?_).mono ?_;(exact bS);(exact cA);rintro h w2⟨rfl,cur2,sv2,Fs2,hT2,hM2⟩;let⟨p0,p1,p2,p3,p4,p5,p6,p7,p8⟩:=AO hT2.u2;have g:=Lh hT2;have E:=Lh (q.o.trans hM2);clear hT2 hM2))
  clear T r s t u x y z A B j0 j1 j2 j3 j4 j5 j6 j7 j8 p0 p1 p2 p3 p4 p5 p6 p7 p8;let⟨c,e,j⟩:=Ep Y.o g.o E.o hF.o (R:=(w:Nat)+1+1) H (by have:=bX.o;omega) bW.o;have L:=Lh e;have T3:=Lh j;have:=AO g.o.u2;have:=AO c;have:=AX c;clear c e j;go_wp2;exact ϖ (v:=AJ (U (X (D fb 0)) (fs.length+1) cap) m) (AL (p:=4) rfl L.o _ rfl) rfl T3.o
 have c:=bP.o;have bS:=Lh d;have cB:b.length<1000000:=by have:=congrArg List.length d;simp at this;omega
 have:-1099511627776<=v/\v<=1099511627776:=N;have cA:=(MX v).in64;clear c P d;go_upto_region 24 with fail;go_region_held3 (λV=>V.cell? (D w 0)=X (U (X (D fb 0)) (fs.length+1) cap)/\V.cell? (D w 1)=X (O m.Q.K)/\V.cell? (D w 2)=X (O m.Q.O)/\V.cell? (D w 3)=X (O m.Q.D)/\V.cell? (D w 4)=X (O m.Q.V)/\V.cell? (D w 5)=X (O m.Q.X)/\V.cell? (D w 6)=X (O m.Y)/\V.cell? (D w 7)=X (O m.C)/\V.cell? (D w 8)=X (O m.I))
  (first|exact⟨r,s,t,u,x,y,z,A,B⟩|exact⟨p0,p1,p2,p3,p4,p5,p6,p7,p8⟩|exact⟨j0,j1,j2,j3,j4,j5,j6,j7,j8⟩)
  (first|(go_at_call 197;refine(BZ m bR.o G b v bS.o).mono ?_;rintro h w1⟨rfl,_,_,l,a,i⟩;let⟨j0,j1,j2,j3,j4,j5,j6,j7,j8⟩:=AO a.u2;have o:=Lh a;have q:Hid (AW ((w:Nat)::fb::(Fi++(Fl++Fs))) ((w:Nat)::fb::(Fi++(Fl++l))) W w1):=Lh ((AW.ob (AG Br 1)).trans i);clear a i)|(go_at_call 207;refine(Sn v N _).mono ?_;rintro h w3⟨rfl,rfl⟩)|(go_at_call 171;refine(DP m o.o G (EA v) ?_ ?_).mono ?_;(exact cA);(exact cB);rintro h w2⟨rfl,cur2,sv2,Fs2,hT2,hM2⟩;let⟨p0,p1,p2,p3,p4,p5,p6,p7,p8⟩:=AO hT2.u2;have g:=Lh hT2;have E:=Lh (q.o.trans hM2);clear hT2 hM2))
 clear T r s t u x y z A B j0 j1 j2 j3 j4 j5 j6 j7 j8 p0 p1 p2 p3 p4 p5 p6 p7 p8;let⟨a,b,c⟩:=Ep Y.o g.o E.o hF.o (R:=(w:Nat)+1+1) H (by have:=bX.o;omega) bW.o;have d:=Lh b;have T3:=Lh c;have:=AO g.o.u2;have:=AO a;have:=AX a;clear a b c;go_wp2;exact ϖ (v:=AJ (U (X (D fb 0)) (fs.length+1) cap) m) (AL (p:=4) rfl d.o _ rfl) rfl T3.o
def DG(c xa:Int)(m':AV)(u:(c=1/\(in64 xa)/\m'={m with J:=fs++[{f with S:=f.S++[xa]}]})\/(c=2/\∃(q:Nat),xa=(q:Int)/\∃(n:Int),(f.L[q]?=X n)/\(in64 n)/\m'={m with J:=fs++[{f with S:=f.S++[n]}]})\/(c=11/\(in64 xa)/\m'={m with J:=fs++[{f with pc:=xa}]})\/(c=12/\(in64 xa)/\∃(e:List Int),∃(v:Int),(f.S=e++[v])/\(v=0)/\m'={m with J:=fs++[{f with pc:=xa,S:=e}]})\/(c=12/\∃(e:List Int),∃(v:Int),(f.S=e++[v])/\(v≠0)/\m'={m with J:=fs++[{f with S:=e}]})\/(c=13/\(m.Y=0)/\m'={m with Q:=Ah 20,J:=[]})\/(c=13/\(m.Y≠0)/\(0<=m.Y/\m.Y<=4611686018427387904)/\m'={m with Y:=m.Y-1,I:=0,J:=fs++[f]})\/(c=30/\∃(e:List Int),∃(v:Int),(f.S=e++[v])/\m'={m with J:=fs++[{f with S:=e}]})\/(c=31/\∃(e:List Int),∃(v:Int),(f.S=e++[v])/\(in64 v)/\m'={m with J:=fs++[{f with S:=e++[v]++[v]}]}))(k:Cv w fv m.J F)(t:m.J=fs++[f])(P:fs.length<=200)(dC:f.S.length<1000000-2) :
  ϙ prog 196 #[AJ fv m,.agg #[O c,O xa]] w (DK w F m'):=by
 obtain⟨fb,cap,cZ,cs,lv,sv,Fi,Fl,Fs,rfl,rfl,r⟩:=k.top t;have hF:=Lh k.lt;let⟨W,a⟩:=ε (((w.alloc (K (AC (U (X (D fb 0)) (fs.length+1) cap) m) 59)).alloc (K #[O c,O xa] 96)).alloc (K (AC Z AI) 59));have x:=Lh (bl3 a);have C:=Lh (sz3 a);have i:=Xda a;have g:=Xhh a;have o:=Xbs a;have d:=r W (w:Nat) m x.o i (Nr _);have j:=Lh d;have dG:=@Lh (AN W.drew w fb cap cZ cs fs f lv sv m Fi Fl Fs) (d.kp (AG Br 1));have h:=AO i;have s:=Γ2 g;have B:=Lh o;have:(fs:Int)<(fs:Int)+1:=H;have:=In fs;have dE:(w:Nat)+1∉(w:Nat)::fb::(Fi++(Fl++Fs)):=λl=>by
  rw[ϰ]at l;rcases l with l|l
  .omega
  have:=hF.o _ l;omega
 have:=Lh g;have y:=Lh u;clear i g o r d k t u;unfold AJ;unfold AC AI at a;unfold AC;dsimp only at a ⊢;go_in;go_upto_region 1 with fail;rw[<-a];have:=Lh a;clear a;rcases y.o with ⟨rfl,E,rfl⟩|⟨rfl,q,rfl,n,i,dF,rfl⟩|⟨rfl,E,rfl⟩|⟨rfl,E,e,v,r,z,rfl⟩|⟨rfl,e,v,r,z,rfl⟩|⟨rfl,cY,rfl⟩|⟨rfl,cY,_,rfl⟩|⟨rfl,e,v,r,rfl⟩|⟨rfl,e,v,r,E,rfl⟩
 .have a:=j.o
  clear a y;go_wp2_with fail;refine(DP m j.o P xa E H).mono ?_;rintro l w1⟨rfl,_,_,cW,a,d⟩;have o:=Lh a;have A:=Lh d;clear a d s h;let⟨c,g,k⟩:=Ep x.o o.o A.o hF.o (R:=(w:Nat)+1+1) H (by have:=C.o;omega) B.o;have cN:=Lh g;have T3:=Lh k;have:=AO o.o.u2;have:=AO c;have:=AX c;clear c g k;go_wp2;exact ϖ (v:=AJ (U (X (D fb 0)) (fs.length+1) cap) m) (AL (p:=4) rfl cN.o _ rfl) rfl T3.o
 .have g:=j.o
  have:=(Ll i);let⟨Q,dB,u,_,_,_⟩:=g.loc.u1 H;subst u;have G:=g.cLv;have t:=g.loc.cellAt i;have:=In q;have:(q:Int)<(f.L:Int):=H;have dD:=Lh i;clear g y i;go_upto_region 6 with fail;go_region_held3 (λV=>V.cell? (D w 0)=X (U (X (D fb 0)) (fs.length+1) cap)/\V.cell? (D w 1)=X (O m.Q.K)/\V.cell? (D w 2)=X (O m.Q.O)/\V.cell? (D w 3)=X (O m.Q.D)/\V.cell? (D w 4)=X (O m.Q.V)/\V.cell? (D w 5)=X (O m.Q.X)/\V.cell? (D w 6)=X (O m.Y)/\V.cell? (D w 7)=X (O m.C)/\V.cell? (D w 8)=X (O m.I)/\V.cell? (D (w+1) 1)=X (O (q:Int))/\V.cell? (D fb (fs.length*4+2))=X (U (X (D Q 0)) f.L dB)/\V.cell? (D Q q)=X (O n))
   (first|exact⟨h.1,h.2.1,h.2.2.1,h.2.2.2.1,h.2.2.2.2.1,h.2.2.2.2.2.1,h.2.2.2.2.2.2.1,h.2.2.2.2.2.2.2.1,h.2.2.2.2.2.2.2.2,s.2,G,t⟩|exact⟨dA,j1,j2,j3,j4,j5,j6,j7,j8,k,g,i⟩)
   (first|(go_at_call 171;refine(DP m dG.o P n dF H).mono ?_;rintro l w1⟨rfl,_,_,cW,a,d⟩;let⟨dA,j1,j2,j3,j4,j5,j6,j7,j8⟩:=AO a.u2;have k:=d.cd s.2 dE;have g:=a.cLv;have i:=a.loc.cellAt dD.o;have o:=Lh a;have A:Hid (AW ((w:Nat)::fb::(Fi++(Fl++Fs))) ((w:Nat)::fb::(Fi++(Fl++cW))) W w1):=Lh ((AW.ob (AG Br 1)).trans d);clear a d))
  clear s G t k g i h dA j1 j2 j3 j4 j5 j6 j7 j8;let⟨c,g,i⟩:=Ep x.o o.o A.o hF.o (R:=(w:Nat)+1+1) H (by have:=C.o;omega) B.o;have cO:=Lh g;have T3:=Lh i;have:=AO o.o.u2;have:=AO c;have:=AX c;clear c g i;go_wp2;exact ϖ (v:=AJ (U (X (D fb 0)) (fs.length+1) cap) m) (AL (p:=4) rfl cO.o _ rfl) rfl T3.o
 .have k:=j.o
  have L:=k.cPc;have G:=k.frf (fs.length*4+1);let⟨i,g⟩:=Jl j.o xa E;let⟨_,c⟩:=ε (W.setCell (D fb (fs.length*4+1)) (O xa));rw[<-c]at i g;have t:=Lh i;have Y:=Lh g;have J:=Lh c;clear i g c;clear k y;go_upto_region 31 with fail;rw[<-J.o];clear s L G h;let⟨c,g,i⟩:=Ep x.o t.o Y.o hF.o (R:=(w:Nat)+1+1) H (by have:=C.o;omega) B.o;have cP:=Lh g;have T3:=Lh i;have:=AO t.o.u2;have:=AO c;have:=AX c;clear c g i;go_wp2;exact ϖ (v:=AJ (U (X (D fb 0)) (fs.length+1) cap) m) (AL (p:=4) rfl cP.o _ rfl) rfl T3.o
 .have c:=j.o
  have M:=Lh r;have:(v==0)=ϑ:=by rw[z];rfl
  clear c y r z;go_wp2_with fail;refine(BZ m j.o P e v M.o).mono ?_;rintro l w1⟨rfl,_,_,cW,a,d⟩;have T:=AO a.u2;have S:=d.cell s.2 dE;have N:=a.cPc;have L:=a.frf (fs.length*4+1);let⟨i,g⟩:=Jl a xa E;let⟨_,c⟩:=ε (w1.setCell (D fb (fs.length*4+1)) (O xa));rw[<-c]at i g;have k:=Lh i;have cK:=Lh (d.trans g);have G:=Lh c;clear i g c a d s h;go_upto_region 31 with fail;rw[<-G.o];clear S N L T;let⟨c,g,i⟩:=Ep x.o k.o cK.o hF.o (R:=(w:Nat)+1+1) H (by have:=C.o;omega) B.o;have cR:=Lh g;have T3:=Lh i;have:=AO k.o.u2;have:=AO c;have:=AX c;clear c g i;go_wp2;exact ϖ (v:=AJ (U (X (D fb 0)) (fs.length+1) cap) m) (AL (p:=4) rfl cR.o _ rfl) rfl T3.o
 .have c:=j.o
  have L:=Lh r;have:=beq_eq_false_iff_ne.2 z;clear c y r z;go_wp2_with fail;refine(BZ m j.o P e v L.o).mono ?_;rintro l w1⟨rfl,_,_,cW,a,d⟩;have o:=Lh a;have A:=Lh d;clear a d s h;go_upto_region 31 with fail;let⟨c,g,i⟩:=Ep x.o o.o A.o hF.o (R:=(w:Nat)+1+1) H (by have:=C.o;omega) B.o;have cS:=Lh g;have T3:=Lh i;have:=AO o.o.u2;have:=AO c;have:=AX c;clear c g i;go_wp2;exact ϖ (v:=AJ (U (X (D fb 0)) (fs.length+1) cap) m) (AL (p:=4) rfl cS.o _ rfl) rfl T3.o
 .have c:=j.o
  have:(m.Y==0)=ϑ:=by rw[cY];rfl
  clear c y cY;go_wp2_with fail;refine(DX _ _ _ m 20 _).mono ?_;rintro l w1⟨rfl,g⟩;have c:w1.heap[(w:Nat)+1+1]?=X (K (AC Z AI) 59 (0,0)):=by rw[g.block _ (by have:=C.o;omega)];exact B.o
  let⟨i,k⟩:=AZ c Z {m with Q:=Ah 20,J:=[]};have cX:=Lh ((x.o.th g).trans (k.below (λb q=>by simp at q;omega) (x.o.th g).size));have cM:=Lh i;have:=AO c;have:=AX c;clear c i k g s h;unfold AJ AC;go_wp2;exact ϖ (v:=AJ Z {m with Q:=Ah 20,J:=[]}) (AL (p:=4) rfl cM.o _ rfl) rfl ⟨_,[],rfl,Ds _,(AW.ob cX.o).wide (F:=fb::(Fi++(Fl++Fs))) (Fs:=[]) (Fs':=[]) ψ ψ⟩
 .have u:=j.o
  have:=beq_eq_false_iff_ne.2 cY;let⟨c,t⟩:=KD u Br (m':={m with Y:=m.Y-1}) 6 (O (m.Y-1)) (by unfold AC;rfl);let⟨G,q⟩:=ε (W.setCell (D w 6) (O (m.Y-1)));rw[<-q]at c t;let⟨i,k⟩:=KD c Br (m':={m with Y:=m.Y-1,I:=0}) 8 (O 0) (by unfold AC;rfl);let⟨_,g⟩:=ε (G.setCell (D w 8) (O 0));rw[<-g]at i k;have cV:=AX u.u2;have cT:=AX c.u2;have S:=AO c.u2;let⟨z,cU,N,T⟩:=Λ4 i (t.trans k) q g;clear c i t k q g;clear u y cY;go_upto_region 18 with fail;rw[<-N.o];go_upto_region 31 with fail;rw[<-T.o];clear s cV cT S h;let⟨c,g,i⟩:=Ep x.o z.o cU.o hF.o (R:=(w:Nat)+1+1) H (by have:=C.o;omega) B.o;have cV:=Lh g;have T3:=Lh i;have:=AO z.o.u2;have:=AO c;have:=AX c;clear c g i;go_wp2;exact ϖ (v:=AJ (U (X (D fb 0)) (fs.length+1) cap) {m with Y:=m.Y-1,I:=0}) (AL (p:=4) rfl cV.o _ rfl) rfl T3.o
 .have c:=j.o
  have i:=Lh r;clear c y r;go_wp2_with fail;refine(BZ m j.o P e v i.o).mono ?_;rintro l w1⟨rfl,_,_,cW,a,d⟩;have o:=Lh a;have A:=Lh d;clear a d s h;go_upto_region 31 with fail;let⟨c,g,i⟩:=Ep x.o o.o A.o hF.o (R:=(w:Nat)+1+1) H (by have:=C.o;omega) B.o;have cT:=Lh g;have T3:=Lh i;have:=AO o.o.u2;have:=AO c;have:=AX c;clear c g i;go_wp2;exact ϖ (v:=AJ (U (X (D fb 0)) (fs.length+1) cap) m) (AL (p:=4) rfl cT.o _ rfl) rfl T3.o
 have c:=j.o;have S:=Lh r;have:e.length+1<1000000:=by have:=congrArg List.length r;simp at this;omega
 clear c y r;go_wp2_with fail;refine(BZ m j.o P e v S.o).mono ?_;rintro l w1⟨rfl,_,_,cW,a,d⟩;have dA:=AO a.u2;have o:=Lh a;have A:=Lh d;clear a d s h;go_wp2_with fail;refine(DP m o.o P v E (by show e.length<1000000;omega)).mono ?_;rintro l i⟨rfl,_,_,_,a,c⟩;have r:=AO a.u2;have d:=Lh a;have s:=Lh (A.o.trans c);clear a c dA;go_wp2_with fail;refine(DP m d.o P v E (by show(e++[v]).length<1000000;simp;omega)).mono ?_;rintro l d⟨rfl,_,_,_,c,a⟩;have g:=Lh c;have h:=Lh (s.o.trans a);clear c a r;go_upto_region 31 with fail;let⟨a,c,d⟩:=Ep x.o g.o h.o hF.o (R:=(w:Nat)+1+1) H (by have:=C.o;omega) B.o;have r:=Lh c;have T3:=Lh d;have:=AO g.o.u2;have:=AO a;have:=AX a;clear a c d;go_wp2;exact ϖ (v:=AJ (U (X (D fb 0)) (fs.length+1) cap) m) (AL (p:=4) rfl r.o _ rfl) rfl T3.o
def BC(a:W.heap[b]?=X (K #[O r.K,O r.O,O r.D,O r.V,O r.X] 57 (0,0))) :
  W.cell? (D b 0)=X (O r.K)/\W.cell? (D b 1)=X (O r.O)/\W.cell? (D b 2)=X (O r.D)/\W.cell? (D b 3)=X (O r.V)/\W.cell? (D b 4)=X (O r.X):=by
 refine⟨?_,?_,?_,?_,?_⟩<;>(rw[cell_of_row _ _ _ _ _ _ a];rfl)
def JJ(c:AN w bm fb cap cur cs fs f lv sv m Fi Fl Fs)(r:Rq) :
  AN (BO w bm r) bm fb cap cur cs fs f lv sv {m with Q:=r} Fi Fl Fs/\AW (bm::fb::(Fi++(Fl++Fs))) (bm::fb::(Fi++(Fl++Fs))) w (BO w bm r):=by
 have g:=c.ne;let⟨h,e⟩:=EP c.u2 r;refine⟨c.putM h (λb a=>e.block b (c.lt b (List.mem_cons_of_mem _ a)) (λd=>?_)),e.wide (λb a=>by simp at a;simp[a]) (λb a=>.inr a)⟩;rw[List.mem_singleton]at d;rw[ϰ]at a;rcases a with a|a
 .exact g.1 (d.symm.trans a)
 exact(g.2 b a).1 d
def G7(d:W.heap[b]?=X (K #[O r.K,O r.O,O r.D,O r.V,O r.X] 57 (0,0)))(j:Nat)(v:ϒ)(a:Rq)
  (c:(#[O r.K,O r.O,O r.D,O r.V,O r.X]:Array ϒ).setIfInBounds j v=#[O a.K,O a.O,O a.D,O a.V,O a.X]) :
  (W.setCell (D b j) v).heap[b]?=X (K #[O a.K,O a.O,O a.D,O a.V,O a.X] 57 (0,0)):=by
 rw[<-c];exact ϡ _ _ _ _ _ _ d
def C2{vs:List ϒ}(g:AR V b vs)(f:b≠rb):AR (V.setCell (D rb j) v) b vs:=λd e c=>by
 rw[World.cell?_setCell_other _ _ _ _ (by intro a;exact f (congrArg Addr.block a).symm)];exact g d e c
def ER(e:AN V bm fb cap cur cs fs f lv sv m Fi Fl Fs)(a:AW F (bm::fb::(Fi++(Fl++Fs))) W V)
  (g:rb∉bm::fb::(Fi++(Fl++Fs))) (c:(W:Nat)<=rb) :
  AN (V.setCell (D rb j) v) bm fb cap cur cs fs f lv sv m Fi Fl Fs/\AW F (bm::fb::(Fi++(Fl++Fs))) W (V.setCell (D rb j) v):=by
 have d:∀b,b≠rb->(V.setCell (D rb j) v).heap[b]?=V.heap[b]?:=λb c=>heap_setCell_other _ _ _ _ c;refine⟨e.sub (λb c=>d b (λe=>g (e▸c))),a.os,a.tape,a.output,by simpa using a.size,λc e hF=>?_,a.new⟩;rw[d c H];exact a.block c e hF
def Le{F2:List Nat}(g:Below w w W)(c:AW ((w:Nat)::F) F2 W V)(e:Below V V w1)(hF:∀b∈F,b<(w:Nat))(h:(w:Nat)<R)(d:R<W)
  (l:W.heap[R]?=X (K (AC Z AI) 59 (0,0))) (m':AV) (m:m'.J=[]) :
  w1.heap[R]?=X (K (AC Z AI) 59 (0,0))/\(Ai w1 R Z m').heap[R]?=X (K (AC Z m') 59 (0,0))/\DK w F m' (.returned (AJ Z m')) (Ai w1 R Z m'):=by
 have i:R∉(w:Nat)::F:=λa=>by
  rw[ϰ]at a;rcases a with a|a
  .omega
  have:=hF _ a;omega
 have h:w1.heap[R]?=X (K (AC Z AI) 59 (0,0)):=by rw[e.block R (Nl d c.size),c.block R d i];exact l
 let⟨i,d⟩:=AZ h Z m';refine⟨h,i,_,[],rfl,by rw[m];exact Ds _,d.os.trans (e.os.trans (c.os.trans g.os)),d.tape.trans (e.tape.trans (c.tape.trans g.tape)),d.output.trans (e.output.trans (c.output.trans g.output)),Nt g.size (Nt c.size (Nt e.size d.size)),λf k j=>?_,ψ⟩;have:=c.size;have:=e.size;rw[d.block f H φ,e.block f H,c.block f H (λa=>by rw[ϰ]at a;rcases a with a|a;omega;exact j a),g.block f k]
def JM(c xa:Int)(m':AV)(cJ:(c=4/\m'={m with Q:=⟨1,0,xa,0,0⟩,J:=fs++[f]})\/(c=8/\m'={m with Q:=⟨3,0,xa,0,0⟩,J:=fs++[f]})\/(c=5/\∃(q:List Int),∃(v:Int),(f.S=q++[v])/\m'={m with Q:=⟨2,0,xa,v,0⟩,J:=fs++[{f with S:=q}]})\/(c=6/\∃(q:List Int),∃(v:Int),(f.S=q++[v])/\(1<=v)/\m'={m with Q:=⟨1,v,xa,0,0⟩,J:=fs++[{f with S:=q}]})\/(c=6/\∃(q:List Int),∃(v:Int),(f.S=q++[v])/\(v<1)/\m'={m with Q:=Ah 17,J:=[]}))(x:Cv w fv m.J F)(bC:m.J=fs++[f])(cL:fs.length<=200)(cI:f.S.length<1000000-2) :
  ϙ prog 192 #[AJ fv m,.agg #[O c,O xa]] w (DK w F m'):=by
 obtain⟨fb,cap,_,cs,lv,sv,Fi,Fl,Fs,rfl,rfl,bR⟩:=x.top bC;have hF:=Lh x.lt;let⟨W,a⟩:=ε (((w.alloc (K (AC (U (X (D fb 0)) (fs.length+1) cap) m) 59)).alloc (K #[O c,O xa] 96)).alloc (K (AC Z AI) 59));have bV:=Lh (bl3 a);have N:=Lh (sz3 a);have c:=Xda a;have o:=Xhh a;have bC:=Xbs a;have x:=bR W (w:Nat) m bV.o c (Nr _);have bT:=Lh x;have:=AO c;have:=Γ2 o;have cF:=Lh bC;have:(w:Nat)+1<W:=by have:=N.o;omega
 have cK:(w:Nat)+1∉(w:Nat)::fb::(Fi++(Fl++Fs)):=λn=>by
  rw[ϰ]at n;rcases n with n|n
  .omega
  have:=hF.o _ n;omega
 have:=Lh o;have cH:=Lh cJ;have cG:=Lh o;unfold AJ;unfold AC AI at a;unfold AC;dsimp only at a ⊢;go_in;go_upto_region 1 with fail;rw[<-a];have:=Lh a;clear a;go_upto_region 2 with fail;let⟨V,a⟩:=ε (W.alloc (K #[O 1,O 0,O xa,O 0,O 0] 57));have s:=bl1 a;let⟨rb,d⟩:=ε (W:Nat);have b:=@Lh (V.heap[rb]?=X (K #[O 1,O 0,O xa,O 0,O 0] 57 (0,0))) (by rw[d,a];exact Hn _ _);have bB:Hid (rb∉(w:Nat)::fb::(Fi++(Fl++Fs))):=Lh (λn=>by
  rw[ϰ]at n;rcases n with n|n
  .omega
  have:=hF.o _ n;omega)
 have cC:=@Lh ((W:Nat)<=rb) H;have cD:=@Lh ((w:Nat)+1≠rb) H;have e:=Lh (bT.o.kp s);have bH:=@Lh (AW ((w:Nat)::fb::(Fi++(Fl++Fs))) ((w:Nat)::fb::(Fi++(Fl++Fs))) W V) (AW.ob s);have u:=Lh (cG.o.kp s);rw[<-a,<- d];clear a d;rcases cH.o with ⟨rfl,rfl⟩|⟨rfl,rfl⟩|⟨rfl,q,v,bU,rfl⟩|⟨rfl,q,v,bU,J,rfl⟩|⟨rfl,q,v,bU,J,rfl⟩
 .have:=bT.o
  have:=AO e.o.u2;have:=AX e.o.u2;have:=BC (r:=⟨1,0,xa,0,0⟩) b.o;have:=AX b.o;have:=Γ2 u.o;go_upto_region 16 with fail;have:=AO e.o.u2;have:=AX e.o.u2;have:=BC (r:=⟨1,0,xa,0,0⟩) b.o;have:=AX b.o;have:=Γ2 u.o;let⟨c,o⟩:=JJ e.o ⟨1,0,xa,0,0⟩;let⟨_,a⟩:=ε (BO V w ⟨1,0,xa,0,0⟩);rw[<-a]at c o;have y:=Lh c;have bD:=Lh (bH.o.trans o);go_upto_region 17 with fail;unfold BO at a;dsimp only at a;rw[<-a];clear a;let⟨c,o,s⟩:=Ep bV.o y.o bD.o hF.o (R:=(w:Nat)+1+1) H (by have:=N.o;omega) cF.o;have bN:=Lh o;have T3:=Lh s;have:=AO y.o.u2;have:=AO c;have:=AX c;go_wp2;exact ϖ (v:=AJ (U (X (D fb 0)) (fs.length+1) cap) {m with Q:=⟨1,0,xa,0,0⟩}) (AL (p:=4) rfl bN.o _ rfl) rfl T3.o
 .have:=bT.o
  have:=AO e.o.u2;have:=AX e.o.u2;have:=BC (r:=⟨1,0,xa,0,0⟩) b.o;have:=AX b.o;have:=Γ2 u.o;let⟨x,s⟩:=ER (j:=0) (v:=O 3) e.o bH.o bB.o cC.o;have o:=G7 (r:=⟨1,0,xa,0,0⟩) b.o 0 (O 3) ⟨3,0,xa,0,0⟩ rfl;have c:=C2 (j:=0) (v:=O 3) u.o cD.o;let⟨bZ,a⟩:=ε (V.setCell (D rb 0) (O 3));rw[<-a]at x s o c;let⟨d,bW,h,C,Y⟩:=Λ5 x s o c a;clear a;go_upto_region 14 with fail;rw[<-Y.o];have:=AO d.o.u2;have:=AX d.o.u2;have:=BC (r:=⟨3,0,xa,0,0⟩) h.o;have:=AX h.o;have:=Γ2 C.o;go_upto_region 16 with fail;have:=AO d.o.u2;have:=AX d.o.u2;have:=BC (r:=⟨3,0,xa,0,0⟩) h.o;have:=AX h.o;have:=Γ2 C.o;let⟨c,h⟩:=JJ d.o ⟨3,0,xa,0,0⟩;let⟨_,a⟩:=ε (BO bZ w ⟨3,0,xa,0,0⟩);rw[<-a]at c h;have z:=Lh c;have bE:=Lh (bW.o.trans h);go_upto_region 17 with fail;unfold BO at a;dsimp only at a;rw[<-a];clear a;let⟨c,d,h⟩:=Ep bV.o z.o bE.o hF.o (R:=(w:Nat)+1+1) H (by have:=N.o;omega) cF.o;have bO:=Lh d;have T3:=Lh h;have:=AO z.o.u2;have:=AO c;have:=AX c;go_wp2;exact ϖ (v:=AJ (U (X (D fb 0)) (fs.length+1) cap) {m with Q:=⟨3,0,xa,0,0⟩}) (AL (p:=4) rfl bO.o _ rfl) rfl T3.o
 .have:=bT.o
  have cE:=Lh bU;have:=AO e.o.u2;have:=AX e.o.u2;have:=BC (r:=⟨1,0,xa,0,0⟩) b.o;have:=AX b.o;have:=Γ2 u.o;let⟨o,h⟩:=ER (j:=0) (v:=O 2) e.o bH.o bB.o cC.o;have d:=G7 (r:=⟨1,0,xa,0,0⟩) b.o 0 (O 2) ⟨2,0,xa,0,0⟩ rfl;have c:=C2 (j:=0) (v:=O 2) u.o cD.o;let⟨_,a⟩:=ε (V.setCell (D rb 0) (O 2));rw[<-a]at o h d c;let⟨l,L,g,M,P⟩:=Λ5 o h d c a;clear a;go_upto_region 9 with fail;rw[<-P.o];have:=AO l.o.u2;have:=AX l.o.u2;have:=BC (r:=⟨2,0,xa,0,0⟩) g.o;have:=AX g.o;have:=Γ2 M.o;go_wp2_with fail;refine(BZ m l.o cL (q) v cE.o).mono ?_;rintro n x⟨rfl,_,_,_,h,c⟩;have d:=Lh h;have z:=Lh (L.o.trans c);have h:Hid _:=Lh ((c.block rb (La g.o) bB.o).trans g.o);have y:=Cq L.o (by have:=N.o;omega) cK;have o:=@Lh (AR x (w+1) [O 5,O xa]) (λj s l=>c.cell (M.o j s l) y);have s:=Lh (c.notin (La g.o) bB.o);have:=AO d.o.u2;have:=AX d.o.u2;have:=BC (r:=⟨2,0,xa,0,0⟩) h.o;have:=AX h.o;have:=Γ2 o.o;let⟨l,g⟩:=ER (j:=3) (v:=O v) d.o z.o s.o cC.o;have d:=G7 (r:=⟨2,0,xa,0,0⟩) h.o 3 (O v) ⟨2,0,xa,v,0⟩ rfl;have c:=C2 (j:=3) (v:=O v) o.o cD.o;let⟨cA,a⟩:=ε (x.setCell (D rb 3) (O v));rw[<-a]at l g d c;let⟨T3,bX,i,E,Q⟩:=Λ5 l g d c a;clear a;go_upto_region 14 with fail;rw[<-Q.o];have:=AO T3.o.u2;have:=AX T3.o.u2;have:=BC (r:=⟨2,0,xa,v,0⟩) i.o;have:=AX i.o;have:=Γ2 E.o;go_upto_region 16 with fail;have:=AO T3.o.u2;have:=AX T3.o.u2;have:=BC (r:=⟨2,0,xa,v,0⟩) i.o;have:=AX i.o;have:=Γ2 E.o;let⟨c,d⟩:=JJ T3.o ⟨2,0,xa,v,0⟩;let⟨_,a⟩:=ε (BO cA w ⟨2,0,xa,v,0⟩);rw[<-a]at c d;have A:=Lh c;have bF:=Lh (bX.o.trans d);go_upto_region 17 with fail;unfold BO at a;dsimp only at a;rw[<-a];clear a;let⟨c,d,g⟩:=Ep bV.o A.o bF.o hF.o (R:=(w:Nat)+1+1) H (by have:=N.o;omega) cF.o;have bP:=Lh d;have T3:=Lh g;have:=AO A.o.u2;have:=AO c;have:=AX c;go_wp2;exact ϖ (v:=AJ (U (X (D fb 0)) (fs.length+1) cap) {m with Q:=⟨2,0,xa,v,0⟩}) (AL (p:=4) rfl bP.o _ rfl) rfl T3.o
 .have:=bT.o
  have bK:=Lh bU;have:=AO e.o.u2;have:=AX e.o.u2;have:=BC (r:=⟨1,0,xa,0,0⟩) b.o;have:=AX b.o;have:=Γ2 u.o;go_wp2_with fail;refine(BZ m e.o cL (q) v bK.o).mono ?_;rintro n o⟨rfl,_,_,_,g,c⟩;have d:=Lh g;have x:=Lh (bH.o.trans c);have g:Hid _:=Lh ((c.block rb (La b.o) bB.o).trans b.o);have s:=Cq bH.o (by have:=N.o;omega) cK;have l:=@Lh (AR o (w+1) [O 6,O xa]) (λj i h=>c.cell (u.o j i h) s);have s:=Lh (c.notin (La b.o) bB.o);have:=AO d.o.u2;have:=AX d.o.u2;have:=BC (r:=⟨1,0,xa,0,0⟩) g.o;have:=AX g.o;have:=Γ2 l.o;let⟨i,h⟩:=ER (j:=1) (v:=O v) d.o x.o s.o cC.o;have d:=G7 (r:=⟨1,0,xa,0,0⟩) g.o 1 (O v) ⟨1,v,xa,0,0⟩ rfl;have c:=C2 (j:=1) (v:=O v) l.o cD.o;let⟨cB,a⟩:=ε (o.setCell (D rb 1) (O v));rw[<-a]at i h d c;let⟨T3,bY,k,G,S⟩:=Λ5 i h d c a;clear a;go_upto_region 14 with fail;rw[<-S.o];have:=AO T3.o.u2;have:=AX T3.o.u2;have:=BC (r:=⟨1,v,xa,0,0⟩) k.o;have:=AX k.o;have:=Γ2 G.o;go_upto_region 16 with fail;have:=AO T3.o.u2;have:=AX T3.o.u2;have:=BC (r:=⟨1,v,xa,0,0⟩) k.o;have:=AX k.o;have:=Γ2 G.o;let⟨c,d⟩:=JJ T3.o ⟨1,v,xa,0,0⟩;let⟨_,a⟩:=ε (BO cB w ⟨1,v,xa,0,0⟩);rw[<-a]at c d;have B:=Lh c;have bG:=Lh (bY.o.trans d);go_upto_region 17 with fail;unfold BO at a;dsimp only at a;rw[<-a];clear a;let⟨a,c,d⟩:=Ep bV.o B.o bG.o hF.o (R:=(w:Nat)+1+1) H (by have:=N.o;omega) cF.o;have bQ:=Lh c;have T3:=Lh d;have:=AO B.o.u2;have:=AO a;have:=AX a;go_wp2;exact ϖ (v:=AJ (U (X (D fb 0)) (fs.length+1) cap) {m with Q:=⟨1,v,xa,0,0⟩}) (AL (p:=4) rfl bQ.o _ rfl) rfl T3.o
 have:=bT.o;have bL:=Lh bU;have:=AO e.o.u2;have:=AX e.o.u2;have:=BC (r:=⟨1,0,xa,0,0⟩) b.o;have:=AX b.o;have:=Γ2 u.o;go_wp2_with fail;refine(BZ m e.o cL (q) v bL.o).mono ?_;rintro n i⟨rfl,_,_,_,d,a⟩;have c:=Lh d;have l:=Lh (bH.o.trans a);have d:Hid _:=Lh ((a.block rb (La b.o) bB.o).trans b.o);have k:=Cq bH.o (by have:=N.o;omega) cK;have h:=@Lh (AR i (w+1) [O 6,O xa]) (λj g e=>a.cell (u.o j g e) k);have k:=Lh (a.notin (La b.o) bB.o);have:=AO c.o.u2;have:=AX c.o.u2;have:=BC (r:=⟨1,0,xa,0,0⟩) d.o;have:=AX d.o;have:=Γ2 h.o;let⟨g,e⟩:=ER (j:=1) (v:=O v) c.o l.o k.o cC.o;have c:=G7 (r:=⟨1,0,xa,0,0⟩) d.o 1 (O v) ⟨1,v,xa,0,0⟩ rfl;have b:=C2 (j:=1) (v:=O v) h.o cD.o;let⟨_,a⟩:=ε (i.setCell (D rb 1) (O v));rw[<-a]at g e c b;let⟨T3,bS,t,bM,T⟩:=Λ5 g e c b a;clear a;go_upto_region 14 with fail;rw[<-T.o];have:=AO T3.o.u2;have:=AX T3.o.u2;have:=BC (r:=⟨1,v,xa,0,0⟩) t.o;have:=AX t.o;have:=Γ2 bM.o;go_wp2_with fail;refine(DX _ _ _ m 17 _).mono ?_;rintro n a⟨rfl,b⟩;let⟨a,c,d⟩:=Le bV.o bS.o b hF.o (R:=(w:Nat)+1+1) H (by have:=N.o;omega) cF.o {m with Q:=Ah 17,J:=[]} rfl;have bJ:=Lh c;have bI:=Lh d;have:=AO a;have:=AX a;unfold AJ AC;go_wp2;exact ϖ (v:=AJ Z {m with Q:=Ah 17,J:=[]}) (AL (p:=4) rfl bJ.o _ rfl) rfl bI.o
def RU(o xa:Int)(m':AV)(cO:(o=7/\∃(x:List Int),∃(a v:Int),(f.S=x++[a]++[v])/\(1<=a)/\m'={m with Q:=⟨2,a,xa,v,0⟩,J:=fs++[{f with S:=x}]})\/(o=7/\∃(x:List Int),∃(a v:Int),(f.S=x++[a]++[v])/\(a<1)/\m'={m with Q:=Ah 17,J:=[]}))(y:Cv w fv m.J F)(bR:m.J=fs++[f])(cK:fs.length<=200)(cN:f.S.length<1000000-2) :
  ϙ prog 192 #[AJ fv m,.agg #[O o,O xa]] w (DK w F m'):=by
 obtain⟨fb,cap,_,cs,lv,sv,Fi,Fl,Fs,rfl,rfl,cA⟩:=y.top bR;have hF:=Lh y.lt;let⟨W,b⟩:=ε (((w.alloc (K (AC (U (X (D fb 0)) (fs.length+1) cap) m) 59)).alloc (K #[O o,O xa] 96)).alloc (K (AC Z AI) 59));have cR:=Lh (bl3 b);have bV:=Lh (sz3 b);have o:=Xda b;have q:=Xhh b;have bR:=Xbs b;have y:=cA W (w:Nat) m cR.o o (Nr _);have cM:=Lh y;have:=AO o;have:=Γ2 q;have cS:=Lh bR;have:(w:Nat)+1<W:=by have:=bV.o;omega
 have cI:(w:Nat)+1∉(w:Nat)::fb::(Fi++(Fl++Fs)):=λk=>by
  rw[ϰ]at k;rcases k with k|k
  .omega
  have:=hF.o _ k;omega
 have:=Lh q;have cL:=Lh cO;have cJ:=Lh q;unfold AJ;unfold AC AI at b;unfold AC;dsimp only at b ⊢;go_in;go_upto_region 1 with fail;rw[<-b];have:=Lh b;clear b;go_upto_region 2 with fail;let⟨V,b⟩:=ε (W.alloc (K #[O 1,O 0,O xa,O 0,O 0] 57));have t:=bl1 b;let⟨rb,c⟩:=ε (W:Nat);have P:=@Lh (V.heap[rb]?=X (K #[O 1,O 0,O xa,O 0,O 0] 57 (0,0))) (by rw[c,b];exact Hn _ _);have bQ:Hid (rb∉(w:Nat)::fb::(Fi++(Fl++Fs))):=Lh (λk=>by
  rw[ϰ]at k;rcases k with k|k
  .omega
  have:=hF.o _ k;omega)
 have bW:=@Lh ((W:Nat)<=rb) H;have bX:=@Lh ((w:Nat)+1≠rb) H;have L:=Lh (cM.o.kp t);have cP:=@Lh (AW ((w:Nat)::fb::(Fi++(Fl++Fs))) ((w:Nat)::fb::(Fi++(Fl++Fs))) W V) (AW.ob t);have cC:=Lh (cJ.o.kp t);rw[<-b,<- c];clear b c;rcases cL.o with ⟨rfl,x,a,v,cF,B,rfl⟩|⟨rfl,x,a,v,cF,B,rfl⟩
 .have:=cM.o
  have cG:=Lh cF;have:=AO L.o.u2;have:=AX L.o.u2;have:=BC (r:=⟨1,0,xa,0,0⟩) P.o;have:=AX P.o;have:=Γ2 cC.o;let⟨y,t⟩:=ER (j:=0) (v:=O 2) L.o cP.o bQ.o bW.o;have q:=G7 (r:=⟨1,0,xa,0,0⟩) P.o 0 (O 2) ⟨2,0,xa,0,0⟩ rfl;have o:=C2 (j:=0) (v:=O 2) cC.o bX.o;let⟨_,b⟩:=ε (V.setCell (D rb 0) (O 2));rw[<-b]at y t q o;let⟨d,M,h,T,bK⟩:=Λ5 y t q o b;clear b;go_upto_region 12 with fail;rw[<-bK.o];have:=AO d.o.u2;have:=AX d.o.u2;have:=BC (r:=⟨2,0,xa,0,0⟩) h.o;have:=AX h.o;have:=Γ2 T.o;go_wp2_with fail;refine(BZ m d.o cK (x++[a]) v cG.o).mono ?_;rintro k bK⟨rfl,_,_,_,q,d⟩;have o:=Lh q;have bR:=Lh (M.o.trans d);have q:Hid _:=Lh ((d.block rb (La h.o) bQ.o).trans h.o);have y:=Cq M.o (by have:=bV.o;omega) cI;have B:=@Lh (AR bK (w+1) [O 7,O xa]) (λj a t=>d.cell (T.o j a t) y);have C:=Lh (d.notin (La h.o) bQ.o);have:=AO o.o.u2;have:=AX o.o.u2;have:=BC (r:=⟨2,0,xa,0,0⟩) q.o;have:=AX q.o;have:=Γ2 B.o;let⟨y,t⟩:=ER (j:=3) (v:=O v) o.o bR.o C.o bW.o;have h:=G7 (r:=⟨2,0,xa,0,0⟩) q.o 3 (O v) ⟨2,0,xa,v,0⟩ rfl;have d:=C2 (j:=3) (v:=O v) B.o bX.o;let⟨_,b⟩:=ε (bK.setCell (D rb 3) (O v));rw[<-b]at y t h d;let⟨T3,G,e,Q,bM⟩:=Λ5 y t h d b;clear b;go_upto_region 13 with fail;rw[<-bM.o];have:=AO T3.o.u2;have:=AX T3.o.u2;have:=BC (r:=⟨2,0,xa,v,0⟩) e.o;have:=AX e.o;have:=Γ2 Q.o;go_wp2_with fail;refine(BZ m T3.o cK (x) a rfl).mono ?_;rintro k B⟨rfl,_,_,_,o,d⟩;have h:=Lh o;have M:=Lh (G.o.trans d);have o:Hid _:=Lh ((d.block rb (La e.o) C.o).trans e.o);have t:=Cq G.o (by have:=bV.o;omega) cI;have y:=@Lh (AR B (w+1) [O 7,O xa]) (λj a q=>d.cell (Q.o j a q) t);have G:=Lh (d.notin (La e.o) C.o);have:=AO h.o.u2;have:=AX h.o.u2;have:=BC (r:=⟨2,0,xa,v,0⟩) o.o;have:=AX o.o;have:=Γ2 y.o;let⟨t,q⟩:=ER (j:=1) (v:=O a) h.o M.o G.o bW.o;have e:=G7 (r:=⟨2,0,xa,v,0⟩) o.o 1 (O a) ⟨2,a,xa,v,0⟩ rfl;have d:=C2 (j:=1) (v:=O a) y.o bX.o;let⟨cE,b⟩:=ε (B.setCell (D rb 1) (O a));rw[<-b]at t q e d;let⟨c,cD,l,A,bO⟩:=Λ5 t q e d b;clear b;go_upto_region 14 with fail;rw[<-bO.o];have:=AO c.o.u2;have:=AX c.o.u2;have:=BC (r:=⟨2,a,xa,v,0⟩) l.o;have:=AX l.o;have:=Γ2 A.o;go_upto_region 16 with fail;have:=AO c.o.u2;have:=AX c.o.u2;have:=BC (r:=⟨2,a,xa,v,0⟩) l.o;have:=AX l.o;have:=Γ2 A.o;let⟨d,e⟩:=JJ c.o ⟨2,a,xa,v,0⟩;let⟨_,b⟩:=ε (BO cE w ⟨2,a,xa,v,0⟩);rw[<-b]at d e;have z:=Lh d;have bS:=Lh (cD.o.trans e);go_upto_region 17 with fail;unfold BO at b;dsimp only at b;rw[<-b];clear b;let⟨b,c,d⟩:=Ep cR.o z.o bS.o hF.o (R:=(w:Nat)+1+1) H (by have:=bV.o;omega) cS.o;have bZ:=Lh c;have T3:=Lh d;have:=AO z.o.u2;have:=AO b;have:=AX b;go_wp2;exact ϖ (v:=AJ (U (X (D fb 0)) (fs.length+1) cap) {m with Q:=⟨2,a,xa,v,0⟩}) (AL (p:=4) rfl bZ.o _ rfl) rfl T3.o
 have:=cM.o;have cH:=Lh cF;have:=AO L.o.u2;have:=AX L.o.u2;have:=BC (r:=⟨1,0,xa,0,0⟩) P.o;have:=AX P.o;have:=Γ2 cC.o;let⟨h,e⟩:=ER (j:=0) (v:=O 2) L.o cP.o bQ.o bW.o;have d:=G7 (r:=⟨1,0,xa,0,0⟩) P.o 0 (O 2) ⟨2,0,xa,0,0⟩ rfl;have c:=C2 (j:=0) (v:=O 2) cC.o bX.o;let⟨_,b⟩:=ε (V.setCell (D rb 0) (O 2));rw[<-b]at h e d c;let⟨n,N,i,Y,bL⟩:=Λ5 h e d c b;clear b;go_upto_region 12 with fail;rw[<-bL.o];have:=AO n.o.u2;have:=AX n.o.u2;have:=BC (r:=⟨2,0,xa,0,0⟩) i.o;have:=AX i.o;have:=Γ2 Y.o;go_wp2_with fail;refine(BZ m n.o cK (x++[a]) v cH.o).mono ?_;rintro k n⟨rfl,_,_,_,d,b⟩;have c:=Lh d;have o:=Lh (N.o.trans b);have d:Hid _:=Lh ((b.block rb (La i.o) bQ.o).trans i.o);have h:=Cq N.o (by have:=bV.o;omega) cI;have l:=@Lh (AR n (w+1) [O 7,O xa]) (λj a e=>b.cell (Y.o j a e) h);have E:=Lh (b.notin (La i.o) bQ.o);have:=AO c.o.u2;have:=AX c.o.u2;have:=BC (r:=⟨2,0,xa,0,0⟩) d.o;have:=AX d.o;have:=Γ2 l.o;let⟨i,h⟩:=ER (j:=3) (v:=O v) c.o o.o E.o bW.o;have e:=G7 (r:=⟨2,0,xa,0,0⟩) d.o 3 (O v) ⟨2,0,xa,v,0⟩ rfl;have c:=C2 (j:=3) (v:=O v) l.o bX.o;let⟨_,b⟩:=ε (n.setCell (D rb 3) (O v));rw[<-b]at i h e c;let⟨T3,J,g,S,bN⟩:=Λ5 i h e c b;clear b;go_upto_region 13 with fail;rw[<-bN.o];have:=AO T3.o.u2;have:=AX T3.o.u2;have:=BC (r:=⟨2,0,xa,v,0⟩) g.o;have:=AX g.o;have:=Γ2 S.o;go_wp2_with fail;refine(BZ m T3.o cK (x) a rfl).mono ?_;rintro k l⟨rfl,_,_,_,d,b⟩;have c:=Lh d;have n:=Lh (J.o.trans b);have d:Hid _:=Lh ((b.block rb (La g.o) E.o).trans g.o);have h:=Cq J.o (by have:=bV.o;omega) cI;have i:=@Lh (AR l (w+1) [O 7,O xa]) (λj a e=>b.cell (S.o j a e) h);have e:=Lh (b.notin (La g.o) E.o);have:=AO c.o.u2;have:=AX c.o.u2;have:=BC (r:=⟨2,0,xa,v,0⟩) d.o;have:=AX d.o;have:=Γ2 i.o;let⟨h,g⟩:=ER (j:=1) (v:=O a) c.o n.o e.o bW.o;have e:=G7 (r:=⟨2,0,xa,v,0⟩) d.o 1 (O a) ⟨2,a,xa,v,0⟩ rfl;have c:=C2 (j:=1) (v:=O a) i.o bX.o;let⟨_,b⟩:=ε (l.setCell (D rb 1) (O a));rw[<-b]at h g e c;let⟨s,cB,u,bY,bP⟩:=Λ5 h g e c b;clear b;go_upto_region 14 with fail;rw[<-bP.o];have:=AO s.o.u2;have:=AX s.o.u2;have:=BC (r:=⟨2,a,xa,v,0⟩) u.o;have:=AX u.o;have:=Γ2 bY.o;go_wp2_with fail;refine(DX _ _ _ m 17 _).mono ?_;rintro k a⟨rfl,b⟩;let⟨a,c,d⟩:=Le cR.o cB.o b hF.o (R:=(w:Nat)+1+1) H (by have:=bV.o;omega) cS.o {m with Q:=Ah 17,J:=[]} rfl;have bU:=Lh c;have bT:=Lh d;have:=AO a;have:=AX a;unfold AJ AC;go_wp2;exact ϖ (v:=AJ Z {m with Q:=Ah 17,J:=[]}) (AL (p:=4) rfl bU.o _ rfl) rfl bT.o
