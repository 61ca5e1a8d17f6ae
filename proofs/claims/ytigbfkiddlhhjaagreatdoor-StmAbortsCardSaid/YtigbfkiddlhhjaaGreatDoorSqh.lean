import Derived.Test.YtigbfkiddlhhjaaGreatDoorSqg
set_option maxHeartbeats 8000000
set_option maxRecDepth 100000
set_option linter.all false
open Go renaming World→Ϣ,Value→ϒ,bodyPost_ret→ϖ
open Go.RowKit renaming Below→ϐ
open Option renaming some→ς
open Bool renaming false→ϝ
open List renaming replicate→ϱ
open Go.Value renaming slice→σ
open Go.Obj renaming cells→χ
namespace Go.Proofs.YtigbfkiddlhhjaaGreatDoor
open Go.RowKit Proofs.Tryz
variable {cd:AQ} {m:Mm} {cs:List (List Bi)} {c0 c1 c2 g0 g1 lv v:ϒ} {w:Ϣ} {fuel:Int} {k:Nat}
def SNewIs (c:AQ) (m:Mm) (cs:List (List Bi)) (fuel:Int) (w:Ϣ) (e:Ending) (w':Ϣ):Prop:=ϐ w w w'/\
 ((GO c m cs fuel≠0/\e=.returned (.tuple #[.agg #[ν,ν,ν,ι 0,ι 0,ν,ν,ν,ν,ν,ν,ι 0,ι 0],ι (GO c m cs fuel)]))\/
 (GO c m cs fuel=0/\∃ vs',e=.returned (.tuple #[.agg vs'.toArray,ι 0])/\TraVs (w':Nat) w' vs' (ff m fuel cs)))
def enters_snew1:An 27:=λ_ _=>by kernel_rfl
def snew1_fn (B:Nat) (w:Ϣ):∀ (x:List Bi) (b:Ϣ) (c:ϒ),ϐ w w b->Nv B b c x->Calls prog 27 (#[c]++#[]) b (λe g=>e=.returned (.bool (decide (2000<(x:Int))))/\ϐ b b g):=by
 rintro x b c _ f;have i:x.length<=140737488355328:=by obtain ⟨_,_,_,h,_⟩:=f;exact h
 obtain ⟨a,d,rfl⟩:=AE.form f;clear f;show Calls prog 27 #[σ a x d] b _;go_enter func27,ntmps27;go_wp2;go_ret;exact ⟨rfl,Below.refl _ _⟩
structure SwB (cd:AQ) (m:Mm) (cs:List (List Bi)) (c0 c1 c2 g0 g1 lv:ϒ) (zz:Array ϒ) (w V:Ϣ):Prop where
 c:V.cell? (π w 0)=ς c0/\V.cell? (π w 1)=ς c1/\V.cell? (π w 2)=ς c2/\(w:Nat)<V
 g:V.cell? (π (w+1) 0)=ς g0/\V.cell? (π (w+1) 1)=ς g1/\(w:Nat)+1<V
 t:V.heap[(w:Nat)+1+1]?=ς (χ zz 39 (0,0))
 L:C8 V
 cod:BF w V (.agg #[c0,c1,c2]) cd
 mm:Lw w V (.agg #[g0,g1]) m
 cs:AE w V 1 (Bg 2 (DA w) w) lv cs
 b:ϐ w w V
 s:(w:Nat)+3<=V
def snw_open {e:Array ϒ} {W:Ϣ} (b:W=((w.alloc (χ #[c0,c1,c2] 25)).alloc (χ #[g0,g1] 28)).alloc (χ e 39)) (i:C8 w) (j:BF w w (.agg #[c0,c1,c2]) cd) (k:Lw w w (.agg #[g0,g1]) m) (hl:AE w w 1 (Bg 2 (DA w) w) lv cs):∀ V,ϐ W W V->SwB cd m cs c0 c1 c2 g0 g1 lv e w V:=λV a=>by
 have g:ϐ w w W:=by rw [b];exact ((AA _ _).th (AA _ _)).th (AA _ _)
 have l:(W:Nat)=(w:Nat)+3:=by rw [b];simp
 have d:V.heap[(w:Nat)]?=ς (χ #[c0,c1,c2] 25 (0,0)):=(a.block _ ω).trans (by
  rw [b,Ha _ _ _ φ,Ha _ _ _ ψ];exact Hn _ _)
 have f:V.heap[(w:Nat)+1]?=ς (χ #[g0,g1] 28 (0,0)):=(a.block _ ω).trans (by
  rw [b,Ha _ _ _ ψ];have:=Hn (w.alloc (χ #[c0,c1,c2] 25)) (χ #[g0,g1] 28);rwa [show (w.alloc (χ #[c0,c1,c2] 25)).heap.size=(w:Nat)+1 by simp] at this)
 have h:V.heap[(w:Nat)+1+1]?=ς (χ e 39 (0,0)):=(a.block _ ω).trans (by
  rw [b];have:=Hn ((w.alloc (χ #[c0,c1,c2] 25)).alloc (χ #[g0,g1] 28)) (χ e 39);rwa [show ((w.alloc (χ #[c0,c1,c2] 25)).alloc (χ #[g0,g1] 28)).heap.size=(w:Nat)+1+1 by simp] at this)
 have c:=g.th a;exact ⟨⟨Cr d rfl,Cr d rfl,Cr d rfl,(La d)⟩,⟨Cr f rfl,Cr f rfl,(La f)⟩,h,i.below c,j.below c,k.below c,hl.calss c,c,by have:=a.size;omega⟩
def snw_err {b:Func} (j:b.results=#[.cell 8 39,.tmp 9]) {V:Ϣ} (h:SwB cd m cs c0 c1 c2 g0 g1 lv #[ν,ν,ν,ι 0,ι 0,ν,ν,ν,ν,ν,ν,ι 0,ι 0] w V) {e:Int} (i:GO cd m cs fuel=e) (c:e≠0) {a:Act} (d:a.tmps.getD 8 undef=.pointer (ς (π (w+1+1) 0))) (f:a.tmps.getD 9 undef=ι e) (g:a.defers=[]):bodyPost prog b (SNewIs cd m cs fuel w) .ret a (putsW V ((w:Nat)+1+1) 0 [ν,ν,ν,ι 0,ι 0,ν,ν,ν,ν,ν,ν,ι 0,ι 0]):=
 ϖ (results_tra2 (p:=8) (u:=9) j (puts13_row h.t ν ν ν (ι 0) (ι 0) ν ν ν ν ν ν (ι 0) (ι 0)) _ d f) g ⟨below_puts ω _ _ h.b,.inl (by rw [i];exact ⟨c,rfl⟩)⟩
def TraWf.newS {B:Nat} (h:Lw B w v m):TraWf (ff m fuel cs):=by
 obtain ⟨p,t,rfl,c,d⟩:=h;have z:∀ {k:Nat},∀ n∈ϱ k (0:Int),in64 n:=fun {k} n a=>by rw [List.eq_of_mem_replicate a];exact ⟨ω,ω⟩
 obtain ⟨i,o,rfl⟩:=c.form;obtain ⟨r,s,rfl⟩:=d.form;refine ⟨λn a=>?_,λx a=>?_,λl b n a=>?_,λx a=>?_,λl b x a=>?_,λl b x a=>?_,λl b x a=>?_⟩
 .obtain ⟨k,hk⟩:=List.mem_iff_getElem?.1 a
  obtain ⟨_,_,_,_,h⟩:=c.nth hk;exact h.2
 .obtain ⟨k,hk⟩:=List.mem_iff_getElem?.1 a
  obtain ⟨_,_,_,_,q,⟨v,_,e⟩,f⟩:=d.nth hk;refine ⟨f,λn a=>?_⟩;obtain ⟨u,A,rfl⟩:=e.form;obtain ⟨j,g⟩:=List.mem_iff_getElem?.1 a;obtain ⟨_,_,_,_,h⟩:=e.nth g;exact h.2
 .rcases List.mem_cons.1 b with rfl|b
  .exact z n a
  .obtain ⟨y,_,rfl⟩:=List.mem_map.1 b
   exact z n a
 .rw [List.eq_of_mem_replicate a];exact WX
 .rw [List.eq_of_mem_replicate b] at a;cases a
 .rw [List.eq_of_mem_replicate b] at a;cases a
 .rw [List.eq_of_mem_replicate b] at a;cases a
def SAt.newV {a:Ϣ} {c c1:A1} {d:Nat} {s:Tra} {g:ϒ} {x:List Int} (h:SAt w c d s) (m:AT NO c c1 w a) (k:∀ b,(a:Nat)<=b->c1 b=0) (o:Ao a c1 22 22 1 v 1 [g]) (n:LeafAt a c1 102 g (intQ x)):SAt (a.setCell (π d 2) v) c1 d { s with vers:=[x] }/\AT (λt=>t=1) c1 c1 a (a.setCell (π d 2) v):=by
 have l:RowLf a c1 2 v 22 1 ([x].map intQ):=⟨1,[g],o,rfl,λi y z e f=>by
  match i,e,f with
  | 0,e,f=>cases e;cases f;exact n
  | i+1,e,f=>simp at e⟩
 obtain ⟨q,r⟩:=GStAt.put0 (show GStAt a c1 _ d (traG s) from h.chg m k (λt p=>absurd p (no t))) (j:=2) (x:=.r 22 1 ([x].map intQ)) l;exact ⟨SAt.of q rfl,r⟩
def nodK (m:Mm) (fuel:Int) (cs:List (List Bi)) (k:Nat):Tra:=⟨m,ϱ m.G.length 0::(m.N.take k).map (λx=>ϱ x.f.length 0),0,fuel,[],cs,[],[],[],[],0,0⟩
def nodK_next {x:Gl} (h:m.N[k]?=ς x):{ nodK m fuel cs k with vers:=(nodK m fuel cs k).vers++[ϱ x.f.length 0] }=nodK m fuel cs (k+1):=by
 unfold nodK;rw [List.take_add_one,h];simp
def nodK_len (h:k<=m.N.length):(nodK m fuel cs k).vers.length=k+1:=by
 simp [nodK];omega
def sNew_any (cd:AQ) (m:Mm) (cs:List (List Bi)) (fuel:Int) (cv mv lv:ϒ) (w:Ϣ) (hL:C8 w) (hc:BF w w cv cd) (hm:Lw w w mv m) (hl:AE w w 1 (Bg 2 (DA w) w) lv cs) (jR:in64 fuel) (ok:Xe m cs) :
  Calls prog 9 #[cv,mv,lv,ι fuel] w (SNewIs cd m cs fuel w):=by
 obtain ⟨fv,gv,rfl,hf,hg,eV⟩:=id hc;obtain ⟨fa,fc,rfl⟩:=hf.form;obtain ⟨qa,qc,rfl⟩:=hg.form;obtain ⟨iX,jE,rfl,fY,gC⟩:=id hm;obtain ⟨ga,gc,rfl⟩:=fY.form;obtain ⟨ma,mc,rfl⟩:=gC.form;have iM:cs.length<=140737488355328:=by obtain ⟨_,_,_,h,_⟩:=hl;exact h
 obtain ⟨la,lc,rfl⟩:=hl.form;have U:=Lh ok;have hO:=Lh hm;have iW:=Lh jR;obtain ⟨W,hW⟩:=ε (((w.alloc (χ (Bc fa fc qa qc cd) 25)).alloc (χ (Bm ga gc ma mc m) 28)).alloc (χ #[ν,ν,ν,ι 0,ι 0,ν,ν,ν,ν,ν,ν,ι 0,ι 0] 39));have d:=Lh (snw_open hW hL hc hm hl);clear hf hg eV hL hc hm hl fY gC ok jR;obtain ⟨⟨c0,c1,c2,zc⟩,⟨g0,g1,Z⟩,-⟩:=d.o W Br;go_enter func9,ntmps9;go_upto_region 1 with fail;rw [<-hW];clear hW;go_wp2_with fail;refine (ssound_any cd _ (w:Nat) W (d.o W Br).L (d.o W Br).b.size (d.o W Br).cod).mono ?_;rintro e r ⟨rfl,cE⟩;have H:=Lh cE;clear c0 c1 c2 zc g0 g1 Z cE;cases dD:DW cd with
 | false=>have eH:=Lh dD;clear dD;have g:=row13 (d.o r H.o).t;have bH:=g 0 _ rfl;have aX:r.frozen? (π (w+1+1) 0)=ϝ:=Fz (d.o r H.o).t;have bI:=g 1 _ rfl;have aY:r.frozen? (π (w+1+1) 1)=ϝ:=Fz (d.o r H.o).t;have bJ:=g 2 _ rfl;have aZ:r.frozen? (π (w+1+1) 2)=ϝ:=Fz (d.o r H.o).t;have bK:=g 3 _ rfl;have bA:r.frozen? (π (w+1+1) 3)=ϝ:=Fz (d.o r H.o).t;have bL:=g 4 _ rfl;have bB:r.frozen? (π (w+1+1) 4)=ϝ:=Fz (d.o r H.o).t;have bM:=g 5 _ rfl;have bC:r.frozen? (π (w+1+1) 5)=ϝ:=Fz (d.o r H.o).t;have bN:=g 6 _ rfl;have bD:r.frozen? (π (w+1+1) 6)=ϝ:=Fz (d.o r H.o).t;have bO:=g 7 _ rfl;have bE:r.frozen? (π (w+1+1) 7)=ϝ:=Fz (d.o r H.o).t;have bP:=g 8 _ rfl;have bF:r.frozen? (π (w+1+1) 8)=ϝ:=Fz (d.o r H.o).t;have bQ:=g 9 _ rfl;have bG:r.frozen? (π (w+1+1) 9)=ϝ:=Fz (d.o r H.o).t;have aI:=g 10 _ rfl;have aF:r.frozen? (π (w+1+1) 10)=ϝ:=Fz (d.o r H.o).t;have aJ:=g 11 _ rfl;have aG:r.frozen? (π (w+1+1) 11)=ϝ:=Fz (d.o r H.o).t;have aK:=g 12 _ rfl;have aH:r.frozen? (π (w+1+1) 12)=ϝ:=Fz (d.o r H.o).t;have zR:(w:Nat)+1+1<r:=(Array.getElem?_eq_some_iff.1 (d.o r H.o).t).1;clear g;go_wp2_with fail;rw [puts13];exact snw_err rfl (d.o r H.o) (TT (.inl eH.o)) ω rfl rfl rfl
 | true=>
 have eH:=Lh dD;clear dD;obtain ⟨⟨c0,c1,c2,zc⟩,⟨g0,g1,Z⟩,-⟩:=d.o r H.o;go_wp2_with fail;refine (sfits_any cd _ m _ (w:Nat) r (d.o r H.o).b.size (d.o r H.o).cod (d.o r H.o).mm).mono ?_;rintro e a ⟨rfl,aW⟩;have o:=Lh (H.o.th aW);clear c0 c1 c2 zc g0 g1 Z aW;cases dA:Bb cd m with
 | false=>have hM:=Lh dA;clear dA;have g:=row13 (d.o a o.o).t;have bH:=g 0 _ rfl;have aX:a.frozen? (π (w+1+1) 0)=ϝ:=Fz (d.o a o.o).t;have bI:=g 1 _ rfl;have aY:a.frozen? (π (w+1+1) 1)=ϝ:=Fz (d.o a o.o).t;have bJ:=g 2 _ rfl;have aZ:a.frozen? (π (w+1+1) 2)=ϝ:=Fz (d.o a o.o).t;have bK:=g 3 _ rfl;have bA:a.frozen? (π (w+1+1) 3)=ϝ:=Fz (d.o a o.o).t;have bL:=g 4 _ rfl;have bB:a.frozen? (π (w+1+1) 4)=ϝ:=Fz (d.o a o.o).t;have bM:=g 5 _ rfl;have bC:a.frozen? (π (w+1+1) 5)=ϝ:=Fz (d.o a o.o).t;have bN:=g 6 _ rfl;have bD:a.frozen? (π (w+1+1) 6)=ϝ:=Fz (d.o a o.o).t;have bO:=g 7 _ rfl;have bE:a.frozen? (π (w+1+1) 7)=ϝ:=Fz (d.o a o.o).t;have bP:=g 8 _ rfl;have bF:a.frozen? (π (w+1+1) 8)=ϝ:=Fz (d.o a o.o).t;have bQ:=g 9 _ rfl;have bG:a.frozen? (π (w+1+1) 9)=ϝ:=Fz (d.o a o.o).t;have aI:=g 10 _ rfl;have aF:a.frozen? (π (w+1+1) 10)=ϝ:=Fz (d.o a o.o).t;have aJ:=g 11 _ rfl;have aG:a.frozen? (π (w+1+1) 11)=ϝ:=Fz (d.o a o.o).t;have aK:=g 12 _ rfl;have aH:a.frozen? (π (w+1+1) 12)=ϝ:=Fz (d.o a o.o).t;have zR:(w:Nat)+1+1<a:=(Array.getElem?_eq_some_iff.1 (d.o a o.o).t).1;clear g;go_wp2_with fail;rw [puts13];exact snw_err rfl (d.o a o.o) (TT (.inr hM.o)) ω rfl rfl rfl
 | true=>
 have bU:=Lh (And.intro eH.o dA);clear dA;by_cases iI:fuel<0
 .have eE:=Lh iI
  have g:=row13 (d.o a o.o).t;have bH:=g 0 _ rfl;have aX:a.frozen? (π (w+1+1) 0)=ϝ:=Fz (d.o a o.o).t;have bI:=g 1 _ rfl;have aY:a.frozen? (π (w+1+1) 1)=ϝ:=Fz (d.o a o.o).t;have bJ:=g 2 _ rfl;have aZ:a.frozen? (π (w+1+1) 2)=ϝ:=Fz (d.o a o.o).t;have bK:=g 3 _ rfl;have bA:a.frozen? (π (w+1+1) 3)=ϝ:=Fz (d.o a o.o).t;have bL:=g 4 _ rfl;have bB:a.frozen? (π (w+1+1) 4)=ϝ:=Fz (d.o a o.o).t;have bM:=g 5 _ rfl;have bC:a.frozen? (π (w+1+1) 5)=ϝ:=Fz (d.o a o.o).t;have bN:=g 6 _ rfl;have bD:a.frozen? (π (w+1+1) 6)=ϝ:=Fz (d.o a o.o).t;have bO:=g 7 _ rfl;have bE:a.frozen? (π (w+1+1) 7)=ϝ:=Fz (d.o a o.o).t;have bP:=g 8 _ rfl;have bF:a.frozen? (π (w+1+1) 8)=ϝ:=Fz (d.o a o.o).t;have bQ:=g 9 _ rfl;have bG:a.frozen? (π (w+1+1) 9)=ϝ:=Fz (d.o a o.o).t;have aI:=g 10 _ rfl;have aF:a.frozen? (π (w+1+1) 10)=ϝ:=Fz (d.o a o.o).t;have aJ:=g 11 _ rfl;have aG:a.frozen? (π (w+1+1) 11)=ϝ:=Fz (d.o a o.o).t;have aK:=g 12 _ rfl;have aH:a.frozen? (π (w+1+1) 12)=ϝ:=Fz (d.o a o.o).t;have zR:(w:Nat)+1+1<a:=(Array.getElem?_eq_some_iff.1 (d.o a o.o).t).1;clear g;go_wp2_with fail;rw [puts13];exact snw_err rfl (d.o a o.o) (TY bU.o (.inl eE.o)) ω rfl rfl rfl
 by_cases iJ:1048576<fuel
 .have eE:=Lh iJ
  have g:=row13 (d.o a o.o).t;have bH:=g 0 _ rfl;have aX:a.frozen? (π (w+1+1) 0)=ϝ:=Fz (d.o a o.o).t;have bI:=g 1 _ rfl;have aY:a.frozen? (π (w+1+1) 1)=ϝ:=Fz (d.o a o.o).t;have bJ:=g 2 _ rfl;have aZ:a.frozen? (π (w+1+1) 2)=ϝ:=Fz (d.o a o.o).t;have bK:=g 3 _ rfl;have bA:a.frozen? (π (w+1+1) 3)=ϝ:=Fz (d.o a o.o).t;have bL:=g 4 _ rfl;have bB:a.frozen? (π (w+1+1) 4)=ϝ:=Fz (d.o a o.o).t;have bM:=g 5 _ rfl;have bC:a.frozen? (π (w+1+1) 5)=ϝ:=Fz (d.o a o.o).t;have bN:=g 6 _ rfl;have bD:a.frozen? (π (w+1+1) 6)=ϝ:=Fz (d.o a o.o).t;have bO:=g 7 _ rfl;have bE:a.frozen? (π (w+1+1) 7)=ϝ:=Fz (d.o a o.o).t;have bP:=g 8 _ rfl;have bF:a.frozen? (π (w+1+1) 8)=ϝ:=Fz (d.o a o.o).t;have bQ:=g 9 _ rfl;have bG:a.frozen? (π (w+1+1) 9)=ϝ:=Fz (d.o a o.o).t;have aI:=g 10 _ rfl;have aF:a.frozen? (π (w+1+1) 10)=ϝ:=Fz (d.o a o.o).t;have aJ:=g 11 _ rfl;have aG:a.frozen? (π (w+1+1) 11)=ϝ:=Fz (d.o a o.o).t;have aK:=g 12 _ rfl;have aH:a.frozen? (π (w+1+1) 12)=ϝ:=Fz (d.o a o.o).t;have zR:(w:Nat)+1+1<a:=(Array.getElem?_eq_some_iff.1 (d.o a o.o).t).1;clear g;go_wp2_with fail;rw [puts13];exact snw_err rfl (d.o a o.o) (TY bU.o (.inr eE.o)) ω rfl rfl rfl
 have cW:=@Lh (0<=fuel/\fuel<=1048576) ω;by_cases A:cs.length=0
 .have cA:=Lh A
  have iR:((cs:Int) == 0)=true:=by simp [A]
  clear A;have g:=row13 (d.o a o.o).t;have bH:=g 0 _ rfl;have aX:a.frozen? (π (w+1+1) 0)=ϝ:=Fz (d.o a o.o).t;have bI:=g 1 _ rfl;have aY:a.frozen? (π (w+1+1) 1)=ϝ:=Fz (d.o a o.o).t;have bJ:=g 2 _ rfl;have aZ:a.frozen? (π (w+1+1) 2)=ϝ:=Fz (d.o a o.o).t;have bK:=g 3 _ rfl;have bA:a.frozen? (π (w+1+1) 3)=ϝ:=Fz (d.o a o.o).t;have bL:=g 4 _ rfl;have bB:a.frozen? (π (w+1+1) 4)=ϝ:=Fz (d.o a o.o).t;have bM:=g 5 _ rfl;have bC:a.frozen? (π (w+1+1) 5)=ϝ:=Fz (d.o a o.o).t;have bN:=g 6 _ rfl;have bD:a.frozen? (π (w+1+1) 6)=ϝ:=Fz (d.o a o.o).t;have bO:=g 7 _ rfl;have bE:a.frozen? (π (w+1+1) 7)=ϝ:=Fz (d.o a o.o).t;have bP:=g 8 _ rfl;have bF:a.frozen? (π (w+1+1) 8)=ϝ:=Fz (d.o a o.o).t;have bQ:=g 9 _ rfl;have bG:a.frozen? (π (w+1+1) 9)=ϝ:=Fz (d.o a o.o).t;have aI:=g 10 _ rfl;have aF:a.frozen? (π (w+1+1) 10)=ϝ:=Fz (d.o a o.o).t;have aJ:=g 11 _ rfl;have aG:a.frozen? (π (w+1+1) 11)=ϝ:=Fz (d.o a o.o).t;have aK:=g 12 _ rfl;have aH:a.frozen? (π (w+1+1) 12)=ϝ:=Fz (d.o a o.o).t;have zR:(w:Nat)+1+1<a:=(Array.getElem?_eq_some_iff.1 (d.o a o.o).t).1;clear g;go_wp2_with fail;rw [puts13];exact snw_err rfl (d.o a o.o) (Wm bU.o cW.o cA.o) ω rfl rfl rfl
 have cA:=Lh A;have iR:((cs:Int) == 0)=ϝ:=by simp [A]
 clear A;by_cases h8:8<(cs:Int)
 .have H8:=Lh h8
  have g:=row13 (d.o a o.o).t;have bH:=g 0 _ rfl;have aX:a.frozen? (π (w+1+1) 0)=ϝ:=Fz (d.o a o.o).t;have bI:=g 1 _ rfl;have aY:a.frozen? (π (w+1+1) 1)=ϝ:=Fz (d.o a o.o).t;have bJ:=g 2 _ rfl;have aZ:a.frozen? (π (w+1+1) 2)=ϝ:=Fz (d.o a o.o).t;have bK:=g 3 _ rfl;have bA:a.frozen? (π (w+1+1) 3)=ϝ:=Fz (d.o a o.o).t;have bL:=g 4 _ rfl;have bB:a.frozen? (π (w+1+1) 4)=ϝ:=Fz (d.o a o.o).t;have bM:=g 5 _ rfl;have bC:a.frozen? (π (w+1+1) 5)=ϝ:=Fz (d.o a o.o).t;have bN:=g 6 _ rfl;have bD:a.frozen? (π (w+1+1) 6)=ϝ:=Fz (d.o a o.o).t;have bO:=g 7 _ rfl;have bE:a.frozen? (π (w+1+1) 7)=ϝ:=Fz (d.o a o.o).t;have bP:=g 8 _ rfl;have bF:a.frozen? (π (w+1+1) 8)=ϝ:=Fz (d.o a o.o).t;have bQ:=g 9 _ rfl;have bG:a.frozen? (π (w+1+1) 9)=ϝ:=Fz (d.o a o.o).t;have aI:=g 10 _ rfl;have aF:a.frozen? (π (w+1+1) 10)=ϝ:=Fz (d.o a o.o).t;have aJ:=g 11 _ rfl;have aG:a.frozen? (π (w+1+1) 11)=ϝ:=Fz (d.o a o.o).t;have aK:=g 12 _ rfl;have aH:a.frozen? (π (w+1+1) 12)=ϝ:=Fz (d.o a o.o).t;have zR:(w:Nat)+1+1<a:=(Array.getElem?_eq_some_iff.1 (d.o a o.o).t).1;clear g;go_wp2_with fail;rw [puts13];exact snw_err rfl (d.o a o.o) (TU bU.o cW.o cA.o (.inl (by have:=H8.o;omega))) ω rfl rfl rfl
 have H8:=@Lh (cs.length<=8) ω;go_wp2_with fail;refine (FJ 27 #[] (λl=>decide (2000<(l:Int))) cs _ (w:Nat) a enters_snew1 (d.o a o.o).b.size (d.o a o.o).cs (snew1_fn (w:Nat) a)).mono ?_;rintro e C ⟨rfl,fT⟩;have M:=Lh (o.o.th fT);clear fT;cases ha:cs.any λl=>decide (2000<(l:Int)) with
 | true=>have HA:=Lh ha;clear ha;have g:=row13 (d.o C M.o).t;have bH:=g 0 _ rfl;have aX:C.frozen? (π (w+1+1) 0)=ϝ:=Fz (d.o C M.o).t;have bI:=g 1 _ rfl;have aY:C.frozen? (π (w+1+1) 1)=ϝ:=Fz (d.o C M.o).t;have bJ:=g 2 _ rfl;have aZ:C.frozen? (π (w+1+1) 2)=ϝ:=Fz (d.o C M.o).t;have bK:=g 3 _ rfl;have bA:C.frozen? (π (w+1+1) 3)=ϝ:=Fz (d.o C M.o).t;have bL:=g 4 _ rfl;have bB:C.frozen? (π (w+1+1) 4)=ϝ:=Fz (d.o C M.o).t;have bM:=g 5 _ rfl;have bC:C.frozen? (π (w+1+1) 5)=ϝ:=Fz (d.o C M.o).t;have bN:=g 6 _ rfl;have bD:C.frozen? (π (w+1+1) 6)=ϝ:=Fz (d.o C M.o).t;have bO:=g 7 _ rfl;have bE:C.frozen? (π (w+1+1) 7)=ϝ:=Fz (d.o C M.o).t;have bP:=g 8 _ rfl;have bF:C.frozen? (π (w+1+1) 8)=ϝ:=Fz (d.o C M.o).t;have bQ:=g 9 _ rfl;have bG:C.frozen? (π (w+1+1) 9)=ϝ:=Fz (d.o C M.o).t;have aI:=g 10 _ rfl;have aF:C.frozen? (π (w+1+1) 10)=ϝ:=Fz (d.o C M.o).t;have aJ:=g 11 _ rfl;have aG:C.frozen? (π (w+1+1) 11)=ϝ:=Fz (d.o C M.o).t;have aK:=g 12 _ rfl;have aH:C.frozen? (π (w+1+1) 12)=ϝ:=Fz (d.o C M.o).t;have zR:(w:Nat)+1+1<C:=(Array.getElem?_eq_some_iff.1 (d.o C M.o).t).1;clear g;go_wp2_with fail;rw [puts13];exact snw_err rfl (d.o C M.o) (TU bU.o cW.o cA.o (.inr HA.o)) ω rfl rfl rfl
 | false=>
 have HA:=Lh ha;have fH:=Lh (Wn bU.o cW.o cA.o H8.o ha);clear ha;go_wp2_with fail;go_loopw [54] (λi wr=>∃ k:Nat,k<=cs.length/\i=ι k/\Hid (ϐ W W wr/\∀ l∈cs.take k,∀ y∈l,AS cd y 0=0)) (λi _=>cs.length - (intOf i).toNat)
 case atStart=>exact ⟨0,Nat.zero_le _,rfl,Lh ⟨M.o,ψ⟩⟩
 case round=>
  obtain ⟨k,hk,rfl,P⟩:=hrel;obtain ⟨J,rfl⟩:=ε (wr:Ϣ);by_cases cO:k<cs.length
  .obtain ⟨l,hl⟩:∃ y,cs[k]?=ς y:=⟨_,Lg cO⟩
   obtain ⟨b0,o0,rfl,fC,jD,gB,dB⟩:=(d.o J P.o.1).cs.nth hl;have jB:l.length<=140737488355328:=by obtain ⟨_,_,_,h,_⟩:=dB;exact h
   obtain ⟨xa,xc,rfl⟩:=dB.form;rw [Nat.mul_one] at gB;have HX:=Lh hl;have hN:=Lh dB;have iK:=In k;have iL:(k:Int)<(cs:Int):=ω;clear hl dB fC;go_wp2_with fail;clear gB;go_loopw [60] (λi wr=>∃ p:Nat,p<=l.length/\i=ι p/\Hid (ϐ J J wr/\∀ y∈l.take p,AS cd y 0=0)) (λi _=>l.length - (intOf i).toNat)
   case atStart=>exact ⟨0,Nat.zero_le _,rfl,Lh ⟨Below.refl _ _,ψ⟩⟩
   case round=>
    obtain ⟨p,hp,rfl,bY⟩:=hrel;have bZ:=Lh (P.o.1.th bY.o.1);by_cases iO:p<l.length
    .obtain ⟨x,X⟩:∃ y,l[p]?=ς y:=⟨_,Lg iO⟩
     obtain ⟨b1,o1,rfl,iV,x0,⟨av,x1,fB⟩,iQ⟩:=(hN.o.cals (bY.o.1.mono (d.o J P.o.1).b.size)).nth X;obtain ⟨gG,gH,rfl⟩:=fB.form;have fO:=Lh X;have fS:∀ V,ϐ wr wr V->Gh w V (.agg #[.string x.proc,σ gG x.args gH]) x:=λV hV=>⟨_,rfl,fB.ints (hV.mono (d.o wr bZ.o).b.size),iQ⟩
     have iA:=Lh fS;have iZ:=In p;have jA:(p:Int)<(l:Int):=ω;clear X fB fS iV;go_upto_region 15 with fail;obtain ⟨V,hV⟩:=ε (wr.alloc (χ #[.string x.proc,σ gG x.args gH] 64));have eI:=Lh (bl1 hV);have eZ:=ro11 hV;have v0:=Ω2 eZ;have cV:=Lh (bZ.o.th eI.o);rw [<-hV];clear hV eZ x0 x1;obtain ⟨⟨c0,c1,c2,zc⟩,-⟩:=d.o V cV.o;go_wp2_with fail;refine (swrong_any cd _ x _ (w:Nat) V (d.o V cV.o).b.size (d.o V cV.o).cod (iA.o V eI.o)).mono ?_;rintro e D ⟨rfl,Q⟩;have N:=Lh (cV.o.th Q);have hI:=Lh ((bY.o.1.th eI.o).th Q);clear c0 c1 c2 zc v0 Q;obtain ⟨ge,eX⟩:=ε (AS cd x 0);rw [<-eX];have fE:=Lh eX;clear eX;by_cases cL:ge=0
     .subst cL
      have hn:Hid (∀ y∈l.take (p+1),AS cd y 0=0):=Lh (λy S=>by
       rw [List.take_add_one,fO.o] at S;rcases List.mem_append.1 S with S|S
       .exact bY.o.2 y S
       .simp at S;subst S;exact fE.o.symm)
      go_wp2;go_roundw
      case rel=>exact ⟨p+1,ω,by go_num,Lh ⟨hI.o,hn.o⟩⟩
      case measure=>simp [intOf];omega
     .have hQ:=Lh cL
      have iY:=τ ge 0 cL;have hS:=@Lh (Ed cd cs=ge) (by
       have h:=fE.o;rw [h];exact Km HX.o P.o.2 fO.o bY.o.2 (by rw [<-h];exact cL))
      clear cL;have g:=row13 (d.o D N.o).t;have bH:=g 0 _ rfl;have aX:D.frozen? (π (w+1+1) 0)=ϝ:=Fz (d.o D N.o).t;have bI:=g 1 _ rfl;have aY:D.frozen? (π (w+1+1) 1)=ϝ:=Fz (d.o D N.o).t;have bJ:=g 2 _ rfl;have aZ:D.frozen? (π (w+1+1) 2)=ϝ:=Fz (d.o D N.o).t;have bK:=g 3 _ rfl;have bA:D.frozen? (π (w+1+1) 3)=ϝ:=Fz (d.o D N.o).t;have bL:=g 4 _ rfl;have bB:D.frozen? (π (w+1+1) 4)=ϝ:=Fz (d.o D N.o).t;have bM:=g 5 _ rfl;have bC:D.frozen? (π (w+1+1) 5)=ϝ:=Fz (d.o D N.o).t;have bN:=g 6 _ rfl;have bD:D.frozen? (π (w+1+1) 6)=ϝ:=Fz (d.o D N.o).t;have bO:=g 7 _ rfl;have bE:D.frozen? (π (w+1+1) 7)=ϝ:=Fz (d.o D N.o).t;have bP:=g 8 _ rfl;have bF:D.frozen? (π (w+1+1) 8)=ϝ:=Fz (d.o D N.o).t;have bQ:=g 9 _ rfl;have bG:D.frozen? (π (w+1+1) 9)=ϝ:=Fz (d.o D N.o).t;have aI:=g 10 _ rfl;have aF:D.frozen? (π (w+1+1) 10)=ϝ:=Fz (d.o D N.o).t;have aJ:=g 11 _ rfl;have aG:D.frozen? (π (w+1+1) 11)=ϝ:=Fz (d.o D N.o).t;have aK:=g 12 _ rfl;have aH:D.frozen? (π (w+1+1) 12)=ϝ:=Fz (d.o D N.o).t;have zR:(w:Nat)+1+1<D:=(Array.getElem?_eq_some_iff.1 (d.o D N.o).t).1;clear g;go_wp2_with fail;rw [puts13];exact snw_err rfl (d.o D N.o) (fH.o.trans hS.o) hQ.o rfl rfl rfl
    .obtain rfl:p=l.length:=ω
     have hn:Hid (∀ z∈cs.take (k+1),∀ y∈z,AS cd y 0=0):=Lh (λz A y S=>by
      rw [List.take_add_one,HX.o] at A;rcases List.mem_append.1 A with A|A
      .exact P.o.2 z A y S
      .simp at A;subst A;exact bY.o.2 y (by rw [List.take_length];exact S))
     go_wp2;go_roundw
     case rel=>exact ⟨k+1,ω,by go_num,Lh ⟨bZ.o,hn.o⟩⟩
     case measure=>simp [intOf];omega
  obtain rfl:k=cs.length:=ω;have hT:=Lh (by
   have h:=P.o.2;rw [List.take_length] at h;exact h)
  have hK:=@Lh (GO cd m cs fuel=0) (by rw [fH.o];exact Gp hT.o);have bR:=Lh P.o.1;clear P M o H;obtain ⟨-,⟨g0,g1,Z⟩,-⟩:=d.o J bR.o;obtain ⟨R,dC⟩:=ε (⟨m,[],0,fuel,[],cs,[],[],[],[],0,0⟩:Tra);have aM:∀ {α:Type} {sz:Nat} {E:Ϣ->Nat->Nat->α->Prop},AE w J sz E ν []:=fun {α sz E}=>⟨none,0,rfl,ψ,ψ,ω,.inl rfl⟩
  have gF:TraVs (J:Nat) J [σ ga m.G gc,σ ma m.N mc,ν,ι 0,ι fuel,ν,σ la cs lc,ν,ν,ν,ν,ι 0,ι 0] R:=by
   rw [dC];have K:=d.o J bR.o;obtain ⟨gv,nv,e,hg,hn⟩:=K.mm;obtain ⟨rfl,rfl⟩:Value.slice ga m.G.length gc=gv/\Value.slice ma m.N.length mc=nv:=by simpa using e
   refine TraVs.ups (B:=(w:Nat)) K.b.size (λ_ _ h=>h) ?_;exact ⟨_,_,_,_,_,_,_,_,_,rfl,hg,hn,aM,aM,K.cs,aM,aM,aM,aM⟩
  have cK:CopyS R:=by rw [dC];refine ⟨U.o.g,⟨Nt U.o.n ω,U.o.f⟩,⟨Nat.zero_le _,λl hl=>by cases hl⟩,⟨Nat.zero_le _,λl hl=>by cases hl⟩,⟨Nat.zero_le _,λl hl=>by cases hl⟩,⟨Nat.zero_le _,λl hl=>by cases hl⟩,Nat.zero_le _,⟨Nt H8.o ω,λl hl=>⟨?_,λx X=>U.o.a l hl x X⟩⟩,⟨Nat.zero_le _,λl hl=>by cases hl⟩⟩;have h:=HA.o;rw [List.any_eq_false] at h;have:=h l hl;simp at this;omega
  have hJ:=Lh (scopied_any R [σ ga m.G gc,σ ma m.N mc,ν,ι 0,ι fuel,ν,σ la cs lc,ν,ν,ν,ν,ι 0,ι 0] (o14s (J:Nat)) J gF cK (λb K=>o14s_hi K));have hU:=Lh dC;clear aM gF cK dC;go_wp2_with fail;refine hJ.o.mono ?_;rintro e I ⟨jP,c4,rfl,eU,aV,fZ⟩;obtain ⟨gI,gQ,gY,gJ,gR,gZ,gK,gS,hA,gL,gT,hB,gM,gU,hE,gN,gV,hF,gO,gW,hG,gP,gX,hH,cS,cT,cU,rfl⟩:=eU.shape;obtain ⟨F,bX⟩:=ε (I.alloc (χ #[σ gI gQ gY,σ gJ gR gZ,σ gK gS hA,ι R.clock,ι R.Y,σ gL gT hB,σ gM gU hE,σ gN gV hF,σ gO gW hG,σ gP gX hH,σ cS cT cU,ι R.aborts,ι R.U] 39));have aR:=SAt.boxed eU fZ bX;have cF:ϐ J J I:=⟨aV.os,aV.tape,aV.output,aV.size,λb K=>aV.kp b K (no _)⟩
  have cG:ϐ J J F:=cF.th (bl1 bX);obtain ⟨c5,fW⟩:=ε (λb=>if b=(I:Nat) then 1 else c4 b:A1);rw [<-fW] at aR;have aO:∀ b,b<(J:Nat)->c5 b=14:=λb K=>by rw [aR.2.old b (Nl K aV.size),aV.old b K,o14s_lo K]
  have eD:Hid (∀ (V:Ϣ) (c':A1),AT NZ c5 c' F V->ϐ J J V/\c' ((w:Nat)+1+1)=14):=Lh (λV c' h=>by
   have hk:=d.o J bR.o;have hl:(w:Nat)+1+1<J:=by have:=hk.s;omega
   exact ⟨cG.trans (h.belowN (λb K=>by rw [aO b K];exact Io) cG.size),(h.old _ (Nl hl cG.size)).trans (aO _ hl)⟩)
  have fI:=Lh aR.1;have fD:Hid ((I:Nat)<F/\F.heap[(I:Nat)]?=ς (χ #[σ gI gQ gY,σ gJ gR gZ,σ gK gS hA,ι R.clock,ι R.Y,σ gL gT hB,σ gM gU hE,σ gN gV hF,σ gO gW hG,σ gP gX hH,σ cS cT cU,ι R.aborts,ι R.U] 39 (0,0))):=Lh ⟨by rw [bX];simp,by rw [bX];exact Hn _ _⟩;have bZ:=Lh cG;have fK:=Lh bX;clear g0 g1 Z eU aV fZ aR cF cG fW aO bX;obtain ⟨-,⟨g0,g1,Z⟩,-⟩:=d.o F (bR.o.th bZ.o);go_upto_region 22 with fail;rw [<-fK.o];clear fK;have eY:=λW=>FK W m.G.length (by have:=U.o.g;omega);obtain ⟨W6,bS⟩:=ε ((F.alloc (χ (Ad (ϱ m.G.length 0)) 3)).alloc (χ #[σ (ς (π F 0)) m.G m.G.length] 22));have Q:ϐ F F W6:=by rw [bS];exact (AA _ _).th (AA _ _)
  have iP:(W6:Nat)=(F:Nat)+2:=by rw [bS];simp
  obtain ⟨c6,cJ⟩:=ε (λb=>if b=(F:Nat) then 102 else if b=(F:Nat)+1 then 22 else c5 b:A1);have eQ:AT NO c5 c6 F W6:=⟨Q.os,Q.tape,Q.output,Q.size,λb h _=>Q.block b h,λb h=>by
   rw [cJ];show (if _ then _ else _)=_;rw [if_neg ω,if_neg ω],no 0⟩
  have cN:∀ b,(W6:Nat)<=b->c6 b=0:=λb h=>by rw [cJ];show (if _ then _ else _)=_;rw [if_neg ω,if_neg ω];exact fI.o.hi b ω
  have fR:Dq W6 c6 102 (σ (ς (π F 0)) m.G m.G.length) (ϱ m.G.length 0):=by have h1:=QB (w:=F) (c:=c6) (k:=m.G.length) (tag:=102) (by have:=U.o.g;omega) (by rw [cJ];exact if_pos rfl);rw [bS];exact h1.kp (T:=NO) (AT.ob (AA _ _) (no 0)) (no _)
  have gD:Ao W6 c6 22 22 1 (σ (ς (π (F+1) 0)) 1 1) 1 [σ (ς (π F 0)) m.G m.G.length]:=by
   have h1:=rowC_rep (w:=F.alloc (χ (Ad (ϱ m.G.length 0)) 3)) (c:=c6) (tag:=22) (n:=1) (e:=22) (z:=σ (ς (π F 0)) m.G m.G.length) ω (by
    rw [cJ,show (F.alloc (χ (Ad (ϱ m.G.length 0)) 3)).heap.size=(F:Nat)+1 by simp];show (if _ then _ else _)=_;rw [if_neg ω];exact if_pos rfl)
   rw [show (F.alloc (χ (Ad (ϱ m.G.length 0)) 3)).heap.size=(F:Nat)+1 by simp] at h1;rw [bS];exact h1
  obtain ⟨Y,cg⟩:=fI.o.newV (x:=ϱ m.G.length 0) eQ cN gD ⟨m.G.length,by simpa using fR.1⟩;have bT:=(Q.block _ fD.o.1).trans fD.o.2;have q2:=row13 bT 2 _ rfl;have qf:=Ψ 2 bT;obtain ⟨W7,eS⟩:=ε (W6.setCell (π I 2) (σ (ς (π (F+1) 0)) 1 1));rw [<-eS] at Y cg;have fJ:=@Lh (SAt W7 c6 I (nodK m fuel cs 0)/\AT NZ c5 c6 F W7) (by
   rw [hU.o] at Y;refine ⟨?_,(eQ.mono (λt ht=>absurd ht (no t)) Qx).trans (cg.mono (λt ht=>by unfold NZ;omega) Qx)⟩;unfold nodK;rw [List.take_zero];exact Y)
  have fM:=Lh eS;have fL:=Lh bS;rw [bS] at q2 qf;clear Q iP cJ eQ cN fR gD Y cg bT bS eS;go_upto_region 23 with fail;rw [<-fL.o,<- fM.o];clear fL fM q2 qf g0 g1 Z eY;obtain ⟨-,⟨g0,g1,Z⟩,-⟩:=d.o W7 (bR.o.th (eD.o W7 _ fJ.o.2).1);go_wp2_with fail;clear g0 g1 Z;have iN:m.N.length<=4096:=U.o.n;go_loopw [89] (λi wr=>∃ k:Nat,k<=m.N.length/\i=ι k/\Hid (∃ c,SAt wr c (I:Nat) (nodK m fuel cs k)/\AT NZ c5 c F wr)) (λi _=>m.N.length - (intOf i).toNat)
  case atStart=>exact ⟨0,Nat.zero_le _,rfl,Lh ⟨_,fJ.o⟩⟩
  case round=>
   obtain ⟨k,hk,rfl,dE⟩:=hrel;obtain ⟨c,dE⟩:=dE.o;have bV:=Lh dE;clear dE;by_cases cO:k<m.N.length
   .obtain ⟨x,X⟩:∃ x,m.N[k]?=ς x:=⟨_,Lg cO⟩
    obtain ⟨gv,nv,e,-,hn⟩:=(d.o wr (bR.o.th (eD.o wr c bV.o.2).1)).mm;obtain rfl:nv=σ ma m.N mc:=by simp at e;exact e.2.symm
    obtain ⟨b0,o0,rfl,fC,n1,⟨v,n2,hv⟩,-⟩:=hn.nth X;obtain ⟨xa,xc,rfl⟩:=hv.form;have iK:=In k;have iL:(k:Int)<(m.N:Int):=ω;have HX:=Lh X;have fF:=Lh cO;clear e hn hv fC X;go_upto_region 26 with fail;obtain ⟨G,bW⟩:=ε (wr.alloc (χ #[ι x.type,σ xa x.f xc] 72));have eO:=Cw ((ro11 bW)) 1 rfl;obtain ⟨s,P⟩:=ε (nodK m fuel cs k);have hX:=Lh P;have jC:s.vers.length<=4097:=by rw [P,nodK_len hk];have:=U.o.n;omega
    have VS:=Lh (bV.o.1.grow (bl1 bW));rw [<-P] at VS;have VC:=Lh (bV.o.2.trans (AT.ob (bl1 bW) Qx));have iB:Hid (c (wr:Nat)=0/\(wr:Nat)<G):=Lh ⟨bV.o.1.hi _ (Nr _),by rw [bW];simp⟩;have fG:=@Lh (x.f.length<=1000000) (U.o.f x (Lm HX.o));rw [<-bW];clear bW n1 n2 P;obtain ⟨va,vc,vx,v1,cR,cQ⟩:=VS.o.growV;have eM:=Lh cR;have eJ:=Lh cQ;have cB:Hid (c (I:Nat)=1/\(I:Nat)<G/\(∀ b,(G:Nat)<=b->c b=0)/\G.frozen? (π I 2)=ϝ):=Lh ⟨VS.o.lab,GStAt.lt (show GStAt G c _ (I:Nat) (traG _) from VS.o),VS.o.hi,GStAt.frz (show GStAt G c _ (I:Nat) (traG _) from VS.o) 2⟩;clear cR cQ;refine Ac (λVs=>Vs.cell? (π I 2)=ς (σ va s.vers vc)/\Vs.cell? (π wr 1)=ς (σ xa x.f xc)) [5,6,7,9] true 10 rfl κ κ ⟨v1,eO⟩ ?_;refine softA ?_;have eK:=Lh v1;have eL:=Lh eO;clear v1 eO;have eY:=λW=>FK W x.f.length (by have:=fG.o;omega);refine AH κ ?_;go_simp;clear eY;have cE:ϐ G G (G.alloc (χ (Ad (ϱ x.f.length 0)) 3)).drew:=Cb G _;refine ⟨⟨AB (AA _ _) eK.o,AB (AA _ _) eL.o⟩,?_⟩;obtain ⟨U4,cD⟩:=ε ((G.alloc (χ (Ad (ϱ x.f.length 0)) 3)).drew);rw [<-cD];have eN:=@Lh (ϐ G G U4) (by rw [cD];exact cE);have iC:Hid (∀ c':A1,c' (G:Nat)=100+16*s.vers.length+2->Dq U4 c' (100+16*s.vers.length+2) (σ (ς (π G 0)) x.f x.f.length) (ϱ x.f.length 0)):=Lh (λc' h'=>by
     have:=QB (w:=G) (c:=c') (k:=x.f.length) (by have:=fG.o;omega) h';rw [cD];exact this.kp (T:=NO) (AT.ob (AG Br 1) (no 0)) (no _))
    have gE:(U4:Nat)=(G:Nat)+1:=by rw [cD];simp
    have iE:=Lh gE;clear cD cE gE;refine AH κ ?_;go_simp;have aW:ϐ U4 U4 (U4.alloc (χ #[σ (ς (π G 0)) x.f x.f.length] 22)):=AA _ _;refine ⟨⟨AB (eN.o.th aW) eK.o,AB (eN.o.th aW) eL.o⟩,?_⟩;obtain ⟨c3,cY⟩:=ε (λb=>if b=(G:Nat) then 100+16*s.vers.length+2 else c b:A1);have cI:c3 (G:Nat)=100+16*s.vers.length+2:=by rw [cY];exact if_pos rfl
    have eP:AT NO c c3 G (U4.alloc (χ #[σ (ς (π G 0)) x.f x.f.length] 22)):=by have K:=eN.o.th aW;exact ⟨K.os,K.tape,K.output,K.size,λb h _=>K.block b h,λb h=>by rw [cY];exact if_neg ω,no 0⟩
    have cM:∀ b,(U4.alloc (χ #[σ (ς (π G 0)) x.f x.f.length] 22)).heap.size<=b->c3 b=0:=λb h=>by have h1:=iE.o;simp at h;rw [cY];show (if b=(G:Nat) then _ else _)=0;rw [if_neg ω];exact cB.o.2.2.1 b ω
    have fP:=Lh eP;have iD:=Lh ((iC.o c3 cI).kp (T:=NO) (AT.ob aW (no 0)) (no _));clear cI;refine AH κ ?_;refine Dz (λk=>k=22) (.tmp 94) (.tmp 99) 34 22 rfl underlying34 info_sints rfl δ δ (c:=c3) (tag:=22) (v:=σ va s.vers vc) (n:=s.vers.length) (xs:=vx) rfl (eM.o.kp eP (no _)) (π U4 0) 1 1 [σ (ς (π G 0)) x.f x.f.length] rfl rfl (λj u hu=>by rw [GB,Nat.zero_add,B6];simpa using hu) (by simp [Value.oneCell']) δ ω rfl ω cM (λg5 cC w5 c7 cP hC gA iH=>?_);obtain ⟨Y,cg⟩:=eJ.o w5 c7 (σ (ς (π g5 0)) (s.vers.length+1) cC) (σ (ς (π G 0)) x.f x.f.length) _ (ϱ x.f.length 0) (hC.aft fP.o) gA cP ⟨x.f.length,by
     have:=iD.o.1.kp hC ω;simpa using this⟩
    have h2:=hC.aft fP.o;have y1:=h2.cell eK.o (by show ¬c (I:Nat)=22;rw [cB.o.1];omega);have y2:=h2.cell eL.o (by show ¬c (wr:Nat)=22;rw [iB.o.1];omega);have yf:=h2.frozen cB.o.2.1 cB.o.2.2.2 (by show ¬c (I:Nat)=22;rw [cB.o.1];omega);obtain ⟨W8,eT⟩:=ε (w5.setCell (π I 2) (σ (ς (π g5 0)) (s.vers.length+1) cC));rw [<-eT] at Y cg;have hR:Hid (∃ c,SAt W8 c I (nodK m fuel cs (k+1))/\AT NZ c5 c F W8):=Lh ⟨c7,by
     rw [hX.o,nodK_next HX.o] at Y;exact Y,VC.o.trans (cg.mono (λt ht=>by unfold NZ;omega) Qx)⟩
    have fN:=Lh eT;clear hC gA cP iH Y cg h2 cY eP cM aW eT;refine ⟨.inl ⟨y1,y2⟩,?_⟩;refine AH κ ?_;go_simp;refine BH ?_;clear y1 y2 yf;rw [<-fN.o];clear fN;go_wp2;go_roundw
    case rel=>exact ⟨k+1,by have:=fF.o;omega,by go_num,hR⟩
    case measure=>have:=fF.o;simp [intOf];omega
   .obtain rfl:k=m.N.length:=ω
    have hP:=@Lh (cs.length<=1000) (by have:=H8.o;omega);clear cO hk;go_upto_region 28 with fail;refine Ac (λ_=>True) [1,3,5,7,9,11,13,15] true 16 rfl κ κ trivial ?_;refine softA ?_;refine ns_region (q:=103) (n:=cs.length) (s:=nodK m fuel cs m.N.length) (bo:=(I:Nat)) (C0:=c) (bV.o.1.grow (AG Br 1)) hP.o (by show 103+7<116;omega) ⟨rfl,rfl⟩ ⟨rfl,rfl⟩ ⟨rfl,rfl⟩ ⟨rfl,rfl⟩ ⟨rfl,rfl⟩ ⟨rfl,rfl⟩ ⟨rfl,rfl⟩ ⟨rfl,rfl⟩ ⟨κ,κ,κ,κ⟩ ⟨rfl,rfl,rfl,rfl⟩ ⟨rfl,rfl,rfl,rfl⟩ (λf c8 w8 fA fX=>?_);simp only [GS,Act.put,List.setIfInBounds_toArray,List.set_cons_zero,List.set_cons_succ];obtain ⟨L,cZ⟩:=ε (ff m fuel cs);have e8:({ nodK m fuel cs m.N.length with active:=ϱ cs.length zeroX,results:=ϱ cs.length [],Z:=ϱ cs.length [],P:=ϱ cs.length [] }:Tra)=L:=by rw [cZ];unfold nodK ff;rw [List.take_length]
    rw [e8] at fA;have hZ:=@Lh (TraWf L) (by rw [cZ];exact TraWf.newS hO.o);have fQ:AT NZ c5 c8 F w8:=bV.o.2.trans ((AT.ob (AG Br 1) Qx).trans (fX.mono (λt ht=>by unfold NZ;omega) Qx));obtain ⟨fV,cH⟩:=eD.o w8 c8 fQ;have hD:=d.o w8 (bR.o.th fV);have A:=hD.t;have g:=row13 A;obtain ⟨iF,iG,jQ,aP,eW⟩:=(show GStAt w8 c8 _ (I:Nat) (traG L) from fA)
    obtain ⟨dF,dN,dV,dG,dO,dW,dH,dP,dX,dI,dQ,dY,dJ,dR,dZ,dK,dS,eA,dL,dT,eB,dM,dU,eC,aS,aT,aU,rfl⟩:=eW.shape;have O:=row13 aP;have jF:=O 0 _ rfl;have jG:=O 1 _ rfl;have jH:=O 2 _ rfl;have jI:=O 3 _ rfl;have jJ:=O 4 _ rfl;have jK:=O 5 _ rfl;have jL:=O 6 _ rfl;have jM:=O 7 _ rfl;have jN:=O 8 _ rfl;have jO:=O 9 _ rfl;have iS:=O 10 _ rfl;have iT:=O 11 _ rfl;have iU:=O 12 _ rfl;have bH:=g 0 _ rfl;have aX:=Ψ 0 A;have bI:=g 1 _ rfl;have aY:=Ψ 1 A;have bJ:=g 2 _ rfl;have aZ:=Ψ 2 A;have bK:=g 3 _ rfl;have bA:=Ψ 3 A;have bL:=g 4 _ rfl;have bB:=Ψ 4 A;have bM:=g 5 _ rfl;have bC:=Ψ 5 A;have bN:=g 6 _ rfl;have bD:=Ψ 6 A;have bO:=g 7 _ rfl;have bE:=Ψ 7 A;have bP:=g 8 _ rfl;have bF:=Ψ 8 A;have bQ:=g 9 _ rfl;have bG:=Ψ 9 A;have aI:=g 10 _ rfl;have aF:=Ψ 10 A;have aJ:=g 11 _ rfl;have aG:=Ψ 11 A;have aK:=g 12 _ rfl;have aH:=Ψ 12 A;have aQ:=puts13_row A (σ dF dN dV) (σ dG dO dW) (σ dH dP dX) (ι L.clock) (ι L.Y) (σ dI dQ dY) (σ dJ dR dZ) (σ dK dS eA) (σ dL dT eB) (σ dM dU eC) (σ aS aT aU) (ι L.aborts) (ι L.U);have eR:AT (λt=>t=14) c8 c8 w8 (putsW w8 ((w:Nat)+1+1) 0 [σ dF dN dV,σ dG dO dW,σ dH dP dX,ι L.clock,ι L.Y,σ dI dQ dY,σ dJ dR dZ,σ dK dS eA,σ dL dT eB,σ dM dU eC,σ aS aT aU,ι L.aborts,ι L.U]):=puts_chg cH ω _ _ _;obtain ⟨WE,cX⟩:=ε (putsW w8 ((w:Nat)+1+1) 0 [σ dF dN dV,σ dG dO dW,σ dH dP dX,ι L.clock,ι L.Y,σ dI dQ dY,σ dJ dR dZ,σ dK dS eA,σ dL dT eB,σ dM dU eC,σ aS aT aU,ι L.aborts,ι L.U]);rw [<-cX] at aQ eR;have fU:ϐ w w WE:=by rw [cX];exact below_puts ω _ _ hD.b
    have eF:Hid (SNewIs cd m cs fuel w (.returned (.tuple #[.agg #[σ dF dN dV,σ dG dO dW,σ dH dP dX,ι L.clock,ι L.Y,σ dI dQ dY,σ dJ dR dZ,σ dK dS eA,σ dL dT eB,σ dM dU eC,σ aS aT aU,ι L.aborts,ι L.U],ι 0])) WE):=Lh ⟨fU,.inr ⟨hK.o,_,rfl,by rw [<-cZ];exact (eW.kp eR (okAll_of λt ht=>by omega)).reads hZ.o⟩⟩;have eG:=Lh aQ;have hY:=Lh cX;have zb:(I:Nat)<w8:=(La aP)
    clear fA fX cZ e8 fQ fV cH hD A g iF iG aP eW O aQ eR fU cX;go_wp2_with fail;rw [puts13,<- hY.o];exact ϖ (results_tra2 (p:=8) (u:=9) rfl eG.o _ rfl rfl) rfl eF.o
