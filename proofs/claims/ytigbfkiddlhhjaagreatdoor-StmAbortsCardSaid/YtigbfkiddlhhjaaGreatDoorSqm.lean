import Derived.Test.YtigbfkiddlhhjaaGreatDoorSqj
import Derived.Test.YtigbfkiddlhhjaaGreatDoorSqg
set_option linter.all false
open Go renaming World→Ϣ,Value→ϒ
open Option renaming some→ς
open List renaming mem_cons→ϰ
open Go.Value renaming slice→σ
open Go.Obj renaming cells→χ
namespace Go.Proofs.YtigbfkiddlhhjaaGreatDoor
open Go.RowKit Proofs.Tryz
variable {w w' A:Ϣ} {a0 a:Act} {done:List Nat} {f:Nat->ϒ} {Q:Exit->Act->Ϣ->Prop} {S:Ϣ->Prop} {fin:Bool}
def CtV (w:Ϣ) (v:ϒ):Prop:=∃ (fa qa:Option Addr) (fc qc:Nat),v=.agg #[σ fa ctC.H fc,ι 1,σ qa ctC.funcs qc]/\BF w w v ctC
def CtV.below {v:ϒ} (h:CtV w v) (a:Below w w w'):CtV w' v:=by
 obtain ⟨b,f,c,g,d,e⟩:=h;exact ⟨b,f,c,g,d,(e.below a).up a.size⟩
def sixR (w:Ϣ) (b:Nat):Prop:=w.heap[b]?=ς (χ #[ι 0,ι 1,ι 0,ι 1,ι 0,ι 1] 3 (0,0))
def sixR.ints {b:Nat} (h:sixR w b):AE w w 1 Aj (σ (ς (π b 0)) 6 6) [0,1,0,1,0,1]:=by
 have d:=(La h)
 refine ⟨_,6,rfl,ψ,ψ,ω,.inr ⟨_,0,rfl,d,λi x a=>?_⟩⟩;have c:∀ (j:Nat) v,(#[ι 0,ι 1,ι 0,ι 1,ι 0,ι 1]:Array ϒ)[j]?=ς v->w.cell? (π b j)=ς v:=λj v e=>by rw [cell_of_row _ _ _ _ _ _ h];exact e
 rw [Nat.zero_add,Nat.mul_one]
 match i,a with
 | 0,a=>cases a;exact ⟨c 0 _ rfl,by unfold in64;omega⟩
 | 1,a=>cases a;exact ⟨c 1 _ rfl,by unfold in64;omega⟩
 | 2,a=>cases a;exact ⟨c 2 _ rfl,by unfold in64;omega⟩
 | 3,a=>cases a;exact ⟨c 3 _ rfl,by unfold in64;omega⟩
 | 4,a=>cases a;exact ⟨c 4 _ rfl,by unfold in64;omega⟩
 | 5,a=>cases a;exact ⟨c 5 _ rfl,by unfold in64;omega⟩
 | i+6,a=>cases a
def zeroR (w:Ϣ) (b:Nat):Prop:=w.heap[b]?=ς (χ #[ν,ν,ν,ι 0,ι 0,ν,ν,ν,ν,ν,ν,ι 0,ι 0] 39 (0,0))
def mkSl (i:Nat):Nat:=if i=0 then 22 else if i=2 then 24 else 4
structure AwM (A:Ϣ) (a0:Act) (done:List Nat) (a:Act) (w:Ϣ) (f:Nat->ϒ):Prop where
 act:a=GS a0 mkSl f done
 nd:done.Nodup
 sub:∀ i∈done,i∈[0,2,8]
 below:Below A A w
 c0:0∈done->CtV w (f 0)
 c2:2∈done->∃ b,f 2=σ (ς (π b 0)) 6 6/\sixR w b
 c8:8∈done->∃ b,f 8=.pointer (ς (π b 0))/\zeroR w b/\(A:Nat)<=b
def AwM.next (h:AwM A a0 done a w f) {i:Nat} (o:i∉done) (s:i∈[0,2,8]) (v:ϒ) (k:Below w w w') (n0:i=0->CtV w' v) (n2:i=2->∃ b,v=σ (ς (π b 0)) 6 6/\sixR w' b) (n8:i=8->∃ b,v=.pointer (ς (π b 0))/\zeroR w' b/\(A:Nat)<=b):AwM A a0 (i::done) (a.put (ς (mkSl i)) v) w' (λj=>if j=i then v else f j):=by
 have r:∀ j∈done,(if j=i then v else f j)=f j:=λj c=>if_neg (λe=>o (by rw [<-e];exact c));have m:∀ {j:Nat},j∈i::done->j≠i->j∈done:=λc p=>(ϰ.1 c).resolve_left p;refine ⟨?_,List.nodup_cons.2 ⟨o,h.nd⟩,λj c=>?_,h.below.trans (k.mono h.below.size),λc=>?_,λc=>?_,λc=>?_⟩
 .show _=(GS a0 mkSl (λj=>if j=i then v else f j) done).put (ς (mkSl i)) (if i=i then v else f i)
  rw [if_pos rfl,K4 (l:=done) (g:=f) r,h.act]
 .rcases ϰ.1 c with rfl|c
  .exact s
  .exact h.sub j c
 .by_cases e:0=i
  .subst e;rw [if_pos rfl];exact n0 rfl
  .have hd:=m c e
   rw [if_neg e];exact (h.c0 hd).below k
 .by_cases e:2=i
  .subst e;rw [if_pos rfl];exact n2 rfl
  .have hd:=m c e
   rw [if_neg e];obtain ⟨b,n,d⟩:=h.c2 hd;exact ⟨b,n,(k.block b (La d)).trans d⟩
 .by_cases e:8=i
  .subst e;rw [if_pos rfl];exact n8 rfl
  .have hd:=m c e
   rw [if_neg e];obtain ⟨b,n,d,q⟩:=h.c8 hd;exact ⟨b,n,(k.block b (La d)).trans d,q⟩
def mkSl_inj:∀ i∈[0,2,8],∀ j∈[0,2,8],mkSl i=mkSl j->i=j:=δ
def AwM.perm {l:List Nat} (h:AwM A a0 done a w f) (c:l.Nodup) (hl:∀ i,i∈l↔i∈done):AwM A a0 l (GS a0 mkSl f l) w f/\a=GS a0 mkSl f l:=by
 have e:done.Perm l:=(List.perm_ext_iff_of_nodup h.nd c).2 (λi=>(hl i).symm);exact ⟨⟨rfl,c,λi b=>h.sub i ((hl i).1 b),h.below,λk=>h.c0 ((hl 0).1 k),λk=>h.c2 ((hl 2).1 k),λk=>h.c8 ((hl 8).1 k)⟩,h.act.trans (SB e (λi b j d=>mkSl_inj i (h.sub i b) j (h.sub j d)))⟩
def perm8 {α:Type} (a b c d e f g h i j k:α):[a,b,h,c,d,e,f,g,i,j,k].Perm [a,b,c,d,e,f,g,h,i,j,k]:=.cons _ (.cons _ (List.perm_middle (l₁:=[c,d,e,f,g]) (l₂:=[i,j,k])).symm)
def hard_gen {P:Program} {n:Nat} {c:List (Nat×Oper)} (R:Act->Act->Ϣ->Prop) (T:Ϣ->Prop) (h:∀ V,T V->S V) (f:∀ (d:Exit->Act->Ϣ->Prop) (e:Ϣ->Prop),(∀ V,T V->e V)->(∀ b w',R a b w'->d .normal b w')->Dm P n d e fin c a w) (g:∀ b w',R a b w'->Q .normal b w'):Dm P n Q S fin c a w:=f Q S h g
def aw_makes {N:Nat} {g k j d:Oper} {rest:List (Nat×Oper)} (I:g.op=.call { callee:=.value (.func 19),args:=#[],argTypes:=#[] }/\g.dst=ς 22)
  (v:∀ (a:Act) (w:Ϣ),(execOp a.eval k).run prog w=.ok (.value (σ (ς (π w 0)) 6 6)) (w.alloc (χ #[ι 0,ι 1,ι 0,ι 1,ι 0,ι 1] 3))) (d2:k.dst=ς 24)
  (R:∀ (a:Act) (w:Ϣ),(execOp a.eval d).run prog w=.ok (.value (.pointer (ς (π w 0)))) (w.alloc (χ #[ν,ν,ν,ι 0,ι 0,ν,ν,ν,ν,ν,ν,ι 0,ι 0] 39))) (L:d.dst=ς 4)
  (F:An 19) (E:∀ V,Below A A V->S V) (G:(([(0,g),(2,k),(8,d)]++(3,j)::rest).map (λ(p:Nat×Oper)=>p.1)).Nodup) (n:(waits (3,j) (0,g) && waits (3,j) (2,k))=true) (B:(rest.all λr=>((3,j)::rest).any (waits r))=true)
  (X:(rest.all λr=>r.1 != 8 && r.1 != 3 && ((8,d)::(3,j)::rest).any (waits r))=true)
  (T:∀ f V,AwM A a0 [8,2,0] (GS a0 mkSl f [8,2,0]) V f->Dm prog N Q S fin ((3,j)::rest) (GS a0 mkSl f [8,2,0]) V)
  (U:∀ f V,AwM A a0 [2,0] (GS a0 mkSl f [2,0]) V f->j.wp prog (GS a0 mkSl f [2,0]) V (λC w'=>(S w'\/(fin && 3+1 == N)=true)/\Dm prog N Q S fin ((8,d)::rest) C w') (NoPanic Q)):Dm prog N Q S fin ([(0,g),(2,k),(8,d)]++(3,j)::rest) a0 A:=by
 have Y:∀ r∈(3,j)::rest,(∀ i∈[0,2],∀ o,(i,o)∈[(0,g),(2,k),(8,d)]->waits r (i,o)=true)\/∃ r'∈(3,j)::rest,waits r r'=true:=λr z=>by
  rcases ϰ.1 z with rfl|z
  .rw [Bool.and_eq_true] at n
   refine .inl (λi b o J=>?_);simp only [ϰ,List.mem_nil_iff,or_false,Prod.mk.injEq] at b J;rcases J with ⟨rfl,rfl⟩|⟨rfl,rfl⟩|⟨rfl,rfl⟩
   .exact n.1
   .exact n.2
   .omega
  .rw [List.all_eq_true] at B
   exact .inr (List.any_eq_true.1 (B r z))
 have H:∀ {done:List Nat} {a:Act} {w:Ϣ} {f:Nat->ϒ},AwM A a0 done a w f->8∉done->d.wp prog a w (λC w'=>(S w'\/(fin && 8+1 == N)=true)/\∃ f,AwM A a0 (8::done) C w' f) (NoPanic Q):=fun {done a w f} c y=>by have x:=AA w (χ #[ν,ν,ν,ι 0,ι 0,ν,ν,ν,ν,ν,ν,ι 0,ι 0] 39);have m:=c.next y ψ (.pointer (ς (π w 0))) x (λe=>by cases e) (λe=>by cases e) (λ_=>⟨_,rfl,Hn _ _,c.below.size⟩);unfold Oper.wp;rw [R];show (_\/_)/\∃ f,AwM A a0 (8::done) (a.put d.dst _) _ f;rw [L];exact ⟨.inl (E _ m.below),_,m⟩
 refine SK [(0,g),(2,k),(8,d)] ((3,j)::rest) [0,2] (λdone a w=>∃ f,AwM A a0 done a w f) ⟨λ_=>undef,rfl,List.nodup_nil,ψ,Below.refl _ _,ψ,ψ,ψ⟩ G Y ?_ ?_ ?_
 .intro i b
  simp only [ϰ,List.mem_nil_iff,or_false] at b;rcases b with rfl|rfl
  .exact ⟨g,ψ⟩
  .exact ⟨k,ψ⟩
 .rintro p hp done a w y ⟨f,c⟩
  simp only [ϰ,List.mem_nil_iff,or_false] at hp;rcases hp with rfl|rfl|rfl
  .have z:(execOp a.eval g).run prog w=.ok (.enter 19 #[]) w:=by simpa [go_sem,execOp,I.1] using F #[] w
   unfold Oper.wp;rw [z,Oper.upon_enter];refine (counter_any w).mono ?_;rintro e w' ⟨O,Z,P,qc,rfl,W,x⟩;have m:=c.next y ψ _ x (λ_=>⟨O,Z,P,qc,rfl,W⟩) (λe=>by cases e) (λe=>by cases e);show (_\/_)/\∃ f,AwM A a0 (0::done) (a.put g.dst _) w' f;rw [I.2];exact ⟨.inl (E _ m.below),_,m⟩
  .have x:=AA w (χ #[ι 0,ι 1,ι 0,ι 1,ι 0,ι 1] 3)
   have m:=c.next y ψ (σ (ς (π w 0)) 6 6) x (λe=>by cases e) (λ_=>⟨_,rfl,Hn _ _⟩) (λe=>by cases e);unfold Oper.wp;rw [v];show (_\/_)/\∃ f,AwM A a0 (2::done) (a.put k.dst _) _ f;rw [d2];exact ⟨.inl (E _ m.below),_,m⟩
  .exact H c y
 .rintro done a w aA ⟨f,c⟩
  have q:=aA 0 ψ;have s:=aA 2 ψ;have u:∀ {done:List Nat} {a:Act} {w:Ϣ} {f:Nat->ϒ},AwM A a0 done a w f->0∈done->2∈done->8∈done->Dm prog N Q S fin ((3,j)::rest) a w:=fun {done a w f} c q s t=>by
   obtain ⟨D,v⟩:=c.perm (l:=[8,2,0]) ψ (λi=>⟨λb=>by
    simp only [ϰ,List.mem_nil_iff,or_false] at b;rcases b with rfl|rfl|rfl
    .exact t
    .exact s
    .exact q,λb=>by
    have:=c.sub i b;simp only [ϰ,List.mem_nil_iff,or_false] at this ⊢;omega⟩)
   rw [v];exact T f w D
  by_cases t:8∈done
  .have e:[(0,g),(2,k),(8,d)].filter (λp=>!done.contains p.1)=[]:=by simp [q,s,t]
   rw [e];exact u c q s t
  .have e:[(0,g),(2,k),(8,d)].filter (λp=>!done.contains p.1)=[(8,d)]:=by simp [q,s,t]
   rw [e];refine Dv δ X ?_ ?_
   .refine Oper.wp_mono (λC w' h=>⟨h.1,?_⟩) (H c t)
    obtain ⟨f',K⟩:=h.2;exact u K (List.mem_cons_of_mem _ q) (List.mem_cons_of_mem _ s) (List.mem_cons_self ..)
   .obtain ⟨D,v⟩:=c.perm (l:=[2,0]) ψ (λi=>⟨λb=>by
     simp only [ϰ,List.mem_nil_iff,or_false] at b;rcases b with rfl|rfl
     .exact s
     .exact q,λb=>by
     have:=c.sub i b;simp only [ϰ,List.mem_nil_iff,or_false] at this ⊢;by_cases M:i=8
     .subst M;exact absurd b t
     .omega⟩)
    rw [v];exact U f w D
