import Derived.Test.YtigbfkiddlhhjaaGreatDoorSpo
set_option maxHeartbeats 1000000
set_option maxRecDepth 100000
set_option linter.all false
open Go renaming World→Ϣ,Value→ϒ,Calls→ϙ
open Option renaming some→ς
open And renaming intro→ϟ
open Go.Value renaming slice→σ
open Go.Obj renaming cells→χ
namespace Go.Proofs.YtigbfkiddlhhjaaGreatDoor
open Go.RowKit Proofs.Tryz
def ClnPost (tag:Nat) (e:TypeId) (sz n:Nat) (xs:List ϒ) (c:A1) (w:Ϣ) (en:Ending) (w':Ϣ):Prop:=∃ a cap c',en=.returned (σ a n cap)/\Ao w' c' tag e sz (σ a n cap) n xs/\AT NO c c' w w'/\∀ b,(w':Nat)<=b->c' b=0
structure Src (w:Ϣ) (sz:Nat) (a:Option Addr) (n:Nat) (xs:List ϒ):Prop where
 len:xs.length=n*sz
 at_:n=0\/∃ ad,a=ς ad/\∀ (j:Nat) u,xs[j]?=ς u->w.cell? (ad.add j)=ς u
 one:∀ u∈xs,u.oneCell'=true
 small:n<=1000000
def Src.nil_ {w:Ϣ} {sz n:Nat} {xs:List ϒ} (h:Src w sz none n xs):n=0/\xs=[]:=by
 have a:n=0:=by
  rcases h.at_ with h|⟨b,h,_⟩
  .exact h
  .cases h
 exact ⟨a,List.eq_nil_of_length_eq_zero (by rw [h.len,a];simp)⟩
def Src.below {w w':Ϣ} {sz n:Nat} {a:Option Addr} {xs:List ϒ} (h:Src w sz a n xs) (c:JT w w'):Src w' sz a n xs:=⟨h.len,h.at_.imp id (λ⟨b,e,k⟩=>⟨b,e,λj u d=>c _ _ (k j u d)⟩),h.one,h.small⟩
def wpl_cln {v:Array Oper} {rest:List Oper} {o:Oper} {a:Act} {Q:Exit->Act->Ϣ->Prop} {w:Ϣ} (J:o.guard=none) (s x:Operand) (t e:TypeId) (V:o.op=.call { callee:=.builtin .append,args:=#[s,x],argTypes:=#[t,t] }) (G:prog.underlying t=ς (.slice e)) {z:ϒ} {sz bytes:Nat} (U:(prog.info? e).map (λi=>(i.zero,i.size,i.bytes))=ς (ς z,sz,bytes)) (hz:z.cells.size=sz) (L:0<sz) (l:bytes<=1000)
  (tag:Nat) {c:A1} {w0:Ϣ} (M:w=w0.alloc (χ #[] e)) (hs:a.eval s=σ (ς (π w0 0)) 0 0) (E:Addr) (n xc:Nat) (f:List ϒ) (W:a.eval x=σ (ς E) n xc) (D:Src w0 sz (ς E) n f) (F:tag≠0) (aT:∀ b,(w0:Nat)<=b->c b=0)
  (h:∀ g d m p,Ao m p tag e sz (σ (ς (π g 0)) n d) n f->AT NO c p w0 m->(∀ b,m.heap.size<=b->p b=0)->wpList prog v Q rest (a.put o.dst (σ (ς (π g 0)) n d)) m):wpList prog v Q (o::rest) a w:=by
 refine wpList_plain J λ_ T=>?_;have he:w.heap[(w0:Nat)]?=ς (χ #[] e (0,0)):=by rw [M];exact Hn _ _
 have aQ:(w:Nat)=(w0:Nat)+1:=by rw [M];simp
 have y:Below w0 w0 w:=by rw [M];exact AA _ _
 obtain ⟨B,O⟩:=ε (λb=>if b=(w0:Nat) then tag else 0:A1);have N:B (w0:Nat)=tag:=by rw [O];exact if_pos rfl
 have I:∀ b,b≠(w0:Nat)->B b=0:=λb l=>by rw [O];exact if_neg l
  -- from the callee's colours to the caller's
 have C:∀ g d m p,Ao m p tag e sz (σ (ς (π g 0)) n d) n f->AT (λk=>k=tag) B p w m->(∀ b,m.heap.size<=b->p b=0)->wpList prog v Q rest (a.put o.dst (σ (ς (π g 0)) n d)) m:=λg d m p K r X=>by
  refine h g d m (λb=>if b<(w0:Nat) then c b else p b) ⟨K.1,λb l=>?_,K.2.2⟩ ⟨r.os.trans y.os,r.tape.trans y.tape,r.output.trans y.output,Nt y.size r.size,λb l _=>?_,λb l=>if_pos l,no 0⟩ (λb l=>?_)
  .have q:=K.2.1 b l
   show (if b<(w0:Nat) then c b else p b)=tag;rw [if_neg (λaP=>?_)]
   .exact q
   .rw [r.old b ω,I b ω] at q
    exact F q.symm
  .rw [r.kp b ω (by rw [I b ω];exact λe=>F e.symm)]
   exact y.block b l
  .have:=r.size
   show (if b<(w0:Nat) then c b else p b)=0;rw [if_neg ω];exact X b l
 have H:=WK (sz:=sz) he N;have R:∀ b,(w:Nat)<=b->B b=0:=λb l=>I b ω;by_cases S:n=0
 .subst S
  obtain rfl:f=[]:=List.eq_nil_of_length_eq_zero (by rw [D.len];simp);obtain ⟨ti,aM,aR,aN,aS⟩:=info_parts U;obtain ⟨m,Y,r1,A⟩:=run_append_fits (P:=prog) w 0 t o.type e ti sz G aM aN (w0:Nat) 0 0 [] H.1 E 0 xc [] ψ ψ ψ (Nr _);unfold Oper.wp;simp [execOp,V,resolve,invoke,builtin,hs,W,Y,Result.andThen];refine T _ _ (C (w0:Nat) 0 m B ⟨by simpa using r1,H.2⟩ ⟨A.os,A.tape,A.output,A.size,λb l hk=>A.block b l (λe=>hk (by simp at e;subst e;exact N)),λ_ _=>rfl,λe=>F e.symm⟩ (λb l=>R b (Nt A.size l)))
 .obtain ⟨aO,aD,aC⟩:=D.at_.resolve_left S
  cases aD;have Z:=D.small;refine wp_appW (λk=>k=tag) s x t e V G U hz L hs H E n xc f W D.len (λj u G=>AB y (aC j u G)) D.one ω ω ?_ rfl (λe=>F e.symm) R (λg d m p q h2 h3 _=>T _ _ ?_)
  .rw [Nat.zero_add]
   exact Nt (Nat.mul_le_mul Z l) δ
  rw [Nat.zero_add] at q ⊢;rw [List.nil_append] at q;exact C g d m p q h2 h3
def info_strx:(prog.info? 62).map (λi=>(i.zero,i.size,i.bytes))=ς (ς (.agg #[ν,ι 0,ι 0,ι 0,ι 0,ι 0,ι 0,ι 0,ι 0,ι 0,ι 0,ν,ν]),13,152):=by kernel_rfl
def clone_Int (tag:Nat) (c:A1) (a:Option Addr) (n cap:Nat) (xs:List ϒ) (w:Ϣ) (h:Src w 1 a n xs) (j:tag≠0) (e:∀ b,(w:Nat)<=b->c b=0):ϙ prog 55 #[σ a n cap] w (ClnPost tag 3 1 n xs c w):=by
 cases a with
 | none=>obtain ⟨rfl,rfl⟩:=h.nil_;have q:=Lib.run_eql_slice_nil (P:=prog);go_enter func55,ntmps55;go_wp2;go_ret;exact ⟨none,0,c,rfl,Ao.nil _ _ _ _ _,AT.ob Br (no 0),e⟩
 | some f=>
  have q:∀ w:Ϣ,(binOp .eql 22 (σ (ς f) n cap) ν).run prog w=.ok (.bool false) w:=λw=>by simpa using Lib.run_eql_slice_nil (P:=prog) w 22 3 (ς f) n cap 0 0 underlying22
  have o:=Lh h;have i:=Lh (ϟ j e);clear h j e;go_enter func55,ntmps55;go_wp2_with (at_builtin;refine wpl_cln rfl (.tmp 5) (.tmp 6) 22 3 rfl underlying22 Cx rfl δ δ tag (c:=c) rfl rfl f n cap xs rfl o.o i.o.1 i.o.2 ?_;intro g r s p k l m;have d:=Lh (ϟ k (ϟ l m));clear k l m);go_ret;exact ⟨_,_,p,rfl,d.o.1,d.o.2.1,d.o.2.2⟩
def clone_Nod (tag:Nat) (c:A1) (a:Option Addr) (n cap:Nat) (xs:List ϒ) (w:Ϣ) (h:Src w 2 a n xs) (j:tag≠0) (e:∀ b,(w:Nat)<=b->c b=0):ϙ prog 56 #[σ a n cap] w (ClnPost tag 72 2 n xs c w):=by
 cases a with
 | none=>obtain ⟨rfl,rfl⟩:=h.nil_;have q:=Lib.run_eql_slice_nil (P:=prog);go_enter func56,ntmps56;go_wp2;go_ret;exact ⟨none,0,c,rfl,Ao.nil _ _ _ _ _,AT.ob Br (no 0),e⟩
 | some f=>
  have q:∀ w:Ϣ,(binOp .eql 26 (σ (ς f) n cap) ν).run prog w=.ok (.bool false) w:=λw=>by simpa using Lib.run_eql_slice_nil (P:=prog) w 26 72 (ς f) n cap 0 0 underlying26
  have o:=Lh h;have i:=Lh (ϟ j e);clear h j e;go_enter func56,ntmps56;go_wp2_with (at_builtin;refine wpl_cln rfl (.tmp 5) (.tmp 6) 26 72 rfl underlying26 info_snode rfl δ δ tag (c:=c) rfl rfl f n cap xs rfl o.o i.o.1 i.o.2 ?_;intro g r s p k l m;have d:=Lh (ϟ k (ϟ l m));clear k l m);go_ret;exact ⟨_,_,p,rfl,d.o.1,d.o.2.1,d.o.2.2⟩
def clone_Rdr (tag:Nat) (c:A1) (a:Option Addr) (n cap:Nat) (xs:List ϒ) (w:Ϣ) (h:Src w 2 a n xs) (j:tag≠0) (e:∀ b,(w:Nat)<=b->c b=0):ϙ prog 59 #[σ a n cap] w (ClnPost tag 85 2 n xs c w):=by
 cases a with
 | none=>obtain ⟨rfl,rfl⟩:=h.nil_;have q:=Lib.run_eql_slice_nil (P:=prog);go_enter func59,ntmps59;go_wp2;go_ret;exact ⟨none,0,c,rfl,Ao.nil _ _ _ _ _,AT.ob Br (no 0),e⟩
 | some f=>
  have q:∀ w:Ϣ,(binOp .eql 37 (σ (ς f) n cap) ν).run prog w=.ok (.bool false) w:=λw=>by simpa using Lib.run_eql_slice_nil (P:=prog) w 37 85 (ς f) n cap 0 0 underlying37
  have o:=Lh h;have i:=Lh (ϟ j e);clear h j e;go_enter func59,ntmps59;go_wp2_with (at_builtin;refine wpl_cln rfl (.tmp 5) (.tmp 6) 37 85 rfl underlying37 info_arr2 rfl δ δ tag (c:=c) rfl rfl f n cap xs rfl o.o i.o.1 i.o.2 ?_;intro g r s p k l m;have d:=Lh (ϟ k (ϟ l m));clear k l m);go_ret;exact ⟨_,_,p,rfl,d.o.1,d.o.2.1,d.o.2.2⟩
def clone_Wrr (tag:Nat) (c:A1) (a:Option Addr) (n cap:Nat) (xs:List ϒ) (w:Ϣ) (h:Src w 3 a n xs) (j:tag≠0) (e:∀ b,(w:Nat)<=b->c b=0):ϙ prog 62 #[σ a n cap] w (ClnPost tag 120 3 n xs c w):=by
 cases a with
 | none=>obtain ⟨rfl,rfl⟩:=h.nil_;have q:=Lib.run_eql_slice_nil (P:=prog);go_enter func62,ntmps62;go_wp2;go_ret;exact ⟨none,0,c,rfl,Ao.nil _ _ _ _ _,AT.ob Br (no 0),e⟩
 | some f=>
  have q:∀ w:Ϣ,(binOp .eql 60 (σ (ς f) n cap) ν).run prog w=.ok (.bool false) w:=λw=>by simpa using Lib.run_eql_slice_nil (P:=prog) w 60 120 (ς f) n cap 0 0 underlying60
  have o:=Lh h;have i:=Lh (ϟ j e);clear h j e;go_enter func62,ntmps62;go_wp2_with (at_builtin;refine wpl_cln rfl (.tmp 5) (.tmp 6) 60 120 rfl underlying60 info_arr3 rfl δ δ tag (c:=c) rfl rfl f n cap xs rfl o.o i.o.1 i.o.2 ?_;intro g r s p k l m;have d:=Lh (ϟ k (ϟ l m));clear k l m);go_ret;exact ⟨_,_,p,rfl,d.o.1,d.o.2.1,d.o.2.2⟩
def clone_Out (tag:Nat) (c:A1) (a:Option Addr) (n cap:Nat) (xs:List ϒ) (w:Ϣ) (h:Src w 5 a n xs) (j:tag≠0) (e:∀ b,(w:Nat)<=b->c b=0):ϙ prog 90 #[σ a n cap] w (ClnPost tag 114 5 n xs c w):=by
 cases a with
 | none=>obtain ⟨rfl,rfl⟩:=h.nil_;have q:=Lib.run_eql_slice_nil (P:=prog);go_enter func90,ntmps90;go_wp2;go_ret;exact ⟨none,0,c,rfl,Ao.nil _ _ _ _ _,AT.ob Br (no 0),e⟩
 | some f=>
  have q:∀ w:Ϣ,(binOp .eql 127 (σ (ς f) n cap) ν).run prog w=.ok (.bool false) w:=λw=>by simpa using Lib.run_eql_slice_nil (P:=prog) w 127 114 (ς f) n cap 0 0 underlying127
  have o:=Lh h;have i:=Lh (ϟ j e);clear h j e;go_enter func90,ntmps90;go_wp2_with (at_builtin;refine wpl_cln rfl (.tmp 5) (.tmp 6) 127 114 rfl underlying127 JB rfl δ δ tag (c:=c) rfl rfl f n cap xs rfl o.o i.o.1 i.o.2 ?_;intro g r s p k l m;have d:=Lh (ϟ k (ϟ l m));clear k l m);go_ret;exact ⟨_,_,p,rfl,d.o.1,d.o.2.1,d.o.2.2⟩
def clone_Cal (tag:Nat) (c:A1) (a:Option Addr) (n cap:Nat) (xs:List ϒ) (w:Ϣ) (h:Src w 2 a n xs) (j:tag≠0) (e:∀ b,(w:Nat)<=b->c b=0):ϙ prog 91 #[σ a n cap] w (ClnPost tag 64 2 n xs c w):=by
 cases a with
 | none=>obtain ⟨rfl,rfl⟩:=h.nil_;have q:=Lib.run_eql_slice_nil (P:=prog);go_enter func91,ntmps91;go_wp2;go_ret;exact ⟨none,0,c,rfl,Ao.nil _ _ _ _ _,AT.ob Br (no 0),e⟩
 | some f=>
  have q:∀ w:Ϣ,(binOp .eql 65 (σ (ς f) n cap) ν).run prog w=.ok (.bool false) w:=λw=>by simpa using Lib.run_eql_slice_nil (P:=prog) w 65 64 (ς f) n cap 0 0 underlying65
  have o:=Lh h;have i:=Lh (ϟ j e);clear h j e;go_enter func91,ntmps91;go_wp2_with (at_builtin;refine wpl_cln rfl (.tmp 5) (.tmp 6) 65 64 rfl underlying65 PX rfl δ δ tag (c:=c) rfl rfl f n cap xs rfl o.o i.o.1 i.o.2 ?_;intro g r s p k l m;have d:=Lh (ϟ k (ϟ l m));clear k l m);go_ret;exact ⟨_,_,p,rfl,d.o.1,d.o.2.1,d.o.2.2⟩
def clone_Fra (tag:Nat) (c:A1) (a:Option Addr) (n cap:Nat) (xs:List ϒ) (w:Ϣ) (h:Src w 4 a n xs) (j:tag≠0) (e:∀ b,(w:Nat)<=b->c b=0):ϙ prog 92 #[σ a n cap] w (ClnPost tag 150 4 n xs c w):=by
 cases a with
 | none=>obtain ⟨rfl,rfl⟩:=h.nil_;have q:=Lib.run_eql_slice_nil (P:=prog);go_enter func92,ntmps92;go_wp2;go_ret;exact ⟨none,0,c,rfl,Ao.nil _ _ _ _ _,AT.ob Br (no 0),e⟩
 | some f=>
  have q:∀ w:Ϣ,(binOp .eql 55 (σ (ς f) n cap) ν).run prog w=.ok (.bool false) w:=λw=>by simpa using Lib.run_eql_slice_nil (P:=prog) w 55 150 (ς f) n cap 0 0 underlying55
  have o:=Lh h;have i:=Lh (ϟ j e);clear h j e;go_enter func92,ntmps92;go_wp2_with (at_builtin;refine wpl_cln rfl (.tmp 5) (.tmp 6) 55 150 rfl underlying55 FT rfl δ δ tag (c:=c) rfl rfl f n cap xs rfl o.o i.o.1 i.o.2 ?_;intro g r s p k l m;have d:=Lh (ϟ k (ϟ l m));clear k l m);go_ret;exact ⟨_,_,p,rfl,d.o.1,d.o.2.1,d.o.2.2⟩
def clone_Trx (tag:Nat) (c:A1) (a:Option Addr) (n cap:Nat) (xs:List ϒ) (w:Ϣ) (h:Src w 13 a n xs) (j:tag≠0) (e:∀ b,(w:Nat)<=b->c b=0):ϙ prog 61 #[σ a n cap] w (ClnPost tag 62 13 n xs c w):=by
 cases a with
 | none=>obtain ⟨rfl,rfl⟩:=h.nil_;have q:=Lib.run_eql_slice_nil (P:=prog);go_enter func61,ntmps61;go_wp2;go_ret;exact ⟨none,0,c,rfl,Ao.nil _ _ _ _ _,AT.ob Br (no 0),e⟩
 | some f=>
  have q:∀ w:Ϣ,(binOp .eql 35 (σ (ς f) n cap) ν).run prog w=.ok (.bool false) w:=λw=>by simpa using Lib.run_eql_slice_nil (P:=prog) w 35 62 (ς f) n cap 0 0 underlying35
  have o:=Lh h;have i:=Lh (ϟ j e);clear h j e;go_enter func61,ntmps61;go_wp2_with (at_builtin;refine wpl_cln rfl (.tmp 5) (.tmp 6) 35 62 rfl underlying35 info_strx rfl δ δ tag (c:=c) rfl rfl f n cap xs rfl o.o i.o.1 i.o.2 ?_;intro g r s p k l m;have d:=Lh (ϟ k (ϟ l m));clear k l m);go_ret;exact ⟨_,_,p,rfl,d.o.1,d.o.2.1,d.o.2.2⟩
