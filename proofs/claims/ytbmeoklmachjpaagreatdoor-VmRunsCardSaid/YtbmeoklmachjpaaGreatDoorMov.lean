/- The contract of bytecode.moves: what an instruction pops and pushes. -/
import Derived.Test.YtbmeoklmachjpaaGreatDoorByt3
import Derived.Deep.QuietTactic
import Derived.BigQuiet
import Derived.WalkSmall
import Derived.Deep.WholeRow
set_option maxHeartbeats 1000000
set_option maxRecDepth 100000
set_option linter.unusedVariables false
set_option linter.unusedSimpArgs false
namespace Go.Proofs.YtbmeoklmachjpaaGreatDoor
open Go.RowKit
theorem Xh {B:Nat} {a w:World} (h:Below B a w) (n:Nat):Below B a (w.drewN n):=h.trans ⟨rfl,rfl,rfl,Nat.le_refl _,fun _ _=>rfl⟩
def b2i (b:Bool):Int:=if b then 1 else 0
theorem Xkw (b:Bool) (w:World) :
  Calls Tryz.prog 140 #[.bool b] w fun e w'=>e=.returned (.int .i64 (b2i b))∧w'=w:=by
 cases b
 ·go_enter Tryz.func140,Tryz.ntmps140
  go_wp2
  go_ret
  exact ⟨rfl,rfl⟩
 ·go_enter Tryz.func140,Tryz.ntmps140
  go_wp2
  go_ret
  exact ⟨rfl,rfl⟩
def Ya (op:Int):Prop:=15≤op∧op≤25∨op=27∨op=28
instance (op:Int):Decidable (Ya op):=by unfold Ya;exact inferInstance
def Y1 (op:Int):Int:=if op=3∨op=5∨op=12∨op=30∨op=6∨op=14∨op=26∨op=29∨op=31 then 1 else if op=7 then 2 else 0
def Z7 (op:Int):Int:=if op=1∨op=2∨op=4∨op=8∨op=6∨op=14∨op=26∨op=29 then 1 else if op=31 then 2 else 0
def Xi0:List Int:=[0,0,0,1,0,1,1,0,0,1,1,0,1,1,2,0,0,1,0,0,0,0,0,0,1,0,0,0,1,1,0,0,0,0,0,0,0,0,0,0,0,0,0,0,0,0,0,0,0,0,0,0,1,1,0,0,0,0,1,1,1,0,1,2]
def J0:Array Value:=(Xi0.map (Value.int .i64)).toArray
theorem Xk4:∀ k:Nat,k<32→Xi0[k*2]?=some (Y1 k)∧Xi0[k*2+1]?=some (Z7 k):=by decide
theorem Xk6 (op:Int) (h0:0≤op) (h1:op≤31):J0[op.toNat*2]?=some (.int .i64 (Y1 op))∧J0[op.toNat*2+1]?=some (.int .i64 (Z7 op)):=by
 obtain ⟨k,rfl⟩:=Int.eq_ofNat_of_zero_le h0
 obtain ⟨h2,h3⟩:=Xk4 k (by omega)
 unfold J0
 simp only [Int.toNat_natCast,List.getElem?_toArray,List.getElem?_map,h2,h3,Option.map_some]
 trivial
theorem Jh {P:Program} {ops:Array Oper} {rest:List Oper} {o:Oper} {a:Act} {w:World} {Q:Exit→Act→World→Prop} (hg:o.guard=none) (t:TypeId) (parts:Array (Nat×Operand)) (ho:o.op=.build t parts)
  (cells:Array Value) (hf:P.built t (parts.map fun (i,x)=>(i,a.eval x)).toList=some cells)
  (h:wpList P ops Q rest (a.put o.dst (.agg cells)) w):wpList P ops Q (o::rest) a w:=by
 refine wpList_build hg t parts ho (by rw [hf];rfl) ?_
 rw [hf]
 exact h
theorem Xai (W:World) (n:Nat) (c:Array Value) (hn:n=W.heap.size) (hc:c.size=64):(storeCells ⟨n,0,none⟩ J0.toList 0).run Tryz.prog (W.alloc (.cells c 174))=.ok () (W.alloc (.cells J0 174)):=by
 subst hn
 exact run_storeCells_new W 174 c J0 (by kernel_rfl) (by rw [hc];rfl) (by kernel_rfl)
/-- the function with an index -/
def Je (c:Cod) (a:Int):Option Fun:=c.funcs[a.toNat]?
/-- what an instruction pops -/
def Xm (c:Cod) (f:Fun) (x:Ins):Int:=
 if x.op=9 then (match Je c x.a with|some g=>g.params|none=>0) else if x.op=10 then b2i f.result else if Ya x.op then 2 else Y1 x.op
/-- what an instruction pushes -/
def Xj (c:Cod) (f:Fun) (x:Ins):Int:=
 if x.op=9 then (match Je c x.a with|some g=>b2i g.result|none=>0) else if x.op=10 then 0 else if Ya x.op then 1 else Z7 x.op
theorem Xle (c:Cod) (cv:Value) (f:Fun) (fv:Value) (x:Ins) (xv:Value) (B:Nat) (w:World) (hB:B≤w.heap.size) (hc:Yj B w cv c) (hf:J4 B w fv f) (hx:Xa3 B w xv x) (h1:1≤x.op) (h2:x.op≤31) (hr:x.op=10) :
  Calls Tryz.prog 113 #[cv,fv,xv] w fun e w'=>e=.returned (.tuple #[.int .i64 (Xm c f x),.int .i64 (Xj c f x)])∧Below w.heap.size w w':=by
 obtain ⟨fv,gv,rfl,hcf,hcg,hgl⟩:=hc
 obtain ⟨kv,rfl,hk,hn,hp,hlo⟩:=hf
 obtain ⟨rfl,hop,ha⟩:=hx
 obtain ⟨fa,fcap,rfl,hfl,-,-,-⟩:=hcf
 obtain ⟨ga,gcap,rfl,hgl2,hgl3,hgl4,hgE⟩:=hcg
 obtain ⟨ka,kcap,rfl,hkl,-,-,-⟩:=hk
 have HGE:=Lh hgE
 clear hgE
 unfold in64 at *
 have e1:(x.op == 9)=false:=by rw [hr];rfl
 have e2:(x.op == 10)=true:=by rw [hr];rfl
 have hfin:Hid (Xm c f x=b2i f.result∧Xj c f x=0):=by
  constructor
  ·unfold Xm;rw [if_neg (by omega),if_pos hr]
  ·unfold Xj;rw [if_neg (by omega),if_pos hr]
 clear hr
 go_enter Tryz.func113,Tryz.ntmps113
 go_wp2_with (with_reducible refine Jh (o:=⟨some 25,_,_,_,_,_⟩) rfl 174 _ rfl J0 (by kernel_rfl) ?_)
 rw [Xai]
 rotate_left
 ·simp
 ·rfl
 simp only [Result.andThen_ok,Oper.upon_skip]
 go_wp2_with fail
 refine (Xkw _ _).mono ?_
 rintro e w' ⟨rfl,rfl⟩
 go_wp2_with fail
 go_ret2
 exact ⟨by rw [hfin.out.1,hfin.out.2];rfl,((((Below.refl _ _).alloc (Nat.le_refl _) _).alloc (by simp) _).alloc (by simp;omega) _).alloc (by simp;omega) _⟩
theorem Xlr (c:Cod) (cv:Value) (f:Fun) (fv:Value) (x:Ins) (xv:Value) (B:Nat) (w:World) (hB:B≤w.heap.size) (hc:Yj B w cv c) (hf:J4 B w fv f) (hx:Xa3 B w xv x) (h1:1≤x.op) (h2:x.op≤31) (hr:Ya x.op) :
  Calls Tryz.prog 113 #[cv,fv,xv] w fun e w'=>e=.returned (.tuple #[.int .i64 (Xm c f x),.int .i64 (Xj c f x)])∧Below w.heap.size w w':=by
 obtain ⟨fv,gv,rfl,hcf,hcg,hgl⟩:=hc
 obtain ⟨kv,rfl,hk,hn,hp,hlo⟩:=hf
 obtain ⟨rfl,hop,ha⟩:=hx
 obtain ⟨fa,fcap,rfl,hfl,-,-,-⟩:=hcf
 obtain ⟨ga,gcap,rfl,hgl2,hgl3,hgl4,hgE⟩:=hcg
 obtain ⟨ka,kcap,rfl,hkl,-,-,-⟩:=hk
 have HGE:=Lh hgE
 clear hgE
 unfold in64 at *
 unfold Ya at hr
 have e1:(x.op == 9)=false:=by simp;omega
 have e2:(x.op == 10)=false:=by simp;omega
 have hfin:Hid (Xm c f x=2∧Xj c f x=1):=by
  constructor
  ·unfold Xm;rw [if_neg (by omega),if_neg (by omega),if_pos (by unfold Ya;exact hr)]
  ·unfold Xj;rw [if_neg (by omega),if_neg (by omega),if_pos (by unfold Ya;exact hr)]
 go_enter Tryz.func113,Tryz.ntmps113
 go_wp2_with (with_reducible refine Jh (o:=⟨some 25,_,_,_,_,_⟩) rfl 174 _ rfl J0 (by kernel_rfl) ?_)
 rw [Xai]
 rotate_left
 ·simp
 ·rfl
 simp only [Result.andThen_ok,Oper.upon_skip]
 go_wp2_with fail
 all_goals first
  | (exfalso;simp only [beq_iff_eq,beq_eq_false_iff_ne] at *;omega)
  | (go_ret2;exact ⟨by rw [hfin.out.1,hfin.out.2];rfl,((((Below.refl _ _).alloc (Nat.le_refl _) _).alloc (by simp) _).alloc (by simp;omega) _).alloc (by simp;omega) _⟩)
theorem Xlu (c:Cod) (cv:Value) (f:Fun) (fv:Value) (x:Ins) (xv:Value) (B:Nat) (w:World) (hB:B≤w.heap.size) (hc:Yj B w cv c) (hf:J4 B w fv f) (hx:Xa3 B w xv x) (h1:1≤x.op) (h2:x.op≤31) (hr:¬Ya x.op) (hr2:x.op≠9) (hr3:x.op≠10) :
  Calls Tryz.prog 113 #[cv,fv,xv] w fun e w'=>e=.returned (.tuple #[.int .i64 (Xm c f x),.int .i64 (Xj c f x)])∧Below w.heap.size w w':=by
 obtain ⟨fv,gv,rfl,hcf,hcg,hgl⟩:=hc
 obtain ⟨kv,rfl,hk,hn,hp,hlo⟩:=hf
 obtain ⟨rfl,hop,ha⟩:=hx
 obtain ⟨fa,fcap,rfl,hfl,-,-,-⟩:=hcf
 obtain ⟨ga,gcap,rfl,hgl2,hgl3,hgl4,hgE⟩:=hcg
 obtain ⟨ka,kcap,rfl,hkl,-,-,-⟩:=hk
 have HGE:=Lh hgE
 clear hgE
 unfold in64 at *
 have hfin:Hid (Xm c f x=Y1 x.op∧Xj c f x=Z7 x.op):=by
  constructor
  ·unfold Xm;rw [if_neg hr2,if_neg hr3,if_neg hr]
  ·unfold Xj;rw [if_neg hr2,if_neg hr3,if_neg hr]
 unfold Ya at hr
 have e1:(x.op == 9)=false:=by simp;omega
 have e2:(x.op == 10)=false:=by simp;omega
 have e3:(x.op == 27)=false:=by simp;omega
 have e4:(x.op == 28)=false:=by simp;omega
 have hT:=Xk6 x.op (by omega) h2
 obtain ⟨p,hp1⟩:∃ p,Y1 x.op=p:=⟨_,rfl⟩
 obtain ⟨q,hq1⟩:∃ q,Z7 x.op=q:=⟨_,rfl⟩
 have hfin:Hid (Xm c f x=p∧Xj c f x=q):=by rw [←hp1,← hq1];exact hfin
 rw [hp1,hq1] at hT
 have HT:=Lh hT
 clear hT hp1 hq1
 go_enter Tryz.func113,Tryz.ntmps113
 go_wp2_with (with_reducible refine Jh (o:=⟨some 25,_,_,_,_,_⟩) rfl 174 _ rfl J0 (by kernel_rfl) ?_)
 rw [Xai]
 rotate_left
 ·simp
 ·rfl
 simp only [Result.andThen_ok,Oper.upon_skip]
 obtain ⟨W,hW⟩:∃ W,W=(((w.alloc (.cells #[.slice fa c.fields.length fcap,.int .i64 c.globals,.slice ga c.funcs.length gcap] 25)).alloc (.cells #[.string f.name,.int .i64 f.params,.int .i64 f.locals,.bool f.result,.slice ka f.code.length kcap] 75)).alloc (.cells #[.int .i64 x.op,.int .i64 x.a] 100)):=⟨_,rfl⟩
 have hWs:W.heap.size=w.heap.size+1+1+1:=by rw [hW];simp
 have hWb:Below w.heap.size w W:=by rw [hW];exact (((Below.refl _ _).alloc (Nat.le_refl _) _).alloc (by simp) _).alloc (by simp;omega) _
 have x0:(W.alloc (.cells J0 174)).cell? ⟨w.heap.size+1+1,0,none⟩=some (.int .i64 x.op):=by
  rw [World.cell?_alloc_past]
  ·rw [hW,c3c];rfl
  ·omega
 have t0:(W.alloc (.cells J0 174)).cell? ⟨w.heap.size+1+1+1,x.op.toNat*2,none⟩=some (.int .i64 p):=by
  rw [World.cell?_alloc_at _ _ _ _ hWs.symm];exact HT.out.1
 have t1:(W.alloc (.cells J0 174)).cell? ⟨w.heap.size+1+1+1,x.op.toNat*2+1,none⟩=some (.int .i64 q):=by
  rw [World.cell?_alloc_at _ _ _ _ hWs.symm];exact HT.out.2
 rw [←hW]
 have HW:=Lh hW
 have HWs:=Lh hWs
 clear hW hWs
 go_wp2_with fail
 all_goals first
  | (exfalso;simp only [beq_iff_eq,beq_eq_false_iff_ne] at *;omega)
  | skip
 all_goals go_quiet (fail)
 all_goals (go_wp2_with fail)
 all_goals
  go_ret2
  exact ⟨by rw [hfin.out.1,hfin.out.2];rfl,Xh (hWb.then (Xa _ _)) _⟩
theorem Xi8 (c:Cod) (cv:Value) (f:Fun) (fv:Value) (x:Ins) (xv:Value) (B:Nat) (w:World) (hB:B≤w.heap.size) (hc:Yj B w cv c) (hf:J4 B w fv f) (hx:Xa3 B w xv x) (h1:1≤x.op) (h2:x.op≤31) (hr:x.op=9) (hr2:0≤x.a) (hr3:x.a<c.funcs.length) :
  Calls Tryz.prog 113 #[cv,fv,xv] w fun e w'=>e=.returned (.tuple #[.int .i64 (Xm c f x),.int .i64 (Xj c f x)])∧Below w.heap.size w w':=by
 obtain ⟨fv,gv,rfl,hcf,hcg,hgl⟩:=hc
 obtain ⟨kv,rfl,hk,hn,hp,hlo⟩:=hf
 obtain ⟨rfl,hop,ha⟩:=hx
 obtain ⟨fa,fcap,rfl,hfl,-,-,-⟩:=hcf
 obtain ⟨ga,gcap,rfl,hgl2,hgl3,hgl4,hgE⟩:=hcg
 obtain ⟨ka,kcap,rfl,hkl,-,-,-⟩:=hk
 have HGE:=Lh hgE
 clear hgE
 unfold in64 at *
 obtain ⟨n,hn9⟩:=Int.eq_ofNat_of_zero_le hr2
 have hnl:n<c.funcs.length:=by omega
 obtain ⟨g,hg⟩:∃ g,c.funcs[n]?=some g:=⟨_,List.getElem?_eq_getElem hnl⟩
 have hfin:Hid (Xm c f x=g.params∧Xj c f x=b2i g.result):=by
  have:Je c x.a=some g:=by unfold Je;rw [hn9];exact hg
  constructor
  ·unfold Xm;rw [if_pos hr,this]
  ·unfold Xj;rw [if_pos hr,this]
 rcases HGE.out with h|⟨b,o,rfl,hbB,hE⟩
 ·rw [h] at hg;simp at hg
 have hE:=(hE n g hg).below ((Below.refl B w)) hbB
 have e1:(x.op == 9)=true:=by rw [hr];rfl
 obtain ⟨xop,xa⟩:=x
 simp only at *
 subst hn9
 have HR:=Lh hr
 clear hr
 go_enter Tryz.func113,Tryz.ntmps113
 go_wp2_with (with_reducible refine Jh (o:=⟨some 25,_,_,_,_,_⟩) rfl 174 _ rfl J0 (by kernel_rfl) ?_)
 rw [Xai]
 rotate_left
 ·simp
 ·rfl
 simp only [Result.andThen_ok,Oper.upon_skip]
 obtain ⟨W,hW⟩:∃ W,W=((((w.alloc (.cells #[.slice fa c.fields.length fcap,.int .i64 c.globals,.slice (some ⟨b,o,none⟩) c.funcs.length gcap] 25)).alloc (.cells #[.string f.name,.int .i64 f.params,.int .i64 f.locals,.bool f.result,.slice ka f.code.length kcap] 75)).alloc (.cells #[.int .i64 xop,.int .i64 (n:Int)] 100)).alloc (.cells J0 174)):=⟨_,rfl⟩
 have hWb:Below w.heap.size w W:=by rw [hW];exact ((((Below.refl _ _).alloc (Nat.le_refl _) _).alloc (by simp) _).alloc (by simp;omega) _).alloc (by simp;omega) _
 obtain ⟨-,q1,-,q3,-⟩:=hE.below (hWb.mono hB) hbB
 have x0:W.cell? ⟨w.heap.size+1+1,0,none⟩=some (.int .i64 xop):=by
  rw [hW,World.cell?_alloc_past]
  ·rw [c3c];rfl
  ·simp
 have x1:W.cell? ⟨w.heap.size+1+1,1,none⟩=some (.int .i64 (n:Int)):=by
  rw [hW,World.cell?_alloc_past]
  ·rw [c3c];rfl
  ·simp
 have c2:W.cell? ⟨w.heap.size,2,none⟩=some (.slice (some ⟨b,o,none⟩) c.funcs.length gcap):=by
  rw [hW,World.cell?_alloc_past]
  ·rw [c3a];rfl
  ·simp;omega
 rw [←hW]
 have HW:=Lh hW
 have HE:=Lh hE
 clear hW hE hg
 go_wp2_with fail
 go_quiet ((go_at_call 140;exact Calls.quiet_of_same (Xkw _ _)))
 go_wp2_with fail
 go_ret2
 exact ⟨by rw [hfin.out.1,hfin.out.2];rfl,Xh hWb _⟩
theorem Xlv (c:Cod) (cv:Value) (f:Fun) (fv:Value) (x:Ins) (xv:Value) (B:Nat) (w:World) (hB:B≤w.heap.size) (hc:Yj B w cv c) (hf:J4 B w fv f) (hx:Xa3 B w xv x) (h1:1≤x.op) (h2:x.op≤31) (hcall:x.op=9→0≤x.a∧x.a<c.funcs.length) :
  Calls Tryz.prog 113 #[cv,fv,xv] w fun e w'=>e=.returned (.tuple #[.int .i64 (Xm c f x),.int .i64 (Xj c f x)])∧Below w.heap.size w w':=by
 by_cases h9:x.op=9
 ·exact Xi8 c cv f fv x xv B w hB hc hf hx h1 h2 h9 (hcall h9).1 (hcall h9).2
 ·by_cases h10:x.op=10
  ·exact Xle c cv f fv x xv B w hB hc hf hx h1 h2 h10
  ·by_cases ht:Ya x.op
   ·exact Xlr c cv f fv x xv B w hB hc hf hx h1 h2 ht
   ·exact Xlu c cv f fv x xv B w hB hc hf hx h1 h2 ht h9 h10
end Go.Proofs.YtbmeoklmachjpaaGreatDoor
