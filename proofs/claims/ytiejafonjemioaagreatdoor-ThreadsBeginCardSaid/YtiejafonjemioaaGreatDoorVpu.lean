import Derived.Test.YtiejafonjemioaaGreatDoorPst3
import Derived.Deep.RegionHeld3
import Derived.Outline
import Derived.Laws.AppendOwn
set_option maxHeartbeats 2000000
set_option maxRecDepth 100000
set_option linter.unusedVariables false
set_option linter.unusedSimpArgs false
open Go.Value renaming slice→σ
open Go.Obj renaming cells→χ
namespace Go.Proofs.YtiejafonjemioaaGreatDoor
open Go.RowKit
variable {w:World} {bk clock k A:Nat} {es:Array MapEntry} {o:Obj} {c:Cod} {P:Prop} {x:Ins} {r:Rq} {y:Fun} {fr:List Fra} {f:Fra} {v:Int}
theorem Xat:Zn 161:=fun _ _=>by kernel_rfl
theorem Xj5 (n:Int) (w:World) :
  Calls Tryz.prog 161 #[ι n] w fun e w'=>e=.returned (.bool (!X1 n))/\w=w':=by
 go_enter Tryz.func161,Tryz.ntmps161
 go_wp2_with (go_at_call 137;refine (Yy n _).mono ?_;rintro e w' ⟨rfl,rfl⟩)
 go_ret
 exact ⟨rfl,rfl⟩
theorem Xe1 (w:World):∀ (x:Int) (w1:World) (av:Value),Below w.heap.size w w1->Xlj 0 w1 av x->Calls Tryz.prog 161 (#[av]++#[]) w1 (fun e w2=>e=.returned (.bool (!X1 x))/\Below w1.heap.size w1 w2):=by
 rintro x w1 av _ ⟨rfl,_⟩
 exact (Xj5 x w1).mono fun e w2 ⟨he,hw⟩=>⟨he,hw▸Below.refl _ _⟩
def Qb (c:Cod) (x:Ins):Int:=if x.op=5\/x.op=6 then 1 else if x.op=7 then 2 else if x.op=9 then (match Je c x.a with|some z=>z.params|none=>0) else 0
theorem Xhe (c:Cod) (cv:Value) (x:Ins) (B:Nat) (w:World) (hB:B<=w.heap.size) (hc:Yj B w cv c) (h9:x.op=9->0<=x.a/\x.a<c.funcs.length) :
  Calls Tryz.prog 163 #[cv,.agg #[ι x.op,ι x.a]] w fun e w'=>e=.returned (ι (Qb c x))/\Below w.heap.size w w':=by
 obtain ⟨fv,gv,rfl,hf,hg,aC⟩:=hc
 obtain ⟨fa,fc,rfl⟩:=hf.form
 have HG:=Lh (hg.funs (((Xa w (χ #[σ fa c.fields.length fc,ι c.globals,gv] 25)).then (Xa _ (χ #[ι x.op,ι x.a] 124))).mono hB))
 obtain ⟨ga,gc,rfl⟩:=hg.form
 obtain ⟨op,a⟩:=x
 clear hf hg
 by_cases h:op=9
 ·subst h
  obtain ⟨h1,h2⟩:=h9 rfl
  obtain ⟨n,rfl⟩:=Int.eq_ofNat_of_zero_le h1
  obtain ⟨z,hz⟩:∃ z,c.funcs[n]?=some z:=⟨_,Lg (by simp at h2;omega)⟩
  have hp:Hid (Qb c ⟨9,n⟩=z.params):=Lh (by unfold Qb;simp [Je,hz])
  obtain ⟨a0,aA,aB,aL,aM,aN,hE⟩:=HG.o
  obtain ⟨rfl,rfl⟩:ga=a0/\gc=aA:=by simpa using aB
  rcases hE with h0|⟨yb,yo,rfl,aE,hE⟩
  ·rw [h0] at hz;simp at hz
  have p1:=(hE n z hz).2.1
  have aO:=Bl p1
  have aJ:(0:Int)<=(n:Int):=In _
  have aK:(n:Int)<(c.funcs.length:Int):=h2
  clear aB hE h2 h1 HG hz h9
  go_enter Tryz.func163,Tryz.ntmps163
  go_wp2
  go_ret
  exact ⟨by rw [hp.o];rfl,(Xa _ _).then (Xa _ _)⟩
 ·have hp:Hid (Qb c ⟨op,a⟩=if op=5\/op=6 then 1 else if op=7 then 2 else 0):=Lh (by unfold Qb;simp [h])
  have aI:(op == 9)=false:=by simp [h]
  clear h9 HG
  by_cases h5:op=5
  ·subst h5
   go_enter Tryz.func163,Tryz.ntmps163
   go_wp2
   go_ret
   exact ⟨by rw [hp.o];rfl,(Xa _ _).then (Xa _ _)⟩
  by_cases h6:op=6
  ·subst h6
   go_enter Tryz.func163,Tryz.ntmps163
   go_wp2
   go_ret
   exact ⟨by rw [hp.o];rfl,(Xa _ _).then (Xa _ _)⟩
  by_cases h7:op=7
  ·subst h7
   go_enter Tryz.func163,Tryz.ntmps163
   go_wp2
   go_ret
   exact ⟨by rw [hp.o];rfl,(Xa _ _).then (Xa _ _)⟩
  ·have aF:(op == 5)=false:=by simp [h5]
   have aG:(op == 6)=false:=by simp [h6]
   have aH:(op == 7)=false:=by simp [h7]
   have aD:Hid (Qb c ⟨op,a⟩=0):=Lh (by rw [hp.o,if_neg ω,if_neg h7])
   go_enter Tryz.func163,Tryz.ntmps163
   go_wp2
   go_ret
   exact ⟨by rw [aD.o];rfl,(Xa _ _).then (Xa _ _)⟩
theorem Xf8 (n:Int) (l:List Int) (b cap:Nat) (w:World) (hl:l.length<=1000) (hc:∀ (j:Nat) u,l[j]?=some u->w.cell? (π b j)=some (ι u)) :
  Calls Tryz.prog 185 #[σ (some (π b 0)) l.length cap,ι n] w fun e w'=>e=.returned (ι (Qw (fun a=>n == a) l))/\w=w':=by
 have HC:=Lh hc
 clear hc
 go_enter Tryz.func185,Tryz.ntmps185
 go_wp2_with fail
 go_loop [8] (fun i=>∃ k:Nat,k<=l.length/\i=ι k/\Hid (∀ (j:Nat) u,j<k->l[j]?=some u->(n == u)=false)) (fun i=>l.length - (intOf i).toNat)
 case atStart=>exact ⟨0,Nat.zero_le _,rfl,Lh (fun j u hj=>by omega)⟩
 case round=>
  obtain ⟨k,hk,rfl,aB⟩:=hrel
  by_cases aC:k<l.length
  ·obtain ⟨u,hu⟩:∃ u,l[k]?=some u:=⟨_,Lg aC⟩
   have aA:=HC.o k u hu
   have hb:=Bl aA
   have aE:(0:Int)<=(k:Int):=In _
   have aF:(k:Int)<(l.length:Int):=ω
   have HU:=Lh hu
   clear hu
   cases hq:n == u with
   | true=>
    have aD:n=u:=by simpa using hq
    subst aD
    clear hq
    go_wp2
    go_ret
    exact ⟨Qd (by rw [Ue HU.o ψ (fun j y hj hy=>aB.o j y hj hy)]),rfl⟩
   | false=>
    go_wp2_with fail
    have HQ:=Lh hq
    go_round
    case rel=>exact ⟨k+1,ω,by go_num,Lh (fun j y hj hy=>by
     by_cases e:j=k
     ·subst e;rw [HU.o] at hy;cases hy;exact HQ.o
     ·exact aB.o j y ω hy)⟩
    case measure=>simp [intOf];omega
  ·go_wp2
   go_ret
   exact ⟨Qd (by rw [Jk (fun j y hj hy=>aB.o j y ω hy)]),rfl⟩
theorem Ql (n:Int) (l:List Int) (b cap:Nat) (w:World) (hl:l.length<=1000) (hc:∀ (j:Nat) u,l[j]?=some u->w.cell? (π b j)=some (ι u)) :
  Calls Tryz.prog 160 #[σ (some (π b 0)) l.length cap,ι n] w fun e w'=>e=.returned (.bool (l.any (fun a=>n == a)))/\w=w':=by
 have HC:=Lh hc
 clear hc
 go_enter Tryz.func160,Tryz.ntmps160
 go_wp2_with (go_at_call 185;refine (Xf8 n l b cap w hl HC.o).mono ?_;rintro e w' ⟨rfl,rfl⟩)
 go_ret
 exact ⟨Za (Kd _ l),rfl⟩
def Xy (op:Int):Int:=if op=4\/op=6 then 1 else if op=5\/op=7 then 2 else if op=8 then 3 else 0
def X4 (op n:Int):Bool:=if op=6\/op=7 then decide (1<=n/\n<=1099511627776) else n == 0
def Xr (x:Ins) (r:Rq):Bool:=!(Xy x.op == 0) && (r.kind == Xy x.op) && X4 x.op r.node && (r.field == x.a) && (r.fault == 0) && (r.value == 0 || (Xy x.op == 2 && X1 r.value))
theorem Xpj (a kind node field value fault:Int) (w:World) :
  Calls Tryz.prog 164 #[.agg #[ι 4,ι a],.agg #[ι kind,ι node,ι field,ι value,ι fault]] w fun e w'=>e=.returned (.bool (Xr ⟨4,a⟩ ⟨kind,node,field,value,fault⟩))/\Below w.heap.size w w':=by
 by_cases hk:kind=1
 rotate_left
 ·have hb:(kind == 1)=false:=by simp [hk]
  have hf:Hid (Xr ⟨4,a⟩ ⟨kind,node,field,value,fault⟩=false):=Lh (by unfold Xr Xy X4;simp [*])
  go_enter Tryz.func164,Tryz.ntmps164
  go_wp2
  go_ret
  exact ⟨by rw [hf.o];rfl,(Xa _ _).then (Xa _ _)⟩
 subst hk
 by_cases h1:node=0
 rotate_left
 ·have d1:(node == 0)=false:=by simp [h1]
  have hf:Hid (Xr ⟨4,a⟩ ⟨1,node,field,value,fault⟩=false):=Lh (by unfold Xr Xy X4;simp [*])
  go_enter Tryz.func164,Tryz.ntmps164
  go_wp2
  go_ret
  exact ⟨by rw [hf.o];rfl,(Xa _ _).then (Xa _ _)⟩
 subst h1
 by_cases h3:field=a
 rotate_left
 ·have d3:(field == a)=false:=by simp [h3]
  have hf:Hid (Xr ⟨4,a⟩ ⟨1,0,field,value,fault⟩=false):=Lh (by unfold Xr Xy X4;simp [*])
  go_enter Tryz.func164,Tryz.ntmps164
  go_wp2
  go_ret
  exact ⟨by rw [hf.o];rfl,(Xa _ _).then (Xa _ _)⟩
 subst h3
 by_cases h4:fault=0
 rotate_left
 ·have d4:(fault == 0)=false:=by simp [h4]
  have hf:Hid (Xr ⟨4,field⟩ ⟨1,0,field,value,fault⟩=false):=Lh (by unfold Xr Xy X4;simp [*])
  go_enter Tryz.func164,Tryz.ntmps164
  go_wp2
  go_ret
  exact ⟨by rw [hf.o];rfl,(Xa _ _).then (Xa _ _)⟩
 subst h4
 by_cases h5:value=0
 ·subst h5
  have hf:Hid (Xr ⟨4,field⟩ ⟨1,0,field,0,0⟩=true):=Lh (by unfold Xr Xy X4;simp [*])
  go_enter Tryz.func164,Tryz.ntmps164
  go_wp2
  go_ret
  exact ⟨by rw [hf.o];rfl,(Xa _ _).then (Xa _ _)⟩
 have d5:(value == 0)=false:=by simp [h5]
 have hf:Hid (Xr ⟨4,field⟩ ⟨1,0,field,value,0⟩=false):=Lh (by unfold Xr Xy X4;simp [*])
 go_enter Tryz.func164,Tryz.ntmps164
 go_wp2
 go_ret
 exact ⟨by rw [hf.o];rfl,(Xa _ _).then (Xa _ _)⟩
theorem Xov (a kind node field value fault:Int) (w:World) :
  Calls Tryz.prog 164 #[.agg #[ι 5,ι a],.agg #[ι kind,ι node,ι field,ι value,ι fault]] w fun e w'=>e=.returned (.bool (Xr ⟨5,a⟩ ⟨kind,node,field,value,fault⟩))/\Below w.heap.size w w':=by
 by_cases hk:kind=2
 rotate_left
 ·have hb:(kind == 2)=false:=by simp [hk]
  have hf:Hid (Xr ⟨5,a⟩ ⟨kind,node,field,value,fault⟩=false):=Lh (by unfold Xr Xy X4;simp [*])
  go_enter Tryz.func164,Tryz.ntmps164
  go_wp2
  go_ret
  exact ⟨by rw [hf.o];rfl,(Xa _ _).then (Xa _ _)⟩
 subst hk
 by_cases h1:node=0
 rotate_left
 ·have d1:(node == 0)=false:=by simp [h1]
  have hf:Hid (Xr ⟨5,a⟩ ⟨2,node,field,value,fault⟩=false):=Lh (by unfold Xr Xy X4;simp [*])
  go_enter Tryz.func164,Tryz.ntmps164
  go_wp2
  go_ret
  exact ⟨by rw [hf.o];rfl,(Xa _ _).then (Xa _ _)⟩
 subst h1
 by_cases h3:field=a
 rotate_left
 ·have d3:(field == a)=false:=by simp [h3]
  have hf:Hid (Xr ⟨5,a⟩ ⟨2,0,field,value,fault⟩=false):=Lh (by unfold Xr Xy X4;simp [*])
  go_enter Tryz.func164,Tryz.ntmps164
  go_wp2
  go_ret
  exact ⟨by rw [hf.o];rfl,(Xa _ _).then (Xa _ _)⟩
 subst h3
 by_cases h4:fault=0
 rotate_left
 ·have d4:(fault == 0)=false:=by simp [h4]
  have hf:Hid (Xr ⟨5,field⟩ ⟨2,0,field,value,fault⟩=false):=Lh (by unfold Xr Xy X4;simp [*])
  go_enter Tryz.func164,Tryz.ntmps164
  go_wp2
  go_ret
  exact ⟨by rw [hf.o];rfl,(Xa _ _).then (Xa _ _)⟩
 subst h4
 by_cases h5:value=0
 ·subst h5
  have hf:Hid (Xr ⟨5,field⟩ ⟨2,0,field,0,0⟩=true):=Lh (by unfold Xr Xy X4;simp [*])
  go_enter Tryz.func164,Tryz.ntmps164
  go_wp2
  go_ret
  exact ⟨by rw [hf.o];rfl,(Xa _ _).then (Xa _ _)⟩
 have d5:(value == 0)=false:=by simp [h5]
 have hf:Hid (Xr ⟨5,field⟩ ⟨2,0,field,value,0⟩=X1 value):=Lh (by unfold Xr Xy X4;simp [*])
 go_enter Tryz.func164,Tryz.ntmps164
 go_wp2_with (go_at_call 137;refine (Yy _ _).mono ?_;rintro e w' ⟨rfl,rfl⟩)
 go_ret
 exact ⟨by rw [hf.o];rfl,(Xa _ _).then (Xa _ _)⟩
theorem Xpg (a kind node field value fault:Int) (w:World) :
  Calls Tryz.prog 164 #[.agg #[ι 6,ι a],.agg #[ι kind,ι node,ι field,ι value,ι fault]] w fun e w'=>e=.returned (.bool (Xr ⟨6,a⟩ ⟨kind,node,field,value,fault⟩))/\Below w.heap.size w w':=by
 by_cases hk:kind=1
 rotate_left
 ·have hb:(kind == 1)=false:=by simp [hk]
  by_cases h1:1<=node
  ·have d1:decide (1<=node)=true:=by simp [h1]
   have hf:Hid (Xr ⟨6,a⟩ ⟨kind,node,field,value,fault⟩=false):=Lh (by unfold Xr Xy X4;simp [*])
   go_enter Tryz.func164,Tryz.ntmps164
   go_wp2_with fail
   go_quiet (fail)
   go_wp2
   go_ret
   exact ⟨by rw [hf.o];rfl,Xh ((Xa _ _).then (Xa _ _)) _⟩
  ·have d1:decide (1<=node)=false:=by simp;omega
   have hf:Hid (Xr ⟨6,a⟩ ⟨kind,node,field,value,fault⟩=false):=Lh (by unfold Xr Xy X4;simp [*])
   go_enter Tryz.func164,Tryz.ntmps164
   go_wp2_with fail
   go_quiet (fail)
   go_wp2
   go_ret
   exact ⟨by rw [hf.o];rfl,Xh ((Xa _ _).then (Xa _ _)) _⟩
 subst hk
 by_cases h1:1<=node
 rotate_left
 ·have d1:decide (1<=node)=false:=by simp;omega
  have hf:Hid (Xr ⟨6,a⟩ ⟨1,node,field,value,fault⟩=false):=Lh (by unfold Xr Xy X4;simp [*])
  go_enter Tryz.func164,Tryz.ntmps164
  go_wp2_with fail
  go_quiet (fail)
  go_wp2
  go_ret
  exact ⟨by rw [hf.o];rfl,Xh ((Xa _ _).then (Xa _ _)) _⟩
 have d1:decide (1<=node)=true:=by simp [h1]
 by_cases h2:node<=1099511627776
 rotate_left
 ·have d2:decide (node<=1099511627776)=false:=by simp;omega
  have hf:Hid (Xr ⟨6,a⟩ ⟨1,node,field,value,fault⟩=false):=Lh (by unfold Xr Xy X4;simp [*])
  go_enter Tryz.func164,Tryz.ntmps164
  go_wp2_with fail
  go_quiet (fail)
  go_wp2
  go_ret
  exact ⟨by rw [hf.o];rfl,Xh ((Xa _ _).then (Xa _ _)) _⟩
 have d2:decide (node<=1099511627776)=true:=by simp [h2]
 by_cases h3:field=a
 rotate_left
 ·have d3:(field == a)=false:=by simp [h3]
  have hf:Hid (Xr ⟨6,a⟩ ⟨1,node,field,value,fault⟩=false):=Lh (by unfold Xr Xy X4;simp [*])
  go_enter Tryz.func164,Tryz.ntmps164
  go_wp2_with fail
  go_quiet (fail)
  go_wp2
  go_ret
  exact ⟨by rw [hf.o];rfl,Xh ((Xa _ _).then (Xa _ _)) _⟩
 subst h3
 by_cases h4:fault=0
 rotate_left
 ·have d4:(fault == 0)=false:=by simp [h4]
  have hf:Hid (Xr ⟨6,field⟩ ⟨1,node,field,value,fault⟩=false):=Lh (by unfold Xr Xy X4;simp [*])
  go_enter Tryz.func164,Tryz.ntmps164
  go_wp2_with fail
  go_quiet (fail)
  go_wp2
  go_ret
  exact ⟨by rw [hf.o];rfl,Xh ((Xa _ _).then (Xa _ _)) _⟩
 subst h4
 by_cases h5:value=0
 ·subst h5
  have hf:Hid (Xr ⟨6,field⟩ ⟨1,node,field,0,0⟩=true):=Lh (by unfold Xr Xy X4;simp [*])
  go_enter Tryz.func164,Tryz.ntmps164
  go_wp2_with fail
  go_quiet (fail)
  go_wp2
  go_ret
  exact ⟨by rw [hf.o];rfl,Xh ((Xa _ _).then (Xa _ _)) _⟩
 have d5:(value == 0)=false:=by simp [h5]
 have hf:Hid (Xr ⟨6,field⟩ ⟨1,node,field,value,0⟩=false):=Lh (by unfold Xr Xy X4;simp [*])
 go_enter Tryz.func164,Tryz.ntmps164
 go_wp2_with fail
 go_quiet (fail)
 go_wp2
 go_ret
 exact ⟨by rw [hf.o];rfl,Xh ((Xa _ _).then (Xa _ _)) _⟩
theorem Xot (a kind node field value fault:Int) (w:World) :
  Calls Tryz.prog 164 #[.agg #[ι 7,ι a],.agg #[ι kind,ι node,ι field,ι value,ι fault]] w fun e w'=>e=.returned (.bool (Xr ⟨7,a⟩ ⟨kind,node,field,value,fault⟩))/\Below w.heap.size w w':=by
 by_cases hk:kind=2
 rotate_left
 ·have hb:(kind == 2)=false:=by simp [hk]
  by_cases h1:1<=node
  ·have d1:decide (1<=node)=true:=by simp [h1]
   have hf:Hid (Xr ⟨7,a⟩ ⟨kind,node,field,value,fault⟩=false):=Lh (by unfold Xr Xy X4;simp [*])
   go_enter Tryz.func164,Tryz.ntmps164
   go_wp2_with fail
   go_quiet (fail)
   go_wp2
   go_ret
   exact ⟨by rw [hf.o];rfl,Xh ((Xa _ _).then (Xa _ _)) _⟩
  ·have d1:decide (1<=node)=false:=by simp;omega
   have hf:Hid (Xr ⟨7,a⟩ ⟨kind,node,field,value,fault⟩=false):=Lh (by unfold Xr Xy X4;simp [*])
   go_enter Tryz.func164,Tryz.ntmps164
   go_wp2_with fail
   go_quiet (fail)
   go_wp2
   go_ret
   exact ⟨by rw [hf.o];rfl,Xh ((Xa _ _).then (Xa _ _)) _⟩
 subst hk
 by_cases h1:1<=node
 rotate_left
 ·have d1:decide (1<=node)=false:=by simp;omega
  have hf:Hid (Xr ⟨7,a⟩ ⟨2,node,field,value,fault⟩=false):=Lh (by unfold Xr Xy X4;simp [*])
  go_enter Tryz.func164,Tryz.ntmps164
  go_wp2_with fail
  go_quiet (fail)
  go_wp2
  go_ret
  exact ⟨by rw [hf.o];rfl,Xh ((Xa _ _).then (Xa _ _)) _⟩
 have d1:decide (1<=node)=true:=by simp [h1]
 by_cases h2:node<=1099511627776
 rotate_left
 ·have d2:decide (node<=1099511627776)=false:=by simp;omega
  have hf:Hid (Xr ⟨7,a⟩ ⟨2,node,field,value,fault⟩=false):=Lh (by unfold Xr Xy X4;simp [*])
  go_enter Tryz.func164,Tryz.ntmps164
  go_wp2_with fail
  go_quiet (fail)
  go_wp2
  go_ret
  exact ⟨by rw [hf.o];rfl,Xh ((Xa _ _).then (Xa _ _)) _⟩
 have d2:decide (node<=1099511627776)=true:=by simp [h2]
 by_cases h3:field=a
 rotate_left
 ·have d3:(field == a)=false:=by simp [h3]
  have hf:Hid (Xr ⟨7,a⟩ ⟨2,node,field,value,fault⟩=false):=Lh (by unfold Xr Xy X4;simp [*])
  go_enter Tryz.func164,Tryz.ntmps164
  go_wp2_with fail
  go_quiet (fail)
  go_wp2
  go_ret
  exact ⟨by rw [hf.o];rfl,Xh ((Xa _ _).then (Xa _ _)) _⟩
 subst h3
 by_cases h4:fault=0
 rotate_left
 ·have d4:(fault == 0)=false:=by simp [h4]
  have hf:Hid (Xr ⟨7,field⟩ ⟨2,node,field,value,fault⟩=false):=Lh (by unfold Xr Xy X4;simp [*])
  go_enter Tryz.func164,Tryz.ntmps164
  go_wp2_with fail
  go_quiet (fail)
  go_wp2
  go_ret
  exact ⟨by rw [hf.o];rfl,Xh ((Xa _ _).then (Xa _ _)) _⟩
 subst h4
 by_cases h5:value=0
 ·subst h5
  have hf:Hid (Xr ⟨7,field⟩ ⟨2,node,field,0,0⟩=true):=Lh (by unfold Xr Xy X4;simp [*])
  go_enter Tryz.func164,Tryz.ntmps164
  go_wp2_with fail
  go_quiet (fail)
  go_wp2
  go_ret
  exact ⟨by rw [hf.o];rfl,Xh ((Xa _ _).then (Xa _ _)) _⟩
 have d5:(value == 0)=false:=by simp [h5]
 have hf:Hid (Xr ⟨7,field⟩ ⟨2,node,field,value,0⟩=X1 value):=Lh (by unfold Xr Xy X4;simp [*])
 go_enter Tryz.func164,Tryz.ntmps164
 go_wp2_with (go_at_call 137;refine (Yy _ _).mono ?_;rintro e w' ⟨rfl,rfl⟩)
 go_quiet (fail)
 go_wp2_with (go_at_call 137;refine (Yy _ _).mono ?_;rintro e w' ⟨rfl,rfl⟩)
 go_ret
 exact ⟨by rw [hf.o];rfl,Xh ((Xa _ _).then (Xa _ _)) _⟩
theorem Xpz (a kind node field value fault:Int) (w:World) :
  Calls Tryz.prog 164 #[.agg #[ι 8,ι a],.agg #[ι kind,ι node,ι field,ι value,ι fault]] w fun e w'=>e=.returned (.bool (Xr ⟨8,a⟩ ⟨kind,node,field,value,fault⟩))/\Below w.heap.size w w':=by
 by_cases hk:kind=3
 rotate_left
 ·have hb:(kind == 3)=false:=by simp [hk]
  have hf:Hid (Xr ⟨8,a⟩ ⟨kind,node,field,value,fault⟩=false):=Lh (by unfold Xr Xy X4;simp [*])
  go_enter Tryz.func164,Tryz.ntmps164
  go_wp2
  go_ret
  exact ⟨by rw [hf.o];rfl,(Xa _ _).then (Xa _ _)⟩
 subst hk
 by_cases h1:node=0
 rotate_left
 ·have d1:(node == 0)=false:=by simp [h1]
  have hf:Hid (Xr ⟨8,a⟩ ⟨3,node,field,value,fault⟩=false):=Lh (by unfold Xr Xy X4;simp [*])
  go_enter Tryz.func164,Tryz.ntmps164
  go_wp2
  go_ret
  exact ⟨by rw [hf.o];rfl,(Xa _ _).then (Xa _ _)⟩
 subst h1
 by_cases h3:field=a
 rotate_left
 ·have d3:(field == a)=false:=by simp [h3]
  have hf:Hid (Xr ⟨8,a⟩ ⟨3,0,field,value,fault⟩=false):=Lh (by unfold Xr Xy X4;simp [*])
  go_enter Tryz.func164,Tryz.ntmps164
  go_wp2
  go_ret
  exact ⟨by rw [hf.o];rfl,(Xa _ _).then (Xa _ _)⟩
 subst h3
 by_cases h4:fault=0
 rotate_left
 ·have d4:(fault == 0)=false:=by simp [h4]
  have hf:Hid (Xr ⟨8,field⟩ ⟨3,0,field,value,fault⟩=false):=Lh (by unfold Xr Xy X4;simp [*])
  go_enter Tryz.func164,Tryz.ntmps164
  go_wp2
  go_ret
  exact ⟨by rw [hf.o];rfl,(Xa _ _).then (Xa _ _)⟩
 subst h4
 by_cases h5:value=0
 ·subst h5
  have hf:Hid (Xr ⟨8,field⟩ ⟨3,0,field,0,0⟩=true):=Lh (by unfold Xr Xy X4;simp [*])
  go_enter Tryz.func164,Tryz.ntmps164
  go_wp2
  go_ret
  exact ⟨by rw [hf.o];rfl,(Xa _ _).then (Xa _ _)⟩
 have d5:(value == 0)=false:=by simp [h5]
 have hf:Hid (Xr ⟨8,field⟩ ⟨3,0,field,value,0⟩=false):=Lh (by unfold Xr Xy X4;simp [*])
 go_enter Tryz.func164,Tryz.ntmps164
 go_wp2
 go_ret
 exact ⟨by rw [hf.o];rfl,(Xa _ _).then (Xa _ _)⟩
theorem Xoo (a kind node field value fault:Int) (w:World) (op:Int) (h:op≠4/\op≠5/\op≠6/\op≠7/\op≠8) :
  Calls Tryz.prog 164 #[.agg #[ι op,ι a],.agg #[ι kind,ι node,ι field,ι value,ι fault]] w fun e w'=>e=.returned (.bool (Xr ⟨op,a⟩ ⟨kind,node,field,value,fault⟩))/\Below w.heap.size w w':=by
 have hf:Hid (Xr ⟨op,a⟩ ⟨kind,node,field,value,fault⟩=false):=Lh (by unfold Xr Xy;simp [h])
 have d4:(op == 4)=false:=by simp [h]
 have d5:(op == 5)=false:=by simp [h]
 have d6:(op == 6)=false:=by simp [h]
 have d7:(op == 7)=false:=by simp [h]
 have d8:(op == 8)=false:=by simp [h]
 clear h
 by_cases hn:node=0
 ·subst hn
  go_enter Tryz.func164,Tryz.ntmps164
  go_wp2
  go_ret
  exact ⟨by rw [hf.o];rfl,(Xa _ _).then (Xa _ _)⟩
 ·have aA:(node == 0)=false:=by simp [hn]
  go_enter Tryz.func164,Tryz.ntmps164
  go_wp2
  go_ret
  exact ⟨by rw [hf.o];rfl,(Xa _ _).then (Xa _ _)⟩
theorem Xfe (x:Ins) (r:Rq) (w:World):Calls Tryz.prog 164 #[.agg #[ι x.op,ι x.a],rqV r] w fun e w'=>e=.returned (.bool (Xr x r))/\Below w.heap.size w w':=by
 obtain ⟨op,a⟩:=x
 obtain ⟨kind,node,field,value,fault⟩:=r
 unfold rqV
 by_cases h4:op=4
 ·subst h4;exact Xpj a kind node field value fault w
 by_cases h5:op=5
 ·subst h5;exact Xov a kind node field value fault w
 by_cases h6:op=6
 ·subst h6;exact Xpg a kind node field value fault w
 by_cases h7:op=7
 ·subst h7;exact Xot a kind node field value fault w
 by_cases h8:op=8
 ·subst h8;exact Xpz a kind node field value fault w
 exact Xoo a kind node field value fault w op ⟨h4,h5,h6,h7,h8⟩
def Xh0 (c:Cod) (y:Fun) (w:World) (e:Ending) (w':World):Prop:=
 ∃ g hs,e=.returned (.tuple #[σ (some (π g 0)) y.code.length y.code.length,ι 0])/\w.heap.size<=g/\w'.heap[g]?=some (χ (Xx hs) 3 (0,0))/\Zp c y hs/\Below w.heap.size w w'
theorem Xhn (c:Cod) (cv:Value) (k:Nat) (y:Fun) (B:Nat) (w:World) (hL:Qa w) (hB:B<=w.heap.size) (hc:Yj B w cv c) (hs:Xv c) (hy:c.funcs[k]?=some y) :
  Calls Tryz.prog 162 #[cv,ι (k:Int)] w (Xh0 c y w):=by
 have HC:=Lh hc
 have aT:=Lh (hs.wf hy)
 obtain ⟨fv,gv,rfl,hf,hg,aJ⟩:=hc
 obtain ⟨fa,fc,rfl⟩:=hf.form
 obtain ⟨ga,gc,rfl⟩:=hg.form
 have aY:k<c.funcs.length:=(Ll hy)
 have aS:c.funcs.length<=40:=hs.1.2.2.2.2.1
 obtain ⟨yb,yo,rfl,aA,hE⟩:∃ yb yo,ga=some (π yb yo)/\yb<B/\Zl B w yb (yo+k*5) y:=by
  obtain ⟨a0,aH,aQ,aZ,bA,bB,hE⟩:=hg
  obtain ⟨rfl,rfl⟩:ga=a0/\gc=aH:=by simpa using aQ
  rcases hE with h0|⟨yb,yo,rfl,aA,hE⟩
  ·rw [h0] at hy;simp at hy
  ·exact ⟨yb,yo,rfl,aA,hE k y hy⟩
 have HE:=Lh hE
 obtain ⟨W,hW⟩:∃ W,W=w.alloc (χ #[σ fa c.fields.length fc,ι c.globals,σ (some (π yb yo)) c.funcs.length gc] 25):=⟨_,rfl⟩
 have aG:Hid (Below w.heap.size w W):=by rw [hW];exact Xa _ _
 have b0:Hid (Xo W w.heap.size [σ fa c.fields.length fc,ι c.globals,σ (some (π yb yo)) c.funcs.length gc]):=by rw [hW];exact Lh Xd
 have HL:=Lh hL
 have aK:=Lh (K6 hs.1)
 have aR:Hid (Ub c=true):=Lh (by unfold Ub;rw [aK.o,hs.2.1];rfl)
 have i0:=b0.o 0 _ rfl
 have i1:=b0.o 1 _ rfl
 have i2:=b0.o 2 _ rfl
 have z0:=Bl i0
 have HY:=Lh hy
 have HS:=Lh hs
 clear hf hg hE hL hy hs aJ
 go_enter Tryz.func162,Tryz.ntmps162
 go_upto_region 1 with fail
 rw [<-hW]
 have HW:=Lh hW
 clear hW
 go_wp2_with fail
 refine (Xea c _ B W (HL.o.below aG.o) (Nt hB aG.o.size) (HC.o.below (aG.o.mono hB))).mono ?_
 rintro e w1 ⟨rfl,aC⟩
 rw [aK.o]
 have aF:=Lh (aG.o.then aC)
 have i0:=Xc aC i0
 have i1:=Xc aC i1
 have i2:=Xc aC i2
 have z0:=Bl i0
 clear aC
 go_wp2_with fail
 refine (Xjb c _ B w1 (HL.o.below aF.o) (Nt hB aF.o.size) (HC.o.below (aF.o.mono hB))).mono ?_
 rintro e w2 ⟨rfl,aD⟩
 rw [aR.o]
 have aB:=Lh (aF.o.then aD)
 have i0:=Xc aD i0
 have i1:=Xc aD i1
 have i2:=Xc aD i2
 have z0:=Bl i0
 clear aD
 obtain ⟨g1,g2,g3,g4,⟨xv,g5,g6⟩,g7,g8,g9⟩:=HE.o.below (aB.o.mono hB) aA
 have H6:=Lh g6
 obtain ⟨xa,aE,rfl⟩:=g6.form
 have zy:=Bl g1
 have aW:(0:Int)<=(k:Int):=In _
 have aX:(k:Int)<(c.funcs.length:Int):=ω
 have aU:decide ((k:Int)<0)=false:=by simp
 have aV:decide (c.funcs.length<=k)=false:=by simp;omega
 have aO:Hid (Qa w2.drew):=Lh (HL.o.below (Xh aB.o 1))
 have aM:Hid (Yj B w2.drew (.agg #[σ fa c.fields.length fc,ι c.globals,σ (some (π yb yo)) c.funcs.length gc]) c):=Lh (HC.o.below ((Xh aB.o 1).mono hB))
 have aN:Hid (J4 B w2.drew (.agg #[.string y.name,ι y.params,ι y.locals,.bool y.result,σ xa y.code.length aE]) y):=Lh ⟨_,rfl,H6.o.inss (Xh Br 1),g7,g8,g9⟩
 have aP:B<=w2.drew.heap.size:=Nt hB aB.o.size
 clear g6 g7 g8 g9
 go_upto_region 7 with fail
 go_region_held3 (fun V=>V.cell? (π w.heap.size 0)=some (σ fa c.fields.length fc)/\V.cell? (π w.heap.size 1)=some (ι c.globals)/\V.cell? (π w.heap.size 2)=some (σ (some (π yb yo)) c.funcs.length gc)/\V.cell? (π yb (yo+k*5))=some (.string y.name)/\V.cell? (π yb (yo+k*5+1))=some (ι y.params)/\V.cell? (π yb (yo+k*5+2))=some (ι y.locals)/\V.cell? (π yb (yo+k*5+3))=some (.bool y.result)/\V.cell? (π yb (yo+k*5+4))=some (σ xa y.code.length aE))
  (first|exact ⟨i0,i1,i2,g1,g2,g3,g4,g5⟩|exact ⟨Xc hb3 i0,Xc hb3 i1,Xc hb3 i2,Xc hb3 g1,Xc hb3 g2,Xc hb3 g3,Xc hb3 g4,Xc hb3 g5⟩)
  (first|(go_at_call 120;refine (Xcl c _ y _ B _ aO.o aP aM.o aN.o aT.o).mono ?_;rintro e w3 hP;obtain ⟨g,hs3,rfl,hg3,hh3,hA3,hb3⟩:∃ g hs3,e=.returned (.tuple #[σ (some (π g 0)) y.code.length y.code.length,ι 0,ι 0])/\w2.drew.heap.size<=g/\Hid (w3.heap[g]?=some (χ (Xx hs3) 3 (0,0)))/\Zp c y hs3/\Below w2.drew.heap.size w2.drew w3:=(by rcases hP with ⟨_,_,_,_,_,hno,_⟩|⟨g,hs3,h1,h2,h3,_,h5,h6⟩;exact absurd (HS.o.2.2 y (Lm HY.o)) hno;exact ⟨g,hs3,h1,h2,Lh h3,h5,h6⟩);clear hP))
 have aL:=Lh ((Xh aB.o 1).then hb3)
 have aI:w.heap.size<=g:=Nt aB.o.size hg3
 clear hb3
 go_wp2_with fail
 go_ret2
 exact ⟨g,hs3,rfl,aI,hh3.o,hA3,aL.o⟩
theorem Xcn (k:Int):∀ (l:List MapEntry) (i:Nat),(∀ e∈l,∃ n:Int,e.key=ι n)->
  ∃ r,Instr.findNow (.int .i64) (ι k) l i=some r/\∀ j v,r=some (j,v)->∃ e∈l,e.key=ι k/\e.val=v
 | [],i,_=>⟨none,by simp [Instr.findNow],ψ⟩
 | e::l,i,h=>by
  obtain ⟨n,hn⟩:=h e ψ
  obtain ⟨r,hr,hv⟩:=Xcn k l (i+1) (fun e he=>h e (by simp [he]))
  by_cases hk:k=n
  ·subst hk
   exact ⟨some (i,e.val),by simp [Instr.findNow,Instr.sameNow,hn],fun j v he=>by simp at he;exact ⟨e,ψ,hn,he.2⟩⟩
  ·have hb:(n == k)=false:=by simp;exact fun e=>hk e.symm
   have aA:(k == n)=false:=by simp [hk]
   refine ⟨r,by simp [Instr.findNow,Instr.sameNow,hn,hb,aA,hr],fun j v he=>?_⟩
   obtain ⟨e',h1,h2⟩:=hv j v he
   exact ⟨e',by simp [h1],h2⟩
theorem Xki (hb:w.heap[bk]?=some (.map es clock)) (k:Int) (r:Option (Nat×Value)) (h:Instr.findNow (.int .i64) (ι k) es.toList 0=some r) :
  (Instr.lookup 192 (.map (some bk)) (ι k) true).run Tryz.prog w=.ok (.tuple #[match r with|some (_,v)=>v|none=>ν,.bool r.isSome]) w:=by
 have hz:∀ w:World,(zeroValue 22).run Tryz.prog w=.ok ν w:=fun w=>by kernel_rfl
 cases r with
 | none=>simp [Instr.lookup,run_underlying Tryz.underlying192,MapKept.run_getObj_map hb,MapKept.run_checkKey Tryz.underlying3 (k:=ι k) rfl,MapKept.run_findKey Tryz.underlying3 h,Result.andThen,hz]
 | some r=>simp [Instr.lookup,run_underlying Tryz.underlying192,MapKept.run_getObj_map hb,MapKept.run_checkKey Tryz.underlying3 (k:=ι k) rfl,MapKept.run_findKey Tryz.underlying3 h,Result.andThen]
def Kr (w:World) (bk:Nat) (o:Obj):World:={ w with heap:=w.heap.setIfInBounds bk o }
theorem Xnc (hb:w.heap[bk]?=some (.map es clock)) (k:Int) (v:Value) (h:Instr.findNow (.int .i64) (ι k) es.toList 0=some none) :
  (Instr.mapUpdate 192 (.map (some bk)) (ι k) v).run Tryz.prog w=.ok () (Kr w bk (.map (es.push ⟨ι k,v,clock⟩) (clock+1))):=by
 simp [Instr.mapUpdate,run_underlying Tryz.underlying192,MapKept.run_getObj_map hb,MapKept.run_checkKey Tryz.underlying3 (k:=ι k) rfl,MapKept.run_findKey Tryz.underlying3 h,MapKept.run_setObj_map _ hb,Result.andThen,Kr]
theorem Xg0 (hb:bk<w.heap.size):(Kr w bk o).heap[bk]?=some o:=by
 unfold Kr;simp [Array.getElem?_setIfInBounds,hb]
theorem U9 (hk:k≠bk):(Kr w bk o).heap[k]?=w.heap[k]?:=by
 unfold Kr;simp only [];rw [Array.getElem?_setIfInBounds,if_neg (fun e=>hk e.symm)]
theorem Xhq :(Kr w bk o).heap.size=w.heap.size:=by unfold Kr;simp
theorem Xh4 :Xp [bk] [bk] w (Kr w bk o):=⟨rfl,rfl,rfl,by rw [Xhq];exact Nr _,fun k _ hF=>U9 (fun e=>hF (by simp [e])),fun _ h=>.inl h⟩
structure Vy (c:Cod) (A:Nat) (w:World) (bk:Nat) (es:Array MapEntry) (clock:Nat):Prop where
 map:w.heap[bk]?=some (.map es clock)
 ent:∀ e∈es.toList,∃ (k:Nat) (y:Fun) (g:Nat) (hs:List Int),e.key=ι k/\c.funcs[k]?=some y/\e.val=σ (some (π g 0)) y.code.length y.code.length/\w.heap[g]?=some (χ (Xx hs) 3 (0,0))/\Zp c y hs/\A<=g/\g≠bk
theorem Vy.keep {w':World} (h:Vy c A w bk es clock) (hb:Below w.heap.size w w'):Vy c A w' bk es clock:=
 ⟨by rw [hb.block _ (La h.map)];exact h.map,fun e he=>by
  obtain ⟨k,y,g,hs,h1,h2,h3,h4,h5,h6⟩:=h.ent e he
  exact ⟨k,y,g,hs,h1,h2,h3,by rw [hb.block _ (La h4)];exact h4,h5,h6⟩⟩
theorem Vy.find (h:Vy c A w bk es clock) (k:Nat) (y:Fun) (hy:c.funcs[k]?=some y) :
  Instr.findNow (.int .i64) (ι k) es.toList 0=some none\/∃ j g hs,Instr.findNow (.int .i64) (ι k) es.toList 0=some (some (j,σ (some (π g 0)) y.code.length y.code.length))/\w.heap[g]?=some (χ (Xx hs) 3 (0,0))/\Zp c y hs:=by
 obtain ⟨r,hr,hv⟩:=Xcn k es.toList 0 (fun e he=>by obtain ⟨n,_,_,_,h1,_⟩:=h.ent e he;exact ⟨n,h1⟩)
 cases r with
 | none=>exact .inl hr
 | some p=>
  obtain ⟨j,v⟩:=p
  obtain ⟨e,he,h1,h2⟩:=hv j v rfl
  obtain ⟨k',y',g,hs,h3,h4,h5,h6,h7,_⟩:=h.ent e he
  rw [h1] at h3
  have:k=k':=by simp at h3;omega
  subst this
  rw [hy] at h4
  cases h4
  rw [h5] at h2
  subst h2
  exact .inr ⟨j,g,hs,hr,h6,h7⟩
theorem Vy.add (h:Vy c A w bk es clock) (k:Nat) (y:Fun) (hy:c.funcs[k]?=some y) (g:Nat) (hs:List Int) (hg:w.heap[g]?=some (χ (Xx hs) 3 (0,0))) (hA:Zp c y hs) (hA2:A<=g) (hn:g≠bk) :
  Vy c A (Kr w bk (.map (es.push ⟨ι k,σ (some (π g 0)) y.code.length y.code.length,clock⟩) (clock+1))) bk (es.push ⟨ι k,σ (some (π g 0)) y.code.length y.code.length,clock⟩) (clock+1):=by
 have aA:=(La h.map)
 refine ⟨Xg0 aA,fun e he=>?_⟩
 rw [Array.toList_push,List.mem_append,List.mem_singleton] at he
 rcases he with he|he
 ·obtain ⟨k',y',g',aB,h1,h2,h3,h4,h5,h6,h7⟩:=h.ent e he
  exact ⟨k',y',g',aB,h1,h2,h3,by rw [U9 h7];exact h4,h5,h6,h7⟩
 ·subst he
  exact ⟨k,y,g,hs,rfl,hy,rfl,by rw [U9 hn];exact hg,hA,hA2,hn⟩
noncomputable def pB (P:Prop):Bool:=@decide P (Classical.propDecidable P)
theorem Kh (h:P):pB P=true:=by unfold pB;exact @decide_eq_true _ (Classical.propDecidable _) h
theorem K8 (h:¬P):pB P=false:=by unfold pB;exact @decide_eq_false _ (Classical.propDecidable _) h
theorem Xry :pB P=true↔P:=by
 constructor
 ·intro h
  by_cases hs:P
  ·exact hs
  ·rw [K8 hs] at h;cases h
 ·exact Kh
def Yx (c:Cod) (fr:List Fra) (r:Rq) (k:Nat) (f:Fra):Prop:=
 Jb c f (fun x=>if k+1=fr.length then Xr x r=true else x.op=9/\∃ g,fr[k+1]?=some g/\x.a=g.fn)
theorem Xa9 (h:Xr x r=true):x.op=4\/x.op=5\/x.op=6\/x.op=7\/x.op=8:=by
 unfold Xr Xy at h
 by_cases h1:x.op=4\/x.op=6
 ·omega
 rw [if_neg h1] at h
 by_cases h2:x.op=5\/x.op=7
 ·omega
 rw [if_neg h2] at h
 by_cases h3:x.op=8
 ·omega
 rw [if_neg h3] at h
 simp at h
theorem Xig (h:x.op=4\/x.op=5\/x.op=6\/x.op=7\/x.op=8\/x.op=9):Qb c x=Xm c y x:=by
 unfold Qb Xm Y1 Ya
 rcases h with h|h|h|h|h|h<;>simp [h]
 cases Je c x.a<;>rfl
theorem Xaw (h:if k+1=fr.length then Xr x r=true else x.op=9/\∃ g,fr[k+1]?=some g/\x.a=g.fn):x.op=4\/x.op=5\/x.op=6\/x.op=7\/x.op=8\/x.op=9:=by
 split at h
 ·have:=Xa9 h;omega
 ·omega
structure Vu (c:Cod) (f:Fra) (y:Fun) (x:Ins) (v:Int):Prop where
 base:Xaa c f y
 pc1:1<=f.pc
 at_:y.code[(f.pc - 1).toNat]?=some x
 hv:(v = -1/\∀ n,¬Reach c y (f.pc - 1).toNat n)\/(0<=v/\Reach c y (f.pc - 1).toNat v)
theorem Vu.neg (h:Vu c f y x v) (hv:v<0):¬Yx c fr r k f:=by
 rintro ⟨y',x',hh,hb,h1,hx,hP,hr,hl⟩
 have:y'=y:=by have:=hb.fn;rw [h.base.fn] at this;cases this;rfl
 subst this
 rcases h.hv with ⟨_,hn⟩|⟨h0,_⟩
 ·exact hn _ hr
 ·omega
theorem Vu.ht (hs:Xv c) (h:Vu c f y x v) (hf:Yx c fr r k f):(f.stack.length:Int)=v - Qb c x/\(if k+1=fr.length then Xr x r=true else x.op=9/\∃ g,fr[k+1]?=some g/\x.a=g.fn):=by
 obtain ⟨y',x',hh,hb,h1,hx,hP,hr,hl⟩:=hf
 have:y'=y:=by have:=hb.fn;rw [h.base.fn] at this;cases this;rfl
 subst this
 have aB:x'=x:=by have:=h.at_;rw [hx] at this;cases this;rfl
 subst aB
 rcases h.hv with ⟨_,hn⟩|⟨h0,aA⟩
 ·exact absurd hr (hn _)
 ·have:=(hs.snd hb.fn).2 _ _ _ hr aA
  subst this
  exact ⟨by rw [Xig (y:=y') (Xaw hP)];exact hl,hP⟩
theorem Vu.yes (h:Vu c f y x v) (hv:¬v<0) (hl:(f.stack.length:Int)=v - Qb c x) (hP:if k+1=fr.length then Xr x r=true else x.op=9/\∃ g,fr[k+1]?=some g/\x.a=g.fn):Yx c fr r k f:=by
 rcases h.hv with ⟨h0,hn⟩|⟨h0,aA⟩
 ·omega
 ·exact ⟨y,x,v,h.base,h.pc1,h.at_,hP,aA,by rw [<-Xig (y:=y) (Xaw hP)];exact hl⟩
