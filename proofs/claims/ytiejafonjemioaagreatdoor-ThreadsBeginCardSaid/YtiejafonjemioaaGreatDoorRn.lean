import Derived.Test.YtiejafonjemioaaGreatDoorMov
import Derived.Deep.RegionHeld3
set_option maxHeartbeats 2000000
set_option maxRecDepth 100000
set_option linter.unusedVariables false
set_option linter.unusedSimpArgs false
open Go.Value renaming slice→σ
open Go.Obj renaming cells→χ
namespace Go.Proofs.YtiejafonjemioaaGreatDoor
open Go.RowKit
variable {T:TypeId} {c:Cod} {w:World} {A:Array Value} {o:Obj} {f:Fun} {x:Ins}
theorem Xau (c:Int):Yc c=2↔(97<=c/\c<=122\/65<=c/\c<=90):=by
 unfold Yc
 split
 ·constructor<;>intro h<;>omega
 ·split
  ·constructor<;>intro h<;>omega
  ·split
   ·constructor<;>intro h<;>omega
   ·split<;>constructor<;>intro h<;>omega
theorem Xag (c:Int):2<=Yc c↔((97<=c/\c<=122\/65<=c/\c<=90)\/(48<=c/\c<=57)\/c=95):=by
 unfold Yc
 split
 ·constructor<;>intro h<;>omega
 ·split
  ·constructor<;>intro h<;>omega
  ·split
   ·constructor<;>intro h<;>omega
   ·split<;>constructor<;>intro h<;>omega
def Xo1 (c:Int):Bool:=decide (Yc c=2)
def Xcm (c:Int):Bool:=decide (2<=Yc c)
theorem Xnt {c:Int} (h:Xcm c=false):Yc c<2:=by
 have:¬2<=Yc c:=of_decide_eq_false h
 omega
theorem Xlk {c:Int} (h:Xcm c=true):2<=Yc c:=of_decide_eq_true h
def Xqf (c:Int):Bool:=decide (48<=c/\c<=57)
theorem Kj (c:Int) (w:World):Calls Tryz.prog 180 #[.int .u8 c] w fun e w'=>e=.returned (.bool (Xo1 c))/\w=w':=by
 go_enter Tryz.func180,Tryz.ntmps180
 go_wp2
 all_goals (go_ret;exact ⟨Za (by unfold Xo1;rw [Bool.eq_iff_iff];simp [Xau] at *;omega),rfl⟩)
theorem Xdn (c:Int) (w:World):Calls Tryz.prog 211 #[.int .u8 c] w fun e w'=>e=.returned (.bool (Xqf c))/\w=w':=by
 go_enter Tryz.func211,Tryz.ntmps211
 go_wp2
 all_goals (go_ret;exact ⟨Za (by unfold Xqf;rw [Bool.eq_iff_iff];simp at *;omega),rfl⟩)
theorem Xlq (c:Int) (w:World):Calls Tryz.prog 181 #[.int .u8 c] w fun e w'=>e=.returned (.bool (Xcm c))/\w=w':=by
 cases h1:Xo1 c with
 | true=>
  have hf:Hid (Xcm c=true):=by have:=of_decide_eq_true h1;exact Lh (decide_eq_true ω)
  have H1:=Lh h1
  clear h1
  go_enter Tryz.func181,Tryz.ntmps181
  go_wp2_with fail
  refine (Kj _ _).mono ?_
  rintro e w' ⟨rfl,rfl⟩
  rw [H1.o]
  go_wp2
  go_ret
  exact ⟨by rw [hf.o];rfl,rfl⟩
 | false=>
  have g1:¬Yc c=2:=of_decide_eq_false h1
  cases h2:Xqf c with
  | true=>
   have hf:Hid (Xcm c=true):=by have:=of_decide_eq_true h2;exact Lh (decide_eq_true ((Xag c).2 ω))
   have H1:=Lh h1
   have H2:=Lh h2
   clear h1 h2 g1
   go_enter Tryz.func181,Tryz.ntmps181
   go_wp2_with fail
   refine (Kj _ _).mono ?_
   rintro e w' ⟨rfl,rfl⟩
   rw [H1.o]
   go_wp2_with fail
   refine (Xdn _ _).mono ?_
   rintro e w' ⟨rfl,rfl⟩
   rw [H2.o]
   go_wp2
   go_ret
   exact ⟨by rw [hf.o];rfl,rfl⟩
  | false=>
   have hf:Hid (Xcm c=(c == 95)):=by
    have g2:¬(48<=c/\c<=57):=of_decide_eq_false h2
    rw [Xau] at g1
    refine Lh ?_
    unfold Xcm
    rw [Bool.eq_iff_iff]
    simp [Xag]
    omega
   have H1:=Lh h1
   have H2:=Lh h2
   clear h1 h2 g1
   go_enter Tryz.func181,Tryz.ntmps181
   go_wp2_with fail
   refine (Kj _ _).mono ?_
   rintro e w' ⟨rfl,rfl⟩
   rw [H1.o]
   go_wp2_with fail
   refine (Xdn _ _).mono ?_
   rintro e w' ⟨rfl,rfl⟩
   rw [H2.o]
   go_wp2
   go_ret
   exact ⟨by rw [hf.o];rfl,rfl⟩
theorem Xpb (ss:List ByteArray) (s:ByteArray) (v:Value) (B:Nat) (w:World) (hv:Xf B w 1 Xfp v ss):Calls Tryz.prog 212 #[v,.string s] w fun e w'=>e=.returned (.bool (Q9 ss s))/\w=w':=by
 obtain ⟨a,cap,rfl,hl,aF,aG,hE⟩:=hv
 have HE:=Lh hE
 clear hE
 go_enter Tryz.func212,Tryz.ntmps212
 go_wp2_with fail
 go_loop [5] (fun i=>∃ k:Nat,k<=ss.length/\i=ι k/\Hid (∀ (j:Nat) x,j<k->ss[j]?=some x->Zt x s=false)) (fun i=>ss.length - (intOf i).toNat)
 case atStart=>exact ⟨0,Nat.zero_le _,rfl,fun j x hj=>by omega⟩
 case round=>
  obtain ⟨k,hk,rfl,aB⟩:=hrel
  by_cases aD:k<ss.length
  ·obtain ⟨x,hx⟩:∃ x,ss[k]?=some x:=⟨_,Lg aD⟩
   rcases HE.o with h|⟨b,o,rfl,aE,hE⟩
   ·subst h;simp at hx
   have c1:w.cell? (π b (o+k))=some (.string x):=by have:=hE k x hx;unfold Xfp at this;simpa using this
   have HX:=Lh hx
   clear hx hE
   cases hq:Zt x s with
   | true=>
    have hf:Hid (Q9 ss s=true):=Lh (List.any_eq_true.2 ⟨x,Lm HX.o,hq⟩)
    have e1:(x.toList == s.toList)=true:=hq
    clear hq
    go_wp2
    go_ret
    exact ⟨by rw [hf.o];rfl,rfl⟩
   | false=>
    have aA:Hid (∀ (j:Nat) y,j<k+1->ss[j]?=some y->Zt y s=false):=Lh (fun j y hj hy=>by
     by_cases aC:j=k
     ·subst aC;have:=HX.o.symm.trans hy;cases this;exact hq
     ·exact aB.o j y ω hy)
    have e1:(x.toList == s.toList)=false:=hq
    clear hq
    go_wp2
    go_round
    case rel=>exact ⟨k+1,ω,by go_num,aA⟩
    case measure=>simp [intOf];omega
  ·have hf:Hid (Q9 ss s=false):=Lh (by
    unfold Q9
    rw [List.any_eq_false]
    intro x hx
    obtain ⟨j,hj,rfl⟩:=List.getElem_of_mem hx
    rw [aB.o j _ ω (Lg hj)]
    simp)
   go_wp2
   go_ret
   exact ⟨by rw [hf.o];rfl,rfl⟩
def rkw:List ByteArray:=[⟨#[116,121,112,101]⟩,⟨#[118,97,114]⟩,⟨#[112,114,111,99]⟩,⟨#[108,111,99,97,108]⟩,⟨#[109,101,97,115,117,114,101]⟩,⟨#[105,110,118,97,114,105,97,110,116]⟩,⟨#[112,111,116,101,110,116,105,97,108]⟩,⟨#[98,111,117,110,100]⟩,⟨#[105,102]⟩,⟨#[101,108,115,101]⟩,⟨#[119,104,105,108,101]⟩,⟨#[114,101,116,117,114,110]⟩,⟨#[110,101,119]⟩,⟨#[110,105,108]⟩,⟨#[116,114,117,101]⟩,⟨#[102,97,108,115,101]⟩,⟨#[97,110,100]⟩,⟨#[111,114]⟩,⟨#[110,111,116]⟩,⟨#[109,97,120]⟩,⟨#[109,105,110]⟩,⟨#[108,111,103]⟩,⟨#[105,110,116]⟩,⟨#[98,111,111,108]⟩,⟨#[116,104,105,115]⟩,⟨#[115,111,114,116]⟩,⟨#[111,112]⟩,⟨#[114,117,108,101]⟩,⟨#[115,112,101,99]⟩,⟨#[100,101,115,99]⟩,⟨#[115,99,114,105,112,116]⟩]
theorem Xej (w:World):Calls Tryz.prog 213 #[] w fun e w'=>e=.returned (σ (some (π w.heap.size 0)) 31 31)/\w'=w.alloc (χ (rkw.map .string).toArray 9):=by
 go_enter Tryz.func213,Tryz.ntmps213
 go_wp2
 go_ret
 exact ⟨rfl,rfl⟩
theorem Xh7:(rkw.all fun a=>Jj.any fun b=>a.toList == b.toList)=true/\(Jj.all fun a=>rkw.any fun b=>a.toList == b.toList)=true:=⟨κ,κ⟩
theorem Xnz (s:ByteArray):Q9 rkw s=Xhk s:=by
 have aA:∀ l l':List ByteArray,(l.all fun a=>l'.any fun b=>a.toList == b.toList)=true->Q9 l s=true->Q9 l' s=true:=fun l l' h hs=>by
  unfold Q9 at hs ⊢
  rw [List.any_eq_true] at hs ⊢
  obtain ⟨a,ha,he⟩:=hs
  have:=List.all_eq_true.1 h a ha
  rw [List.any_eq_true] at this
  obtain ⟨b,hb,aB⟩:=this
  refine ⟨b,hb,?_⟩
  unfold Zt at he ⊢
  rw [<-eq_of_beq aB];exact he
 rw [Bool.eq_iff_iff]
 exact ⟨aA _ _ Xh7.1,aA _ _ Xh7.2⟩
theorem Xdk (s:ByteArray) (w:World):Calls Tryz.prog 182 #[.string s] w fun e w'=>e=.returned (.bool (Xhk s))/\Below w.heap.size w w':=by
 have hS:Xf (w.heap.size+1) (w.alloc (χ (rkw.map .string).toArray 9)) 1 Xfp (σ (some (π w.heap.size 0)) 31 31) rkw:=by
  refine ⟨some (π w.heap.size 0),31,rfl,by decide +kernel,by decide +kernel,by decide +kernel,.inr ⟨_,_,rfl,ω,fun i x hx=>?_⟩⟩
  unfold Xfp
  rw [cell_of_row _ _ _ _ _ _ (Hn _ _)]
  simp [hx]
 have HS:=Lh hS
 have hf:=Lh (Xnz s)
 clear hS
 go_enter Tryz.func182,Tryz.ntmps182
 go_wp2_with fail
 refine (Xej _).mono ?_
 rintro e w' ⟨rfl,rfl⟩
 go_wp2_with fail
 refine (Xpb rkw s _ _ _ HS.o).mono ?_
 rintro e w' ⟨rfl,rfl⟩
 go_wp2
 go_ret
 exact ⟨by rw [<-hf.o];rfl,Xa _ _⟩
theorem Xhu (s:ByteArray) (w:World) (hs:s.size<=140737488355328) :
  Calls Tryz.prog 156 #[.string s] w fun e w'=>e=.returned (.bool (Uz s))/\Below w.heap.size w w':=by
 by_cases h0:0<s.size
 rotate_left
 ·have hf:=Lh (Xhd h0)
  have e1:((s.size:Int) == 0)=true:=beq_iff_eq.2 ω
  go_enter Tryz.func156,Tryz.ntmps156
  go_wp2
  go_ret
  exact ⟨by rw [hf.o];rfl,Below.refl _ _⟩
 have e1:((s.size:Int) == 0)=false:=beq_eq_false_iff_ne.2 ω
 by_cases h1:s.size<=40
 rotate_left
 ·have hf:=Lh (Xic h1)
  have e2:decide (40<(s.size:Int))=true:=by simp;omega
  go_enter Tryz.func156,Tryz.ntmps156
  go_wp2
  go_ret
  exact ⟨by rw [hf.o];rfl,Below.refl _ _⟩
 have e2:decide (40<(s.size:Int))=false:=by simp;omega
 cases h2:Xo1 (s[0].toNat:Int) with
 | false=>
  have hf:=Lh (Xid h0 (of_decide_eq_false h2))
  have H2:=Lh h2
  clear h2
  go_enter Tryz.func156,Tryz.ntmps156
  go_wp2_with fail
  refine (Kj _ _).mono ?_
  rintro e w' ⟨rfl,rfl⟩
  rw [H2.o]
  go_wp2
  go_ret
  exact ⟨by rw [hf.o];rfl,Below.refl _ _⟩
 | true=>
  have H2:=Lh h2
  clear h2
  go_enter Tryz.func156,Tryz.ntmps156
  go_wp2_with fail
  refine (Kj _ _).mono ?_
  rintro e w' ⟨rfl,rfl⟩
  rw [H2.o]
  go_wp2_with fail
  go_loop [3] (fun i=>∃ k:Nat,k<=s.size/\i=ι k/\Hid (∀ j (hj:j<s.size),j<k->2<=Yc (s[j].toNat:Int))) (fun i=>s.size - (intOf i).toNat)
  case atStart=>exact ⟨0,Nat.zero_le _,rfl,fun j hj h=>by omega⟩
  case round=>
   obtain ⟨k,hk,rfl,aB⟩:=hrel
   by_cases aD:k<s.size
   ·go_wp2_with fail
    refine (Xlq _ _).mono ?_
    rintro e w'' ⟨rfl,rfl⟩
    cases hc:Xcm (s[k].toNat:Int) with
    | false=>
     have aA:=Lh (Xg7 k aD (Xnt hc))
     clear hc
     go_wp2
     go_ret
     exact ⟨by rw [aA.o];rfl,Below.refl _ _⟩
    | true=>
     have aC:Hid (∀ j (hj:j<s.size),j<k+1->2<=Yc (s[j].toNat:Int)):=Lh (fun j hj h=>by
      by_cases e:j=k
      ·subst e;exact Xlk hc
      ·exact aB.o j hj ω)
     clear hc
     go_wp2
     go_round
     case rel=>exact ⟨k+1,ω,by go_num,aC⟩
     case measure=>simp [intOf];omega
   ·go_wp2_with fail
    refine (Xdk _ _).mono ?_
    rintro e w'' ⟨rfl,hb⟩
    cases h3:Xhk s with
    | true=>
     have aA:=Lh (Xgm h3)
     clear h3
     go_wp2
     go_ret
     exact ⟨by rw [aA.o];rfl,hb⟩
    | false=>
     have aA:=Lh (Xgn h0 h1 (of_decide_eq_true H2.o) h3 (fun j hj=>aB.o j hj ω))
     clear h3
     go_wp2
     go_ret
     exact ⟨by rw [aA.o];rfl,hb⟩
def Xgk (a n:Int):Bool:=decide (0<=a/\a<n)
theorem Xjq (a n:Int) (w:World):Calls Tryz.prog 183 #[ι a,ι n] w fun e w'=>e=.returned (.bool (Xgk a n))/\w=w':=by
 go_enter Tryz.func183,Tryz.ntmps183
 go_wp2
 all_goals (go_ret;exact ⟨Za (by unfold Xgk;simp;try omega),rfl⟩)
theorem Uu :Xo ((w.alloc o).alloc (χ A T)) (w.heap.size+1) A.toList:=by
 have:=@Xd (w.alloc o) A T
 simpa using this
theorem Xce {o2:Obj}:Xo (((w.alloc o).alloc o2).alloc (χ A T)) (w.heap.size+1+1) A.toList:=by
 have:=@Xd ((w.alloc o).alloc o2) A T
 simpa using this
theorem Uo {n:Int} (k:Int) (hk:x.op=k) (h1:1<=k/\k<=31) (hl:Jw c f k=some n):Xgk x.a n=Zq c f x:=by
 unfold Zq Xgk
 rw [if_neg ω,hk,hl]
theorem Xre (hk:x.op=1):Zq c f x=decide (-1099511627776<=x.a/\x.a<=1099511627776):=by
 unfold Zq
 rw [if_neg ω,hk]
 rfl
theorem Xm7 (h1:¬x.op=1) (h2:¬x.op=2) (h3:¬x.op=3) (h4:¬x.op=4) (h5:¬x.op=5) (h6:¬x.op=6) (h7:¬x.op=7) (h8:¬x.op=8) (h9:¬x.op=9) (h11:¬x.op=11) (h12:¬x.op=12):Zq c f x=decide (1<=x.op/\x.op<=31/\x.a=0):=by
 unfold Zq Jw
 rw [if_neg h2,if_neg h3,if_neg h4,if_neg h5,if_neg h6,if_neg h7,if_neg h8,if_neg h9,if_neg h11,if_neg h12,if_neg h1]
 by_cases h:x.op<1\/31<x.op
 ·rw [if_pos h];symm;rw [decide_eq_false_iff_not];omega
 ·rw [if_neg h]
  show decide (x.a=0)=_
  rw [Bool.eq_iff_iff];simp;omega
theorem Xls (c:Cod) (cv:Value) (f:Fun) (fv:Value) (x:Ins) (xv:Value) (B:Nat) (w:World) (hc:Yj B w cv c) (hf:J4 B w fv f) (hx:Xa3 B w xv x) :
  Calls Tryz.prog 157 #[cv,fv,xv] w fun e w'=>e=.returned (.bool (Zq c f x))/\Below w.heap.size w w':=by
 obtain ⟨fv,gv,rfl,aH,aI,aL⟩:=hc
 obtain ⟨kv,rfl,hk,hn,hp,aN⟩:=hf
 obtain ⟨rfl,aO,ha⟩:=hx
 obtain ⟨fa,aA,rfl,aJ,-,-,-⟩:=aH
 obtain ⟨ga,aB,rfl,aE,aF,aG,aK⟩:=aI
 obtain ⟨ka,aC,rfl,aM,-,-,-⟩:=hk
 clear aK
 unfold in64 at *
 obtain ⟨W,hW⟩:∃ W,W=(((w.alloc (χ (Bc fa aA ga aB c) 25)).alloc (χ #[.string f.name,ι f.params,ι f.locals,.bool f.result,σ ka f.code.length aC] 93)).alloc (χ #[ι x.op,ι x.a] 124)):=⟨_,rfl⟩
 have HW:Hid (Below w.heap.size w W):=by rw [hW];exact Lh (((Xa _ _).then (Xa _ _)).then (Xa _ _))
 have k1:Xo W w.heap.size [σ fa c.fields.length aA,ι c.globals,σ ga c.funcs.length aB]:=by rw [hW];exact (Xd.alloc _).alloc _
 have k2:Xo W (w.heap.size+1) [.string f.name,ι f.params,ι f.locals,.bool f.result,σ ka f.code.length aC]:=by rw [hW];exact Uu.alloc _
 have k3:Xo W (w.heap.size+1+1) [ι x.op,ι x.a]:=by rw [hW];exact Xce
 have c0:=k1 0 _ rfl
 have c1:=k1 1 _ rfl
 have c2:=k1 2 _ rfl
 have f2:=k2 2 _ rfl
 have f4:=k2 4 _ rfl
 have x0:=k3 0 _ rfl
 have x1:=k3 1 _ rfl
 clear k1 k2 k3
 go_enter Tryz.func157,Tryz.ntmps157
 have aD:=Lh hW
 clear hW
 go_wp2_with (rw [<-aD.o];go_at_call 183;refine (Xjq _ _ _).mono ?_;rintro e w' ⟨rfl,rfl⟩)
 all_goals
  go_ret
  refine ⟨Za ?_,by first|exact HW.o|(rw [aD.o] at HW;exact HW.o)⟩
  clear HW aD c0 c1 c2 f2 f4 x0 x1 aL hn hp aN aO ha aE aF aG aJ aM
  simp only [beq_iff_eq,beq_eq_false_iff_ne,decide_eq_true_eq,decide_eq_false_iff_not] at *
  first
   | (
    have h:x.op=1:=by assumption
    rw [Xre h,Bool.eq_iff_iff];simp;omega)
   | exact Uo 2 (by assumption) ω rfl
   | exact Uo 3 (by assumption) ω rfl
   | exact Uo 4 (by assumption) ω rfl
   | exact Uo 5 (by assumption) ω rfl
   | exact Uo 6 (by assumption) ω rfl
   | exact Uo 7 (by assumption) ω rfl
   | exact Uo 8 (by assumption) ω rfl
   | exact Uo 9 (by assumption) ω rfl
   | exact Uo 11 (by assumption) ω rfl
   | exact Uo 12 (by assumption) ω rfl
   | (rw [Xm7 (by assumption) (by assumption) (by assumption) (by assumption) (by assumption) (by assumption) (by assumption) (by assumption) (by assumption) (by assumption) (by assumption),Bool.eq_iff_iff];simp;omega)
theorem Xiu (c:Cod) (cv:Value) (B:Nat) (w:World) (hB:B<=w.heap.size) (hc:Yj B w cv c) :
  Calls Tryz.prog 123 #[cv] w (Xkn (Q4 c) w):=by
 have HC:=Lh hc
 obtain ⟨bG,bH,rfl,aY,aZ,aI⟩:=hc
 obtain ⟨fa,fc,rfl,bJ,-,-,-⟩:=aY
 obtain ⟨ga,gc,rfl,bM,bN,bO,aL⟩:=aZ
 have aT:=Lh aL
 clear aL aI
 obtain ⟨W,hW⟩:∃ W,W=w.alloc (χ (Bc fa fc ga gc c) 25):=⟨_,rfl⟩
 have HW:Hid (Below w.heap.size w W):=by rw [hW];exact Lh (Xa _ _)
 have HK:Hid (Xo W w.heap.size [σ fa c.fields.length fc,ι c.globals,σ ga c.funcs.length gc]):=by rw [hW];exact Lh Xd
 have aV:=Lh hW
 clear hW
 go_enter Tryz.func123,Tryz.ntmps123
 go_wp2_with fail
 rw [<-aV.o]
 go_loopw [5] (fun i wr=>∃ k:Nat,k<=c.funcs.length/\i=ι k/\Hid (Below W.heap.size W wr/\∀ (j:Nat) x,j<k->c.funcs[j]?=some x->(x.code.any fun y=>!Zq c x y)=false)) (fun i _=>c.funcs.length - (intOf i).toNat)
 case atStart=>exact ⟨0,Nat.zero_le _,rfl,Lh ⟨Below.refl _ _,fun j x hj=>by omega⟩⟩
 case round=>
  obtain ⟨k,hk,rfl,hs⟩:=hrel
  obtain ⟨wo,rfl⟩:∃ wo:World,wo=wr:=⟨_,rfl⟩
  have HB:=Lh (HW.o.then hs.o.1)
  have aJ:=Lh (HK.o.keep hs.o.1)
  have q2:=aJ.o 2 _ rfl
  have zq:=Bl q2
  by_cases bB:k<c.funcs.length
  ·obtain ⟨x,hx⟩:∃ x,c.funcs[k]?=some x:=⟨_,Lg bB⟩
   rcases aT.o with h|⟨b,o,rfl,aK,hE⟩
   ·rw [h] at hx;simp at hx
   have aX:=(hE k x hx).below (HB.o.mono hB) aK
   have aR:=Lh (hE k x hx)
   have HX:=Lh hx
   obtain ⟨g1,g2,g3,g4,⟨xv,g5,g6⟩,g7,g8,g9⟩:=aX
   have H6:=Lh g6
   obtain ⟨xa,bE,rfl,bR,-,-,aM⟩:=g6
   have bF:=Lh aM
   clear hE hx aM g1 g2 g3 g4 g7 g8 g9
   go_wp2_with fail
   clear q2 zq g5
   go_loopw [6] (fun i wr=>∃ p:Nat,p<=x.code.length/\i=ι p/\Hid (Below wo.heap.size wo wr/\∀ (j:Nat) y,j<p->x.code[j]?=some y->Zq c x y=true)) (fun i _=>x.code.length - (intOf i).toNat)
   case atStart=>exact ⟨0,Nat.zero_le _,rfl,Lh ⟨Below.refl _ _,fun j x hj=>by omega⟩⟩
   case round=>
    obtain ⟨p,hp,rfl,aC⟩:=hrel
    have aD:=Lh (HB.o.then aC.o.1)
    have aH:=Lh (aJ.o.keep aC.o.1)
    obtain ⟨g1,g2,g3,g4,⟨xv,g5,g6⟩,g7,g8,g9⟩:=aR.o.below (aD.o.mono hB) aK
    have aW:=g6
    obtain ⟨bD,aB,rfl,-⟩:=aW
    have q0:=aH.o 0 _ rfl
    have q1:=aH.o 1 _ rfl
    have q2:=aH.o 2 _ rfl
    have zq:=Bl q2
    have zg:=Bl g5
    by_cases bA:p<x.code.length
    ·obtain ⟨y,hy⟩:∃ y,x.code[p]?=some y:=⟨_,Lg bA⟩
     have aS:Hid (J4 B wr.drew (.agg #[.string x.name,ι x.params,ι x.locals,.bool x.result,σ bD x.code.length aB]) x):=Lh ⟨_,rfl,g6.inss (Xh Br 1),g7,g8,g9⟩
     obtain ⟨bS,aN,he,-,-,-,aF⟩:=g6
     cases he
     rcases aF with h|⟨yb,yo,rfl,bC,aF⟩
     ·rw [h] at hy;simp at hy
     obtain ⟨y1,y2,y3,y4⟩:=aF p y hy
     have HY:=Lh hy
     have zy:=Bl y1
     have aQ:Hid (Yj B wr.drew (.agg #[σ fa c.fields.length fc,ι c.globals,σ (some (π b o)) c.funcs.length gc]) c):=Lh (HC.o.below ((Xh aD.o 1).mono hB))
     have bI:B<=wr.drew.heap.size:=Nt hB aD.o.size
     have aU:Hid (Xa3 B wr.drew (.agg #[ι y.op,ι y.a]) y):=Lh ⟨rfl,y3,y4⟩
     have bK:(0:Int)<=(k:Int):=In _
     have bL:(k:Int)<(c.funcs.length:Int):=ω
     have bP:(0:Int)<=(p:Int):=In _
     have bQ:(p:Int)<(x.code.length:Int):=ω
     clear hy aF y3 y4 g7 g8 g9
     go_wp2_with fail
     go_upto_region 7 with fail
     go_region_held3 (fun V=>V.cell? (π w.heap.size 0)=some (σ fa c.fields.length fc)/\V.cell? (π w.heap.size 1)=some (ι c.globals)/\V.cell? (π w.heap.size 2)=some (σ (some (π b o)) c.funcs.length gc)/\V.cell? (π b (o+k*5))=some (.string x.name)/\V.cell? (π b (o+k*5+1))=some (ι x.params)/\V.cell? (π b (o+k*5+2))=some (ι x.locals)/\V.cell? (π b (o+k*5+3))=some (.bool x.result)/\V.cell? (π b (o+k*5+4))=some (σ (some (π yb yo)) x.code.length aB)/\V.cell? (π yb (yo+p*2))=some (ι y.op)/\V.cell? (π yb (yo+p*2+1))=some (ι y.a))
      (first|exact ⟨q0,q1,q2,g1,g2,g3,g4,g5,y1,y2⟩|exact ⟨Xc aA q0,Xc aA q1,Xc aA q2,Xc aA g1,Xc aA g2,Xc aA g3,Xc aA g4,Xc aA g5,Xc aA y1,Xc aA y2⟩)
      (first|(go_at_call 157;refine (Xls c _ x _ y _ B _ aQ.o aS.o aU.o).mono ?_;rintro e w3 ⟨rfl,aA⟩))
     have aO:=Lh ((Xh aD.o 1).then aA)
     have aG:=Lh ((Xh aC.o.1 1).then aA)
     clear aA
     cases aE:Zq c x y with
     | false=>
      have hf:Hid (Q4 c=true):=Lh (Xet HX.o (List.any_eq_true.2 ⟨y,Lm HY.o,by rw [aE];rfl⟩))
      clear aE
      go_wp2_with fail
      go_ret3
      exact ⟨_,_,by rw [hf.o];rfl,aO.o⟩
     | true=>
      have hn:Hid (∀ (j:Nat) z,j<p+1->x.code[j]?=some z->Zq c x z=true):=Lh (fun j z hj hz=>by
       by_cases e:j=p
       ·subst e;rw [HY.o] at hz;cases hz;exact aE
       ·exact aC.o.2 j z ω hz)
      clear aE
      go_wp2
      go_roundw
      case rel=>exact ⟨p+1,ω,by go_num,Lh ⟨aG.o,hn.o⟩⟩
      case measure=>simp [intOf];omega
    ·have hn:Hid (∀ (j:Nat) z,j<k+1->c.funcs[j]?=some z->(z.code.any fun y=>!Zq c z y)=false):=Lh (fun j z hj hz=>by
      by_cases e:j=k
      ·subst e;rw [HX.o] at hz;cases hz
       rw [List.any_eq_false]
       intro y hy
       obtain ⟨t,ht,rfl⟩:=List.getElem_of_mem hy
       rw [aC.o.2 t _ ω (Lg ht)]
       simp
      ·exact hs.o.2 j z ω hz)
     have aP:=Lh (hs.o.1.then aC.o.1)
     clear g6 g1 g2 g3 g4 g7 g8 g9
     go_wp2
     go_roundw
     case rel=>exact ⟨k+1,ω,by go_num,Lh ⟨aP.o,hn.o⟩⟩
     case measure=>simp [intOf];omega
  ·have hf:Hid (Q4 c=false):=Lh (Xcr (fun j x _ hx=>hs.o.2 j x (by have:=(Ll hx);omega) hx))
   go_wp2_with fail
   go_ret3
   exact ⟨_,_,by rw [hf.o];rfl,HB.o⟩
theorem Xl3 (c:Cod) (cv:Value) (B:Nat) (w:World) (hB:B<=w.heap.size) (hc:Yj B w cv c) :
  Calls Tryz.prog 122 #[cv] w fun e w'=>e=.returned (.bool (U7 c))/\Below w.heap.size w w':=by
 obtain ⟨bH,bI,rfl,bD,bE,aN⟩:=hc
 obtain ⟨fa,fc,rfl,bJ,-,-,aT⟩:=bD
 obtain ⟨ga,gc,rfl,bK,bL,bM,aU⟩:=bE
 have aY:=Lh aT
 have aZ:=Lh aU
 clear aU aT
 unfold in64 at aN
 obtain ⟨W,hW⟩:∃ W,W=w.alloc (χ (Bc fa fc ga gc c) 25):=⟨_,rfl⟩
 have HW:Hid (Below w.heap.size w W):=by rw [hW];exact Lh (Xa _ _)
 have HK:Hid (Xo W w.heap.size [σ fa c.fields.length fc,ι c.globals,σ ga c.funcs.length gc]):=by rw [hW];exact Lh Xd
 have aF:=Lh hW
 clear hW
 by_cases h1:c.fields.length<=12
 rotate_left
 ·have hf:=Lh (Zc (c:=c) (fun h=>h1 h.1))
  have e1:decide (12<(c.fields.length:Int))=true:=by simp;omega
  go_enter Tryz.func122,Tryz.ntmps122
  go_wp2_with fail
  rw [<-aF.o]
  go_ret
  exact ⟨by rw [hf.o];rfl,HW.o⟩
 have e1:decide (12<(c.fields.length:Int))=false:=by simp;omega
 by_cases h2:0<=c.globals
 rotate_left
 ·have hf:=Lh (Zc (c:=c) (fun h=>h2 h.2.2.1))
  have e2:decide (c.globals<0)=true:=by simp;omega
  go_enter Tryz.func122,Tryz.ntmps122
  go_wp2_with fail
  rw [<-aF.o]
  go_ret
  exact ⟨by rw [hf.o];rfl,HW.o⟩
 have e2:decide (c.globals<0)=false:=by simp;omega
 by_cases h3:c.globals<=8
 rotate_left
 ·have hf:=Lh (Zc (c:=c) (fun h=>h3 h.2.2.2.1))
  have e3:decide (8<c.globals)=true:=by simp;omega
  go_enter Tryz.func122,Tryz.ntmps122
  go_wp2_with fail
  rw [<-aF.o]
  go_ret
  exact ⟨by rw [hf.o];rfl,HW.o⟩
 have e3:decide (8<c.globals)=false:=by simp;omega
 by_cases h4:c.funcs.length<=40
 rotate_left
 ·have hf:=Lh (Zc (c:=c) (fun h=>h4 h.2.2.2.2.1))
  have e4:decide (40<(c.funcs.length:Int))=true:=by simp;omega
  go_enter Tryz.func122,Tryz.ntmps122
  go_wp2_with fail
  rw [<-aF.o]
  go_ret
  exact ⟨by rw [hf.o];rfl,HW.o⟩
 have e4:decide (40<(c.funcs.length:Int))=false:=by simp;omega
 go_enter Tryz.func122,Tryz.ntmps122
 go_wp2_with fail
 rw [<-aF.o]
 clear e1 e2 e3 e4
 have q0:=HK.o 0 _ rfl
 have zq:=Bl q0
 go_loop [3] (fun i=>∃ k:Nat,k<=c.fields.length/\i=ι k/\Hid (∀ (j:Nat) n,j<k->c.fields[j]?=some n->¬(n<0\/12<n))) (fun i=>c.fields.length - (intOf i).toNat)
 case atStart=>exact ⟨0,Nat.zero_le _,rfl,fun j n hj=>by omega⟩
 case round=>
  obtain ⟨k,hk,rfl,aB⟩:=hrel
  by_cases aO:k<c.fields.length
  ·obtain ⟨n,hn⟩:∃ n,c.fields[k]?=some n:=⟨_,Lg aO⟩
   rcases aY.o with h|⟨b,o,rfl,aJ,hE⟩
   ·rw [h] at hn;simp at hn
   obtain ⟨c1,c2⟩:=(hE k n hn).below (HW.o.mono hB) aJ
   unfold in64 at c2
   rw [Nat.mul_one] at c1
   have HN:=Lh hn
   clear hn hE
   by_cases aA:n<0\/12<n
   ·have hf:=Lh (Zc (c:=c) (fun h=>by
     have:=List.any_eq_false.1 h.2.1 n (Lm HN.o)
     exact this (decide_eq_true aA)))
    rcases aA with aA|aA
    all_goals
     go_wp2
     go_ret
     exact ⟨by rw [hf.o];rfl,HW.o⟩
   ·have aP:Hid (∀ (j:Nat) n,j<k+1->c.fields[j]?=some n->¬(n<0\/12<n)):=Lh (fun j m hj hm=>by
     by_cases e:j=k
     ·subst e;rw [HN.o] at hm;cases hm;exact aA
     ·exact aB.o j m ω hm)
    have d1:decide (n<0)=false:=by simp;omega
    have d2:decide (12<n)=false:=by simp;omega
    clear aA
    go_wp2
    go_round
    case rel=>exact ⟨k+1,ω,by go_num,aP⟩
    case measure=>simp [intOf];omega
  ·have bF:Hid (c.fields.any (fun n=>decide (n<0\/12<n))=false):=Lh (by
    rw [List.any_eq_false]
    intro n hn
    obtain ⟨j,hj,rfl⟩:=List.getElem_of_mem hn
    have:=aB.o j _ ω (Lg hj)
    simp;omega)
   clear aB
   go_wp2_with fail
   clear q0 zq
   go_loopw [4] (fun i wr=>∃ k:Nat,k<=c.funcs.length/\i=ι k/\Hid (Below W.heap.size W wr/\∀ (j:Nat) x,j<k->c.funcs[j]?=some x->Xbh c j x)) (fun i _=>c.funcs.length - (intOf i).toNat)
   case atStart=>exact ⟨0,Nat.zero_le _,rfl,Lh ⟨Below.refl _ _,fun j x hj=>by omega⟩⟩
   case round=>
    obtain ⟨k,hk,rfl,hs⟩:=hrel
    obtain ⟨wo,rfl⟩:∃ wo:World,wo=wr:=⟨_,rfl⟩
    have HB:=Lh (HW.o.then hs.o.1)
    have aS:=Lh (HK.o.keep hs.o.1)
    have q2:=aS.o 2 _ rfl
    have zq:=Bl q2
    by_cases aO:k<c.funcs.length
    ·obtain ⟨x,hx⟩:∃ x,c.funcs[k]?=some x:=⟨_,Lg aO⟩
     rcases aZ.o with h|⟨b,o,rfl,aJ,hE⟩
     ·rw [h] at hx;simp at hx
     have bC:=(hE k x hx).below (HB.o.mono hB) aJ
     have HE:=Lh hE
     have HX:=Lh hx
     obtain ⟨g1,g2,g3,g4,⟨xv,g5,g6⟩,g7,g8,g9⟩:=bC
     obtain ⟨xa,aH,rfl,bP,-,-,-⟩:=g6
     unfold in64 at g8 g9
     obtain ⟨W1,aI⟩:∃ V,V=wo.alloc (χ #[.string x.name,ι x.params,ι x.locals,.bool x.result,σ xa x.code.length aH] 93):=⟨_,rfl⟩
     have aV:Hid (Below wo.heap.size wo W1):=by rw [aI];exact Lh (Xa _ _)
     have aX:Hid (Xo W1 wo.heap.size [.string x.name,ι x.params,ι x.locals,.bool x.result,σ xa x.code.length aH]):=by rw [aI];exact Lh Xd
     have bB:=Lh aI
     clear hE hx aI
     go_wp2_with fail
     rw [<-bB.o]
     refine (Xhu _ _ g7).mono ?_
     rintro e w2 ⟨rfl,aM⟩
     have aK:=Lh (aV.o.then aM)
     have aL:=Lh (HB.o.then aK.o)
     have aE:=Lh (aX.o.keep aM)
     have r0:=aE.o 0 _ rfl
     have r1:=aE.o 1 _ rfl
     have r2:=aE.o 2 _ rfl
     have r4:=aE.o 4 _ rfl
     have zr:=Bl r0
     have q2:=Xc aK.o q2
     have zq:=Bl q2
     clear g1 g2 g3 g4 g5 aM
     cases hn:Uz x.name with
     | false=>
      have hf:=Lh (Zc (c:=c) (fun h=>by rw [(h.2.2.2.2.2 k x HX.o).1] at hn;cases hn))
      clear hn
      go_wp2
      go_ret
      exact ⟨by rw [hf.o];rfl,aL.o⟩
     | true=>
      have HN:=Lh hn
      clear hn
      by_cases aG:Zr x
      ·have bA:=Lh aG
       obtain ⟨o1,o2,o3,o4,o5,o6⟩:=aG
       have d1:decide (x.params<0)=false:=by simp;omega
       have d2:decide (6<x.params)=false:=by simp;omega
       have d3:decide (x.locals<x.params)=false:=by simp;omega
       have d4:decide (100<x.locals)=false:=by simp;omega
       have d5:((x.code.length:Int) == 0)=false:=beq_eq_false_iff_ne.2 ω
       have d6:decide (1048576<(x.code.length:Int))=false:=by simp;omega
       go_wp2_with fail
       clear d1 d2 d3 d4 d5 d6 r0 r1 r2 r4 zr q2 zq o1 o2 o3 o4 o5 o6
       go_loopw [6] (fun i wr=>∃ p:Nat,p<=k/\i=ι p/\Hid (Below w2.heap.size w2 wr/\∀ (j:Nat) y,j<p->c.funcs[j]?=some y->Zt y.name x.name=false)) (fun i _=>k - (intOf i).toNat)
       case atStart=>exact ⟨0,Nat.zero_le _,rfl,Lh ⟨Below.refl _ _,fun j x hj=>by omega⟩⟩
       case round=>
        obtain ⟨p,hp,rfl,aC⟩:=hrel
        have aR:=Lh (aL.o.then aC.o.1)
        have aD:=Lh (aK.o.then aC.o.1)
        by_cases bG:p<k
        ·obtain ⟨y,hy⟩:∃ y,c.funcs[p]?=some y:=⟨_,Lg ω⟩
         have t1:=((HE.o p y hy).below (aR.o.mono hB) aJ).1
         have t2:=(aS.o.keep aD.o) 2 _ rfl
         have t3:=(aE.o.keep aC.o.1) 0 _ rfl
         have HY:=Lh hy
         have bN:(0:Int)<=(p:Int):=In _
         have bO:(p:Int)<(c.funcs.length:Int):=ω
         clear hy
         cases hq:Zt y.name x.name with
         | true=>
          have hf:=Lh (Zc (c:=c) (fun h=>by
           have:=List.any_eq_false.1 (h.2.2.2.2.2 k x HX.o).2.2 y (Lm (i:=p) (by rw [List.getElem?_take];simp [bG,HY.o]))
           exact this hq))
          have e1:(y.name.toList == x.name.toList)=true:=hq
          clear hq
          go_wp2_with fail
          go_quiet (fail)
          go_wp2
          go_ret
          exact ⟨by rw [hf.o];rfl,Xh aR.o _⟩
         | false=>
          have hn:Hid (∀ (j:Nat) y,j<p+1->c.funcs[j]?=some y->Zt y.name x.name=false):=Lh (fun j z hj hz=>by
           by_cases e:j=p
           ·subst e;rw [HY.o] at hz;cases hz;exact hq
           ·exact aC.o.2 j z ω hz)
          have e1:(y.name.toList == x.name.toList)=false:=hq
          clear hq
          go_wp2_with fail
          go_quiet (fail)
          go_wp2
          go_roundw
          case rel=>exact ⟨p+1,ω,by go_num,Lh ⟨Xh aC.o.1 _,hn.o⟩⟩
          case measure=>simp [intOf];omega
        ·have hn:Hid (∀ (j:Nat) y,j<k+1->c.funcs[j]?=some y->Xbh c j y):=Lh (fun j z hj hz=>by
          by_cases e:j=k
          ·subst e;rw [HX.o] at hz;cases hz
           refine ⟨HN.o,bA.o,?_⟩
           rw [List.any_eq_false]
           intro y hy
           obtain ⟨t,ht,rfl⟩:=List.getElem_of_mem hy
           rw [List.length_take] at ht
           rw [List.getElem_take,aC.o.2 t _ ω (Lg ω)]
           simp
          ·exact hs.o.2 j z ω hz)
         have aW:=Lh (hs.o.1.then aD.o)
         go_wp2
         go_roundw
         case rel=>exact ⟨k+1,ω,by go_num,Lh ⟨aW.o,hn.o⟩⟩
         case measure=>simp [intOf];omega
      ·have aQ:=Lh (Zc (c:=c) (fun h=>aG (h.2.2.2.2.2 k x HX.o).2.1))
       unfold Zr at aG
       go_wp2_with fail
       all_goals first
        | (exfalso;apply aG;simp only [beq_iff_eq,beq_eq_false_iff_ne,decide_eq_true_eq,decide_eq_false_iff_not] at *;omega)
        | (go_ret;exact ⟨by rw [aQ.o];rfl,aL.o⟩)
    ·have hf:=Lh (K6 (c:=c) ⟨h1,bF.o,h2,h3,h4,fun i x hx=>hs.o.2 i x (by have:=(Ll hx);omega) hx⟩)
     go_wp2
     go_ret
     exact ⟨by rw [hf.o];rfl,HB.o⟩
