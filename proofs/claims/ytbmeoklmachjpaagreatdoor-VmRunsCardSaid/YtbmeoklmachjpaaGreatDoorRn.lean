/- Contracts of the reference's names: ref01.letter, digit, word, Has, Keywords, IsKeyword, IsName. Contracts of the reference's verifier: ref14.below, Right, wrong, Head. -/
import Derived.Test.YtbmeoklmachjpaaGreatDoorLex
import Derived.Test.YtbmeoklmachjpaaGreatDoorMov
import Derived.Deep.RegionHeld3
import Derived.Deep.QuietTactic
import Derived.BigQuiet
set_option maxHeartbeats 2000000
set_option maxRecDepth 100000
set_option linter.unusedVariables false
set_option linter.unusedSimpArgs false
namespace Go.Proofs.YtbmeoklmachjpaaGreatDoor
open Go.RowKit
theorem Xau (c:Int):Yc c=2↔(97≤c∧c≤122∨65≤c∧c≤90):=by
 unfold Yc
 split
 ·constructor<;>intro h<;>omega
 ·split
  ·constructor<;>intro h<;>omega
  ·split
   ·constructor<;>intro h<;>omega
   ·split<;>constructor<;>intro h<;>omega
theorem Xag (c:Int):2≤Yc c↔((97≤c∧c≤122∨65≤c∧c≤90)∨(48≤c∧c≤57)∨c=95):=by
 unfold Yc
 split
 ·constructor<;>intro h<;>omega
 ·split
  ·constructor<;>intro h<;>omega
  ·split
   ·constructor<;>intro h<;>omega
   ·split<;>constructor<;>intro h<;>omega
def Xo1 (c:Int):Bool:=decide (Yc c=2)
def Xcm (c:Int):Bool:=decide (2≤Yc c)
theorem Xnt {c:Int} (h:Xcm c=false):Yc c<2:=by
 have:¬2≤Yc c:=of_decide_eq_false h
 omega
theorem Xlk {c:Int} (h:Xcm c=true):2≤Yc c:=of_decide_eq_true h
def Xqf (c:Int):Bool:=decide (48≤c∧c≤57)
theorem Kj (c:Int) (w:World):Calls Tryz.prog 130 #[.int .u8 c] w fun e w'=>e=.returned (.bool (Xo1 c))∧w=w':=by
 go_enter Tryz.func130,Tryz.ntmps130
 go_wp2
 all_goals (go_ret;exact ⟨Za (by unfold Xo1;rw [Bool.eq_iff_iff];simp [Xau] at *;omega),rfl⟩)
theorem Xdn (c:Int) (w:World):Calls Tryz.prog 144 #[.int .u8 c] w fun e w'=>e=.returned (.bool (Xqf c))∧w=w':=by
 go_enter Tryz.func144,Tryz.ntmps144
 go_wp2
 all_goals (go_ret;exact ⟨Za (by unfold Xqf;rw [Bool.eq_iff_iff];simp at *;omega),rfl⟩)
theorem Xlq (c:Int) (w:World):Calls Tryz.prog 131 #[.int .u8 c] w fun e w'=>e=.returned (.bool (Xcm c))∧w=w':=by
 cases h1:Xo1 c with
 | true=>
  have hf:Hid (Xcm c=true):=by have:=of_decide_eq_true h1;exact Lh (decide_eq_true (by omega))
  have H1:=Lh h1
  clear h1
  go_enter Tryz.func131,Tryz.ntmps131
  go_wp2_with fail
  refine (Kj _ _).mono ?_
  rintro e w' ⟨rfl,rfl⟩
  rw [H1.out]
  go_wp2_with fail
  go_ret
  exact ⟨by rw [hf.out];rfl,rfl⟩
 | false=>
  have g1:¬Yc c=2:=of_decide_eq_false h1
  cases h2:Xqf c with
  | true=>
   have hf:Hid (Xcm c=true):=by have:=of_decide_eq_true h2;exact Lh (decide_eq_true ((Xag c).2 (by omega)))
   have H1:=Lh h1
   have H2:=Lh h2
   clear h1 h2 g1
   go_enter Tryz.func131,Tryz.ntmps131
   go_wp2_with fail
   refine (Kj _ _).mono ?_
   rintro e w' ⟨rfl,rfl⟩
   rw [H1.out]
   go_wp2_with fail
   refine (Xdn _ _).mono ?_
   rintro e w' ⟨rfl,rfl⟩
   rw [H2.out]
   go_wp2_with fail
   go_ret
   exact ⟨by rw [hf.out];rfl,rfl⟩
  | false=>
   have hf:Hid (Xcm c=(c == 95)):=by
    have g2:¬(48≤c∧c≤57):=of_decide_eq_false h2
    rw [Xau] at g1
    refine Lh ?_
    unfold Xcm
    rw [Bool.eq_iff_iff]
    simp [Xag]
    omega
   have H1:=Lh h1
   have H2:=Lh h2
   clear h1 h2 g1
   go_enter Tryz.func131,Tryz.ntmps131
   go_wp2_with fail
   refine (Kj _ _).mono ?_
   rintro e w' ⟨rfl,rfl⟩
   rw [H1.out]
   go_wp2_with fail
   refine (Xdn _ _).mono ?_
   rintro e w' ⟨rfl,rfl⟩
   rw [H2.out]
   go_wp2_with fail
   go_ret
   exact ⟨by rw [hf.out];rfl,rfl⟩
theorem Xpb (ss:List ByteArray) (s:ByteArray) (v:Value) (B:Nat) (w:World) (hv:Xf B w 1 Xfp v ss):Calls Tryz.prog 145 #[v,.string s] w fun e w'=>e=.returned (.bool (Q9 ss s))∧w=w':=by
 obtain ⟨a,cap,rfl,hl,hl2,hl3,hE⟩:=hv
 have HE:=Lh hE
 clear hE
 go_enter Tryz.func145,Tryz.ntmps145
 go_wp2_with fail
 go_loop [5] (fun i=>∃ k:Nat,k≤ss.length∧i=.int .i64 k∧Hid (∀ (j:Nat) x,j<k→ss[j]?=some x→Zt x s=false)) (fun i=>ss.length - (intOf i).toNat)
 case atStart=>exact ⟨0,Nat.zero_le _,rfl,fun j x hj=>by omega⟩
 case round=>
  obtain ⟨k,hk,rfl,hno⟩:=hrel
  by_cases hlt:k<ss.length
  ·obtain ⟨x,hx⟩:∃ x,ss[k]?=some x:=⟨_,List.getElem?_eq_getElem hlt⟩
   rcases HE.out with h|⟨b,o,rfl,hbB,hE⟩
   ·subst h;simp at hx
   have c1:w.cell? ⟨b,o+k,none⟩=some (.string x):=by have:=hE k x hx;unfold Xfp at this;simpa using this
   have HX:=Lh hx
   clear hx hE
   cases hq:Zt x s with
   | true=>
    have hf:Hid (Q9 ss s=true):=Lh (List.any_eq_true.2 ⟨x,List.mem_of_getElem? HX.out,hq⟩)
    have e1:(x.toList == s.toList)=true:=hq
    clear hq
    go_wp2_with fail
    go_ret
    exact ⟨by rw [hf.out];rfl,rfl⟩
   | false=>
    have hno2:Hid (∀ (j:Nat) y,j<k+1→ss[j]?=some y→Zt y s=false):=Lh (fun j y hj hy=>by
     by_cases hjk:j=k
     ·subst hjk;have:=HX.out.symm.trans hy;cases this;exact hq
     ·exact hno.out j y (by omega) hy)
    have e1:(x.toList == s.toList)=false:=hq
    clear hq
    go_wp2_with fail
    go_round
    case rel=>exact ⟨k+1,by omega,by go_num,hno2⟩
    case measure=>simp [intOf];omega
  ·have hf:Hid (Q9 ss s=false):=Lh (by
    unfold Q9
    rw [List.any_eq_false]
    intro x hx
    obtain ⟨j,hj,rfl⟩:=List.getElem_of_mem hx
    rw [hno.out j _ (by omega) (List.getElem?_eq_getElem hj)]
    simp)
   go_wp2_with fail
   go_ret
   exact ⟨by rw [hf.out];rfl,rfl⟩
def rkw:List ByteArray:=[⟨#[116,121,112,101]⟩,⟨#[118,97,114]⟩,⟨#[112,114,111,99]⟩,⟨#[108,111,99,97,108]⟩,⟨#[109,101,97,115,117,114,101]⟩,⟨#[105,110,118,97,114,105,97,110,116]⟩,⟨#[112,111,116,101,110,116,105,97,108]⟩,⟨#[98,111,117,110,100]⟩,⟨#[105,102]⟩,⟨#[101,108,115,101]⟩,⟨#[119,104,105,108,101]⟩,⟨#[114,101,116,117,114,110]⟩,⟨#[110,101,119]⟩,⟨#[110,105,108]⟩,⟨#[116,114,117,101]⟩,⟨#[102,97,108,115,101]⟩,⟨#[97,110,100]⟩,⟨#[111,114]⟩,⟨#[110,111,116]⟩,⟨#[109,97,120]⟩,⟨#[109,105,110]⟩,⟨#[108,111,103]⟩,⟨#[105,110,116]⟩,⟨#[98,111,111,108]⟩,⟨#[116,104,105,115]⟩,⟨#[115,111,114,116]⟩,⟨#[111,112]⟩,⟨#[114,117,108,101]⟩,⟨#[115,112,101,99]⟩,⟨#[100,101,115,99]⟩,⟨#[115,99,114,105,112,116]⟩]
theorem Xej (w:World):Calls Tryz.prog 146 #[] w fun e w'=>e=.returned (.slice (some ⟨w.heap.size,0,none⟩) 31 31)∧w'=w.alloc (.cells (rkw.map .string).toArray 9):=by
 go_enter Tryz.func146,Tryz.ntmps146
 go_wp2
 go_ret
 exact ⟨rfl,rfl⟩
theorem Xh7:(rkw.all fun a=>Jj.any fun b=>a.toList == b.toList)=true∧(Jj.all fun a=>rkw.any fun b=>a.toList == b.toList)=true:=⟨by kernel_rfl,by kernel_rfl⟩
theorem Xnz (s:ByteArray):Q9 rkw s=Xhk s:=by
 have key:∀ l l':List ByteArray,(l.all fun a=>l'.any fun b=>a.toList == b.toList)=true→Q9 l s=true→Q9 l' s=true:=fun l l' h hs=>by
  unfold Q9 at hs ⊢
  rw [List.any_eq_true] at hs ⊢
  obtain ⟨a,ha,he⟩:=hs
  have:=List.all_eq_true.1 h a ha
  rw [List.any_eq_true] at this
  obtain ⟨b,hb,hab⟩:=this
  refine ⟨b,hb,?_⟩
  unfold Zt at he ⊢
  rw [←eq_of_beq hab];exact he
 rw [Bool.eq_iff_iff]
 exact ⟨key _ _ Xh7.1,key _ _ Xh7.2⟩
theorem Xdk (s:ByteArray) (w:World):Calls Tryz.prog 132 #[.string s] w fun e w'=>e=.returned (.bool (Xhk s))∧Below w.heap.size w w':=by
 have hS:Xf (w.heap.size+1) (w.alloc (.cells (rkw.map .string).toArray 9)) 1 Xfp (.slice (some ⟨w.heap.size,0,none⟩) 31 31) rkw:=by
  refine ⟨some ⟨w.heap.size,0,none⟩,31,rfl,by decide +kernel,by decide +kernel,by decide +kernel,.inr ⟨_,_,rfl,by omega,fun i x hx=>?_⟩⟩
  unfold Xfp
  rw [cell_of_row _ _ _ _ _ _ (heap_alloc_new _ _)]
  simp [hx]
 have HS:=Lh hS
 have hf:=Lh (Xnz s)
 clear hS
 go_enter Tryz.func132,Tryz.ntmps132
 go_wp2_with fail
 refine (Xej _).mono ?_
 rintro e w' ⟨rfl,rfl⟩
 go_wp2_with fail
 refine (Xpb rkw s _ _ _ HS.out).mono ?_
 rintro e w' ⟨rfl,rfl⟩
 go_wp2
 go_ret
 exact ⟨by rw [←hf.out];rfl,Xa _ _⟩
theorem Xhu (s:ByteArray) (w:World) (hs:s.size≤140737488355328) :
  Calls Tryz.prog 93 #[.string s] w fun e w'=>e=.returned (.bool (Uz s))∧Below w.heap.size w w':=by
 by_cases h0:0<s.size
 rotate_left
 ·have hf:=Lh (Xhd h0)
  have e1:((s.size:Int) == 0)=true:=beq_iff_eq.2 (by omega)
  go_enter Tryz.func93,Tryz.ntmps93
  go_wp2_with fail
  go_ret
  exact ⟨by rw [hf.out];rfl,Below.refl _ _⟩
 have e1:((s.size:Int) == 0)=false:=beq_eq_false_iff_ne.2 (by omega)
 by_cases h1:s.size≤40
 rotate_left
 ·have hf:=Lh (Xic h1)
  have e2:decide (40<(s.size:Int))=true:=by simp;omega
  go_enter Tryz.func93,Tryz.ntmps93
  go_wp2_with fail
  go_ret
  exact ⟨by rw [hf.out];rfl,Below.refl _ _⟩
 have e2:decide (40<(s.size:Int))=false:=by simp;omega
 cases h2:Xo1 (s[0].toNat:Int) with
 | false=>
  have hf:=Lh (Xid h0 (of_decide_eq_false h2))
  have H2:=Lh h2
  clear h2
  go_enter Tryz.func93,Tryz.ntmps93
  go_wp2_with fail
  refine (Kj _ _).mono ?_
  rintro e w' ⟨rfl,rfl⟩
  rw [H2.out]
  go_wp2_with fail
  go_ret
  exact ⟨by rw [hf.out];rfl,Below.refl _ _⟩
 | true=>
  have H2:=Lh h2
  clear h2
  go_enter Tryz.func93,Tryz.ntmps93
  go_wp2_with fail
  refine (Kj _ _).mono ?_
  rintro e w' ⟨rfl,rfl⟩
  rw [H2.out]
  go_wp2_with fail
  go_loop [3] (fun i=>∃ k:Nat,k≤s.size∧i=.int .i64 k∧Hid (∀ j (hj:j<s.size),j<k→2≤Yc (s[j].toNat:Int))) (fun i=>s.size - (intOf i).toNat)
  case atStart=>exact ⟨0,Nat.zero_le _,rfl,fun j hj h=>by omega⟩
  case round=>
   obtain ⟨k,hk,rfl,hall⟩:=hrel
   by_cases hlt:k<s.size
   ·go_wp2_with fail
    refine (Xlq _ _).mono ?_
    rintro e w'' ⟨rfl,rfl⟩
    cases hc:Xcm (s[k].toNat:Int) with
    | false=>
     have hfin:=Lh (Xg7 k hlt (Xnt hc))
     clear hc
     go_wp2_with fail
     go_ret
     exact ⟨by rw [hfin.out];rfl,Below.refl _ _⟩
    | true=>
     have hall2:Hid (∀ j (hj:j<s.size),j<k+1→2≤Yc (s[j].toNat:Int)):=Lh (fun j hj h=>by
      by_cases e:j=k
      ·subst e;exact Xlk hc
      ·exact hall.out j hj (by omega))
     clear hc
     go_wp2_with fail
     go_round
     case rel=>exact ⟨k+1,by omega,by go_num,hall2⟩
     case measure=>simp [intOf];omega
   ·go_wp2_with fail
    refine (Xdk _ _).mono ?_
    rintro e w'' ⟨rfl,hb⟩
    cases h3:Xhk s with
    | true=>
     have hfin:=Lh (Xgm h3)
     clear h3
     go_wp2_with fail
     go_ret
     exact ⟨by rw [hfin.out];rfl,hb⟩
    | false=>
     have hfin:=Lh (Xgn h0 h1 (of_decide_eq_true H2.out) h3 (fun j hj=>hall.out j hj (by omega)))
     clear h3
     go_wp2_with fail
     go_ret
     exact ⟨by rw [hfin.out];rfl,hb⟩
def Xgk (a n:Int):Bool:=decide (0≤a∧a<n)
theorem Xjq (a n:Int) (w:World):Calls Tryz.prog 133 #[.int .i64 a,.int .i64 n] w fun e w'=>e=.returned (.bool (Xgk a n))∧w=w':=by
 go_enter Tryz.func133,Tryz.ntmps133
 go_wp2
 all_goals (go_ret;exact ⟨Za (by unfold Xgk;simp;try omega),rfl⟩)
theorem Uu {w:World} {A:Array Value} {T:TypeId} {o:Obj}:Xo ((w.alloc o).alloc (.cells A T)) (w.heap.size+1) A.toList:=by
 have:=@Xd (w.alloc o) A T
 simpa using this
theorem Xce {w:World} {A:Array Value} {T:TypeId} {o o2:Obj}:Xo (((w.alloc o).alloc o2).alloc (.cells A T)) (w.heap.size+1+1) A.toList:=by
 have:=@Xd ((w.alloc o).alloc o2) A T
 simpa using this
theorem Uo {c:Cod} {f:Fun} {x:Ins} {n:Int} (k:Int) (hk:x.op=k) (h1:1≤k∧k≤31) (hl:Jw c f k=some n):Xgk x.a n=Zq c f x:=by
 unfold Zq Xgk
 rw [if_neg (by omega),hk,hl]
theorem Xre {c:Cod} {f:Fun} {x:Ins} (hk:x.op=1):Zq c f x=decide (-1099511627776≤x.a∧x.a≤1099511627776):=by
 unfold Zq
 rw [if_neg (by omega),hk]
 rfl
theorem Xm7 {c:Cod} {f:Fun} {x:Ins} (h1:¬x.op=1) (h2:¬x.op=2) (h3:¬x.op=3) (h4:¬x.op=4) (h5:¬x.op=5) (h6:¬x.op=6) (h7:¬x.op=7) (h8:¬x.op=8) (h9:¬x.op=9) (h11:¬x.op=11) (h12:¬x.op=12):Zq c f x=decide (1≤x.op∧x.op≤31∧x.a=0):=by
 unfold Zq Jw
 rw [if_neg h2,if_neg h3,if_neg h4,if_neg h5,if_neg h6,if_neg h7,if_neg h8,if_neg h9,if_neg h11,if_neg h12,if_neg h1]
 by_cases h:x.op<1∨31<x.op
 ·rw [if_pos h];symm;rw [decide_eq_false_iff_not];omega
 ·rw [if_neg h]
  show decide (x.a=0)=_
  rw [Bool.eq_iff_iff];simp;omega
theorem Xls (c:Cod) (cv:Value) (f:Fun) (fv:Value) (x:Ins) (xv:Value) (B:Nat) (w:World) (hc:Yj B w cv c) (hf:J4 B w fv f) (hx:Xa3 B w xv x) :
  Calls Tryz.prog 94 #[cv,fv,xv] w fun e w'=>e=.returned (.bool (Zq c f x))∧Below w.heap.size w w':=by
 obtain ⟨fv,gv,rfl,hcf,hcg,hgl⟩:=hc
 obtain ⟨kv,rfl,hk,hn,hp,hlo⟩:=hf
 obtain ⟨rfl,hop,ha⟩:=hx
 obtain ⟨fa,fcap,rfl,hfl,-,-,-⟩:=hcf
 obtain ⟨ga,gcap,rfl,hgl2,hgl3,hgl4,hgE⟩:=hcg
 obtain ⟨ka,kcap,rfl,hkl,-,-,-⟩:=hk
 clear hgE
 unfold in64 at *
 obtain ⟨W,hW⟩:∃ W,W=(((w.alloc (.cells #[.slice fa c.fields.length fcap,.int .i64 c.globals,.slice ga c.funcs.length gcap] 25)).alloc (.cells #[.string f.name,.int .i64 f.params,.int .i64 f.locals,.bool f.result,.slice ka f.code.length kcap] 75)).alloc (.cells #[.int .i64 x.op,.int .i64 x.a] 100)):=⟨_,rfl⟩
 have HW:Hid (Below w.heap.size w W):=by rw [hW];exact Lh (((Xa _ _).then (Xa _ _)).then (Xa _ _))
 have k1:Xo W w.heap.size [.slice fa c.fields.length fcap,.int .i64 c.globals,.slice ga c.funcs.length gcap]:=by rw [hW];exact (Xd.alloc _).alloc _
 have k2:Xo W (w.heap.size+1) [.string f.name,.int .i64 f.params,.int .i64 f.locals,.bool f.result,.slice ka f.code.length kcap]:=by rw [hW];exact Uu.alloc _
 have k3:Xo W (w.heap.size+1+1) [.int .i64 x.op,.int .i64 x.a]:=by rw [hW];exact Xce
 have c0:=k1 0 _ rfl
 have c1:=k1 1 _ rfl
 have c2:=k1 2 _ rfl
 have f2:=k2 2 _ rfl
 have f4:=k2 4 _ rfl
 have x0:=k3 0 _ rfl
 have x1:=k3 1 _ rfl
 clear k1 k2 k3
 go_enter Tryz.func94,Tryz.ntmps94
 have HWE:=Lh hW
 clear hW
 go_wp2_with (rw [←HWE.out];go_at_call 133;refine (Xjq _ _ _).mono ?_;rintro e w' ⟨rfl,rfl⟩)
 all_goals
  go_ret
  refine ⟨Za ?_,by first|exact HW.out|(rw [HWE.out] at HW;exact HW.out)⟩
  clear HW HWE c0 c1 c2 f2 f4 x0 x1 hgl hn hp hlo hop ha hgl2 hgl3 hgl4 hfl hkl
  simp only [beq_iff_eq,beq_eq_false_iff_ne,decide_eq_true_eq,decide_eq_false_iff_not] at *
  first
   | (
    have h:x.op=1:=by assumption
    rw [Xre h,Bool.eq_iff_iff];simp;omega)
   | exact Uo 2 (by assumption) (by omega) rfl
   | exact Uo 3 (by assumption) (by omega) rfl
   | exact Uo 4 (by assumption) (by omega) rfl
   | exact Uo 5 (by assumption) (by omega) rfl
   | exact Uo 6 (by assumption) (by omega) rfl
   | exact Uo 7 (by assumption) (by omega) rfl
   | exact Uo 8 (by assumption) (by omega) rfl
   | exact Uo 9 (by assumption) (by omega) rfl
   | exact Uo 11 (by assumption) (by omega) rfl
   | exact Uo 12 (by assumption) (by omega) rfl
   | (rw [Xm7 (by assumption) (by assumption) (by assumption) (by assumption) (by assumption) (by assumption) (by assumption) (by assumption) (by assumption) (by assumption) (by assumption),Bool.eq_iff_iff];simp;omega)
theorem Xiu (c:Cod) (cv:Value) (B:Nat) (w:World) (hB:B≤w.heap.size) (hc:Yj B w cv c) :
  Calls Tryz.prog 68 #[cv] w (Xkn (Q4 c) w):=by
 have HC:=Lh hc
 obtain ⟨cfv,cgv,rfl,hcf,hcg,hg64⟩:=hc
 obtain ⟨fa,fc,rfl,hcl,-,-,-⟩:=hcf
 obtain ⟨ga,gc,rfl,hl1,hl2,hl3,hgE⟩:=hcg
 have HGE:=Lh hgE
 clear hgE hg64
 obtain ⟨W,hW⟩:∃ W,W=w.alloc (.cells #[.slice fa c.fields.length fc,.int .i64 c.globals,.slice ga c.funcs.length gc] 25):=⟨_,rfl⟩
 have HW:Hid (Below w.heap.size w W):=by rw [hW];exact Lh (Xa _ _)
 have HK:Hid (Xo W w.heap.size [.slice fa c.fields.length fc,.int .i64 c.globals,.slice ga c.funcs.length gc]):=by rw [hW];exact Lh Xd
 have HWE:=Lh hW
 clear hW
 go_enter Tryz.func68,Tryz.ntmps68
 go_wp2_with fail
 rw [←HWE.out]
 go_loopw [5] (fun i wr=>∃ k:Nat,k≤c.funcs.length∧i=.int .i64 k∧Hid (Below W.heap.size W wr∧∀ (j:Nat) x,j<k→c.funcs[j]?=some x→(x.code.any fun y=>!Zq c x y)=false)) (fun i _=>c.funcs.length - (intOf i).toNat)
 case atStart=>exact ⟨0,Nat.zero_le _,rfl,Lh ⟨Below.refl _ _,fun j x hj=>by omega⟩⟩
 case round=>
  obtain ⟨k,hk,rfl,hs⟩:=hrel
  obtain ⟨wo,rfl⟩:∃ wo:World,wo=wr:=⟨_,rfl⟩
  have HB:=Lh (HW.out.then hs.out.1)
  have HK1:=Lh (HK.out.keep hs.out.1)
  have q2:=HK1.out 2 _ rfl
  have zq:=Bl q2
  by_cases hlt:k<c.funcs.length
  ·obtain ⟨x,hx⟩:∃ x,c.funcs[k]?=some x:=⟨_,List.getElem?_eq_getElem hlt⟩
   rcases HGE.out with h|⟨b,o,rfl,hbB,hE⟩
   ·rw [h] at hx;simp at hx
   have hE1:=(hE k x hx).below (HB.out.mono hB) hbB
   have HE1:=Lh (hE k x hx)
   have HX:=Lh hx
   obtain ⟨g1,g2,g3,g4,⟨xv,g5,g6⟩,g7,g8,g9⟩:=hE1
   have H6:=Lh g6
   obtain ⟨xa,xcap,rfl,hxl,-,-,hxE⟩:=g6
   have HXE:=Lh hxE
   clear hE hx hxE g1 g2 g3 g4 g7 g8 g9
   go_wp2_with fail
   clear q2 zq g5
   go_loopw [6] (fun i wr=>∃ p:Nat,p≤x.code.length∧i=.int .i64 p∧Hid (Below wo.heap.size wo wr∧∀ (j:Nat) y,j<p→x.code[j]?=some y→Zq c x y=true)) (fun i _=>x.code.length - (intOf i).toNat)
   case atStart=>exact ⟨0,Nat.zero_le _,rfl,Lh ⟨Below.refl _ _,fun j x hj=>by omega⟩⟩
   case round=>
    obtain ⟨p,hp,rfl,hs2⟩:=hrel
    have HB2:=Lh (HB.out.then hs2.out.1)
    have HK2:=Lh (HK1.out.keep hs2.out.1)
    obtain ⟨g1,g2,g3,g4,⟨xv,g5,g6⟩,g7,g8,g9⟩:=HE1.out.below (HB2.out.mono hB) hbB
    have g66:=g6
    obtain ⟨xa',xcap',rfl,-⟩:=g66
    have q0:=HK2.out 0 _ rfl
    have q1:=HK2.out 1 _ rfl
    have q2:=HK2.out 2 _ rfl
    have zq:=Bl q2
    have zg:=Bl g5
    by_cases hlp:p<x.code.length
    ·obtain ⟨y,hy⟩:∃ y,x.code[p]?=some y:=⟨_,List.getElem?_eq_getElem hlp⟩
     have HFV:Hid (J4 B wr.drew (.agg #[.string x.name,.int .i64 x.params,.int .i64 x.locals,.bool x.result,.slice xa' x.code.length xcap']) x):=Lh ⟨_,rfl,g6.inss (Xh (Below.refl _ _) 1),g7,g8,g9⟩
     obtain ⟨xa2,xcap2,he,-,-,-,hyE⟩:=g6
     cases he
     rcases hyE with h|⟨yb,yo,rfl,hybB,hyE⟩
     ·rw [h] at hy;simp at hy
     obtain ⟨y1,y2,y3,y4⟩:=hyE p y hy
     have HY:=Lh hy
     have zy:=Bl y1
     have HCV:Hid (Yj B wr.drew (.agg #[.slice fa c.fields.length fc,.int .i64 c.globals,.slice (some ⟨b,o,none⟩) c.funcs.length gc]) c):=Lh (HC.out.below ((Xh HB2.out 1).mono hB))
     have hB2:B≤wr.drew.heap.size:=Nat.le_trans hB HB2.out.size
     have HIV:Hid (Xa3 B wr.drew (.agg #[.int .i64 y.op,.int .i64 y.a]) y):=Lh ⟨rfl,y3,y4⟩
     have hk0:(0:Int)≤(k:Int):=Int.natCast_nonneg _
     have hk1:(k:Int)<(c.funcs.length:Int):=by omega
     have hp0:(0:Int)≤(p:Int):=Int.natCast_nonneg _
     have hp1:(p:Int)<(x.code.length:Int):=by omega
     clear hy hyE y3 y4 g7 g8 g9
     go_wp2_with fail
     go_upto_region 7 with fail
     go_region_held3 (fun V=>V.cell? ⟨w.heap.size,0,none⟩=some (.slice fa c.fields.length fc)∧V.cell? ⟨w.heap.size,1,none⟩=some (.int .i64 c.globals)∧V.cell? ⟨w.heap.size,2,none⟩=some (.slice (some ⟨b,o,none⟩) c.funcs.length gc)∧V.cell? ⟨b,o+k*5,none⟩=some (.string x.name)∧V.cell? ⟨b,o+k*5+1,none⟩=some (.int .i64 x.params)∧V.cell? ⟨b,o+k*5+2,none⟩=some (.int .i64 x.locals)∧V.cell? ⟨b,o+k*5+3,none⟩=some (.bool x.result)∧V.cell? ⟨b,o+k*5+4,none⟩=some (.slice (some ⟨yb,yo,none⟩) x.code.length xcap')∧V.cell? ⟨yb,yo+p*2,none⟩=some (.int .i64 y.op)∧V.cell? ⟨yb,yo+p*2+1,none⟩=some (.int .i64 y.a))
      (first|exact ⟨q0,q1,q2,g1,g2,g3,g4,g5,y1,y2⟩|exact ⟨Xc hb3 q0,Xc hb3 q1,Xc hb3 q2,Xc hb3 g1,Xc hb3 g2,Xc hb3 g3,Xc hb3 g4,Xc hb3 g5,Xc hb3 y1,Xc hb3 y2⟩)
      (first|(go_at_call 94;refine (Xls c _ x _ y _ B _ HCV.out HFV.out HIV.out).mono ?_;rintro e w3 ⟨rfl,hb3⟩))
     have HB3:=Lh ((Xh HB2.out 1).then hb3)
     have HB3o:=Lh ((Xh hs2.out.1 1).then hb3)
     clear hb3
     cases hok:Zq c x y with
     | false=>
      have hf:Hid (Q4 c=true):=Lh (Xet HX.out (List.any_eq_true.2 ⟨y,List.mem_of_getElem? HY.out,by rw [hok];rfl⟩))
      clear hok
      go_wp2_with fail
      go_ret3
      exact ⟨_,_,by rw [hf.out];rfl,HB3.out⟩
     | true=>
      have hn:Hid (∀ (j:Nat) z,j<p+1→x.code[j]?=some z→Zq c x z=true):=Lh (fun j z hj hz=>by
       by_cases e:j=p
       ·subst e;rw [HY.out] at hz;cases hz;exact hok
       ·exact hs2.out.2 j z (by omega) hz)
      clear hok
      go_wp2_with fail
      go_roundw
      case rel=>exact ⟨p+1,by omega,by go_num,Lh ⟨HB3o.out,hn.out⟩⟩
      case measure=>simp [intOf];omega
    ·have hn:Hid (∀ (j:Nat) z,j<k+1→c.funcs[j]?=some z→(z.code.any fun y=>!Zq c z y)=false):=Lh (fun j z hj hz=>by
      by_cases e:j=k
      ·subst e;rw [HX.out] at hz;cases hz
       rw [List.any_eq_false]
       intro y hy
       obtain ⟨t,ht,rfl⟩:=List.getElem_of_mem hy
       rw [hs2.out.2 t _ (by omega) (List.getElem?_eq_getElem ht)]
       simp
      ·exact hs.out.2 j z (by omega) hz)
     have HBo:=Lh (hs.out.1.then hs2.out.1)
     clear g6 g1 g2 g3 g4 g7 g8 g9
     go_wp2_with fail
     go_roundw
     case rel=>exact ⟨k+1,by omega,by go_num,Lh ⟨HBo.out,hn.out⟩⟩
     case measure=>simp [intOf];omega
  ·have hf:Hid (Q4 c=false):=Lh (Xcr (fun j x _ hx=>hs.out.2 j x (by have:=(Ll hx);omega) hx))
   go_wp2_with fail
   go_ret3
   exact ⟨_,_,by rw [hf.out];rfl,HB.out⟩
theorem Xl3 (c:Cod) (cv:Value) (B:Nat) (w:World) (hB:B≤w.heap.size) (hc:Yj B w cv c) :
  Calls Tryz.prog 67 #[cv] w fun e w'=>e=.returned (.bool (U7 c))∧Below w.heap.size w w':=by
 obtain ⟨cfv,cgv,rfl,hcf,hcg,hg64⟩:=hc
 obtain ⟨fa,fc,rfl,hcl,-,-,hfE⟩:=hcf
 obtain ⟨ga,gc,rfl,hl1,hl2,hl3,hgE⟩:=hcg
 have HFE:=Lh hfE
 have HGE:=Lh hgE
 clear hgE hfE
 unfold in64 at hg64
 obtain ⟨W,hW⟩:∃ W,W=w.alloc (.cells #[.slice fa c.fields.length fc,.int .i64 c.globals,.slice ga c.funcs.length gc] 25):=⟨_,rfl⟩
 have HW:Hid (Below w.heap.size w W):=by rw [hW];exact Lh (Xa _ _)
 have HK:Hid (Xo W w.heap.size [.slice fa c.fields.length fc,.int .i64 c.globals,.slice ga c.funcs.length gc]):=by rw [hW];exact Lh Xd
 have HWE:=Lh hW
 clear hW
 by_cases h1:c.fields.length≤12
 rotate_left
 ·have hf:=Lh (Zc (c:=c) (fun h=>h1 h.1))
  have e1:decide (12<(c.fields.length:Int))=true:=by simp;omega
  go_enter Tryz.func67,Tryz.ntmps67
  go_wp2_with fail
  rw [←HWE.out]
  go_ret
  exact ⟨by rw [hf.out];rfl,HW.out⟩
 have e1:decide (12<(c.fields.length:Int))=false:=by simp;omega
 by_cases h2:0≤c.globals
 rotate_left
 ·have hf:=Lh (Zc (c:=c) (fun h=>h2 h.2.2.1))
  have e2:decide (c.globals<0)=true:=by simp;omega
  go_enter Tryz.func67,Tryz.ntmps67
  go_wp2_with fail
  rw [←HWE.out]
  go_ret
  exact ⟨by rw [hf.out];rfl,HW.out⟩
 have e2:decide (c.globals<0)=false:=by simp;omega
 by_cases h3:c.globals≤8
 rotate_left
 ·have hf:=Lh (Zc (c:=c) (fun h=>h3 h.2.2.2.1))
  have e3:decide (8<c.globals)=true:=by simp;omega
  go_enter Tryz.func67,Tryz.ntmps67
  go_wp2_with fail
  rw [←HWE.out]
  go_ret
  exact ⟨by rw [hf.out];rfl,HW.out⟩
 have e3:decide (8<c.globals)=false:=by simp;omega
 by_cases h4:c.funcs.length≤40
 rotate_left
 ·have hf:=Lh (Zc (c:=c) (fun h=>h4 h.2.2.2.2.1))
  have e4:decide (40<(c.funcs.length:Int))=true:=by simp;omega
  go_enter Tryz.func67,Tryz.ntmps67
  go_wp2_with fail
  rw [←HWE.out]
  go_ret
  exact ⟨by rw [hf.out];rfl,HW.out⟩
 have e4:decide (40<(c.funcs.length:Int))=false:=by simp;omega
 go_enter Tryz.func67,Tryz.ntmps67
 go_wp2_with fail
 rw [←HWE.out]
 clear e1 e2 e3 e4
 have q0:=HK.out 0 _ rfl
 have zq:=Bl q0
 go_loop [3] (fun i=>∃ k:Nat,k≤c.fields.length∧i=.int .i64 k∧Hid (∀ (j:Nat) n,j<k→c.fields[j]?=some n→¬(n<0∨12<n))) (fun i=>c.fields.length - (intOf i).toNat)
 case atStart=>exact ⟨0,Nat.zero_le _,rfl,fun j n hj=>by omega⟩
 case round=>
  obtain ⟨k,hk,rfl,hall⟩:=hrel
  by_cases hlt:k<c.fields.length
  ·obtain ⟨n,hn⟩:∃ n,c.fields[k]?=some n:=⟨_,List.getElem?_eq_getElem hlt⟩
   rcases HFE.out with h|⟨b,o,rfl,hbB,hE⟩
   ·rw [h] at hn;simp at hn
   obtain ⟨c1,c2⟩:=(hE k n hn).below (HW.out.mono hB) hbB
   unfold in64 at c2
   rw [Nat.mul_one] at c1
   have HN:=Lh hn
   clear hn hE
   by_cases hbad:n<0∨12<n
   ·have hf:=Lh (Zc (c:=c) (fun h=>by
     have:=List.any_eq_false.1 h.2.1 n (List.mem_of_getElem? HN.out)
     exact this (decide_eq_true hbad)))
    rcases hbad with hbad|hbad
    all_goals
     go_wp2_with fail
     go_ret
     exact ⟨by rw [hf.out];rfl,HW.out⟩
   ·have hnew:Hid (∀ (j:Nat) n,j<k+1→c.fields[j]?=some n→¬(n<0∨12<n)):=Lh (fun j m hj hm=>by
     by_cases e:j=k
     ·subst e;rw [HN.out] at hm;cases hm;exact hbad
     ·exact hall.out j m (by omega) hm)
    have d1:decide (n<0)=false:=by simp;omega
    have d2:decide (12<n)=false:=by simp;omega
    clear hbad
    go_wp2_with fail
    go_round
    case rel=>exact ⟨k+1,by omega,by go_num,hnew⟩
    case measure=>simp [intOf];omega
  ·have hfs:Hid (c.fields.any (fun n=>decide (n<0∨12<n))=false):=Lh (by
    rw [List.any_eq_false]
    intro n hn
    obtain ⟨j,hj,rfl⟩:=List.getElem_of_mem hn
    have:=hall.out j _ (by omega) (List.getElem?_eq_getElem hj)
    simp;omega)
   clear hall
   go_wp2_with fail
   clear q0 zq
   go_loopw [4] (fun i wr=>∃ k:Nat,k≤c.funcs.length∧i=.int .i64 k∧Hid (Below W.heap.size W wr∧∀ (j:Nat) x,j<k→c.funcs[j]?=some x→Xbh c j x)) (fun i _=>c.funcs.length - (intOf i).toNat)
   case atStart=>exact ⟨0,Nat.zero_le _,rfl,Lh ⟨Below.refl _ _,fun j x hj=>by omega⟩⟩
   case round=>
    obtain ⟨k,hk,rfl,hs⟩:=hrel
    obtain ⟨wo,rfl⟩:∃ wo:World,wo=wr:=⟨_,rfl⟩
    have HB:=Lh (HW.out.then hs.out.1)
    have HK1:=Lh (HK.out.keep hs.out.1)
    have q2:=HK1.out 2 _ rfl
    have zq:=Bl q2
    by_cases hlt:k<c.funcs.length
    ·obtain ⟨x,hx⟩:∃ x,c.funcs[k]?=some x:=⟨_,List.getElem?_eq_getElem hlt⟩
     rcases HGE.out with h|⟨b,o,rfl,hbB,hE⟩
     ·rw [h] at hx;simp at hx
     have hE1:=(hE k x hx).below (HB.out.mono hB) hbB
     have HE:=Lh hE
     have HX:=Lh hx
     obtain ⟨g1,g2,g3,g4,⟨xv,g5,g6⟩,g7,g8,g9⟩:=hE1
     obtain ⟨xa,xcap,rfl,hxl,-,-,-⟩:=g6
     unfold in64 at g8 g9
     obtain ⟨W1,hW1⟩:∃ V,V=wo.alloc (.cells #[.string x.name,.int .i64 x.params,.int .i64 x.locals,.bool x.result,.slice xa x.code.length xcap] 75):=⟨_,rfl⟩
     have HB1:Hid (Below wo.heap.size wo W1):=by rw [hW1];exact Lh (Xa _ _)
     have HF1:Hid (Xo W1 wo.heap.size [.string x.name,.int .i64 x.params,.int .i64 x.locals,.bool x.result,.slice xa x.code.length xcap]):=by rw [hW1];exact Lh Xd
     have HW1:=Lh hW1
     clear hE hx hW1
     go_wp2_with fail
     rw [←HW1.out]
     refine (Xhu _ _ g7).mono ?_
     rintro e w2 ⟨rfl,hb2⟩
     have HB2:=Lh (HB1.out.then hb2)
     have HBw:=Lh (HB.out.then HB2.out)
     have HF2:=Lh (HF1.out.keep hb2)
     have r0:=HF2.out 0 _ rfl
     have r1:=HF2.out 1 _ rfl
     have r2:=HF2.out 2 _ rfl
     have r4:=HF2.out 4 _ rfl
     have zr:=Bl r0
     have q2:=Xc HB2.out q2
     have zq:=Bl q2
     clear g1 g2 g3 g4 g5 hb2
     cases hn:Uz x.name with
     | false=>
      have hf:=Lh (Zc (c:=c) (fun h=>by rw [(h.2.2.2.2.2 k x HX.out).1] at hn;cases hn))
      clear hn
      go_wp2_with fail
      go_ret
      exact ⟨by rw [hf.out];rfl,HBw.out⟩
     | true=>
      have HN:=Lh hn
      clear hn
      by_cases hok:Zr x
      ·have HOK:=Lh hok
       obtain ⟨o1,o2,o3,o4,o5,o6⟩:=hok
       have d1:decide (x.params<0)=false:=by simp;omega
       have d2:decide (6<x.params)=false:=by simp;omega
       have d3:decide (x.locals<x.params)=false:=by simp;omega
       have d4:decide (100<x.locals)=false:=by simp;omega
       have d5:((x.code.length:Int) == 0)=false:=beq_eq_false_iff_ne.2 (by omega)
       have d6:decide (1048576<(x.code.length:Int))=false:=by simp;omega
       go_wp2_with fail
       clear d1 d2 d3 d4 d5 d6 r0 r1 r2 r4 zr q2 zq o1 o2 o3 o4 o5 o6
       go_loopw [6] (fun i wr=>∃ p:Nat,p≤k∧i=.int .i64 p∧Hid (Below w2.heap.size w2 wr∧∀ (j:Nat) y,j<p→c.funcs[j]?=some y→Zt y.name x.name=false)) (fun i _=>k - (intOf i).toNat)
       case atStart=>exact ⟨0,Nat.zero_le _,rfl,Lh ⟨Below.refl _ _,fun j x hj=>by omega⟩⟩
       case round=>
        obtain ⟨p,hp,rfl,hs2⟩:=hrel
        have HB3:=Lh (HBw.out.then hs2.out.1)
        have HB3o:=Lh (HB2.out.then hs2.out.1)
        by_cases hlp:p<k
        ·obtain ⟨y,hy⟩:∃ y,c.funcs[p]?=some y:=⟨_,List.getElem?_eq_getElem (by omega)⟩
         have t1:=((HE.out p y hy).below (HB3.out.mono hB) hbB).1
         have t2:=(HK1.out.keep HB3o.out) 2 _ rfl
         have t3:=(HF2.out.keep hs2.out.1) 0 _ rfl
         have HY:=Lh hy
         have hp0:(0:Int)≤(p:Int):=Int.natCast_nonneg _
         have hp1:(p:Int)<(c.funcs.length:Int):=by omega
         clear hy
         cases hq:Zt y.name x.name with
         | true=>
          have hf:=Lh (Zc (c:=c) (fun h=>by
           have:=List.any_eq_false.1 (h.2.2.2.2.2 k x HX.out).2.2 y (List.mem_of_getElem? (i:=p) (by rw [List.getElem?_take];simp [hlp,HY.out]))
           exact this hq))
          have e1:(y.name.toList == x.name.toList)=true:=hq
          clear hq
          go_wp2_with fail
          go_quiet (fail)
          go_wp2_with fail
          go_ret
          exact ⟨by rw [hf.out];rfl,Xh HB3.out _⟩
         | false=>
          have hn:Hid (∀ (j:Nat) y,j<p+1→c.funcs[j]?=some y→Zt y.name x.name=false):=Lh (fun j z hj hz=>by
           by_cases e:j=p
           ·subst e;rw [HY.out] at hz;cases hz;exact hq
           ·exact hs2.out.2 j z (by omega) hz)
          have e1:(y.name.toList == x.name.toList)=false:=hq
          clear hq
          go_wp2_with fail
          go_quiet (fail)
          go_wp2_with fail
          go_roundw
          case rel=>exact ⟨p+1,by omega,by go_num,Lh ⟨Xh hs2.out.1 _,hn.out⟩⟩
          case measure=>simp [intOf];omega
        ·have hn:Hid (∀ (j:Nat) y,j<k+1→c.funcs[j]?=some y→Xbh c j y):=Lh (fun j z hj hz=>by
          by_cases e:j=k
          ·subst e;rw [HX.out] at hz;cases hz
           refine ⟨HN.out,HOK.out,?_⟩
           rw [List.any_eq_false]
           intro y hy
           obtain ⟨t,ht,rfl⟩:=List.getElem_of_mem hy
           rw [List.length_take] at ht
           rw [List.getElem_take,hs2.out.2 t _ (by omega) (List.getElem?_eq_getElem (by omega))]
           simp
          ·exact hs.out.2 j z (by omega) hz)
         have HBo:=Lh (hs.out.1.then HB3o.out)
         go_wp2_with fail
         go_roundw
         case rel=>exact ⟨k+1,by omega,by go_num,Lh ⟨HBo.out,hn.out⟩⟩
         case measure=>simp [intOf];omega
      ·have hno2:=Lh (Zc (c:=c) (fun h=>hok (h.2.2.2.2.2 k x HX.out).2.1))
       unfold Zr at hok
       go_wp2_with fail
       all_goals first
        | (exfalso;apply hok;simp only [beq_iff_eq,beq_eq_false_iff_ne,decide_eq_true_eq,decide_eq_false_iff_not] at *;omega)
        | (go_ret;exact ⟨by rw [hno2.out];rfl,HBw.out⟩)
    ·have hf:=Lh (K6 (c:=c) ⟨h1,hfs.out,h2,h3,h4,fun i x hx=>hs.out.2 i x (by have:=(Ll hx);omega) hx⟩)
     go_wp2_with fail
     go_ret
     exact ⟨by rw [hf.out];rfl,HB.out⟩
end Go.Proofs.YtbmeoklmachjpaaGreatDoor
