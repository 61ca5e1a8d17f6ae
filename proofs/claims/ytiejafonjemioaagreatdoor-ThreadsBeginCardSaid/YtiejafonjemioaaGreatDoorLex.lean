import Derived.Test.YtiejafonjemioaaGreatDoorSlFunc
import Derived.Test.YtiejafonjemioaaGreatDoorShelf
import Derived.Shelf.Spec.TrailingZeros
set_option maxHeartbeats 800000
set_option maxRecDepth 100000
set_option linter.unusedVariables false
set_option linter.unusedSimpArgs false
open Go.Value renaming slice→σ
open Go.Obj renaming cells→χ
namespace Go.Proofs.YtiejafonjemioaaGreatDoor
open Go.RowKit
variable {a s:ByteArray} {w w':World}
def Xfp (w:World) (b o:Nat) (s:ByteArray):Prop:=w.cell? (π b o)=some (.string s)
def Ze (a b:ByteArray):Bool:=Op.bytesLess a.toList b.toList
theorem Xg3 (a b:ByteArray) (w:World) :
  Calls Tryz.prog 219 #[.string a,.string b] w fun e w'=>e=.returned (.bool (Ze a b))/\w=w':=by
 go_enter Tryz.func219,Tryz.ntmps219
 go_wp2
 go_ret
 exact ⟨rfl,rfl⟩
theorem Xlw (a:ByteArray) (w:World) :
  Calls Tryz.prog 220 #[.string a] w fun e w'=>e=.returned (.bool false)/\w=w':=by
 go_enter Tryz.func220,Tryz.ntmps220
 go_wp2
 go_ret
 exact ⟨ψ,rfl⟩
def Yc (c:Int):Int:=
 if c=32\/c=9\/c=13\/c=10 then 1
 else if 97<=c/\c<=122\/65<=c/\c<=90 then 2
 else if 48<=c/\c<=57 then 3
 else if c=95 then 4 else 0
theorem Xal (c:Int) (w:World) :
  Calls Tryz.prog 175 #[.int .u8 c] w fun e w'=>e=.returned (ι (Yc c))/\w=w':=by
 go_enter Tryz.func175,Tryz.ntmps175
 go_wp2
 all_goals
  go_ret
  refine ⟨Qd ?_,rfl⟩
  simp only [beq_iff_eq,beq_eq_false_iff_ne] at *
  unfold Yc
  first|rw [if_pos ω]|(rw [if_neg ω];first|rw [if_pos ω]|(rw [if_neg ω];first|rw [if_pos ω]|(rw [if_neg ω];first|rw [if_pos ω]|rw [if_neg ω])))
theorem Vn:∀ {a b c:List UInt8},Op.bytesLess a b=true->Op.bytesLess b c=true->Op.bytesLess a c=true
 | [],[],_,h,_=>by simp [Op.bytesLess] at h
 | [],_::_,[],_,h=>by simp [Op.bytesLess] at h
 | [],_::_,_::_,_,_=>by simp [Op.bytesLess]
 | _::_,[],_,h,_=>by simp [Op.bytesLess] at h
 | _::_,_::_,[],_,h=>by simp [Op.bytesLess] at h
 | x::a,y::b,z::c,h,k=>by
  simp only [Op.bytesLess,Bool.or_eq_true,Bool.and_eq_true,decide_eq_true_eq,beq_iff_eq] at *
  rcases h with h|⟨rfl,h⟩
  ·rcases k with k|⟨rfl,k⟩
   ·exact .inl (UInt8.lt_trans h k)
   ·exact .inl h
  ·rcases k with k|⟨rfl,k⟩
   ·exact .inl k
   ·exact .inr ⟨rfl,Vn h k⟩
theorem Ut:∀ (a:List UInt8),Op.bytesLess a a=false
 | []=>rfl
 | x::a=>by simp [Op.bytesLess,Ut a]
theorem Xax {b c:ByteArray} (h:Ze a b=true) (k:Ze b c=true):Ze a c=true:=Vn h k
theorem Xd0 (a:ByteArray):Ze a a=false:=Ut _
def Xf5 (ss:List ByteArray):Prop:=∀ (i j:Nat) a b,i<j->ss[i]?=some a->ss[j]?=some b->Ze a b=true
def Zt (a b:ByteArray):Bool:=a.toList == b.toList
def Q9 (ss:List ByteArray) (s:ByteArray):Bool:=ss.any fun a=>Zt a s
theorem Xdx (h:Zt a s=true):Ze a s=Ze s s/\∀ b,Ze b a=Ze b s:=by
 unfold Zt at h;simp at h;unfold Ze;rw [h];exact ⟨rfl,fun _=>rfl⟩
theorem Xk1 {ss:List ByteArray} {lo:Nat} (hasc:Xf5 ss) (hirr:Ze s s=false) (hl:∀ t a,t<lo->ss[t]?=some a->Ze a s=true) (hh:∀ t a,lo<=t->ss[t]?=some a->Ze a s=false) :
  Q9 ss s=match ss[lo]? with|some a=>Zt a s|none=>false:=by
 rw [Bool.eq_iff_iff]
 constructor
 ·intro h
  unfold Q9 at h
  rw [List.any_eq_true] at h
  obtain ⟨x,hx,he⟩:=h
  obtain ⟨k,hk,rfl⟩:=List.getElem_of_mem hx
  have aA:=Lg hk
  by_cases h1:k<lo
  ·have:=hl k _ h1 aA
   rw [(Xdx he).1,hirr] at this
   cases this
  ·by_cases h2:k=lo
   ·subst h2;rw [aA];exact he
   ·have h3:lo<ss.length:=ω
    have:=hasc lo k _ _ ω (Lg h3) aA
    rw [(Xdx he).2,hh lo _ (Nr _) (Lg h3)] at this
    cases this
 ·intro h
  cases hx:ss[lo]? with
  | none=>rw [hx] at h;cases h
  | some a=>
   rw [hx] at h
   exact List.any_eq_true.2 ⟨a,Lm hx,h⟩
def Xo9 (b:Bool) (w:World) (e:Ending) (w':World):Prop:=∃ i:Int,e=.returned (.tuple #[ι i,.bool b])/\w=w'
theorem Xbx (ss:List ByteArray) (s:ByteArray) (v:Value) (B:Nat) (w:World) (hv:Xf B w 1 Xfp v ss) (hasc:Xf5 ss) (hirr:Ze s s=false) :
  Calls Tryz.prog 207 #[v,.string s] w (Xo9 (Q9 ss s) w):=by
 obtain ⟨a,cap,rfl,hl,aH,aI,hv⟩:=hv
 have HV:=Lh hv
 have HA:=Lh hasc
 have HI:=Lh hirr
 clear hv hasc hirr
 go_enter Tryz.func207,Tryz.ntmps207
 go_wp2
 go_loop [7,8] (fun i j=>∃ lo hi:Nat,lo<=hi/\hi<=ss.length/\i=ι lo/\j=ι hi/\Hid (∀ t a,t<lo->ss[t]?=some a->Ze a s=true)/\Hid (∀ t a,hi<=t->ss[t]?=some a->Ze a s=false)) (fun i j=>(intOf j).toNat - (intOf i).toNat)
 case atStart=>exact ⟨0,ss.length,Nat.zero_le _,Nr _,rfl,rfl,fun t a h=>by omega,fun t a h h2=>by rw [List.getElem?_eq_none h] at h2;cases h2⟩
 case round=>
  obtain ⟨lo,hi,h1,h2,rfl,rfl,aF,aE⟩:=hrel
  by_cases aJ:lo<hi
  ·have hm:(lo+hi) / 2<ss.length:=ω
   obtain ⟨x,hx⟩:∃ x,ss[(lo+hi) / 2]?=some x:=⟨_,Lg hm⟩
   rcases HV.o with h|⟨b,o,rfl,aG,hE⟩
   ·subst h;simp at hx
   have hE:=hE _ x hx
   unfold Xfp at hE
   rw [Nat.mul_one] at hE
   have HX:=Lh hx
   clear hx
   go_wp2_with fail
   refine (Xg3 _ _ _).mono ?_
   rintro e w' ⟨rfl,rfl⟩
   cases hp:Ze x s with
   | true=>
    have aC:Hid (∀ t a,t<(lo+hi) / 2+1->ss[t]?=some a->Ze a s=true):=by
     intro t y ht hy
     by_cases aD:t=(lo+hi) / 2
     ·subst aD;have:=HX.o.symm.trans hy;simp at this;rw [<-this];exact hp
     ·exact Xax (HA.o _ _ _ _ ω hy HX.o) hp
    clear hp
    go_wp2
    go_round
    case rel=>exact ⟨(lo+hi) / 2+1,hi,ω,ω,by go_num,rfl,aC,aE⟩
    case measure=>simp [intOf];omega
   | false=>
    have aC:Hid (∀ t a,(lo+hi) / 2<=t->ss[t]?=some a->Ze a s=false):=by
     intro t y ht hy
     by_cases aD:t=(lo+hi) / 2
     ·subst aD;have:=HX.o.symm.trans hy;simp at this;rw [<-this];exact hp
     ·cases hc:Ze y s with
      | false=>rfl
      | true=>rw [Xax (HA.o _ _ _ _ ω HX.o hy) hc] at hp;cases hp
    clear hp
    go_wp2
    go_round
    case rel=>exact ⟨lo,(lo+hi) / 2,ω,ω,rfl,by go_num,aF,aC⟩
    case measure=>simp [intOf];omega
  ·obtain rfl:lo=hi:=ω
   have aA:=Lh (Xk1 HA.o HI.o aF aE)
   by_cases hm:lo<ss.length
   ·obtain ⟨x,hx⟩:∃ x,ss[lo]?=some x:=⟨_,Lg hm⟩
    rcases HV.o with h|⟨b,o,rfl,aG,hE⟩
    ·subst h;simp at hx
    have hE:=hE _ x hx
    unfold Xfp at hE
    rw [Nat.mul_one] at hE
    have aB:Hid (Q9 ss s=Zt x s):=by rw [aA.o,hx];rfl
    clear hx aA
    cases he:(x.toList == s.toList)
    ·have aB:Hid (Q9 ss s=false):=by rw [aB.o];exact he
     go_wp2_with (go_at_call 220;refine (Xlw _ _).mono ?_;rintro e w' ⟨rfl,rfl⟩)
     go_ret2
     exact ⟨_,by rw [aB.o];rfl,rfl⟩
    ·have aB:Hid (Q9 ss s=true):=by rw [aB.o];exact he
     go_wp2
     go_ret2
     exact ⟨_,by rw [aB.o];rfl,rfl⟩
   ·have aB:Hid (Q9 ss s=false):=by rw [aA.o,List.getElem?_eq_none ω];rfl
    clear aA
    go_wp2
    go_ret2
    exact ⟨_,by rw [aB.o];rfl,rfl⟩
def Xf9:List UInt8:=[97,110,100,32,98,111,111,108,32,98,111,117,110,100,32,100,101,115,99,32,101,108,115,101,32,102,97,108,115,101,32,105,102,32,105,110,116,32,105,110,118,97,114,105,97,110,116,32,108,111,99,97,108,32,108,111,103,32,109,97,120,32,109,101,97,115,117,114,101,32,109,105,110,32,110,101,119,32,110,105,108,32,110,111,116,32,111,112,32,111,114,32,112,111,116,101,110,116,105,97,108,32,112,114,111,99,32,114,101,116,117,114,110,32,114,117,108,101,32,115,99,114,105,112,116,32,115,111,114,116,32,115,112,101,99,32,116,104,105,115,32,116,114,117,101,32,116,121,112,101,32,118,97,114,32,119,104,105,108,101]
def Um:List (List UInt8):=Lib.fields Xf9
theorem Xfk:∀ (j:Nat) (b:UInt8),Xf9[j]?=some b->b.toNat<128:=by
 intro j b h
 have h1:∀ b∈Xf9,b.toNat<128:=by decide +kernel
 exact h1 b (Lm h)
def Jj:List ByteArray:=Um.map fun l=>⟨l.toArray⟩
structure Qa (w:World):Prop where
 space:Lib.TabIs Tryz.prog w "strings.asciiSpace" .u8 Lib.asciiSpaceTab
 tz:TabAt 0 Lib.deBruijn64tab w
theorem Xl8 {n:String} {k:IntKind} {zs:List Int} (h:Lib.TabIs Tryz.prog w n k zs) (hb:Below w.heap.size w w'):Lib.TabIs Tryz.prog w' n k zs:=by
 unfold Lib.TabIs World.var? at *
 cases hg:Tryz.prog.globalNamed n with
 | none=>rw [hg] at h;cases h
 | some g=>
  rw [hg] at h
  simp only [Option.bind_some] at h ⊢
  cases ho:w.heap[g]? with
  | none=>rw [ho] at h;cases h
  | some o=>rw [hb.block g (La ho)];exact h
theorem Qa.below (h:Qa w) (hb:Below w.heap.size w w'):Qa w':=⟨Xl8 h.space hb,fun j hj=>Xc hb (h.tz j hj)⟩
theorem Xfy (w:World) (hL:Qa w) :
  Calls Tryz.prog 208 #[] w fun e w'=>e=.returned (σ (some (π w.heap.size 0)) Jj.length Jj.length)/\w'=w.alloc (χ (Jj.map .string).toArray 9):=by
 have HL:=Lh hL
 clear hL
 go_enter Tryz.func208,Tryz.ntmps208
 go_wp2_with fail
 refine (Tryz.strings_Fields_laid ⟨Xf9.toArray⟩ _ δ (fun j b h=>Xfk j b h) HL.o.space).mono ?_
 rintro e w' ⟨rfl,rfl⟩
 go_wp2
 go_ret
 exact ⟨by simp [Jj,Um],by simp [Jj,Um];rfl⟩
theorem Xja:Xf5 Jj:=by
 have h:∀ i,i<32->∀ j,j<32->i<j->(match Um[i]?,Um[j]? with|some a,some b=>Op.bytesLess a b|_,_=>true)=true:=by decide +kernel
 have hl:Um.length=31:=by decide +kernel
 intro i j a b aC ha hb
 unfold Jj at ha hb
 rw [List.getElem?_map] at ha hb
 cases aA:Um[i]? with
 | none=>rw [aA] at ha;cases ha
 | some x=>
  cases aB:Um[j]? with
  | none=>rw [aB] at hb;cases hb
  | some y=>
   rw [aA] at ha
   rw [aB] at hb
   simp at ha hb
   subst ha hb
   have h1:i<Um.length:=(Ll aA)
   have h2:j<Um.length:=(Ll aB)
   have:=h i ω j ω aC
   rw [aA,aB] at this
   unfold Ze
   rw [ByteArray.toList_eq,ByteArray.toList_eq]
   simpa using this
def Xhk (s:ByteArray):Bool:=Q9 Jj s
theorem Xar (s:ByteArray) (w:World) (hL:Qa w) :
  Calls Tryz.prog 176 #[.string s] w fun e w'=>e=.returned (.bool (Xhk s))/\Below w.heap.size w w':=by
 have HL:=Lh hL
 clear hL
 have hS:∀ W:World,Xf (W.heap.size+1) (W.alloc (χ (Jj.map .string).toArray 9)) 1 Xfp (σ (some (π W.heap.size 0)) Jj.length Jj.length) Jj:=by
  intro W
  refine ⟨_,_,rfl,by decide +kernel,Nr _,by decide +kernel,.inr ⟨_,_,rfl,ω,fun i x hx=>?_⟩⟩
  unfold Xfp
  rw [cell_of_row _ _ _ _ _ _ (Hn _ _)]
  simp [hx]
 have HS:=Lh hS
 clear hS
 go_enter Tryz.func176,Tryz.ntmps176
 go_wp2_with fail
 refine (Xfy _ HL.o).mono ?_
 rintro e w' ⟨rfl,rfl⟩
 go_wp2_with fail
 refine (Xbx Jj s _ _ _ (HS.o w) Xja (Xd0 s)).mono ?_
 rintro e w' ⟨i,rfl,rfl⟩
 go_wp2
 go_ret
 exact ⟨rfl,Br.alloc (Nr _) _⟩
def Uz (s:ByteArray):Bool:=
 decide (0<s.size) && decide (s.size<=40) && decide (Yc ((s.toList.headD 0).toNat:Int)=2) && !Xhk s && s.toList.all fun c=>decide (2<=Yc (c.toNat:Int))
theorem Xaz (s:ByteArray):s.toList.length=s.size:=by rw [ByteArray.toList_eq];simp
theorem Xb0 (s:ByteArray) (k:Nat) (h:k<s.size):s.toList[k]?=some s[k]:=by
 rw [ByteArray.toList_eq]
 have:k<s.data.toList.length:=by simpa using h
 rw [Lg this]
 rfl
theorem Xhd (h:¬0<s.size):Uz s=false:=by unfold Uz;simp [h]
theorem Xic (h:¬s.size<=40):Uz s=false:=by unfold Uz;simp [h]
theorem Xkm (h0:0<s.size):s.toList.headD 0=s[0]:=by
 have:=Xb0 s 0 h0
 cases hl:s.toList with
 | nil=>rw [hl] at this;cases this
 | cons a l=>rw [hl] at this;simpa using this
theorem Xid (h0:0<s.size) (h:¬Yc (s[0].toNat:Int)=2):Uz s=false:=by unfold Uz;rw [Xkm h0];simp [h]
theorem Xgm (h:Xhk s=true):Uz s=false:=by unfold Uz;simp [h]
theorem Xg7 (k:Nat) (hk:k<s.size) (h:Yc (s[k].toNat:Int)<2):Uz s=false:=by
 unfold Uz
 have:(s.toList.all fun c=>decide (2<=Yc (c.toNat:Int)))=false:=by
  rw [List.all_eq_false]
  exact ⟨s[k],Lm (Xb0 s k hk),by simp;omega⟩
 rw [this,Bool.and_false]
theorem Xgn (h0:0<s.size) (h1:s.size<=40) (h2:Yc (s[0].toNat:Int)=2) (h3:Xhk s=false) (h4:∀ k (hk:k<s.size),2<=Yc (s[k].toNat:Int)):Uz s=true:=by
 unfold Uz
 have:(s.toList.all fun c=>decide (2<=Yc (c.toNat:Int)))=true:=by
  rw [List.all_eq_true]
  intro c hc
  obtain ⟨k,hk,rfl⟩:=List.getElem_of_mem hc
  have aA:k<s.size:=by rw [Xaz] at hk;exact hk
  have:=Xb0 s k aA
  rw [Lg hk] at this
  simp at this
  rw [this]
  simpa using h4 k aA
 rw [this,Xkm h0]
 simp [h0,h1,h2,h3]
theorem Xir (s:ByteArray) (w:World) (hL:Qa w) (hs:s.size<=140737488355328) :
  Calls Tryz.prog 146 #[.string s] w fun e w'=>e=.returned (.bool (Uz s))/\Below w.heap.size w w':=by
 have HL:=Lh hL
 clear hL
 by_cases h0:0<s.size
 ·have e0:s.toList.isEmpty=false:=by have:=Xaz s;cases hl:s.toList with|nil=>rw [hl] at this;simp at this;omega|cons _ _=>rfl
  by_cases h1:s.size<=40
  ·have e1:decide (40<(s.size:Int))=false:=by simp;omega
   by_cases h2:Yc (s[0].toNat:Int)=2
   ·have e2:(Yc (s[0].toNat:Int) != 2)=false:=by simp [h2]
    have H2:=Lh h2
    clear h2
    cases h3:Xhk s with
    | true=>
     have aA:=Lh (Xgm h3)
     have H3:=Lh h3
     clear h3
     go_enter Tryz.func146,Tryz.ntmps146
     go_wp2_with fail
     refine (Xal _ _).mono ?_
     rintro e w' ⟨rfl,rfl⟩
     go_wp2_with fail
     refine (Xar _ _ HL.o).mono ?_
     rintro e w' ⟨rfl,hb⟩
     rw [H3.o]
     go_wp2
     go_ret
     exact ⟨by rw [aA.o];rfl,hb⟩
    | false=>
     have H3:=Lh h3
     clear h3
     go_enter Tryz.func146,Tryz.ntmps146
     go_wp2_with fail
     refine (Xal _ _).mono ?_
     rintro e w' ⟨rfl,rfl⟩
     go_wp2_with fail
     refine (Xar _ _ HL.o).mono ?_
     rintro e w' ⟨rfl,hb⟩
     rw [H3.o]
     go_wp2_with fail
     go_loop [23] (fun i=>∃ k:Nat,k<=s.size/\i=ι k/\Hid (∀ j (hj:j<s.size),j<k->2<=Yc (s[j].toNat:Int))) (fun i=>s.size - (intOf i).toNat)
     case atStart=>exact ⟨0,Nat.zero_le _,rfl,fun j hj h=>by omega⟩
     case round=>
      obtain ⟨k,hk,rfl,aB⟩:=hrel
      by_cases aD:k<s.size
      ·go_wp2_with fail
       refine (Xal _ _).mono ?_
       rintro e w'' ⟨rfl,rfl⟩
       by_cases hc:Yc (s[k].toNat:Int)<2
       ·have aA:=Lh (Xg7 k aD hc)
        go_wp2
        go_ret
        exact ⟨by rw [aA.o];rfl,hb⟩
       ·go_wp2
        go_round
        case rel=>exact ⟨k+1,ω,by go_num,fun j hj h=>by
         by_cases aC:j=k
         ·subst aC;omega
         ·exact aB j hj ω⟩
        case measure=>simp [intOf];omega
      ·have aA:=Lh (Xgn h0 h1 H2.o H3.o (fun j hj=>aB j hj ω))
       go_wp2
       go_ret
       exact ⟨by rw [aA.o];rfl,hb⟩
   ·have e2:(Yc (s[0].toNat:Int) != 2)=true:=by simp [h2]
    have aA:=Lh (Xid h0 h2)
    go_enter Tryz.func146,Tryz.ntmps146
    go_wp2_with fail
    refine (Xal _ _).mono ?_
    rintro e w' ⟨rfl,rfl⟩
    go_wp2
    go_ret
    exact ⟨by rw [aA.o];rfl,Below.refl _ _⟩
  ·have aA:=Lh (Xic h1)
   go_enter Tryz.func146,Tryz.ntmps146
   go_wp2
   go_ret
   exact ⟨by rw [aA.o];rfl,Below.refl _ _⟩
 ·have e0:s.toList.isEmpty=true:=by have:=Xaz s;cases hl:s.toList with|nil=>rfl|cons _ _=>rw [hl] at this;simp at this;omega
  have aA:=Lh (Xhd h0)
  go_enter Tryz.func146,Tryz.ntmps146
  go_wp2
  go_ret
  exact ⟨by rw [aA.o];rfl,Below.refl _ _⟩
