/- StmAborts: for every code, memory, rows of calls, fuel and schedule, only a commit that writes makes others abort. Conditions: none but the row's own (the listed tables lie as the program's text lays them, which the card ties). MADE BY wip/gen_cabo.py -/
import Derived.Test.YtigbfkiddlhhjaaGreatDoorSqq
import Derived.Test.YtigbfkiddlhhjaaGreatDoorDoo
set_option maxRecDepth 100000
set_option linter.all false
open Go.Value renaming slice→σ
open Go.Obj renaming cells→χ
namespace Go.Proofs.YtigbfkiddlhhjaaGreatDoor
open Go.ChangeShapes Go.WideShapes Go.ChangeAt Go.WideElems Go.RowKit Proofs.Tryz
section
variable {H:Type} {enc:TypeId×Value->H} {w:World} {base:Nat} {spare:Nat->Bool} {held:Bool}
def VF {n:Nat} {v:Value} {y:DataW H×List MemPlace} (h:DataW.trod enc prog w base spare held n 65 [v]=some y) (a:MC 65 y.1):∃ l:List Bi,AE w w 2 (DA w) v l:=
 EC ⟨ByteArray.empty,[]⟩ (by_:=40) underlying65 κ κ ω ω (λb o n d y c g h a=>by
  match d,g with
  | [c0,c1],_=>
   obtain ⟨_,_,e,k⟩:=Aw underlying64 h a 0 rfl Rf rfl;obtain ⟨_,_,f,m⟩:=Aw underlying64 h a 1 rfl EV rfl;obtain ⟨p,rfl,i⟩:=Wi e k;obtain ⟨q,j⟩:=GN f m;exact ⟨⟨p,q⟩,c 0 ω,⟨c1,c 1 ω,j⟩,i⟩) h a
def TI {r:Go.Reach} {e:Nat} {v:Value} {d:DataW H} {p:List MemPlace} (k:Value.okWide prog w r e 29 v) (h:DataW.Trod enc prog w base spare held 29 v d p) (c:MC 29 d):∃ l:List (List Bi),AE w w 1 (Bg 2 (DA w) w) v l:=by
 obtain ⟨a,q,f,rfl⟩:=okWide_slice underlying29 k;obtain ⟨n,h⟩:=h;exact EC [] (by_:=24) underlying29 κ κ ω ω (λb o n g y i j h c=>by
  match g,j with
  | [c0],_=>
   obtain ⟨s,m⟩:=VF h c;exact ⟨s,c0,i 0 ω,m⟩) h c
end
def abo_params:f4.params=#[25,28,29,3,22]:=by kernel_rfl
def abo_result:f4.resultTypes=#[4]:=by kernel_rfl
def abo_reads:∀ t∈([25,28,29,3,22]:List TypeId),prog.readableRec t=true/\t<prog.types.size:=λt a=>by
 simp only [List.mem_cons,List.mem_nil_iff,or_false] at a;rcases a with rfl|rfl|rfl|rfl|rfl;all_goals exact ⟨κ,of_decide_eq_true κ⟩
def stmAborts_lifted (os:Os) (d:os.Started) (H:Type) (enc:TypeId×Value->H) :
  ReturnsInHanded {} checked os 4 .any (λw b=>(Rows.stmAbortsSpec.pre enc prog f4 [] false w b/\laidMetH prog YY w)/\sizedMet enc prog f4 (OpenSpec.ofChange Rows.stmAbortsSpec) false w b)
   (Rows.stmAbortsSpec.post enc prog f4 false true false false):=by
 refine returnsInHanded_of_change_and (C:=checked) (X:=λw _=>laidMetH prog YY w) (λ_ _ _ T h=>h.of_heap T) own d κ func4
  (ChangeSpec.witness_shaped (enc:=enc) (C:=checked) (os:=os) (X:=λw _=>laidMetH prog YY w) false (World.doorLaid prog 38 os) #[.agg #[ν,ι 0,ν],.agg #[ν,ν],ν,ι 0,ν] 11 rfl (World.shaped_of_RefB κ κ) κ κ κ (Yl os _)) ?_
 intro W base b x J aE r z _ s O _;have f:∀ (j:Nat) t v,f4.params[j]?=some t->b[j]?=some v->Value.okWide prog W .any base t v:=r;have g:(DataW.weightsEach prog (f4.params.toList++_) (x++J)).all (·<=reachBytes)=true:=s;have F:=z;obtain ⟨p,q,u,P,rfl,aP,aQ⟩:=z;have k:DataW.TrodAll enc prog W 0 (λ_=>true) true f4.params.toList b.toList x p:=u;rw [abo_params] at k f g;obtain ⟨n,aR,d0,aK,p0,q0,aH,rfl,rfl,K,Z⟩:=trodAll_cons k;obtain ⟨o,aS,d1,aL,p1,q1,rfl,rfl,rfl,L,r1⟩:=trodAll_cons Z;obtain ⟨A,aT,d2,aM,p2,q2,rfl,rfl,rfl,M,r2⟩:=trodAll_cons r1;obtain ⟨B,aU,d3,aN,p3,q3,rfl,rfl,rfl,N,r3⟩:=trodAll_cons r2;obtain ⟨D,aV,I,aO,Y,q4,rfl,rfl,rfl,i,r4⟩:=trodAll_cons r3;obtain ⟨rfl,rfl,rfl⟩:=trodAll_nil r4;obtain rfl:b=#[n,o,A,B,D]:=by cases b;simp_all
 obtain ⟨rfl,rfl⟩:=trodVars_none P;obtain ⟨c,R⟩:=Y4 (f 0 25 n rfl rfl) K (MC.of_each g (j:=0) rfl rfl);obtain ⟨m,V⟩:=bj (f 1 28 o rfl rfl) L (MC.of_each g (j:=1) rfl rfl);obtain ⟨l,U⟩:=TI (f 2 29 A rfl rfl) M (MC.of_each g (j:=2) rfl rfl);obtain ⟨a,rfl,rfl,rfl,wa⟩:=open_int underlying3 (f 3 3 B rfl rfl) N;obtain ⟨sa,sl,sc,rfl⟩:=okWide_slice underlying22 (f 4 22 D rfl rfl);obtain ⟨_,i⟩:=i;obtain ⟨G,E⟩:=GN (y:=(I,Y)) i (MC.of_each g (j:=4) rfl rfl);clear u r k s;refine (stmAborts_walk c m l a G n o _ _ W (Yv O) R V U (Qz wa) E).mono λe W' ⟨S,Q⟩=>?_;subst S;exact ⟨_,rfl,Yp rfl (by rw [abo_params];exact abo_reads) abo_result F rfl rfl rfl Q⟩
theorem stmAborts_said:Rows.StmAbortsSaid:=
 OpenClaim.holds_of_wide 4 f4 rfl rfl rfl rfl rfl rfl rfl ⟨rfl,rfl,rfl,rfl,rfl⟩ rfl rfl rfl rfl rfl κ func4 κ
  (of_decide_eq_true κ) (by unfold Func.isWrapper;first|(rw [if_pos (by decide +kernel)];kernel_rfl)|(rw [if_neg (by decide +kernel)];exact ⟨rfl,rfl⟩))
  (λb a H enc _=>stmAborts_lifted b a H enc)
def stmAborts_plain (f:FuncId) (a:Func) (e:Tryz.pinned.checked.prog.funcNamed "heartwood/heartwoodlaw46.StmAborts"=some f) (b:Tryz.pinned.checked.prog.funcs[f]?=some a) :
  true=Tryz.pinned.checked.prog.looks []/\∀ (j:Nat) t,a.params[j]?=some t->Tryz.pinned.checked.prog.wantsStandIn t=false:=by
 obtain rfl:f=4:=Option.some.inj ((show prog.funcNamed "heartwood/heartwoodlaw46.StmAborts"=some 4 by kernel_rfl).symm.trans e) |>.symm;obtain rfl:a=f4:=(Option.some.inj (func4.symm.trans b)).symm;refine ⟨κ,λj t c=>?_⟩;rw [abo_params] at c;have g:t∈([25,28,29,3,22]:List TypeId):=by simpa using Array.mem_of_getElem? c
 have d:(([25,28,29,3,22]:List TypeId).all λu=>!prog.wantsStandIn u)=true:=by kernel_rfl
 exact (show prog.wantsStandIn t=false by simpa using List.all_eq_true.1 d t g)
theorem stmAborts_card:Rows.StmAbortsCardSaid:=
 Claim7.holds_tied_plain_at .later [] _ _ _ _ stmAborts_said (λ_ h=>by cases h) κ (λ_ h=>by cases h) stmAborts_row_tie rfl ⟨rfl,rfl⟩ κ rfl stmAborts_plain κ
