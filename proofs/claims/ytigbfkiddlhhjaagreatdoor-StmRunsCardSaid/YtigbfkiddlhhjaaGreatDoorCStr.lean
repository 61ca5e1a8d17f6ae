/- StmRuns: for every code, memory, rows of calls, fuel and schedule, the package and its reference begin, run and finish alike. Conditions: none but the row's own (the listed tables lie as the program's text lays them, which the card ties). MADE BY wip/gen_cstr.py -/
import Derived.Test.YtigbfkiddlhhjaaGreatDoorSsm
set_option maxRecDepth 100000
set_option linter.all false
open Go.Value renaming slice→σ
open Go.Obj renaming cells→χ
namespace Go.Proofs.YtigbfkiddlhhjaaGreatDoor
open Go.ChangeShapes Go.WideShapes Go.ChangeAt Go.WideElems Go.RowKit Proofs.Tryz
section
variable{H:Type}{enc:TypeId×Value->H}{w:World}{base:Nat}{spare:Nat->Bool}{held:Bool}
def VF{n:Nat}{v:Value}{y:DataW H×List MemPlace}(b:DataW.trod enc prog w base spare held n 65 [v]=some y)(a:MC 65 y.1):∃d:List Bi,AE w w 2 (DA w) v d:=
 EC ⟨ByteArray.empty,[]⟩ (by_:=40) underlying65 κ κ ω ω (λl m n e y c d b a=>by
  match e,d with
  |[c0,c1],_=>
   let⟨_,_,j,k⟩:=Aw underlying64 b a 0 rfl Rf rfl;let⟨_,_,h,i⟩:=Aw underlying64 b a 1 rfl EV rfl;obtain⟨f,rfl,g⟩:=Wi j k;let⟨d,e⟩:=GN h i;exact⟨⟨f,d⟩,c 0 ω,⟨c1,c 1 ω,e⟩,g⟩) b a
def TI{r:Go.Reach}{c:Nat}{v:Value}{d:DataW H}{p:List MemPlace}(e:Value.okWide prog w r c 29 v)(a:DataW.Trod enc prog w base spare held 29 v d p)(b:MC 29 d):∃c:List (List Bi),AE w w 1 (Bg 2 (DA w) w) v c:=by
 obtain⟨_,_,_,rfl⟩:=okWide_slice underlying29 e;let⟨_,a⟩:=a;exact EC [] (by_:=24) underlying29 κ κ ω ω (λg i h e j f c a b=>by
  match e,c with
  |[c0],_=>
   let⟨c,e⟩:=VF a b;exact⟨c,c0,f 0 ω,e⟩) a b
end
def Xes:f3.params=#[25,28,29,3,22]:=by kernel_rfl
def Xkt:f3.resultTypes=#[4]:=by kernel_rfl
def Xlg:∀a∈([25,28,29,3,22]:List TypeId),prog.readableRec a=true/\a<prog.types.size:=λa b=>by
 simp only[List.mem_cons,List.mem_nil_iff,or_false]at b;rcases b with rfl|rfl|rfl|rfl|rfl;all_goals exact⟨κ,of_decide_eq_true κ⟩
def stmRuns_lifted(os:Os)(F:os.Started)(H:Type)(enc:TypeId×Value->H) :
  ReturnsInHanded {} checked os 3 .any (λw d=>(Rows.stmRunsSpec.pre enc prog f3 [] false w d/\laidMetH prog YY w)/\sizedMet enc prog f3 (OpenSpec.ofChange Rows.stmRunsSpec) false w d)
   (Rows.stmRunsSpec.post enc prog f3 false true false false):=by
 refine returnsInHanded_of_change_and (C:=checked) (X:=λw _=>laidMetH prog YY w) (λ_ _ _ l d=>d.of_heap l) own F κ func3
  (ChangeSpec.witness_shaped (enc:=enc) (C:=checked) (os:=os) (X:=λw _=>laidMetH prog YY w) false (World.doorLaid prog 38 os) #[.agg #[ν,ι 0,ν],.agg #[ν,ν],ν,ι 0,ν] 11 rfl (World.shaped_of_RefB κ κ) κ κ κ (Yl os _)) ?_
 intro A base c i l d d g _ F aZ _;have a:∀(j:Nat) t v,f3.params[j]?=some t->c[j]?=some v->Value.okWide prog A .any base t v:=d;have b:(DataW.weightsEach prog (f3.params.toList++_) (i++l)).all (·<=reachBytes)=true:=F;have aY:=g;obtain⟨E,_,B,Y,rfl,_,_⟩:=g;have e:DataW.TrodAll enc prog A 0 (λ_=>true) true f3.params.toList c.toList i E:=B;rw[Xes]at e a b;obtain⟨k,_,_,_,_,_,_,rfl,rfl,Q,r⟩:=trodAll_cons e;obtain⟨h,_,_,_,_,_,rfl,rfl,rfl,R,s⟩:=trodAll_cons r;obtain⟨n,_,_,_,_,_,rfl,rfl,rfl,T,u⟩:=trodAll_cons s;obtain⟨p,_,_,_,_,_,rfl,rfl,rfl,W,x⟩:=trodAll_cons u;obtain⟨q,_,aX,_,aW,_,rfl,rfl,rfl,f,o⟩:=trodAll_cons x;obtain⟨rfl,rfl,rfl⟩:=trodAll_nil o;obtain rfl:c=#[k,h,n,p,q]:=by cases c;simp_all
 obtain⟨rfl,rfl⟩:=trodVars_none Y;let⟨S,V⟩:=Y4 (a 0 25 k rfl rfl) Q (MC.of_each b (j:=0) rfl rfl);let⟨N,P⟩:=bj (a 1 28 h rfl rfl) R (MC.of_each b (j:=1) rfl rfl);let⟨L,M⟩:=TI (a 2 29 n rfl rfl) T (MC.of_each b (j:=2) rfl rfl);obtain⟨G,rfl,rfl,rfl,J⟩:=open_int underlying3 (a 3 3 p rfl rfl) W;obtain⟨_,_,_,rfl⟩:=okWide_slice underlying22 (a 4 22 q rfl rfl);let⟨_,f⟩:=f;let⟨a,c⟩:=GN (y:=(aX,aW)) f (MC.of_each b (j:=4) rfl rfl);refine(Xif S N L G a k h _ _ A (Yv aZ) V P M (Qz J) c).mono λb a ⟨m,z⟩=>?_;subst m;exact⟨_,rfl,Yp rfl (by rw[Xes];exact Xlg) Xkt aY rfl rfl rfl z⟩
theorem stmRuns_said:Rows.StmRunsSaid:=
 OpenClaim.holds_of_wide 3 f3 rfl rfl rfl rfl rfl rfl rfl ⟨rfl,rfl,rfl,rfl,rfl⟩ rfl rfl rfl rfl rfl κ func3 κ
  (of_decide_eq_true κ) (by unfold Func.isWrapper;first|(rw[if_pos (by decide +kernel)];kernel_rfl)|(rw[if_neg (by decide +kernel)];exact⟨rfl,rfl⟩))
  (λb a H enc _=>stmRuns_lifted b a H enc)
def Xhf(f:FuncId)(b:Func) (d:Tryz.pinned.checked.prog.funcNamed "heartwood/heartwoodlaw46.StmRuns"=some f) (c:Tryz.pinned.checked.prog.funcs[f]?=some b) :
  true=Tryz.pinned.checked.prog.looks []/\∀(j:Nat) a,b.params[j]?=some a->Tryz.pinned.checked.prog.wantsStandIn a=false:=by
 obtain rfl:f=3:=Option.some.inj ((show prog.funcNamed "heartwood/heartwoodlaw46.StmRuns"=some 3 by kernel_rfl).symm.trans d) |>.symm;obtain rfl:b=f3:=(Option.some.inj (func3.symm.trans c)).symm;refine⟨κ,λj a b=>?_⟩;rw[Xes]at b;have d:a∈([25,28,29,3,22]:List TypeId):=by simpa using Array.mem_of_getElem? b
 have c:(([25,28,29,3,22]:List TypeId).all λb=>!prog.wantsStandIn b)=true:=by kernel_rfl
 exact(show prog.wantsStandIn a=false by simpa using List.all_eq_true.1 c a d)
theorem stmRuns_card:Rows.StmRunsCardSaid:=
 Claim7.holds_tied_plain_at .later [] _ _ _ _ stmRuns_said (λ_ a=>by cases a) κ (λ_ a=>by cases a) stmRuns_row_tie rfl ⟨rfl,rfl⟩ κ rfl Xhf κ
