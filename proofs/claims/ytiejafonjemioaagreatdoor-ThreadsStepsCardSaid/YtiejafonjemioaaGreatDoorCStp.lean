/- ThreadsSteps: for every code, state and thread, Step and Next return what is specified. Conditions: none but the row's own (the listed tables lie as the program's text lays them, which the card ties). after CBeg -/
import Derived.Test.YtiejafonjemioaaGreatDoorLss
set_option maxRecDepth 100000
set_option linter.all false
open Go renaming Value→ϒ
open Go.Value renaming slice→σ
open Go.Obj renaming cells→χ
namespace Go.Proofs.YtiejafonjemioaaGreatDoor
open Go.ChangeShapes Go.WideShapes Go.ChangeAt Go.WideElems Go.Deep Go.RowKit Proofs.Tryz
section
variable {H:Type} {enc:TypeId×ϒ->H} {w:World} {base:Nat} {spare:Nat->Bool} {held:Bool}
def VF {n:Nat} {v:ϒ} {y:DataW H×List MemPlace} (h:DataW.trod enc prog w base spare held n 54 [v]=some y) (a:MC 54 y.1):∃ l:List Bi,AE w w 2 (DA w) v l:=
 EC ⟨ByteArray.empty,[]⟩ (by_:=40) underlying54 κ κ ω ω (λb o n d y c g h a=>by
  match d,g with
  | [c0,c1],_=>
   obtain ⟨_,_,e,k⟩:=Aw underlying80 h a 0 rfl Rf rfl;obtain ⟨_,_,f,m⟩:=Aw underlying80 h a 1 rfl EV rfl;obtain ⟨p,rfl,i⟩:=Wi e k;obtain ⟨q,j⟩:=GN f m;exact ⟨⟨p,q⟩,c 0 ω,⟨c1,c 1 ω,j⟩,i⟩) h a
def Mt {t:TypeId} {fs:Array Field} {c:List ϒ} {n:Nat} {y:DataW H×List MemPlace} (hs:prog.underlying t=some (.struct fs)) (h:DataW.trod enc prog w base spare held n t c=some y) (m:MC t y.1)
  (j:Nat) {f:Field} {vs:List ϒ} (a:fs[j]?=some f) (l:(c.drop f.offset).take (prog.cellsOf f.type)=vs):∃ b i,DataW.trod enc prog w base spare held b f.type vs=some i/\MC f.type i.1:=by
 obtain ⟨g,b,rfl,rfl,_,k,o⟩:=DataW.trod_struct hs h;have e:j<g.length:=by rw [k];exact (La a)
 have d:=o j f a;rw [l,Lg e] at d;exact ⟨b,g[j],d,m.part hs a (by simp [Lg e])⟩
def TI {n:Nat} {v:ϒ} {y:DataW H×List MemPlace} (h:DataW.trod enc prog w base spare held n 29 [v]=some y) (a:MC 29 y.1):∃ l:List (List Bi),AE w w 1 (Bg 2 (DA w) w) v l:=
 EC [] (by_:=24) underlying29 κ κ ω ω (λb o n c y d e h a=>by
  match c,e with
  | [c0],_=>
   obtain ⟨g,f⟩:=VF h a;exact ⟨g,c0,d 0 ω,f⟩) h a
def O2 {n:Nat} {v:ϒ} {y:DataW H×List MemPlace} (h:DataW.trod enc prog w base spare held n 32 [v]=some y) (a:MC 32 y.1):∃ l:List (List Int),AE w w 1 (Bg 1 Aj w) v l:=
 EC [] (by_:=24) underlying32 κ κ ω ω (λb o n c y d e h a=>by
  match c,e with
  | [c0],_=>
   obtain ⟨g,f⟩:=GN h a;exact ⟨g,c0,d 0 ω,f⟩) h a
def Pp:prog.cellsOf 82=3:=by kernel_rfl
def WH {n:Nat} {v:ϒ} {y:DataW H×List MemPlace} (h:DataW.trod enc prog w base spare held n 78 [v]=some y) (c:MC 78 y.1):∃ l:List CD,AE w w 5 FM v l:=
 EC ⟨0,0,0,0,0⟩ (by_:=40) underlying78 κ κ ω ω (λb o n e y a m h c=>by
  match e,m with
  | [c0,c1,c2,c3,c4],_=>
   obtain ⟨_,_,f,_⟩:=Aw underlying84 h c 0 rfl Jv rfl;obtain ⟨_,_,g,_⟩:=Aw underlying84 h c 1 rfl Bf rfl;obtain ⟨_,_,d,wr⟩:=Mt (vs:=[c2,c3,c4]) underlying84 h c 2 rfl (by show List.take (prog.cellsOf 82) _=_;rw [Pp];rfl);obtain ⟨_,_,i,_⟩:=Aw underlying82 d wr 0 rfl Bf rfl;obtain ⟨_,_,j,_⟩:=Aw underlying82 d wr 1 rfl Bf rfl;obtain ⟨_,_,k,_⟩:=Aw underlying82 d wr 2 rfl Bf rfl;obtain ⟨u,rfl,p⟩:=Nw f;obtain ⟨x,rfl,q⟩:=DV g;obtain ⟨z,rfl,r⟩:=DV i;obtain ⟨A,rfl,s⟩:=DV j;obtain ⟨B,rfl,t⟩:=DV k;exact ⟨⟨u,x,z,A,B⟩,a 0 ω,a 1 ω,a 2 ω,a 3 ω,a 4 ω,p,q,r,s,t⟩) h c
def Up {n:Nat} {v:ϒ} {y:DataW H×List MemPlace} (h:DataW.trod enc prog w base spare held n 31 [v]=some y) (a:MC 31 y.1):∃ l:List (List CD),AE w w 1 (Bg 5 FM w) v l:=
 EC [] (by_:=24) underlying31 κ κ ω ω (λb o n c y d e h a=>by
  match c,e with
  | [c0],_=>
   obtain ⟨g,f⟩:=WH h a;exact ⟨g,c0,d 0 ω,f⟩) h a
def TR:prog.cellsOf 49=5:=by kernel_rfl
def Uo {n:Nat} {v:ϒ} {y:DataW H×List MemPlace} (h:DataW.trod enc prog w base spare held n 30 [v]=some y) (a:MC 30 y.1):∃ l:List AV,AE w w 9 (Ht w) v l:=
 EC ⟨[],⟨0,0,0,0,0⟩,0,0,0⟩ (by_:=88) underlying30 κ κ ω ω (λb o n e y t u h a=>by
  match e,u with
  | [c0,c1,c2,c3,c4,c5,c6,c7,c8],_=>
   obtain ⟨_,_,f,I⟩:=Aw underlying51 h a 0 rfl κ rfl;obtain ⟨_,_,c,wr⟩:=Mt (vs:=[c1,c2,c3,c4,c5]) underlying51 h a 1 rfl (by show List.take (prog.cellsOf 49) _=_;rw [TR];rfl);obtain ⟨_,_,q,_⟩:=Aw underlying51 h a 2 rfl Bf rfl;obtain ⟨_,_,r,_⟩:=Aw underlying51 h a 3 rfl Bf rfl;obtain ⟨_,_,s,_⟩:=Aw underlying51 h a 4 rfl Bf rfl;obtain ⟨_,_,g,_⟩:=Aw underlying49 c wr 0 rfl Bf rfl;obtain ⟨_,_,i,_⟩:=Aw underlying49 c wr 1 rfl Bf rfl;obtain ⟨_,_,k,_⟩:=Aw underlying49 c wr 2 rfl Bf rfl;obtain ⟨_,_,m,_⟩:=Aw underlying49 c wr 3 rfl Bf rfl;obtain ⟨_,_,p,_⟩:=Aw underlying49 c wr 4 rfl Jv rfl;obtain ⟨J,x⟩:=VN f I;obtain ⟨K,rfl,z⟩:=DV g;obtain ⟨L,rfl,A⟩:=DV i;obtain ⟨M,rfl,B⟩:=DV k;obtain ⟨N,rfl,C⟩:=DV m;obtain ⟨O,rfl,D⟩:=Nw p;obtain ⟨P,rfl,E⟩:=DV q;obtain ⟨Q,rfl,F⟩:=DV r;obtain ⟨R,rfl,G⟩:=DV s;exact ⟨⟨J,⟨K,L,M,N,O⟩,P,Q,R⟩,c0,λj v d=>(t j (by simpa [FW] using (Ll d))).trans d,x,⟨z,A,B,C,D⟩,E,F,G⟩) h a
def SH:prog.cellsOf 28=2:=by kernel_rfl
def VB {r:Go.Reach} {e:Nat} {v:ϒ} {d:DataW H} {p:List MemPlace} (y:Value.okWide prog w r e 34 v) (h:DataW.Trod enc prog w base spare held 34 v d p) (a:MC 34 d):∃ s:A3,CJ w w v s:=by
 obtain ⟨f,n,rfl,x,h⟩:=Wh underlying34 y h
 match f,x.trans (show prog.cellsOf 34=10 by kernel_rfl) with
 | [c0,c1,c2,c3,c4,c5,c6,c7,c8,c9],_=>obtain ⟨_,_,b,c⟩:=Mt (vs:=[c0,c1]) underlying34 h a 0 rfl (by show List.take (prog.cellsOf 28) _=_;rw [SH];rfl);obtain ⟨_,_,g,K⟩:=Aw underlying28 b c 0 rfl EV rfl;obtain ⟨_,_,i,L⟩:=Aw underlying28 b c 1 rfl κ rfl;obtain ⟨_,_,j,_⟩:=Aw underlying34 h a 1 rfl Bf rfl;obtain ⟨_,_,k,M⟩:=Aw underlying34 h a 2 rfl κ rfl;obtain ⟨_,_,l,N⟩:=Aw underlying34 h a 3 rfl EV rfl;obtain ⟨_,_,m,O⟩:=Aw underlying34 h a 4 rfl κ rfl;obtain ⟨_,_,o,P⟩:=Aw underlying34 h a 5 rfl κ rfl;obtain ⟨_,_,q,Q⟩:=Aw underlying34 h a 6 rfl κ rfl;obtain ⟨_,_,t,R⟩:=Aw underlying34 h a 7 rfl κ rfl;obtain ⟨_,_,u,_⟩:=Aw underlying34 h a 8 rfl Bf rfl;obtain ⟨S,z⟩:=GN g K;obtain ⟨T,A⟩:=VO i L;obtain ⟨U,rfl,B⟩:=DV j;obtain ⟨V,C⟩:=Uo k M;obtain ⟨W,D⟩:=GN l N;obtain ⟨X,E⟩:=TI m O;obtain ⟨Y,F⟩:=Up o P;obtain ⟨Z,G⟩:=O2 q Q;obtain ⟨x8,I⟩:=O2 t R;obtain ⟨x9,rfl,J⟩:=DV u;exact ⟨⟨⟨S,T⟩,U,V,W,X,Y,Z,x8,x9⟩,c0,c1,c3,c4,c5,c6,c7,c8,rfl,z,A,C,D,E,F,G,I,B,J⟩
end
def steps_params:f4.params=#[25,34,3]:=by kernel_rfl
def steps_result:f4.resultTypes=#[4]:=by kernel_rfl
def steps_reads:∀ t∈([25,34,3]:List TypeId),prog.readableRec t=true/\t<prog.types.size:=λt a=>by
 simp only [List.mem_cons,List.mem_nil_iff,or_false] at a;rcases a with rfl|rfl|rfl;all_goals exact ⟨κ,of_decide_eq_true κ⟩
def threadsSteps_lifted (os:Os) (d:os.Started) (H:Type) (enc:TypeId×ϒ->H) :
  ReturnsInHanded {} checked os 4 .any (λw b=>(Rows.threadsStepsSpec.pre enc prog f4 [] false w b/\laidMetH prog YY w)/\sizedMet enc prog f4 (OpenSpec.ofChange Rows.threadsStepsSpec) false w b)
   (Rows.threadsStepsSpec.post enc prog f4 false true false false):=by
 refine returnsInHanded_of_change_and (C:=checked) (X:=λw _=>laidMetH prog YY w) (λ_ _ _ K h=>h.of_heap K) own d κ func4
  (ChangeSpec.witness_shaped (enc:=enc) (C:=checked) (os:=os) (X:=λw _=>laidMetH prog YY w) false (World.doorLaid prog 38 os) #[.agg #[ν,ι 0,ν],.agg Bz,ι 0] 11 rfl (World.shaped_of_RefB κ κ) κ κ κ (Yl os _)) ?_
 intro W base b r z Q m u _ n E _;have f:∀ (j:Nat) t v,f4.params[j]?=some t->b[j]?=some v->Value.okWide prog W .any base t v:=m;have g:(DataW.weightsEach prog (f4.params.toList++_) (r++z)).all (·<=reachBytes)=true:=n;have y:=u;obtain ⟨p,q,o,F,rfl,V,Y⟩:=u;have i:DataW.TrodAll enc prog W 0 (λ_=>true) true f4.params.toList b.toList r p:=o;rw [steps_params] at i f g;obtain ⟨k,Z,d0,S,p0,q0,R,rfl,rfl,A,M⟩:=trodAll_cons i;obtain ⟨l,aO,d1,T,p1,q1,rfl,rfl,rfl,B,N⟩:=trodAll_cons M;obtain ⟨x,aP,d2,U,p2,q2,rfl,rfl,rfl,D,O⟩:=trodAll_cons N;obtain ⟨rfl,rfl,rfl⟩:=trodAll_nil O;obtain rfl:b=#[k,l,x]:=by cases b;simp_all
 obtain ⟨rfl,rfl⟩:=trodVars_none F;obtain ⟨c,I⟩:=Y4 (f 0 25 k rfl rfl) A (MC.of_each g (j:=0) rfl rfl);obtain ⟨s,L⟩:=VB (f 1 34 l rfl rfl) B (MC.of_each g (j:=1) rfl rfl);obtain ⟨a,rfl,rfl,rfl,wa⟩:=open_int underlying3 (f 2 3 x rfl rfl) D;clear o m i n;refine (threadsSteps_walk c s a k l W (Yv E) I L).mono λe P ⟨J,G⟩=>?_;subst J;exact ⟨_,rfl,Yp rfl (by rw [steps_params];exact steps_reads) steps_result y rfl rfl rfl G⟩
theorem threadsSteps_said:Rows.ThreadsStepsSaid:=
 OpenClaim.holds_of_wide 4 f4 rfl rfl rfl rfl rfl rfl rfl ⟨rfl,rfl,rfl,rfl,rfl⟩ rfl rfl rfl rfl rfl κ func4 κ
  (of_decide_eq_true κ) (by unfold Func.isWrapper;first|(rw [if_pos (by decide +kernel)];kernel_rfl)|(rw [if_neg (by decide +kernel)];exact ⟨rfl,rfl⟩))
  (λb a H enc _=>threadsSteps_lifted b a H enc)
def threadsSteps_plain (f:FuncId) (a:Func) (e:Tryz.pinned.checked.prog.funcNamed "heartwood/heartwoodlaw45.ThreadsSteps"=some f) (b:Tryz.pinned.checked.prog.funcs[f]?=some a) :
  true=Tryz.pinned.checked.prog.looks []/\∀ (j:Nat) t,a.params[j]?=some t->Tryz.pinned.checked.prog.wantsStandIn t=false:=by
 obtain rfl:f=4:=Option.some.inj ((show prog.funcNamed "heartwood/heartwoodlaw45.ThreadsSteps"=some 4 by kernel_rfl).symm.trans e) |>.symm;obtain rfl:a=f4:=(Option.some.inj (func4.symm.trans b)).symm;refine ⟨κ,λj t c=>?_⟩;rw [steps_params] at c;have g:t∈([25,34,3]:List TypeId):=by simpa using Array.mem_of_getElem? c
 have d:(([25,34,3]:List TypeId).all λu=>!prog.wantsStandIn u)=true:=by kernel_rfl
 exact (show prog.wantsStandIn t=false by simpa using List.all_eq_true.1 d t g)
theorem threadsSteps_card:Rows.ThreadsStepsCardSaid:=
 Claim7.holds_tied_plain_at .later [] _ _ _ _ threadsSteps_said (λ_ h=>by cases h) κ (λ_ h=>by cases h) threadsSteps_row_tie rfl ⟨rfl,rfl⟩ κ rfl threadsSteps_plain κ
