import Derived.Test.YtigbfkiddlhhjaaGreatDoorPly
import Derived.Test.YtigbfkiddlhhjaaGreatDoorReg
import Derived.Deep.Slices
import Derived.Deep.Fields
import Derived.ChangeSame
import Derived.Lib.SmallJoins
import Derived.SizedLaws
import Derived.MakeChecks
import Derived.OpenShut
import Derived.Carry
import Derived.Test.YtigbfkiddlhhjaaGreatDoorCards
import Derived.Test.YtigbfkiddlhhjaaGreatDoorTie
import Derived.ProofKit
import Derived.LaidMore
import Derived.Stop.Joined
import Derived.Stop.LaidErr
import Derived.Lib.LaidTab
import Derived.SevenTiedAt
set_option maxRecDepth 100000
set_option linter.all false
open Go renaming World→Ϣ,Value→ϒ
open Option renaming some→ς
open Bool renaming false→ϝ,true→ϑ
open Go.Value renaming slice→σ
open Go.Obj renaming cells→χ
namespace Go.Proofs.YtigbfkiddlhhjaaGreatDoor
open Go.RowKit Proofs.Tryz
def Be.set {w:Ϣ} {b cap:Nat} {l:List Int} {F:List Nat} (h:Be w (σ (ς (π b 0)) l cap) l F) (j:Nat) (v:Int) (a:in64 v):Be (w.setCell (π b j) (ι v)) (σ (ς (π b 0)) l cap) (l.set j v) F:=by
 obtain ⟨c,d,e⟩:=h;refine ⟨?_,d,λn f=>?_⟩
 .have:=(c.stored j (ι v)).1
  rw [<-List.map_set] at this;simpa using this
 .rcases List.mem_or_eq_of_mem_set f with h|h
  .exact e n h
  .rw [h];exact a
variable {A:Nat} {W wr w':Ϣ} {bm bo bl bc:Nat} {m:AV} {p:MB} {fault value cmp:Int} {Fm:List Nat} {gv nv:ϒ} {cells:List ϒ} {Fg Fn:List Nat} {lv:ϒ}
def Be.frozen {w:Ϣ} {b n cap:Nat} {l:List Int} {F:List Nat} (h:Be w (σ (ς (π b 0)) n cap) l F) (j:Nat):w.frozen? (π b j)=ϝ:=by
 rcases h.1.2 with ⟨a,_⟩|⟨g,cap,d,a,e,c,_⟩
 .simp at a
 .simp at a
  obtain ⟨⟨rfl,_⟩,_⟩:=a;exact Fz c
def BF.funs {B:Nat} {w:Ϣ} {fv g gv:ϒ} {c:AQ} (h:BF B w (.agg #[fv,g,gv]) c):AE B w 5 (CW B) gv c.funcs:=by
 obtain ⟨a,b,d,_,e,_⟩:=h;simp only [Value.agg.injEq,Array.mk.injEq,List.cons.injEq,and_true] at d;rw [d.2.2];exact e
def Dp.lens {c:AQ} (hs:AU c) {m:Mm} (h:Dp c m):m.G.length<=8/\m.N.length<=4096/\∀ x∈m.N,x.f.length<=12:=by
 refine ⟨by have b:=h.gl;have a:=hs.1.2.2.2.1;omega,h.len,λx d=>?_⟩;have b:=(h.N x d).2.1;have a:=hs.1.2.1;rw [List.any_eq_false] at a;have:=a _ (Lm b);simp at this;omega
end Go.Proofs.YtigbfkiddlhhjaaGreatDoor
namespace Go.Proofs.YtigbfkiddlhhjaaGreatDoor
open Go.ChangeShapes Go.WideShapes Go.Deep Go.RowKit Proofs.Tryz
section
variable {H:Type} {enc:TypeId×ϒ->H} {w:Ϣ} {base:Nat} {spare:Nat->Bool} {held:Bool}
def MC (t:TypeId) (d:DataW H):Prop:=∀ z∈d.weights prog t,z<=140737488351232
def MC.of_each {b:List TypeId} {a:List (DataW H)} (h:(DataW.weightsEach prog b a).all (·<=reachBytes)=ϑ) {j:Nat} {t:TypeId} {d:DataW H} (e:b[j]?=ς t) (c:a[j]?=ς d):MC t d:=λz f=>by
 have:=List.all_eq_true.1 h z (DataW.weights_mem_each e c z f);have:=of_decide_eq_true this;unfold reachBytes at this;exact this
def MC.part {t:TypeId} {fs:Array Field} {a:List (DataW H)} (hs:prog.underlying t=ς (.struct fs)) (h:MC t (.agg a)) {j:Nat} {f:Field} {d:DataW H} (c:fs[j]?=ς f) (b:a[j]?=ς d):MC f.type d:=λz e=>
 h z (by
  simp only [DataW.weights,hs];exact DataW.weights_mem_each (j:=j) (t:=f.type) (by simp [c]) b z e)
def Gg {e:TypeId}:∀ {a:List (DataW H)} {j:Nat} {d:DataW H},a[j]?=ς d->∀ n∈d.weights prog e,n∈DataW.weightsAll prog e a
 | d0::a,0,d,hd,n,hn=>by simp only [List.getElem?_cons_zero,Option.some.injEq] at hd;subst hd;simp only [DataW.weightsAll,List.mem_append];exact Or.inl hn
 | d0::a,j+1,d,hd,n,hn=>by simp only [List.getElem?_cons_succ] at hd;simp only [DataW.weightsAll,List.mem_append];exact Or.inr (Gg hd n hn)
 | [],_,_,hd,_,_=>by simp at hd
def EC {α:Type} (Q:α) {t e:TypeId} {sz by_:Nat} {E:Ϣ->Nat->Nat->α->Prop} (G:prog.underlying t=ς (.slice e)) (S:prog.cellsOf e=sz) (U:prog.bytesOf e=by_) (C:1<=by_) (Z:1<=sz)
  (T:∀ (b o n:Nat) (A:List ϒ) (y:DataW H×List MemPlace),(∀ j,j<sz->w.cell? (π b (o+j))=A[j]?)->A.length=sz->DataW.trod enc prog w base spare held n e A=ς y->MC e y.1->∃ x,E w b o x)
  {v:ϒ} {n:Nat} {y:DataW H×List MemPlace} (h:DataW.trod enc prog w base spare held n t [v]=ς y) (I:MC t y.1):∃ l:List α,AE w w sz E v l:=by
 rcases open_slice G h with ⟨B,_⟩|⟨a,c,p,m,n',D,J,B,_,X,Y,O,rfl,F⟩
 .cases B
  exact ⟨[],none,0,rfl,ψ,ψ,ω,.inl rfl⟩
 .cases B
  have aK:c<=m:=by rw [O];split<;>omega
  have M:c<=140737488355328:=by have:=I ((c+(m - c))*by_) (by simp [DataW.weights,G,U]);have h2:(c+(m - c))*1<=(c+(m - c))*by_:=Nat.mul_le_mul_left _ C;omega
  unfold maxLen at Y;by_cases R:c=0
  .subst R
   exact ⟨[],ς a,p,rfl,ψ,ψ,ω,.inl rfl⟩
  obtain ⟨b,o,L⟩:=a;have K:L=none:=by obtain ⟨d,q,_⟩:=F 0 ω;obtain ⟨_,s,g⟩:=World.cells?_some q;have:=g 0 ω;rw [Lg ω] at this;simpa [Addr.add] using World.cell?_spot this
  subst K;have k:∀ i,i<c->∃ x,E w b (o+i*sz) x:=λi u=>by
   obtain ⟨d,q,P⟩:=F i ω;obtain ⟨_,s,g⟩:=World.cells?_some q;rw [S] at s g;refine T b (o+i*sz) n' d (D i,J i) (λj W=>?_) s P (λz hz=>I z ?_)
   .have:=g j W
    rw [add_plain,add_plain] at this;exact this
   .simp only [DataW.weights,G]
    refine List.mem_cons_of_mem _ (List.mem_append_left _ (Gg (j:=i) ?_ z hz));simp [u]
  obtain ⟨f,V⟩:=@choose_lt α ⟨Q⟩ _ _ k;have N:b<w:=by obtain ⟨d,q,_⟩:=F 0 ω;obtain ⟨_,s,g⟩:=World.cells?_some q;have:=g 0 ω;rw [Lg ω,add_plain,add_plain] at this;exact Bl this
  have r:((List.range c).map f).length=c:=by simp
  refine ⟨(List.range c).map f,ς (π b o),p,by rw [r],by rw [r];exact M,by rw [r];exact X,ω,.inr ⟨b,o,rfl,N,λi x k=>?_⟩⟩;have u:i<c:=by have:=(Ll k);rw [r] at this;exact this
  rw [List.getElem?_map,List.getElem?_range u] at k;simp only [Option.map_some,Option.some.injEq] at k;subst k;exact V i u
def Qz {n:Int} (h:(Lit.int .i64 n).wf=ϑ):in64 n:=bounds_i64 h
def Aw {t:TypeId} {fs:Array Field} {a:List ϒ} {n:Nat} {y:DataW H×List MemPlace} (hs:prog.underlying t=ς (.struct fs)) (h:DataW.trod enc prog w base spare held n t a=ς y) (r:MC t y.1)
  (j:Nat) {f:Field} {v:ϒ} (b:fs[j]?=ς f) (m:prog.cellsOf f.type=1) (q:a[f.offset]?=ς v):∃ c i,DataW.trod enc prog w base spare held c f.type [v]=ς i/\MC f.type i.1:=by
 obtain ⟨g,c,rfl,rfl,_,k,s⟩:=DataW.trod_struct hs h;have e:j<g.length:=by rw [k];exact (La b)
 have d:=s j f b;have l:(a.drop f.offset).take (prog.cellsOf f.type)=[v]:=by obtain ⟨p,o⟩:=List.getElem?_eq_some_iff.1 q;rw [m,List.drop_eq_getElem_cons p,o];rfl
 rw [l,Lg e] at d;exact ⟨c,g[j],d,r.part hs b (by simp [Lg e])⟩
def Bf:prog.cellsOf 3=1:=by kernel_rfl
def jx:prog.cellsOf 4=1:=by kernel_rfl
def Rf:prog.cellsOf 9=1:=by kernel_rfl
def EV:prog.cellsOf 22=1:=by kernel_rfl
def DV {n:Nat} {v:ϒ} {y:DataW H×List MemPlace} (h:DataW.trod enc prog w base spare held n 3 [v]=ς y):∃ x,v=ι x/\in64 x:=by
 obtain ⟨k,a,_,b⟩:=DataW.trod_int underlying3 h;cases a;exact ⟨k,rfl,Qz b⟩
def sd {n:Nat} {v:ϒ} {y:DataW H×List MemPlace} (h:DataW.trod enc prog w base spare held n 4 [v]=ς y):∃ b,v=.bool b:=by
 obtain ⟨k,a,_⟩:=DataW.trod_bool underlying4 h;cases a;exact ⟨k,rfl⟩
def Wi {n:Nat} {v:ϒ} {y:DataW H×List MemPlace} (h:DataW.trod enc prog w base spare held n 9 [v]=ς y) (b:MC 9 y.1):∃ s:ByteArray,v=.string s/\s.size<=140737488355328:=by
 obtain ⟨s,a,rfl,_⟩:=DataW.trod_string underlying9 h;cases a;refine ⟨s,rfl,?_⟩;have:=b s.data.toList.length (by simp [DataW.weights]);rw [Array.length_toList] at this;have c:s.data.size=s.size:=rfl;omega
def GN {n:Nat} {v:ϒ} {y:DataW H×List MemPlace} (h:DataW.trod enc prog w base spare held n 22 [v]=ς y) (a:MC 22 y.1):∃ l:List Int,AE w w 1 Aj v l:=
 EC 0 (by_:=8) underlying22 Bf κ ω ω (λb o n d y e f h a=>by
  match d,f with
  | [c],_=>
   obtain ⟨x,rfl,g⟩:=DV h;exact ⟨x,e 0 ω,g⟩) h a
def sf {n:Nat} {v:ϒ} {y:DataW H×List MemPlace} (h:DataW.trod enc prog w base spare held n 68 [v]=ς y) (a:MC 68 y.1):∃ l:List Cd,AE w w 2 JW v l:=
 EC ⟨0,0⟩ (by_:=16) underlying68 κ κ ω ω (λb o n d y c g h a=>by
  match d,g with
  | [c0,c1],_=>
   obtain ⟨_,_,e,_⟩:=Aw underlying96 h a 0 rfl Bf rfl;obtain ⟨_,_,f,_⟩:=Aw underlying96 h a 1 rfl Bf rfl;obtain ⟨k,rfl,i⟩:=DV e;obtain ⟨m,rfl,j⟩:=DV f;exact ⟨⟨k,m⟩,c 0 ω,c 1 ω,i,j⟩) h a
def se {n:Nat} {v:ϒ} {y:DataW H×List MemPlace} (h:DataW.trod enc prog w base spare held n 23 [v]=ς y) (a:MC 23 y.1):∃ l:List BK,AE w w 5 (CW w) v l:=
 EC ⟨ByteArray.empty,0,0,ϝ,[]⟩ (by_:=64) underlying23 κ κ ω ω (λb o n d y c k h a=>by
  match d,k with
  | [c0,c1,c2,c3,c4],_=>
   obtain ⟨_,_,e,s⟩:=Aw underlying70 h a 0 rfl Rf rfl;obtain ⟨_,_,f,_⟩:=Aw underlying70 h a 1 rfl Bf rfl;obtain ⟨_,_,g,_⟩:=Aw underlying70 h a 2 rfl Bf rfl;obtain ⟨_,_,i,_⟩:=Aw underlying70 h a 3 rfl jx rfl;obtain ⟨_,_,j,t⟩:=Aw underlying70 h a 4 rfl κ rfl;obtain ⟨u,rfl,m⟩:=Wi e s;obtain ⟨x,rfl,p⟩:=DV f;obtain ⟨z,rfl,q⟩:=DV g;obtain ⟨A,rfl⟩:=sd i;obtain ⟨B,r⟩:=sf j t;exact ⟨⟨u,x,z,A,B⟩,c 0 ω,c 1 ω,c 2 ω,c 3 ω,⟨c4,c 4 ω,r⟩,m,p,q⟩) h a
def VO {n:Nat} {v:ϒ} {y:DataW H×List MemPlace} (h:DataW.trod enc prog w base spare held n 26 [v]=ς y) (a:MC 26 y.1):∃ l:List Gl,AE w w 2 (GP w) v l:=
 EC ⟨0,[]⟩ (by_:=32) underlying26 κ κ ω ω (λb o n d y c g h a=>by
  match d,g with
  | [c0,c1],_=>
   obtain ⟨_,_,e,_⟩:=Aw underlying72 h a 0 rfl Bf rfl;obtain ⟨_,_,f,k⟩:=Aw underlying72 h a 1 rfl EV rfl;obtain ⟨m,rfl,i⟩:=DV e;obtain ⟨p,j⟩:=GN f k;exact ⟨⟨m,p⟩,c 0 ω,⟨c1,c 1 ω,j⟩,i⟩) h a
def Wh {t:TypeId} {fs:Array Field} {r:Go.Reach} {e:Nat} {v:ϒ} {d:DataW H} {p:List MemPlace} (hs:prog.underlying t=ς (.struct fs)) (g:Value.okWide prog w r e t v) (h:DataW.Trod enc prog w base spare held t v d p) :
  ∃ (a:List ϒ) (n:Nat),v=.agg a.toArray/\a.length=prog.cellsOf t/\DataW.trod enc prog w base spare held n t a=ς (d,p):=by
 obtain ⟨a,rfl,c⟩:=okWide_struct hs g;obtain ⟨b,f⟩:=h;exact ⟨a.toList,b,ψ,by simpa using c,by simpa [Value.cells] using f⟩
def Y4 {r:Go.Reach} {b:Nat} {v:ϒ} {d:DataW H} {p:List MemPlace} (k:Value.okWide prog w r b 25 v) (h:DataW.Trod enc prog w base spare held 25 v d p) (a:MC 25 d):∃ c,BF w w v c:=by
 obtain ⟨e,n,rfl,j,h⟩:=Wh underlying25 k h
 match e,j.trans (show prog.cellsOf 25=3 by kernel_rfl) with
 | [c0,c1,c2],_=>obtain ⟨_,_,f,q⟩:=Aw underlying25 h a 0 rfl EV rfl;obtain ⟨_,_,g,_⟩:=Aw underlying25 h a 1 rfl Bf rfl;obtain ⟨_,_,i,s⟩:=Aw underlying25 h a 2 rfl κ rfl;obtain ⟨t,l⟩:=GN f q;obtain ⟨u,rfl,m⟩:=DV g;obtain ⟨x,o⟩:=se i s;exact ⟨⟨t,u,x⟩,c0,c2,rfl,l,o,m⟩
def bj {r:Go.Reach} {b:Nat} {v:ϒ} {d:DataW H} {p:List MemPlace} (i:Value.okWide prog w r b 28 v) (h:DataW.Trod enc prog w base spare held 28 v d p) (a:MC 28 d):∃ m,Lw w w v m:=by
 obtain ⟨c,n,rfl,g,h⟩:=Wh underlying28 i h
 match c,g.trans (show prog.cellsOf 28=2 by kernel_rfl) with
 | [c0,c1],_=>obtain ⟨_,_,e,l⟩:=Aw underlying28 h a 0 rfl EV rfl;obtain ⟨_,_,f,o⟩:=Aw underlying28 h a 1 rfl κ rfl;obtain ⟨q,j⟩:=GN e l;obtain ⟨s,k⟩:=VO f o;exact ⟨⟨q,s⟩,c0,c1,rfl,j,k⟩
end
end Go.Proofs.YtigbfkiddlhhjaaGreatDoor
namespace Go.Proofs.YtigbfkiddlhhjaaGreatDoor
open Go.ChangeShapes Go.WideShapes Go.ChangeAt Go.WideElems Go.RowKit Proofs.Tryz
def own:ownKnob prog.godebug=none:=by kernel_rfl
def X7:laidOutB prog=ϑ:=by kernel_rfl
def YY:List (String×DataW Unit):=[("math/bits.deBruijn64tab",Rows.laid_math_bits_deBruijn64tab),("unicode.White_Space",Rows.laid_unicode_White_Space),("strings.asciiSpace",Rows.laid_strings_asciiSpace)]
def Yl (os:Os) (args:Array ϒ):laidMetH prog YY ((World.doorLaid prog 38 os).forCall (λ_ _=>0) ⟨#[],args,[]⟩).memory:=
 laidMetH_of_parts3 (fuel:=8) (laidMet_of_run' 8 κ κ) κ κ
def tq:prog.globalNamed "math/bits.deBruijn64tab"=ς 0:=by kernel_rfl
def rm:(prog.globals[0]?).map (·.type)=ς 231:=by kernel_rfl
def tx:prog.globalNamed "strings.asciiSpace"=ς 1:=by kernel_rfl
def rk:(prog.globals[1]?).map (·.type)=ς 245:=by kernel_rfl
def ig:prog.cellsOf 5=1:=by kernel_rfl
def gf:List Int:=Lib.deBruijn64tab.map (λ(n:Nat)=>(n:Int))
def Yv {W:Ϣ} (h:laidMetH prog YY W):C8 W:=by
 rw [MakeChecks.laidMetH_plain _ _ _ κ] at h;have b:laidMet prog (("math/bits.deBruijn64tab",Lib.tabData .u8 gf)::[("unicode.White_Space",Rows.laid_unicode_White_Space),("strings.asciiSpace",Rows.laid_strings_asciiSpace)]) W:=h;have c:laidMet prog [("strings.asciiSpace",Lib.tabData .u8 Lib.asciiSpaceTab)] W:=h.tail.tail;have e:=Lib.tabIs_of_head tq rm underlying231 underlying5 ig κ b;have f:=Lib.tabIs_of_head tx rk underlying245 underlying5 ig κ c;refine ⟨f,λj a=>?_⟩;have d:j<gf.length:=by unfold gf;rw [List.length_map];exact a
 rw [e.cell tq j d];unfold gf;rw [List.getD_eq_getElem?_getD,List.getElem?_map,Lg a,List.getD_eq_getElem?_getD,Lg a];rfl
def ZT {H:Type} {enc:TypeId×ϒ->H} {W c:Ϣ} {e:Nat->Bool}:∀ {b:List TypeId} {vs:List ϒ} {ds:List (DataW H)} {ps:List MemPlace},
  (∀ t∈b,prog.readableRec t=ϑ/\t<prog.types.size)->DataW.TrodAll enc prog W 0 (λ_=>ϑ) ϑ b vs ds ps->(∀ x∈ps,W.sameAt c x)->(∀ x∈ps,e x.block=ϑ)->DataW.TrodAll enc prog c 0 e ϑ b vs ds ps
 | [],[],[],_,_,h,_,_=>h
 | t::b,v::vs,d::ds,ps,hr,h,hb,hs=>by obtain ⟨p,q,f,g,rfl⟩:=h;exact ⟨p,q,Trod_stays X7 (hr t ψ).1 (hr t ψ).2 f (λx a=>hb x (by simp [a])) (λx a=>hs x (by simp [a])),ZT (λu i=>hr u (by simp [i])) g (λx a=>hb x (by simp [a])) (λx a=>hs x (by simp [a])),rfl⟩
 | [],_::_,_,_,_,h,_,_=>h.elim
 | [],[],_::_,_,_,h,_,_=>h.elim
 | _::_,[],_,_,_,h,_,_=>h.elim
 | _::_,_::_,[],_,_,h,_,_=>h.elim
def Yp {H:Type} {enc:TypeId×ϒ->H} {f:Func} {s:ChangeSpec} {W g:Ϣ} {args:Array ϒ} {d:List (DataW H)} {b:List MemPlace} (a:s.vars=[])
  (v:∀ t∈f.params.toList,prog.readableRec t=ϑ/\t<prog.types.size) (e:f.resultTypes=#[4])
  (l:DataW.Whole enc prog f.params.toList s.vars ϝ W args.toList d [] b) (n:(s.fn H (d++[])).results=[.lit (.bool ϑ)]) (o:(s.fn H (d++[])).args=d) (r:(s.fn H (d++[])).vars=[]) (m:Below W W g) :
  s.post enc prog f ϝ ϑ ϝ ϝ W args (.bool ϑ) g:=by
 have i:=l;obtain ⟨p,q,u,k,rfl,w,y⟩:=l;rw [a] at k;obtain ⟨_,rfl⟩:=trodVars_none k;have j:=λx c=>i.lt x (by simpa using c);refine ⟨d,[],p++[],[],p,[],i,?_,?_,?_,World.keptBut_mono (λx c=>⟨c,.inr (.inl (by simpa using c))⟩) (m.frame _),λh=>by cases h⟩
 .rw [e,n];exact trodAll_mk1 (shut_bool underlying4 _)
 .rw [o];exact ZT v u (λx c=>m.same (j x c)) (λx c=>by simpa using j x c)
 .rw [r,a];rfl
