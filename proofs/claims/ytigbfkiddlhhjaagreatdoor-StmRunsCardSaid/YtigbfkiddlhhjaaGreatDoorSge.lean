import Derived.Test.YtigbfkiddlhhjaaGreatDoorPst3
set_option maxHeartbeats 8000000
set_option maxRecDepth 100000
set_option linter.all false
open Go.Value renaming slice→X
open Go.Obj renaming cells→χ
namespace Go.Proofs.YtigbfkiddlhhjaaGreatDoor
open Go.RowKit Proofs.Tryz
def PE{w:World}{bm h cap:Nat}{bT:Array Value}{Q:List Value}{fs:List AY}{f:AY}{lv bU:Value}{m:AV}{e Fl Fs:List Nat}(z E:Option Addr)(v u r:Nat)(g:Int)(s:AN w bm h cap bT Q fs f lv bU m e Fl Fs)(cC:fs.length<200)
  (B:Nat) (q:∀n∈bm::h::(e++(Fl++Fs)),B<=n) (i:List BK) (cB:i.length<=1000000) (d:AE B w 5 (CW B) (X E i r) i) (k:Nat) (l:f.fn=k) (y:BK) (t:i[k]?=some y) (p:Nat) (b:f.pc=p) (x:Cd) (bZ:y.q9[p]?=some x) (bY:y.q9.length<=1000000)
  (bX:0<=m.I/\m.I<100000) (o:KM)
  (a:((x.op=6)/\∃(j:List Int),∃(c:Int),(f.S=j++[c])/\(c<1)/\o=.stop (Ah 17) {m with I:=m.I+1,J:=fs++[{f with pc:=f.pc+1,S:=j}]})\/((x.op=6)/\∃(j:List Int),∃(c:Int),(f.S=j++[c])/\(1<=c)/\o=.stop ⟨1,c,x.a,0,0⟩ {m with I:=m.I+1,J:=fs++[{f with pc:=f.pc+1,S:=j}]})) :
  Calls prog 168 #[DH (X z v u) (X E i r) g bm] w (EM w bm (bm::h::(e++(Fl++Fs))) o):=by
 have T:=Lh a;clear a;obtain⟨S,P⟩:=x;obtain⟨_,M,a,-,-,-,C⟩:=id d;rcases C with F|⟨n,o,rfl,-,-⟩
 .rw [F]at t;simp at t
 obtain⟨rfl,rfl⟩:E=some (π n o)/\r=M:=by simpa using a
 clear a;refine(Xb z n o v u r g (Lh s) cC B (Lh q) i cB (Lh d) k (Lh l) y t p (Lh b) S P bZ bY bX _).2 (Lh ?_);intro t t t t t t t t L t t t t t t t t t t t A bV bW t cH cI cJ cK cD cM t cL t t t t;have cA:=Lh b;clear s q d l b;rcases T.o with ⟨q,j,c,l,R,rfl⟩|⟨q,j,c,l,R,rfl⟩
 .have G:=Lh q
  clear q T;obtain rfl:S=6:=G.o;have bQ:=Lh l;clear l;have V:Hid (AN A.drew bm h cap (bT.setIfInBounds (fs.length*4+1) (ι ((p:Int)+1))) Q fs {f with pc:=(p:Int)+1} lv bU {m with I:=m.I+1} e Fl Fs):=bV.o.kp (AG Br 1);have bS:Hid (AW (bm::h::(e++(Fl++Fs))) (bm::h::(e++(Fl++Fs))) w A.drew):=bW.o.trans (AW.ob (AG Br 1));go_upto_region 20 with fail;go_region_with (first|(go_at_call 183;refine(JI z (some (π n o)) v u i.length r g V.o ω j c bQ.o R).mono ?_;rintro b d N;obtain⟨rfl,hF⟩|⟨rfl,cE,cG,cF,s,a⟩:(b=.returned (ι 0)/\Hid False)\/GR (Ah 17) _ bm h cap Q fs _ lv _ e Fl _ b d:=.inr N;rotate_left;(refine⟨rfl,?_⟩;rw[cA.o];exact⟨rfl,_,(s.reframe _).own rfl,bS.o.trans a⟩);have:d.cell? (π w 0)=some (X z v u):=hF.o.elim;have:d.cell? (π w 1)=some (ι g):=hF.o.elim;have:d.cell? (π w 2)=some (X (some (π n o)) i r):=hF.o.elim;have:d.cell? (π w 3)=some (.pointer (some (π bm 0))):=hF.o.elim;have:d.cell? (π cD 1)=some (ι P):=hF.o.elim)|(go_at_call 182;refine(show Calls prog 182 _ _ (λb _=>b=.returned (.tuple #[]))from hF.o.elim).mono ?_;rintro b w7 rfl));all_goals exact hF.o.elim
 have J:=Lh q;clear q T;obtain rfl:S=6:=J.o;have bR:=Lh l;clear l;have W:Hid (AN A.drew bm h cap (bT.setIfInBounds (fs.length*4+1) (ι ((p:Int)+1))) Q fs {f with pc:=(p:Int)+1} lv bU {m with I:=m.I+1} e Fl Fs):=bV.o.kp (AG Br 1);have Y:Hid (AW (bm::h::(e++(Fl++Fs))) (bm::h::(e++(Fl++Fs))) w A.drew):=bW.o.trans (AW.ob (AG Br 1));go_upto_region 20 with fail;go_region_with (first|(go_at_call 183;refine(IG z (some (π n o)) v u i.length r g W.o ω j c bR.o R).mono ?_;rintro b d⟨rfl,cE,cG,cF,s,a⟩;have:=a.cd cH L;have:=a.cd cI L;have:=a.cd cJ L;have:=a.cd cK L;have:=a.cd cL cM;have q:=Lh s;have T:=Lh (Y.o.trans a);clear s a)|(go_at_call 182;refine(GU z (some (π n o)) v u i.length r g bm 1 c P 0 0 _).mono ?_;rintro b w9 l;obtain⟨rfl,hF⟩|⟨rfl,hb9⟩:(b=.returned (.tuple #[])/\Hid False)\/Ky ⟨1,c,P,0,0⟩ _ b w9:=.inr l;rotate_left;(refine⟨rfl,?_⟩;rw[cA.o];exact⟨rfl,_,((q.o.kp hb9).reframe _).own rfl,T.o.trans (AW.ob hb9)⟩)));all_goals exact hF.o.elim
