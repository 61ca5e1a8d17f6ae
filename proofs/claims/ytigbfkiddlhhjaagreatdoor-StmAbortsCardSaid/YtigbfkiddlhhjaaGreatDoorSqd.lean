import Derived.Test.YtigbfkiddlhhjaaGreatDoorSpz
set_option linter.all false
open Go.Value renaming slice→σ
open Go.Obj renaming cells→χ
namespace Go.Proofs.YtigbfkiddlhhjaaGreatDoor
open Go.RowKit
variable {c:AQ} {s s':Tra} {i:Nat} {x:Trx}
def Ax.mil (hs:AU c) (b:Bv c) {m:AV} (h:Ax c m):m.J.length<=1000/\∀ f∈m.J,f.L.length<=1000000/\f.S.length<=1000000:=by
 refine ⟨by have:=h.len;omega,λf a=>?_⟩;rcases h.body with ⟨e,_⟩|⟨_,d⟩
 .rw [e] at a;cases a
 .obtain ⟨k,hk,rfl⟩:=List.getElem_of_mem a
  exact DL.mil hs b (d k _ (Lg hk))
def Dp.fl (hs:AU c) {m:Mm} (h:Dp c m):∀ x∈m.N,x.f.length<=12:=λx d=>by
 obtain ⟨_,b,_⟩:=h.N x d;have a:=hs.1.2.1;rw [List.any_eq_false] at a;have:=a _ (Lm b);simp at this;omega
def InvS.copyS (h:InvS c s) (q:Bv c) (E:s.active.length<=8) (D:s.U<=65536):CopyS s:=by
 have n:=h.sound;have F:=h.M.gl;have B:=n.1.2.2.2.1;have p:=h.M.fl n;have G:=h.M.len;have i:∀ {t:Nat},t<s.active.length->∃ x l r b e,AtS s t x l r b e/\ThS c s.M s.clock s.U x l r b e:=fun {t} a=>by obtain ⟨l,r,b,e,g⟩:=InvK.row h (Lg a);exact ⟨_,l,r,b,e,g,h.all _ _ _ _ _ _ g⟩
 refine ⟨ω,⟨ω,λx m=>by have:=p x m;omega⟩,⟨by rw [h.vers.len];omega,λl j=>?_⟩,⟨by rw [h.Z];omega,λl j=>?_⟩,⟨by rw [h.P];omega,λl j=>?_⟩,⟨by rw [h.results];omega,λl j=>?_⟩,?_,⟨by rw [h.A];omega,λl j=>?_⟩,⟨ω,λx m=>?_⟩⟩
 .obtain ⟨k,hk⟩:=List.mem_iff_getElem?.1 j
  have C:=(Ll hk)
  cases k with
  | zero=>have:=h.vers.zero;rw [getD_at hk] at this;omega
  | succ k=>
   have v:=h.vers.len;obtain ⟨x,m⟩:∃ x,s.M.N[k]?=some x:=⟨_,Lg ω⟩
   have:=h.vers.O k x m;rw [getD_at hk] at this;have:=p x (Lm m);omega
 .obtain ⟨t,a⟩:=List.mem_iff_getElem?.1 j
  obtain ⟨x,o,r,b,e,g,d⟩:=i (t:=t) (by rw [<-h.Z];exact (Ll a));obtain rfl:b=l:=by simpa using g.b.symm.trans a
  have:=d.ops;rcases d.act with ⟨_,w⟩|⟨_,_,w⟩<;>omega
 .obtain ⟨t,a⟩:=List.mem_iff_getElem?.1 j
  obtain ⟨x,o,r,b,e,g,d⟩:=i (t:=t) (by rw [<-h.P];exact (Ll a));obtain rfl:e=l:=by simpa using g.e.symm.trans a
  have:=d.ops;have:=d.P;omega
 .obtain ⟨t,a⟩:=List.mem_iff_getElem?.1 j
  obtain ⟨x,o,r,b,e,g,d⟩:=i (t:=t) (by rw [<-h.results];exact (Ll a));obtain rfl:r=l:=by simpa using g.r.symm.trans a
  have:=d.ops;omega
 .have:=h.order.len (k:=s.U) (Int.le_trans h.clock.1 h.clock.2) h.endsLt
  omega
 .obtain ⟨t,a⟩:=List.mem_iff_getElem?.1 j
  obtain ⟨x,o,r,b,e,g,d⟩:=i (t:=t) (by rw [<-h.A];exact (Ll a));obtain rfl:o=l:=by simpa using g.l.symm.trans a
  exact ⟨by have:=d.ops;omega,λy z=>P8 n (d.right y z)⟩
 .obtain ⟨t,a⟩:=List.mem_iff_getElem?.1 m
  obtain ⟨A,o,r,b,e,g,d⟩:=i (t:=t) (Ll a);obtain rfl:A=x:=by simpa using g.x.symm.trans a
  rcases d.act with ⟨rfl,_⟩|⟨u,_⟩
  .exact ⟨⟨by simp [zeroX],by simp [zeroX]⟩,by simp [zeroX,AI],λf p=>by simp [zeroX,AI] at p⟩
  .have hc:=u.count
   have v:=(u.mach.valid n).mil n q;exact ⟨⟨ω,ω⟩,ω,v.2⟩
def InvO (s:Tra):Prop:=∀ l∈s.results,∀ o∈l,Q9 o
def CommitS.outs {f v:Int} (a:MidS c s i x) (d:InvO s) (q:s.U<=65536) (j:in64 f) (m:in64 v) (h:CommitS c s i x f v s'):InvO s':=by
 rcases h with ⟨_,y,_,rfl⟩|⟨_,rfl⟩
 .exact d
 .intro l hl o aA
  have e:l∈s.results.modify i (·++[⟨f,v,x.run.C,x.N,0⟩]):=hl;obtain ⟨t,k⟩:=List.mem_iff_getElem?.1 e;obtain ⟨p,g,rfl⟩:=mod_some k;have b:=d p (Lm g);split at aA
  .rcases List.mem_append.1 aA with h1|h1
   .exact b o h1
   .obtain rfl:o=_:=by simpa using h1
    have n:=RN a.inv.sound a.ok.mach.P a.ok.mach.Y;have r:=a.ok.N;exact ⟨j,m,n.2.2.1,by unfold in64;constructor<;>(dsimp only;omega),by unfold in64;constructor<;>(dsimp only;omega)⟩
  .exact b o aA
def GoS.outs {j:Bool} (b:MidS c s i x) (a:InvO s) (e:s.U<=65536) (h:GoS c s i x j s'):InvO s':=by
 have f:=RN b.inv.sound b.ok.mach.P b.ok.mach.Y;rcases h with ⟨_,_,rfl⟩|⟨_,_,d⟩|⟨_,⟨_,_,g,_,rfl⟩|⟨_,_,g,_,rfl⟩|⟨_,_,g,_,rfl⟩|⟨_,_,d⟩⟩
 .exact a
 .exact d.outs b a e f.1.2.2.2.2 f.1.2.2.2.1
 .exact a
 .exact a
 .exact a
 .exact d.outs b a e (by unfold in64;omega) (by unfold in64;omega)
def gw.outs (h:InvS c s) (e:InvO s) (d:s.U<=65536) (hs:gw c s i s'):InvO s':=by
 obtain ⟨x,g,f,rfl,⟨b,y,j,a⟩|⟨b,a⟩⟩:=hs
 .have:InvO g:=a.outs (s:=startS s i y) (h.begins_ f b j) e d
  exact this
 .have:InvO g:=a.outs (h.goes f b) e d
  exact this
def newS_outs (m:Mm) (fuel:Int) (a:List (List Bi)):InvO (ff m fuel a):=λl d o b=>by
 have c:l∈List.replicate a.length ([]:List CD):=d;rw [(List.mem_replicate.1 c).2] at b;cases b
def timesB_rng:∀ {b e:List Int} {last k:Int},timesB b e last k=true->-1<=last->e.length<=b.length->(∀ v∈b,0<=v/\v<k)/\∀ v∈e,0<=v/\v<k
 | [],[],_,_,_,_,_=>⟨λv a=>by simp at a,λv a=>by simp at a⟩
 | [],e::es,_,_,_,_,hl=>by simp at hl
 | b::bs,[],last,k,h,h1,_=>by
  unfold timesB at h;simp only [Bool.and_eq_true,decide_eq_true_eq] at h;have:=timesB_rng h.2.2 ω (Nat.zero_le _);exact ⟨λv a=>by
   rcases List.mem_cons.1 a with rfl|a
   .omega
   .exact this.1 v a,λv a=>by simp at a⟩
 | b::bs,e::es,last,k,h,h1,hl=>by
  unfold timesB at h;simp only [Bool.and_eq_true,decide_eq_true_eq] at h;have:=timesB_rng h.2.2.2.2 ω (by simpa using hl);exact ⟨λv a=>by
   rcases List.mem_cons.1 a with rfl|a
   .omega
   .exact this.1 v a,λv a=>by
   rcases List.mem_cons.1 a with rfl|a
   .omega
   .exact this.2 v a⟩
def InvS.wf (h:InvS c s) (p:InvO s) (C:s.U<=65536):TraWf s:=by
 have w:=h.sound;have in_of:∀ n:Int,BP n->in64 n:=λn d=>by unfold BP at d;unfold in64;omega
 have k:∀ {t:Nat},t<s.active.length->∃ x l r b e,AtS s t x l r b e/\ThS c s.M s.clock s.U x l r b e:=fun {t} a=>by obtain ⟨l,r,b,e,f⟩:=InvK.row h (Lg a);exact ⟨_,l,r,b,e,f,h.all _ _ _ _ _ _ f⟩
 have y:∀ {t:Nat},t<s.active.length->∃ b e,s.Z[t]?=some b/\s.P[t]?=some e/\(∀ v∈b,0<=v/\v<s.U)/\∀ v∈e,0<=v/\v<s.U:=fun {t} a=>by obtain ⟨x,z,r,b,e,f,i⟩:=k a;have:=timesB_rng i.times ω (by rw [i.P];rcases i.act with ⟨_,g⟩|⟨_,_,g⟩<;>omega);exact ⟨b,e,f.b,f.e,this⟩
 refine ⟨λn d=>in_of n (h.M.gv n d),λx u=>?_,λl j n d=>?_,λx u=>?_,p,λl j n d=>?_,λl j n d=>?_⟩
 .obtain ⟨g,m,o⟩:=h.M.N x u
  have q:=(Ll m)
  have B:=w.1.1;exact ⟨by unfold in64;omega,λn d=>in_of n (o n d)⟩
 .have:=h.vers.vals l j n d
  have:=h.clock;unfold in64;omega
 .obtain ⟨t,a⟩:=List.mem_iff_getElem?.1 u
  obtain ⟨A,z,r,b,e,f,i⟩:=k (t:=t) (Ll a);obtain rfl:A=x:=by simpa using f.x.symm.trans a
  rcases i.act with ⟨rfl,_⟩|⟨p,_⟩
  .exact XL
  .exact RN w p.mach.P p.mach.Y
 .obtain ⟨t,a⟩:=List.mem_iff_getElem?.1 j
  obtain ⟨b,e,g,m,o,q⟩:=y (t:=t) (by rw [<-h.Z];exact (Ll a));obtain rfl:b=l:=by simpa using g.symm.trans a
  have:=o n d;unfold in64;omega
 .obtain ⟨t,a⟩:=List.mem_iff_getElem?.1 j
  obtain ⟨b,e,g,m,o,q⟩:=y (t:=t) (by rw [<-h.P];exact (Ll a));obtain rfl:e=l:=by simpa using m.symm.trans a
  have:=q n d;unfold in64;omega
