import Derived.Test.YtigbfkiddlhhjaaGreatDoorHtSt
import Derived.Deep.AppendLies
import Derived.Deep.RegionLaw
import Derived.Deep.RegionHeld3
import Derived.Deep.RegionWith
set_option maxHeartbeats 8000000
set_option maxRecDepth 100000
set_option linter.all false
open Go renaming World→Ϣ,Value→ϒ,Calls→ϙ,heap_setCell_same→ϡ
open Go.RowKit renaming Below→ϐ
open Option renaming some→O
open Bool renaming false→ϝ,true→ϑ
open List renaming replicate→ϱ,mem_cons→ϰ
open Go.Value renaming slice→H
open Go.Obj renaming cells→K
namespace Go.Proofs.YtigbfkiddlhhjaaGreatDoor
open Go.RowKit Proofs.Tryz
open Go.RowKit renaming ι→X,π→D,ω→U,ν→Z
variable{c:AQ}{f f':AY}{F F' Fi Fl Fs Fs':List Nat}{a:Addr}{w w' W wr:Ϣ}{B bm fb cap k n z bl lb:Nat}{v lv sv sv':ϒ}{l args:List Int}{m m':AV}{fs:List AY}{cur:Array ϒ}{cs:List ϒ}{op:Int}
def AU(c:AQ):Prop:=Jy c/\Dl c=ϝ/\∀f∈c.q0,CQ c f
noncomputable def DW(c:AQ):Bool:=@decide (AU c) (Classical.propDecidable _)
def CZ(a:AU c):DW c=ϑ:=by unfold DW;exact @decide_eq_true _ (Classical.propDecidable _) a
def FA(a:¬AU c):DW c=ϝ:=by unfold DW;exact @decide_eq_false _ (Classical.propDecidable _) a
def Ki:DW c=ϑ↔AU c:=by
 constructor
 .intro b
  by_cases a:AU c
  .exact a
  rw[FA a]at b;cases b
 exact CZ
def LN{f:BK}{x:Cd}(a:Dl c=ϝ)(b:f∈c.q0)(d:x∈f.q9):Ct c f x=ϑ:=by
 unfold Dl at a;rw[List.any_eq_false]at a;have:=a f b;simp only[Bool.not_eq_true]at this;rw[List.any_eq_false]at this;simpa using this x d
def Pm(b:Bool):0<=D0 b/\D0 b<=1:=by cases b<;>simp[D0]
def V6(op:Int):0<=Bk op/\Bk op<=2:=by unfold Bk;split<;>(try split)<;>omega
def UU(op:Int):0<=DI op/\DI op<=2:=by unfold DI;split<;>(try split)<;>omega
def NM(e:Jy c){f:BK}(d:f∈c.q0):CX f:=by
 obtain⟨a,b,rfl⟩:=List.getElem_of_mem d;exact(e.2.2.2.2.2 a _ (Lg b)).2.1
def Qr{f:BK}(q:Jy c)(k:Dl c=ϝ)(g:f∈c.q0):Pg c f:=by
 have i:=NM q g;unfold CX at i;have l:∀d∈f.q9,1<=d.op/\d.op<=31:=λd h=>by
  have:=LN k g h;unfold Ct at this;split at this
  .cases this
  omega
 have j:∀d∈f.q9,∀n,Ey c f d.op=O n->0<=d.a/\d.a<n:=λd h n o=>by have:=LN k g h;have g:=l d h;unfold Ct at this;rw[if_neg U,o]at this;simpa using this
 refine⟨i.2.2.2.2.1,i.2.2.2.2.2,l,λa b d=>?_,λa b e=>?_,λa b=>?_,λa b=>?_⟩
 .have:=j a b c.q0.length (by unfold Ey;rw[d];rfl)
  exact this
 .rcases e with e|e
  .exact j a b f.q9.length (by unfold Ey;rw[e];rfl)
  exact j a b f.q9.length (by unfold Ey;rw[e];rfl)
 .unfold AM
  split
  .cases m:Dt c a.a with
   |none=>simp
   |some b=>have:=NM q (Lm m);unfold CX at this;simp only[];omega
  split
  .have:=Pm f.result;omega
  split
  .omega
  have:=V6 a.op;omega
 unfold AK;split
 .cases p:Dt c a.a with
  |none=>simp
  |some b=>have:=Pm b.result;simp only[];omega
 split
 .omega
 split
 .omega
 exact UU a.op
def Q6(c:AQ)(w:Ϣ)(e:Ending)(w':Ϣ):Prop:=
 ∃i k err:Int,e=.returned (.tuple #[X i,X k,X err])/\(err=0↔AU c)/\ϐ w w w'
def MQ(c:AQ)(e:ϒ)(B:Nat)(w:Ϣ)(M:C8 w)(l:B<=w)(o:BF B w e c) :
  ϙ prog 48 #[e] w (Q6 c w):=by
 have bC:=Lh o;have bY:=Lh M;obtain⟨_,_,rfl,z,F,-⟩:=o;obtain⟨_,_,rfl,-,-,-,-⟩:=z;obtain⟨_,_,rfl,_,_,_,x⟩:=F;have cB:=Lh x;go_in;go_wp2_with fail;refine(LH c _ B _ (bY.o.below (AA _ _)) φ (bC.o.below ((AA _ _).mono l))).mono ?_;rintro y o⟨rfl,e⟩;have bN:=Cc e 0 _ rfl;have bM:=Cc e 1 _ rfl;have bB:=Cc e 2 _ rfl;have R:=As e;by_cases u:Jy c
 .rw [FP u]
  have bZ:=Lh u;go_wp2_with fail;refine(Mk c _ B _ (Nt l R.size) (bC.o.below (R.mono l))).mono ?_;rintro y v⟨_,k,rfl,m⟩;have r:=Δ3 m bN bM bB;have L:=R.th m;cases N:Dl c with
  |true=>
   have s:Hid (¬AU c):=λa=>by rw[a.2.1]at N;cases N
   go_wp2_with fail;go_ret3;exact⟨_,_,_,rfl,⟨(λa=>by cases a),λa=>absurd a s⟩,L⟩
  |false=>
   have bX:=Lh N;go_wp2_with fail;go_loopg[28] (c.q0.length+1) (λgk e wr=>∃k:Nat,c.q0.length+1<=gk+k/\k<=c.q0.length/\e=X k/\ϐ v v wr/\Hid (∀(e:Nat) f,e<k->c.q0[e]?=O f->CQ c f));exact⟨0,U,Nat.zero_le _,rfl,Below.refl _ _,λm f e=>by omega⟩;obtain⟨k,_,_,rfl,J,bV⟩:=hrel;have t:=L.th J;have e:=Δ3 J r.1 r.2.1 r.2.2;have:(w:Nat)<wr:=Bl e.1;by_cases bW:k<c.q0.length
   .obtain ⟨b,g⟩:=Ϡ c.q0 k bW
    rcases cB.o with a|⟨_,_,rfl,G,i⟩
    .rw [a]at g;simp at g
    have i:=(i k b g).below (t.mono l) G;let⟨_,_,_,_,⟨_,_,n⟩,bS,bT,bU⟩:=i;have bQ:=Lh n;obtain⟨T,V,rfl,-,-,-,-⟩:=n;have bP:=Lh (Qr bZ.o bX.o (Lm g));have S:=Lh g;have j:=t.th (AA wr (K #[.string b.name,X b.params,X b.L,.bool b.result,H T b.q9 V] 70));go_wp2_with fail;refine(KA c _ b _ B _ (bY.o.below j) (Nt l j.size) (bC.o.below (j.mono l)) ⟨_,rfl,bQ.o.inss ((AA _ _).mono (Nt l t.size)),bS,bT,bU⟩ bP.o).mono ?_;rintro y cA(⟨_,_,rfl,q,_,s,p⟩|⟨_,_,rfl,_,_,bR,_,p⟩)
    .have Y:Hid (¬AU c):=λa=>s (a.2.2 b (Lm S.o))
     have:=bne_iff_ne.2 q;have P:=j.th p;go_wp2_with fail;go_ret3;exact⟨_,_,_,rfl,⟨λa=>absurd a q,λa=>absurd a Y⟩,P⟩
    have bO:Hid (∀(d:Nat) f,d<k+1->c.q0[d]?=O f->CQ c f):=λd f b h=>by
     by_cases y:d=k
     .subst y;rw[S.o]at h;cases h;exact bR
     exact bV d f U h
    have Q:=J.thenA p;go_wp2_with fail;go_roundg(gk-1);exact⟨k+1,U,U,by go_num,Q,bO⟩;omega
   have W:Hid (AU c):=⟨bZ.o,bX.o,λf C=>by
    obtain⟨A,E,rfl⟩:=List.getElem_of_mem C;exact bV A _ U (Lg E)⟩
   go_wp2_with fail;go_ret3;exact⟨_,_,_,rfl,⟨λ_=>W,λ_=>rfl⟩,t⟩
 rw[Bs u];have s:Hid (¬AU c):=λa=>u a.1;go_wp2_with fail;go_ret3;exact⟨_,_,_,rfl,⟨(λa=>by cases a),λa=>absurd a s⟩,R⟩
def Hc(c:AQ)(d:ϒ)(B:Nat)(w:Ϣ)(a:C8 w)(q:B<=w)(e:BF B w d c) :
  ϙ prog 138 #[d] w λd w'=>d=.returned (.bool (DW c))/\ϐ w w w':=by
 have p:=Lh e;have o:=Lh a;obtain⟨_,_,rfl,h,j,-⟩:=e;obtain⟨_,_,rfl,-,-,-,-⟩:=h;obtain⟨_,_,rfl,_,_,_,-⟩:=j;clear a;go_in;go_wp2_with fail;refine(MQ c _ B _ (o.o.below (AA _ _)) φ (p.o.below ((AA _ _).mono q))).mono ?_;rintro r s⟨_,k,i,rfl,b,g⟩;have f:=As g;by_cases a:i=0
 .have l:=Lh (CZ (b.1 a))
  subst a;clear b;go_wp2;go_ret;exact⟨by rw[l.o];rfl,f⟩
 have m:=Lh (FA (λd=>a (b.2 d)));have n:=beq_eq_false_iff_ne.2 a;clear b;go_wp2;go_ret;exact⟨by rw[m.o];exact congrArg (λb=>Ending.returned (.bool b)) (by first|exact n|rfl),f⟩
def Be(w:Ϣ)(v:ϒ)(l:List Int)(F:List Nat):Prop:=
 w.ownsRow 0 3 1 v l.length (l.map (Value.int .i64))/\F=v.ownBlock.toList/\(∀n∈l,in64 n)
def BJ(w:Ϣ):List ϒ->List AY->List Nat->Prop
 |cells,[],F=>cells=[]/\F=[]
 |cells,f::fs,F=>∃lv sv cs Fl Fs Fr,cells=X f.fn::X f.pc::lv::sv::cs/\Be w lv f.L Fl/\Be w sv f.S Fs/\in64 f.fn/\in64 f.pc/\BJ w cs fs Fr/\F=Fl++(Fs++Fr)
structure AW(F F':List Nat)(w w':Ϣ):Prop where
 os:w'.os=w.os
 tape:w'.tape=w.tape
 output:w'.output=w.output
 size:(w:Nat)<=w'
 block:∀k,k<(w:Nat)->k∉F->w'.heap[k]?=w.heap[k]?
 new:∀b∈F',b∈F\/(w:Nat)<=b
def AW.trans{h:List Nat}{a b c:Ϣ}(d:AW F F' a b)(k:AW F' h b c):AW F h a c:=
 ⟨k.os.trans d.os,k.tape.trans d.tape,k.output.trans d.output,Nt d.size k.size,λf i hF=>by
  rw[k.block f (Nl i d.size) (λj=>by rcases d.new f j with e|e;exact hF e;omega),d.block f i hF],λg l=>by
  rcases k.new g l with e|e
  .exact d.new g e
  have:=d.size;right;omega⟩
def AW.ob(a:ϐ w w w'):AW F F w w':=⟨a.os,a.tape,a.output,a.size,λk b _=>a.block k b,λ_ a=>.inl a⟩
def AW.below(a:AW F F' w w')(hF:∀b∈F,B<=b)(b:B<=w):ϐ B w w':=
 ⟨a.os,a.tape,a.output,a.size,λk b=>a.block k U (λa=>by have:=hF k a;omega)⟩
def AW.cell(c:AW F F' w w')(b:w.cell? a=O v)(hF:a.block∉F):w'.cell? a=O v:=by
 rw[World.cell?_of_block (w:=w) (c.block a.block (World.block_lt_of_cell? w a b) hF)];exact b
def AW.cd(c:AW F F' w.drew w')(b:w.cell? a=O v)(hF:a.block∉F):w'.cell? a=O v:=c.cell b hF
def AW.ge(d:AW F F' w w')(hF:∀a∈F,B<=a)(e:B<=w):∀a∈F',B<=a:=λa c=>by
 rcases d.new a c with b|b
 .exact hF a b
 omega
def Be.kp(i:Be w v l F)(m:∀a∈F,w'.heap[a]?=w.heap[a]?):Be w' v l F:=by
 let⟨b,d,f⟩:=i;subst d;refine⟨⟨b.1,?_⟩,rfl,f⟩;rcases b.2 with e|⟨c,cap,g,rfl,h,j,k⟩
 .exact .inl e
 exact .inr ⟨c,cap,g,rfl,h,by rw[m c (by simp[Value.ownBlock])];exact j,k⟩
def Be.lt(e:Be w v l F):∀a∈F,a<(w:Nat):=λa b=>by
 let⟨d,c,_⟩:=e;subst c;simp at b;exact(d.lt a b).2
def BJ.kp:∀{fs:List AY}{cells:List ϒ}{F:List Nat},BJ w cells fs F->(∀a∈F,w'.heap[a]?=w.heap[a]?)->BJ w' cells fs F
 |[],_,_,h,_=>h
 |_::_,_,_,h,hk=>by obtain⟨lv,sv,cs,Fl,Fs,b,c,d,e,f,g,i,rfl⟩:=h;exact⟨lv,sv,cs,Fl,Fs,b,c,d.kp (λa b=>hk a (by simp[b])),e.kp (λa b=>hk a (by simp[b])),f,g,i.kp (λa b=>hk a (by simp[b])),rfl⟩
def BJ.lt:∀{fs:List AY}{cells:List ϒ}{F:List Nat},BJ w cells fs F->∀b∈F,b<(w:Nat)
 |[],_,_,h,b,a=>by obtain⟨_,rfl⟩:=h;simp at a
 |_::_,_,_,h,b,a=>by
  obtain⟨lv,sv,cs,Fl,Fs,_,_,c,d,_,_,e,rfl⟩:=h;simp at a;rcases a with a|a|a
  .exact c.lt b a
  .exact d.lt b a
  exact e.lt b a
def BJ.len:∀{fs:List AY}{cells:List ϒ}{F:List Nat},BJ w cells fs F->cells.length=fs.length*4
 |[],_,_,h=>by obtain⟨rfl,_⟩:=h;rfl
 |_::_,_,_,h=>by obtain⟨lv,sv,cs,Fl,Fs,_,rfl,_,_,_,_,a,rfl⟩:=h;simp[a.len];omega
def BJ.snoc:∀{fs:List AY}{f:AY}{cells:List ϒ}{F:List Nat},BJ w cells (fs++[f]) F->
  ∃cs lv sv Fi Fl Fs,cells=cs++[X f.fn,X f.pc,lv,sv]/\BJ w cs fs Fi/\Be w lv f.L Fl/\Be w sv f.S Fs/\in64 f.fn/\in64 f.pc/\F=Fi++(Fl++Fs)
 |[],f,cells,F,h=>by obtain⟨lv,sv,cs,Fl,Fs,_,rfl,c,d,e,i,⟨rfl,rfl⟩,rfl⟩:=h;exact⟨[],lv,sv,[],Fl,Fs,rfl,⟨rfl,rfl⟩,c,d,e,i,ψ⟩
 |g::fs,f,cells,F,h=>by obtain⟨lv,sv,cs,Fl,Fs,_,rfl,q,r,s,t,b,rfl⟩:=h;obtain⟨k,a,sv',Fi,j,Fs',rfl,l,m,n,o,p,rfl⟩:=b.snoc;exact⟨_,a,sv',Fl++(Fs++Fi),j,Fs',ψ,⟨lv,sv,k,Fl,Fs,Fi,rfl,q,r,s,t,l,rfl⟩,m,n,o,p,ψ⟩
def BJ.add:∀{fs:List AY}{f:AY}{cs:List ϒ}{lv sv:ϒ}{Fi Fl Fs:List Nat},BJ w cs fs Fi->Be w lv f.L Fl->Be w sv f.S Fs->in64 f.fn->in64 f.pc->
  BJ w (cs++[X f.fn,X f.pc,lv,sv]) (fs++[f]) (Fi++(Fl++Fs))
 |[],f,cs,lv,sv,Fi,Fl,Fs,h,h2,h3,h4,h5=>by obtain⟨rfl,rfl⟩:=h;exact⟨lv,sv,[],Fl,Fs,[],rfl,h2,h3,h4,h5,⟨rfl,rfl⟩,ψ⟩
 |g::fs,f,cs,lv,sv,Fi,Fl,Fs,h,h2,h3,h4,h5=>by obtain⟨c,sv',_,a,Fs',b,rfl,d,e,i,j,k,rfl⟩:=h;exact⟨c,sv',_,a,Fs',b++(Fl++Fs),rfl,d,e,i,j,k.add h2 h3 h4 h5,ψ⟩
def AC(fv:ϒ)(m:AV):Array ϒ:=#[fv,X m.Q.K,X m.Q.O,X m.Q.D,X m.Q.V,X m.Q.X,X m.Y,X m.C,X m.I]
def Ak(w:Ϣ)(bm:Nat)(m:AV)(F:List Nat):Prop:=
 ∃fv cells Fr,w.heap[bm]?=O (K (AC fv m) 59 (0,0))/\w.ownsRow 0 150 4 fv m.J.length cells/\BJ w cells m.J Fr/\F=bm::(fv.ownBlock.toList++Fr)/\F.Nodup
structure AN(w:Ϣ)(bm fb cap:Nat)(cur:Array ϒ)(cs:List ϒ)(fs:List AY)(f:AY)(lv sv:ϒ)(m:AV)(Fi Fl Fs:List Nat):Prop where
 u2:w.heap[bm]?=O (K (AC (H (O (D fb 0)) (fs.length+1) cap) m) 59 (0,0))
 row:w.heap[fb]?=O (K cur 150 (0,0))
 capl:fs.length+1<=cap
 capm:cap<=9223372036854775807
 csize:cur.size=cap*4
 take:cur.toList.take ((fs.length+1)*4)=cs++[X f.fn,X f.pc,lv,sv]
 init:BJ w cs fs Fi
 loc:Be w lv f.L Fl
 stk:Be w sv f.S Fs
 fn:in64 f.fn
 pc:in64 f.pc
 nodup:(bm::fb::(Fi++(Fl++Fs))).Nodup
def Ak.top(o:Ak w bm m F)(n:m.J=fs++[f]) :
  ∃fb cap a cs lv sv Fi Fl Fs,AN w bm fb cap a cs fs f lv sv m Fi Fl Fs/\F=bm::fb::(Fi++(Fl++Fs)):=by
 obtain⟨_,_,_,g,c,b,rfl,u⟩:=o;rw[n]at c b;obtain⟨cs,lv,sv,Fi,Fl,Fs,rfl,p,q,r,s,t,rfl⟩:=b.snoc;rcases c.2 with ⟨_,h⟩|⟨i,cap,a,rfl,_,j,d,k,l,e⟩
 .simp at h
 simp only[List.length_append,List.length_singleton]at d e g;refine⟨i,cap,a,cs,lv,sv,Fi,Fl,Fs,⟨g,j,d,by unfold maxLen at k;omega,l,e,p,q,r,s,t,?_⟩,?_⟩
 .simpa [Value.ownBlock]using u
 simp[Value.ownBlock]
def AN.cslen(a:AN w bm fb cap cur cs fs f lv sv m Fi Fl Fs):cs.length=fs.length*4:=a.init.len
def AN.own(a:AN w bm fb cap cur cs fs f lv sv m Fi Fl Fs)(b:m.J=fs++[f]) :
  Ak w bm m (bm::fb::(Fi++(Fl++Fs))):=by
 have c:m.J.length=fs.length+1:=by rw[b];simp
 refine⟨H (O (D fb 0)) (fs.length+1) cap,cs++[X f.fn,X f.pc,lv,sv],Fi++(Fl++Fs),a.u2,?_,by rw[b];exact a.init.add a.loc a.stk a.fn a.pc,by simp[Value.ownBlock],a.nodup⟩;rw[c];refine⟨by simp[a.cslen];omega,.inr ⟨fb,cap,cur,rfl,Nat.zero_le _,a.row,a.capl,by unfold maxLen;have:=a.capm;omega,a.csize,a.take⟩⟩
def AN.kp(a:AN w bm fb cap cur cs fs f lv sv m Fi Fl Fs)(d:ϐ w w w'):AN w' bm fb cap cur cs fs f lv sv m Fi Fl Fs:=
 ⟨by rw[d.block bm (La a.u2)];exact a.u2,by rw[d.block fb (La a.row)];exact a.row,a.capl,a.capm,a.csize,a.take,a.init.kp (λb c=>d.block b (a.init.lt b c)),a.loc.kp (λb c=>d.block b (a.loc.lt b c)),a.stk.kp (λb c=>d.block b (a.stk.lt b c)),a.fn,a.pc,a.nodup⟩
def AN.sub(a:AN w bm fb cap cur cs fs f lv sv m Fi Fl Fs)(d:∀b∈bm::fb::(Fi++(Fl++Fs)),w'.heap[b]?=w.heap[b]?):AN w' bm fb cap cur cs fs f lv sv m Fi Fl Fs:=
 ⟨by rw[d bm ψ];exact a.u2,by rw[d fb ψ];exact a.row,a.capl,a.capm,a.csize,a.take,a.init.kp (λb c=>d b (by simp[c])),a.loc.kp (λb c=>d b (by simp[c])),a.stk.kp (λb c=>d b (by simp[c])),a.fn,a.pc,a.nodup⟩
def AN.at_(b:AN w bm fb cap cur cs fs f lv sv m Fi Fl Fs)(j:Nat)(v:ϒ)(c:([X f.fn,X f.pc,lv,sv]:List ϒ)[j]?=O v):w.cell? (D fb (fs.length*4+j))=O v:=by
 rw[cell_of_row _ _ _ _ _ _ b.row];have a:(cs++[X f.fn,X f.pc,lv,sv])[fs.length*4+j]?=O v:=by rw[Ar (by rw[b.cslen];omega),b.cslen,Nat.add_sub_cancel_left];exact c
 rw[<-b.take,List.getElem?_take]at a;split at a
 .simpa using a
 cases a
def AN.ofm(b:AN w bm fb cap cur cs fs f lv sv m Fi Fl Fs)(j:Nat)(v:ϒ)(a:(AC (H (O (D fb 0)) (fs.length+1) cap) m)[j]?=O v):w.cell? (D bm j)=O v:=by
 rw[cell_of_row _ _ _ _ _ _ b.u2];exact a
def AN.cFrames(a:AN w bm fb cap cur cs fs f lv sv m Fi Fl Fs):w.cell? (D bm 0)=O (H (O (D fb 0)) (fs.length+1) cap):=a.ofm 0 _ rfl
def AN.cFuel(a:AN w bm fb cap cur cs fs f lv sv m Fi Fl Fs):w.cell? (D bm 6)=O (X m.Y):=a.ofm 6 _ rfl
def AN.cCompares(a:AN w bm fb cap cur cs fs f lv sv m Fi Fl Fs):w.cell? (D bm 7)=O (X m.C):=a.ofm 7 _ rfl
def AN.cIdle(a:AN w bm fb cap cur cs fs f lv sv m Fi Fl Fs):w.cell? (D bm 8)=O (X m.I):=a.ofm 8 _ rfl
def AN.cFn(a:AN w bm fb cap cur cs fs f lv sv m Fi Fl Fs):w.cell? (D fb (fs.length*4))=O (X f.fn):=a.at_ 0 _ rfl
def AN.cPc(a:AN w bm fb cap cur cs fs f lv sv m Fi Fl Fs):w.cell? (D fb (fs.length*4+1))=O (X f.pc):=a.at_ 1 _ rfl
def AN.cLv(a:AN w bm fb cap cur cs fs f lv sv m Fi Fl Fs):w.cell? (D fb (fs.length*4+2))=O (lv):=a.at_ 2 _ rfl
def AN.cSv(a:AN w bm fb cap cur cs fs f lv sv m Fi Fl Fs):w.cell? (D fb (fs.length*4+3))=O (sv):=a.at_ 3 _ rfl
def AN.frm(a:AN w bm fb cap cur cs fs f lv sv m Fi Fl Fs)(j:Nat):w.frozen? (D bm j)=ϝ:=Fz a.u2
def AN.frf(a:AN w bm fb cap cur cs fs f lv sv m Fi Fl Fs)(j:Nat):w.frozen? (D fb j)=ϝ:=Fz a.row
def U2{j:Nat}{a:List ϒ}(c:cs.length=k*4)(b:a.length=4)(b:cur.toList.take ((k+1)*4)=cs++a):(cur.setIfInBounds (k*4+j) v).toList.take ((k+1)*4)=cs++a.set j v:=by
 rw[Array.toList_setIfInBounds,List.take_set,b,List.set_append_right _ _ U,c,Nat.add_sub_cancel_left]
def AN.put{lv':ϒ}{c:List Nat}(a:AN w bm fb cap cur cs fs f lv sv m Fi Fl Fs)(j:Nat)(v:ϒ)
  (k:w'.heap[bm]?=w.heap[bm]?) (i:w'.heap[fb]?=O (K (cur.setIfInBounds (fs.length*4+j) v) 150 (0,0))) (h:([X f.fn,X f.pc,lv,sv]:List ϒ).set j v=[X f'.fn,X f'.pc,lv',sv'])
  (g:∀b∈Fi,w'.heap[b]?=w.heap[b]?) (hl:Be w' lv' f'.L c) (hs:Be w' sv' f'.S Fs') (e:in64 f'.fn) (d:in64 f'.pc) (b:(bm::fb::(Fi++(c++Fs'))).Nodup) :
  AN w' bm fb cap (cur.setIfInBounds (fs.length*4+j) v) cs fs f' lv' sv' m Fi c Fs':=
 ⟨by rw[k];exact a.u2,i,a.capl,a.capm,by simpa using a.csize,by rw[<-h];exact U2 a.cslen rfl a.take,a.init.kp g,hl,hs,e,d,b⟩
def AN.putM(a:AN w bm fb cap cur cs fs f lv sv m Fi Fl Fs)
  (c:w'.heap[bm]?=O (K (AC (H (O (D fb 0)) (fs.length+1) cap) m') 59 (0,0))) (d:∀b∈fb::(Fi++(Fl++Fs)),w'.heap[b]?=w.heap[b]?) :
  AN w' bm fb cap cur cs fs f lv sv m' Fi Fl Fs:=
 ⟨c,by rw[d fb ψ];exact a.row,a.capl,a.capm,a.csize,a.take,a.init.kp (λb c=>d b (by simp[c])),a.loc.kp (λb c=>d b (by simp[c])),a.stk.kp (λb c=>d b (by simp[c])),a.fn,a.pc,a.nodup⟩
def AN.lt(c:AN w bm fb cap cur cs fs f lv sv m Fi Fl Fs):∀b∈bm::fb::(Fi++(Fl++Fs)),b<w:=λb a=>by
 simp only[ϰ,List.mem_append]at a;rcases a with rfl|rfl|a|a|a
 .exact (La c.u2)
 .exact (La c.row)
 .exact c.init.lt b a
 .exact c.loc.lt b a
 exact c.stk.lt b a
def AN.ne(b:AN w bm fb cap cur cs fs f lv sv m Fi Fl Fs) :
  bm≠fb/\(∀a∈Fi++(Fl++Fs),a≠bm/\a≠fb):=by
 have:=b.nodup;simp only[List.nodup_cons,ϰ,not_or]at this;let⟨⟨a,c⟩,d,_⟩:=this;exact⟨a,λa b=>⟨λa=>c (a▸b),λa=>d (a▸b)⟩⟩
def Bn(w:Ϣ)(bm fb cap:Nat)(cs:List ϒ)(fs:List AY)(f':AY)(lv:ϒ)(m':AV)(Fi Fl F:List Nat)(w':Ϣ):Prop:=
 ∃cur' sv' Fs',AN w' bm fb cap cur' cs fs f' lv sv' m' Fi Fl Fs'/\AW F (bm::fb::(Fi++(Fl++Fs'))) w w'
def Af(n:Int):Bool:=decide (-1099511627776<=n/\n<=1099511627776)
def Bh(n:Int)(w:Ϣ) :
  ϙ prog 141 #[X n] w λa w'=>a=.returned (.bool (Af n))/\w=w':=by
 go_in;go_wp2;all_goals (go_ret;exact⟨by unfold Af;congr 2;simp;omega,rfl⟩)
def Jr(b:Bool)(w:Ϣ) :
  ϙ prog 187 #[.bool b] w λa w'=>a=.returned (X (D0 b))/\w=w':=by
 cases b
 .go_in
  go_wp2;go_ret;exact⟨rfl,rfl⟩
 go_in;go_wp2;go_ret;exact⟨rfl,rfl⟩
def DH(cf cg:ϒ)(g:Int)(bm:Nat):ϒ:=.agg #[cf,X g,cg,.pointer (O (D bm 0))]
def KX(e h:Option Addr)(b a d c:Nat)(g:Int)(j:AN w bm fb cap cur cs fs f lv sv m Fi Fl Fs)(i:fs.length<=200) :
  ϙ prog 166 #[DH (H e b a) (H h d c) g bm] w λi w'=>i=.returned (.pointer (O (D fb (fs.length*4))))/\ϐ w w w':=by
 have i:=j.kp (AA w (K #[H e b a,X g,H h d c,.pointer (O (D bm 0))] 199));have:=i.cFrames;unfold DH;go_in;go_wp2_with fail;go_quiet(fail);go_wp2;go_ret;exact⟨rfl,AG (AA _ _) _⟩
def Be.last{n:Int}(p:Be w v (l++[n]) F) :
  ∃a cap c,v=H (O (D a 0)) (l.length+1) cap/\F=[a]/\w.heap[a]?=O (K c 3 (0,0))/\l.length+1<=cap/\cap<=9223372036854775807/\w.cell? (D a l.length)=O (X n)/\
   Be w (H (O (D a 0)) l cap) l [a]/\in64 n:=by
 let⟨k,o,j⟩:=p;rcases k.2 with ⟨_,m⟩|⟨g,cap,c,rfl,_,d,e,h,i,f⟩
 .simp at m
 simp only[List.length_append,List.length_singleton,Nat.mul_one]at e f i;refine⟨g,cap,c,ψ,by rw[o];rfl,d,e,by unfold maxLen at h;omega,?_,⟨⟨ψ,.inr ⟨g,cap,c,rfl,Nat.zero_le _,d,U,h,by simpa using i,?_⟩⟩,rfl,λa c=>j a (by simp[c])⟩,j n ψ⟩
 .rw [cell_of_row _ _ _ _ _ _ d]
  have b:((l++[n]).map (Value.int .i64))[l.length]?=O (X n):=by simp
  rw[<-f,List.getElem?_take]at b;split at b
  .simpa using b
  cases b
 have:=congrArg (List.take l.length) f;rw[List.take_take,Nat.min_eq_left U]at this;rw[Nat.mul_one,this,<- List.map_take];simp
def AW.self:AW F F w w:=⟨rfl,rfl,rfl,Nr _,λ_ _ _=>rfl,λ_ a=>.inl a⟩
def Nc{st:List Int}(d:AN w bm fb cap cur cs fs f lv sv m Fi Fl Fs)
  (n:W.heap[bm]?=w.heap[bm]?) (o:W.heap[fb]?=w.heap[fb]?) (i:∀a∈Fi++Fl,W.heap[a]?=w.heap[a]?) (p:Be W sv' st Fs') (j:(bm::fb::(Fi++(Fl++Fs'))).Nodup) (q:AW (bm::fb::(Fi++(Fl++Fs))) (bm::fb::(Fi++(Fl++Fs'))) w W) :
  Bn w bm fb cap cs fs {f with S:=st} lv m Fi Fl (bm::fb::(Fi++(Fl++Fs))) (W.setCell (D fb (fs.length*4+3)) sv'):=by
 have a:=j;simp only[List.nodup_cons,ϰ,not_or]at a;let⟨⟨l,_⟩,h,_⟩:=a;have c:∀a,a≠fb->(W.setCell (D fb (fs.length*4+3)) sv').heap[a]?=W.heap[a]?:=λa b=>heap_setCell_other _ _ _ _ b;have e:∀a∈Fi++(Fl++Fs'),a≠fb:=λa g b=>h (b▸g);refine⟨cur.setIfInBounds (fs.length*4+3) sv',sv',Fs',d.put 3 sv' (by rw[c bm l,n]) (ϡ _ _ _ _ _ _ (by rw[o];exact d.row)) rfl (λa b=>by rw[c a (e a (by simp[b])),i a (by simp[b])]) (d.loc.kp (λa b=>by rw[c a (e a (by simp[b])),i a (by simp[b])])) (p.kp (λa b=>c a (e a (by simp[b])))) d.fn d.pc j,q.trans ⟨rfl,rfl,rfl,ψ,λk a hF=>c k (λa=>hF (by simp[a])),λ_ a=>.inl a⟩⟩
def Cm(q r:Option Addr)(k j p o:Nat)(g:Int)(i:AN w bm fb cap cur cs fs f lv sv m Fi Fl Fs)(A:fs.length<=200)(l:List Int)(n:Int)(x:f.S=l++[n]) :
  ϙ prog 181 #[DH (H q k j) (H r p o) g bm] w λs w'=>s=.returned (X n)/\Bn w bm fb cap cs fs {f with S:=l} lv m Fi Fl (bm::fb::(Fi++(Fl++Fs))) w':=by
 have h:=i.stk;rw[x]at h;obtain⟨_,_,_,rfl,rfl,_,_,_,z,t,_⟩:=h.last;have d:=Lh i;have v:=Lh t;have h:=AA w (K #[H q k j,X g,H r p o,.pointer (O (D bm 0))] 199);have u:=Lh (i.kp h);unfold DH;go_in;go_wp2_with fail;refine(KX q r k j p o g u.o A).mono ?_;rintro i y⟨rfl,h⟩;have e:=As h;have h:=Lh (d.o.kp e);have:=h.o.cSv;have:=AB e z;have:=h.o.frf (fs.length*4+3);go_wp2_with fail;go_quiet(fail);go_wp2_with fail;go_region;go_wp2;go_ret;have c:ϐ w w (y.drewN (nq+1)):=AG e _;refine⟨rfl,Nc d.o (c.block bm (d.o.lt bm ψ)) (c.block fb (d.o.lt fb ψ)) (λb a=>c.block b (d.o.lt b (by simp at a ⊢;rcases a with a|a<;>simp[a]))) (v.o.kp (λb a=>c.block b (v.o.lt b a))) d.o.nodup (AW.ob c)⟩
def GT{P:Program}(w:Ϣ)(t q e:TypeId)(i:TypeInfo)(z:ϒ)(size bytes:Nat)(y:P.underlying t=O (.slice e))(x:P.info? e=O i)(N:i.zero=O z)
  (F:i.size=size) (E:i.bytes=bytes) (S:z.cells.size=size) (Q:0<size)
  (v:ϒ) (n:Nat) (xs:List ϒ) (p:w.ownsRow 0 e size v n xs)
  (a:Addr) (m c:Nat) (d:List ϒ) (hl:d.length=m*size) (u:∀l b,d[l]?=O b->w.cell? (a.add l)=O b) (C:∀b∈d,b.oneCell'=ϑ)
  (L:n+m<=maxLen) (M:(n+m)*bytes<=140737488355328) (b:0<m) :
  ∃b w' g,(Builtin.append_ #[t,t] q #[v,H (O a) m c]).run P w=.ok b w'/\w'.ownsRow 0 e size b (n+m) (xs++d)/\w.grownBy w' v.ownBlock/\b.ownBlock=O g/\(v.ownBlock=O g\/(w:Nat)<=g):=by
 let⟨b,w',j,J,G,l⟩:=run_append_own (P:=P) w 0 t q e i z size bytes y x N F E S Q v n xs p a m c d hl u C L M (Nat.zero_le _);have T:b≠Z:=λo=>by have:=(l.1 o).2;omega
 rcases p.2 with ⟨rfl,rfl⟩|⟨g,cap,s,rfl,_,W,_,_,V,_⟩
 .have B:=List.eq_nil_of_length_eq_zero (by simpa using p.1)
  subst B;let⟨_,_,k,R,_,_⟩:=run_append_own (P:=P) w (w:Nat) t q e i z size bytes y x N F E S Q _ 0 [] (World.ownsRow_nil w (w:Nat) e size) a m c d hl u C L M (Nr _);rw[j]at k;simp only[Result.ok.injEq]at k;obtain⟨rfl,rfl⟩:=k;rcases R.2 with ⟨o,_⟩|⟨g,cap,s,rfl,A,_⟩
  .exact absurd o T
  exact⟨_,_,g,j,J,G,rfl,.inr A⟩
 subst F;subst E;by_cases r:n+m<=cap
 .have b:n*i.size+d.length<=s.size:=by rw[hl,V,<- Nat.add_mul];exact Nat.mul_le_mul_right _ r
  have f:=run_append_room (P:=P) w t q e i y x g n cap s W a m c d hl u C r b;rw[j]at f;simp only[Result.ok.injEq]at f;obtain⟨rfl,rfl⟩:=f;exact⟨_,_,g,j,J,G,rfl,.inl rfl⟩
 have b:=p.cells (g:=g) rfl;have h:=run_append_grow (P:=P) w t q e i z y x N (D g 0) n cap xs p.1 b a m c d hl u U (by have:=L;simp only[maxLen]at this;omega) (growslice_fits U M);rw[j]at h;simp only[Result.ok.injEq]at h;obtain⟨rfl,rfl⟩:=h;exact⟨_,_,(w:Nat),j,J,G,rfl,.inr (Nr _)⟩
def Ga{v':ϒ}{g:Nat}(a:w.grownBy w' v.ownBlock)(e:v'.ownBlock=O g)(b:v.ownBlock=O g\/(w:Nat)<=g):AW v.ownBlock.toList v'.ownBlock.toList w w':=
 ⟨a.os,a.tape,a.output,a.size,λk d hF=>a.block k d (λa=>hF (by rw[<-a];simp)),λa c=>by
  rw[e]at c;simp at c;subst c;rcases b with b|b
  .left;rw[b];simp
  right;exact b⟩
def UW(w:Ϣ)(v:ϒ)(l:List Int)(F:List Nat)(h:Be w v l F)(f:Addr)(n:Int)(y:in64 n)(x:w.cell? f=O (X n))(hl:l.length<1000000)(g:TypeId) :
  ∃e w' F',(Builtin.append_ #[22,22] g #[v,H (O f) 1 1]).run prog w=.ok e w'/\Be w' e (l++[n]) F'/\AW F F' w w'/\(∃c,F'=[c]/\(F=[c]\/(w:Nat)<=c))/\(∃c k,e=H c (l.length+1) k):=by
 let⟨c,r,e,k,q⟩:=info_parts Cx;let⟨i,w',u,s,p,t,m,b⟩:=GT (P:=prog) w 22 g 3 c (X 0) 1 8 underlying22 r e k q rfl δ v l.length (l.map (Value.int .i64)) h.1 f 1 1 [X n] rfl
  (λj c d=>by
   cases j with
   |zero=>simp at d;subst d;exact x
   |succ c=>simp at d) (by simp[Value.oneCell']) (by unfold maxLen;omega) U U
 have hF:=h.2.1;refine⟨i,w',i.ownBlock.toList,s,⟨by simpa using p,rfl,λo a=>by simp at a;rcases a with a|rfl;exact h.2.2 o a;exact y⟩,by rw[hF];exact Ga t m b,⟨u,by rw[m];rfl,?_⟩,?_⟩
 .rcases b with b|b
  .left;rw[hF,b];rfl
  right;exact b
 rcases p.2 with ⟨rfl,_⟩|⟨_,cap,_,rfl,_⟩
 .omega
 exact⟨_,_,rfl⟩
def PM{g:Array Oper}{rest:List Oper}{o:Oper}{a:Act}{f:Exit->Act->Ϣ->Prop}(z:o.guard=none)(s x:Operand)(B:o.op=.call {callee:=.builtin .append,args:=#[s,x],argTypes:=#[22,22]})
  (v:ϒ) (l:List Int) (F:List Nat) (hs:a.eval s=v) (u:Be w v l F) (c:Addr) (n:Int) (t:in64 n) (A:a.eval x=H (O c) 1 1) (r:w.cell? c=O (X n)) (hl:l.length<1000000)
  (y:∀d e w' F',Be w' (H d (l.length+1) e) (l++[n]) F'->AW F F' w w'->(∃b,F'=[b]/\(F=[b]\/(w:Nat)<=b))->wpList prog g f rest (a.put o.dst (H d (l.length+1) e)) w'):wpList prog g f (o::rest) a w:=by
 refine wpList_plain z λb q=>?_;obtain⟨_,w',F',h,k,m,p,⟨i,j,rfl⟩⟩:=UW w v l F u c n t r hl o.type;unfold Oper.wp execOp;simp only[B,resolve,invoke,builtin,Sem.run_bind,Sem.run_pure,Result.andThen_ok,List.map_toArray,List.map_cons,List.map_nil,hs,A,h];exact q _ _ (y i j w' F' k m p)
def LV(f:(bm::fb::(Fi++(Fl++Fs))).Nodup)(h:∀c∈bm::fb::(Fi++(Fl++Fs)),c<n)(hF:∃c,Fs'=[c]/\(Fs=[c]\/n<=c)):(bm::fb::(Fi++(Fl++Fs'))).Nodup:=by
 obtain⟨g,rfl,d⟩:=hF;rcases d with rfl|d
 .exact f
 have d:(bm::fb::(Fi++Fl)).Nodup:=by
  have c:bm::fb::(Fi++(Fl++Fs))=(bm::fb::(Fi++Fl))++Fs:=by simp
  rw[c]at f;exact(List.nodup_append.1 f).1
 have c:bm::fb::(Fi++(Fl++[g]))=(bm::fb::(Fi++Fl))++[g]:=by simp
 rw[c,List.nodup_append];refine⟨d,ψ,λa b c e=>?_⟩;simp at e;subst e;have:=h a (by simp at b ⊢;rcases b with b|b|b|b<;>simp[b]);omega
def AW.wide(a:AW Fs Fs' w w')(f:∀b∈Fs,b∈F)(h:∀b∈F',b∈Fs'\/b∈F):AW F F' w w':=
 ⟨a.os,a.tape,a.output,a.size,λk b hF=>a.block k b (λb=>hF (f k b)),λd g=>by
  rcases h d g with e|e
  .rcases a.new d e with c|c
   .exact .inl (f d c)
   exact .inr c
  exact .inl e⟩
def Da(s t:Option Addr)(p o r q:Nat)(g:Int)(d:AN w bm fb cap cur cs fs f lv sv m Fi Fl Fs)(N:fs.length<=200)(n:Int)(Q:in64 n)(S:f.S.length<1000000) :
  ϙ prog 147 #[DH (H s p o) (H t r q) g bm,X n] w λz w'=>z=.returned (.tuple #[])/\Bn w bm fb cap cs fs {f with S:=f.S++[n]} lv m Fi Fl (bm::fb::(Fi++(Fl++Fs))) w':=by
 have y:=Lh d;have z:=AA w (K #[H s p o,X g,H t r q,.pointer (O (D bm 0))] 199);have F:=Lh (d.kp z);have z:=d.ne;have B:=Lh d.lt;have G:=d.lt fb ψ;have M:fb∉Fs:=λd=>(z.2 fb (by simp[d])).2 rfl;unfold DH;go_in;go_wp2_with fail;refine(KX s t p o r q g F.o N).mono ?_;rintro o C⟨rfl,d⟩;have u:=As d;have e:=Lh (y.o.kp u);have L:=e.o.cSv;have J:=Nl G u.size;have E:=Lh Q;go_wp2_with(at_builtin;refine PM rfl (.tmp 11) (.tmp 13) rfl sv f.S Fs rfl (e.o.stk.kp (λb a=>(Ha _ _ _ (e.o.stk.lt b a)))) (D C 0) n E.o rfl (by exact(B6 _ _ _ 0)) S ?_;intro T V k F' x i hF;have h:k.heap[fb]?=O (K cur 150 (0,0)):=(by rw[i.block fb φ M,Ha _ _ _ J];exact e.o.row);have:k.cell? (D fb (fs.length*4+3))=O sv:=(by rw[cell_of_row _ _ _ _ _ _ h,<- cell_of_row _ _ _ _ _ _ e.o.row];exact L);have:=frozen_of_row _ _ (fs.length*4+3) _ _ h;have:=Lh h;have P:=Lh x;have A:=Lh i;have R:=Lh hF;clear x i hF h);go_end0;have j:=u.th (AA C (K #[X n] 3));have l:∀b∈bm::fb::(Fi++Fl),k.heap[b]?=w.heap[b]?:=λb a=>by
  have v:b∈bm::fb::(Fi++(Fl++Fs)):=by simp at a ⊢;rcases a with a|a|a|a<;>simp[a]
  have h:b∉Fs:=λe=>by
   have d:bm::fb::(Fi++(Fl++Fs))=(bm::fb::(Fi++Fl))++Fs:=by simp
   have:=y.o.nodup;rw[d,List.nodup_append]at this;exact this.2.2 b a b e rfl
  rw[A.o.block b (Nl (B.o b v) j.size) h,j.block b (B.o b v)]
 refine⟨rfl,Nc y.o (l bm ψ) (l fb ψ) (λb a=>l b (by simp at a ⊢;rcases a with a|a<;>simp[a])) P.o (LV y.o.nodup B.o ?_) ((AW.ob j).trans (A.o.wide (λb a=>by simp[a]) (λb a=>?_)))⟩
 .obtain ⟨b,d,c⟩:=R.o
  exact⟨b,d,by rcases c with c|c;exact .inl c;exact .inr (Nt j.size c)⟩
 simp only[ϰ,List.mem_append]at a ⊢;rcases a with a|a|a|a|a<;>simp[a]
def Ln(r:Rq):ϒ:=.iface 218 (.agg #[X r.K,X r.O,X r.D,X r.V,X r.X])
def Ky(r:Rq)(w:Ϣ)(e:Ending)(w':Ϣ):Prop:=e=.panicked [{v:=Ln r,recovered:=ϝ}]/\ϐ w w w'
def GU(h i:Option Addr)(b a d c:Nat)(g:Int)(bm:Nat)(k n f v e:Int)(w:Ϣ) :
  ϙ prog 182 #[DH (H h b a) (H i d c) g bm,.agg #[X k,X n,X f,X v,X e]] w (Ky ⟨k,n,f,v,e⟩ w):=by
 unfold DH;go_in;go_wp2_with fail;exact⟨rfl,⟨rfl,(Br.alloc (Nr _) _).alloc ψ _⟩⟩
def Ah(e:Int):Rq:=⟨5,0,0,0,e⟩
def Ek(f h:Option Addr)(b a d c:Nat)(g:Int)(bm:Nat)(e:Int)(w:Ϣ) :
  ϙ prog 180 #[DH (H f b a) (H h d c) g bm,X e] w (Ky (Ah e) w):=by
 unfold DH;go_in;go_wp2_with fail;refine(GU f h b a d c g bm 5 0 0 0 e _).mono ?_;rintro b c⟨rfl,a⟩;exact⟨rfl,rfl,As a⟩
def J1(f h:Option Addr)(b a d c:Nat)(g:Int)(bm:Nat)(n:Int)(w:Ϣ)(i:Af n=ϑ) :
  ϙ prog 186 #[DH (H f b a) (H h d c) g bm,X n] w λa w'=>a=.returned (X n)/\ϐ w w w':=by
 unfold DH;have e:=Lh i;go_in;go_wp2_with fail;refine(Bh n _).mono ?_;rintro j k⟨rfl,rfl⟩;rw[e.o];go_wp2;go_ret;exact⟨rfl,AA _ _⟩
def Po(e f:Option Addr)(b a d c:Nat)(g:Int)(bm:Nat)(n:Int)(w:Ϣ)(i:Af n=ϝ) :
  ϙ prog 186 #[DH (H e b a) (H f d c) g bm,X n] w (Ky (Ah 5) w):=by
 unfold DH;have h:=Lh i;go_in;go_wp2_with fail;refine(Bh n _).mono ?_;rintro j k⟨rfl,rfl⟩;rw[h.o];go_wp2_with fail;refine(Ek e f b a d c g bm 5 _).mono ?_;rintro b c⟨rfl,a⟩;exact⟨rfl,rfl,As a⟩
def GZ(a:Int):max a (-a)=((a.natAbs:Nat):Int):=U
def TA(j k:Option Addr)(f d i h:Nat)(g:Int)(bm:Nat)(a b:Int)(w:Ϣ)(m:-1099511627776<=a/\a<=1099511627776)(m:-1099511627776<=b/\b<=1099511627776)(m:a.natAbs*b.natAbs<=1099511627776) :
  ϙ prog 206 #[DH (H j f d) (H k i h) g bm,X a,X b] w λd w'=>d=.returned (X (a*b))/\ϐ w w w':=by
 unfold DH;have e:Hid (a.natAbs*b.natAbs/18446744073709551616=0):=by show _=_;omega
 have c:Hid (a.natAbs*b.natAbs%18446744073709551616=a.natAbs*b.natAbs):=by show _=_;omega
 have:-1099511627776<=a*b/\a*b<=1099511627776:=by have:(a*b).natAbs=a.natAbs*b.natAbs:=Int.natAbs_mul a b;omega
 go_in;go_wp2_with fail;rw[GZ,GZ];refine(bits_Mul64 a.natAbs b.natAbs U U _).mono ?_;rintro l n⟨rfl,rfl⟩;rw[e.o,c.o];generalize a.natAbs*b.natAbs=p at *;clear e c;generalize c:a*b=q at *;have e:=Lh c;clear c;go_wp2_with(rw[e.o]);go_ret;exact⟨E8 (IntWalk.wrap64_in q U),AA _ _⟩
def U3(h i:Option Addr)(d c f e:Nat)(g:Int)(bm:Nat)(a b:Int)(w:Ϣ)(m:-1099511627776<=a/\a<=1099511627776)(m:-1099511627776<=b/\b<=1099511627776)(m:1099511627776<a.natAbs*b.natAbs) :
  ϙ prog 206 #[DH (H h d c) (H i f e) g bm,X a,X b] w (Ky (Ah 5) w):=by
 unfold DH;go_in;go_wp2_with fail;rw[GZ,GZ];refine(bits_Mul64 a.natAbs b.natAbs U U _).mono ?_;rintro l n⟨rfl,rfl⟩;have j:0<a.natAbs*b.natAbs/18446744073709551616\/1099511627776<a.natAbs*b.natAbs%18446744073709551616:=U;generalize a.natAbs*b.natAbs/18446744073709551616=p at *;generalize a.natAbs*b.natAbs%18446744073709551616=q at *;by_cases k:0<p
 .clear j
  go_wp2_with fail;refine(Ek h i d c f e g bm 5 _).mono ?_;rintro l m⟨rfl,j⟩;exact⟨rfl,rfl,As j⟩
 have:1099511627776<q:=U;obtain rfl:p=0:=U;go_wp2_with fail;refine(Ek h i d c f e g bm 5 _).mono ?_;rintro d e⟨rfl,c⟩;exact⟨rfl,rfl,As c⟩
def KD(d:AN w bm fb cap cur cs fs f lv sv m Fi Fl Fs)(a:ϐ w w W)(j:Nat)(v:ϒ)
  (i:(AC (H (O (D fb 0)) (fs.length+1) cap) m).setIfInBounds j v=AC (H (O (D fb 0)) (fs.length+1) cap) m') :
  AN (W.setCell (D bm j) v) bm fb cap cur cs fs f lv sv m' Fi Fl Fs/\AW (bm::fb::(Fi++(Fl++Fs))) (bm::fb::(Fi++(Fl++Fs))) w (W.setCell (D bm j) v):=by
 have h:=d.ne;have e:=d.kp a;have g:∀b,b≠bm->(W.setCell (D bm j) v).heap[b]?=W.heap[b]?:=λb a=>heap_setCell_other _ _ _ _ a;refine⟨e.putM (by rw[<-i];exact ϡ _ _ _ _ _ _ e.u2) (λb a=>g b ?_),(AW.ob a).trans ⟨rfl,rfl,rfl,ψ,λk e hF=>g k (λc=>hF (by simp[c])),λ_ d=>.inl d⟩⟩;simp only[ϰ]at a;rcases a with rfl|a
 .exact λc=>h.1 c.symm
 exact(h.2 b a).1
def GR(r:Rq)(w:Ϣ)(bm fb cap:Nat)(cs:List ϒ)(fs:List AY)(f':AY)(lv:ϒ)(m':AV)(Fi Fl F:List Nat)(e:Ending)(w':Ϣ):Prop:=
 e=.panicked [{v:=Ln r,recovered:=ϝ}]/\Bn w bm fb cap cs fs f' lv m' Fi Fl F w'
def Bn.th{a w2:Ϣ}(e:Bn w bm fb cap cs fs f' lv m' Fi Fl F a)(b:ϐ a a w2):Bn w bm fb cap cs fs f' lv m' Fi Fl F w2:=by
 let⟨a,sv',Fs',c,d⟩:=e;exact⟨a,sv',Fs',c.kp b,d.trans (AW.ob b)⟩
def IG(e h:Option Addr)(b a d c:Nat)(g:Int)(t:AN w bm fb cap cur cs fs f lv sv m Fi Fl Fs)(u:fs.length<=200)(l:List Int)(n:Int)(s:f.S=l++[n])(j:1<=n) :
  ϙ prog 183 #[DH (H e b a) (H h d c) g bm] w λj w'=>j=.returned (X n)/\Bn w bm fb cap cs fs {f with S:=l} lv m Fi Fl (bm::fb::(Fi++(Fl++Fs))) w':=by
 have i:=AA w (K #[H e b a,X g,H h d c,.pointer (O (D bm 0))] 199);have r:=Lh (t.kp i);have q:=Lh s;unfold DH;go_in;go_wp2_with fail;refine(Cm e h b a d c g r.o u l n q.o).mono ?_;rintro c d⟨rfl,p,sv',Fs',a,b⟩;have k:=Lh a;have o:=Lh b;go_wp2;go_ret;exact⟨rfl,p,sv',Fs',k.o,(AW.ob i).trans o.o⟩
def JI(i j:Option Addr)(d c h e:Nat)(g:Int)(a:AN w bm fb cap cur cs fs f lv sv m Fi Fl Fs)(u:fs.length<=200)(l:List Int)(n:Int)(q:f.S=l++[n])(v:n<1) :
  ϙ prog 183 #[DH (H i d c) (H j h e) g bm] w (GR (Ah 17) w bm fb cap cs fs {f with S:=l} lv m Fi Fl (bm::fb::(Fi++(Fl++Fs)))):=by
 have o:=AA w (K #[H i d c,X g,H j h e,.pointer (O (D bm 0))] 199);have p:=Lh a.lt;have k:=Lh (a.kp o);have b:=Lh q;unfold DH;go_in;go_wp2_with fail;refine(Cm i j d c h e g k.o u l n b.o).mono ?_;rintro k q⟨rfl,t,sv',Fs',b,a⟩;have r:=Lh b;have s:=Lh a;have b:(w:Nat)∉bm::fb::(Fi++(Fl++Fs)):=λk=>by have:=p.o _ k;omega
 have:=a.cell (AF (w:=w) 0 _ rfl) b;have:=a.cell (AF (w:=w) 1 _ rfl) b;have:=a.cell (AF (w:=w) 2 _ rfl) b;have:=a.cell (AF (w:=w) 3 _ rfl) b;go_wp2_with fail;refine(Ek i j d c h e g bm 17 _).mono ?_;rintro b c⟨rfl,a⟩;exact⟨rfl,rfl,Bn.th ⟨t,sv',Fs',r.o,(AW.ob o).trans s.o⟩ a⟩
def AW.notin(c:AW F F' w w')(d:n<w)(hF:n∉F):n∉F':=λb=>by
 rcases c.new n b with a|a
 .exact hF a
 omega
def DS(op:Int):Int:=if 20<=op/\op<=23 then 1 else 0
def BG(op a b:Int):Int:=
 if op=15 then(if Af (a+b)then 0 else 5)else if op=16 then(if Af (a-b)then 0 else 5)else if op=17 then(if a.natAbs*b.natAbs<=1099511627776 then 0 else 5)
 else if op=18\/op=19 then(if b=0 then 18 else 0)else 0
def Du(op a b:Int):Int:=
 if op=15 then a+b else if op=16 then a-b else if op=17 then a*b else if op=18 then a.tdiv b else if op=19 then a.tmod b
 else if op=20\/op=24 then D0 (a==b)else if op=21\/op=25 then D0 (a !=b)else if op=22 then D0 (decide (a<b))else if op=23 then D0 (decide (a<=b))
 else if op=27 then max a b else min a b
def Iq(op a b:Int)(w:Ϣ)(bm fb cap:Nat)(cs:List ϒ)(fs:List AY)(f':AY)(lv:ϒ)(m:AV)(Fi Fl F:List Nat)(e:Ending)(w':Ϣ):Prop:=
 (BG op a b=0/\e=.returned (X (Du op a b))/\Bn w bm fb cap cs fs f' lv {m with C:=m.C+DS op} Fi Fl F w')\/
 (BG op a b≠0/\GR (Ah (BG op a b)) w bm fb cap cs fs f' lv {m with C:=m.C+DS op} Fi Fl F e w')
def YJ(a b:Int)(c:-1099511627776<=a/\a<=1099511627776)(c:-1099511627776<=b/\b<=1099511627776)(c:b≠0):wrap64 (a.tdiv b)=a.tdiv b/\wrap64 (a.tmod b)=a.tmod b:=by
 have:(a.tdiv b).natAbs<=a.natAbs:=by rw[Int.natAbs_tdiv];exact Nat.div_le_self _ _
 have:(a.tmod b).natAbs<=a.natAbs:=by rw[Int.natAbs_tmod];exact Nat.mod_le _ _
 exact⟨IntWalk.wrap64_in _ U,IntWalk.wrap64_in _ U⟩
def G0(a:¬(20<=op/\op<=23)):({m with C:=m.C+DS op}:AV)=m:=by
 unfold DS;rw[if_neg a];simp
def Vj(a:20<=op/\op<=23):({m with C:=m.C+DS op}:AV)={m with C:=m.C+1}:=by
 unfold DS;rw[if_pos a]
def LA(op:Int)(d:BB op)(t u:Option Addr)(q p s r:Nat)(g:Int)(h:AN w bm fb cap cur cs fs f lv sv m Fi Fl Fs)(Q:fs.length<=200)(l:List Int)(a b:Int)(c:f.S=l++[a]++[b])
  (S:-1099511627776<=a/\a<=1099511627776) (R:-1099511627776<=b/\b<=1099511627776) (E:-1<=m.C/\m.C<=4611686018427387904) :
  ϙ prog 189 #[DH (H t q p) (H u s r) g bm,X op] w (Iq op a b w bm fb cap cs fs {f with S:=l} lv m Fi Fl (bm::fb::(Fi++(Fl++Fs)))):=by
 have F:=Lh d;clear d;have M:=AA w (K #[H t q p,X g,H u s r,.pointer (O (D bm 0))] 199);have G:=Lh h.lt;have P:=Lh (h.kp M);have L:=Lh c;clear c h;have e:(w:Nat)∉bm::fb::(Fi++(Fl++Fs)):=λE=>by have:=G.o _ E;omega
 unfold DH;go_in;go_wp2_with fail;refine(Cm t u q p s r g P.o Q (l++[a]) b L.o).mono ?_;rintro E G⟨rfl,_,_,_,d,c⟩;have C:=c.cell (AF (w:=w) 0 _ rfl) e;have B:=c.cell (AF (w:=w) 1 _ rfl) e;have A:=c.cell (AF (w:=w) 2 _ rfl) e;have z:=c.cell (AF (w:=w) 3 _ rfl) e;have j:=c.notin ψ e;have n:=Lh d;have i:=Lh c;clear d c;go_wp2_with fail;refine(Cm t u q p s r g n.o Q l a rfl).mono ?_;rintro e E⟨rfl,v,y,x,d,c⟩;have:=c.cell C j;have:=c.cell B j;have:=c.cell A j;have:=c.cell z j;have k:=Lh d;have o:=Lh (((AW.ob M).trans i.o).trans c);clear d c C B A z n i;have c:=F.o;unfold BB at c;have:(op=15\/op=16)\/op=17\/(op=18\/op=19)\/(op=20\/op=21\/op=22\/op=23)\/(op=24\/op=25)\/op=27\/op=28:=U;clear F c;rcases this with h|rfl|h|h|h|h
 .obtain ⟨N,c⟩:=ε (if op=15 then a+b else a-b)
  have C:=Lh c;clear c;rcases h with rfl|rfl;all_goals
   go_wp2_with fail;have i:=C.o;simp only[Int.reduceEq,if_true,if_false]at i;rw[<-i];cases c:Af N with
   |true=>refine(J1 t u q p s r g bm _ _ c).mono ?_;rintro e j⟨rfl,J⟩;rw[i]at c;have d:=Lh c;clear c i;go_wp2;go_ret;have c:=d.o;exact .inl ⟨by simp[BG,c],by rw[C.o];rfl,by rw[G0 δ];exact Bn.th ⟨v,y,x,k.o,o.o⟩ J⟩
   |false=>
    refine(Po t u q p s r g bm _ _ c).mono ?_;rintro j C⟨rfl,e⟩;rw[i]at c;refine⟨rfl,.inr ⟨by simp[BG,c],?_⟩⟩;rw[G0 δ];first|rw[show BG 15 a b=5 by simp[BG,c]]|rw[show BG 16 a b=5 by simp[BG,c]]
    exact⟨rfl,Bn.th ⟨v,y,x,k.o,o.o⟩ e⟩
 .by_cases c:a.natAbs*b.natAbs<=1099511627776
  all_goals
   have d:=Lh c;clear c;go_wp2_with fail
  .refine (TA t u q p s r g bm a b _ S R d.o).mono ?_
   rintro e i⟨rfl,F⟩;go_wp2;go_ret;exact .inl ⟨by simp[BG,d.o],rfl,by rw[G0 δ];exact Bn.th ⟨v,y,x,k.o,o.o⟩ F⟩
  refine(U3 t u q p s r g bm a b _ S R (by have:=d.o;omega)).mono ?_;rintro i j⟨rfl,e⟩;refine⟨rfl,.inr ⟨by simp[BG,d.o],?_⟩⟩;rw[G0 δ,show BG 17 a b=5 by simp[BG,d.o]];exact⟨rfl,Bn.th ⟨v,y,x,k.o,o.o⟩ e⟩
 .by_cases n:b=0
  .have z:=Lh n
   have:(b==0)=ϑ:=by rw[n];rfl
   clear n;rcases h with rfl|rfl;all_goals
    go_wp2_with fail;refine(Ek t u q p s r g bm 18 _).mono ?_;rintro e i⟨rfl,d⟩;refine⟨rfl,.inr ⟨by simp[BG,z.o],?_⟩⟩;rw[G0 δ];first|rw[show BG 18 a b=18 by simp[BG,z.o]]|rw[show BG 19 a b=18 by simp[BG,z.o]]
    exact⟨rfl,Bn.th ⟨v,y,x,k.o,o.o⟩ d⟩
  have:=beq_eq_false_iff_ne.2 n;have A:=YJ a b S R n;rcases h with rfl|rfl;all_goals
   go_wp2;go_ret;exact .inl ⟨by simp[BG,n],E8 (by unfold Du;simp only[Int.reduceEq,or_false,if_false,if_true];try (first|rfl|exact A.1|exact A.2)),by rw[G0 δ];exact⟨v,y,x,k.o,o.o⟩⟩
 .have:=k.o.cCompares
  have:=k.o.frm 7;have d:=KD (m':={m with C:=m.C+1}) k.o Br 7 (X (m.C+1)) rfl;have B:=Lh d;clear d;rcases h with rfl|rfl|rfl|rfl;all_goals
   go_wp2_with fail;refine(Jr _ _).mono ?_;rintro T W⟨rfl,rfl⟩;go_wp2;go_ret;exact .inl ⟨by simp[BG],E8 (by simp[Du]),by rw[Vj δ];exact⟨v,y,x,B.o.1,o.o.trans B.o.2⟩⟩
 .rcases h with rfl|rfl
  all_goals
   go_wp2_with fail;refine(Jr _ _).mono ?_;rintro V Y⟨rfl,rfl⟩;go_wp2;go_ret;exact .inl ⟨by simp[BG],E8 (by simp[Du]),by rw[G0 δ];exact⟨v,y,x,k.o,o.o⟩⟩
 rcases h with rfl|rfl
 all_goals
  go_wp2;go_ret;exact .inl ⟨by simp[BG],E8 (by simp[Du]),by rw[G0 δ];exact⟨v,y,x,k.o,o.o⟩⟩
def DF(args:List Int)(z k:Nat):List Int:=ϱ k 0++(args.drop k++ϱ z 0)
def LS{a:Int}(b:args[k]?=O a):(DF args z (k+1)).set k a=DF args z k:=by
 unfold DF;have c:=(Ll b);rw[List.drop_eq_getElem_cons c,List.replicate_succ',List.append_assoc,List.set_append_right _ _ ψ];have:args[k]=a:=by rw[Lg c]at b;simpa using b
 simp[this]
def LR(a:k<=args.length):(DF args z k).length=args.length+z:=by
 simp[DF];omega
def LQ(args:List Int)(z:Nat):DF args z args.length=ϱ (args.length+z) 0:=by
 simp[DF,List.replicate_append_replicate]
def FK(W:Ϣ)(n:Nat)(a:n<=1048576):(Instr.makeSlice 22 (X (n:Int)) (X (n:Int))).run prog W=.ok (H (O (D W 0)) n n) (W.alloc (K (Ad (ϱ n 0)) 3)):=by
 rw[MI W n a];simp[ES,Ad]
def Mf{a:Int}(c:l[k]?=O a):l.take (k+1)=l.take k++[a]:=by
 obtain⟨b,rfl⟩:=List.getElem?_eq_some_iff.1 c;exact List.take_succ_eq_append_getElem b
def AW.drop(c:ϐ w w W)(d:AW (bl::F) F' W wr)(h:(w:Nat)<=bl):AW F F' w wr:=
 ⟨d.os.trans c.os,d.tape.trans c.tape,d.output.trans c.output,Nt c.size d.size,λk e hF=>by
  rw[d.block k (Nl e c.size) (λb=>by rw[ϰ]at b;rcases b with b|b;omega;exact hF b),c.block k e],λg f=>by
  rcases d.new g f with a|a
  .rw [ϰ]at a
   rcases a with rfl|a
   .exact .inr h
   exact .inl a
  exact .inr (Nt c.size a)⟩
def AN.rowOwn(a:AN w bm fb cap cur cs fs f lv sv m Fi Fl Fs):w.ownsRow 0 150 4 (H (O (D fb 0)) (fs.length+1) cap) (fs.length+1) (cs++[X f.fn,X f.pc,lv,sv]):=
 ⟨by simp[a.cslen];omega,.inr ⟨fb,cap,cur,rfl,Nat.zero_le _,a.row,a.capl,by unfold maxLen;have:=a.capm;omega,a.csize,a.take⟩⟩
def add_zero(g j:Nat):((D g 0):Addr).add j=(D g j):=by unfold Addr.add;split<;>simp_all
def Mw(W:Ϣ)(vs:List ϒ)(T:TypeId):∀a b,vs[a]?=O b->(W.alloc (K vs.toArray T)).drew.cell? (((D W 0):Addr).add a)=O b:=λa b c=>by
 rw[add_zero];show(W.alloc (K vs.toArray T)).cell? _=_;rw[B6];simpa using c
def FT:(prog.info? 150).map (λa=>(a.zero,a.size,a.bytes))=O (O (.agg #[X 0,X 0,Z,Z]),4,64):=by kernel_rfl
def OH{w5:Ϣ}{q:AY}{o:Obj}{g i:Nat}{locs:List Int}(s:AN wr bm fb cap cur cs fs q lv sv m Fi Fl Fs)(l:AW F (bm::fb::(Fi++(Fl++Fs))) w wr)(S:locs.length=n)(d:n<=1000000)(Y:∀d∈locs,in64 d)(d:k<=1000000)
  (d:(w:Nat)<=bl) (t:bl∉bm::fb::(Fi++(Fl++Fs))) (P:wr.heap[bl]?=O (K (Ad locs) 3 (0,0)))
  (Q:w5.ownsRow 0 150 4 (H (O (D g 0)) (fs.length+1+1) i) (fs.length+1+1) ((cs++[X q.fn,X q.pc,lv,sv])++[X (k:Int),X 0,H (O (D bl 0)) n n,Z]))
  (C:((wr.alloc o).drew).grownBy w5 (O fb)) (u:O fb=O g\/g=((wr.alloc o).drew).heap.size) :
  ∃F',Ak (w5.setCell (D bm 0) (H (O (D g 0)) (fs.length+1+1) i)) bm {m with J:=fs++[q]++[⟨k,0,locs,[]⟩]} F'/\AW F F' w (w5.setCell (D bm 0) (H (O (D g 0)) (fs.length+1+1) i)):=by
 have x:=s.ne;have E:=s.lt;have T:=(La P);have M:g=fb\/(wr:Nat)<g:=by
  rcases u with h|h
  .left;simpa using h.symm
  right;rw[h];simp
 have V:g≠bm:=by
  have:=E bm ψ;rcases M with h|h
  .rw [h];exact λc=>x.1 c.symm
  omega
 have L:∀d,d<(wr:Nat)->d≠fb->w5.heap[d]?=wr.heap[d]?:=λd b u=>by rw[C.block d φ (λc=>u (by simpa using c))];exact Ha _ _ _ b
 have J:∀d,d≠bm->(w5.setCell (D bm 0) (H (O (D g 0)) (fs.length+1+1) i)).heap[d]?=w5.heap[d]?:=λd b=>heap_setCell_other _ _ _ _ b;have G:∀d∈Fi++(Fl++Fs),(w5.setCell (D bm 0) (H (O (D g 0)) (fs.length+1+1) i)).heap[d]?=wr.heap[d]?:=λd b=>by rw[J d (x.2 d b).1,L d (E d (by simp only[ϰ];exact .inr (.inr b))) (x.2 d b).2]
 have R:(w5.setCell (D bm 0) (H (O (D g 0)) (fs.length+1+1) i)).heap[bl]?=O (K (Ad locs) 3 (0,0)):=by rw[J bl (λc=>t (by simp[c])),L bl T (λc=>t (by simp[c]))];exact P
 have W:(w5.setCell (D bm 0) (H (O (D g 0)) (fs.length+1+1) i)).ownsRow 0 150 4 (H (O (D g 0)) (fs.length+1+1) i) (fs.length+1+1) ((cs++[X q.fn,X q.pc,lv,sv])++[X (k:Int),X 0,H (O (D bl 0)) n n,Z]):=by
  refine⟨Q.1,?_⟩;rcases Q.2 with ⟨h,_⟩|⟨p,y,z,j,b,A,B⟩
  .cases h
  have:p=g:=by simp at j;exact j.1.symm
  exact .inr ⟨p,y,z,j,b,by rw[J p (by rw[this];exact V)];exact A,B⟩
 have p:Be (w5.setCell (D bm 0) (H (O (D g 0)) (fs.length+1+1) i)) (H (O (D bl 0)) n n) locs [bl]:=
  ⟨⟨ψ,.inr ⟨bl,n,Ad locs,by rw[S],Nat.zero_le _,R,U,by unfold maxLen;omega,by simp only[Ad,List.size_toArray,List.length_map,Nat.mul_one];exact S,by simp only[Ad,Nat.mul_one];exact List.take_of_length_le ψ⟩⟩,rfl,Y⟩
 have j:Be (w5.setCell (D bm 0) (H (O (D g 0)) (fs.length+1+1) i)) Z [] []:=⟨World.ownsRow_nil _ _ _ _,rfl,ψ⟩;refine⟨bm::g::((Fi++(Fl++Fs))++([bl]++[])),⟨H (O (D g 0)) (fs.length+1+1) i,(cs++[X q.fn,X q.pc,lv,sv])++[X (k:Int),X 0,H (O (D bl 0)) n n,Z],(Fi++(Fl++Fs))++([bl]++[]),?_,?_,?_,by simp[Value.ownBlock],?_⟩,?_⟩
 .exact ϡ _ _ _ _ _ _ (by rw[L bm (E bm ψ) x.1];exact s.u2)
 .have:(fs++[q]++[(⟨k,0,locs,[]⟩:AY)]).length=fs.length+1+1:=by simp
  rw[this];exact W
 .exact ((s.init.kp (λd b=>G d (by simp[b]))).add (s.loc.kp (λd b=>G d (by simp[b]))) (s.stk.kp (λd b=>G d (by simp[b]))) s.fn s.pc).add (f:=⟨k,0,locs,[]⟩) p j ⟨by show(_:Int)<=(k:Int);omega,by show(k:Int)<=_;omega⟩ ⟨by show(_:Int)<=(0:Int);omega,by show(0:Int)<=_;omega⟩
 .have r:=s.nodup
  simp only[List.nodup_cons,ϰ,not_or]at r t;have N:=λd b=>E d (by simp only[ϰ];exact .inr (.inr b));simp only[List.append_nil,List.nodup_cons,ϰ,not_or];refine⟨⟨λc=>V c.symm,?_⟩,?_,?_⟩
  .rw [List.mem_append,not_or];exact⟨r.1.2,by simp;exact λc=>t.1 c.symm⟩
  .rw [List.mem_append,not_or]
   constructor
   .intro c
    rcases M with h|h
    .rw [h]at c;exact r.2.1 c
    have:=N _ c;omega
   simp;intro c;rcases M with h|h
   .exact t.2.1 (c▸h)
   omega
  rw[List.nodup_append];exact⟨r.2.2,ψ,λa v d b=>by simp at b;subst b;exact λc=>t.2.2 (c▸v)⟩
 refine⟨C.os.trans l.os,C.tape.trans l.tape,C.output.trans l.output,by have d:=C.size;have:=l.size;simp at d ⊢;omega,λe b hF=>?_,λe b=>?_⟩
 .have g:=Nl b l.size
  have d:=l.notin b hF;rw[J e (λc=>d (by simp[c])),L e g (λc=>d (by simp[c])),l.block e b hF]
 simp only[ϰ,List.mem_append,List.append_nil,List.not_mem_nil,or_false]at b;rcases b with b|b|(b|b|b)|b
 .exact l.new e (by simp[b])
 .rcases M with h|h
  .exact l.new e (by simp[b,h])
  right;have:=l.size;omega
 .exact l.new e (by simp[b])
 .exact l.new e (by simp[b])
 .exact l.new e (by simp[b])
 right;omega
def UL(hs:f.S=l++args)(b:∀n∈f.S,in64 n):∀n∈args++ϱ z 0,in64 n:=λn a=>by
 rw[List.mem_append]at a;rcases a with a|a
 .exact b n (by rw[hs];simp[a])
 rw[List.eq_of_mem_replicate a];exact⟨δ,δ⟩
def KB(args:List Int)(z:Nat):DF args z 0=args++ϱ z 0:=by simp[DF]
def JX(W:Ϣ)(bm fb cap:Nat)(cs:List ϒ)(fs:List AY)(f':AY)(lv:ϒ)(m:AV)(Fi Fl F:List Nat)(bl:Nat)(wr:Ϣ):Prop:=
 ∃cur' sv' Fs',AN wr bm fb cap cur' cs fs f' lv sv' m Fi Fl Fs'/\AW (bl::F) (bl::bm::fb::(Fi++(Fl++Fs'))) W wr/\bl∉bm::fb::(Fi++(Fl++Fs'))
def Td(w:Ϣ)(bm fb cap:Nat)(cs:List ϒ)(fs:List AY)(f:AY)(l args:List Int)(z k:Nat)(lv:ϒ)(m:AV)(Fi Fl F:List Nat)(e:Ending)(w':Ϣ):Prop:=
 (fs.length+1<200/\e=.returned (.tuple #[])/\∃F',Ak w' bm {m with J:=fs++[{f with S:=l}]++[⟨k,0,args++ϱ z 0,[]⟩]} F'/\AW F F' w w')\/
 (¬fs.length+1<200/\GR (Ah 19) w bm fb cap cs fs {f with S:=l} lv m Fi Fl F e w')
def OG(cT p:Option Addr)(cS cR v:Nat)(g:Int)(t:AN w bm fb cap cur cs fs f lv sv m Fi Fl Fs)(dF:fs.length<200)
  (B:Nat) (dF:∀r∈bm::fb::(Fi++(Fl++Fs)),B<=r) (q:List BK) (dJ:q.length<=1000000) (dJ:AE B w 5 (CW B) (H p q v) q) (k:Nat) (x:BK) (o:q[k]?=O x) (l args:List Int) (dP:f.S=l++args) (dO:x.params=args.length) (z:Nat) (dM:x.L=args.length+z) (dQ:args.length+z<=100) (dL:∀n∈f.S,in64 n) (dQ:m.J=fs++[f]) :
  ϙ prog 184 #[DH (H cT cS cR) (H p q v) g bm,X (k:Int)] w (Td w bm fb cap cs fs f l args z k lv m Fi Fl (bm::fb::(Fi++(Fl++Fs)))):=by
 have dC:=AA w (K #[H cT cS cR,X g,H p q v,.pointer (O (D bm 0))] 199);have dG:=Lh t.lt;have cW:=Nat.le_of_lt (Nat.lt_of_le_of_lt (dF bm ψ) (t.lt bm ψ));have eC:(w:Nat)∉bm::fb::(Fi++(Fl++Fs)):=λe=>by have:=dG.o _ e;omega
 let⟨C,E,G,_,_,_,d⟩:=dJ;obtain⟨rfl,rfl⟩:p=C/\v=E:=by simpa using G
 have:=(Ll o);rcases d with y|⟨r,dD,rfl,M,d⟩
 .rw [y]at o;simp at o
 obtain⟨_,N,Q,_,⟨_,_,J⟩,_,-,-⟩:=(d k x o).below (dC.mono cW) M;obtain⟨dA,dB,rfl,-,-,-,-⟩:=J;rw[dO]at N;rw[dM]at Q;have eB:=Lh t;have eE:=Lh dP;have eH:=Lh dL;have:∀W,(Instr.makeSlice 22 (X ((args:Int)+(z:Int))) (X ((args:Int)+(z:Int)))).run prog W=.ok (H (O (D W.heap.size 0)) (args.length+z) (args.length+z)) (W.alloc (K (Ad (ϱ (args.length+z) 0)) 3)):=by intro W;have:=FK W (args.length+z) U;rw[Int.natCast_add]at this;exact this
 unfold DH;go_in;go_wp2_with fail;let⟨j,b⟩:=ε ((((w.alloc (K #[H cT cS cR,X g,H (O (D r dD)) q v,.pointer (O (D bm 0))] 199)).alloc (K #[.string x.name,X (args:Int),X ((args:Int)+(z:Int)),.bool x.result,H dA x.q9 dB] 70)).alloc (K (Ad (ϱ (args.length+z) 0)) 3)));have dY:ϐ w w j:=by rw[b];exact((Br.alloc (Nr _) _).alloc ψ _).alloc φ _
 have dU:(j:Nat)=(w:Nat)+1+1+1:=by rw[b];simp
 have u:Hid (AR j w [H cT cS cR,X g,H (O (D r dD)) q v,.pointer (O (D bm 0))]):=by rw[b];exact(AF.alloc _).alloc _
 have dV:Hid (j.heap[(w:Nat)+1+1]?=O (K (Ad (DF args z args.length)) 3 (0,0))):=by show _=_;rw[LQ,b];have:=Hn ((w.alloc (K #[H cT cS cR,X g,H (O (D r dD)) q v,.pointer (O (D bm 0))] 199)).alloc (K #[.string x.name,X (args:Int),X ((args:Int)+(z:Int)),.bool x.result,H dA x.q9 dB] 70)) (K (Ad (ϱ (args.length+z) 0)) 3);simpa using this
 have cX:(w:Nat)+1+1∉bm::fb::(Fi++(Fl++Fs)):=λe=>by have:=dG.o _ e;omega
 have h:(w:Nat)∉((w:Nat)+1+1)::bm::fb::(Fi++(Fl++Fs)):=λe=>by rw[ϰ]at e;rcases e with e|e;omega;exact eC e
 have p:Hid (JX j bm fb cap cs fs {f with S:=l++args.take args.length} lv m Fi Fl (bm::fb::(Fi++(Fl++Fs))) (w+1+1) j):=by
  refine⟨cur,sv,Fs,?_,AW.self,cX⟩;have:({f with S:=l++args.take args.length}:AY)=f:=by rw[List.take_length,<- eE.o]
  rw[this];exact eB.o.kp dY
 rw[<-b];have dI:=Lh dU;clear b;go_loopg[6] (args.length+1) (λgk o wr=>∃d:Nat,d<gk/\d<=args.length/\o=X ((d:Int)-1)/\Hid (JX j bm fb cap cs fs {f with S:=l++args.take d} lv m Fi Fl (bm::fb::(Fi++(Fl++Fs))) (w+1+1) wr)/\Hid (wr.heap[(w:Nat)+1+1]?=O (K (Ad (DF args z d)) 3 (0,0))));exact⟨args.length,U,Nr _,rfl,p,dV⟩;obtain⟨L,_,_,rfl,A,cZ⟩:=hrel;let⟨eA,sv',Fs',cY,s,dK⟩:=A.o;have:=s.cell (u.o 0 _ rfl) h;have:=s.cell (u.o 1 _ rfl) h;have:=s.cell (u.o 2 _ rfl) h;have eF:=s.cell (u.o 3 _ rfl) h;have P:=(La cZ.o);have eD:(w:Nat)∉bm::fb::(Fi++(Fl++Fs')):=λe=>(s.notin (by have:=dI.o;omega) h) (List.mem_cons_of_mem _ e);by_cases eG:0<L
 .obtain ⟨c,rfl⟩:∃c,L=c+1:=⟨L-1,U⟩
  let⟨a,d⟩:=Ϡ args c;have R:=Lh cY;have dT:=Lh s;have V:=Lh d;go_wp2_with fail;refine(Cm cT (O (D r dD)) cS cR q.length v g R.o U (l++args.take c) a (by show l++args.take (c+1)=_;rw[Mf V.o,List.append_assoc])).mono ?_;rintro e h⟨rfl,C,E,y,G,p⟩;have o:h.heap[(w:Nat)+1+1]?=O (K (Ad (DF args z (c+1))) 3 (0,0)):=by rw[p.block _ P dK];exact cZ.o
  have A:=p.notin P dK;let⟨d,u⟩:=Ϡ (DF args z (c+1)) c (by rw[LR U];omega);have:h.cell? (D (w+1+1) c)=O (X d):=by rw[cell_of_row _ _ _ _ _ _ o];exact DC u
  have:=frozen_of_row _ _ c _ _ o;have dS:Hid ((h.setCell (D (w+1+1) c) (X a)).heap[(w:Nat)+1+1]?=O (K (Ad (DF args z c)) 3 (0,0))):=by show _=_;rw[ϡ _ _ _ _ _ _ o,D6,LS V.o]
  have o:∀d,d≠(w:Nat)+1+1->(h.setCell (D (w+1+1) c) (X a)).heap[d]?=h.heap[d]?:=λd b=>heap_setCell_other _ _ _ _ b;have dH:Hid (JX j bm fb cap cs fs {f with S:=l++args.take c} lv m Fi Fl (bm::fb::(Fi++(Fl++Fs))) (w+1+1) (h.setCell (D (w+1+1) c) (X a))):=by
   refine⟨C,E,y,?_,(dT.o.trans (p.wide (F:=((w:Nat)+1+1)::bm::fb::(Fi++(Fl++Fs'))) (F':=((w:Nat)+1+1)::bm::fb::(Fi++(Fl++y))) (λr b=>List.mem_cons_of_mem _ b) (λr b=>?_))).trans ⟨rfl,rfl,rfl,ψ,λk d hF=>o k (λe=>hF (by simp[e])),λ_ t=>.inl t⟩,A⟩
   .exact G.sub (λr b=>o r (λe=>A (e▸b)))
   rw[ϰ]at b;rcases b with b|b;right;simp[b];left;exact b
  go_wp2_with fail;go_roundg(gk-1);exact⟨c,U,U,by go_num,dH,dS⟩;omega
 obtain rfl:L=0:=U;have dN:=Lh ((s.drop dY U).wide (F:=bm::fb::(Fi++(Fl++Fs))) (F':=bm::fb::(Fi++(Fl++Fs'))) (λ_ t=>t) (λ_ t=>.inl (List.mem_cons_of_mem _ t)));have i:Hid (AN wr bm fb cap eA cs fs {f with S:=l} lv sv' m Fi Fl Fs'):=by
  have e:({f with S:=l++args.take 0}:AY)={f with S:=l}:=by simp
  rw[e]at cY;exact cY
 have dZ:Hid (wr.heap[(w:Nat)+1+1]?=O (K (Ad (args++ϱ z 0)) 3 (0,0))):=by show _=_;rw[<-KB];exact cZ.o
 have dR:=i.o.cFrames;have dX:=i.o.frm 0;have dW:=i.o.lt bm ψ;have cU:¬bm=fb:=i.o.ne.1;have:(w:Nat)<wr:=U;have dE:¬(w:Nat)=fb:=λe=>eD (by simp[e]);by_cases T:fs.length+1<200
 .have cV:=Lh i.o.rowOwn
  let⟨S,Y,cN,cO,cP⟩:=info_parts FT;go_wp2_with fail;go_region_law (refine step_append_lies _ rfl (.tmp 43) (.tmp 47) 55 rfl 0 150 S (.agg #[X 0,X 0,Z,Z]) 4 64 underlying55 Y cN cO cP rfl δ (H (O (D fb 0)) (fs.length+1) cap) (fs.length+1) (cs++[X f.fn,X f.pc,lv,sv']) rfl ((cV.o.alloc _).drew) (D wr 0) 1 1 [X (k:Int),X 0,H (O (D (w+1+1) 0)) (args.length+z) (args.length+z),Z] rfl rfl (Mw wr _ _) (by simp[Value.oneCell']) U (by unfold maxLen;omega) U (Nat.zero_le _) _ rfl ?_;intro b b d c b o h;have j:=Lh c;have h:=Lh b;have:=(World.grownBy.cell b (show((wr.alloc (K #[X (k:Int),X 0,H (O (D (w+1+1) 0)) (args.length+z) (args.length+z),Z] 150)).drew).cell? (D bm 0)=_ from AB (AA _ _) dR) (by simp[Value.ownBlock];exact cU));have:=(World.grownBy.cell b (show((wr.alloc (K #[X (k:Int),X 0,H (O (D (w+1+1) 0)) (args.length+z) (args.length+z),Z] 150)).drew).cell? (D w 3)=_ from AB (AA _ _) eF) (by simp[Value.ownBlock];exact dE));have:d.frozen? (D bm 0)=ϝ:=(by rw[World.frozen?_of_block (w:=wr) (a:=(D bm 0)) (by rw[b.block bm φ (by simp[Value.ownBlock];exact cU)];exact Ha _ _ _ dW)];exact dX);clear c b);all_goals go_end0
  all_goals exact .inl ⟨T,rfl,OH i.o dN.o ψ U (UL eE.o eH.o) U U dK dZ.o j.o h.o o⟩
 clear cY s;go_wp2_with fail;refine(Ek cT (O (D r dD)) cS cR q.length v g bm 19 _).mono ?_;rintro e c⟨rfl,b⟩;exact⟨rfl,.inr ⟨T,rfl,Bn.th ⟨eA,sv',Fs',i.o,dN.o⟩ b⟩⟩
def Ak.kp(o:Ak w bm m F)(b:ϐ w w w'):Ak w' bm m F:=by
 obtain⟨j,i,g,a,f,e,rfl,p⟩:=o;refine⟨j,i,g,by rw[b.block _ (La a)];exact a,⟨f.1,?_⟩,e.kp (λa g=>b.block a (e.lt a g)),rfl,p⟩;rcases f.2 with h|⟨c,cap,k,rfl,l,d,n⟩
 .exact .inl h
 exact .inr ⟨c,cap,k,rfl,l,by rw[b.block c (La d)];exact d,n⟩
def AN.reframe(a:AN w bm fb cap cur cs fs f lv sv m Fi Fl Fs)(l:List AY):AN w bm fb cap cur cs fs f lv sv {m with J:=l} Fi Fl Fs:=
 ⟨a.u2,a.row,a.capl,a.capm,a.csize,a.take,a.init,a.loc,a.stk,a.fn,a.pc,a.nodup⟩
def RK(d:AN w bm fb cap cur cs fs f lv sv m Fi Fl Fs)(a:ϐ w w W) :
  Ak (W.setCell (D bm 0) (H (O (D fb 0)) fs cap)) bm {m with J:=fs} (bm::fb::Fi)/\AW (bm::fb::(Fi++(Fl++Fs))) (bm::fb::Fi) w (W.setCell (D bm 0) (H (O (D fb 0)) fs cap)):=by
 have h:=d.ne;have g:=d.kp a;have e:∀b,b≠bm->(W.setCell (D bm 0) (H (O (D fb 0)) fs cap)).heap[b]?=W.heap[b]?:=λb a=>heap_setCell_other _ _ _ _ a;have i:(bm::fb::Fi).Nodup:=by
  have c:bm::fb::(Fi++(Fl++Fs))=(bm::fb::Fi)++(Fl++Fs):=by simp
  have:=d.nodup;rw[c]at this;exact(List.nodup_append.1 this).1
 refine⟨⟨H (O (D fb 0)) fs cap,cs,Fi,ϡ _ _ _ _ _ _ g.u2,?_,g.init.kp (λb a=>e b (h.2 b (by simp[a])).1),by simp[Value.ownBlock],i⟩,(AW.ob a).trans ⟨rfl,rfl,rfl,ψ,λk i hF=>e k (λc=>hF (by simp[c])),λb a=>.inl (by simp at a ⊢;rcases a with a|a|a<;>simp[a])⟩⟩;refine⟨d.cslen,.inr ⟨fb,cap,cur,rfl,Nat.zero_le _,by rw[e fb (λc=>h.1 c.symm)];exact g.row,by have:=d.capl;show fs.length<=cap;omega,by unfold maxLen;have:=d.capm;omega,d.csize,?_⟩⟩;have c:=congrArg (List.take (fs.length*4)) d.take;rw[List.take_take,Nat.min_eq_left U]at c;refine c.trans ?_;rw[<-d.cslen];exact List.take_left
def EE(v:Int):Rq:=⟨4,0,0,v,0⟩
def Tc(w:Ϣ)(bm:Nat)(fs:List AY)(has:Bool)(v:Int)(m:AV)(F:List Nat)(e:Ending)(w':Ϣ):Prop:=
 (fs=[]/\e=.panicked [{v:=Ln (EE v),recovered:=ϝ}]/\∃F',Ak w' bm {m with J:=[]} F'/\AW F F' w w')\/
 ∃fs' f',fs=fs'++[f']/\e=.returned (.tuple #[])/\∃F',Ak w' bm {m with J:=fs'++[{f' with S:=f'.S++(if has then [v]else [])}]} F'/\AW F F' w w'
def OD(y q:Option Addr)(u t p:Nat)(g:Int)(h:AN w bm fb cap cur cs fs f lv sv m Fi Fl Fs)(T:fs.length<200)
  (B:Nat) (A:∀r∈bm::fb::(Fi++(Fl++Fs)),B<=r) (o:List BK) (dC:AE B w 5 (CW B) (H q o p) o) (k:Nat) (z:f.fn=k) (x:BK) (c:o[k]?=O x) (v:Int) (s:f.S=if x.result then [v]else []) (n:x.result=ϝ->v=0) (dN:in64 v)
  (dM:∀f∈fs,f.S.length<1000000) :
  ϙ prog 185 #[DH (H y u t) (H q o p) g bm] w (Tc w bm fs x.result v m (bm::fb::(Fi++(Fl++Fs)))):=by
 have G:=AA w (K #[H y u t,X g,H q o p,.pointer (O (D bm 0))] 199);have T:=Lh h.lt;have Y:(w:Nat)∉bm::fb::(Fi++(Fl++Fs)):=λe=>by have:=T.o _ e;omega
 let⟨R,S,i,_,_,_,b⟩:=dC;obtain⟨rfl,rfl⟩:q=R/\p=S:=by simpa using i
 have:=(Ll c);rcases b with N|⟨r,F,rfl,_,b⟩
 .rw [N]at c;simp at c
 have b:=b k x c;have cZ:=Lh h;have dF:=Lh s;have dK:=Lh n;have d:=h.cFn;rw[z]at d;have j:=b.2.2.2.1;clear h A i s c n b z;let⟨n,c⟩:=ε (w.alloc (K #[H y u t,X g,H (O (D r F)) o p,.pointer (O (D bm 0))] 199));have h:=Xbq c;let⟨z,A,C,E⟩:=Γ4 h;have b:ϐ w w n:=by rw[c];exact G
 have cM:=AB b d;have cL:=AB b j;have cY:=Lh b;have dE:Hid (AN n.drew bm fb cap cur cs fs f lv sv m Fi Fl Fs):=cZ.o.kp (AG b 1);have:=In k;have:(k:Int)<(o:Int):=U;clear h b d j;unfold DH;go_in;go_upto_region 1 with fail;rw[<-c];clear c G;go_region_held3 (λW=>W.cell? (D w 0)=O (H y u t)/\W.cell? (D w 1)=O (X g)/\W.cell? (D w 2)=O (H (O (D r F)) o p)/\W.cell? (D w 3)=O (.pointer (O (D bm 0)))/\W.cell? (D fb (fs.length*4))=O (X (k:Int))/\W.cell? (D r (F+k*5+3))=O (.bool x.result)/\Hid (ϐ n n W))
  (first|exact⟨z,A,C,E,cM,cL,Lh (AG Br 1)⟩|exact⟨AB b z,AB b A,AB b C,AB b E,AB b cM,AB b cL,Lh b⟩)
  (first|(go_at_call 166;refine(KX y (O (D r F)) u t o.length p g dE.o U).mono ?_;rintro e c⟨rfl,Q⟩;have b:ϐ n n c:=(AG Br 1).trans Q))
 have cX:=Lh (cZ.o.kp (cY.o.th b));obtain⟨z,A,C,E,-,-,-⟩:c.cell? (D w 0)=O (H y u t)/\c.cell? (D w 1)=O (X g)/\c.cell? (D w 2)=O (H (O (D r F)) o p)/\c.cell? (D w 3)=O (.pointer (O (D bm 0)))/\True/\True/\True:=⟨AB b z,AB b A,AB b C,AB b E,trivial,trivial,trivial⟩;have cU:=Lh (cY.o.th b);clear b;go_upto_if 15 with fail;go_cut[2,3] (λq N n=>q=.bool x.result/\N=X v/\Hid (Bn w bm fb cap cs fs {f with S:=[]} lv m Fi Fl (bm::fb::(Fi++(Fl++Fs))) n)/\Hid (AW (bm::fb::(Fi++(Fl++Fs))) [] c n))
 .cases J:x.result
  .have L:=dK.o J
   subst L;have b:=dF.o;rw[J]at b;have e:f={f with S:=[]}:=by cases f;simp_all
   have cS:Hid (Bn w bm fb cap cs fs {f with S:=[]} lv m Fi Fl (bm::fb::(Fi++(Fl++Fs))) c):=⟨cur,sv,Fs,e▸cX.o,AW.ob cU.o⟩;have cN:Hid (AW (bm::fb::(Fi++(Fl++Fs))) [] c c):=⟨rfl,rfl,rfl,Nr _,λ_ _ _=>rfl,ψ⟩;clear b e;go_wp2;go_meet;exact⟨by rw[J],rfl,cS,cN⟩
  have b:=dF.o;rw[J]at b;have cK:=Lh b;clear b;go_wp2_with fail;refine(Cm y (O (D r F)) u t o.length p g cX.o U [] v (by rw[cK.o];rfl)).mono ?_;rintro e n⟨rfl,q⟩;let⟨L,Q,N,d,b⟩:=q;have cT:Hid (Bn w bm fb cap cs fs {f with S:=[]} lv m Fi Fl (bm::fb::(Fi++(Fl++Fs))) n):=⟨L,Q,N,d,(AW.ob cU.o).trans b⟩;have cO:Hid (AW (bm::fb::(Fi++(Fl++Fs))) [] c n):=⟨b.os,b.tape,b.output,b.size,b.block,ψ⟩;clear d b;go_wp2;go_meet;exact⟨by rw[J],rfl,cT,cO⟩
 case rest=>
  obtain⟨rfl,rfl,P,d⟩:=hcut;let⟨_,_,_,b,c⟩:=P.o;have z:=d.o.cell z Y;have A:=d.o.cell A Y;have C:=d.o.cell C Y;have E:=d.o.cell E Y;have:=b.cFrames;have:=b.frm 0;have dL:¬(w:Nat)=bm:=λe=>Y (by simp[e]);have:=b.capl;have V:=Lh b;have cW:=Lh c;clear b c;go_wp2_with fail;let⟨c,b⟩:=RK V.o Br;have G:Hid (Ak ((wc.setCell (D bm 0) (H (O (D fb 0)) fs cap)).drew) bm {m with J:=fs} (bm::fb::Fi)):=c.kp (AG Br 1);have M:Hid (AW (bm::fb::(Fi++(Fl++Fs))) (bm::fb::Fi) w ((wc.setCell (D bm 0) (H (O (D fb 0)) fs cap)).drew)):=(cW.o.trans b).trans (AW.ob (AG Br 1));clear c b;by_cases cP:(fs:Int)=0
  .have c:fs.length=0:=U
   have j:=G.o;have h:=M.o;rw[c]at j h;have j:=Lh j;have h:=Lh h;clear G M;go_region;go_wp2_with fail;refine(GU y (O (D r F)) u t o.length p g bm 4 0 0 v 0 _).mono ?_;rintro e c⟨rfl,d⟩;have c:=List.eq_nil_of_length_eq_zero U;refine⟨rfl,.inl ⟨c,rfl,bm::fb::Fi,?_,h.o.trans (AW.ob d)⟩⟩;have:=j.o.kp d;rw[c]at this;exact this
  obtain⟨b,f',i⟩:∃b f',fs=b++[f']:=by
   rcases List.eq_nil_or_concat fs with e|⟨l,a,e⟩
   .rw [e]at cP;simp at cP
   exact⟨l,a,by rw[e];simp⟩
  have s:=Lh i;have dD:=dM f' (by rw[i];simp);let⟨dI,_,_,_,_,sv',dG,dH,Fs',d,c⟩:=G.o.top i;have dB:=Lh d;have dJ:=Lh c;clear d c i;cases i:x.result
  .go_region
   go_wp2_with fail;go_end0;refine .inr ⟨b,f',s.o,rfl,bm::fb::Fi,?_,M.o⟩;have c:({m with J:=b++[{f' with S:=f'.S++(if x.result then [v]else [])}]}:AV)={m with J:=fs}:=by rw[i,s.o];simp
   rw[c];exact G.o
  go_region;go_wp2_with fail;refine(Da y (O (D r F)) u t o.length p g dB.o (by have:=congrArg List.length s.o;simp at this;omega) v dN dD).mono ?_;rintro e c⟨rfl,_,_,cR,cV,dA⟩;go_wp2_with fail;go_end0;have c:({m with J:=b++[{f' with S:=f'.S++(if x.result then [v]else [])}]}:AV)={m with J:=b++[{f' with S:=f'.S++[v]}]}:=by rw[i];simp
  refine .inr ⟨b,f',s.o,rfl,bm::dI::(dG++(dH++cR)),?_,M.o.trans ?_⟩
  .rw [c];exact(cV.reframe (b++[{f' with S:=f'.S++[v]}])).own rfl
  rw[dJ.o];exact dA
def Sh(f:AY)(has:Bool)(v:Int):AY:={f with S:=f.S++(if has then [v]else [])}
inductive KM where
 |go (m:AV)
 |stop (r:Rq) (m:AV)
def EM(w:Ϣ)(bm:Nat)(F:List Nat)(o:KM)(e:Ending)(w':Ϣ):Prop:=
 match o with
 |.go m=>e=.returned (.tuple #[])/\∃F',Ak w' bm m F'/\AW F F' w w'
 |.stop r m=>e=.panicked [{v:=Ln r,recovered:=ϝ}]/\∃F',Ak w' bm m F'/\AW F F' w w'
def Jl(c:AN w bm fb cap cur cs fs f lv sv m Fi Fl Fs)(n:Int)(g:in64 n) :
  AN (w.setCell (D fb (fs.length*4+1)) (X n)) bm fb cap (cur.setIfInBounds (fs.length*4+1) (X n)) cs fs {f with pc:=n} lv sv m Fi Fl Fs/\AW (bm::fb::(Fi++(Fl++Fs))) (bm::fb::(Fi++(Fl++Fs))) w (w.setCell (D fb (fs.length*4+1)) (X n)):=by
 have e:=c.ne;have d:∀a,a≠fb->(w.setCell (D fb (fs.length*4+1)) (X n)).heap[a]?=w.heap[a]?:=λa b=>heap_setCell_other _ _ _ _ b;refine⟨c.put (f':={f with pc:=n}) 1 _ (d bm e.1) (ϡ _ _ _ _ _ _ c.row) rfl (λa b=>d a (e.2 a (by simp[b])).2) (c.loc.kp (λa b=>d a (e.2 a (by simp[b])).2)) (c.stk.kp (λa b=>d a (e.2 a (by simp[b])).2)) c.fn g c.nodup,rfl,rfl,rfl,ψ,λk a hF=>d k (λa=>hF (by simp[a])),λ_ a=>.inl a⟩
def Be.u1(f:Be w v l F)(hl:0<l.length):∃lb cap,v=H (O (D lb 0)) l cap/\F=[lb]/\l.length<=cap/\cap<=9223372036854775807:=by
 let⟨a,e,_⟩:=f;rcases a.2 with ⟨_,_⟩|⟨c,cap,_,rfl,_,_,b,d,_,_⟩
 .omega
 exact⟨c,cap,rfl,e,b,by unfold maxLen at d;omega⟩
def Be.cellAt(b:Be w (H (O (D lb 0)) l cap) l F){i:Nat}{n:Int}(a:l[i]?=O n):w.cell? (D lb i)=O (X n):=by
 have:=(Ll a);rw[b.1.cellAt i U,List.getElem?_map,a];rfl
def RS{g:Nat}(a:AN w bm fb cap cur cs fs f (H (O (D lb 0)) f.L g) sv m Fi Fl Fs)(i:Nat)(n:Int)(s:in64 n) :
  AN (w.setCell (D lb i) (X n)) bm fb cap cur cs fs {f with L:=f.L.set i n} (H (O (D lb 0)) f.L g) sv m Fi Fl Fs/\AW (bm::fb::(Fi++(Fl++Fs))) (bm::fb::(Fi++(Fl++Fs))) w (w.setCell (D lb i) (X n)):=by
 have j:=a.ne;have d:∀c,c≠lb->(w.setCell (D lb i) (X n)).heap[c]?=w.heap[c]?:=λc g=>heap_setCell_other _ _ _ _ g;let⟨q,h,r⟩:=a.loc;obtain rfl:Fl=[lb]:=h;have h:=j.2 lb ψ;have g:=a.nodup;simp only[List.nodup_cons,ϰ,List.nodup_append,List.mem_append,List.mem_singleton,List.not_mem_nil,or_false]at g;obtain⟨-,-,_,⟨-,_,p⟩,j⟩:=g;refine⟨⟨?_,?_,a.capl,a.capm,a.csize,a.take,a.init.kp (λc e=>d c (λb=>?_)),⟨?_,rfl,λo l=>?_⟩,a.stk.kp (λc e=>d c (λb=>?_)),a.fn,a.pc,a.nodup⟩,rfl,rfl,rfl,ψ,λk g hF=>d k (λb=>hF (by simp[b])),λ_ a=>.inl a⟩
 .rw [d bm (λb=>h.1 b.symm)];exact a.u2
 .rw [d fb (λb=>h.2 b.symm)];exact a.row
 .exact j c e lb ψ b
 .have:=(q.stored i (X n)).1
  rw[<-List.map_set]at this;simpa using this
 .rcases List.mem_or_eq_of_mem_set l with a|a
  .exact r o a
  rw[a];exact s
 exact p lb rfl c e b.symm
def E6:∀f a,Lib.bitLenAux f a<=f
 |0,a=>by simp[Lib.bitLenAux]
 |f+1,a=>by have:=E6 f (a/2);unfold Lib.bitLenAux;split<;>omega
