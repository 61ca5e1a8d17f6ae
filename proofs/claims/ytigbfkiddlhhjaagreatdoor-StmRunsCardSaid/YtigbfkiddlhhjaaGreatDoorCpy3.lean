import Derived.Test.YtigbfkiddlhhjaaGreatDoorSga
import Derived.Test.YtigbfkiddlhhjaaGreatDoorSge
import Derived.Test.YtigbfkiddlhhjaaGreatDoorSgf
import Derived.Defers
import Derived.Recover
set_option maxHeartbeats 8000000
set_option maxRecDepth 100000
set_option linter.all false
open Go renaming World→Ϣ,Value→ϒ,Calls→ϙ,bodyPost_ret→ϖ,heap_setCell_same→ϡ
open Go.RowKit renaming Below→ϐ
open Option renaming some→O
open Bool renaming false→ϝ,true→ϑ
open List renaming replicate→ϱ,mem_cons→ϰ
open Go.Value renaming slice→H
open Go.Obj renaming cells→Z
namespace Go.Proofs.YtigbfkiddlhhjaaGreatDoor
open Go.RowKit Proofs.Tryz
open Go.RowKit renaming π→X,ι→D,ω→U
variable{w W w' wr:Ϣ}{bm fb cap b B A k g:Nat}{cur:Array ϒ}{cs csd csr:List ϒ}{fs:List AY}{f:AY}{lv sv v:ϒ}{m:AV}{Fi Fl Fs F:List Nat}{c:AQ}{r:Rq}
def Et(G fB:Option Addr)(F E z:Nat)(g:Int)(r:AN w bm fb cap cur cs fs f lv sv m Fi Fl Fs)(fG:fs.length<200)
  (B:Nat) (q:∀b∈bm::fb::(Fi++(Fl++Fs)),B<=b) (n:List BK) (fQ:n.length<=1000000) (d:AE B w 5 (CW B) (H fB n z) n) (k:Nat) (h:f.fn=k) (y:BK) (dJ:n[k]?=O y) (p:Nat) (e:f.pc=p) (x:Cd) (fV:y.q9[p]?=O x) (fU:y.q9.length<=1000000)
  (fT:0<=m.I/\m.I<100000) (o:KM)
  (a:((x.op=31)/\(f.S.length<999999)/\∃(i:List Int),∃(v:Int),(f.S=i++[v])/\(in64 v)/\o=.go {m with I:=m.I+1,J:=fs++[{f with pc:=f.pc+1,S:=i++[v]++[v]}]})\/((x.op=13)/\(m.Y=0)/\o=.stop (Ah 20) {m with I:=m.I+1,J:=fs++[{f with pc:=f.pc+1}]})\/((x.op=13)/\(¬m.Y=0)/\(0<=m.Y/\m.Y<=9223372036854775807)/\o=.go {m with Y:=m.Y-1,I:=0,J:=fs++[{f with pc:=f.pc+1}]})\/((x.op=9)/\∃(c:Nat),(x.a=c)/\∃(u:BK),(n[c]?=O u)/\∃(i l:List Int),(f.S=i++l)/\(u.params=l.length)/\∃(A:Nat),(u.L=l.length+A)/\(l.length+A<=100)/\(∀V∈f.S,in64 V)/\(fs.length+1<200)/\o=.go {m with I:=m.I+1,J:=fs++[{f with pc:=f.pc+1,S:=i}]++[⟨c,0,l++ϱ A 0,[]⟩]})\/((x.op=9)/\∃(c:Nat),(x.a=c)/\∃(u:BK),(n[c]?=O u)/\∃(i l:List Int),(f.S=i++l)/\(u.params=l.length)/\∃(A:Nat),(u.L=l.length+A)/\(l.length+A<=100)/\(∀V∈f.S,in64 V)/\(¬fs.length+1<200)/\o=.stop (Ah 19) {m with I:=m.I+1,J:=fs++[{f with pc:=f.pc+1,S:=i}]})\/((x.op=10)/\∃(v:Int),(f.S=if y.result then [v]else [])/\(y.result=ϝ->v=0)/\(in64 v)/\(∀f∈fs,f.S.length<1000000)/\(fs=[])/\o=.stop (EE v) {m with I:=m.I+1,J:=[]})\/((x.op=10)/\∃(v:Int),(f.S=if y.result then [v]else [])/\(y.result=ϝ->v=0)/\(in64 v)/\(∀f∈fs,f.S.length<1000000)/\∃(eM:List AY),∃(eL:AY),(fs=eM++[eL])/\o=.go {m with I:=m.I+1,J:=eM++[Sh eL y.result v]})\/((x.op=2)/\∃(dM:Nat),(x.a=dM)/\∃(V:Int),(f.L[dM]?=O V)/\(in64 V)/\(f.S.length<1000000)/\(f.L.length<=1000)/\o=.go {m with I:=m.I+1,J:=fs++[{f with pc:=f.pc+1,S:=f.S++[V]}]})) :
  ϙ prog 168 #[DH (H G F E) (H fB n z) g bm] w (EM w bm (bm::fb::(Fi++(Fl++Fs))) o):=by
 have L:=Lh a;clear a;let⟨M,fI⟩:=x;obtain⟨_,eD,a,-,-,-,dK⟩:=id d;rcases dK with dL|⟨b,o,rfl,-,-⟩
 .rw [dL]at dJ;simp at dJ
 obtain⟨rfl,rfl⟩:fB=O (X b o)/\z=eD:=by simpa using a
 clear a;refine(Xb G b o F E z g (Lh r) fG B (Lh q) n fQ (Lh d) k (Lh h) y dJ p (Lh e) M fI fV fU fT _).2 (Lh ?_);intro dK dK dK dK dK dK dK dK T dK dK dK fD dK dK dK dK dK dK dK fW j s dK eP eQ eR eS gB fR fK eT dK fJ dK dK;let⟨fC,fS,eW,N⟩:=Λ4 d h e q;clear r q d h e;rcases L.o with ⟨e,Y,i,v,h,eZ,rfl⟩|⟨e,S,rfl⟩|⟨e,S,_,rfl⟩|⟨e,c,R,u,dH,i,l,h,P,A,J,fH,C,r,rfl⟩|⟨e,c,R,u,dH,i,l,h,P,A,J,fH,C,r,rfl⟩|⟨e,v,h,dR,C,Y,r,rfl⟩|⟨e,v,h,dR,C,Y,eM,eL,r,rfl⟩|⟨e,dM,R,V,eN,gA,Y,_,rfl⟩
 .have dN:=Lh e
  clear e L;obtain rfl:M=31:=dN.o;have:i.length<999999:=by have:=congrArg List.length h;simp at this;omega
  have dW:=Lh h;clear h;go_wp2_with fail;refine(Cm G (O (X b o)) F E n.length z g j.o U i v dW.o).mono ?_;rintro dK dL⟨rfl,fX,fZ,fY,Q,a⟩;have eP:=a.cell eP T;have eQ:=a.cell eQ T;have eR:=a.cell eR T;have eS:=a.cell eS T;have eT:=a.cell eT fR;have q:=a.notin fJ T;have fA:=a.notin fK fR;have fP:=Lh Q;have dT:=Lh (s.o.trans a);clear Q a;go_wp2_with fail;refine(Da G (O (X b o)) F E n.length z g fP.o U v eZ (by show i.length<_;omega)).mono ?_;rintro dK dL⟨rfl,_,_,cQ,t,d⟩;have eP:=d.cell eP q;have eQ:=d.cell eQ q;have eR:=d.cell eR q;have eS:=d.cell eS q;have eT:=d.cell eT fA;have eF:=Lh t;have eV:=Lh (dT.o.trans d);clear t d;go_wp2_with fail;refine(Da G (O (X b o)) F E n.length z g eF.o U v eZ (by show(i++[v]).length<_;simp;omega)).mono ?_;rintro dK dL⟨rfl,_,_,_,q,d⟩;have dY:=Lh q;have eC:=Lh (eV.o.trans d);clear q d;go_wp2_with fail;go_end0;rw[eW.o];exact⟨rfl,_,(dY.o.reframe _).own rfl,eC.o⟩
 .have dO:=Lh e
  clear e L;obtain rfl:M=13:=dO.o;have q:=j.o.cFuel;dsimp only at q;rw[S]at q;clear S;go_wp2_with fail;refine(Ek G (O (X b o)) F E n.length z g bm 20 _).mono ?_;rintro dK dL⟨rfl,q⟩;refine⟨rfl,?_⟩;rw[eW.o];exact⟨rfl,_,((j.o.kp q).reframe _).own rfl,s.o.trans (AW.ob q)⟩
 .have dP:=Lh e
  clear e L;obtain rfl:M=13:=dP.o;have dK:=j.o.cFuel;have:=j.o.frm 6;have:=j.o.frm 8;have q:=j.o.cIdle;dsimp only at dK q;let⟨t,a⟩:=KD (m':={m with I:=m.I+1,Y:=m.Y-1}) j.o Br 6 (D (m.Y-1)) rfl;let⟨q,d⟩:=KD (m':={m with I:=0,Y:=m.Y-1}) t Br 8 (D 0) rfl;have eE:=Lh q;have eG:=Lh ((s.o.trans a).trans d);clear t a q d;go_wp2_with fail;go_end0;rw[eW.o];exact⟨rfl,_,(eE.o.reframe _).own rfl,eG.o⟩
 .obtain ⟨H_ha,H_hst,H_hpz,H_hq,H_h64,H_hz⟩:=Λ6 R h P J C dH
  have H_hd:=Lh r;clear R h P J C dH r;have dU:=Lh e;clear e L;obtain rfl:fI=c:=H_ha.o;obtain rfl:M=9:=dU.o;have eJ:=Lh (fC.o.funs (s.o.below N.o fD));go_wp2_with fail;refine(OG G (O (X b o)) F E z g (j.o.reframe (fs++[{f with pc:=(p:Int)+1}])) fG B N.o n fQ eJ.o c u H_hz.o i l H_hst.o H_hpz.o A H_hq.o fH H_h64.o rfl).mono ?_;rintro q dK dG;rcases dG with ⟨-,rfl,S,t,a⟩|⟨d,-⟩
  .have eB:=Lh t
   have dT:=Lh (s.o.trans a);clear t a;go_wp2_with fail;go_end0;rw[eW.o];exact⟨rfl,S,eB.o,dT.o⟩
  exact absurd H_hd.o d
 .obtain ⟨H_ha,H_hst,H_hpz,H_hq,H_h64,H_hz⟩:=Λ6 R h P J C dH
  have H_hd:=Lh r;clear R h P J C dH r;have dV:=Lh e;clear e L;obtain rfl:fI=c:=H_ha.o;obtain rfl:M=9:=dV.o;have eK:=Lh (fC.o.funs (s.o.below N.o fD));go_wp2_with fail;refine(OG G (O (X b o)) F E z g (j.o.reframe (fs++[{f with pc:=(p:Int)+1}])) fG B N.o n fQ eK.o c u H_hz.o i l H_hst.o H_hpz.o A H_hq.o fH H_h64.o rfl).mono ?_;rintro i l dH;rcases dH with ⟨dS,-⟩|⟨-,rfl,fX,fZ,fY,Q,a⟩
  .exact absurd dS H_hd.o
  refine⟨rfl,?_⟩;rw[eW.o];exact⟨rfl,_,(Q.reframe _).own rfl,s.o.trans a⟩
 .obtain ⟨H_hst,H_hv,H_hsl,H_hd⟩:=Λ4 h dR Y r
  clear h dR Y r;have dQ:=Lh e;clear e L;obtain rfl:M=10:=dQ.o;have eH:=Lh (fC.o.funs (s.o.below N.o fD));have dZ:=Lh dJ;clear dJ;go_wp2_with fail;refine(OD G (O (X b o)) F E z g j.o fG B N.o n eH.o k fS.o y dZ.o v H_hst.o H_hv.o C H_hsl.o).mono ?_;rintro i l dI;rcases dI with ⟨-,rfl,S,t,a⟩|⟨eM,eL,d,-⟩
  .refine ⟨rfl,?_⟩
   exact⟨rfl,S,t,s.o.trans a⟩
  rw[H_hd.o]at d;simp at d
 .obtain ⟨H_hst,H_hv,H_hsl,H_hd⟩:=Λ4 h dR Y r
  clear h dR Y r;have dR:=Lh e;clear e L;obtain rfl:M=10:=dR.o;have eI:=Lh (fC.o.funs (s.o.below N.o fD));have eA:=Lh dJ;clear dJ;go_wp2_with fail;refine(OD G (O (X b o)) F E z g j.o fG B N.o n eI.o k fS.o y eA.o v H_hst.o H_hv.o C H_hsl.o).mono ?_;rintro i l dJ;rcases dJ with ⟨d,-⟩|⟨h,r,P,rfl,S,t,a⟩
  .rw [H_hd.o]at d;simp at d
  have J:eM++[eL]=h++[r]:=by rw[<-H_hd.o,P]
  obtain⟨rfl,rfl⟩:eM=h/\eL=r:=by simpa using List.append_inj' J rfl
  have dX:=Lh t;have dT:=Lh (s.o.trans a);clear t a P J;go_wp2_with fail;go_end0;exact⟨rfl,S,dX.o,dT.o⟩
 have H_ha:=Lh R;have H_hi:=Lh eN;clear R eN;have J:=Lh e;clear e L;obtain rfl:fI=dM:=H_ha.o;obtain rfl:M=2:=J.o;have:=(Ll H_hi.o);let⟨t,eN,e,d,h,_⟩:=j.o.loc.u1 (by show 0<f.L.length;omega);dsimp only at e d h;subst e;have fN:Hid (AN fW.drew bm fb cap (cur.setIfInBounds (fs.length*4+1) (D ((p:Int)+1))) cs fs {f with pc:=(p:Int)+1} (H (O (X t 0)) f.L eN) sv {m with I:=m.I+1} Fi Fl Fs):=j.o.kp (AG Br 1);have fO:Hid (AW (bm::fb::(Fi++(Fl++Fs))) (bm::fb::(Fi++(Fl++Fs))) w fW.drew):=s.o.trans (AW.ob (AG Br 1));have fF:=j.o.cLv;have fE:=j.o.loc.cellAt H_hi.o;have:=In dM;have:(dM:Int)<(f.L:Int):=U;go_upto_region 12 with fail;go_region_held3 (λW=>W.cell? (X w 0)=O (H G F E)/\W.cell? (X w 1)=O (D g)/\W.cell? (X w 2)=O (H (O (X b o)) n z)/\W.cell? (X w 3)=O (.pointer (O (X bm 0)))/\W.cell? (X gB 1)=O (D (dM:Int))/\W.cell? (X fb (fs.length*4+2))=O (H (O (X t 0)) f.L eN)/\W.cell? (X t dM)=O (D V))
  (first|exact⟨eP,eQ,eR,eS,eT,fF,fE⟩|exact⟨L,P,R,eO,eU,eX,eY⟩)
  (first|(go_at_call 147;refine(Da G (O (X b o)) F E n.length z g fN.o U V gA Y).mono ?_;rintro fL fM⟨rfl,fX,fZ,fY,Q,a⟩;have L:=a.cd eP T;have P:=a.cd eQ T;have R:=a.cd eR T;have eO:=a.cd eS T;have eU:=a.cd eT fR;have eX:=Q.cLv;have eY:=Q.loc.cellAt H_hi.o;have fP:=Lh Q;have dT:=Lh (fO.o.trans a);clear Q a))
 go_wp2_with fail;go_end0;rw[eW.o];exact⟨rfl,_,(fP.o.reframe _).own rfl,dT.o⟩
def JP(t dD:Option Addr)(s r l:Nat)(g:Int)(fE:AN w bm fb cap cur cs fs f lv sv m Fi Fl Fs)(fD:fs.length<200)
  (B:Nat) (fC:∀b∈bm::fb::(Fi++(Fl++Fs)),B<=b) (j:List BK) (fB:j.length<=1000000) (dX:AE B w 5 (CW B) (H dD j l) j) (k:Nat) (eY:f.fn=k) (y:BK) (cR:j[k]?=O y) (p:Nat) (dZ:f.pc=p) (x:Cd) (eX:y.q9[p]?=O x) (eU:y.q9.length<=1000000)
  (eR:0<=m.I/\m.I<100000) (o:KM)
  (eQ:((x.op=3)/\∃(h:Nat),(x.a=h)/\(h<f.L.length)/\∃(c:List Int),∃(v:Int),(f.S=c++[v])/\(in64 v)/\(f.L.length<=1000)/\o=.go {m with I:=m.I+1,J:=fs++[{f with pc:=f.pc+1,L:=f.L.set h v,S:=c}]})\/((x.op=14)/\(f.S.length<1000000)/\∃(c:List Int),∃(v:Int),(f.S=c++[v])/\(-1099511627776<=v/\v<=1099511627776)/\o=.go {m with I:=m.I+1,J:=fs++[{f with pc:=f.pc+1,S:=c++[-v]}]})\/((x.op=26)/\(f.S.length<1000000)/\∃(c:List Int),∃(v:Int),(f.S=c++[v])/\o=.go {m with I:=m.I+1,J:=fs++[{f with pc:=f.pc+1,S:=c++[D0 (v==0)]}]})\/((x.op=29)/\(f.S.length<1000000)/\∃(c:List Int),∃(v:Int),(f.S=c++[v])/\(-1099511627776<=v/\v<=1099511627776)/\o=.go {m with I:=m.I+1,J:=fs++[{f with pc:=f.pc+1,S:=c++[(Lib.bitLen (max 1 v).toNat:Int)-1]}]})) :
  ϙ prog 168 #[DH (H t s r) (H dD j l) g bm] w (EM w bm (bm::fb::(Fi++(Fl++Fs))) o):=by
 have dW:=Lh eQ;let⟨dQ,dY⟩:=x;obtain⟨_,cU,dA,-,-,-,J⟩:=id dX;rcases J with L|⟨b,o,rfl,-,-⟩
 .rw [L]at cR;simp at cR
 obtain⟨rfl,rfl⟩:dD=O (X b o)/\l=cU:=by simpa using dA
 refine(Xb t b o s r l g (Lh fE) fD B (Lh fC) j fB (Lh dX) k (Lh eY) y cR p (Lh dZ) dQ dY eX eU eR _).2 (Lh ?_);intro J J J J J J J J d J J J J J J J J J J J G dG eC J cV cW cX cY eW dB fA cZ J eZ J J;have eP:=Lh dZ;rcases dW.o with ⟨S,h,cS,cT,c,v,R,eS,_,rfl⟩|⟨S,n,c,v,R,Q,rfl⟩|⟨S,n,c,v,R,rfl⟩|⟨S,n,c,v,R,Q,rfl⟩
 .obtain ⟨H_ha,H_hi,H_hst,T⟩:=Λ4 cS cT R S
  obtain rfl:dY=h:=H_ha.o;obtain rfl:dQ=3:=T.o;have L:=H_hi.o;have eG:=Lh H_hst.o;let⟨n,J⟩:=Ϡ f.L h L;have eK:=Lh J;let⟨dI,dJ,q,n,J,_⟩:=dG.o.loc.u1 (by show 0<f.L.length;omega);dsimp only at q n J;subst q;have eA:Hid (AN G.drew bm fb cap (cur.setIfInBounds (fs.length*4+1) (D ((p:Int)+1))) cs fs {f with pc:=(p:Int)+1} (H (O (X dI 0)) f.L dJ) sv {m with I:=m.I+1} Fi Fl Fs):=dG.o.kp (AG Br 1);have eB:Hid (AW (bm::fb::(Fi++(Fl++Fs))) (bm::fb::(Fi++(Fl++Fs))) w G.drew):=eC.o.trans (AW.ob (AG Br 1));have:=dG.o.cLv;have:=In h;have:(h:Int)<(f.L:Int):=U;go_upto_region 14 with fail;go_region_with (first|(go_at_call 181;refine(Cm t (O (X b o)) s r j.length l g eA.o U c v eG.o).mono ?_;rintro u eL⟨rfl,_,_,_,i,a⟩;have z:=a.cd cV d;have A:=a.cd cW d;have C:=a.cd cX d;have E:=a.cd cY d;have F:=a.cd cZ dB;have:=i.cLv;have:=i.loc.cellAt eK.o;have:=i.loc.1.frozenAt h;have V:=Lh i;have Y:=Lh (eB.o.trans a);clear i a));all_goals (go_wp2_with fail)
  all_goals go_end0
  all_goals (rw[eP.o];let⟨n,q⟩:=RS V.o h v eS;exact⟨rfl,_,(n.reframe _).own rfl,Y.o.trans q⟩)
 .have H_hst:=Lh R
  have M:=Lh S;obtain rfl:dQ=14:=M.o;have eE:c.length<1000000:=by have:=congrArg List.length H_hst.o;simp at this;omega
  have P:in64 (-v):=⟨U,U⟩;have h:Af (-v)=ϑ:=by unfold Af;simp;omega
  have N:=Lh h;have:IntKind.i64.wrap (-v) = -v:=by rw[IntKind.wrap_i64];omega
  have eD:Hid (AN G.drew bm fb cap (cur.setIfInBounds (fs.length*4+1) (D ((p:Int)+1))) cs fs {f with pc:=(p:Int)+1} lv sv {m with I:=m.I+1} Fi Fl Fs):=dG.o.kp (AG Br 1);have eH:Hid (AW (bm::fb::(Fi++(Fl++Fs))) (bm::fb::(Fi++(Fl++Fs))) w G.drew):=eC.o.trans (AW.ob (AG Br 1));go_upto_region 41 with fail;go_region_held3 (λW=>W.cell? (X w 0)=O (H t s r)/\W.cell? (X w 1)=O (D g)/\W.cell? (X w 2)=O (H (O (X b o)) j l)/\W.cell? (X w 3)=O (.pointer (O (X bm 0)))/\W.cell? (X eW 1)=O (D dY))
   (first|exact⟨cV,cW,cX,cY,cZ⟩|exact⟨dK,dL,dM,dN,dO⟩|exact⟨dR,dS,dT,dU,dV⟩|exact⟨z,A,C,E,F⟩)
   (first|(go_at_call 181;refine(Cm t (O (X b o)) s r j.length l g eD.o U c v H_hst.o).mono ?_;rintro u eM⟨rfl,_,_,_,i,a⟩;have z:=a.cd cV d;have A:=a.cd cW d;have C:=a.cd cX d;have E:=a.cd cY d;have F:=a.cd cZ dB;have e:=a.notin (by exact eZ) d;have dH:=a.notin (by exact fA) dB;have V:=Lh i;have Y:=Lh (eH.o.trans a);clear i a)|(go_at_call 186;refine(J1 t (O (X b o)) s r j.length l g bm (-v) _ N.o).mono ?_;rintro u w6⟨rfl,hb6⟩;have dR:=AB hb6 z;have dS:=AB hb6 A;have dT:=AB hb6 C;have dU:=AB hb6 E;have dV:=AB hb6 F;have dC:=Lh (V.o.kp hb6);have dP:=Lh (Y.o.trans (AW.ob hb6));clear hb6)|(go_at_call 147;refine(Da t (O (X b o)) s r j.length l g dC.o U (-v) ?_ ?_).mono ?_;(exact P);(exact eE);rintro u w7⟨rfl,cur7,sv7,Fs7,hT7,hM7⟩;have dK:=hM7.cell dR e;have dL:=hM7.cell dS e;have dM:=hM7.cell dT e;have dN:=hM7.cell dU e;have dO:=hM7.cell dV dH;have dE:=Lh hT7;have dF:=Lh (dP.o.trans hM7);clear hT7 hM7))
  go_wp2_with fail;go_end0;rw[eP.o];exact⟨rfl,_,(dE.o.reframe _).own rfl,dF.o⟩
 .have H_hst:=Lh R
  have N:=Lh S;obtain rfl:dQ=26:=N.o;have eF:c.length<1000000:=by have:=congrArg List.length H_hst.o;simp at this;omega
  have P:in64 (D0 (v==0)):=by unfold D0;split<;>exact⟨δ,δ⟩
  have eE:Hid (AN G.drew bm fb cap (cur.setIfInBounds (fs.length*4+1) (D ((p:Int)+1))) cs fs {f with pc:=(p:Int)+1} lv sv {m with I:=m.I+1} Fi Fl Fs):=dG.o.kp (AG Br 1);have eI:Hid (AW (bm::fb::(Fi++(Fl++Fs))) (bm::fb::(Fi++(Fl++Fs))) w G.drew):=eC.o.trans (AW.ob (AG Br 1));go_upto_region 43 with fail;go_region_held3 (λW=>W.cell? (X w 0)=O (H t s r)/\W.cell? (X w 1)=O (D g)/\W.cell? (X w 2)=O (H (O (X b o)) j l)/\W.cell? (X w 3)=O (.pointer (O (X bm 0)))/\W.cell? (X eW 1)=O (D dY))
   (first|exact⟨cV,cW,cX,cY,cZ⟩|exact⟨dK,dL,dM,dN,dO⟩|exact⟨dR,dS,dT,dU,dV⟩|exact⟨z,A,C,E,F⟩)
   (first|(go_at_call 181;refine(Cm t (O (X b o)) s r j.length l g eE.o U c v H_hst.o).mono ?_;rintro u eN⟨rfl,_,_,_,i,a⟩;have z:=a.cd cV d;have A:=a.cd cW d;have C:=a.cd cX d;have E:=a.cd cY d;have F:=a.cd cZ dB;have e:=a.notin (by exact eZ) d;have dH:=a.notin (by exact fA) dB;have V:=Lh i;have Y:=Lh (eI.o.trans a);clear i a)|(go_at_call 187;refine(Jr (v==0) _).mono ?_;rintro u w6⟨rfl,rfl⟩)|(go_at_call 147;refine(Da t (O (X b o)) s r j.length l g V.o U (D0 (v==0)) ?_ ?_).mono ?_;(exact P);(exact eF);rintro u w7⟨rfl,cur7,sv7,Fs7,hT7,hM7⟩;have dK:=hM7.cell z e;have dL:=hM7.cell A e;have dM:=hM7.cell C e;have dN:=hM7.cell E e;have dO:=hM7.cell F dH;have dE:=Lh hT7;have dF:=Lh (Y.o.trans hM7);clear hT7 hM7))
  go_wp2_with fail;go_end0;rw[eP.o];exact⟨rfl,_,(dE.o.reframe _).own rfl,dF.o⟩
 have H_hst:=Lh R;have P:=Lh S;obtain rfl:dQ=29:=P.o;have fG:c.length<1000000:=by have:=congrArg List.length H_hst.o;simp at this;omega
 have:Lib.bitLen (max 1 v).toNat<=64:=E6 64 _;have fF:in64 ((Lib.bitLen (max 1 v).toNat:Int)-1):=⟨U,U⟩;have eV:0<=max 1 v:=U;have eT:max 1 v<=18446744073709551615:=U;have:IntKind.u64.wrap (max 1 v)=max 1 v:=by rw[IntKind.wrap_u64];omega
 have:IntKind.i64.wrap ((Lib.bitLen (max 1 v).toNat:Int)-1)=(Lib.bitLen (max 1 v).toNat:Int)-1:=by rw[IntKind.wrap_i64];omega
 have eF:Hid (AN G.drew bm fb cap (cur.setIfInBounds (fs.length*4+1) (D ((p:Int)+1))) cs fs {f with pc:=(p:Int)+1} lv sv {m with I:=m.I+1} Fi Fl Fs):=dG.o.kp (AG Br 1);have eJ:Hid (AW (bm::fb::(Fi++(Fl++Fs))) (bm::fb::(Fi++(Fl++Fs))) w G.drew):=eC.o.trans (AW.ob (AG Br 1));go_upto_region 45 with fail;go_region_held3 (λW=>W.cell? (X w 0)=O (H t s r)/\W.cell? (X w 1)=O (D g)/\W.cell? (X w 2)=O (H (O (X b o)) j l)/\W.cell? (X w 3)=O (.pointer (O (X bm 0)))/\W.cell? (X eW 1)=O (D dY))
  (first|exact⟨cV,cW,cX,cY,cZ⟩|exact⟨dK,dL,dM,dN,dO⟩|exact⟨dR,dS,dT,dU,dV⟩|exact⟨z,A,C,E,F⟩)
  (first|(go_at_call 181;refine(Cm t (O (X b o)) s r j.length l g eF.o U c v H_hst.o).mono ?_;rintro u eO⟨rfl,_,_,_,i,a⟩;have z:=a.cd cV d;have A:=a.cd cW d;have C:=a.cd cX d;have E:=a.cd cY d;have F:=a.cd cZ dB;have e:=a.notin (by exact eZ) d;have dH:=a.notin (by exact fA) dB;have V:=Lh i;have Y:=Lh (eJ.o.trans a);clear i a)|(go_at_call 188;refine(bits_Len (max 1 v) _ eV eT).mono ?_;rintro u w6⟨rfl,rfl⟩)|(go_at_call 147;refine(Da t (O (X b o)) s r j.length l g V.o U ((Lib.bitLen (max 1 v).toNat:Int)-1) ?_ ?_).mono ?_;(exact fF);(exact fG);rintro u w7⟨rfl,cur7,sv7,Fs7,hT7,hM7⟩;have dK:=hM7.cell z e;have dL:=hM7.cell A e;have dM:=hM7.cell C e;have dN:=hM7.cell E e;have dO:=hM7.cell F dH;have dE:=Lh hT7;have dF:=Lh (Y.o.trans hM7);clear hT7 hM7))
 go_wp2_with fail;go_end0;rw[eP.o];exact⟨rfl,_,(dE.o.reframe _).own rfl,dF.o⟩
def Uz(hs:AU c)(bU:Bv c)(o k:Option Addr)(q p l:Nat)(g:Int)(hg:Dr c m fs f)(hO:Ak w bm m F)
  (B:Nat) (A:∀b∈F,B<=b) (a:AE B w 5 (CW B) (H k c.q0 l) c.q0) :
  ϙ prog 168 #[DH (H o q p) (H k c.q0 l) g bm] w (EM w bm F (stepP c m)):=by
 obtain⟨fb,cap,bR,cs,lv,sv,Fi,Fl,Fs,s,rfl⟩:=hO.top hg.fr;have u:c.q0.length<=1000000:=by have:=hs.1.2.2.2.2.1;omega
 have E:=hg.len;have L:=hg.nums;by_cases bE:100000<=m.I
 .have e:stepP c m=.stop (Ah 6) m:=by unfold stepP;rw[if_pos bE]
  rw[e];exact Qi o k q p c.q0.length l g s hg.fr ⟨bE,L.idle1⟩
 have r:0<=m.I/\m.I<100000:=⟨L.idle0,U⟩;let⟨y,x,d,hr,j,G,aZ⟩:=hg.at_ hs;rw[hg.stepP d.fn j r.2];have bH:=(hs.wf d.fn).op x (Lm j);have bN:=bU y (Lm d.fn);have t:y.q9.length<=1000000:=U;have bT:=DJ (hs.wf d.fn) (hs.snd d.fn) hr;have bP:f.S.length<999999:=U;have Q:f.S.length<1000000:=U;have aW:=hg.low.small hs bU;have aH:∀f∈fs,f.S.length<1000000:=λf hf=>by have:=aW f (List.mem_reverse.2 hf);omega
 have C:=(Int.toNat_of_nonneg d.fn0).symm;have v:=(Int.toNat_of_nonneg d.pc0).symm;have bC:=λn h=>(d.sv n h).in64;have bO:=hs.fok d.fn;unfold CX at bO;have bG:f.L.length<=1000:=by have:=d.loc;omega
 have P:1<=f.S.length->BP (f.S.getLastD 0):=λJ=>d.sv _ (by rw[Bq J];simp);have hu:2<=f.S.length->BP (f.S.dropLast.getLastD 0):=λJ=>d.sv _ (by rw[FL J];simp);unfold Df;simp only[];by_cases e1:x.op=1
 .rw [if_pos e1]
  exact Es o k q p l g s E B A c.q0 u a f.fn.toNat C y d.fn f.pc.toNat v x j t r _ (.inl ⟨e1,Q,rfl⟩)
 rw[if_neg e1];by_cases e2:x.op=2
 .rw [if_pos e2]
  have aU:=hs.lim d.fn j (n:=y.L) (by rw[e2];rfl);have aV:=d.loc;have hi:f.L[x.a.toNat]?=O (f.L.getD x.a.toNat 0):=getD_some U;exact Et o k q p l g s E B A c.q0 u a f.fn.toNat C y d.fn f.pc.toNat v x j t r _ (.inr (.inr (.inr (.inr (.inr (.inr (.inr (⟨e2,x.a.toNat,U,(f.L.getD x.a.toNat 0),hi,(d.lv _ (Lm hi)).in64,Q,bG,rfl⟩))))))))
 rw[if_neg e2];by_cases T:x.op=3
 .rw [if_pos T]
  have i:=BN (c:=c) (y:=y) (x:=x) (by rw[T];decide);rw[T]at i;rw[i.1]at G;simp[Bk]at G;have aU:=hs.lim d.fn j (n:=y.L) (by rw[T];rfl);have aV:=d.loc;exact JP o k q p l g s E B A c.q0 u a f.fn.toNat C y d.fn f.pc.toNat v x j t r _ (.inl ⟨T,x.a.toNat,U,U,f.S.dropLast,(f.S.getLastD 0),(Bq U),(P U).in64,bG,rfl⟩)
 rw[if_neg T];by_cases e4:x.op=4
 .rw [if_pos e4]
  exact Es o k q p l g s E B A c.q0 u a f.fn.toNat C y d.fn f.pc.toNat v x j t r _ (.inr (.inl ⟨e4,rfl⟩))
 rw[if_neg e4];by_cases e5:x.op=5
 .rw [if_pos e5]
  have i:=BN (c:=c) (y:=y) (x:=x) (by rw[e5];decide);rw[e5]at i;rw[i.1]at G;simp[Bk]at G;exact Es o k q p l g s E B A c.q0 u a f.fn.toNat C y d.fn f.pc.toNat v x j t r _ (.inr (.inr (.inr (.inr (.inl ⟨e5,f.S.dropLast,(f.S.getLastD 0),(Bq U),rfl⟩)))))
 rw[if_neg e5];by_cases V:x.op=6
 .rw [if_pos V]
  have i:=BN (c:=c) (y:=y) (x:=x) (by rw[V];decide);rw[V]at i;rw[i.1]at G;simp[Bk]at G;split
  .rename_i J
   exact PE o k q p l g s E B A c.q0 u a f.fn.toNat C y d.fn f.pc.toNat v x j t r _ (.inl ⟨V,f.S.dropLast,(f.S.getLastD 0),(Bq U),J,rfl⟩)
  rename_i J;exact PE o k q p l g s E B A c.q0 u a f.fn.toNat C y d.fn f.pc.toNat v x j t r _ (.inr (⟨V,f.S.dropLast,(f.S.getLastD 0),(Bq U),U,rfl⟩))
 rw[if_neg V];by_cases W:x.op=7
 .rw [if_pos W]
  have i:=BN (c:=c) (y:=y) (x:=x) (by rw[W];decide);rw[W]at i;rw[i.1]at G;simp[Bk]at G;split
  .rename_i J
   exact PF o k q p l g s E B A c.q0 u a f.fn.toNat C y d.fn f.pc.toNat v x j t r _ (.inl ⟨W,f.S.dropLast.dropLast,(f.S.dropLast.getLastD 0),(f.S.getLastD 0),(FL U),J,rfl⟩)
  rename_i J;exact PF o k q p l g s E B A c.q0 u a f.fn.toNat C y d.fn f.pc.toNat v x j t r _ (.inr (⟨W,f.S.dropLast.dropLast,(f.S.dropLast.getLastD 0),(f.S.getLastD 0),(FL U),U,rfl⟩))
 rw[if_neg W];by_cases e8:x.op=8
 .rw [if_pos e8]
  exact Es o k q p l g s E B A c.q0 u a f.fn.toNat C y d.fn f.pc.toNat v x j t r _ (.inr (.inr (.inl ⟨e8,rfl⟩)))
 rw[if_neg e8];by_cases Y:x.op=9
 .rw [if_pos Y]
  have aU:=hs.lim d.fn j (n:=c.q0.length) (by rw[Y];rfl);let⟨z,hz⟩:=Ϡ c.q0 x.a.toNat;have bL:Dt c x.a=O z:=hz;have i:AM c y x=z.params:=by unfold AM;rw[if_pos Y,bL]
  rw[i]at G;have bQ:=hs.fok hz;unfold CX at bQ;rw[bL];simp only[];have bI:f.S=f.S.take (f.S.length-z.params.toNat)++f.S.drop (f.S.length-z.params.toNat):=(List.take_append_drop _ _).symm;have M:(f.S.drop (f.S.length-z.params.toNat)).length=z.params.toNat:=by rw[List.length_drop];omega
  have bA:=(Int.toNat_of_nonneg aU.1).symm;split
  .rename_i hd
   rw[show(⟨x.a,0,f.S.drop (f.S.length-z.params.toNat)++ϱ (z.L-z.params).toNat 0,[]⟩:AY)=⟨(x.a.toNat:Int),0,f.S.drop (f.S.length-z.params.toNat)++ϱ (z.L-z.params).toNat 0,[]⟩from by rw[<-bA]];exact Et o k q p l g s E B A c.q0 u a f.fn.toNat C y d.fn f.pc.toNat v x j t r _ (.inr (.inr (.inr (.inl ⟨Y,x.a.toNat,bA,z,hz,_,_,bI,(by rw[M];omega),(z.L-z.params).toNat,(by rw[M];omega),(by rw[M];omega),bC,hd,rfl⟩))))
  rename_i hd;exact Et o k q p l g s E B A c.q0 u a f.fn.toNat C y d.fn f.pc.toNat v x j t r _ (.inr (.inr (.inr (.inr (.inl ⟨Y,x.a.toNat,bA,z,hz,_,_,bI,(by rw[M];omega),(z.L-z.params).toNat,(by rw[M];omega),(by rw[M];omega),bC,hd,rfl⟩)))))
 rw[if_neg Y];by_cases R:x.op=10
 .rw [if_pos R]
  have i:AM c y x=D0 y.result:=by unfold AM;rw[if_neg U,if_pos R]
  have N:=aZ R;rw[i]at N;have aS:f.S=if y.result then [if y.result=ϑ then f.S.getLastD 0 else 0]else []:=by
   cases aR:y.result with
   |true=>rw[aR]at N;simp[D0]at N;have J:=Bq (st:=f.S) U;have h2:f.S.dropLast=[]:=List.eq_nil_of_length_eq_zero (by rw[List.length_dropLast];omega);rw[h2]at J;simpa using J
   |false=>rw[aR]at N;simp[D0]at N;simpa using N
  have bJ:y.result=ϝ->(if y.result=ϑ then f.S.getLastD 0 else 0)=0:=λh=>by rw[h];rfl
  have bK:in64 (if y.result=ϑ then f.S.getLastD 0 else 0):=by
   split
   .rename_i bV;rw[bV]at N;simp[D0]at N;exact(P U).in64
   unfold in64;omega
  cases bD:fs.getLast? with
  |none=>have aX:=List.getLast?_eq_none_iff.1 bD;exact Et o k q p l g s E B A c.q0 u a f.fn.toNat C y d.fn f.pc.toNat v x j t r _ (.inr (.inr (.inr (.inr (.inr (.inl ⟨R,_,aS,bJ,bK,aH,aX,rfl⟩))))))
  |some f'=>
   let⟨bB,bF⟩:=List.getLast?_eq_some_iff.1 bD;have M:fs.dropLast=bB:=by rw[bF];simp
   simp only[];rw[M];exact Et o k q p l g s E B A c.q0 u a f.fn.toNat C y d.fn f.pc.toNat v x j t r _ (.inr (.inr (.inr (.inr (.inr (.inr (.inl ⟨R,_,aS,bJ,bK,aH,bB,f',bF,rfl⟩)))))))
 rw[if_neg R];by_cases aT:x.op=11
 .rw [if_pos aT]
  exact Es o k q p l g s E B A c.q0 u a f.fn.toNat C y d.fn f.pc.toNat v x j t r _ (.inr (.inr (.inr (.inl ⟨aT,rfl⟩))))
 rw[if_neg aT];by_cases S:x.op=12
 .rw [if_pos S]
  have i:=BN (c:=c) (y:=y) (x:=x) (by rw[S];decide);rw[S]at i;rw[i.1]at G;simp[Bk]at G;split
  .rename_i J
   exact Es o k q p l g s E B A c.q0 u a f.fn.toNat C y d.fn f.pc.toNat v x j t r _ (.inr (.inr (.inr (.inr (.inr (.inr (.inr (⟨S,f.S.dropLast,(by rw[<-J];exact Bq U),rfl⟩))))))))
  rename_i J;exact Es o k q p l g s E B A c.q0 u a f.fn.toNat C y d.fn f.pc.toNat v x j t r _ (.inr (.inr (.inr (.inr (.inr (.inr (.inl ⟨S,f.S.dropLast,(f.S.getLastD 0),(Bq U),J,rfl⟩)))))))
 rw[if_neg S];by_cases aQ:x.op=13
 .rw [if_pos aQ]
  split
  .rename_i J
   exact Et o k q p l g s E B A c.q0 u a f.fn.toNat C y d.fn f.pc.toNat v x j t r _ (.inr (.inl ⟨aQ,J,rfl⟩))
  rename_i J;have aY:=L.potle;have bM:=L.cmp0;unfold Co at aY;exact Et o k q p l g s E B A c.q0 u a f.fn.toNat C y d.fn f.pc.toNat v x j t r _ (.inr (.inr (.inl ⟨aQ,J,⟨L.Y,U⟩,rfl⟩)))
 rw[if_neg aQ];by_cases aL:x.op=14
 .rw [if_pos aL]
  have i:=BN (c:=c) (y:=y) (x:=x) (by rw[aL];decide);rw[aL]at i;rw[i.1]at G;simp[Bk]at G;exact JP o k q p l g s E B A c.q0 u a f.fn.toNat C y d.fn f.pc.toNat v x j t r _ (.inr (.inl ⟨aL,Q,f.S.dropLast,(f.S.getLastD 0),(Bq U),(P U),rfl⟩))
 rw[if_neg aL];by_cases aM:x.op=26
 .rw [if_pos aM]
  have i:=BN (c:=c) (y:=y) (x:=x) (by rw[aM];decide);rw[aM]at i;rw[i.1]at G;simp[Bk]at G;exact JP o k q p l g s E B A c.q0 u a f.fn.toNat C y d.fn f.pc.toNat v x j t r _ (.inr (.inr (.inl ⟨aM,Q,f.S.dropLast,(f.S.getLastD 0),(Bq U),rfl⟩)))
 rw[if_neg aM];by_cases aN:x.op=29
 .rw [if_pos aN]
  have i:=BN (c:=c) (y:=y) (x:=x) (by rw[aN];decide);rw[aN]at i;rw[i.1]at G;simp[Bk]at G;exact JP o k q p l g s E B A c.q0 u a f.fn.toNat C y d.fn f.pc.toNat v x j t r _ (.inr (.inr (.inr (⟨aN,Q,f.S.dropLast,(f.S.getLastD 0),(Bq U),(P U),rfl⟩))))
 rw[if_neg aN];by_cases aO:x.op=30
 .rw [if_pos aO]
  have i:=BN (c:=c) (y:=y) (x:=x) (by rw[aO];decide);rw[aO]at i;rw[i.1]at G;simp[Bk]at G;exact Es o k q p l g s E B A c.q0 u a f.fn.toNat C y d.fn f.pc.toNat v x j t r _ (.inr (.inr (.inr (.inr (.inr (.inl ⟨aO,f.S.dropLast,(f.S.getLastD 0),(Bq U),rfl⟩))))))
 rw[if_neg aO];by_cases aP:x.op=31
 .rw [if_pos aP]
  have i:=BN (c:=c) (y:=y) (x:=x) (by rw[aP];decide);rw[aP]at i;rw[i.1]at G;simp[Bk]at G;exact Et o k q p l g s E B A c.q0 u a f.fn.toNat C y d.fn f.pc.toNat v x j t r _ (.inl ⟨aP,bP,f.S.dropLast,(f.S.getLastD 0),(Bq U),(P U).in64,rfl⟩)
 rw[if_neg aP];have h2:=Qn bH.1 bH.2 ⟨e1,e2,T,e4,e5,V,W,e8,Y,R,aT,S,aQ,aL,aM,aN,aO,aP⟩;have i:=JH (c:=c) (y:=y) h2;rw[i.1]at G;have aY:=L.potle;have bM:=L.cmp0;have bS:=L.Y;unfold Co at aY;split
 .rename_i hE
  exact PD o k q p l g s E B A c.q0 u a f.fn.toNat C y d.fn f.pc.toNat v x j t r _ (.inl ⟨h2,Q,f.S.dropLast.dropLast,(f.S.dropLast.getLastD 0),(f.S.getLastD 0),(FL U),(hu U),(P U),⟨U,U⟩,hE,(K9 h2 (hu U) (P U) hE).in64,rfl⟩)
 rename_i hE;exact PD o k q p l g s E B A c.q0 u a f.fn.toNat C y d.fn f.pc.toNat v x j t r _ (.inr (⟨h2,Q,f.S.dropLast.dropLast,(f.S.dropLast.getLastD 0),(f.S.getLastD 0),(FL U),(hu U),(P U),⟨U,U⟩,hE,rfl⟩))
def Ok{fv e:ϒ}{m':AV}{F0 c:List Nat}(g:w.heap[bm]?=O (Z (AC fv m) 59 (0,0)))(i:bm∉c)(hs:∀b∈c,b∈F0)
  (l:W.heap[bm]?=O (Z (AC e m') 59 (0,0))) (f:AW [bm] [bm] w W) (h:Cv w e m'.J c) (o:Obj) :
  ∃d,Ak (W.alloc o) bm m' d/\AW (bm::F0) d w (W.alloc o):=by
 have j:=(La g);have:=f.size;have g:=h.lt;have d:∀k,k<(w:Nat)->(W.alloc o).heap[k]?=W.heap[k]?:=λk n=>Ha _ _ _ U;refine⟨bm::c,Ab.2 ⟨e,c,by rw[d bm j];exact l,h.kp (λb a=>by rw[d b (g b a),f.block b (g b a) (λc=>i (by rw[List.mem_singleton]at c;exact c▸a))]),rfl,i⟩,?_⟩;have c:=f.trans (AW.ob (F:=[bm]) (AA W o));exact c.wide (λb a=>by simp at a;simp[a]) (λb a=>by
  rw[ϰ]at a;rcases a with rfl|a
  .left;simp
  right;simp[hs b a])
def OC:∀(v:ϒ)(w:Ϣ),(Instr.typeAssert (.iface 218 v) 20 218 ϑ).run prog w=.ok (.tuple #[v,.bool ϑ]) w:=λv w=>by kernel_rfl
def P6(x y:ϒ):(#[x]++((((Array.replicate 32 undef).setIfInBounds 3 y).setIfInBounds 0 y).setIfInBounds 4 y).setIfInBounds 5 (.bool ϑ))=#[x,y,undef,undef,y,y,.bool ϑ,undef,undef,undef,undef,undef,undef,undef,undef,undef,undef,undef,undef,undef,undef,undef,undef,undef,undef,undef,undef,undef,undef,undef,undef,undef,undef]:=by kernel_rfl
def Ss{d:Nat}(h:Ak w bm m F)(i:d∉F)(o:w.cell? (X d 0)=O (.pointer (O (X bm 0))))(r:Rq)(g:List PanicEntry) :
  CallsD prog 167 #[.pointer (O (X d 0))] (.panicking ({v:=Ln r,recovered:=ϝ}::g)) w λd k w'=>
   d=.returned (.tuple #[])/\k=.panicking ({v:=Ln r,recovered:=ϑ}::g)/\∃d,Ak w' bm (EG r m) d/\AW F d w w':=by
 obtain⟨f,p,c,e,rfl,s⟩:=Ab.1 h;have:=(La c);have a:∀d v,(AC f m)[d]?=O v->w.cell? (X bm d)=O v:=λd v g=>by rw[cell_of_row _ _ _ _ _ _ c];exact g
 have:=a 0 f rfl;have:=a 1 (D m.Q.K) rfl;have:=a 2 (D m.Q.O) rfl;have:=a 3 (D m.Q.D) rfl;have:=a 4 (D m.Q.V) rfl;have:=a 5 (D m.Q.X) rfl;have:=ϴ c;have:=Bl o;have n:=Lh c;have q:=Lh e;clear c e h a i;have:=OC;unfold Ln;refine callsD_of_wpS func167 rfl λc cs a=>?_;apply wpS_seq;apply wpS_region;simp[wpOpsS,go_sem,recoverD,a,ntmps167,Exit.thenS];apply wpS_seq;apply wpS_region;simp[wpOpsS,go_sem,ntmps167,Exit.thenS];refine wpS_cond (t:=ϑ) (by simp[Act.eval,Array.replicate]) ?_;simp only[if_true];have:=Lh a;clear a;refine wpS_of_wp ?_;obtain⟨_,a⟩:=ε (.iface 218 (.agg #[D r.K,D r.O,D r.D,D r.V,D r.X]):ϒ);rw[<-a];rw[P6];rw[a];clear a;have e:=Lh (EP n.o r);by_cases a:r.K=4\/r.K=5
 .have d:Hid (EG r m={m with Q:=r,J:=[]}):=by refine Lh ?_;unfold EG;rw[if_pos a]
  have j:Hid (∃c,Ak (((BO w bm r).setCell (X bm 0) ν).alloc (Z #[D r.K,D r.O,D r.D,D r.V,D r.X] 218)) bm (EG r m) c/\AW (bm::p) c w (((BO w bm r).setCell (X bm 0) ν).alloc (Z #[D r.K,D r.O,D r.D,D r.V,D r.X] 218))):=by rw[d.o];have c:=ϡ _ bm 0 _ _ ν e.o.1;rw[CY]at c;exact Ok n.o ψ (λb d=>by simp at d) (m':={m with Q:=r,J:=[]}) c (e.o.2.trans BX) (Ds w) _
  unfold BO at j;rcases a with a|a
  .obtain ⟨_,_,_,_,_⟩:=r
   dsimp only at a;subst a;go_wp2;refine⟨rfl,_,rfl,_,results_none rfl _ _ _,rfl,rfl,?_⟩;exact j.o
  obtain⟨_,_,_,_,_⟩:=r;dsimp only at a;subst a;go_wp2;refine⟨rfl,_,rfl,_,results_none rfl _ _ _,rfl,rfl,?_⟩;exact j.o
 have i:¬r.K=4:=λc=>a (.inl c);have h:¬r.K=5:=λc=>a (.inr c);have d:Hid (EG r m={m with Q:=r}):=by refine Lh ?_;unfold EG;rw[if_neg a]
 have l:Hid (∃c,Ak ((BO w bm r).alloc (Z #[D r.K,D r.O,D r.D,D r.V,D r.X] 218)) bm (EG r m) c/\AW (bm::p) c w ((BO w bm r).alloc (Z #[D r.K,D r.O,D r.D,D r.V,D r.X] 218))):=by rw[d.o];exact Ok n.o s (λ_ c=>c) (m':={m with Q:=r}) e.o.1 e.o.2 q.o _
 unfold BO at l;clear a d e;obtain⟨c,_,_,_,_⟩:=r;dsimp only at i h;have:(c==4)=ϝ:=by simp[i]
 have:(c==5)=ϝ:=by simp[h]
 go_wp2;refine⟨rfl,_,rfl,_,results_none rfl _ _ _,rfl,rfl,?_⟩;exact l.o
def KT(c:AQ)(m:AV)(bm:Nat)(F:List Nat)(w:Ϣ)(e:Ending)(w':Ϣ):Prop:=
 e=.returned (.tuple #[])/\∃m' F',Cf c m m'/\Ak w' bm m' F'/\AW F F' w w'
def Tj(c:AQ)(m:AV)(bm:Nat)(F:List Nat)(W:Ϣ)(fa:Option Addr)(fn fc:Nat)(g:Int)(gv:ϒ)(gk:Nat)(b4:Nat)(wr:Ϣ):Prop:=
 ∃mr fs f Fr,Dr c mr fs f/\(Co mr).toNat<gk/\(∀m',Cf c mr m'->Cf c m m')/\Ak wr bm mr Fr/\AW F Fr W wr/\b4∉Fr/\AR wr b4 [H fa fn fc,D g,gv,.pointer (O (X bm 0))]
def KW(hs:AU c)(bU:Bv c)(k e:Option Addr)(j i d:Nat)(g:Int)(q:Dr c m fs f)(h:Ak w bm m F)
  (B:Nat) (l:∀b∈F,B<=b) (p:AE B w 5 (CW B) (H e c.q0 d) c.q0) :
  ϙ prog 148 #[.agg #[H k j i,D g,H e c.q0 d],.pointer (O (X bm 0))] w (KT c m bm F w):=by
 have R:=Lh h.lt;let⟨W,a⟩:=ε (((w.alloc (Z #[H k j i,D g,H e c.q0 d] 25)).alloc (Z #[.pointer (O (X bm 0))] 166)).alloc (Z #[H k j i,D g,H e c.q0 d,.pointer (O (X bm 0))] 199));have T:=Lh (bl3 a);have bQ:=Lh (sz3 a);have bV:Hid (W.cell? (X (w+1) 0)=O (.pointer (O (X bm 0)))):=by rw[a];refine Lh ?_;go_simp
 have n:=Lh (Xo6 a);have bO:Hid (Tj c m bm F W k j i g (H e c.q0 d) ((Co m).toNat+1) ((w:Nat)+1+1) W):=
  Lh ⟨m,fs,f,F,q,U,λ_ o=>o,h.kp T.o,AW.self,λo=>by have:=R.o _ o;omega,n.o⟩
 have bP:B<=w:=by obtain⟨_,_,_,_,rfl,_⟩:=Ab.1 h;have:=l bm ψ;have:=R.o bm ψ;omega
 have C:=@Lh (B<=W) (by have:=bQ.o;omega);have bM:=Lh p;have z:=Lh l;clear p l q h;go_enter_defers func148,ntmps148;go_wp2_with fail;rw[<-a];clear a n;go_loopg[4] ((Co m).toNat+1) (λgk t wr=>∃o:Nat,t=.pointer (O (X o 0))/\Hid (Tj c m bm F W k j i g (H e c.q0 d) gk o wr));exact⟨(w:Nat)+1+1,rfl,bO⟩;obtain⟨_,rfl,u⟩:=hrel;let⟨S,_,_,_,h,o,q,s,a,t,l⟩:=u.o;have p:=Γ4 l;let⟨P,bT,bN,N,x,n⟩:=Λ6 h o q s a t;have M:=Lh (a.ge z.o C.o);have L:=Lh (bM.o.funs ((T.o.mono bP).trans (a.below z.o C.o)));have v:=GA hs h;clear u h o q s a l t;go_wp2_with fail;refine(Uz hs bU k e j i d g P.o N.o B M.o L.o).mono ?_;rintro o u q;cases l:stepP c S with
 |go h=>
  rw[l]at q v;obtain⟨rfl,V,s,a⟩:=q;let⟨⟨t,z,o⟩,y⟩:=v;have v:0<=Co h:=by have:=o.nums.Y;have:=o.nums.idle1;unfold Co;omega
  have:=a.cell p.1 n.o;have:=a.cell p.2.1 n.o;have:=a.cell p.2.2.1 n.o;have:=a.cell p.2.2.2 n.o;have Y:Hid (Tj c m bm F W k j i g (H e c.q0 d) ((Co h).toNat+1) (u:Nat) (u.alloc (Z #[H k j i,D g,H e c.q0 d,.pointer (O (X bm 0))] 199))):=
   Lh ⟨h,t,z,V,o,U,λd e=>bN.o d (.go l e),s.kp (AA _ _),(x.o.trans a).trans (AW.ob (AA _ _)),λd=>by have:=s.lt _ d;omega,AF⟩
  have G:=@Lh ((Co h).toNat+1<gk) (by have:=bT.o;omega);clear s a o y v l p;go_wp2_with fail;go_roundg((Co h).toNat+1)
  case measure=>exact G.o
  case rel=>exact⟨_,rfl,Y⟩
 |stop r a=>
  rw[l]at q;obtain⟨rfl,J,Q,p⟩:=q;have d:(w:Nat)+1∉F:=λa=>by have:=R.o _ a;omega
  have e:=x.o.notin (by have:=bQ.o;omega) d;have a:=x.o.cell bV.o d;have h:(w:Nat)+1∉J:=p.notin (Bl a) e;have d:=p.cell a e;refine leaves_cons (f:=167) (args:=#[.pointer (O (X (w+1) 0))]) ψ (by simp[go_sem]) ?_;refine(Ss Q h d r []).mono ?_;rintro bR bS y⟨rfl,rfl,s,A,E⟩;have a:KT c m bm F w (.returned (.tuple #[])) y:=⟨rfl,_,s,bN.o _ (.stop l),A,(AW.ob T.o).trans ((x.o.trans p).trans E)⟩;simp[Leaves,settle,results,results148,go_sem];exact a
def Jf:An 179:=λ_ _=>by kernel_rfl
def L2:An 163:=λ_ _=>by kernel_rfl
def L4(a d:ByteArray)(p l r c:ϒ)(b:Nat)(w:Ϣ)(f:b<w)(g:w.cell? (X b 0)=O (.string d)) :
  ϙ prog 179 #[.agg #[.string a,p,l,r,c],.pointer (O (X b 0))] w λe w'=>e=.returned (.bool (CM a d))/\ϐ w w w':=by
 have:(w.alloc (Z #[.string a,p,l,r,c] 70)).cell? (X b 0)=O (.string d):=by rw[World.cell?_alloc_past _ _ _ f];exact g
 go_in;go_wp2;go_ret;exact⟨rfl,Br.alloc (Nr _) _⟩
def NK(c:ByteArray)(b:Nat)(B:Nat)(w:Ϣ)(h:b<w)(i:w.cell? (X b 0)=O (.string c)):∀(x:BK)(a:Ϣ)(d:ϒ),ϐ w w a->EI B a d x->ϙ prog 179 (#[d]++#[.pointer (O (X b 0))]) a (λd g=>d=.returned (.bool (CM x.name c))/\ϐ a a g):=by
 rintro x f j e⟨_,rfl,_⟩;exact L4 x.name c _ _ _ _ b f (by have:=e.size;omega) (by rw[e.cell (p:=(X b 0)) h];exact i)
def Qg(n:Int)(w:Ϣ) :
  ϙ prog 163 #[D n] w λa w'=>a=.returned (.bool (!Af n))/\w=w':=by
 go_in;go_wp2_with(go_at_call 141;refine(Bh n _).mono ?_;rintro b w'⟨rfl,rfl⟩);go_ret;exact⟨rfl,rfl⟩
def Su(w:Ϣ):∀(x:Int)(a:Ϣ)(b:ϒ),ϐ w w a->Ny 0 a b x->ϙ prog 163 (#[b]++#[]) a (λb d=>b=.returned (.bool (!Af x))/\ϐ a a d):=by
 rintro x c e _⟨rfl,_⟩;exact(Qg x c).mono λc d ⟨a,b⟩=>⟨a,b▸Below.refl _ _⟩
def NL(c:AQ)(e:ϒ)(b:ByteArray)(B:Nat)(w:Ϣ)(r:B<=w)(n:BF B w e c) :
  ϙ prog 162 #[e,.string b] w λe w'=>e=.returned (D (Dh c b))/\ϐ w w w':=by
 obtain⟨_,_,rfl,i,d,_⟩:=n;have p:=Lh d;obtain⟨m,l,rfl,_,_,_,_⟩:=i;obtain⟨k,j,rfl,_,_,_,_⟩:=d;let⟨W,a⟩:=ε ((w.alloc (Z (Bc m l k j c) 25)).alloc (Z #[.string b] 9));have h:=Lh (bl2 a);have q:Hid (W.cell? (X (w+1) 0)=O (.string b)):=by rw[a];refine Lh ?_;go_simp
 have o:=Lh (p.o.funs (h.o.mono r));have g:=Lh (sz2 a);go_in;go_wp2_with fail;rw[<-a];clear a;refine(FQ 179 #[.pointer (O (X (w+1) 0))] (λf=>CM f.name b) c.q0 _ B _ Jf (by have:=g.o;omega) o.o (NK b _ B _ (by have:=g.o;omega) q.o)).mono ?_;rintro b w'⟨rfl,a⟩;go_wp2;go_ret;exact⟨rfl,h.o.th a⟩
def Kz(w:Ϣ)(b:Nat):Prop:=w.heap[b]?=O (Z #[ν,D 0,D 0,D 0,D 0,D 0,D 0,D 0,D 0] 59 (0,0))
def Kz.look(a:Kz w b):(w.cell? (X b 0)=O ν/\w.cell? (X b 1)=O (D 0)/\w.cell? (X b 2)=O (D 0)/\w.cell? (X b 3)=O (D 0)/\w.cell? (X b 4)=O (D 0)/\w.cell? (X b 5)=O (D 0)/\w.cell? (X b 6)=O (D 0)/\w.cell? (X b 7)=O (D 0)/\w.cell? (X b 8)=O (D 0))/\
  (w.frozen? (X b 0)=ϝ/\w.frozen? (X b 1)=ϝ/\w.frozen? (X b 2)=ϝ/\w.frozen? (X b 3)=ϝ/\w.frozen? (X b 4)=ϝ/\w.frozen? (X b 5)=ϝ/\w.frozen? (X b 6)=ϝ/\w.frozen? (X b 7)=ϝ/\w.frozen? (X b 8)=ϝ)/\b<w:=
 ⟨⟨Cr a rfl,Cr a rfl,Cr a rfl,Cr a rfl,Cr a rfl,Cr a rfl,Cr a rfl,Cr a rfl,Cr a rfl⟩,⟨Fz a,Fz a,Fz a,Fz a,Fz a,Fz a,Fz a,Fz a,Fz a⟩,(La a)⟩
def Kz.kp(a:Kz w b)(c:ϐ w w w'):Kz w' b:=(c.block _ (La a)).trans a
def Qt(b o j:Nat):((X b o):Addr).add j=(X b (o+j)):=by unfold Addr.add;split<;>simp_all
def Pk(r:Rq)(n:Int)(w:Ϣ) :
  ϙ prog 111 #[XZ r,D n] w λh w'=>h=.returned (.bool (Bj r n))/\ϐ w w w':=by
 let⟨a,f,e,g,d⟩:=r;unfold XZ;by_cases c:a=1
 .subst c
  have k:=@Lh (Bj ⟨1,f,e,g,d⟩ n=Af n) (by unfold Bj;rw[if_pos rfl]);go_in;go_wp2_with(go_at_call 141;refine(Bh n _).mono ?_;rintro m w'⟨rfl,rfl⟩);go_ret;exact⟨by rw[k.o];rfl,AA _ _⟩
 by_cases b:a=3
 .subst b
  have i:=@Lh (Bj ⟨3,f,e,g,d⟩ n=decide (0<=n/\n<=1099511627776)) (by unfold Bj;rw[if_neg ψ,if_pos rfl]);by_cases j:0<=n
  .have:decide (0<=n)=ϑ:=by simp[j]
   go_in;go_wp2_with fail;all_goals (go_ret;exact⟨by rw[i.o];exact Ca (by simp[*]),AA _ _⟩)
  have:=θ (0<=n);go_in;go_wp2_with fail;all_goals (go_ret;exact⟨by rw[i.o];exact Ca (by simp;try omega),AA _ _⟩)
 have l:=@Lh (Bj ⟨a,f,e,g,d⟩ n=ϑ) (by unfold Bj;rw[if_neg c,if_neg b]);have:(a==1)=ϝ:=by simp[c]
 have:(a==3)=ϝ:=by simp[b]
 go_in;go_wp2;go_ret;exact⟨by rw[l.o];rfl,AA _ _⟩
def JD(a:Ak w bm m F)(r:Rq):Ak (BO w bm r) bm {m with Q:=r} F/\AW F F w (BO w bm r):=by
 obtain⟨h,g,f,c,rfl,e⟩:=Ab.1 a;let⟨a,d⟩:=EP f r;exact⟨Ab.2 ⟨h,g,a,c.kp (λb a=>d.block b (c.lt b a) (λc=>e (by rw[List.mem_singleton]at c;exact c▸a))),rfl,e⟩,d.wide (λb a=>by simp at a;simp[a]) (λb a=>.inr a)⟩
def EJ(c:AQ)(m:AV)(n:Int)(bm:Nat)(F:List Nat)(w:Ϣ)(e:Ending)(w':Ϣ):Prop:=
 e=.returned (.tuple #[])/\∃m' F',ED c m n m'/\Ak w' bm m' F'/\AW F F' w w'
def Vy(hs:AU c)(R:Bv c)(s k:Option Addr)(r q j:Nat)(g n:Int)(M:C9 c m m.Q fs f)(N:EB m)(a:Ak w bm m F)
  (B:Nat) (h:∀b∈F,B<=b) (L:AE B w 5 (CW B) (H k c.q0 j) c.q0) (t:m.Q.K=2) :
  ϙ prog 113 #[.agg #[H s r q,D g,H k c.q0 j],.pointer (O (X bm 0)),D n] w (EJ c m n bm F w):=by
 have e:=Lh a.lt;let⟨W,d⟩:=ε ((w.alloc (Z #[H s r q,D g,H k c.q0 j] 25)).alloc (Z #[H s r q,D g,H k c.q0 j,.pointer (O (X bm 0))] 199));have p:=Lh (bl2 d);have C:=Lh (Xdu d);have E:B<=w:=by obtain⟨_,_,_,_,rfl,_⟩:=Ab.1 a;have:=h bm ψ;have:=e.o bm ψ;omega
 have:bm∈F:=by obtain⟨_,_,_,_,rfl,_⟩:=Ab.1 a;simp
 let⟨P,A,i,v⟩:=Λ4 L h (a.kp p.o) M;have l:=Γ3 C.o;have J:(w:Nat)∉F:=λa=>by have:=e.o _ a;omega
 have G:=Lh t;have Q:=Lh (v.o.goOn N t Eg);have:W.cell? (X bm 1)=O (D 2):=by let⟨_,_,a,_,_,_⟩:=Ab.1 i.o;have:=AD a 1 (D m.Q.K) rfl;rw[G.o]at this;exact this
 go_in;go_upto_region 2 with fail;rw[<-d];clear d;have h:=J;let⟨a,e⟩:=JD i.o Eg;have u:=Lh a;have o:=Lh ((AW.self (F:=F) (w:=W)).trans e);let⟨_,_,a,_,_,_⟩:=Ab.1 i.o;have:=ϴ a;have:=AD a 2 (D _) rfl;have:=AD a 3 (D _) rfl;have:=AD a 4 (D _) rfl;have:=AD a 5 (D _) rfl;let⟨_,d⟩:=ε (BO W bm Eg);rw[<-d]at u o;have t:=e.cell l.1 h;have i:=e.cell l.2.1 h;have a:=e.cell l.2.2 h;rw[<-d]at t i a;have z:=A;have y:=Lh (P.o.funs ((p.o.mono E).trans (o.o.below A.o (Nt E p.o.size))));unfold BO Eg at d;go_upto_region 10 with fail;rw[<-d];clear d;go_wp2_with fail;refine(KW hs R s k r q j g Q.o u.o B z.o y.o).mono ?_;rintro k a⟨rfl,e,d,h,i,j⟩;have x:Hid (EJ c m n bm F w (.returned (.tuple #[])) a):=Lh ⟨rfl,e,d,.inr (.inr ⟨G.o,h⟩),i,(AW.ob p.o).trans (o.o.trans j)⟩;go_wp2_with fail;go_end0;exact x.o
def next_push(hs:AU c)(bO:Bv c)(u l:Option Addr)(t s k:Nat)(g n:Int)(V:C9 c m m.Q fs f)(bN:EB m)(a:Ak w bm m F)
  (B:Nat) (z:∀b∈F,B<=b) (S:AE B w 5 (CW B) (H l c.q0 k) c.q0) (e:m.Q.K=1\/m.Q.K=3/\n≠0) (i:BP n) :
  ϙ prog 113 #[.agg #[H u t s,D g,H l c.q0 k],.pointer (O (X bm 0)),D n] w (EJ c m n bm F w):=by
 have v:=Lh a.lt;let⟨W,d⟩:=ε ((w.alloc (Z #[H u t s,D g,H l c.q0 k] 25)).alloc (Z #[H u t s,D g,H l c.q0 k,.pointer (O (X bm 0))] 199));let⟨q,M,A,L⟩:=Λ4 (bl2 d) (sz2 d) (Xdu d) (Xek d);have J:B<=w:=by obtain⟨_,_,_,i,rfl,h⟩:=Ab.1 a;have:=z bm ψ;have:=v.o bm ψ;omega
 have:bm∈F:=by obtain⟨_,_,_,i,rfl,h⟩:=Ab.1 a;simp
 let⟨bR,T,r,o⟩:=Λ4 S z (a.kp q.o) V;have x:=Γ3 A.o;have:=Γ4 L.o;have bP:(w:Nat)<W:=by have:=M.o;omega
 have j:(w:Nat)∉F:=λa=>by have:=v.o _ a;omega
 have bS:=Lh e;have bQ:=Lh (o.o.push bN U n i Eg);have R:W.cell? (X bm 1)=O (D m.Q.K):=by let⟨_,_,a,i,_,h⟩:=Ab.1 r.o;exact AD a 1 (D m.Q.K) rfl
 let⟨fb,cap,_,cs,lv,sv,Fi,Fl,Fs,a,v⟩:=r.o.top o.o.fr;have Q:=Lh a;have Y:=Lh v;have P:fs.length<=200:=by have:=o.o.len;omega
 have N:f.S.length<1000000:=by let⟨v,A,_,a,_,z,_,r,_⟩:=o.o.top;have:=DJ (hs.wf a.fn) (hs.snd a.fn) r;have:=bO v (Lm a.fn);have:=((hs.wf a.fn).pops A (Lm z)).1;omega
 rcases e with e|⟨e,h⟩
 rotate_left;have:(n==0)=ϝ:=by simp[h]
 rotate_left;all_goals
  rw[e]at R;go_in;go_upto_region 2 with fail;rw[<-d];clear d;go_wp2_with fail;refine(Da u l t s c.q0.length k g Q.o P n i.in64 N).mono ?_;rintro i r⟨rfl,_,_,e,a,h⟩;have i:=Lh ((a.reframe (fs++[{f with S:=f.S++[n]}])).own rfl);have a:=@Lh (AW F (bm::fb::(Fi++(Fl++e))) W r) (by rw[Y.o];exact h);have A:=a.o.cell x.1 j;have z:=a.o.cell x.2.1 j;have v:=a.o.cell x.2.2 j;have x:=Lh (a.o.ge T.o (Nt J q.o.size));have h:=a.o.notin bP j;let⟨j,e⟩:=JD i.o Eg;have y:=Lh j;have p:=Lh (a.o.trans e);let⟨_,_,a,_,_,_⟩:=Ab.1 i.o;have:=AD a 1 (D _) rfl;have:=ϴ a;have:=AD a 2 (D _) rfl;have:=AD a 3 (D _) rfl;have:=AD a 4 (D _) rfl;have:=AD a 5 (D _) rfl;let⟨_,d⟩:=ε (BO r bm Eg);rw[<-d]at y p;have j:=e.cell A h;have i:=e.cell z h;have a:=e.cell v h;rw[<-d]at j i a;have G:=x;have E:=Lh (bR.o.funs ((q.o.mono J).trans (p.o.below T.o (Nt J q.o.size))));unfold BO Eg at d;go_upto_region 10 with fail;rw[<-d];clear d;go_wp2_with fail;refine(KW hs bO u l t s k g bQ.o y.o B G.o E.o).mono ?_;rintro k a⟨rfl,e,d,h,i,j⟩;have C:Hid (EJ c m n bm F w (.returned (.tuple #[])) a):=Lh ⟨rfl,e,d,.inr (.inl ⟨bS.o,fs,f,o.o.fr,h⟩),i,(AW.ob q.o).trans (p.o.trans j)⟩;go_wp2_with fail;go_end0;exact C.o
def UO(hs:AU c)(d:Bv c)(k e:Option Addr)(j i d:Nat)(g n:Int)(u:C9 c m m.Q fs f)(v:EB m)(a:Ak w bm m F)
  (B:Nat) (p:∀b∈F,B<=b) (t:AE B w 5 (CW B) (H e c.q0 d) c.q0) (o:m.Q.K=3) (h:n=0) :
  ϙ prog 113 #[.agg #[H k j i,D g,H e c.q0 d],.pointer (O (X bm 0)),D n] w (EJ c m n bm F w):=by
 have r:=Lh a.lt;let⟨W,q⟩:=ε ((w.alloc (Z #[H k j i,D g,H e c.q0 d] 25)).alloc (Z #[H k j i,D g,H e c.q0 d,.pointer (O (X bm 0))] 199));have s:=Lh (bl2 q);have:B<=w:=by obtain⟨_,_,_,_,rfl,h⟩:=Ab.1 a;have:=p bm ψ;have:=r.o bm ψ;omega
 have:bm∈F:=by obtain⟨_,_,_,_,rfl,h⟩:=Ab.1 a;simp
 have l:=Lh (a.kp s.o);clear a t p u;have p:=Lh o;subst h;clear o;have:W.cell? (X bm 1)=O (D 3):=by let⟨_,_,a,_,_,h⟩:=Ab.1 l.o;have:=AD a 1 (D m.Q.K) rfl;rw[p.o]at this;exact this
 let⟨d,_,a,k,i,j⟩:=Ab.1 l.o;have:=AD a 0 d rfl;have:=AD a 2 (D _) rfl;have:=AD a 3 (D _) rfl;have:=AD a 4 (D _) rfl;have:=AD a 5 (D _) rfl;have:=ϴ a;have o:=@Lh (∃d,Ak (BO (W.setCell (X bm 0) ν) bm (Ah 21)) bm {m with J:=[],Q:=Ah 21} d/\AW F d W (BO (W.setCell (X bm 0) ν) bm (Ah 21))) (by
  have d:=ϡ _ bm 0 _ _ ν a;rw[CY]at d;have h:Ak (W.setCell (X bm 0) ν) bm {m with J:=[]} [bm]:=Ab.2 ⟨_,[],d,Ds _,rfl,ψ⟩;let⟨d,e⟩:=JD h (Ah 21);refine⟨[bm],d,?_⟩;rw[i];exact(BX.trans e).wide (λb d=>by simp at d;simp[d]) (λb d=>.inl d))
 clear a k i j;unfold BO Ah at o;go_in;go_upto_region 2 with fail;rw[<-q];clear q;go_wp2_with fail;have a:EJ c m 0 bm F w (.returned (.tuple #[])) _:=⟨rfl,_,_,.inl ⟨p.o,rfl,rfl⟩,o.o.choose_spec.1,(AW.ob s.o).trans o.o.choose_spec.2⟩;refine ϖ (results_none rfl _ _ _) rfl ?_;exact a
def Cj(B:Nat)(w:Ϣ):List ϒ->List AY->Prop
 |cells,[]=>cells=[]
 |cells,f::fs=>∃lv sv cs,cells=D f.fn::D f.pc::lv::sv::cs/\AE B w 1 Aj lv f.L/\AE B w 1 Aj sv f.S/\in64 f.fn/\in64 f.pc/\Cj B w cs fs
def Cj.below(a:ϐ B w w'):∀{fs:List AY}{cells:List ϒ},Cj B w cells fs->Cj B w' cells fs
 |[],_,h=>h
 |_::_,_,⟨lv,sv,cs,b,c,d,e,f,g⟩=>⟨lv,sv,cs,b,c.ints a,d.ints a,e,f,g.below a⟩
def Cj.len:∀{fs:List AY}{cells:List ϒ},Cj B w cells fs->cells.length=fs.length*4
 |[],_,h=>by rw[show _=[]from h];rfl
 |_::_,_,⟨lv,sv,cs,b,c,d,e,f,a⟩=>by rw[b];simp[a.len];omega
def Cj.one:∀{fs:List AY}{cells:List ϒ},Cj B w cells fs->∀b∈cells,b.oneCell'=ϑ
 |[],_,h,b,a=>by rw[show _=[]from h]at a;simp at a
 |_::_,_,⟨lv,sv,cs,f,d,e,b,j,g⟩,i,a=>by
  obtain⟨_,c,rfl⟩:=d.u1;obtain⟨_,_,rfl⟩:=e.u1;rw[f]at a;simp only[ϰ]at a;rcases a with rfl|rfl|rfl|rfl|a
  .rfl
  .rfl
  .rfl
  .rfl
  exact g.one i a
def LG:∀{fs:List AY}{o:Nat},(∀(i:Nat) a,fs[i]?=O a->CK B w b (o+i*4) a)->∃l,Cj B w l fs/\∀(j:Nat) k,l[j]?=O k->w.cell? (X b (o+j))=O k
 |[],o,_=>⟨[],rfl,ψ⟩
 |f::fs,o,h=>by
  obtain⟨s,t,⟨lv,u,r⟩,⟨sv,x,q⟩,n,p⟩:=h 0 f rfl;obtain⟨cs,m,v⟩:=LG (fs:=fs) (o:=o+4) (λi a l=>by
   have:=h (i+1) a (by simpa using l);rwa[show o+(i+1)*4=o+4+i*4 by omega]at this)
  refine⟨D f.fn::D f.pc::lv::sv::cs,⟨lv,sv,cs,rfl,r,q,n,p,m⟩,λj k a=>?_⟩
  match j,a with
  |0,c=>simp at c;subst c;simpa using s
  |1,d=>simp at d;subst d;simpa using t
  |2,e=>simp at e;subst e;simpa using u
  |3,g=>simp at g;subst g;simpa using x
  |j+4,a=>have:=v j k (by simpa using a);rwa[show o+(j+4)=o+4+j by omega]
def NE{o:Obj}(a:(w.alloc o).grownBy w' (O (w:Nat))):ϐ w w w':=
 ⟨a.os,a.tape,a.output,by have:=a.size;simp at this;omega,λk b=>by
  rw[a.block k φ (λa=>by simp at a;omega)];exact Ha _ _ _ b⟩
def Wr(B:Nat)(fs:List AY)(w:Ϣ)(e:Ending)(w':Ϣ):Prop:=
 ∃v cells,e=.returned v/\w'.ownsRow (w:Nat) 150 4 v fs.length cells/\Cj B w' cells fs/\ϐ w w w'
def Pr(fs:List AY)(v:ϒ)(B:Nat)(w:Ϣ)(G:B<=w)(n:AE B w 4 (CK B) v fs)(hl:fs.length<=1000) :
  ϙ prog 92 #[v] w (Wr B fs w):=by
 obtain⟨m,cap,rfl,_,_,_,j⟩:=n;let⟨z,F,A,C,E⟩:=info_parts FT;cases m with
 |none=>
  have o:fs=[]:=by
   rcases j with e|⟨b,t,e,_⟩
   .exact e
   cases e
  subst o;have:=Lib.run_eql_slice_nil (P:=prog);go_in;go_wp2;go_ret;exact⟨_,[],rfl,World.ownsRow_nil _ _ _ _,rfl,Below.refl _ _⟩
 |some g=>
  have:∀w:Ϣ,(binOp .eql 55 (H (O g) fs cap) ν).run prog w=.ok (.bool ϝ) w:=λw=>by simpa using Lib.run_eql_slice_nil (P:=prog) w 55 150 (O g) fs.length cap 0 0 underlying55
  let⟨d,f,r⟩:∃d,Cj B w d fs/\∀(c:Nat) a,d[c]?=O a->w.cell? (g.add c)=O a:=by
   rcases j with e|⟨b,t,e,_,j⟩
   .subst e;exact⟨[],rfl,ψ⟩
   cases e;let⟨d,e,m⟩:=LG j;exact⟨d,e,λc a e=>by rw[Qt];exact m c a e⟩
  have y:=Lh f;have x:=Lh f.len;have u:=Lh f.one;have s:=@Lh (∀(c:Nat) a,d[c]?=O a->(w.alloc (Z #[] 150)).cell? (g.add c)=O a) (λc a e=>AB (AA _ _) (r c a e));have q:=@Lh ((w.alloc (Z #[] 150)).ownsRow (w:Nat) 150 4 (H (O (X w 0)) 0 0) 0 []) (World.ownsRow_made w #[] 0 (Nr _) (by unfold maxLen;omega) rfl);go_in;go_wp2_with(at_builtin;refine wpList_append_own _ rfl (.tmp 5) (.tmp 6) 55 rfl (w:Nat) 150 z (.agg #[D 0,D 0,ν,ν]) 4 64 underlying55 F A C E rfl δ (H (O (X w 0)) 0 0) 0 [] rfl q.o g fs.length cap d rfl x.o s.o u.o ?_ ?_ ?_ ?_;(unfold maxLen;omega);omega;(simp);intro k w' h i o;have p:=Lh h;have l:=Lh i;clear h i o);go_ret;have a:=Lh (NE l.o);have c:w'.ownsRow (w:Nat) 150 4 k fs.length d:=by simpa using p.o
  exact⟨k,d,rfl,c,y.o.below (a.o.mono G),a.o⟩
def Te(l:List Int)(w:Ϣ)(e:Ending)(w':Ϣ):Prop:=∃a c F,e=.returned (H a l c)/\Be w' (H a l c) l F/\(∀b∈F,(w:Nat)<=b)/\F.length<=1/\ϐ w w w'
def FF{a:Nat}{e:TypeId}{size:Nat}{n:Nat}{xs:List ϒ}(j:w.ownsRow a e size v n xs):w.ownsRow 0 e size v n xs/\(∀b∈v.ownBlock.toList,a<=b)/\∃a c,v=H a n c:=by
 let⟨d,f⟩:=j;rcases f with ⟨rfl,h⟩|⟨g,cap,i,rfl,k,r⟩
 .subst h
  exact⟨⟨d,.inl ⟨rfl,rfl⟩⟩,by simp[Value.ownBlock],none,0,rfl⟩
 exact⟨⟨d,.inr ⟨g,cap,i,rfl,Nat.zero_le _,r⟩⟩,by simp[Value.ownBlock];exact k,_,_,rfl⟩
def Kh(l:List Int)(v:ϒ)(B:Nat)(w:Ϣ)(f:AE B w 1 Aj v l)(hl:l.length<=1000000):ϙ prog 55 #[v] w (Te l w):=by
 obtain⟨A,cap,rfl,_,_,_,g⟩:=f;have i:∀f w',w'.ownsRow (w:Nat) 3 1 f l.length (l.map (Value.int .i64))->(∀k∈l,in64 k)->ϐ w w w'->Te l w (.returned f) w':=λf w' d t e=>by obtain⟨o,r,h,n,rfl⟩:=FF d;exact⟨h,n,_,rfl,⟨o,rfl,t⟩,r,by cases h<;>simp[Value.ownBlock],e⟩
 cases A with
 |none=>
  have u:l=[]:=by
   rcases g with a|⟨b,j,a,_⟩
   .exact a
   cases a
  subst u;exact(slices_Clone_int_nil _ cap w).mono λf w' ⟨c,m⟩=>by subst c m;exact i _ _ (World.ownsRow_nil _ _ _ _) ψ Br
 |some x=>
  rcases g with a|⟨b,j,a,e,g⟩
  .subst a
   exact(slices_Clone_int_zero x cap w).mono λf w' ⟨h,c,d,_,e⟩=>by subst c;exact i _ _ d ψ e
  cases a;refine(slices_Clone_int b j l.length cap l w (Nr _) U (λy z=>?_)).mono λa w' ⟨f,c,d,_,e⟩=>by
   subst c;rw[List.take_length]at d;exact i _ _ d (λa q=>by
    obtain⟨p,s,rfl⟩:=List.getElem_of_mem q;exact(g p _ (Lg s)).2) e
  have:=(g y _ (getD_some z)).1;rw[Nat.mul_one]at this;exact this
def Me{b:List ϒ}{a j:Nat}(c:cur.toList.take a=cs++b):(cur.setIfInBounds (cs.length+j) v).toList.take a=cs++b.set j v:=by
 rw[Array.toList_setIfInBounds,List.take_set,c,List.set_append_right _ _ U,Nat.add_sub_cancel_left]
structure Eu(B A:Nat)(fs:List AY)(k g cap:Nat)(W wr:Ϣ)(cur:Array ϒ)(csd csr:List ϒ)(F:List Nat):Prop where
 row:wr.heap[g]?=O (Z cur 150 (0,0))
 csize:cur.size=cap*4
 capl:fs.length<=cap
 capm:cap<=9223372036854775807
 take:cur.toList.take (fs.length*4)=csd++csr
 done:BJ wr csd (fs.take k) F
 rest:Cj B wr csr (fs.drop k)
 nodup:(g::F).Nodup
 ge:∀b∈g::F,A<=b
 bel:ϐ A W wr
 cslen:csd.length=k*4
def Eu.cells(b:Eu B A fs k g cap W wr cur csd csr F)(j:Nat)(u:ϒ)(c:csr[j]?=O u):wr.cell? (X g (k*4+j))=O u:=by
 rw[cell_of_row _ _ _ _ _ _ b.row];have a:(csd++csr)[k*4+j]?=O u:=by rw[Ar (by rw[b.cslen];omega),b.cslen,Nat.add_sub_cancel_left];exact c
 rw[<-b.take,List.getElem?_take]at a;split at a
 .simpa using a
 cases a
def Eu.next{e w2:Ϣ}{rest:List ϒ}{lv' sv':ϒ}(i:fs[k]?=O f)(d:Eu B A fs k g cap W wr cur csd (D f.fn::D f.pc::lv::sv::rest) F)(C:B<=A)
  (m:ϐ wr wr e) (hl:Be e lv' f.L Fl) (x:∀b∈Fl,(wr:Nat)<=b) (G:Fl.length<=1) (h:ϐ (e.setCell (X g (k*4+2)) lv').heap.size (e.setCell (X g (k*4+2)) lv') w2) (hs:Be w2 sv' f.S Fs) (s:∀b∈Fs,(e:Nat)<=b) (E:Fs.length<=1) :
  Eu B A fs (k+1) g cap W (w2.setCell (X g (k*4+3)) sv') ((cur.setIfInBounds (k*4+2) lv').setIfInBounds (k*4+3) sv') (csd++[D f.fn,D f.pc,lv',sv']) rest (F++(Fl++Fs)):=by
 have o:=(La d.row);have:=m.size;have l:=h.size;simp at l;have n:e.heap[g]?=O (Z cur 150 (0,0)):=by rw[m.block g o];exact d.row
 have l:=ϡ _ g (k*4+2) _ _ lv' n;have n:w2.heap[g]?=_:=(h.block g φ).trans l;have y:=ϡ _ g (k*4+3) _ _ sv' n;have u:=d.ge g ψ;have hF:=d.done.lt;have z:=hl.lt;have o:∀b,b≠g->b<e.heap.size->w2.heap[b]?=e.heap[b]?:=λb a e=>by rw[h.block b φ,heap_setCell_other _ _ _ _ a]
 have l:∀b,b≠g->(w2.setCell (X g (k*4+3)) sv').heap[b]?=w2.heap[b]?:=λb a=>heap_setCell_other _ _ _ _ a;have r:=d.nodup;rw[List.nodup_cons]at r;have q:∀b∈F,b≠g:=λb a c=>r.1 (c▸a);have p:∀b∈Fl,b≠g:=λb a c=>by have:=x b a;omega
 have w:∀b∈Fs,b≠g:=λb a c=>by have:=s b a;omega
 have e:A<=wr:=U;have t:ϐ A wr (w2.setCell (X g (k*4+3)) sv'):=((m.mono e).trans (Br.setCell u _)).trans ((h.mono φ).trans (Br.setCell u _));have n:fs.take (k+1)=fs.take k++[f]:=by rw[List.take_add_one,i];rfl
 refine⟨y,by simp[d.csize],d.capl,d.capm,?_,?_,?_,?_,?_,d.bel.trans t,by simp[d.cslen];omega⟩
 .have h:=Me (j:=2) (v:=lv') d.take
  rw[d.cslen]at h;have e:=Me (j:=3) (v:=sv') h;rw[d.cslen]at e;rw[e];simp
 .rw [n]
  exact((d.done.kp (λb a=>by rw[l b (q b a),o b (q b a) (by have:=hF b a;omega),m.block b (hF b a)])).add (hl.kp (λb a=>by rw[l b (p b a),o b (p b a) (z b a)])) (hs.kp (λb a=>l b (w b a))) (by
   obtain⟨_,_,_,c,_,_,e,_,_⟩:Cj B wr _ (f::fs.drop (k+1)):=by have:=d.rest;rwa[List.drop_eq_getElem_cons (Ll i),(List.getElem?_eq_some_iff.1 i).2]at this
   exact e) (by
   obtain⟨_,_,_,c,_,_,_,e,_⟩:Cj B wr _ (f::fs.drop (k+1)):=by have:=d.rest;rwa[List.drop_eq_getElem_cons (Ll i),(List.getElem?_eq_some_iff.1 i).2]at this
   exact e))
 .obtain ⟨_,_,_,c,_,_,_,_,e⟩:Cj B wr _ (f::fs.drop (k+1)):=by have:=d.rest;rwa[List.drop_eq_getElem_cons (Ll i),(List.getElem?_eq_some_iff.1 i).2]at this
  simp at c;rw[c.2.2];exact e.below (t.mono C)
 .rw [List.nodup_cons]
  refine⟨λc=>?_,?_⟩
  .rw [List.mem_append,List.mem_append]at c
   rcases c with c|c|c
   .exact q _ c rfl
   .exact p _ c rfl
   exact w _ c rfl
  have i:∀e:List Nat,e.length<=1->e.Nodup:=λe hl=>by
   match e,hl with
   |[],_=>simp
   |[e],_=>simp
  rw[List.nodup_append];refine⟨r.2,?_,λe h b a c=>?_⟩
  .rw [List.nodup_append]
   exact⟨i _ G,i _ E,λe h b a c=>by have:=z e h;have:=s b a;omega⟩
  have:=hF e h;rw[List.mem_append]at a;rcases a with a|a
  .have:=x b a;omega
  have:=s b a;omega
 intro b a;rw[ϰ,List.mem_append,List.mem_append]at a;rcases a with rfl|a|a|a
 .exact u
 .exact d.ge b (by simp[a])
 .have:=x b a;omega
 have:=s b a;omega
def Kq(m:AV)(w:Ϣ)(e:Ending)(w':Ϣ):Prop:=∃a c,e=.returned (AJ (H a m.J c) m)/\CE w (H a m.J c) m w'
def Eu.vown(a:Eu B A fs fs.length g cap W wr cur csd csr F):Cv wr (H (O (X g 0)) fs cap) fs (g::F):=by
 have b:=a.rest;rw[List.drop_length]at b;have d:csr=[]:=b;have c:=a.done;rw[List.take_length]at c;have b:=a.take;rw[d,List.append_nil]at b;exact⟨csd,F,⟨a.cslen,.inr ⟨g,cap,cur,rfl,Nat.zero_le _,a.row,a.capl,by unfold maxLen;have:=a.capm;omega,a.csize,b⟩⟩,c,rfl,a.nodup⟩
def Eu.q8{a:List ϒ}(l:wr.ownsRow A 150 4 (H (O (X g 0)) fs cap) fs.length a)(n:Cj B wr a fs)(o:ϐ A W wr):∃b,Eu B A fs 0 g cap W wr b [] a []:=by
 let⟨_,d⟩:=l;rcases d with ⟨e,_⟩|⟨_,_,b,c,m,h,i,j,f,k⟩
 .cases e
 simp at c;obtain⟨rfl,rfl⟩:=c;exact⟨b,h,f,i,by unfold maxLen at j;omega,by simpa using k,⟨rfl,rfl⟩,by simpa using n,ψ,by simpa using m,o,rfl⟩
def YB(W:Ϣ)(g off:Nat)(l:List Int)(wx:Ϣ):Prop:=∃w1 a c F,ϐ W W w1/\Be w1 (H a l c) l F/\(∀b∈F,(W:Nat)<=b)/\F.length<=1/\wx=w1.setCell (X g off) (H a l c)
def OM(m:AV)(l:Option Addr)(j B:Nat)(w:Ϣ)(fS:B<=w)(h:AE B w 4 (CK B) (H l m.J j) m.J)(hl:m.J.length<=1000)(e:∀f∈m.J,f.L.length<=1000000/\f.S.length<=1000000)(d:0<m.J.length) :
  ϙ prog 112 #[AJ (H l m.J j) m] w (Kq m w):=by
 let⟨fs,n,G,E,J⟩:=m;let⟨W,a⟩:=ε ((w.alloc (Z (AC (H l fs j) ⟨fs,n,G,E,J⟩) 59)).alloc (Z (AC ν AI) 59));let⟨gE,u,Y,fZ⟩:=Λ4 (bl2 a) (sz2 a) (Xct a) (Xcm a);have fB:=Lh (h.fras (gE.o.mono fS));have eZ:B<=W:=by have:=u.o;omega
 have gD:=Lh e;have eS:fs.length<=1000:=hl;have:0<fs.length:=d;clear h e hl d;unfold AJ;unfold AC at a ⊢;go_in;go_upto_region 1 with fail;unfold AI at a;dsimp only at a ⊢;rw[<-a];clear a;have:=AD Y.o 0 (H l fs j) rfl;have eR:(w:Nat)<W:=by have:=u.o;omega
 go_wp2_with fail;refine(Pr fs _ B W eZ fB.o eS).mono ?_;rintro fU eO⟨_,fF,rfl,e,A,s⟩;obtain⟨_,_,C,cap,rfl⟩:=FF e;obtain⟨g,rfl⟩:∃g,C=O (X g 0):=by
  rcases e.2 with ⟨a,R⟩|⟨g,c,h,a,_⟩
  .omega
  simp at a;exact⟨g,a.1⟩
 have q:=(s.block _ eR).trans Y.o;have M:=AD q 0 (H l fs j) rfl;have L:=Ψ 0 q;let⟨w2,d⟩:=ε (eO.setCell (X w 0) (H (O (X g 0)) fs cap));have x:=ϡ _ (w:Nat) 0 _ _ (H (O (X g 0)) fs cap) q;rw[CY,<- d]at x;have fA:=Lh x;have:g≠(w:Nat):=by
  rcases e.2 with ⟨a,R⟩|⟨o,c,h,a,z,_⟩
  .omega
  simp at a;omega
 have gF:=@Lh (w2.heap[(w:Nat)+1]?=O (Z (AC ν AI) 59 (0,0))) (by
  rw[d,heap_setCell_other _ _ _ _ ψ,s.block _ (by have:=u.o;omega)];exact fZ.o)
 have y:w2.ownsRow (W:Nat) 150 4 (H (O (X g 0)) fs cap) fs.length fF:=by
  refine⟨e.1,?_⟩;rcases e.2 with ⟨a,R⟩|⟨o,c,h,a,z,P,r⟩
  .cases a
  refine .inr ⟨o,c,h,a,z,?_,r⟩;rw[d,heap_setCell_other _ _ _ _ (by show o≠(w:Nat);simp at a;omega)];exact P
 have t:ϐ w W w2:=by rw[d];exact(s.mono (Nat.le_of_lt eR)).setCell (Nr _) _
 let⟨h,i⟩:=Eu.q8 y (A.below (by rw[d];exact Br.setCell fS _)) (Below.refl (W:Nat) w2);have eX:=Lh i;have gB:=Lh t;go_upto_region 2 with fail;rw[<-d];clear d q M L e A s y i t x;have:=AD fA.o 0 (H (O (X g 0)) fs cap) rfl;go_wp2_with fail;go_loopg[11] (fs.length+1) (λgk a wr=>∃k:Nat,k<=fs.length/\a=D k/\fs.length-k<gk/\Hid (∃h j a F,Eu B W fs k g cap w2 wr h j a F));exact⟨0,Nat.zero_le _,rfl,U,Lh ⟨h,[],fF,[],eX.o⟩⟩;obtain⟨k,_,rfl,_,d⟩:=hrel;let⟨fC,_,h,F,a⟩:=d.o;clear d;have e:=Lh a;clear a;have a:wr.heap[(w:Nat)]?=_:=(e.o.bel.block _ (by have:=u.o;omega)).trans fA.o;have eM:=AD a 0 (H (O (X g 0)) fs cap) rfl;have t:=Lh a;clear a;by_cases fX:k<fs.length
 .obtain ⟨f,d⟩:=Ϡ fs k fX
  let⟨lv,sv,rest,eG,i,q,_,_,_⟩:Cj B wr h (f::fs.drop (k+1)):=by have:=e.o.rest;rwa[List.drop_eq_getElem_cons fX,(List.getElem?_eq_some_iff.1 d).2]at this
  subst eG;have eJ:=e.o.cells 2 lv rfl;have A:=e.o.cells 3 sv rfl;have eQ:=(La e.o.row);obtain⟨_,_,rfl⟩:=i.u1;obtain⟨fJ,fK,rfl⟩:=q.u1;have eK:=Lh i;have gA:=Lh q;have gC:=Lh d;have fQ:=gD.o f (Lm d);have:=In k;have:(k:Int)<(fs:Int):=U;clear i q d;go_upto_region 5 with fail;have T:ϐ wr wr wr.drew:=AG Br 1;have eL:=Lh (eK.o.ints (T.mono (by have:=e.o.bel.size;have:=gB.o.size;omega)));go_cut[3,11] (λa h j=>a=D (k:Int)/\h=D (k:Int)/\Hid (YB wr g (k*4+2) f.L j))
  .go_region_with (first|(go_at_call 55;refine(Kh f.L _ B _ eL.o fQ.1).mono ?_;rintro fV x⟨eV,eW,eU,rfl,s,q,eY,d⟩;have:=keepD d eJ;have:=keepD d A;have eI:=keepD d eM;have i:x.heap[g]?=O (Z fC 150 (0,0)):=((d.block _ eQ).trans e.o.row);have:x.frozen? (X g (k*4+2))=ϝ:=(Fz i);have:=(La i);have:=Bl eI;have S:=Lh s;have Q:=Lh q;have N:=Lh d;clear s q d i))
   all_goals
    go_wp2;go_meet;exact⟨rfl,rfl,Lh ⟨x,eV,eW,eU,T.th N.o,S.o,Q.o,eY,rfl⟩⟩
  case rest=>
   obtain⟨rfl,rfl,y⟩:=hcut;let⟨x,L,M,_,d,s,q,o,a⟩:=y.o;have i:=(d.block _ eQ).trans e.o.row;have j:wc.heap[g]?=O (Z (fC.setIfInBounds (k*4+2) (H L f.L M)) 150 (0,0)):=by rw[a];exact ϡ _ _ _ _ _ _ i
   have fY:=Lh j;have l:=e.o.ge g ψ;have h:ϐ W wr wc:=by rw[a];exact(d.mono U).setCell l _
   have cQ:=(h.cell (p:=(X w 0)) (show(w:Nat)<(W:Nat) by have:=u.o;omega)).trans eM;have fP:wc.cell? (X g (k*4+2))=O (H L f.L M):=by rw[a];exact World.cell?_setCell_same _ _ _ (AB d eJ)
   have fH:wc.cell? (X g (k*4+3))=O (H fJ f.S fK):=by rw[a,World.cell?_setCell_other _ _ _ _ ψ];exact AB d A
   have fI:=(La j);have eH:B<=W:=by have:=u.o;omega
   have eP:=@Lh (AE B wc.drew 1 Aj (H fJ f.S fK) f.S) ((gA.o.ints (h.mono eH)).ints (AG Br 1));have fT:ϐ wc wc wc.drew:=AG Br 1;let⟨fL,fM,fN,fO,V⟩:=Λ5 d s q o a;clear d s q o a i j y h eJ A eM;go_upto_region 6 with fail;go_region_with (first|(go_at_call 55;refine(Kh f.S _ B _ eP.o fQ.2).mono ?_;rintro fW q⟨fD,fE,_,rfl,y,s,fG,d⟩;have:=keepD d fP;have:=keepD d fH;have eI:=keepD d cQ;have i:q.heap[g]?=O (Z (fC.setIfInBounds (k*4+2) (H L f.L M)) 150 (0,0)):=((d.block _ fI).trans fY.o);have:q.frozen? (X g (k*4+3))=ϝ:=(Fz i);have:=(La i);have:=Bl eI;have eM:=Lh y;have eN:=Lh s;have eJ:=Lh d;clear y s d i));all_goals
    have d:(wc:Nat)=(x:Nat):=by rw[V.o];simp
    have eT:=Lh (Eu.next gC.o e.o eH fL.o fM.o fN.o fO.o (w2:=q) (sv':=H fD f.S fE) (by rw[<-V.o];exact fT.th eJ.o) eM.o (λb a=>by have:=eN.o b a;simp at this;omega) fG);have:fs.length-(k+1)<gk-1+0:=U;clear d;go_wp2_with fail;go_roundg(gk-1);exact⟨k+1,U,by go_num,U,Lh ⟨_,_,_,_,eT.o⟩⟩;omega
 obtain rfl:k=fs.length:=U;have j:=Lh e.o.vown;have a:=(e.o.bel.block _ (by have:=u.o;omega)).trans gF.o;have d:=Lh a;clear a;have a:=λi v h=>AD d.o i v h;have:=a 0 ν rfl;have:=ϴ d.o;have:=a 1 (D 0) rfl;have:=a 2 (D 0) rfl;have:=a 3 (D 0) rfl;have:=a 4 (D 0) rfl;have:=a 5 (D 0) rfl;have:=a 6 (D 0) rfl;have:=a 7 (D 0) rfl;have:=a 8 (D 0) rfl;have:=AD t.o 1 (D n.K) rfl;have:=AD t.o 2 (D n.O) rfl;have:=AD t.o 3 (D n.D) rfl;have:=AD t.o 4 (D n.V) rfl;have:=AD t.o 5 (D n.X) rfl;have:=AD t.o 6 (D G) rfl;have:=AD t.o 7 (D E) rfl;have:=AD t.o 8 (D J) rfl;have A:=Lh (AZ d.o (H (O (X g 0)) fs cap) ⟨fs,n,G,E,J⟩);have h:=e.o.ge;have i:=e.o.bel;have fR:Hid (CE w (H (O (X g 0)) fs cap) ⟨fs,n,G,E,J⟩ (Ai wr (w+1) (H (O (X g 0)) fs cap) ⟨fs,n,G,E,J⟩)):=Lh ⟨g::F,j.o.kp (λb d=>A.o.2.block b (j.o.lt b d) (λe=>by
   have:=h b d;have:=u.o;rw[List.mem_singleton]at e;omega)),λb d=>by
    have:=h b d;have:=u.o;omega,by
    have d:=(gE.o.trans gB.o).trans (i.mono (by have:=u.o;omega));exact d.trans (A.o.2.below (λb e=>by simp at e;omega) d.size)⟩
 clear a h i;go_wp2_with fail;have a:Kq ⟨fs,n,G,E,J⟩ w (.returned (AJ (H (O (X g 0)) fs cap) ⟨fs,n,G,E,J⟩)) (Ai wr (w+1) (H (O (X g 0)) fs cap) ⟨fs,n,G,E,J⟩):=⟨_,_,rfl,fR.o⟩;exact ϖ (AL (p:=2) rfl A.o.1 _ rfl) rfl a
structure Ax(c:AQ)(m:AV):Prop where
 sound:AU c
 Y:0<=m.Y/\m.Y<=1048576
 cmp:0<=m.C/\m.C<=1099511627776
 I:0<=m.I/\m.I<=100000
 len:m.J.length<=200
 body:(m.J=[]/\DT m.Q=ϑ)\/(m.J≠[]/\∀k f,m.J[k]?=O f->BU c m.J m.Q k f)
def Vg{x:Cd}(f:AP x r=ϑ):Ko x r:=by
 have s:=I6 f;let⟨_,e,_,i,_⟩:=r;unfold AP at f;simp only[Bool.and_eq_true,beq_iff_eq,Bool.not_eq_true',beq_eq_false_iff_ne,ne_eq,Bool.or_eq_true]at f;let⟨⟨⟨⟨⟨_,d⟩,c⟩,k⟩,j⟩,b⟩:=f;subst k j;have q:Aa x.op=2->BP i:=λa=>by
  rcases b with b|⟨_,b⟩
  .rw [b];unfold BP;omega
  exact Aq.1 b
 have l:Aa x.op≠2->i=0:=λa=>by
  rcases b with b|⟨m,_⟩
  .exact b
  exact absurd m a
 rcases s with a|a|a|a|a
 .have b:Aa x.op=1:=by rw[a];rfl
  have o:e=0:=by rw[a]at c;simpa[Ag]using c
  rw[b]at d;have:=l (by rw[b];decide);subst d o this;exact .inl ⟨a,rfl⟩
 .have b:Aa x.op=2:=by rw[a];rfl
  have n:e=0:=by rw[a]at c;simpa[Ag]using c
  rw[b]at d;have:=q b;subst d n;exact .inr (.inl ⟨i,a,this,rfl⟩)
 .have b:Aa x.op=1:=by rw[a];rfl
  have h:1<=e/\e<=1099511627776:=by rw[a]at c;simpa[Ag]using c
  rw[b]at d;have:=l (by rw[b];decide);subst d this;exact .inr (.inr (.inl ⟨e,a,h.1,⟨U,h.2⟩,rfl⟩))
 .have b:Aa x.op=2:=by rw[a];rfl
  have g:1<=e/\e<=1099511627776:=by rw[a]at c;simpa[Ag]using c
  rw[b]at d;have:=q b;subst d;exact .inr (.inr (.inr (.inl ⟨e,i,a,g.1,⟨U,g.2⟩,this,rfl⟩)))
 have b:Aa x.op=3:=by rw[a];rfl
 have p:e=0:=by rw[a]at c;simpa[Ag]using c
 rw[b]at d;have:=l (by rw[b];decide);subst d p this;exact .inr (.inr (.inr (.inr ⟨a,rfl⟩)))
def DL.imp{P b:Cd->Prop}(k:DL c f P)(l:∀a,P a->b a):DL c f b:=by
 let⟨h,a,g,b,d,e,i,j⟩:=k;exact⟨h,a,g,b,d,e,l a i,j⟩
def Oj:∀(n:Nat)(fs:List AY)(g:AY),fs.length=n->(∀k f,fs[k]?=O f->DL c f (λh=>h.op=9/\∃e,(fs++[g])[k+1]?=O e/\h.a=e.fn))->Ge c fs.reverse g.fn
 |0,fs,g,e,_=>by rw[List.eq_nil_of_length_eq_zero e];trivial
 |n+1,fs,g,b,m=>by
  rcases List.eq_nil_or_concat fs with o|⟨i,j,rfl⟩
  .rw [o]at b;simp at b
  simp only[List.concat_eq_append]at *;rw[List.reverse_append];simp at b;refine⟨?_,Oj n i j b (λk f l=>?_)⟩
  .refine (m i.length j ψ).imp (λb a=>⟨a.1,?_⟩)
   let⟨_,_,d,p⟩:=a;rw[Ar ψ]at d;simp at d;subst d;exact p
  have b:=(Ll l);refine(m k f (by rw[Al b];exact l)).imp (λb a=>⟨a.1,?_⟩);let⟨_,d,b,e⟩:=a;refine⟨d,?_,e⟩;rw[Al φ]at b;exact b
def Ax.waits(d:Ax c m)(i:m.Q.K≠4)(h:m.Q.K≠5):∃fs f,C9 c m m.Q fs f:=by
 rcases d.body with ⟨_,b⟩|⟨j,g⟩
 .unfold DT at b
  rw[if_neg i,if_neg h]at b;cases b
 rcases List.eq_nil_or_concat m.J with e|⟨fs,f,a⟩
 .exact absurd e j
 simp only[List.concat_eq_append]at a;have b:m.J.length=fs.length+1:=by rw[a];simp
 have:=d.len;refine⟨fs,f,a,?_,?_,U⟩
 .have:=g fs.length f (by rw[a];simp)
  unfold BU at this;simp only[b]at this;exact this.imp (λd b=>Vg (by simpa using b))
 refine Oj fs.length fs f rfl (λk e b=>?_);have d:=(Ll b);have:=g k e (by rw[a,Al d];exact b);unfold BU at this;refine this.imp (λd b=>?_);rw[if_neg U,a]at b;exact b
def Ax.nums(a:Ax c m):EB m:=by
 have e:=a.Y;have d:=a.cmp;have b:=a.I;exact⟨e.1,b.1,b.2,d.1,by unfold Co;omega⟩
def Ax.K(d:Ax c m):m.Q.K=1\/m.Q.K=2\/m.Q.K=3\/m.Q.K=4\/m.Q.K=5:=by
 by_cases b:m.Q.K=4
 .omega
 by_cases a:m.Q.K=5
 .omega
 let⟨fs,f,e⟩:=d.waits b a;let⟨_,_,_,_,_,_,d,_⟩:=e.top;have:=EW d;omega
def C9.small(hs:AU c)(s:Bv c)(h:C9 c m r fs f):∀g∈m.J,g.L.length<=100/\g.S.length<=100000:=by
 have q:∀g d,DL c g d->g.L.length<=100/\g.S.length<=100000:=λg d ⟨l,p,u,b,d,o,_,j,v⟩=>by have:=DJ (hs.wf b.fn) (hs.snd b.fn) j;have:=s l (Lm b.fn);have:=((hs.wf b.fn).pops p (Lm o)).1;have d:=hs.fok b.fn;have:=b.loc;unfold CX at d;omega
 have t:∀(b:List AY)(k:Int),Ge c b k->∀g∈b,g.L.length<=100/\g.S.length<=100000:=by
  intro i;induction i with
  |nil=>intro _ _ g a;simp at a
  |cons b d n=>
   intro k e g a;rw[ϰ]at a;rcases a with rfl|a
   .exact q _ _ e.1
   exact n _ e.2 g a
 intro g a;rw[h.fr,List.mem_append,List.mem_singleton]at a;rcases a with a|rfl
 .exact t _ _ h.low g (List.mem_reverse.2 a)
 exact q _ _ h.top
def Rc(hs:AU c)(s:Bv c)(l h:Option Addr)(k j e:Nat)(g n:Int)(i:C9 c m m.Q fs f)(r:EB m)(q:Ak w bm m F)
  (B:Nat) (p:∀b∈F,B<=b) (o:AE B w 5 (CW B) (H h c.q0 e) c.q0) (d:Bj m.Q n=ϑ) :
  ϙ prog 113 #[.agg #[H l k j,D g,H h c.q0 e],.pointer (O (X bm 0)),D n] w (EJ c m n bm F w):=by
 let⟨_,_,_,_,_,_,t,_⟩:=i.top;unfold Bj at d;rcases EW t with a|a|a
 .rw [if_pos a]at d
  exact next_push hs s l h k j e g n i r q B p o (.inl a) (Aq.1 d)
 .exact Vy hs s l h k j e g n i r q B p o a
 rw[if_neg U,if_pos a]at d;have t:BP n:=by simp at d;unfold BP;omega
 by_cases d:n=0
 .exact UO hs s l h k j e g n i r q B p o a d
 exact next_push hs s l h k j e g n i r q B p o (.inr ⟨a,d⟩) t
