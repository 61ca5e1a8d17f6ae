import Derived.Test.YtiejafonjemioaaGreatDoorSgp
set_option maxHeartbeats 8000000
set_option maxRecDepth 100000
set_option linter.unusedVariables false
set_option linter.unusedSimpArgs false
open Go.Value renaming slice→σ
open Go.Obj renaming cells→χ
namespace Go.Proofs.YtiejafonjemioaaGreatDoor
open Go.RowKit
theorem Kk {w:World} {bm fb cap:Nat} {cur:Array Value} {cs:List Value} {fs:List Fra} {f:Fra} {lv sv:Value} {m:Mch} {Fi Fl Fs:List Nat} (fa ga:Option Addr) (fn fc gc:Nat) (g:Int) (h:Xk w bm fb cap cur cs fs f lv sv m Fi Fl Fs) (hn:fs.length<200)
  (B:Nat) (hB:∀ b∈bm::fb::(Fi++(Fl++Fs)),B<=b) (funcs:List Fun) (hfl:funcs.length<=1000000) (hfs:Xf B w 5 (Zl B) (σ ga funcs.length gc) funcs) (k:Nat) (hk:f.fn=k) (y:Fun) (hy:funcs[k]?=some y) (p:Nat) (hp:f.pc=p) (x:Ins) (hx:y.code[p]?=some x) (hcl:y.code.length<=1000000)
  (hid:0<=m.idle/\m.idle<100000) (o:Out)
  (hcs:((x.op=31)/\(f.stack.length<999999)/\∃ (l:List Int),∃ (v:Int),(f.stack=l++[v])/\(in64 v)/\o=.go { m with idle:=m.idle+1,frames:=fs++[{ f with pc:=f.pc+1,stack:=l++[v]++[v] }] })\/((x.op=13)/\(m.fuel=0)/\o=.stop (X0 20) { m with idle:=m.idle+1,frames:=fs++[{ f with pc:=f.pc+1 }] })\/((x.op=13)/\(¬m.fuel=0)/\(0<=m.fuel/\m.fuel<=9223372036854775807)/\o=.go { m with fuel:=m.fuel - 1,idle:=0,frames:=fs++[{ f with pc:=f.pc+1 }] })\/((x.op=9)/\∃ (c:Nat),(x.a=c)/\∃ (z:Fun),(funcs[c]?=some z)/\∃ (l args:List Int),(f.stack=l++args)/\(z.params=args.length)/\∃ (q:Nat),(z.locals=args.length+q)/\(args.length+q<=100)/\(∀ n∈f.stack,in64 n)/\(fs.length+1<200)/\o=.go { m with idle:=m.idle+1,frames:=fs++[{ f with pc:=f.pc+1,stack:=l }]++[⟨c,0,args++List.replicate q 0,[]⟩] })\/((x.op=9)/\∃ (c:Nat),(x.a=c)/\∃ (z:Fun),(funcs[c]?=some z)/\∃ (l args:List Int),(f.stack=l++args)/\(z.params=args.length)/\∃ (q:Nat),(z.locals=args.length+q)/\(args.length+q<=100)/\(∀ n∈f.stack,in64 n)/\(¬fs.length+1<200)/\o=.stop (X0 19) { m with idle:=m.idle+1,frames:=fs++[{ f with pc:=f.pc+1,stack:=l }] })\/((x.op=10)/\∃ (v:Int),(f.stack=if y.result then [v] else [])/\(y.result=false->v=0)/\(in64 v)/\(∀ f∈fs,f.stack.length<1000000)/\(fs=[])/\o=.stop (Jc v) { m with idle:=m.idle+1,frames:=[] })\/((x.op=10)/\∃ (v:Int),(f.stack=if y.result then [v] else [])/\(y.result=false->v=0)/\(in64 v)/\(∀ f∈fs,f.stack.length<1000000)/\∃ (aS:List Fra),∃ (f':Fra),(fs=aS++[f'])/\o=.go { m with idle:=m.idle+1,frames:=aS++[Xll f' y.result v] })\/((x.op=2)/\∃ (i:Nat),(x.a=i)/\∃ (n:Int),(f.locals[i]?=some n)/\(in64 n)/\(f.stack.length<1000000)/\(f.locals.length<=1000)/\o=.go { m with idle:=m.idle+1,frames:=fs++[{ f with pc:=f.pc+1,stack:=f.stack++[n] }] })) :
  Calls Tryz.prog 170 #[Yw (σ fa fn fc) (σ ga funcs.length gc) g bm] w (Km w bm (bm::fb::(Fi++(Fl++Fs))) o):=by
 have aJ:=Lh hcs
 clear hcs
 obtain ⟨aM,xa⟩:=x
 obtain ⟨a0,bF,bT,-,-,-,hE⟩:=id hfs
 rcases hE with h0|⟨b,o,rfl,-,-⟩
 ·rw [h0] at hy;simp at hy
 obtain ⟨rfl,rfl⟩:ga=some (π b o)/\gc=bF:=by simpa using bT
 clear bT
 refine (sgp fa b o fn fc gc g (Lh h) hn B (Lh hB) funcs hfl (Lh hfs) k (Lh hk) y hy p (Lh hp) aM xa hx hcl hid _).2 (Lh ?_)
 intro dI cW dL yb yo cO bW dJ aC dC dB dE aZ dK cM cN dG dH K hK W4 H4 aH cT k0 k1 k2 k3 ib bG cJ d1 d0 bK cP cZ
 have aY:=Lh hfs
 have HK:=Lh hk
 have HP:=Lh hp
 have HB:=Lh hB
 clear h hB hfs hk hp
 rcases aJ.o with ⟨aB,aN,l,v,aG,aW,rfl⟩|⟨aB,bA,rfl⟩|⟨aB,bA,dD,rfl⟩|⟨aB,c,ha,z,hz,l,args,aG,aV,q,hq,bJ,aK,hd,rfl⟩|⟨aB,c,ha,z,hz,l,args,aG,aV,q,hq,bJ,aK,hd,rfl⟩|⟨aB,v,aG,hv,aK,aN,hd,rfl⟩|⟨aB,v,aG,hv,aK,aN,aS,f',hd,rfl⟩|⟨aB,i,ha,n,hi,bI,aN,cS,rfl⟩
 ·have aF:=Lh aB
  clear aB aJ
  obtain rfl:aM=31:=aF.o
  have cS:l.length<999999:=by have:=congrArg List.length aG;simp at this;omega
  have cC:=Lh aG
  clear aG
  go_wp2_with fail
  refine (X9 fa (some (π b o)) fn fc funcs.length gc g H4.o ω l v cC.o).mono ?_
  rintro e w5 ⟨rfl,aT,bZ,bN,aL,aA⟩
  have k0:=aA.cell k0 aC
  have k1:=aA.cell k1 aC
  have k2:=aA.cell k2 aC
  have k3:=aA.cell k3 aC
  have d1:=aA.cell d1 bG
  have aD:=aA.notin bK aC
  have aU:=aA.notin cJ bG
  have bL:w.heap.size<w5.heap.size:=Bl k0
  have bH:ib<w5.heap.size:=Bl d1
  have bE:=Lh aL
  have aO:=Lh (aH.o.trans aA)
  clear aL aA
  go_wp2_with fail
  refine (Qt fa (some (π b o)) fn fc funcs.length gc g bE.o ω v aW (by show l.length<_;omega)).mono ?_
  rintro e w6 ⟨rfl,cF,dM,cX,bQ,aI⟩
  have k0:=aI.cell k0 aD
  have k1:=aI.cell k1 aD
  have k2:=aI.cell k2 aD
  have k3:=aI.cell k3 aD
  have d1:=aI.cell d1 aU
  have bY:=aI.notin bL aD
  have cI:=aI.notin bH aU
  have cU:w.heap.size<w6.heap.size:=Bl k0
  have cK:ib<w6.heap.size:=Bl d1
  have cD:=Lh bQ
  have bC:=Lh (aO.o.trans aI)
  clear bQ aI
  go_wp2_with fail
  refine (Qt fa (some (π b o)) fn fc funcs.length gc g cD.o ω v aW (by show (l++[v]).length<_;simp;omega)).mono ?_
  rintro e w7 ⟨rfl,cG,dN,cY,bR,bP⟩
  have cE:=Lh bR
  have cB:=Lh (bC.o.trans bP)
  clear bR bP
  go_wp2_with fail
  go_end0
  rw [HP.o]
  exact ⟨rfl,_,(cE.o.reframe _).own rfl,cB.o⟩
 ·have aF:=Lh aB
  clear aB aJ
  obtain rfl:aM=13:=aF.o
  have c6:=H4.o.cFuel
  dsimp only at c6
  rw [bA] at c6
  have dA:=Lh bA
  clear bA
  go_wp2_with fail
  refine (Jx fa (some (π b o)) fn fc funcs.length gc g bm 20 _).mono ?_
  rintro e w5 ⟨rfl,bS⟩
  refine ⟨rfl,?_⟩
  rw [HP.o]
  exact ⟨rfl,_,((H4.o.keep bS).reframe _).own rfl,aH.o.trans (Xp.of_below bS)⟩
 ·have aF:=Lh aB
  clear aB aJ
  obtain rfl:aM=13:=aF.o
  have c6:=H4.o.cFuel
  have f6:=H4.o.frm 6
  have f8:=H4.o.frm 8
  have c8:=H4.o.cIdle
  dsimp only at c6 c8
  obtain ⟨h5,aA⟩:=Kw (m':={ m with idle:=m.idle+1,fuel:=m.fuel - 1 }) H4.o Br 6 (ι (m.fuel - 1)) rfl
  obtain ⟨h6,aI⟩:=Kw (m':={ m with idle:=0,fuel:=m.fuel - 1 }) h5 Br 8 (ι 0) rfl
  have H6:=Lh h6
  have bC:=Lh ((aH.o.trans aA).trans aI)
  clear h5 aA h6 aI
  go_wp2_with fail
  go_end0
  rw [HP.o]
  exact ⟨rfl,_,(H6.o.reframe _).own rfl,bC.o⟩
 ·have H_ha:=Lh ha
  have H_hst:=Lh aG
  have H_hpz:=Lh aV
  have H_hq:=Lh hq
  have H_h64:=Lh aK
  have H_hz:=Lh hz
  have H_hd:=Lh hd
  clear ha aG aV hq aK hz hd
  have aF:=Lh aB
  clear aB aJ
  obtain rfl:xa=c:=H_ha.o
  obtain rfl:aM=9:=aF.o
  have aP:∀ bb∈bm::fb::(Fi++(Fl++Fs)),B<=bb:=HB.o
  have aE:=Lh (aY.o.funs (aH.o.below HB.o aZ))
  clear aP
  go_wp2_with fail
  refine (Xh8 fa (some (π b o)) fn fc gc g (H4.o.reframe (fs++[{ f with pc:=(p:Int)+1 }])) hn B HB.o funcs hfl aE.o c z H_hz.o l args H_hst.o H_hpz.o q H_hq.o bJ H_h64.o rfl).mono ?_
  rintro e w5 hC
  rcases hC with ⟨-,rfl,F5,aQ,aA⟩|⟨aR,-⟩
  ·have bD:=Lh aQ
   have aO:=Lh (aH.o.trans aA)
   clear aQ aA
   go_wp2_with fail
   go_end0
   rw [HP.o]
   exact ⟨rfl,F5,bD.o,aO.o⟩
  ·exact absurd H_hd.o aR
 ·have H_ha:=Lh ha
  have H_hst:=Lh aG
  have H_hpz:=Lh aV
  have H_hq:=Lh hq
  have H_h64:=Lh aK
  have H_hz:=Lh hz
  have H_hd:=Lh hd
  clear ha aG aV hq aK hz hd
  have aF:=Lh aB
  clear aB aJ
  obtain rfl:xa=c:=H_ha.o
  obtain rfl:aM=9:=aF.o
  have aP:∀ bb∈bm::fb::(Fi++(Fl++Fs)),B<=bb:=HB.o
  have aE:=Lh (aY.o.funs (aH.o.below HB.o aZ))
  clear aP
  go_wp2_with fail
  refine (Xh8 fa (some (π b o)) fn fc gc g (H4.o.reframe (fs++[{ f with pc:=(p:Int)+1 }])) hn B HB.o funcs hfl aE.o c z H_hz.o l args H_hst.o H_hpz.o q H_hq.o bJ H_h64.o rfl).mono ?_
  rintro e w5 hC
  rcases hC with ⟨bM,-⟩|⟨-,rfl,aT,bZ,bN,aL,aA⟩
  ·exact absurd bM H_hd.o
  ·refine ⟨rfl,?_⟩
   rw [HP.o]
   exact ⟨rfl,_,(aL.reframe _).own rfl,aH.o.trans aA⟩
 ·have H_hst:=Lh aG
  have H_hv:=Lh hv
  have H_hsl:=Lh aN
  have H_hd:=Lh hd
  clear aG hv aN hd
  have aF:=Lh aB
  clear aB aJ
  obtain rfl:aM=10:=aF.o
  have aP:∀ bb∈bm::fb::(Fi++(Fl++Fs)),B<=bb:=HB.o
  have aE:=Lh (aY.o.funs (aH.o.below HB.o aZ))
  have HY:=Lh hy
  clear hy aP
  go_wp2_with fail
  refine (Xhw fa (some (π b o)) fn fc gc g H4.o hn B HB.o funcs aE.o k HK.o y HY.o v H_hst.o H_hv.o aK H_hsl.o).mono ?_
  rintro e w5 hC
  rcases hC with ⟨-,rfl,F5,aQ,aA⟩|⟨aS,f',aR,-⟩
  ·refine ⟨rfl,?_⟩
   exact ⟨rfl,F5,aQ,aH.o.trans aA⟩
  ·rw [H_hd.o] at aR;simp at aR
 ·have H_hst:=Lh aG
  have H_hv:=Lh hv
  have H_hsl:=Lh aN
  have H_hd:=Lh hd
  clear aG hv aN hd
  have aF:=Lh aB
  clear aB aJ
  obtain rfl:aM=10:=aF.o
  have aP:∀ bb∈bm::fb::(Fi++(Fl++Fs)),B<=bb:=HB.o
  have aE:=Lh (aY.o.funs (aH.o.below HB.o aZ))
  have HY:=Lh hy
  clear hy aP
  go_wp2_with fail
  refine (Xhw fa (some (π b o)) fn fc gc g H4.o hn B HB.o funcs aE.o k HK.o y HY.o v H_hst.o H_hv.o aK H_hsl.o).mono ?_
  rintro e w5 hC
  rcases hC with ⟨aR,-⟩|⟨bO,f2,bU,rfl,F5,aQ,aA⟩
  ·rw [H_hd.o] at aR;simp at aR
  ·have bV:aS++[f']=bO++[f2]:=by rw [<-H_hd.o,bU]
   obtain ⟨rfl,rfl⟩:aS=bO/\f'=f2:=by simpa using List.append_inj' bV rfl
   have bD:=Lh aQ
   have aO:=Lh (aH.o.trans aA)
   clear aQ aA bU bV
   go_wp2_with fail
   go_end0
   exact ⟨rfl,F5,bD.o,aO.o⟩
 ·have H_ha:=Lh ha
  have H_hi:=Lh hi
  clear ha hi
  have aF:=Lh aB
  clear aB aJ
  obtain rfl:xa=i:=H_ha.o
  obtain rfl:aM=2:=aF.o
  have dF:i<f.locals.length:=(Ll H_hi.o)
  obtain ⟨lb,aX,bX,cH,cQ,cR⟩:=H4.o.loc.form (by show 0<f.locals.length;omega)
  dsimp only at bX cH cQ
  subst bX
  have cA:Hid (Xk W4.drew bm fb cap (cur.setIfInBounds (fs.length*4+1) (ι ((p:Int)+1))) cs fs { f with pc:=(p:Int)+1 } (σ (some (π lb 0)) f.locals.length aX) sv { m with idle:=m.idle+1 } Fi Fl Fs):=H4.o.keep (Xh Br 1)
  have bB:Hid (Xp (bm::fb::(Fi++(Fl++Fs))) (bm::fb::(Fi++(Fl++Fs))) w W4.drew):=aH.o.trans (Xp.of_below (Xh Br 1))
  have cLv:=H4.o.cLv
  have cL:=H4.o.loc.cellAt H_hi.o
  have cM:(0:Int)<=(i:Int):=In _
  have cN:(i:Int)<(f.locals.length:Int):=ω
  go_upto_region 12 with fail
  go_region_held3 (fun W=>W.cell? (π w.heap.size 0)=some (σ fa fn fc)/\W.cell? (π w.heap.size 1)=some (ι g)/\W.cell? (π w.heap.size 2)=some (σ (some (π b o)) funcs.length gc)/\W.cell? (π w.heap.size 3)=some (.pointer (some (π bm 0)))/\W.cell? (π ib 1)=some (ι (i:Int))/\W.cell? (π fb (fs.length*4+2))=some (σ (some (π lb 0)) f.locals.length aX)/\W.cell? (π lb i)=some (ι n))
   (first|exact ⟨k0,k1,k2,k3,d1,cLv,cL⟩|exact ⟨j0,j1,j2,j3,j4,cV,jL⟩)
   (first|(go_at_call 144;refine (Qt fa (some (π b o)) fn fc funcs.length gc g cA.o ω n bI aN).mono ?_;rintro e w5 ⟨rfl,aT,bZ,bN,aL,aA⟩;have j0:=aA.cell (show W4.drew.cell? _=_ from k0) aC;have j1:=aA.cell (show W4.drew.cell? _=_ from k1) aC;have j2:=aA.cell (show W4.drew.cell? _=_ from k2) aC;have j3:=aA.cell (show W4.drew.cell? _=_ from k3) aC;have j4:=aA.cell (show W4.drew.cell? _=_ from d1) bG;have cV:=aL.cLv;have jL:=aL.loc.cellAt H_hi.o;have bE:=Lh aL;have aO:=Lh (bB.o.trans aA);clear aL aA))
  go_wp2_with fail
  go_end0
  rw [HP.o]
  exact ⟨rfl,_,(bE.o.reframe _).own rfl,aO.o⟩
