import Derived.Test.YtigbfkiddlhhjaaGreatDoorStep0
set_option maxHeartbeats 400000
set_option maxRecDepth 100000
set_option linter.all false
open Go renaming World→Ϣ,Value→ϒ,Calls→ϙ
open Go.RowKit renaming Below→ϐ
open Option renaming some→ς
open Go.Value renaming slice→σ
open Go.Obj renaming cells→χ
namespace Go.Proofs.YtigbfkiddlhhjaaGreatDoor
open Go.RowKit Proofs.Tryz
variable {α:Type} {B b o sz:Nat} {w w':Ϣ} {v:ϒ} {E:Ϣ->Nat->Nat->α->Prop} {l:List α}
structure CD where
 X:Int
 V:Int
 C:Int
 N:Int
 more:Int
structure A3 where
 M:Mm
 Y:Int
 R:List AV
 N:List Int
 A:List (List Bi)
 results:List (List CD)
 Z:List (List Int)
 P:List (List Int)
 U:Int
def FW (fv:ϒ) (m:AV):List ϒ:=[fv,ι m.Q.K,ι m.Q.O,ι m.Q.D,ι m.Q.V,ι m.Q.X,ι m.Y,ι m.C,ι m.I]
def Ht (B:Nat) (w:Ϣ) (b o:Nat) (m:AV):Prop:=
 ∃ fv,(∀ (j:Nat) v,(FW fv m)[j]?=ς v->w.cell? (π b (o+j))=ς v)/\AE B w 4 (CK B) fv m.J/\m.Q.wf/\in64 m.Y/\in64 m.C/\in64 m.I
def Ht.below (a:ϐ B w w') {m:AV} (h:b<B) (g:Ht B w b o m):Ht B w' b o m:=by
 obtain ⟨c,d,e,f⟩:=g;exact ⟨c,λj v i=>by rw [Di a h];exact d j v i,e.fras a,f⟩
def DA (B:Nat) (w:Ϣ) (b o:Nat) (x:Bi):Prop:=
 w.cell? (π b o)=ς (.string x.proc)/\(∃ v,w.cell? (π b (o+1))=ς v/\AE B w 1 Aj v x.args)/\x.proc.size<=140737488355328
def DA.below (a:ϐ B w w') {x:Bi} (h:b<B) (e:DA B w b o x):DA B w' b o x:=by
 obtain ⟨f,⟨v,g,c⟩,d⟩:=e;refine ⟨?_,⟨v,?_,c.ints a⟩,d⟩<;>rw [Di a h]<;>assumption
def FM (w:Ϣ) (b o:Nat) (x:CD):Prop:=
 w.cell? (π b o)=ς (ι x.X)/\w.cell? (π b (o+1))=ς (ι x.V)/\w.cell? (π b (o+2))=ς (ι x.C)/\w.cell? (π b (o+3))=ς (ι x.N)/\w.cell? (π b (o+4))=ς (ι x.more)/\in64 x.X/\in64 x.V/\in64 x.C/\in64 x.N/\in64 x.more
def FM.below (a:ϐ B w w') {x:CD} (h:b<B) (c:FM w b o x):FM w' b o x:=by
 unfold FM at *
 rw [Di a h,Di a h,Di a h,Di a h,Di a h];exact c
def Bg {α:Type} (sz:Nat) (E:Ϣ->Nat->Nat->α->Prop) (B:Nat) (w:Ϣ) (b o:Nat) (l:List α):Prop:=∃ v,w.cell? (π b o)=ς v/\AE B w sz E v l
def Bg.below (e:ϐ B w w') (d:∀ b o x,b<B->E w b o x->E w' b o x) (h:b<B) (hl:Bg sz E B w b o l):Bg sz E B w' b o l:=by
 obtain ⟨v,a,c⟩:=hl;exact ⟨v,by rw [Di e h];exact a,c.mono d⟩
def AE.cals (a:ϐ B w w') {l:List Bi} (h:AE B w 2 (DA B) v l):AE B w' 2 (DA B) v l:=h.mono λ_ _ _ h=>DA.below a h
def AE.outs (a:ϐ B w w') {l:List CD} (h:AE B w 5 FM v l):AE B w' 5 FM v l:=h.mono λ_ _ _ h=>FM.below a h
def AE.calss (a:ϐ B w w') {l:List (List Bi)} (h:AE B w 1 (Bg 2 (DA B) B) v l):AE B w' 1 (Bg 2 (DA B) B) v l:=h.mono λ_ _ _ h b=>Bg.below a (λ_ _ _ h=>DA.below a h) h b
abbrev Bt (a:Option Addr) (b:Nat) (c:Option Addr) (d:Nat) (e:Option Addr) (f:Nat) (g:Option Addr) (h:Nat) (i:Option Addr) (j:Nat) (k:Option Addr) (l:Nat) (m:Option Addr) (n:Nat) (o:Option Addr) (p:Nat) (s:A3):Array ϒ:=#[σ a s.M.G b,σ c s.M.N d,ι s.Y,σ e s.R f,σ g s.N h,σ i s.A j,σ k s.results l,σ m s.Z n,σ o s.P p,ι s.U]
def Cs (m:AV):Bool:=decide (m.Q.K=1) || (decide (m.Q.K=2) || decide (m.Q.K=3))
def AE.nth {a:Option Addr} {cap n:Nat} (h:AE B w sz E (σ a n cap) l) {k:Nat} {x:α} (c:l[k]?=ς x):∃ b o,a=ς (π b o)/\b<B/\E w b (o+k*sz) x:=by
 obtain ⟨f,g,e,-,-,-,h⟩:=h;cases e;rcases h with rfl|⟨b,o,rfl,d,h⟩
 .simp at c
 .exact ⟨b,o,rfl,d,h k x c⟩
def Nv (B:Nat) (w:Ϣ) (v:ϒ) (l:List Bi):Prop:=AE B w 2 (DA B) v l
def Q8 (B:Nat) (w:Ϣ) (v:ϒ) (l:List Int):Prop:=AE B w 1 Aj v l
def LI (t:Nat) (c:Array ϒ) (p:Bi->Bool) (l:List Bi) (v:ϒ) (B:Nat) (w:Ϣ) (Q:An t) (P:B<=w) (n:AE B w 2 (DA B) v l)
  (E:∀ (x:Bi) (g:Ϣ) (C:ϒ),ϐ w w g->Gh B g C x->ϙ prog t (#[C]++c) g (λe u=>e=.returned (.bool (p x))/\ϐ g g u)) :
  ϙ prog 47 #[v,.func (.func t) #[] c] w λe w'=>e=.returned (ι (Cz p l))/\ϐ w w w':=by
 obtain ⟨a,N,rfl,X,S,T,n⟩:=n;have I:=Lh n;have H:=Lh E;unfold An at Q;clear n E;go_enter func47,ntmps47;go_wp2;go_loopw [8] (λi wr=>∃ k:Nat,k<=l.length/\i=ι k/\ϐ w w wr/\Hid (∀ j x,j<k->l[j]?=ς x->p x=false)) (λi _=>l.length - (intOf i).toNat)
 case atStart=>exact ⟨0,Nat.zero_le _,rfl,Below.refl _ _,λj x F=>by omega⟩
 case round=>
  obtain ⟨k,W,rfl,f,r⟩:=hrel;by_cases M:k<l.length
  .obtain ⟨x,hx⟩:∃ x,l[k]?=ς x:=⟨_,Lg M⟩
   rcases I.o with h|⟨b,o,rfl,K,s⟩
   .subst h;simp at hx
   have s:=DA.below (f.mono P) K (s k x hx);obtain ⟨U,⟨R,V,D⟩,O⟩:=s;have G:=Lh D;clear D;have z:=Lh hx;clear hx;go_wp2_with fail;refine (H.o x wr _ f ⟨R,rfl,G.o,O⟩).mono ?_;rintro e u ⟨rfl,J⟩;have A:ϐ w w u:=f.trans (J.mono f.size);cases m:p x with
   | true=>have d:=Lh (DO z.o m r);clear m;go_wp2;go_ret;exact ⟨by rw [d.o];rfl,A⟩
   | false=>
    have d:Hid (∀ j x,j<k+1->l[j]?=ς x->p x=false):=by
     intro j y F q;by_cases L:j=k
     .subst L;have:=z.o.symm.trans q;simp at this;rw [<-this];exact m
     .exact r j y ω q
    clear m;go_wp2;go_roundw
    case rel=>exact ⟨k+1,ω,by go_num,A,d⟩
    case measure=>simp [intOf];omega
  .have d:=Lh (CR (p:=p) (l:=l) (λj y F q=>r j y ω q))
   go_wp2;go_ret;exact ⟨by rw [d.o];rfl,f⟩
def Fb (c:Nat) (a:Array ϒ) (p:Bi->Bool) (l:List Bi) (v:ϒ) (B:Nat) (w:Ϣ) (f:An c) (n:B<=w) (h:AE B w 2 (DA B) v l)
  (g:∀ (x:Bi) (b:Ϣ) (d:ϒ),ϐ w w b->Gh B b d x->ϙ prog c (#[d]++a) b (λe q=>e=.returned (.bool (p x))/\ϐ b b q)) :
  ϙ prog 23 #[v,.func (.func c) #[] a] w λe w'=>e=.returned (.bool (l.any p))/\ϐ w w w':=by
 obtain ⟨k,j,i,m⟩:=Λ4 h g f (Ci p l);clear h g f;go_enter func23,ntmps23;go_wp2_with fail;refine (LI c a p l v B w i.o n k.o j.o).mono ?_;rintro e w' ⟨rfl,o⟩;go_wp2;go_ret;exact ⟨by rw [<-m.o];rfl,o⟩
def KN (t:Nat) (c:Array ϒ) (p:List Bi->Bool) (l:List (List Bi)) (v:ϒ) (B:Nat) (w:Ϣ) (Q:An t) (E:B<=w) (n:AE B w 1 (Bg 2 (DA B) B) v l)
  (F:∀ (x:List Bi) (g:Ϣ) (C:ϒ),ϐ w w g->Nv B g C x->ϙ prog t (#[C]++c) g (λe u=>e=.returned (.bool (p x))/\ϐ g g u)) :
  ϙ prog 46 #[v,.func (.func t) #[] c] w λe w'=>e=.returned (ι (Cz p l))/\ϐ w w w':=by
 obtain ⟨a,O,rfl,V,R,S,n⟩:=n;have J:=Lh n;have I:=Lh F;unfold An at Q;clear n F;go_enter func46,ntmps46;go_wp2;go_loopw [8] (λi wr=>∃ k:Nat,k<=l.length/\i=ι k/\ϐ w w wr/\Hid (∀ j x,j<k->l[j]?=ς x->p x=false)) (λi _=>l.length - (intOf i).toNat)
 case atStart=>exact ⟨0,Nat.zero_le _,rfl,Below.refl _ _,λj x G=>by omega⟩
 case round=>
  obtain ⟨k,U,rfl,d,r⟩:=hrel;by_cases N:k<l.length
  .obtain ⟨x,hx⟩:∃ x,l[k]?=ς x:=⟨_,Lg N⟩
   rcases J.o with h|⟨b,o,rfl,L,s⟩
   .subst h;simp at hx
   have s:=Bg.below (d.mono E) (λ_ _ _ h=>DA.below (d.mono E) h) L (s k x hx);obtain ⟨T,P,D⟩:=s;rw [Nat.mul_one] at P;have H:=Lh D;clear D;have z:=Lh hx;clear hx;go_wp2_with fail;refine (I.o x wr _ d H.o).mono ?_;rintro e u ⟨rfl,K⟩;have A:ϐ w w u:=d.trans (K.mono d.size);cases m:p x with
   | true=>have f:=Lh (DO z.o m r);clear m;go_wp2;go_ret;exact ⟨by rw [f.o];rfl,A⟩
   | false=>
    have f:Hid (∀ j x,j<k+1->l[j]?=ς x->p x=false):=by
     intro j y G q;by_cases M:j=k
     .subst M;have:=z.o.symm.trans q;simp at this;rw [<-this];exact m
     .exact r j y ω q
    clear m;go_wp2;go_roundw
    case rel=>exact ⟨k+1,ω,by go_num,A,f⟩
    case measure=>simp [intOf];omega
  .have f:=Lh (CR (p:=p) (l:=l) (λj y G q=>r j y ω q))
   go_wp2;go_ret;exact ⟨by rw [f.o];rfl,d⟩
def FJ (c:Nat) (a:Array ϒ) (p:List Bi->Bool) (l:List (List Bi)) (v:ϒ) (B:Nat) (w:Ϣ) (f:An c) (n:B<=w) (h:AE B w 1 (Bg 2 (DA B) B) v l)
  (g:∀ (x:List Bi) (b:Ϣ) (d:ϒ),ϐ w w b->Nv B b d x->ϙ prog c (#[d]++a) b (λe q=>e=.returned (.bool (p x))/\ϐ b b q)) :
  ϙ prog 21 #[v,.func (.func c) #[] a] w λe w'=>e=.returned (.bool (l.any p))/\ϐ w w w':=by
 obtain ⟨k,j,i,m⟩:=Λ4 h g f (Ci p l);clear h g f;go_enter func21,ntmps21;go_wp2_with fail;refine (KN c a p l v B w i.o n k.o j.o).mono ?_;rintro e w' ⟨rfl,o⟩;go_wp2;go_ret;exact ⟨by rw [<-m.o];rfl,o⟩
def LJ (t:Nat) (c:Array ϒ) (p:List Int->Bool) (l:List (List Int)) (v:ϒ) (B:Nat) (w:Ϣ) (Q:An t) (E:B<=w) (n:AE B w 1 (Bg 1 Aj B) v l)
  (F:∀ (x:List Int) (g:Ϣ) (C:ϒ),ϐ w w g->Q8 B g C x->ϙ prog t (#[C]++c) g (λe u=>e=.returned (.bool (p x))/\ϐ g g u)) :
  ϙ prog 137 #[v,.func (.func t) #[] c] w λe w'=>e=.returned (ι (Cz p l))/\ϐ w w w':=by
 obtain ⟨a,O,rfl,V,R,S,n⟩:=n;have J:=Lh n;have I:=Lh F;unfold An at Q;clear n F;go_enter func137,ntmps137;go_wp2;go_loopw [8] (λi wr=>∃ k:Nat,k<=l.length/\i=ι k/\ϐ w w wr/\Hid (∀ j x,j<k->l[j]?=ς x->p x=false)) (λi _=>l.length - (intOf i).toNat)
 case atStart=>exact ⟨0,Nat.zero_le _,rfl,Below.refl _ _,λj x G=>by omega⟩
 case round=>
  obtain ⟨k,U,rfl,d,r⟩:=hrel;by_cases N:k<l.length
  .obtain ⟨x,hx⟩:∃ x,l[k]?=ς x:=⟨_,Lg N⟩
   rcases J.o with h|⟨b,o,rfl,L,s⟩
   .subst h;simp at hx
   have s:=Bg.below (d.mono E) (λ_ _ _ h=>Aj.below (d.mono E) h) L (s k x hx);obtain ⟨T,P,D⟩:=s;rw [Nat.mul_one] at P;have H:=Lh D;clear D;have z:=Lh hx;clear hx;go_wp2_with fail;refine (I.o x wr _ d H.o).mono ?_;rintro e u ⟨rfl,K⟩;have A:ϐ w w u:=d.trans (K.mono d.size);cases m:p x with
   | true=>have f:=Lh (DO z.o m r);clear m;go_wp2;go_ret;exact ⟨by rw [f.o];rfl,A⟩
   | false=>
    have f:Hid (∀ j x,j<k+1->l[j]?=ς x->p x=false):=by
     intro j y G q;by_cases M:j=k
     .subst M;have:=z.o.symm.trans q;simp at this;rw [<-this];exact m
     .exact r j y ω q
    clear m;go_wp2;go_roundw
    case rel=>exact ⟨k+1,ω,by go_num,A,f⟩
    case measure=>simp [intOf];omega
  .have f:=Lh (CR (p:=p) (l:=l) (λj y G q=>r j y ω q))
   go_wp2;go_ret;exact ⟨by rw [f.o];rfl,d⟩
def Fe (c:Nat) (a:Array ϒ) (p:List Int->Bool) (l:List (List Int)) (v:ϒ) (B:Nat) (w:Ϣ) (f:An c) (n:B<=w) (h:AE B w 1 (Bg 1 Aj B) v l)
  (g:∀ (x:List Int) (b:Ϣ) (d:ϒ),ϐ w w b->Q8 B b d x->ϙ prog c (#[d]++a) b (λe q=>e=.returned (.bool (p x))/\ϐ b b q)) :
  ϙ prog 98 #[v,.func (.func c) #[] a] w λe w'=>e=.returned (.bool (l.any p))/\ϐ w w w':=by
 obtain ⟨k,j,i,m⟩:=Λ4 h g f (Ci p l);clear h g f;go_enter func98,ntmps98;go_wp2_with fail;refine (LJ c a p l v B w i.o n k.o j.o).mono ?_;rintro e w' ⟨rfl,o⟩;go_wp2;go_ret;exact ⟨by rw [<-m.o];rfl,o⟩
