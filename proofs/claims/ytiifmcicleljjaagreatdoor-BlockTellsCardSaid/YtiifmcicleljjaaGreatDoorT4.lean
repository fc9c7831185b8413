/- The walks and the plain laws, part 4. -/
import Derived.Below
import Derived.StillTailTactics
import Derived.Test.YtiifmcicleljjaaGreatDoorT1
set_option maxRecDepth 100000
set_option maxHeartbeats 12800000
set_option linter.unusedVariables false
open Go renaming bodyPost_ret->gJ,results_none->qX
open Go.IntKind renaming i64->aI
open Go.IntWalk renaming i64_in->tS
open Nat renaming dvd_add->GC,dvd_refl->GD,le_refl->aA,lt_or_ge->bT,lt_trichotomy->pW,min_eq_left->gU,min_eq_right->aB9,zero_le->aU
open Option.some renaming inj->bW
namespace Go.Proofs.YtiifmcicleljjaaGreatDoor
section
def gH (f:Nat->Int) (i:Nat) (x:Int):Nat->Int:=fun k=>if k=i then x else f k
def gC (f:Nat->Int) (a b t:Nat):Nat->Int:=fun k=>if a<=k/\k<a+t then f (k-a+b) else if b<=k/\k<b+t then f (k-b+a) else f k
def cA (f:Nat->Int) (a m b:Nat):Nat->Int:=fun k=>if a<=k/\k<a+(b-m) then f (k+(m-a)) else if a+(b-m)<=k/\k<b then f (k-(b-m)) else f k
theorem aEk (f:Nat->Int) (a b:Nat):gC f a b 0=f:=by
 funext k;unfold gC;rw[if_neg (by omega),if_neg (by omega)]
theorem aEl (f:Nat->Int) (a b t:Nat) (h:a+t<b):gC f a b (t+1)=gH (gH (gC f a b t) (a+t) (gC f a b t (b+t))) (b+t) (gC f a b t (a+t)):=by
 have F:gC f a b t (b+t)=f (b+t):=by unfold gC;rw[if_neg (by omega),if_neg (by omega)]
 have G:gC f a b t (a+t)=f (a+t):=by unfold gC;rw[if_neg (by omega),if_neg (by omega)]
 rw[F,G]
 funext k
 unfold gH
 by_cases d:k=b+t
 ·subst d;rw[if_pos rfl];unfold gC;rw[if_neg (by omega),if_pos (by omega)];congr 1;omega
 ·rw[if_neg d]
  by_cases z:k=a+t
  ·subst z;rw[if_pos rfl];unfold gC;rw[if_pos (by omega)];congr 1;omega
  ·rw[if_neg z];unfold gC
   by_cases A:a<=k/\k<a+t
   ·rw[if_pos A,if_pos (by omega)]
   ·rw[if_neg A,if_neg (by omega)]
    by_cases E:b<=k/\k<b+t
    ·rw[if_pos E,if_pos (by omega)]
    ·rw[if_neg E,if_neg (by omega)]
theorem aEm (f:Nat->Int) (m i:Nat) (h:i<=m):cA f (m-i) m (m+i)=gC f (m-i) m i:=by
 funext k
 unfold cA gC;rw[show m+i-m=i by omega,show m-(m-i)=i by omega]
 by_cases d:m-i<=k/\k<m-i+i
 ·rw[if_pos d,if_pos d];congr 1;omega
 ·rw[if_neg d,if_neg d]
  by_cases z:m<=k/\k<m+i
  ·rw[if_pos (by omega),if_pos z];congr 1;omega
  ·rw[if_neg (by omega),if_neg z]
theorem aEn (f:Nat->Int) (m i j:Nat) (h:i<=m) (E:j<i) (_hj:0<j):cA f (m-i) m (m+j)=cA (gC f (m-i) m j) (m-(i-j)) m (m+j):=by
 funext k
 unfold cA;rw[show m+j-m=j by omega,show m-(m-i)=i by omega,show m-(m-(i-j))=i-j by omega]
 by_cases d:m-i<=k/\k<m-i+j
 ·rw[if_pos d,if_neg (by omega),if_neg (by omega)];unfold gC;rw[if_pos d];congr 1;omega
 ·rw[if_neg d]
  by_cases z:m-i+j<=k/\k<m+j
  ·rw[if_pos z]
   by_cases A:m-(i-j)<=k/\k<m-(i-j)+j
   ·rw[if_pos A];unfold gC;rw[if_neg (by omega),if_pos (by omega)];congr 1;omega
   ·rw[if_neg A,if_pos (by omega)];unfold gC;rw[if_neg (by omega),if_neg (by omega)]
  ·rw[if_neg z,if_neg (by omega),if_neg (by omega)];unfold gC;rw[if_neg (by omega),if_neg (by omega)]
theorem aEo (f:Nat->Int) (m i j:Nat) (h:i<=m) (E:i<j) (_hi:0<i):cA f (m-i) m (m+j)=cA (gC f (m-i) (m+j-i) i) (m-i) m (m+(j-i)):=by
 funext k
 unfold cA;rw[show m+j-m=j by omega,show m-(m-i)=i by omega,show m+(j-i)-m=j-i by omega]
 by_cases d:m-i<=k/\k<m-i+j
 ·rw[if_pos d]
  by_cases z:m-i<=k/\k<m-i+(j-i)
  ·rw[if_pos z];unfold gC;rw[if_neg (by omega),if_neg (by omega)]
  ·rw[if_neg z,if_pos (by omega)];unfold gC;rw[if_pos (by omega)];congr 1;omega
 ·rw[if_neg d]
  by_cases A:m-i+j<=k/\k<m+j
  ·rw[if_pos A,if_neg (by omega),if_neg (by omega)];unfold gC;rw[if_neg (by omega),if_pos (by omega)];congr 1;omega
  ·rw[if_neg A,if_neg (by omega),if_neg (by omega)];unfold gC;rw[if_neg (by omega),if_neg (by omega)]
def iU (a b:Nat) (f g:Nat->Int):Prop:=(∀k,a<=k->k<b->∃d,a<=d/\d<b/\g k=f d)/\(∀k,¬(a<=k/\k<b)->g k=f k)
theorem iU.refl (a b:Nat) (f:Nat->Int):iU a b f f:=⟨fun k d z=>⟨k,d,z,rfl⟩,fun _ _=>rfl⟩
theorem iU.trans {a b:Nat} {f g h:Nat->Int} (p:iU a b f g) (q:iU a b g h):iU a b f h:=
 ⟨fun k z A=>by
  obtain⟨E,F,G,H⟩:=q.1 k z A;obtain⟨I,J,L,M⟩:=p.1 E F G;exact⟨I,J,L,by rw[H,M]⟩,fun k d=>by rw[q.2 k d,p.2 k d]⟩
theorem iU.wide {a b d z:Nat} {f g:Nat->Int} (p:iU a b f g) (H:d<=a) (I:b<=z):iU d z f g:=
 ⟨fun k A E=>by
  by_cases h:a<=k/\k<b
  ·obtain⟨F,J,L,G⟩:=p.1 k h.1 h.2;exact⟨F,by omega,by omega,G⟩
  ·exact⟨k,A,E,p.2 k h⟩,fun k M=>p.2 k (by omega)⟩
theorem iU.rot (f:Nat->Int) (a m b:Nat) (z:a<=m) (A:m<=b):iU a b f (cA f a m b):=by
 refine⟨fun k E F=>?_,fun k G=>?_⟩
 ·unfold cA
  by_cases d:a<=k/\k<a+(b-m)
  ·rw[if_pos d];exact⟨k+(m-a),by omega,by omega,rfl⟩
  ·rw[if_neg d,if_pos (by omega)];exact⟨k-(b-m),by omega,by omega,rfl⟩
 ·unfold cA;rw[if_neg (by omega),if_neg (by omega)]
section
variable (lt:Int->Int->Prop)
def gM (f:Nat->Int) (a b:Nat):Prop:=∀i j,a<=i->i<j->j<b->lt (f i) (f j)
structure rI:Prop where
 tr:∀x y z,lt x y->lt y z->lt x z
 tot:∀x y,x≠y->lt x y\/lt y x
 irr:∀x,¬lt x x
variable {lt}
theorem gM.mono {f:Nat->Int} {a b d z:Nat} (h:gM lt f a b) (E:a<=d) (F:z<=b):gM lt f d z:=
 fun i j G A H=>h i j (by omega) A (by omega)
theorem gM.congr {f g:Nat->Int} {a b:Nat} (h:gM lt f a b) (e:∀k,a<=k->k<b->g k=f k):gM lt g a b:=
 fun i j d A z=>by rw[e i d (by omega),e j (by omega) z];exact h i j d A z
theorem gM.tiny (f:Nat->Int) (a b:Nat) (h:b<=a+1):gM lt f a b:=fun i j d z A=>by omega
theorem gM.join {f:Nat->Int} {a m b:Nat} (z:gM lt f a m) (A:gM lt f m b) (E:∀i j,a<=i->i<m->m<=j->j<b->lt (f i) (f j)):gM lt f a b:=by
 intro i j p q r;rcases bT i m with hi|hi
 ·rcases bT j m with d|d
  ·exact z i j p q d
  ·exact E i j p hi d r
 ·exact A i j hi q r
structure lC (lt:Int->Int->Prop) (f:Nat->Int) (a m b:Nat):Prop where
 am:a<m
 mb:m<b
 s1:gM lt f a m
 s2:gM lt f m b
 ne:∀i j,a<=i->i<m->m<=j->j<b->f i<f j
structure kX (lt:Int->Int->Prop) (f g:Nat->Int) (a b:Nat):Prop where
 frm:iU a b f g
 srt:gM lt g a b
theorem aEp {f:Nat->Int} {a b i:Nat} (P:lC lt f a (a+1) b) (hi1:a+1<=i) (hi2:i<=b)
  (H:∀k,a+1<=k->k<i->lt (f k) (f a)) (I:∀k,i<=k->k<b->lt (f a) (f k)):kX lt f (cA f a (a+1) i) a b:=by
 refine⟨(iU.rot f a (a+1) i (by omega) hi1).wide (aA _) hi2,?_⟩;have e:∀k,cA f a (a+1) i k=if a<=k/\k<i-1 then f (k+1) else if k=i-1 then f a else f k:=by
  intro k;unfold cA
  by_cases z:a<=k/\k<i-1
  ·rw[if_pos (by omega),if_pos z];congr 1;omega
  ·rw[if_neg (by omega),if_neg z]
   by_cases A:k=i-1
   ·rw[if_pos (by omega),if_pos A];congr 1;omega
   ·rw[if_neg (by omega),if_neg A]
 intro p q L J E;rw[e p,e q]
 by_cases F:a<=p/\p<i-1
 ·rw[if_pos F]
  by_cases d:a<=q/\q<i-1
  ·rw[if_pos d];exact P.s2 _ _ (by omega) (by omega) (by omega)
  ·rw[if_neg d]
   by_cases G:q=i-1
   ·rw[if_pos G];exact H _ (by omega) (by omega)
   ·rw[if_neg G];exact P.s2 _ _ (by omega) (by omega) (by omega)
 ·rw[if_neg F]
  by_cases d:p=i-1
  ·rw[if_pos d,if_neg (by omega),if_neg (by omega)];exact I _ (by omega) E
  ·rw[if_neg d,if_neg (by omega),if_neg (by omega)];exact P.s2 _ _ (by omega) J E
theorem aEq {f:Nat->Int} {a m i:Nat} (P:lC lt f a m (m+1)) (hi1:a<=i) (hi2:i<=m)
  (I:∀k,a<=k->k<i->lt (f k) (f m)) (J:∀k,i<=k->k<m->lt (f m) (f k)):kX lt f (cA f i m (m+1)) a (m+1):=by
 refine⟨(iU.rot f i m (m+1) hi2 (by omega)).wide hi1 (aA _),?_⟩;have e:∀k,cA f i m (m+1) k=if k=i then f m else if i<k/\k<=m then f (k-1) else f k:=by
  intro k;unfold cA
  by_cases z:k=i
  ·rw[if_pos (by omega),if_pos z];congr 1;omega
  ·rw[if_neg (by omega),if_neg z]
   by_cases A:i<k/\k<=m
   ·rw[if_pos (by omega),if_pos A];congr 1;omega
   ·rw[if_neg (by omega),if_neg A]
 intro p q d L M;rw[e p,e q]
 by_cases E:p=i
 ·rw[if_pos E,if_neg (by omega),if_pos (by omega)];exact J _ (by omega) (by omega)
 ·rw[if_neg E]
  by_cases F:i<p/\p<=m
  ·rw[if_pos F,if_neg (by omega),if_pos (by omega)];exact P.s1 _ _ (by omega) (by omega) (by omega)
  ·rw[if_neg F]
   by_cases G:q=i
   ·rw[if_pos G];exact I _ d (by omega)
   ·rw[if_neg G]
    by_cases H:i<q/\q<=m
    ·rw[if_pos H];exact P.s1 _ _ d (by omega) (by omega)
    ·rw[if_neg H];exact P.s1 _ _ d L (by omega)
theorem aEr (S:rI lt) {f:Nat->Int} {a m b z lo hi d:Nat} (P:lC lt f a m b) (T:z=(a+b)/2)
  (U:(z<m/\lo+b=z+m/\hi=z)\/(m<=z/\lo=a/\hi=m)) (V:lo<=d) (Y:d<=hi)
  (G:∀c,lo<=c->c<d->lt (f c) (f (z+m-1-c))) (H:∀c,d<=c->c<hi->lt (f (z+m-1-c)) (f c)):
  a<=d/\d<=m/\m<=z+m-d/\z+m-d<=b/\
  (∀i j,a<=i->i<d->z+m-d<=j->j<b->lt (f i) (f j))/\
  (∀i j,m<=i->i<z+m-d->d<=j->j<m->lt (f i) (f j)):=by
 have Z:=P.am;have a0:=P.mb;have I:a<=d:=by omega
 have J:d<=m:=by omega
 have b3:d<=z:=by omega
 have L:z+m-d<=b:=by omega
 refine⟨I,J,by omega,L,?_,?_⟩
 ·intro i j hi1 hi2 M F
  --d>lo,or the second part's rest is empty
  have a1:lo<d:=by omega
  have A:=G (d-1) (by omega) (by omega);have e:z+m-1-(d-1)=z+m-d:=by omega
  rw[e] at A;have E:lt (f i) (f (z+m-d)):=by
   rcases bT i (d-1) with h|h
   ·exact S.tr _ _ _ (P.s1 i (d-1) hi1 h (by omega)) A
   ·have:i=d-1:=by omega
    subst this;exact A
  rcases bT (z+m-d) j with h|h
  ·exact S.tr _ _ _ E (P.s2 _ j (by omega) h F)
  ·have:j=z+m-d:=by omega
   subst this;exact E
 ·intro i j hi1 hi2 M F;have O:d<hi:=by omega
  have A:=H d (by omega) O;have e:z+m-1-d=z+m-d-1:=by omega
  rw[e] at A;have E:lt (f i) (f d):=by
   rcases bT i (z+m-d-1) with h|h
   ·exact S.tr _ _ _ (P.s2 i (z+m-d-1) hi1 h (by omega)) A
   ·have:i=z+m-d-1:=by omega
    subst this;exact A
  rcases bT d j with h|h
  ·exact S.tr _ _ _ E (P.s1 d j (by omega) h F)
  ·have:j=d:=by omega
   subst this;exact E
theorem aEs {f:Nat->Int} {a m b z d:Nat} (P:lC lt f a m b) (I:a<=d) (J:d<=m) (T:d<=z) (L:z+m-d<=b)
  (M:∀i j,a<=i->i<d->z+m-d<=j->j<b->lt (f i) (f j))
  (O:∀i j,m<=i->i<z+m-d->d<=j->j<m->lt (f i) (f j)):
  let g:=cA f d m (z+m-d)
  iU a b f g/\gM lt g a d/\gM lt g d z/\gM lt g z (z+m-d)/\gM lt g (z+m-d) b/\
  (∀i j,a<=i->i<d->d<=j->j<z->g i<g j)/\(∀i j,z<=i->i<z+m-d->z+m-d<=j->j<b->g i<g j)/\
  (∀i j,a<=i->i<z->z<=j->j<b->lt (g i) (g j)):=by
 intro g;have U:=P.am;have V:=P.mb;have G:∀k,a<=k->k<d->g k=f k:=fun k p q=>by show cA _ _ _ _ _=_;unfold cA;rw[if_neg (by omega),if_neg (by omega)]
 have H:∀k,d<=k->k<z->g k=f (k+(m-d)):=fun k p q=>by show cA _ _ _ _ _=_;unfold cA;rw[if_pos (by omega)]
 have E:∀k,z<=k->k<z+m-d->g k=f (k-(z-d)):=fun k p q=>by
  show cA _ _ _ _ _=_;unfold cA;rw[if_neg (by omega),if_pos (by omega)];congr 1;omega
 have F:∀k,z+m-d<=k->k<b->g k=f k:=fun k p q=>by show cA _ _ _ _ _=_;unfold cA;rw[if_neg (by omega),if_neg (by omega)]
 refine⟨(iU.rot f d m (z+m-d) J (by omega)).wide I L,?_,?_,?_,?_,?_,?_,?_⟩
 ·intro i j p q r;rw[G i p (by omega),G j (by omega) r];exact P.s1 i j p q (by omega)
 ·intro i j p q r;rw[H i p (by omega),H j (by omega) r];exact P.s2 _ _ (by omega) (by omega) (by omega)
 ·intro i j p q r;rw[E i p (by omega),E j (by omega) r];exact P.s1 _ _ (by omega) (by omega) (by omega)
 ·intro i j p q r;rw[F i p (by omega),F j (by omega) r];exact P.s2 _ _ (by omega) (by omega) (by omega)
 ·intro i j p q r s;rw[G i p q,H j r s];exact P.ne _ _ p (by omega) (by omega) (by omega)
 ·intro i j p q r s;rw[E i p q,F j r s];exact P.ne _ _ (by omega) (by omega) (by omega) s
 ·intro i j p q r s;rcases bT i d with hi|hi
  ·rw[G i p hi];rcases bT j (z+m-d) with A|A
   ·rw[E j r A];exact P.s1 _ _ p (by omega) (by omega)
   ·rw[F j A s];exact M _ _ p hi A s
  ·rw[H i hi q];rcases bT j (z+m-d) with A|A
   ·rw[E j r A];exact O _ _ (by omega) (by omega) (by omega) (by omega)
   ·rw[F j A s];exact P.s2 _ _ (by omega) (by omega) s
theorem aEt (S:rI lt) {f:Nat->Int} {a b h:Nat} (P:lC lt f a (a+1) b) (z:h<b) (t:lt (f h) (f a)):∀k,a+1<=k->k<h+1->lt (f k) (f a):=by
 intro k A E;rcases bT k h with d|d
 ·exact S.tr _ _ _ (P.s2 k h A d z) t
 ·have:k=h:=by omega
  subst this;exact t
theorem aEu (S:rI lt) {f:Nat->Int} {a b h:Nat} (P:lC lt f a (a+1) b) (d:a+1<=h) (E:h<b) (t:¬lt (f h) (f a)):∀k,h<=k->k<b->lt (f a) (f k):=by
 have z:lt (f a) (f h):=(S.tot (f a) (f h) (by have:=P.ne a h (by omega) (by omega) d E;omega)).resolve_right t;intro k G F;rcases bT h k with A|A
 ·exact S.tr _ _ _ z (P.s2 h k d A F)
 ·have:k=h:=by omega
  subst this;exact z
theorem aEv (S:rI lt) {f:Nat->Int} {a m h:Nat} (P:lC lt f a m (m+1)) (E:a<=h) (d:h<m) (t:¬lt (f m) (f h)):∀k,a<=k->k<h+1->lt (f k) (f m):=by
 have z:lt (f h) (f m):=(S.tot (f h) (f m) (by have:=P.ne h m E d (by omega) (by omega);omega)).resolve_right t;intro k F G;rcases bT k h with A|A
 ·exact S.tr _ _ _ (P.s1 k h F A d) z
 ·have:k=h:=by omega
  subst this;exact z
theorem aEw (S:rI lt) {f:Nat->Int} {a m h:Nat} (P:lC lt f a m (m+1)) (z:a<=h) (t:lt (f m) (f h)):∀k,h<=k->k<m->lt (f m) (f k):=by
 intro k E A;rcases bT h k with d|d
 ·exact S.tr _ _ _ t (P.s1 h k z d A)
 ·have:k=h:=by omega
  subst this;exact t
theorem aEx (S:rI lt) {f:Nat->Int} {a m b n c lo:Nat} (P:lC lt f a m b) (F:a<=lo) (G:lo<=c) (d:c<m) (z:m<=n-1-c) (H:n-1-lo<b) (I:c+1<=n) (t:¬lt (f (n-1-c)) (f c)):
  ∀k,lo<=k->k<c+1->lt (f k) (f (n-1-k)):=by
 have A:lt (f c) (f (n-1-c)):=(S.tot (f c) (f (n-1-c)) (by have:=P.ne c (n-1-c) (by omega) d z (by omega);omega)).resolve_right t;intro k J L;rcases bT k c with E|E
 ·exact S.tr _ _ _ (P.s1 k c (by omega) E d) (S.tr _ _ _ A (P.s2 (n-1-c) (n-1-k) z (by omega) (by omega)))
 ·have:k=c:=by omega
  subst this;exact A
theorem aEy (S:rI lt) {f:Nat->Int} {a m b n c hi:Nat} (P:lC lt f a m b) (z:a<=c) (H:c<m) (E:n-1-c<b) (I:hi<=m) (F:∀k,k<hi->m<=n-1-k) (t:lt (f (n-1-c)) (f c)):
  ∀k,c<=k->k<hi->lt (f (n-1-k)) (f k):=by
 intro k J G;rcases bT c k with d|d
 ·have:=F k G;rcases bT (n-1-k) (n-1-c) with A|A
  ·exact S.tr _ _ _ (P.s2 (n-1-k) (n-1-c) this A E) (S.tr _ _ _ t (P.s1 c k z d (by omega)))
  ·have e:n-1-k=n-1-c:=by omega
   rw[e];exact S.tr _ _ _ t (P.s1 c k z d (by omega))
 ·have:k=c:=by omega
  subst this;exact t
theorem PZ {f g h k:Nat->Int} {a d b:Nat} (E:iU a b f g) (F:a<=d) (G:d<=b) (A:kX lt g h a d) (z:kX lt h k d b)
  (H:∀i j,a<=i->i<d->d<=j->j<b->lt (g i) (g j)):kX lt f k a b:=by
 refine⟨E.trans ((A.frm.wide (aA _) G).trans (z.frm.wide F (aA _))),?_⟩;refine gM.join (m:=d) (A.srt.congr fun x p q=>z.frm.2 x (by omega)) z.srt ?_;intro i j p q r s;rw[z.frm.2 i (by omega)];obtain⟨V,I,J,L⟩:=A.frm.1 i p q;obtain⟨M,O,T,U⟩:=z.frm.1 j r s;rw[L,U,A.frm.2 M (by omega)];exact H _ _ I J O T
end
end
section
open Go.RowKit
def Dat (w:World) (g cap n:Nat) (f:Nat->Int):Prop:=
 ∃d:Array Value,w.heap[g]? =some (.cells d 3 (0,0))/\d.size=cap/\n<=cap/\∀k,k<n->d[k]? =some (.int .i64 (f k))
theorem Dat.lt {w:World} {g cap n:Nat} {f:Nat->Int} (h:Dat w g cap n f):g<w.heap.size:=by
 obtain⟨d,h,_⟩:=h;exact(Array.getElem?_eq_some_iff.1 h).1
theorem Dat.cell {w:World} {g cap n:Nat} {f:Nat->Int} (h:Dat w g cap n f) {k:Nat} (d:k<n):w.cell? ⟨g,k,none⟩=some (.int .i64 (f k)):=by
 obtain⟨A,h,_,_,z⟩:=h;rw[cell_of_row w g k _ _ (0,0) h];exact z k d
theorem Dat.free {w:World} {g cap n:Nat} {f:Nat->Int} (h:Dat w g cap n f) (k:Nat):w.frozen? ⟨g,k,none⟩=false:=by
 obtain⟨d,h,_⟩:=h;exact frozen_of_row w g k _ _ h
theorem Dat.set {w:World} {g cap n:Nat} {f:Nat->Int} (h:Dat w g cap n f) (k:Nat) (x:Int):Dat (w.setCell ⟨g,k,none⟩ (.int .i64 x)) g cap n (gH f k x):=by
 obtain⟨d,h,z,A,E⟩:=h;refine⟨d.setIfInBounds k (.int .i64 x),heap_setCell_same w g k _ _ _ h,by simpa using z,A,fun j F=>?_⟩;unfold gH
 by_cases e:j=k
 ·subst e;simp[show j<d.size by omega]
 ·rw[if_neg e,Array.getElem?_setIfInBounds_ne (fun h=>e h.symm)];exact E j F
theorem Dat.grown {w w':World} {g cap n:Nat} {f:Nat->Int} {row:Option Nat} (h:Dat w g cap n f) (d:w.grownBy w' row) (z:some g≠row):Dat w' g cap n f:=by
 have A:=h.lt;obtain⟨E,h,F⟩:=h;exact⟨E,by rw[d.block g A z];exact h,F⟩
theorem Dat.below {w w':World} {g cap n B:Nat} {f:Nat->Int} (h:Dat w g cap n f) (d:Below B w w') (z:g<B):Dat w' g cap n f:=by
 obtain⟨A,h,E⟩:=h;exact⟨A,by rw[d.block g z];exact h,E⟩
theorem Dat.congr {w:World} {g cap n:Nat} {f f':Nat->Int} (h:Dat w g cap n f) (e:∀k,k<n->f' k=f k):Dat w g cap n f':=by
 obtain⟨z,h,A,E,F⟩:=h;exact⟨z,h,A,E,fun k d=>by rw[e k d];exact F k d⟩
theorem Dat.drewN {w:World} {g cap n:Nat} {f:Nat->Int} (h:Dat w g cap n f) (k:Nat):Dat (w.drewN k) g cap n f:=h
theorem Dat.drew {w:World} {g cap n:Nat} {f:Nat->Int} (h:Dat w g cap n f):Dat w.drew g cap n f:=h
theorem uI (w:World) (row:Option Nat):w.grownBy w row:=⟨rfl,rfl,rfl,aA _,fun _ _ _=>rfl⟩
theorem dS {a b c:World} {row:Option Nat} (h:a.grownBy b row) (k:b.grownBy c row):a.grownBy c row:=
 ⟨k.os.trans h.os,k.tape.trans h.tape,k.output.trans h.output,Nat.le_trans h.size k.size,fun i hi d=>(k.block i (Nat.lt_of_lt_of_le hi h.size) d).trans (h.block i hi d)⟩
theorem rJ {a b:World} {row:Option Nat} (h:Below a.heap.size a b):a.grownBy b row:=⟨h.os,h.tape,h.output,h.size,fun i hi _=>h.block i hi⟩
theorem eM (a:World) (g k:Nat) (v:Value):a.grownBy (a.setCell ⟨g,k,none⟩ v) (some g):=
 ⟨rfl,rfl,rfl,by simp[World.setCell],fun i _ d=>Below.heap_setCell _ _ _ _ (fun e=>d (by rw[e]))⟩
theorem nC {a b:World} {row:Option Nat} (h:a.grownBy b row):a.grownBy b.drew row:=⟨h.os,h.tape,h.output,h.size,h.block⟩
theorem aEz {a b:World} {row:Option Nat} (h:a.grownBy b row) (n:Nat):a.grownBy (b.drewN n) row:=⟨h.os,h.tape,h.output,h.size,h.block⟩
theorem QC {a b:World} {g B:Nat} (h:a.grownBy b (some g)) (d:B<=g) (z:B<=a.heap.size):Below B a b:=
 ⟨h.os,h.tape,h.output,h.size,fun i hi=>h.block i (by omega) (fun e=>by have:=bW e;omega)⟩
theorem JC (g cap n a b t:Nat) (f:Nat->Int) (J:Value) (w:World) (L:Dat w g cap n f) (Y:n<=1000000) (_hcap:cap<=maxLen) (Z:a+t<=b) (a0:b+t<=n):
  Calls Tryz.prog 256 #[.slice (some ⟨g,0,none⟩) n cap,.int .i64 (a:Int),.int .i64 (b:Int),.int .i64 (t:Int),J] w fun e w'=>
   e=.returned (.tuple #[])/\Dat w' g cap n (gC f a b t)/\w.grownBy w' (some g):=by
 unfold maxLen at _hcap;go_enter Tryz.func256,Tryz.ntmps256;go_wp2
 go_loopg [10] t (fun M i wr=>∃k:Nat,k<=t/\M=t-k/\i=.int .i64 k/\Dat wr g cap n (gC f a b k)/\w.grownBy wr (some g))
 case atStart=>exact⟨0,aU _,rfl,rfl,by rw[aEk];exact L,uI _ _⟩
 case round=>
  obtain⟨k,hk,z,rfl,d,F⟩:=hrel;have O:=hid z;clear z
  by_cases a1:k<t
  ·have T:=d.cell (k:=a+k) (by omega);have U:=d.cell (k:=b+k) (by omega);have f1:=d.free (a+k);have f2:=d.free (b+k);have a2:a+k≠b+k:=by omega
   obtain⟨x,A⟩:∃x,x=gC f a b k (a+k):=⟨_,rfl⟩;obtain⟨y,E⟩:∃y,y=gC f a b k (b+k):=⟨_,rfl⟩;rw[<-A] at T;rw[<-E] at U;have G:=hid A;have H:=hid E;clear A E;go_wp2
   go_region
   all_goals go_wp2
   have z:=O.out
   go_roundg (t-(k+1))
   case measure=>omega
   case rel=>
    refine⟨k+1,by omega,rfl,by go_num,?_,nC (dS (dS F (eM _ _ _ _)) (eM _ _ _ _))⟩;have:=(d.set (a+k) y).set (b+k) x;rw[G.out,H.out,<-aEl f a b k (by omega)] at this;rw[G.out,H.out];exact this.drew
  ·have I:k=t:=by omega
   have V:=hid I;clear I;go_wp2
   go_end0
   exact⟨rfl,by rw[<-V.out];exact d,F⟩
theorem aE0 (g cap n a m b:Nat) (f:Nat->Int) (E:Value) (w:World) (Y:Dat w g cap n f) (I:n<=1000000) (F:cap<=maxLen) (a1:a<m) (a2:m<b) (a3:b<=n):
  Calls Tryz.prog 255 #[.slice (some ⟨g,0,none⟩) n cap,.int .i64 (a:Int),.int .i64 (m:Int),.int .i64 (b:Int),E] w fun e w'=>
   e=.returned (.tuple #[])/\Dat w' g cap n (cA f a m b)/\w.grownBy w' (some g):=by
 have Z:=F;unfold maxLen at Z;go_enter Tryz.func255,Tryz.ntmps255;go_wp2
 go_loopg [10,11] (b-a) (fun gh i j wr=>∃(p q:Nat) (h:Nat->Int),0<p/\0<q/\p<=m/\m+q<=n/\gh=p+q/\i=.int .i64 p/\j=.int .i64 q/\Dat wr g cap n h/\Hid (cA h (m-p) m (m+q)=cA f a m b)/\w.grownBy wr (some g))
 case atStart=>
  refine⟨m-a,b-m,f,by omega,by omega,by omega,by omega,by omega,congrArg _ (by omega),congrArg _ (by omega),Y,hid ?_,uI _ _⟩;rw[show m-(m-a)=a by omega,show m+(b-m)=b by omega]
 case round=>
  obtain⟨p,q,h,O,T,G,a0,H,rfl,rfl,J,L,M⟩:=hrel;have U:=hid H;clear H;rcases pW p q with d|d|d
  ·have t1:((p:Int) != (q:Int))=true:=by rw[bne_iff_ne];omega
   have t2:decide (q<p)=false:=by simp;omega
   go_wp2_with fail;rw[show((m:Int)-(p:Int))=((m-p:Nat):Int) from by omega,show((m:Int)+(q:Int)-(p:Int))=((m+q-p:Nat):Int) from by omega];refine(JC g cap n _ _ _ h E _ J I F (by omega) (by omega)).mono ?_;rintro e V ⟨rfl,z,A⟩;go_wp2;have H:=U.out
   go_roundg (p+(q-p))
   case measure=>omega
   case rel=>exact⟨p,q-p,_,O,by omega,G,by omega,rfl,rfl,congrArg _ (by omega),z,hid (by rw[<-aEo h m p q G d O];exact L.out),dS M A⟩
  ·subst d;have t1:((p:Int) != (p:Int))=false:=by simp
   go_wp2_with fail;rw[show((m:Int)-(p:Int))=((m-p:Nat):Int) from by omega];refine(JC g cap n _ _ _ h E _ J I F (by omega) (by omega)).mono ?_;rintro e V ⟨rfl,z,A⟩;go_wp2
   go_end0
   exact⟨rfl,by rw[<-L.out,aEm h m p G];exact z,dS M A⟩
  ·have t1:((p:Int) != (q:Int))=true:=by rw[bne_iff_ne];omega
   have t2:decide (q<p)=true:=by simp;omega
   go_wp2_with fail;rw[show((m:Int)-(p:Int))=((m-p:Nat):Int) from by omega];refine(JC g cap n _ _ _ h E _ J I F (by omega) (by omega)).mono ?_;rintro e V ⟨rfl,z,A⟩;go_wp2;have H:=U.out
   go_roundg ((p-q)+q)
   case measure=>omega
   case rel=>exact⟨p-q,q,_,by omega,T,by omega,a0,rfl,congrArg _ (by omega),rfl,z,hid (by rw[<-aEn h m p q G d T];exact L.out),dS M A⟩
def pO (w0:World) (g n bx:Nat) (d:Int->Int->Bool):Prop:=
 ∀W,w0.grownBy W (some g)->∀x y:Int,0<=x->x<(n:Int)->0<=y->y<(n:Int)->
  Calls Tryz.prog 219 #[.int .i64 x,.int .i64 y,.pointer (some ⟨bx,0,none⟩)] W fun e z=>∃c:Int,e=.returned (.int .i64 c)/\decide (c<0)=d x y/\Below W.heap.size W z
theorem pO.later {w0 d:World} {g n bx:Nat} {z:Int->Int->Bool} (h:pO w0 g n bx z) (A:w0.grownBy d (some g)):pO d g n bx z:=
 fun W E=>h W (dS A E)
def nE (bx:Nat):Value:=.func (.func 219) #[] #[.pointer (some ⟨bx,0,none⟩)]
def InR (n:Nat) (f:Nat->Int):Prop:=∀k,k<n->0<=f k/\f k<(n:Int)
theorem InR.from {n a b:Nat} {f g:Nat->Int} (h:InR n f) (F:b<=n) (p:iU a b f g):InR n g:=fun k z=>by
 by_cases d:a<=k/\k<b
 ·obtain⟨A,G,H,E⟩:=p.1 k d.1 d.2;rw[E];exact h A (by omega)
 ·rw[p.2 k d];exact h k z
def vV (f:Nat->Int) (a b:Nat):Prop:=∀i j,a<=i->i<j->j<b->f i<f j
def gN (f:Nat->Int) (j i:Nat):Nat->Int:=fun k=>if k=j then f i else if j<k/\k<=i then f (k-1) else f k
theorem aE1 (f:Nat->Int) (i:Nat):gN f i i=f:=by
 funext k;unfold gN
 by_cases h:k=i
 ·rw[if_pos h,h]
 ·rw[if_neg h,if_neg (by omega)]
theorem aE2 (f:Nat->Int) (j i:Nat) (h:j<i):gN f j i=gH (gH (gN f (j+1) i) (j+1) (gN f (j+1) i j)) j (gN f (j+1) i (j+1)):=by
 have E:gN f (j+1) i j=f j:=by unfold gN;rw[if_neg (by omega),if_neg (by omega)]
 have F:gN f (j+1) i (j+1)=f i:=by unfold gN;rw[if_pos rfl]
 rw[E,F]
 funext k
 unfold gH gN
 by_cases d:k=j
 ·rw[if_pos d,if_pos d]
 ·rw[if_neg d,if_neg d]
  by_cases z:k=j+1
  ·rw[if_pos z,if_pos (by omega)];congr 1;omega
  ·rw[if_neg z,if_neg z]
   by_cases A:j<k/\k<=i
   ·rw[if_pos A,if_pos (by omega)]
   ·rw[if_neg A,if_neg (by omega)]
theorem QD (f:Nat->Int) (a j i:Nat) (F:a<=j) (G:j<=i):iU a (i+1) f (gN f j i):=by
 refine⟨fun k A E=>?_,fun k H=>?_⟩
 ·unfold gN
  by_cases d:k=j
  ·rw[if_pos d];exact⟨i,by omega,by omega,rfl⟩
  ·rw[if_neg d]
   by_cases z:j<k/\k<=i
   ·rw[if_pos z];exact⟨k-1,by omega,by omega,rfl⟩
   ·rw[if_neg z];exact⟨k,A,E,rfl⟩
 ·unfold gN;rw[if_neg (by omega),if_neg (by omega)]
theorem QE {lt:Int->Int->Prop} {f:Nat->Int} {a j i:Nat} (h:gM lt f a i) (_h1:a<=j) (L:j<=i) (H:∀k,a<=k->k<j->lt (f k) (f i)) (I:∀k,j<=k->k<i->lt (f i) (f k)):
  gM lt (gN f j i) a (i+1):=by
 have F:gN f j i j=f i:=by unfold gN;rw[if_pos rfl]
 have A:∀k,j<k->k<=i->gN f j i k=f (k-1):=fun k p q=>by unfold gN;rw[if_neg (by omega),if_pos ⟨p,q⟩]
 have G:∀k,k<j->gN f j i k=f k:=fun k p=>by unfold gN;rw[if_neg (by omega),if_neg (by omega)]
 intro p q E J M;rcases pW p j with d|d|d
 ·rw[G p d];rcases pW q j with z|z|z
  ·rw[G q z];exact h _ _ E J (by omega)
  ·rw[z,F];exact H _ E d
  ·rw[A q z (by omega)];exact h _ _ E (by omega) (by omega)
 ·rw[d,F,A q (by omega) (by omega)];exact I _ (by omega) (by omega)
 ·rw[A p d (by omega),A q (by omega) (by omega)];exact h _ _ (by omega) (by omega) (by omega)
structure Cmp (lt:Int->Int->Prop) (klt:Int->Int->Bool):Prop where
 S:rI lt
 iff:∀x y,x<y->(klt y x=true↔lt y x)
theorem QF (g cap n a b bx:Nat) (f:Nat->Int) (H:Int->Int->Bool) (lt:Int->Int->Prop) (w:World) (hd:Dat w g cap n f) (hn:n<=1000000) (_hcap:cap<=maxLen) (b8:a<=b) (b9:b<=n)
  (hf:InR n f) (hr:vV f a b) (Y:pO w g n bx H) (C:Cmp lt H):
  Calls Tryz.prog 251 #[.slice (some ⟨g,0,none⟩) n cap,.int .i64 (a:Int),.int .i64 (b:Int),nE bx] w fun e w'=>
   e=.returned (.tuple #[])/\(∃h,kX lt f h a b/\Dat w' g cap n h)/\w.grownBy w' (some g):=by
 unfold maxLen at _hcap;unfold nE;have a9:=hid Y;have HR:=hid hr;clear Y hr;go_enter Tryz.func251,Tryz.ntmps251;go_wp2
 go_loopg [8] (b-(a+1)) (fun Z i wr=>∃(k:Nat) (h:Nat->Int),a+1<=k/\(k<=b\/k=a+1)/\Z=b-k/\i=.int .i64 k/\Dat wr g cap n h/\Hid (kX lt f h a (min k b))/\w.grownBy wr (some g))
 case atStart=>
  refine⟨a+1,f,aA _,.inr rfl,rfl,congrArg _ (by omega),hd,hid ⟨iU.refl _ _ _,gM.tiny _ _ _ (by omega)⟩,uI _ _⟩
 case round=>
  obtain⟨i,h,hi1,hi2,O,rfl,d,E,z⟩:=hrel;have HG:=hid O;clear O
  by_cases c0:i<b
  ·obtain⟨wo,rfl⟩:∃wo:World,wo=wr:=⟨_,rfl⟩;have F:=E.out.frm;rw[gU (by omega)] at F;have a5:=hf.from (by omega) F;go_wp2
   go_loopg [9] i (fun Z j wr=>∃q:Nat,a<=q/\q<=i/\Z=q/\j=.int .i64 q/\Dat wr g cap n (gN h q i)/\Hid (∀k,q<=k->k<i->lt (h i) (h k))/\w.grownBy wr (some g))
   case atStart=>exact⟨i,by omega,aA _,rfl,rfl,by rw[aE1];exact d,hid (fun k h1 h2=>by omega),z⟩
   case round=>
    clear d z;obtain⟨q,hq1,hq2,a0,rfl,d,HK,z⟩:=hrel;have b0:=hid a0;clear a0
    by_cases b3:a<q
    ·have t1:decide (a<q)=true:=by simpa using b3
     have T:=d.cell (k:=q) (by omega);have U:=d.cell (k:=q-1) (by omega);have f1:=d.free q;have f2:=d.free (q-1);have e1:gN h q i q=h i:=by unfold gN;rw[if_pos rfl]
     have e2:gN h q i (q-1)=h (q-1):=by unfold gN;rw[if_neg (by omega),if_neg (by omega)]
     rw[e1] at T;rw[e2] at U;have E1:=hid e1;have E2:=hid e2;clear e1 e2;have b1:=a5 i (by omega);have b2:=a5 (q-1) (by omega);obtain⟨x,hx⟩:∃x,x=h i:=⟨_,rfl⟩;obtain⟨y,hy⟩:∃y,y=h (q-1):=⟨_,rfl⟩;rw[<-hx] at T b1;rw[<-hy] at U b2;have I:=hid hx;have J:=hid hy;clear hx hy;have s1:aI.wrap ((q:Int)-1)=(q:Int)-1:=tS _ (by omega);have s2:((q:Int)-1).toNat=q-1:=by omega
     have s3:(0:Int)<=(q:Int)-1:=by omega
     have s4:(q:Int)-1<(n:Int):=by omega
     have s5:q<n:=by omega
     have s6:(1:Int)<=(q:Int):=by omega
     have s7:1<=q:=by omega
     have s8:0<q:=by omega
     have s9:(q:Int)<=(n:Int):=by omega
     have c3:q<=n:=by omega
     go_wp2_with fail
     go_cut [34] (fun b4 wx=>b4=.bool (H x y)/\Dat wx g cap n (gN h q i)/\w.grownBy wx (some g))
     case first=>
      go_still_tail 14,(by kernel_rfl)
      change wpList _ _ _ _ _ wr.drew;have b5:=d.drew;have a6:=nC z;generalize wr.drew=c4 at*
      go_wp2_with (go_at_call 219;refine(a9.out _ a6 x y b1.1 b1.2 b2.1 b2.2).mono ?_;rintro e w2 ⟨c,rfl,Y,hb⟩);go_meet;exact⟨rfl,b5.grown (rJ (row:=none) hb) (by simp),dS a6 (rJ hb)⟩
     case rest=>
      obtain⟨rfl,G,a7⟩:=hcut;have a8:y<x:=by
       rw[I.out,J.out];obtain⟨k',L,V,k3⟩:=F.1 (q-1) (by omega) (by omega);rw[k3,F.2 i (by omega)];exact HR.out k' i L (by omega) (by omega)
      have a1:=hid a8;clear a8
      by_cases M:H x y=true
      ·have a2:=hid ((C.iff y x a1.out).1 M);have d1:=G.cell (k:=q) (by omega);have d2:=G.cell (k:=q-1) (by omega);have g1:=G.free q;have g2:=G.free (q-1);rw[E1.out,<-I.out] at d1;rw[E2.out,<-J.out] at d2;have c5:q≠q-1:=by omega
       rw[M];clear T U f1 f2 d z;go_wp2
       go_region
       all_goals go_wp2
       have a0:=b0.out
       go_roundg (q-1)
       case measure=>omega
       case rel=>
        refine⟨q-1,by omega,by omega,rfl,congrArg _ (by omega),?_,hid (fun k L V=>?_),nC (dS (dS a7 (eM _ _ _ _)) (eM _ _ _ _))⟩
        ·have:=(G.set q y).set (q-1) x;have e:=aE2 h (q-1) i (by omega);rw[show q-1+1=q by omega,E1.out,E2.out,<-I.out,<-J.out] at e;rw[e];exact this.drew
        ·rcases bT k q with A|A
         ·have:k=q-1:=by omega
          rw[this,<-I.out,<-J.out];exact a2.out
         ·exact HK.out k A V
      ·have b6:H x y=false:=by simpa using M
       have a2:=hid ((C.S.tot y x (by have:=a1.out;omega)).resolve_right (fun h=>M ((C.iff y x a1.out).2 h)));rw[b6];clear M;have a3:=hid (QE (j:=q) (i:=i) (a:=a) (f:=h) (lt:=lt) (by have:=E.out.srt;rwa[gU (by omega)] at this) (by omega) (by omega)
        (fun k L V=>by
         have e:lt (h (q-1)) (h i):=by rw[<-I.out,<-J.out];exact a2.out
         rcases bT k (q-1) with A|A
         ·have hs:=E.out.srt;rw[gU (by omega)] at hs;exact C.S.tr _ _ _ (hs k (q-1) L A (by omega)) e
         ·have:k=q-1:=by omega
          rw[this];exact e) HK.out)
       have a4:=hid ((F.wide (aA a) (show i<=i+1 by omega)).trans (QD h a q i (by omega) (by omega)));clear T U f1 f2 d z;go_wp2;have O:=HG.out
       go_roundg (b-(i+1))
       case measure=>omega
       case rel=>exact⟨i+1,_,by omega,.inl (by omega),rfl,by go_num,G,hid (by rw[gU (by omega)];exact⟨a4.out,a3.out⟩),a7⟩
    ·have b7:q=a:=by omega
     have t1:decide (a<q)=false:=by simp;omega
     have a3:=hid (QE (j:=q) (i:=i) (a:=a) (f:=h) (lt:=lt) (by have:=E.out.srt;rwa[gU (by omega)] at this) (by omega) (by omega) (fun k L V=>by omega) HK.out);have a4:=hid ((F.wide (aA a) (show i<=i+1 by omega)).trans (QD h a q i (by omega) (by omega)));clear b7;go_wp2
     go_quiet (fail)
     go_wp2;have O:=HG.out
     go_roundg (b-(i+1))
     case measure=>omega
     case rel=>exact⟨i+1,_,by omega,.inl (by omega),rfl,by go_num,d.drewN _,hid (by rw[gU (by omega)];exact⟨a4.out,a3.out⟩),aEz z _⟩
  ·go_wp2
   go_end0
   refine⟨rfl,⟨h,?_,d⟩,z⟩;have:=E.out;rcases hi2 with A|A
   ·rwa[show min i b=b by omega] at this
   ·exact⟨(E.out.frm.wide (aA _) (by omega)),gM.tiny _ _ _ (by omega)⟩
theorem aE3 (f:Nat->Int) (a:Nat):cA f a (a+1) (a+1)=f:=by
 funext k;unfold cA
 rw[if_neg (by omega)]
 by_cases h:a+(a+1-(a+1))<=k/\k<a+1
 ·rw[if_pos h];congr 1;omega
 ·rw[if_neg h]
theorem aE4 (f:Nat->Int) (a p:Nat) (h:a<=p):cA f a (a+1) (p+1+1)=gH (gH (cA f a (a+1) (p+1)) p (cA f a (a+1) (p+1) (p+1))) (p+1) (cA f a (a+1) (p+1) p):=by
 have A:cA f a (a+1) (p+1) (p+1)=f (p+1):=by unfold cA;rw[if_neg (by omega),if_neg (by omega)]
 have E:cA f a (a+1) (p+1) p=f a:=by
  unfold cA;rw[if_neg (by omega),if_pos (by omega)];congr 1;omega
 rw[A,E]
 funext k
 unfold gH
 by_cases d:k=p+1
 ·rw[if_pos d];unfold cA;rw[if_neg (by omega),if_pos (by omega)];congr 1;omega
 ·rw[if_neg d]
  by_cases z:k=p
  ·rw[if_pos z];unfold cA;rw[if_pos (by omega)];congr 1;omega
  ·rw[if_neg z];unfold cA
   by_cases F:a<=k/\k<p
   ·rw[if_pos (by omega),if_pos (by omega)]
   ·rw[if_neg (by omega),if_neg (by omega),if_neg (by omega),if_neg (by omega)]
theorem aE5 (g cap n a m b bx:Nat) (Y:m=a+1) (f:Nat->Int) (I:Int->Int->Bool) (lt:Int->Int->Prop) (w:World) (hd:Dat w g cap n f) (hn:n<=1000000) (_hcap:cap<=maxLen) (b9:b<=n)
  (hf:InR n f) (Z:lC lt f a (a+1) b) (hc:pO w g n bx I) (C:Cmp lt I):
  Calls Tryz.prog 252 #[.slice (some ⟨g,0,none⟩) n cap,.int .i64 (a:Int),.int .i64 (m:Int),.int .i64 (b:Int),nE bx] w fun e w'=>
   e=.returned (.tuple #[])/\(∃h,kX lt f h a b/\Dat w' g cap n h)/\w.grownBy w' (some g):=by
 unfold maxLen at _hcap;unfold nE;have c0:=Z.mb;have b0:=hid hc;have J:=hid Z;clear hc Z;have t0:((m:Int)-(a:Int)==1)=true:=by rw[beq_iff_eq];omega
 have a2:(m:Int)=(a:Int)+1:=by omega
 have c3:m<n:=by omega
 have c4:a<m:=by omega
 have c5:=hid a2;have L:=hid Y;clear Y a2;go_enter Tryz.func252,Tryz.ntmps252;go_wp2
 go_loopg [10,11] (b-m) (fun gh i j wr=>∃p q:Nat,m<=p/\p<=q/\q<=b/\gh=q-p/\i=.int .i64 p/\j=.int .i64 q/\Dat wr g cap n f/\
   Hid (∀k,m<=k->k<p->lt (f k) (f a))/\Hid (∀k,q<=k->k<b->lt (f a) (f k))/\w.grownBy wr (some g))
 case atStart=>have Y:=L.out;exact⟨m,b,aA _,by omega,aA _,rfl,rfl,rfl,hd,hid (fun k M F=>by omega),hid (fun k M F=>by omega),uI _ _⟩
 case round=>
  obtain⟨p,q,c6,c7,a3,O,rfl,rfl,z,HL,HH,A⟩:=hrel;have HG:=hid O;clear O;have b3:a+1<=p:=by have:=L.out;omega
  by_cases c8:p<q
  ·obtain⟨d,a4⟩:∃d,d=(p+q)/2:=⟨_,rfl⟩;have M:p<=d:=by omega
   have F:d<q:=by omega
   have T:=z.cell (k:=d) (by omega);have U:=z.cell (k:=a) (by omega);have b1:=hf d (by omega);have b2:=hf a (by omega);have E:=hid a4;have e0:((p:Int)+(q:Int))/2=((d:Nat):Int):=by omega
   clear a4;obtain⟨x,G⟩:∃x,x=f d:=⟨_,rfl⟩;obtain⟨y,H⟩:∃y,y=f a:=⟨_,rfl⟩;rw[<-G] at T b1;rw[<-H] at U b2;have HX:=hid G;have HY:=hid H;clear G H;have s1:d<n:=by omega
   have s2:a<n:=by omega
   go_wp2
   go_cut [50] (fun b4 wx=>b4=.bool (I x y)/\Dat wx g cap n f/\w.grownBy wx (some g))
   case first=>
    go_still_tail 9,(by kernel_rfl)
    change wpList _ _ _ _ _ wr.drew;have b5:=z.drew;have a5:=nC A;generalize wr.drew=c9 at*
    go_wp2_with (go_at_call 219;refine(b0.out _ a5 x y b1.1 b1.2 b2.1 b2.2).mono ?_;rintro e w2 ⟨c,rfl,hc,hb⟩);go_meet;exact⟨rfl,b5.grown (rJ (row:=none) hb) (by simp),dS a5 (rJ hb)⟩
   case rest=>
    obtain⟨rfl,a6,a7⟩:=hcut;have a8:f a<f d:=J.out.ne a d (aA _) (by omega) (by omega) (by omega);have a9:=hid a8;clear a8;clear T U z A
    by_cases V:I x y=true
    ·have hl:=hid (aEt (h:=d) C.S J.out (by omega) ((C.iff _ _ a9.out).1 (by rw[<-HX.out,<-HY.out];exact V)));rw[V];go_wp2;have O:=HG.out
     go_roundg (q-(d+1))
     case measure=>omega
     case rel=>exact⟨d+1,q,by omega,by omega,a3,rfl,by go_num,rfl,a6,hid (fun k M F=>hl.out k (by have:=L.out;omega) F),HH,a7⟩
    ·have hl:=hid (aEu (h:=d) C.S J.out (by omega) (by omega) (fun h=>V (by rw[HX.out,HY.out];exact(C.iff _ _ a9.out).2 h)));have b6:I x y=false:=by simpa using V
     rw[b6];go_wp2;have O:=HG.out
     go_roundg (d-p)
     case measure=>omega
     case rel=>exact⟨p,d,by omega,by omega,by omega,rfl,rfl,rfl,a6,HL,hl,a7⟩
  ·have a0:q=p:=by omega
   subst a0;have HM:=hid (aEp J.out b3 a3 (fun k M F=>HL.out k (by have:=L.out;omega) F) HH.out);clear HL HH;go_wp2
   go_loopg [13] (q-1-a) (fun gh k wr=>∃p:Nat,a<=p/\p<q/\gh=q-1-p/\k=.int .i64 p/\Dat wr g cap n (cA f a (a+1) (p+1))/\w.grownBy wr (some g))
   case atStart=>exact⟨a,aA _,by omega,rfl,rfl,by rw[aE3];exact z,A⟩
   case round=>
    clear z A;obtain⟨p,b7,d0,a1,rfl,z,A⟩:=hrel;have b8:=hid a1;clear a1
    by_cases d1:p+1<q
    ·have t1:decide ((p:Int)<(q:Int)-1)=true:=by simp;omega
     have T:=z.cell (k:=p) (by omega);have U:=z.cell (k:=p+1) (by omega);have f1:=z.free p;have f2:=z.free (p+1);have e:=aE4 f a p b7;obtain⟨x,G⟩:∃x,x=cA f a (a+1) (p+1) p:=⟨_,rfl⟩;obtain⟨y,H⟩:∃y,y=cA f a (a+1) (p+1) (p+1):=⟨_,rfl⟩;rw[<-G] at T e;rw[<-H] at U e;have E3:=hid e;clear G H e;have s3:p+1<n:=by omega
     have s4:p<n:=by omega
     have d2:p≠p+1:=by omega
     go_wp2
     go_region
     all_goals go_wp2
     have a1:=b8.out
     go_roundg (q-1-(p+1))
     case measure=>omega
     case rel=>
      refine⟨p+1,by omega,by omega,rfl,by go_num,?_,nC (dS (dS A (eM _ _ _ _)) (eM _ _ _ _))⟩;rw[E3.out];exact((z.set p y).set (p+1) x).drew
    ·have a0:p=q-1:=by omega
     have t1:decide ((p:Int)<(q:Int)-1)=false:=by simp;omega
     have e1:p+1=q:=by omega
     rw[e1] at z;clear a0 e1;go_wp2;refine gJ (qX rfl _ _ _) rfl ?_;exact⟨rfl,⟨_,HM.out,z⟩,A⟩
theorem aE6 (f:Nat->Int) (m:Nat):cA f m m (m+1)=f:=by
 funext k;unfold cA
 by_cases h:m<=k/\k<m+(m+1-m)
 ·rw[if_pos h];congr 1;omega
 ·rw[if_neg h,if_neg (by omega)]
theorem aE7 (f:Nat->Int) (q m:Nat) (h:q+1<=m):cA f q m (m+1)=gH (gH (cA f (q+1) m (m+1)) (q+1) (cA f (q+1) m (m+1) q)) q (cA f (q+1) m (m+1) (q+1)):=by
 have A:cA f (q+1) m (m+1) q=f q:=by unfold cA;rw[if_neg (by omega),if_neg (by omega)]
 have E:cA f (q+1) m (m+1) (q+1)=f m:=by
  unfold cA;rw[if_pos (by omega)];congr 1;omega
 rw[A,E]
 funext k
 unfold gH
 by_cases d:k=q
 ·rw[if_pos d];unfold cA;rw[if_pos (by omega)];congr 1;omega
 ·rw[if_neg d]
  by_cases z:k=q+1
  ·rw[if_pos z];unfold cA;rw[if_neg (by omega),if_pos (by omega)];congr 1;omega
  ·rw[if_neg z];unfold cA
   by_cases F:q+1<k/\k<=m
   ·rw[if_neg (by omega),if_pos (by omega),if_neg (by omega),if_pos (by omega)]
   ·rw[if_neg (by omega),if_neg (by omega),if_neg (by omega),if_neg (by omega)]
theorem aE8 (g cap n a m b bx:Nat) (hm:b=m+1) (U:a+1<m) (f:Nat->Int) (H:Int->Int->Bool) (lt:Int->Int->Prop) (w:World) (hd:Dat w g cap n f) (hn:n<=1000000) (_hcap:cap<=maxLen) (b6:b<=n)
  (hf:InR n f) (hp:lC lt f a m (m+1)) (V:pO w g n bx H) (C:Cmp lt H):
  Calls Tryz.prog 252 #[.slice (some ⟨g,0,none⟩) n cap,.int .i64 (a:Int),.int .i64 (m:Int),.int .i64 (b:Int),nE bx] w fun e w'=>
   e=.returned (.tuple #[])/\(∃h,kX lt f h a (m+1)/\Dat w' g cap n h)/\w.grownBy w' (some g):=by
 unfold maxLen at _hcap;unfold nE;have a7:=hid V;have I:=hid hp;clear V hp;have t0:((m:Int)-(a:Int)==1)=false:=by rw[beq_eq_false_iff_ne];omega
 have t1:((b:Int)-(m:Int)==1)=true:=by rw[beq_iff_eq];omega
 have b7:m<b:=by omega
 have b8:m<n:=by omega
 have b9:=hid hm;clear hm;go_enter Tryz.func252,Tryz.ntmps252;go_wp2
 go_loopg [14,15] (m-a) (fun Y i j wr=>∃p q:Nat,a<=p/\p<=q/\q<=m/\Y=q-p/\i=.int .i64 p/\j=.int .i64 q/\Dat wr g cap n f/\
   Hid (∀k,a<=k->k<p->lt (f k) (f m))/\Hid (∀k,q<=k->k<m->lt (f m) (f k))/\w.grownBy wr (some g))
 case atStart=>exact⟨a,m,aA _,by omega,aA _,rfl,rfl,rfl,hd,hid (fun k h1 U=>by omega),hid (fun k h1 U=>by omega),uI _ _⟩
 case round=>
  obtain⟨p,q,a8,c0,Z,J,rfl,rfl,z,HL,HH,A⟩:=hrel;have HG:=hid J;clear J
  by_cases c3:p<q
  ·obtain⟨d,a1⟩:∃d,d=(p+q)/2:=⟨_,rfl⟩;have h1:p<=d:=by omega
   have U:d<q:=by omega
   have L:=z.cell (k:=m) (by omega);have M:=z.cell (k:=d) (by omega);have b1:=hf m (by omega);have b2:=hf d (by omega);have E:=hid a1;have e0:((p:Int)+(q:Int))/2=((d:Nat):Int):=by omega
   clear a1;obtain⟨x,F⟩:∃x,x=f m:=⟨_,rfl⟩;obtain⟨y,G⟩:∃y,y=f d:=⟨_,rfl⟩;rw[<-F] at L b1;rw[<-G] at M b2;have HX:=hid F;have HY:=hid G;clear F G;have s1:d<n:=by omega
   have s2:m<n:=by omega
   go_wp2
   go_cut [103] (fun a9 wx=>a9=.bool (!H x y)/\Dat wx g cap n f/\w.grownBy wx (some g))
   case first=>
    go_still_tail 9,(by kernel_rfl)
    change wpList _ _ _ _ _ wr.drew;have b0:=z.drew;have a2:=nC A;generalize wr.drew=c4 at*
    go_wp2_with (go_at_call 219;refine(a7.out _ a2 x y b1.1 b1.2 b2.1 b2.2).mono ?_;rintro e w2 ⟨c,rfl,V,hb⟩);go_meet;exact⟨rfl,b0.grown (rJ (row:=none) hb) (by simp),dS a2 (rJ hb)⟩
   case rest=>
    obtain⟨rfl,a3,a4⟩:=hcut;have a5:f d<f m:=I.out.ne d m (by omega) (by omega) (by omega) (by omega);have a6:=hid a5;clear a5;clear L M z A
    by_cases O:H x y=true
    ·have hl:=hid (aEw (h:=d) C.S I.out (by omega) ((C.iff _ _ a6.out).1 (by rw[<-HX.out,<-HY.out];exact O)));rw[O];go_wp2;have J:=HG.out
     go_roundg (d-p)
     case measure=>omega
     case rel=>exact⟨p,d,by omega,by omega,by omega,rfl,rfl,rfl,a3,HL,hl,a4⟩
    ·have hl:=hid (aEv (h:=d) C.S I.out (by omega) (by omega) (fun h=>O (by rw[HX.out,HY.out];exact(C.iff _ _ a6.out).2 h)));have b3:H x y=false:=by simpa using O
     rw[b3];go_wp2;have J:=HG.out
     go_roundg (q-(d+1))
     case measure=>omega
     case rel=>exact⟨d+1,q,by omega,by omega,Z,rfl,by go_num,rfl,a3,hl,HH,a4⟩
  ·have T:q=p:=by omega
   subst T;have HM:=hid (aEq I.out a8 Z HL.out HH.out);clear HL HH;go_wp2
   go_loopg [17] (m-q) (fun Y k wr=>∃p:Nat,q<=p/\p<=m/\Y=p-q/\k=.int .i64 p/\Dat wr g cap n (cA f p m (m+1))/\w.grownBy wr (some g))
   case atStart=>exact⟨m,Z,aA _,rfl,rfl,by rw[aE6];exact z,A⟩
   case round=>
    clear z A;obtain⟨p,c5,c6,a0,rfl,z,A⟩:=hrel;have b4:=hid a0;clear a0
    by_cases b5:q<p
    ·have t1:decide (q<p)=true:=by simpa using b5
     have L:=z.cell (k:=p) (by omega);have M:=z.cell (k:=p-1) (by omega);have f1:=z.free p;have f2:=z.free (p-1);have e:=aE7 f (p-1) m (by omega);rw[show p-1+1=p by omega] at e;obtain⟨x,F⟩:∃x,x=cA f p m (m+1) p:=⟨_,rfl⟩;obtain⟨y,G⟩:∃y,y=cA f p m (m+1) (p-1):=⟨_,rfl⟩;rw[<-F] at L e;rw[<-G] at M e;have E3:=hid e;clear F G e;have s1:aI.wrap ((p:Int)-1)=(p:Int)-1:=tS _ (by omega);have s2:((p:Int)-1).toNat=p-1:=by omega
     have s3:(0:Int)<=(p:Int)-1:=by omega
     have s4:(p:Int)-1<(n:Int):=by omega
     have s5:p<n:=by omega
     have s6:(1:Int)<=(p:Int):=by omega
     have s7:1<=p:=by omega
     have s8:0<p:=by omega
     have s9:(p:Int)<=(n:Int):=by omega
     have c7:p<=n:=by omega
     have c8:p≠p-1:=by omega
     go_wp2
     go_region
     all_goals go_wp2
     have a0:=b4.out
     go_roundg (p-1-q)
     case measure=>omega
     case rel=>
      refine⟨p-1,by omega,by omega,rfl,congrArg _ (by omega),?_,nC (dS (dS A (eM _ _ _ _)) (eM _ _ _ _))⟩;rw[E3.out];exact((z.set p y).set (p-1) x).drew
    ·have T:p=q:=by omega
     have t1:decide (q<p)=false:=by simp;omega
     rw[T] at z;clear T;go_wp2;refine gJ (qX rfl _ _ _) rfl ?_;exact⟨rfl,⟨_,HM.out,z⟩,A⟩
theorem aE9 (f:Nat->Int) (s m t:Nat) (h:s=m\/m=t) (z:s<=m) (A:m<=t):cA f s m t=f:=by
 funext k;unfold cA
 rcases h with h|h
 ·subst h
  by_cases d:s<=k/\k<s+(t-s)
  ·rw[if_pos d];congr 1;omega
  ·rw[if_neg d,if_neg (by omega)]
 ·subst h;rw[if_neg (by omega)]
  by_cases d:s+(m-m)<=k/\k<m
  ·rw[if_pos d];congr 1;omega
  ·rw[if_neg d]
def QG (g cap n bx:Nat) (d:Int->Int->Bool) (lt:Int->Int->Prop) (N:Nat):Prop:=
 ∀(a m b:Nat) (f:Nat->Int) (w:World),b<=a+N->Dat w g cap n f->b<=n->InR n f->lC lt f a m b->pO w g n bx d->
  Calls Tryz.prog 252 #[.slice (some ⟨g,0,none⟩) n cap,.int .i64 (a:Int),.int .i64 (m:Int),.int .i64 (b:Int),nE bx] w fun e w'=>
   e=.returned (.tuple #[])/\(∃h,kX lt f h a b/\Dat w' g cap n h)/\w.grownBy w' (some g)
theorem aFa (g cap n a m b bx:Nat) (Y:a+1<m) (h2:m+1<b) (f:Nat->Int) (Z:Int->Int->Bool) (lt:Int->Int->Prop) (w:World) (hd:Dat w g cap n f) (hn:n<=1000000) (b3:cap<=maxLen) (c9:b<=n)
  (hf:InR n f) (hp:lC lt f a m b) (hc:pO w g n bx Z) (C:Cmp lt Z) (N:Nat) (hN:b<=a+(N+1)) (ih:QG g cap n bx Z lt N):
  Calls Tryz.prog 252 #[.slice (some ⟨g,0,none⟩) n cap,.int .i64 (a:Int),.int .i64 (m:Int),.int .i64 (b:Int),nE bx] w fun e w'=>
   e=.returned (.tuple #[])/\(∃h,kX lt f h a b/\Dat w' g cap n h)/\w.grownBy w' (some g):=by
 unfold maxLen at b3;unfold nE;have a6:=hid hc;have HP:=hid hp;have IH:=hid ih;clear hc hp ih;have t0:((m:Int)-(a:Int)==1)=false:=by rw[beq_eq_false_iff_ne];omega
 have t1:((b:Int)-(m:Int)==1)=false:=by rw[beq_eq_false_iff_ne];omega
 have f5:m<b:=by omega
 have f6:a<m:=by omega
 have f7:m<n:=by omega
 obtain⟨z,b4⟩:∃z,z=(a+b)/2:=⟨_,rfl⟩;have e0:((a:Int)+(b:Int))/2=((z:Nat):Int):=by omega
 have q1:a<z:=by omega
 have q2:z<b:=by omega
 have q3:b<=z+z+1-a:=by omega
 obtain⟨G,b5⟩:∃G,G=z+m:=⟨_,rfl⟩;obtain⟨pv,b6⟩:∃pv,pv=G-1:=⟨_,rfl⟩;have f8:(z:Int)+(m:Int)=((G:Nat):Int):=by omega
 have f9:(G:Int)-1=((pv:Nat):Int):=by omega
 have q9:G<=2*n:=by omega
 have g0:1<=G:=by omega
 have g1:pv<=2*n:=by omega
 have g2:m<=G:=by omega
 have M:=hid b5;have b7:=hid b6;have d0:=hid b4;clear b4 b5 b6;go_enter Tryz.func252,Tryz.ntmps252
 go_upto_if 140 with fail
 go_cut [20,21] (fun d3 d4 I=>∃lo hi:Nat,d3=.int .i64 lo/\d4=.int .i64 hi/\((z<m/\lo+b=z+m/\hi=z)\/(m<=z/\lo=a/\hi=m))/\w=I)
 case first=>as_aux_lemma=>
  by_cases hq:z<m
  ·have H:decide (z<m)=true:=by simpa using hq
   have g3:(G:Int)-(b:Int)=(((G-b:Nat):Nat):Int):=by have:=M.out;omega
   go_wp2_with fail;go_meet;exact⟨G-b,z,rfl,rfl,.inl ⟨hq,by have:=M.out;omega,rfl⟩,rfl⟩
  ·have H:decide (z<m)=false:=by simpa using hq
   go_wp2_with fail;go_meet;exact⟨a,m,rfl,rfl,.inr ⟨by omega,rfl,rfl⟩,rfl⟩
 case rest=>
  obtain⟨lo,hi,rfl,rfl,b8,rfl⟩:=hcut;have q4:lo<=hi:=by omega
  have q5:a<=lo:=by omega
  have q6:hi<=m:=by omega
  have q7:hi<=z:=by omega
  have q8:G<=b+lo:=by have:=M.out;omega
  have g4:hi+m<=G:=by have:=M.out;omega
  have d5:=hid b8;clear b8;go_wp2_with fail
  go_loopg [20,21] (hi-lo) (fun gh i j wr=>∃p q:Nat,lo<=p/\p<=q/\q<=hi/\gh=q-p/\i=.int .i64 p/\j=.int .i64 q/\Dat wr g cap n f/\
   Hid (∀k,lo<=k->k<p->lt (f k) (f (G-1-k)))/\Hid (∀k,q<=k->k<hi->lt (f (G-1-k)) (f k))/\w.grownBy wr (some g))
  case atStart=>exact⟨lo,hi,aA _,by omega,aA _,rfl,rfl,rfl,hd,hid (fun k Y h2=>by omega),hid (fun k Y h2=>by omega),uI _ _⟩
  case round=>
   obtain⟨p,q,d6,g5,b9,hg,rfl,rfl,V,HL,HH,a1⟩:=hrel;have HG:=hid hg;clear hg
   by_cases g6:p<q
   ·obtain⟨F,c0⟩:∃F,F=(p+q)/2:=⟨_,rfl⟩;have Y:p<=F:=by omega
    have h2:F<q:=by omega
    obtain⟨d,c3⟩:∃d,d=G-1-F:=⟨_,rfl⟩;have d1:m<=d:=by omega
    have d2:d<b:=by omega
    have c1:=V.cell (k:=d) (by omega);have c2:=V.cell (k:=F) (by omega);have b1:=hf d (by omega);have b2:=hf F (by omega);have E:=hid c0;have ED:=hid c3;have e0:((p:Int)+(q:Int))/2=((F:Nat):Int):=by omega
    have e1:(pv:Int)-(F:Int)=((d:Nat):Int):=by have:=b7.out;omega
    have g7:F<=pv:=by have:=b7.out;omega
    have e2:aI.wrap ((d:Nat):Int)=((d:Nat):Int):=tS _ (by omega);clear c0 c3;obtain⟨x,A⟩:∃x,x=f d:=⟨_,rfl⟩;obtain⟨y,hy⟩:∃y,y=f F:=⟨_,rfl⟩;rw[<-A] at c1 b1;rw[<-hy] at c2 b2;have HX:=hid A;have HY:=hid hy;clear A hy;have s1:F<n:=by omega
    have s2:d<n:=by omega
    go_wp2_with fail
    go_cut [171] (fun d7 I=>d7=.bool (!Z x y)/\Dat I g cap n f/\w.grownBy I (some g))
    case first=>as_aux_lemma=>
     go_still_tail 11,(by kernel_rfl)
     change wpList _ _ _ _ _ wr.drew;have d8:=V.drew;have c4:=nC a1;generalize wr.drew=g8 at*
     go_wp2_with (go_at_call 219;refine(a6.out _ c4 x y b1.1 b1.2 b2.1 b2.2).mono ?_;rintro e w2 ⟨c,rfl,hc,hb⟩);go_meet;exact⟨rfl,d8.grown (rJ (row:=none) hb) (by simp),dS c4 (rJ hb)⟩
    case rest=>
     obtain⟨rfl,L,J⟩:=hcut;have c5:f F<f d:=HP.out.ne F d (by omega) (by omega) (by omega) (by omega);have c6:=hid c5;clear c5;clear c1 c2 V a1
     by_cases a3:Z x y=true
     ·have O:=(C.iff _ _ c6.out).1 (by rw[<-HX.out,<-HY.out];exact a3);rw[ED.out] at O;have hl:=hid (aEy (c:=F) (hi:=hi) (n:=G) C.S HP.out (by omega) (by omega) (by omega) q6 (fun k O=>by omega) O);clear O;rw[a3];go_wp2_with fail;have hg:=HG.out
      go_roundg (F-p)
      case measure=>omega
      case rel=>exact⟨p,F,by omega,by omega,by omega,rfl,rfl,rfl,L,HL,hl,J⟩
     ·have O:¬lt (f d) (f F):=(fun h=>a3 (by rw[HX.out,HY.out];exact(C.iff _ _ c6.out).2 h));rw[ED.out] at O;have hl:=hid (aEx (c:=F) (lo:=lo) (n:=G) C.S HP.out q5 (by omega) (by omega) (by omega) (by omega) (by omega) O);clear O;have d9:Z x y=false:=by simpa using a3
      rw[d9];go_wp2_with fail;have hg:=HG.out
      go_roundg (q-(F+1))
      case measure=>omega
      case rel=>exact⟨F+1,q,by omega,by omega,b9,rfl,by go_num,rfl,L,hl,HH,J⟩
   ·have e4:q=p:=by omega
    subst e4;obtain⟨r1,r2,r3,r4,r5,r6⟩:=aEr C.S HP.out d0.out d5.out d6 b9 (by rw[<-M.out];exact HL.out) (by rw[<-M.out];exact HH.out);have r7:q<=z:=by omega
    have R:=aEs HP.out r1 r2 r7 r4 r5 r6;obtain⟨t,a7⟩:∃t,t=z+m-q:=⟨_,rfl⟩;rw[<-a7] at R r3 r4;clear r5 r6;have e2:(G:Int)-(q:Int)=((t:Nat):Int):=by have:=M.out;omega
    have e3:aI.wrap ((t:Nat):Int)=((t:Nat):Int):=tS _ (by omega);have r9:q<=G:=by have:=M.out;omega
    have r8:z<=t:=by omega
    have HT:=hid a7;clear a7;obtain⟨h,F⟩:∃h,h=cA f q m t:=⟨_,rfl⟩;rw[<-F] at R;obtain⟨R1,R2,R3,R4,R5,R6,R7,R8⟩:=R;have K1:=hid R1;have K2:=hid R2;have K3:=hid R3;have K4:=hid R4;have K5:=hid R5;have K6:=hid R6;have K7:=hid R7;have K8:=hid R8;have EH:=hid F;clear R1 R2 R3 R4 R5 R6 R7 R8 F HL HH;have c7:InR n h:=hf.from c9 K1.out;go_upto_region 39 with fail
    go_cut [185] (fun e5 I=>e5=.bool (decide (q<m)&&decide (m<t))/\wr=I)
    case first=>as_aux_lemma=>
     by_cases A:q<m
     ·have H:decide (q<m)=true:=by simpa using A
      go_wp2_with fail;go_meet;exact⟨by simp[A],rfl⟩
     ·have H:decide (q<m)=false:=by simpa using A
      go_wp2_with fail;go_meet;exact⟨by simp[A],rfl⟩
    case rest=>
    obtain⟨rfl,rfl⟩:=hcut
    go_upto_if 185 with fail
    go_cut [] (fun I=>Dat I g cap n h/\w.grownBy I (some g))
    case first=>as_aux_lemma=>
     by_cases A:q<m/\m<t
     ·have H:(decide (q<m)&&decide (m<t))=true:=by simpa using A
      have T:=A.1;have a4:=A.2;clear A;rw[H];go_wp2_with fail;refine(aE0 g cap n _ _ _ f _ _ V hn b3 (by omega) (by omega) (by omega)).mono ?_;rintro e w1 ⟨rfl,L,J⟩;go_wp2;go_meet;exact⟨by rw[EH.out];exact L,dS a1 J⟩
     ·have e6:Dat wr g cap n h:=by rw[EH.out,aE9 f q m t (by omega) (by omega) (by omega)];exact V
      have H:(decide (q<m)&&decide (m<t))=false:=by simpa using A
      clear A;rw[H];go_wp2_with fail;go_meet;exact⟨e6,a1⟩
    case rest=>
    obtain⟨L,J⟩:=hcut;clear V a1;clear hf;obtain⟨wa,a8⟩:∃wa:World,wa=wc:=⟨_,rfl⟩;rw[<-a8] at L J;rw[<-a8];clear a8;go_upto_region 41 with fail
    go_cut [199] (fun e7 I=>e7=.bool (decide (a<q)&&decide (q<z))/\wa=I)
    case first=>as_aux_lemma=>
     by_cases A:a<q
     ·have H:decide (a<q)=true:=by simpa using A
      go_wp2_with fail;go_meet;exact⟨by simp[A],rfl⟩
     ·have H:decide (a<q)=false:=by simpa using A
      go_wp2_with fail;go_meet;exact⟨by simp[A],rfl⟩
    case rest=>
    obtain⟨rfl,rfl⟩:=hcut
    go_upto_if 199 with fail
    go_cut [] (fun I=>(∃Y,kX lt h Y a z/\Dat I g cap n Y)/\w.grownBy I (some g))
    case first=>as_aux_lemma=>
     by_cases A:a<q/\q<z
     ·have H:(decide (a<q)&&decide (q<z))=true:=by simpa using A
      have T:=A.1;have a4:=A.2;clear A;rw[H];go_wp2_with fail;refine(IH.out a q z h _ (by omega) L (by omega) c7 ⟨T,a4,K2.out,K3.out,K6.out⟩ (a6.out.later J)).mono ?_;rintro e w1 ⟨rfl,a2,a0⟩;go_wp2;go_meet;exact⟨a2,dS J a0⟩
     ·have H:(decide (a<q)&&decide (q<z))=false:=by simpa using A
      have c8:kX lt h h a z:=⟨iU.refl _ _ _,by
       rcases bT a q with T|T
       ·have:z=q:=by omega
        rw[this];exact K2.out
       ·have:a=q:=by omega
        rw[this];exact K3.out⟩
      have e8:=hid c8;clear A c8;rw[H];go_wp2_with fail;go_meet;exact⟨⟨h,e8.out,L⟩,J⟩
    case rest=>
    obtain⟨⟨f2,a9,a2⟩,a0⟩:=hcut;have U:=hid a9;have e9:InR n f2:=c7.from (by omega) a9.frm;obtain⟨wb,b0⟩:∃wb:World,wb=wc:=⟨_,rfl⟩;rw[<-b0] at a2 a0;rw[<-b0];clear b0 a9 L J;go_upto_region 43 with fail
    go_cut [213] (fun f0 I=>f0=.bool (decide (z<t)&&decide (t<b))/\wb=I)
    case first=>as_aux_lemma=>
     by_cases A:z<t
     ·have H:decide (z<t)=true:=by simpa using A
      go_wp2_with fail;go_meet;exact⟨by simp[A],rfl⟩
     ·have H:decide (z<t)=false:=by simpa using A
      go_wp2_with fail;go_meet;exact⟨by simp[A],rfl⟩
    case rest=>
    obtain⟨rfl,rfl⟩:=hcut
    by_cases A:z<t/\t<b
    ·have H:(decide (z<t)&&decide (t<b))=true:=by simpa using A
     have T:=A.1;have a4:=A.2;clear A;rw[H];go_wp2_with fail;refine(IH.out z t b f2 _ (by omega) a2 (by omega) e9 ⟨T,a4,K4.out.congr (fun k k1 k2=>U.out.frm.2 k (by omega)),K5.out.congr (fun k k1 k2=>U.out.frm.2 k (by omega)),
      fun i j i1 i2 j1 j2=>by rw[U.out.frm.2 i (by omega),U.out.frm.2 j (by omega)];exact K7.out i j i1 i2 j1 j2⟩ (a6.out.later a0)).mono ?_
     rintro e w1 ⟨rfl,⟨f3,a5,f1⟩,f4⟩;go_wp2
     go_end0
     exact⟨rfl,⟨f3,PZ K1.out (by omega) (by omega) U.out a5 K8.out,f1⟩,dS a0 f4⟩
    ·have H:(decide (z<t)&&decide (t<b))=false:=by simpa using A
     have a5:kX lt f2 f2 z b:=⟨iU.refl _ _ _,by
      rcases bT z t with T|T
      ·have:b=t:=by omega
       rw[this];exact K4.out.congr (fun k k1 k2=>U.out.frm.2 k (by omega))
      ·have:z=t:=by omega
       rw[this];exact K5.out.congr (fun k k1 k2=>U.out.frm.2 k (by omega))⟩
     have M3:=hid a5;clear A a5;rw[H];go_wp2_with fail
     go_end0
     exact⟨rfl,⟨f2,PZ K1.out (by omega) (by omega) U.out M3.out K8.out,a2⟩,a0⟩
theorem QH (g cap n bx:Nat) (z:Int->Int->Bool) (lt:Int->Int->Prop) (H:n<=1000000) (I:cap<=maxLen) (C:Cmp lt z):∀N,QG g cap n bx z lt N:=by
 intro N
 induction N with
 |zero=>intro a m b f w M A E F d G;have:=d.am;have:=d.mb;omega
 |succ N O=>
  intro a m b f w M A E F d G;have T:=d.am;have U:=d.mb
  by_cases L:m=a+1
  ·exact aE5 g cap n a m b bx L f z lt w A H I E F (by rw[<-L];exact d) G C
  ·by_cases J:b=m+1
   ·have:=aE8 g cap n a m b bx J (by omega) f z lt w A H I E F (by rw[<-J];exact d) G C;rw[<-J] at this;exact this
   ·exact aFa g cap n a m b bx (by omega) (by omega) f z lt w A H I E F d G C N (by omega) O
structure lS (lt:Int->Int->Prop) (f g:Nat->Int) (a b:Nat):Prop where
 frm:∀k,a<=k->k<b->∃k',a<=k'/\k'<b/\g k=f k'
 srt:gM lt g a b
theorem lS.congr {lt:Int->Int->Prop} {f g h:Nat->Int} {a b:Nat} (p:lS lt f g a b) (e:∀k,a<=k->k<b->h k=g k):lS lt f h a b:=
 ⟨fun k d z=>by rw[e k d z];exact p.frm k d z,p.srt.congr e⟩
theorem lS.empty {lt:Int->Int->Prop} {f g:Nat->Int} {a b:Nat} (h:b<=a):lS lt f g a b:=
 ⟨fun k d z=>by omega,gM.tiny _ _ _ (by omega)⟩
theorem yJ {d a z:Nat} (h:d ∣ a) (E:d ∣ z) (G:z<a+d):z<=a:=by
 rcases bT a z with A|A
 ·have F:d ∣ z-a:=Nat.dvd_sub E h;have H:z-a=0:=Nat.eq_zero_of_dvd_of_lt F (by omega);omega
 ·exact A
def lD (lt:Int->Int->Prop) (f g:Nat->Int) (d lo hi n:Nat):Prop:=∀a,d ∣ a->lo<=a->a<hi->lS lt f g a (min (a+d) n)
theorem QI {lt:Int->Int->Prop} {f g h:Nat->Int} {a b:Nat} (d:kX lt g h a b) (A:∀k,a<=k->g k=f k):lS lt f h a b:=
 ⟨fun k E F=>by obtain⟨z,p,q,r⟩:=d.frm.1 k E F;exact⟨z,p,q,by rw[r,A z p]⟩,d.srt⟩
theorem QJ {lt:Int->Int->Prop} {f g:Nat->Int} {a m b n:Nat} (A:vV f 0 n) (U:b<=n) (E:a<m) (F:m<b) (d:lS lt f g a m) (z:lS lt f g m b):lC lt g a m b:=
 ⟨E,F,d.srt,z.srt,fun i j G H I J=>by
  obtain⟨L,V,Y,M⟩:=d.frm i G H;obtain⟨O,Z,r2,T⟩:=z.frm j I J;rw[M,T];exact A L O (by omega) (by omega) (by omega)⟩
theorem QK {lt:Int->Int->Prop} {f g h:Nat->Int} {a m b:Nat} (U:a<=m) (V:m<=b) (I:lS lt f g a m) (J:lS lt f g m b) (E:kX lt g h a b):lS lt f h a b:=
 ⟨fun k L M=>by
  obtain⟨d,O,T,F⟩:=E.frm.1 k L M;rcases bT d m with z|z
  ·obtain⟨q,G,H,A⟩:=I.frm d O z;exact⟨q,G,by omega,by rw[F,A]⟩
  ·obtain⟨q,G,H,A⟩:=J.frm d z T;exact⟨q,by omega,H,by rw[F,A]⟩,E.srt⟩
theorem rK {d p:Nat} (h:2*d ∣ p):d ∣ p:=Nat.dvd_trans (Nat.dvd_mul_left d 2) h
theorem aFb {lt:Int->Int->Prop} {f h:Nat->Int} {d p n:Nat} (G:vV f 0 n) (I:0<d) (z:2*d ∣ p) (H:p+2*d<=n) (A:lD lt f h d p n n):lC lt h p (p+d) (p+2*d):=by
 have E:=A p (rK z) (aA _) (by omega);have F:=A (p+d) (GC (rK z) (GD _)) (by omega) (by omega);rw[show min (p+d) n=p+d by omega] at E;rw[show min (p+d+d) n=p+2*d by omega] at F;exact QJ G H (by omega) (by omega) E F
theorem aFc {lt:Int->Int->Prop} {f h:Nat->Int} {d p n:Nat} (G:vV f 0 n) (H:0<d) (z:2*d ∣ p) (I:p+d<n) (J:n<p+2*d) (A:lD lt f h d p n n):lC lt h p (p+d) n:=by
 have E:=A p (rK z) (aA _) (by omega);have F:=A (p+d) (GC (rK z) (GD _)) (by omega) (by omega);rw[show min (p+d) n=p+d by omega] at E;rw[show min (p+d+d) n=n by omega] at F;exact QJ G (aA _) (by omega) (by omega) E F
theorem aFd {lt:Int->Int->Prop} {f h E:Nat->Int} {d p n:Nat} (V:0<d) (A:2*d ∣ p) (M:p+2*d<=n) (O:lD lt f h (2*d) 0 p n) (F:lD lt f h d p n n) (G:kX lt h E p (p+2*d)):
  lD lt f E (2*d) 0 (p+2*d) n/\lD lt f E d (p+2*d) n n:=by
 have I:=F p (rK A) (aA _) (by omega);have J:=F (p+d) (GC (rK A) (GD _)) (by omega) (by omega);rw[show min (p+d) n=p+d by omega] at I;rw[show min (p+d+d) n=p+2*d by omega] at J;refine⟨fun a z _ H=>?_,fun a z Y H=>?_⟩
 ·rcases bT a p with L|L
  ·refine(O a z (aU _) L).congr (fun k T U=>G.frm.2 k ?_);have:a+2*d<=p:=by
    rcases bT p (a+2*d) with q|q
    ·have:=yJ z A q;omega
    ·exact q
   omega
  ·have:a=p:=by have:=yJ A z H;omega
   subst this;rw[gU M];exact QK (by omega) (by omega) I J G
 ·exact(F a z (by omega) H).congr (fun k T U=>G.frm.2 k (by omega))
theorem aFe {lt:Int->Int->Prop} {f h E:Nat->Int} {d p n:Nat} (M:0<d) (z:2*d ∣ p) (O:p+d<n) (T:n<p+2*d) (L:lD lt f h (2*d) 0 p n) (F:lD lt f h d p n n) (G:kX lt h E p n):
  lD lt f E (2*d) 0 n n:=by
 have H:=F p (rK z) (aA _) (by omega);have I:=F (p+d) (GC (rK z) (GD _)) (by omega) (by omega);rw[show min (p+d) n=p+d by omega] at H;rw[show min (p+d+d) n=n by omega] at I;intro a A _ U;rcases bT a p with J|J
 ·refine(L a A (aU _) J).congr (fun k V Y=>G.frm.2 k ?_);have:a+2*d<=p:=by
   rcases bT p (a+2*d) with q|q
   ·have:=yJ A z q;omega
   ·exact q
  omega
 ·have:a=p:=by have:=yJ z A (by omega);omega
  subst this;rw[aB9 (by omega)];exact QK (by omega) (by omega) H I G
theorem aFf {lt:Int->Int->Prop} {f h:Nat->Int} {d p n:Nat} (J:0<d) (z:2*d ∣ p) (L:n<=p+d) (F:lD lt f h (2*d) 0 p n) (G:lD lt f h d p n n):lD lt f h (2*d) 0 n n:=by
 intro a A _ H;rcases bT a p with E|E
 ·exact F a A (aU _) E
 ·have:a=p:=by have:=yJ z A (by omega);omega
  subst this;have I:=G a (rK z) (aA _) H;rw[show min (a+d) n=n by omega] at I;rwa[show min (a+2*d) n=n by omega]
theorem aFg (g cap n bx:Nat) (f:Nat->Int) (Y:Int->Int->Bool) (lt:Int->Int->Prop) (w:World) (hd:Dat w g cap n f) (hn:n<=1000000) (a6:cap<=maxLen)
  (hf:InR n f) (hr:vV f 0 n) (hc:pO w g n bx Y) (C:Cmp lt Y):
  Calls Tryz.prog 241 #[.slice (some ⟨g,0,none⟩) n cap,.int .i64 (n:Int),nE bx] w fun e w'=>
   e=.returned (.tuple #[])/\(∃h,lS lt f h 0 n/\Dat w' g cap n h)/\w.grownBy w' (some g):=by
 have a7:=a6;unfold maxLen at a6;unfold nE;have a0:=hid a7;have a2:=hid hc;have HR:=hid hr;have HF:=hid hf;clear hc hr a7 hf;go_enter Tryz.func241,Tryz.ntmps241;go_wp2
 go_loopg [7,8] n (fun Z i j wr=>∃(p:Nat) (h:Nat->Int),p<=n/\Z=n-p/\i=.int .i64 p/\j=.int .i64 ((p+20:Nat):Int)/\Dat wr g cap n h/\
   Hid (20 ∣ p/\lD lt f h 20 0 p n/\(∀k,p<=k->h k=f k)/\InR n h)/\w.grownBy wr (some g))
 case atStart=>exact⟨0,f,aU _,rfl,rfl,rfl,hd,hid ⟨Nat.dvd_zero _,fun a h1 I h3=>by omega,fun k _=>rfl,HF.out⟩,uI _ _⟩
 case round=>
  obtain⟨p,h,hp,G,rfl,rfl,H,z,A⟩:=hrel;have HG:=hid G;clear G
  by_cases E:p+20<=n
  ·have t1:decide (((p+20:Nat):Int)<=(n:Int))=true:=by simp;omega
   have t2:decide (p+20<=n)=true:=by simpa using E
   go_wp2_with fail;refine(QF g cap n p (p+20) bx h Y lt _ H hn a0.out (by omega) E z.out.2.2.2 (fun i j i1 i2 i3=>by rw[z.out.2.2.1 i i1,z.out.2.2.1 j (by omega)];exact HR.out i j (by omega) i2 (by omega)) (a2.out.later A) C).mono ?_;rintro e w1 ⟨rfl,⟨I,F,O⟩,T⟩;have J:=hid F;clear F;go_wp2;have G:=HG.out
   go_roundg (n-(p+20))
   case measure=>omega
   case rel=>
    obtain⟨U,M,L,V⟩:=z.out;refine⟨p+20,I,E,rfl,by go_num,by go_num,O,hid ⟨by omega,fun a a1 _ a3=>?_,fun k hk=>?_,V.from E J.out.frm⟩,dS A T⟩
    ·rcases bT a p with ha|ha
     ·exact(M a a1 (aU _) ha).congr (fun k q1 q2=>J.out.frm.2 k (by omega))
     ·have:a=p:=by omega
      subst this;rw[gU E];exact QI J.out L
    ·rw[J.out.frm.2 k (by omega)];exact L k (by omega)
  ·have t1:decide (((p+20:Nat):Int)<=(n:Int))=false:=by simp;omega
   have t2:decide (p+20<=n)=false:=by simpa using E
   go_wp2_with fail;refine(QF g cap n p n bx h Y lt _ H hn a0.out (by omega) (aA _) z.out.2.2.2 (fun i j i1 i2 i3=>by rw[z.out.2.2.1 i i1,z.out.2.2.1 j (by omega)];exact HR.out i j (by omega) i2 (by omega)) (a2.out.later A) C).mono ?_;rintro e w1 ⟨rfl,⟨I,F,O⟩,T⟩;have hb:lD lt f I 20 0 n n:=by
    obtain⟨U,M,L,V⟩:=z.out;intro a a1 _ a3;rcases bT a p with ha|ha
    ·exact(M a a1 (aU _) ha).congr (fun k q1 q2=>F.frm.2 k (by omega))
    ·have:a=p:=by omega
     subst this;rw[aB9 (by omega)];exact QI F L
   have HB:=hid hb;have a8:InR n I:=z.out.2.2.2.from (aA _) F.frm;have b2:=hid a8;have a9:=dS A T;clear hb F z H A a8 T;go_wp2_with fail
   go_loopg [6,7,8,9] (n-20) (fun Z s6 s7 s8 s9 wr=>∃(d:Nat) (h:Nat->Int),20<=d/\d<=2*n+20/\Z=n-d/\s6=.int .i64 d/\Dat wr g cap n h/\Hid (lD lt f h d 0 n n/\InR n h)/\w.grownBy wr (some g))
   case atStart=>exact⟨20,I,aA _,by omega,rfl,rfl,O,hid ⟨HB.out,b2.out⟩,a9⟩
   case round=>
    obtain⟨d,h,hq1,hq2,G,rfl,H,z,A⟩:=hrel;have b0:=hid G;clear G O a9
    by_cases b1:d<n
    ·have t3:decide (d<n)=true:=by simpa using b1
     obtain⟨wo,rfl⟩:∃wo:World,wo=wr:=⟨_,rfl⟩;go_wp2_with fail
     go_loopg [7,8] n (fun Z s7 s8 wr=>∃(p:Nat) (h:Nat->Int),p<=n/\Z=n-p/\s7=.int .i64 p/\s8=.int .i64 ((p+2*d:Nat):Int)/\Dat wr g cap n h/\
       Hid (2*d ∣ p/\lD lt f h (2*d) 0 p n/\lD lt f h d p n n/\InR n h)/\w.grownBy wr (some g))
     case atStart=>exact⟨0,h,aU _,rfl,rfl,by go_num,H,hid ⟨Nat.dvd_zero _,fun a _ _ h3=>by omega,z.out.1,z.out.2⟩,A⟩
     case round=>
      clear H z A;obtain⟨p,h,hp,G,rfl,rfl,H,z,A⟩:=hrel;have b3:=hid G;clear G
      by_cases E:p+2*d<=n
      ·have t1:decide (((p+2*d:Nat):Int)<=(n:Int))=true:=by simp;omega
       have t2:decide (p+2*d<=n)=true:=by simpa using E
       have a5:=hid (aFb HR.out (by omega) z.out.1 E z.out.2.2.1);go_wp2_with fail;refine(QH g cap n bx Y lt hn a0.out C n p (p+d) (p+2*d) h _ (by omega) H E z.out.2.2.2 a5.out (a2.out.later A)).mono ?_;rintro e w1 ⟨rfl,⟨I,F,O⟩,T⟩;have J:=hid F;clear F;go_wp2_with fail;have G:=b3.out
       go_roundg (n-(p+2*d))
       case measure=>omega
       case rel=>
        obtain⟨U,M,L,V⟩:=z.out;obtain⟨m1,m2⟩:=aFd (by omega) U E M L J.out;exact⟨p+2*d,I,E,rfl,by go_num,by go_num,O,hid ⟨GC U (GD _),m1,m2,V.from E J.out.frm⟩,dS A T⟩
      ·have t1:decide (((p+2*d:Nat):Int)<=(n:Int))=false:=by simp;omega
       have t2:decide (p+2*d<=n)=false:=by simpa using E
       by_cases a4:p+d<n
       ·have t4:decide (p+d<n)=true:=by simpa using a4
        have a5:=hid (aFc HR.out (by omega) z.out.1 a4 (by omega) z.out.2.2.1);go_wp2_with fail;refine(QH g cap n bx Y lt hn a0.out C n p (p+d) n h _ (by omega) H (aA _) z.out.2.2.2 a5.out (a2.out.later A)).mono ?_;rintro e w1 ⟨rfl,⟨I,F,O⟩,T⟩;have J:=hid F;clear F;go_wp2_with fail;have G:=b0.out
        go_roundg (n-2*d)
        case measure=>omega
        case rel=>
         obtain⟨U,M,L,V⟩:=z.out;exact⟨2*d,I,by omega,by omega,rfl,by go_num,O,hid ⟨aFe (by omega) U a4 (by omega) M L J.out,V.from (aA _) J.out.frm⟩,dS A T⟩
       ·have t4:decide (p+d<n)=false:=by simpa using a4
        go_wp2_with fail;have G:=b0.out
        go_roundg (n-2*d)
        case measure=>omega
        case rel=>
         obtain⟨U,M,L,V⟩:=z.out;exact⟨2*d,h,by omega,by omega,rfl,by go_num,H,hid ⟨aFf (by omega) U (by omega) M L,V⟩,A⟩
    ·have t3:decide (d<n)=false:=by simpa using b1
     have hb:lS lt f h 0 n:=by
      rcases Nat.eq_zero_or_pos n with h0|h0
      ·exact lS.empty (by omega)
      ·have:=z.out.1 0 (Nat.dvd_zero _) (aU _) h0;rwa[show min (0+d) n=n by omega] at this
     have HB:=hid hb;clear hb;go_wp2_with fail
     go_end0
     exact⟨rfl,⟨h,HB.out,H⟩,A⟩
theorem aFh (g cap n bx:Nat) (f:Nat->Int) (d:Int->Int->Bool) (lt:Int->Int->Prop) (w:World) (H:Dat w g cap n f) (I:n<=1000000) (A:cap<=maxLen)
  (E:InR n f) (F:vV f 0 n) (G:pO w g n bx d) (C:Cmp lt d):
  Calls Tryz.prog 218 #[.slice (some ⟨g,0,none⟩) n cap,nE bx] w fun e w'=>
   e=.returned (.tuple #[])/\(∃h,lS lt f h 0 n/\Dat w' g cap n h)/\w.grownBy w' (some g):=by
 have z:=aFg g cap n bx f d lt w H I A E F G C;unfold maxLen at A;unfold nE at z ⊢;have J:=hid z;clear z G F E;go_enter Tryz.func218,Tryz.ntmps218;go_wp2_with fail;refine J.out.mono ?_;rintro e O ⟨rfl,L,M⟩;go_wp2
 go_end0
 exact⟨rfl,L,M⟩
end
end Go.Proofs.YtiifmcicleljjaaGreatDoor
