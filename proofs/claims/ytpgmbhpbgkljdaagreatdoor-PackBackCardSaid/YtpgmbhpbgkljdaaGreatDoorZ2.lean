/-
  Texts put together (part 2): the walks and the plain laws on which the statement stands.
-/
import Derived.Below
import Derived.StillTailTactics
import Derived.Test.YtpgmbhpbgkljdaaGreatDoorZ1
set_option maxRecDepth 100000
set_option maxHeartbeats 12800000
open Go renaming bodyPost_ret->gJ,results_none->qX
open Go.IntKind renaming i64->aI
open Go.IntWalk renaming i64_in->tS
open Nat renaming le_refl->aA,lt_or_ge->bT,lt_trichotomy->pW,min_eq_left->gU
open Option.some renaming inj->bW
namespace Go.Proofs.YtpgmbhpbgkljdaaGreatDoor
section
def gH (f:Nat->Int) (i:Nat) (x:Int):Nat->Int:=fun k=>if k=i then x else f k
def gC (f:Nat->Int) (a b t:Nat):Nat->Int:=fun k=>if a<=k/\k<a+t then f (k-a+b) else if b<=k/\k<b+t then f (k-b+a) else f k
def cA (f:Nat->Int) (a m b:Nat):Nat->Int:=fun k=>if a<=k/\k<a+(b-m) then f (k+(m-a)) else if a+(b-m)<=k/\k<b then f (k-(b-m)) else f k
theorem aEk (f:Nat->Int) (a b:Nat):gC f a b 0=f:=by
 funext k;unfold gC;rw[if_neg (by omega),if_neg (by omega)]
theorem aEl (f:Nat->Int) (a b t:Nat) (h:a+t<b):gC f a b (t+1)=gH (gH (gC f a b t) (a+t) (gC f a b t (b+t))) (b+t) (gC f a b t (a+t)):=by
 have e1:gC f a b t (b+t)=f (b+t):=by unfold gC;rw[if_neg (by omega),if_neg (by omega)]
 have e2:gC f a b t (a+t)=f (a+t):=by unfold gC;rw[if_neg (by omega),if_neg (by omega)]
 rw[e1,e2]
 funext k
 unfold gH
 by_cases h1:k=b+t
 ·subst h1;rw[if_pos rfl];unfold gC;rw[if_neg (by omega),if_pos (by omega)];congr 1;omega
 ·rw[if_neg h1]
  by_cases h2:k=a+t
  ·subst h2;rw[if_pos rfl];unfold gC;rw[if_pos (by omega)];congr 1;omega
  ·rw[if_neg h2];unfold gC
   by_cases h3:a<=k/\k<a+t
   ·rw[if_pos h3,if_pos (by omega)]
   ·rw[if_neg h3,if_neg (by omega)]
    by_cases h4:b<=k/\k<b+t
    ·rw[if_pos h4,if_pos (by omega)]
    ·rw[if_neg h4,if_neg (by omega)]
theorem aEm (f:Nat->Int) (m i:Nat) (h:i<=m):cA f (m-i) m (m+i)=gC f (m-i) m i:=by
 funext k
 unfold cA gC;rw[show m+i-m=i by omega,show m-(m-i)=i by omega]
 by_cases h1:m-i<=k/\k<m-i+i
 ·rw[if_pos h1,if_pos h1];congr 1;omega
 ·rw[if_neg h1,if_neg h1]
  by_cases h2:m<=k/\k<m+i
  ·rw[if_pos (by omega),if_pos h2];congr 1;omega
  ·rw[if_neg (by omega),if_neg h2]
theorem aEn (f:Nat->Int) (m i j:Nat) (h:i<=m) (hij:j<i) (_hj:0<j):cA f (m-i) m (m+j)=cA (gC f (m-i) m j) (m-(i-j)) m (m+j):=by
 funext k
 unfold cA;rw[show m+j-m=j by omega,show m-(m-i)=i by omega,show m-(m-(i-j))=i-j by omega]
 by_cases h1:m-i<=k/\k<m-i+j
 ·rw[if_pos h1,if_neg (by omega),if_neg (by omega)];unfold gC;rw[if_pos h1];congr 1;omega
 ·rw[if_neg h1]
  by_cases h2:m-i+j<=k/\k<m+j
  ·rw[if_pos h2]
   by_cases h3:m-(i-j)<=k/\k<m-(i-j)+j
   ·rw[if_pos h3];unfold gC;rw[if_neg (by omega),if_pos (by omega)];congr 1;omega
   ·rw[if_neg h3,if_pos (by omega)];unfold gC;rw[if_neg (by omega),if_neg (by omega)]
  ·rw[if_neg h2,if_neg (by omega),if_neg (by omega)];unfold gC;rw[if_neg (by omega),if_neg (by omega)]
theorem aEo (f:Nat->Int) (m i j:Nat) (h:i<=m) (hij:i<j) (_hi:0<i):cA f (m-i) m (m+j)=cA (gC f (m-i) (m+j-i) i) (m-i) m (m+(j-i)):=by
 funext k
 unfold cA;rw[show m+j-m=j by omega,show m-(m-i)=i by omega,show m+(j-i)-m=j-i by omega]
 by_cases h1:m-i<=k/\k<m-i+j
 ·rw[if_pos h1]
  by_cases h3:m-i<=k/\k<m-i+(j-i)
  ·rw[if_pos h3];unfold gC;rw[if_neg (by omega),if_neg (by omega)]
  ·rw[if_neg h3,if_pos (by omega)];unfold gC;rw[if_pos (by omega)];congr 1;omega
 ·rw[if_neg h1]
  by_cases h2:m-i+j<=k/\k<m+j
  ·rw[if_pos h2,if_neg (by omega),if_neg (by omega)];unfold gC;rw[if_neg (by omega),if_pos (by omega)];congr 1;omega
  ·rw[if_neg h2,if_neg (by omega),if_neg (by omega)];unfold gC;rw[if_neg (by omega),if_neg (by omega)]
def iU (a b:Nat) (f g:Nat->Int):Prop:=(∀k,a<=k->k<b->∃k',a<=k'/\k'<b/\g k=f k')/\(∀k,¬(a<=k/\k<b)->g k=f k)
theorem iU.refl (a b:Nat) (f:Nat->Int):iU a b f f:=⟨fun k h1 h2=>⟨k,h1,h2,rfl⟩,fun _ _=>rfl⟩
theorem iU.trans {a b:Nat} {f g h:Nat->Int} (p:iU a b f g) (q:iU a b g h):iU a b f h:=
 ⟨fun k h1 h2=>by
  obtain⟨k',h3,h4,h5⟩:=q.1 k h1 h2;obtain⟨k'',h6,h7,h8⟩:=p.1 k' h3 h4;exact⟨k'',h6,h7,by rw[h5,h8]⟩,fun k hk=>by rw[q.2 k hk,p.2 k hk]⟩
theorem iU.wide {a b a' b':Nat} {f g:Nat->Int} (p:iU a b f g) (ha:a'<=a) (hb:b<=b'):iU a' b' f g:=
 ⟨fun k h1 h2=>by
  by_cases h:a<=k/\k<b
  ·obtain⟨k',h3,h4,h5⟩:=p.1 k h.1 h.2;exact⟨k',by omega,by omega,h5⟩
  ·exact⟨k,h1,h2,p.2 k h⟩,fun k hk=>p.2 k (by omega)⟩
theorem iU.rot (f:Nat->Int) (a m b:Nat) (h1:a<=m) (h2:m<=b):iU a b f (cA f a m b):=by
 refine⟨fun k h3 h4=>?_,fun k hk=>?_⟩
 ·unfold cA
  by_cases h5:a<=k/\k<a+(b-m)
  ·rw[if_pos h5];exact⟨k+(m-a),by omega,by omega,rfl⟩
  ·rw[if_neg h5,if_pos (by omega)];exact⟨k-(b-m),by omega,by omega,rfl⟩
 ·unfold cA;rw[if_neg (by omega),if_neg (by omega)]
section
variable (lt:Int->Int->Prop)
def gM (f:Nat->Int) (a b:Nat):Prop:=∀i j,a<=i->i<j->j<b->lt (f i) (f j)
structure rI:Prop where
 tr:∀x y z,lt x y->lt y z->lt x z
 tot:∀x y,x≠y->lt x y\/lt y x
 irr:∀x,¬lt x x
variable {lt}
theorem gM.mono {f:Nat->Int} {a b a' b':Nat} (h:gM lt f a b) (ha:a<=a') (hb:b'<=b):gM lt f a' b':=
 fun i j h1 h2 h3=>h i j (by omega) h2 (by omega)
theorem gM.congr {f g:Nat->Int} {a b:Nat} (h:gM lt f a b) (e:∀k,a<=k->k<b->g k=f k):gM lt g a b:=
 fun i j h1 h2 h3=>by rw[e i h1 (by omega),e j (by omega) h3];exact h i j h1 h2 h3
theorem gM.tiny (f:Nat->Int) (a b:Nat) (h:b<=a+1):gM lt f a b:=fun i j h1 h2 h3=>by omega
theorem gM.join {f:Nat->Int} {a m b:Nat} (h1:gM lt f a m) (h2:gM lt f m b) (hx:∀i j,a<=i->i<m->m<=j->j<b->lt (f i) (f j)):gM lt f a b:=by
 intro i j p q r;rcases bT i m with hi|hi
 ·rcases bT j m with hj|hj
  ·exact h1 i j p q hj
  ·exact hx i j p hi hj r
 ·exact h2 i j hi q r
structure lC (lt:Int->Int->Prop) (f:Nat->Int) (a m b:Nat):Prop where
 am:a<m
 mb:m<b
 s1:gM lt f a m
 s2:gM lt f m b
 ne:∀i j,a<=i->i<m->m<=j->j<b->f i<f j
structure kX (lt:Int->Int->Prop) (f g:Nat->Int) (a b:Nat):Prop where
 frm:iU a b f g
 srt:gM lt g a b
theorem aEp {f:Nat->Int} {a b i:Nat} (P:lC lt f a (a+1) b) (hi1:a+1<=i) (hi2:i<=b)
  (h1:∀k,a+1<=k->k<i->lt (f k) (f a)) (h2:∀k,i<=k->k<b->lt (f a) (f k)):kX lt f (cA f a (a+1) i) a b:=by
 refine⟨(iU.rot f a (a+1) i (by omega) hi1).wide (aA _) hi2,?_⟩;have e:∀k,cA f a (a+1) i k=if a<=k/\k<i-1 then f (k+1) else if k=i-1 then f a else f k:=by
  intro k;unfold cA
  by_cases p1:a<=k/\k<i-1
  ·rw[if_pos (by omega),if_pos p1];congr 1;omega
  ·rw[if_neg (by omega),if_neg p1]
   by_cases p2:k=i-1
   ·rw[if_pos (by omega),if_pos p2];congr 1;omega
   ·rw[if_neg (by omega),if_neg p2]
 intro p q hp hpq hq;rw[e p,e q]
 by_cases c1:a<=p/\p<i-1
 ·rw[if_pos c1]
  by_cases c2:a<=q/\q<i-1
  ·rw[if_pos c2];exact P.s2 _ _ (by omega) (by omega) (by omega)
  ·rw[if_neg c2]
   by_cases c3:q=i-1
   ·rw[if_pos c3];exact h1 _ (by omega) (by omega)
   ·rw[if_neg c3];exact P.s2 _ _ (by omega) (by omega) (by omega)
 ·rw[if_neg c1]
  by_cases c2:p=i-1
  ·rw[if_pos c2,if_neg (by omega),if_neg (by omega)];exact h2 _ (by omega) hq
  ·rw[if_neg c2,if_neg (by omega),if_neg (by omega)];exact P.s2 _ _ (by omega) hpq hq
theorem aEq {f:Nat->Int} {a m i:Nat} (P:lC lt f a m (m+1)) (hi1:a<=i) (hi2:i<=m)
  (h1:∀k,a<=k->k<i->lt (f k) (f m)) (h2:∀k,i<=k->k<m->lt (f m) (f k)):kX lt f (cA f i m (m+1)) a (m+1):=by
 refine⟨(iU.rot f i m (m+1) hi2 (by omega)).wide hi1 (aA _),?_⟩;have e:∀k,cA f i m (m+1) k=if k=i then f m else if i<k/\k<=m then f (k-1) else f k:=by
  intro k;unfold cA
  by_cases p1:k=i
  ·rw[if_pos (by omega),if_pos p1];congr 1;omega
  ·rw[if_neg (by omega),if_neg p1]
   by_cases p2:i<k/\k<=m
   ·rw[if_pos (by omega),if_pos p2];congr 1;omega
   ·rw[if_neg (by omega),if_neg p2]
 intro p q hp hpq hq;rw[e p,e q]
 by_cases c1:p=i
 ·rw[if_pos c1,if_neg (by omega),if_pos (by omega)];exact h2 _ (by omega) (by omega)
 ·rw[if_neg c1]
  by_cases c2:i<p/\p<=m
  ·rw[if_pos c2,if_neg (by omega),if_pos (by omega)];exact P.s1 _ _ (by omega) (by omega) (by omega)
  ·rw[if_neg c2]
   by_cases c3:q=i
   ·rw[if_pos c3];exact h1 _ hp (by omega)
   ·rw[if_neg c3]
    by_cases c4:i<q/\q<=m
    ·rw[if_pos c4];exact P.s1 _ _ hp (by omega) (by omega)
    ·rw[if_neg c4];exact P.s1 _ _ hp hpq (by omega)
theorem aEr (S:rI lt) {f:Nat->Int} {a m b mid lo hi start:Nat} (P:lC lt f a m b) (hmid:mid=(a+b)/2)
  (hlh:(mid<m/\lo+b=mid+m/\hi=mid)\/(m<=mid/\lo=a/\hi=m)) (hs1:lo<=start) (hs2:start<=hi)
  (h1:∀c,lo<=c->c<start->lt (f c) (f (mid+m-1-c))) (h2:∀c,start<=c->c<hi->lt (f (mid+m-1-c)) (f c)):
  a<=start/\start<=m/\m<=mid+m-start/\mid+m-start<=b/\
  (∀i j,a<=i->i<start->mid+m-start<=j->j<b->lt (f i) (f j))/\
  (∀i j,m<=i->i<mid+m-start->start<=j->j<m->lt (f i) (f j)):=by
 have ham:=P.am;have hmb:=P.mb;have b1:a<=start:=by omega
 have b2:start<=m:=by omega
 have b3:start<=mid:=by omega
 have b4:mid+m-start<=b:=by omega
 refine⟨b1,b2,by omega,b4,?_,?_⟩
 ·intro i j hi1 hi2 hj1 hj2
  --start>lo,or the second part's rest is empty
  have hlo:lo<start:=by omega
  have key:=h1 (start-1) (by omega) (by omega);have e:mid+m-1-(start-1)=mid+m-start:=by omega
  rw[e] at key;have k1:lt (f i) (f (mid+m-start)):=by
   rcases bT i (start-1) with h|h
   ·exact S.tr _ _ _ (P.s1 i (start-1) hi1 h (by omega)) key
   ·have:i=start-1:=by omega
    subst this;exact key
  rcases bT (mid+m-start) j with h|h
  ·exact S.tr _ _ _ k1 (P.s2 _ j (by omega) h hj2)
  ·have:j=mid+m-start:=by omega
   subst this;exact k1
 ·intro i j hi1 hi2 hj1 hj2;have hhi:start<hi:=by omega
  have key:=h2 start (by omega) hhi;have e:mid+m-1-start=mid+m-start-1:=by omega
  rw[e] at key;have k1:lt (f i) (f start):=by
   rcases bT i (mid+m-start-1) with h|h
   ·exact S.tr _ _ _ (P.s2 i (mid+m-start-1) hi1 h (by omega)) key
   ·have:i=mid+m-start-1:=by omega
    subst this;exact key
  rcases bT start j with h|h
  ·exact S.tr _ _ _ k1 (P.s1 start j (by omega) h hj2)
  ·have:j=start:=by omega
   subst this;exact k1
theorem aEs {f:Nat->Int} {a m b mid start:Nat} (P:lC lt f a m b) (hm1:a<=start) (hm2:start<=m) (hm3:start<=mid) (hm4:mid+m-start<=b)
  (h1:∀i j,a<=i->i<start->mid+m-start<=j->j<b->lt (f i) (f j))
  (h2:∀i j,m<=i->i<mid+m-start->start<=j->j<m->lt (f i) (f j)):
  let g:=cA f start m (mid+m-start)
  iU a b f g/\gM lt g a start/\gM lt g start mid/\gM lt g mid (mid+m-start)/\gM lt g (mid+m-start) b/\
  (∀i j,a<=i->i<start->start<=j->j<mid->g i<g j)/\(∀i j,mid<=i->i<mid+m-start->mid+m-start<=j->j<b->g i<g j)/\
  (∀i j,a<=i->i<mid->mid<=j->j<b->lt (g i) (g j)):=by
 intro g;have ham:=P.am;have hmb:=P.mb;have e1:∀k,a<=k->k<start->g k=f k:=fun k p q=>by show cA _ _ _ _ _=_;unfold cA;rw[if_neg (by omega),if_neg (by omega)]
 have e2:∀k,start<=k->k<mid->g k=f (k+(m-start)):=fun k p q=>by show cA _ _ _ _ _=_;unfold cA;rw[if_pos (by omega)]
 have e3:∀k,mid<=k->k<mid+m-start->g k=f (k-(mid-start)):=fun k p q=>by
  show cA _ _ _ _ _=_;unfold cA;rw[if_neg (by omega),if_pos (by omega)];congr 1;omega
 have e4:∀k,mid+m-start<=k->k<b->g k=f k:=fun k p q=>by show cA _ _ _ _ _=_;unfold cA;rw[if_neg (by omega),if_neg (by omega)]
 refine⟨(iU.rot f start m (mid+m-start) hm2 (by omega)).wide hm1 hm4,?_,?_,?_,?_,?_,?_,?_⟩
 ·intro i j p q r;rw[e1 i p (by omega),e1 j (by omega) r];exact P.s1 i j p q (by omega)
 ·intro i j p q r;rw[e2 i p (by omega),e2 j (by omega) r];exact P.s2 _ _ (by omega) (by omega) (by omega)
 ·intro i j p q r;rw[e3 i p (by omega),e3 j (by omega) r];exact P.s1 _ _ (by omega) (by omega) (by omega)
 ·intro i j p q r;rw[e4 i p (by omega),e4 j (by omega) r];exact P.s2 _ _ (by omega) (by omega) (by omega)
 ·intro i j p q r s;rw[e1 i p q,e2 j r s];exact P.ne _ _ p (by omega) (by omega) (by omega)
 ·intro i j p q r s;rw[e3 i p q,e4 j r s];exact P.ne _ _ (by omega) (by omega) (by omega) s
 ·intro i j p q r s;rcases bT i start with hi|hi
  ·rw[e1 i p hi];rcases bT j (mid+m-start) with hj|hj
   ·rw[e3 j r hj];exact P.s1 _ _ p (by omega) (by omega)
   ·rw[e4 j hj s];exact h1 _ _ p hi hj s
  ·rw[e2 i hi q];rcases bT j (mid+m-start) with hj|hj
   ·rw[e3 j r hj];exact h2 _ _ (by omega) (by omega) (by omega) (by omega)
   ·rw[e4 j hj s];exact P.s2 _ _ (by omega) (by omega) s
theorem aEt (S:rI lt) {f:Nat->Int} {a b h:Nat} (P:lC lt f a (a+1) b) (hh:h<b) (t:lt (f h) (f a)):∀k,a+1<=k->k<h+1->lt (f k) (f a):=by
 intro k h1 h2;rcases bT k h with h3|h3
 ·exact S.tr _ _ _ (P.s2 k h h1 h3 hh) t
 ·have:k=h:=by omega
  subst this;exact t
theorem aEu (S:rI lt) {f:Nat->Int} {a b h:Nat} (P:lC lt f a (a+1) b) (hh1:a+1<=h) (hh:h<b) (t:¬lt (f h) (f a)):∀k,h<=k->k<b->lt (f a) (f k):=by
 have t':lt (f a) (f h):=(S.tot (f a) (f h) (by have:=P.ne a h (by omega) (by omega) hh1 hh;omega)).resolve_right t;intro k h1 h2;rcases bT h k with h3|h3
 ·exact S.tr _ _ _ t' (P.s2 h k hh1 h3 h2)
 ·have:k=h:=by omega
  subst this;exact t'
theorem aEv (S:rI lt) {f:Nat->Int} {a m h:Nat} (P:lC lt f a m (m+1)) (hh1:a<=h) (hh:h<m) (t:¬lt (f m) (f h)):∀k,a<=k->k<h+1->lt (f k) (f m):=by
 have t':lt (f h) (f m):=(S.tot (f h) (f m) (by have:=P.ne h m hh1 hh (by omega) (by omega);omega)).resolve_right t;intro k h1 h2;rcases bT k h with h3|h3
 ·exact S.tr _ _ _ (P.s1 k h h1 h3 hh) t'
 ·have:k=h:=by omega
  subst this;exact t'
theorem aEw (S:rI lt) {f:Nat->Int} {a m h:Nat} (P:lC lt f a m (m+1)) (hh1:a<=h) (t:lt (f m) (f h)):∀k,h<=k->k<m->lt (f m) (f k):=by
 intro k h1 h2;rcases bT h k with h3|h3
 ·exact S.tr _ _ _ t (P.s1 h k hh1 h3 h2)
 ·have:k=h:=by omega
  subst this;exact t
theorem aEx (S:rI lt) {f:Nat->Int} {a m b n c lo:Nat} (P:lC lt f a m b) (hc1:a<=lo) (hc0:lo<=c) (hc2:c<m) (hc3:m<=n-1-c) (hc4:n-1-lo<b) (hn:c+1<=n) (t:¬lt (f (n-1-c)) (f c)):
  ∀k,lo<=k->k<c+1->lt (f k) (f (n-1-k)):=by
 have t':lt (f c) (f (n-1-c)):=(S.tot (f c) (f (n-1-c)) (by have:=P.ne c (n-1-c) (by omega) hc2 hc3 (by omega);omega)).resolve_right t;intro k h1 h2;rcases bT k c with h3|h3
 ·exact S.tr _ _ _ (P.s1 k c (by omega) h3 hc2) (S.tr _ _ _ t' (P.s2 (n-1-c) (n-1-k) hc3 (by omega) (by omega)))
 ·have:k=c:=by omega
  subst this;exact t'
theorem aEy (S:rI lt) {f:Nat->Int} {a m b n c hi:Nat} (P:lC lt f a m b) (hc1:a<=c) (hc2:c<m) (hc4:n-1-c<b) (hhi:hi<=m) (hn:∀k,k<hi->m<=n-1-k) (t:lt (f (n-1-c)) (f c)):
  ∀k,c<=k->k<hi->lt (f (n-1-k)) (f k):=by
 intro k h1 h2;rcases bT c k with h3|h3
 ·have:=hn k h2;rcases bT (n-1-k) (n-1-c) with h4|h4
  ·exact S.tr _ _ _ (P.s2 (n-1-k) (n-1-c) this h4 hc4) (S.tr _ _ _ t (P.s1 c k hc1 h3 (by omega)))
  ·have e:n-1-k=n-1-c:=by omega
   rw[e];exact S.tr _ _ _ t (P.s1 c k hc1 h3 (by omega))
 ·have:k=c:=by omega
  subst this;exact t
theorem PZ {f g h k:Nat->Int} {a mid b:Nat} (h0:iU a b f g) (hm1:a<=mid) (hm2:mid<=b) (m1:kX lt g h a mid) (m2:kX lt h k mid b)
  (hx:∀i j,a<=i->i<mid->mid<=j->j<b->lt (g i) (g j)):kX lt f k a b:=by
 refine⟨h0.trans ((m1.frm.wide (aA _) hm2).trans (m2.frm.wide hm1 (aA _))),?_⟩;refine gM.join (m:=mid) (m1.srt.congr fun x p q=>m2.frm.2 x (by omega)) m2.srt ?_;intro i j p q r s;rw[m2.frm.2 i (by omega)];obtain⟨i',p1,p2,p3⟩:=m1.frm.1 i p q;obtain⟨j',q1,q2,q3⟩:=m2.frm.1 j r s;rw[p3,q3,m1.frm.2 j' (by omega)];exact hx _ _ p1 p2 q1 q2
end
end
section
open Go.RowKit
def Dat (w:World) (g cap n:Nat) (f:Nat->Int):Prop:=
 ∃cur:Array Value,w.heap[g]? =some (.cells cur 3 (0,0))/\cur.size=cap/\n<=cap/\∀k,k<n->cur[k]? =some (.int .i64 (f k))
theorem Dat.lt {w:World} {g cap n:Nat} {f:Nat->Int} (h:Dat w g cap n f):g<w.heap.size:=by
 obtain⟨cur,h,_⟩:=h;exact(Array.getElem?_eq_some_iff.1 h).1
theorem Dat.cell {w:World} {g cap n:Nat} {f:Nat->Int} (h:Dat w g cap n f) {k:Nat} (hk:k<n):w.cell? ⟨g,k,none⟩=some (.int .i64 (f k)):=by
 obtain⟨cur,h,_,_,hc⟩:=h;rw[cell_of_row w g k _ _ (0,0) h];exact hc k hk
theorem Dat.free {w:World} {g cap n:Nat} {f:Nat->Int} (h:Dat w g cap n f) (k:Nat):w.frozen? ⟨g,k,none⟩=false:=by
 obtain⟨cur,h,_⟩:=h;exact frozen_of_row w g k _ _ h
theorem Dat.set {w:World} {g cap n:Nat} {f:Nat->Int} (h:Dat w g cap n f) (k:Nat) (x:Int):Dat (w.setCell ⟨g,k,none⟩ (.int .i64 x)) g cap n (gH f k x):=by
 obtain⟨cur,h,hs,hn,hc⟩:=h;refine⟨cur.setIfInBounds k (.int .i64 x),heap_setCell_same w g k _ _ _ h,by simpa using hs,hn,fun j hj=>?_⟩;unfold gH
 by_cases e:j=k
 ·subst e;simp[show j<cur.size by omega]
 ·rw[if_neg e,Array.getElem?_setIfInBounds_ne (fun h=>e h.symm)];exact hc j hj
theorem Dat.grown {w w':World} {g cap n:Nat} {f:Nat->Int} {row:Option Nat} (h:Dat w g cap n f) (hg:w.grownBy w' row) (hne:some g≠row):Dat w' g cap n f:=by
 have hl:=h.lt;obtain⟨cur,h,hr⟩:=h;exact⟨cur,by rw[hg.block g hl hne];exact h,hr⟩
theorem Dat.below {w w':World} {g cap n B:Nat} {f:Nat->Int} (h:Dat w g cap n f) (hb:Below B w w') (hB:g<B):Dat w' g cap n f:=by
 obtain⟨cur,h,hr⟩:=h;exact⟨cur,by rw[hb.block g hB];exact h,hr⟩
theorem Dat.congr {w:World} {g cap n:Nat} {f f':Nat->Int} (h:Dat w g cap n f) (e:∀k,k<n->f' k=f k):Dat w g cap n f':=by
 obtain⟨cur,h,h1,h2,h3⟩:=h;exact⟨cur,h,h1,h2,fun k hk=>by rw[e k hk];exact h3 k hk⟩
theorem Dat.drewN {w:World} {g cap n:Nat} {f:Nat->Int} (h:Dat w g cap n f) (k:Nat):Dat (w.drewN k) g cap n f:=h
theorem Dat.drew {w:World} {g cap n:Nat} {f:Nat->Int} (h:Dat w g cap n f):Dat w.drew g cap n f:=h
theorem uI (w:World) (row:Option Nat):w.grownBy w row:=⟨rfl,rfl,rfl,aA _,fun _ _ _=>rfl⟩
theorem dS {a b c:World} {row:Option Nat} (h:a.grownBy b row) (k:b.grownBy c row):a.grownBy c row:=
 ⟨k.os.trans h.os,k.tape.trans h.tape,k.output.trans h.output,Nat.le_trans h.size k.size,fun i hi hne=>(k.block i (Nat.lt_of_lt_of_le hi h.size) hne).trans (h.block i hi hne)⟩
theorem rJ {a b:World} {row:Option Nat} (h:Below a.heap.size a b):a.grownBy b row:=⟨h.os,h.tape,h.output,h.size,fun i hi _=>h.block i hi⟩
theorem eM (a:World) (g k:Nat) (v:Value):a.grownBy (a.setCell ⟨g,k,none⟩ v) (some g):=
 ⟨rfl,rfl,rfl,by simp[World.setCell],fun i _ hne=>Below.heap_setCell _ _ _ _ (fun e=>hne (by rw[e]))⟩
theorem nC {a b:World} {row:Option Nat} (h:a.grownBy b row):a.grownBy b.drew row:=⟨h.os,h.tape,h.output,h.size,h.block⟩
theorem aEz {a b:World} {row:Option Nat} (h:a.grownBy b row) (n:Nat):a.grownBy (b.drewN n) row:=⟨h.os,h.tape,h.output,h.size,h.block⟩
theorem QC {a b:World} {g B:Nat} (h:a.grownBy b (some g)) (hg:B<=g) (hB:B<=a.heap.size):Below B a b:=
 ⟨h.os,h.tape,h.output,h.size,fun i hi=>h.block i (by omega) (fun e=>by have:=bW e;omega)⟩
theorem JC (g cap n a b t:Nat) (f:Nat->Int) (cv:Value) (w:World) (hd:Dat w g cap n f) (hn:n<=1000000) (_hcap:cap<=maxLen) (hab:a+t<=b) (hbn:b+t<=n):
  Calls Tryz.prog 232 #[.slice (some ⟨g,0,none⟩) n cap,.int .i64 (a:Int),.int .i64 (b:Int),.int .i64 (t:Int),cv] w fun e w'=>
   e=.returned (.tuple #[])/\Dat w' g cap n (gC f a b t)/\w.grownBy w' (some g):=by
 unfold maxLen at _hcap;go_enter Tryz.func232,Tryz.ntmps232;go_wp2
 go_loopg [10] t (fun gh i wr=>∃k:Nat,k<=t/\gh=t-k/\i=.int .i64 k/\Dat wr g cap n (gC f a b k)/\w.grownBy wr (some g))
 case atStart=>exact⟨0,Nat.zero_le _,rfl,rfl,by rw[aEk];exact hd,uI _ _⟩
 case round=>
  obtain⟨k,hk,hg,rfl,hdat,hgr⟩:=hrel;have HG:=hid hg;clear hg
  by_cases hlt:k<t
  ·have c1:=hdat.cell (k:=a+k) (by omega);have c2:=hdat.cell (k:=b+k) (by omega);have f1:=hdat.free (a+k);have f2:=hdat.free (b+k);have hne:a+k≠b+k:=by omega
   obtain⟨x,hx⟩:∃x,x=gC f a b k (a+k):=⟨_,rfl⟩;obtain⟨y,hy⟩:∃y,y=gC f a b k (b+k):=⟨_,rfl⟩;rw[<-hx] at c1;rw[<-hy] at c2;have HX:=hid hx;have HY:=hid hy;clear hx hy;go_wp2
   go_region
   all_goals go_wp2
   have hg:=HG.out
   go_roundg (t-(k+1))
   case measure=>omega
   case rel=>
    refine⟨k+1,by omega,rfl,by go_num,?_,nC (dS (dS hgr (eM _ _ _ _)) (eM _ _ _ _))⟩;have:=(hdat.set (a+k) y).set (b+k) x;rw[HX.out,HY.out,<-aEl f a b k (by omega)] at this;rw[HX.out,HY.out];exact this.drew
  ·have hk':k=t:=by omega
   have HK:=hid hk';clear hk';go_wp2
   go_end0
   exact⟨rfl,by rw[<-HK.out];exact hdat,hgr⟩
theorem aE0 (g cap n a m b:Nat) (f:Nat->Int) (cv:Value) (w:World) (hd:Dat w g cap n f) (hn:n<=1000000) (hcap:cap<=maxLen) (ham:a<m) (hmb:m<b) (hbn:b<=n):
  Calls Tryz.prog 226 #[.slice (some ⟨g,0,none⟩) n cap,.int .i64 (a:Int),.int .i64 (m:Int),.int .i64 (b:Int),cv] w fun e w'=>
   e=.returned (.tuple #[])/\Dat w' g cap n (cA f a m b)/\w.grownBy w' (some g):=by
 have hcap':=hcap;unfold maxLen at hcap';go_enter Tryz.func226,Tryz.ntmps226;go_wp2
 go_loopg [10,11] (b-a) (fun gh i j wr=>∃(p q:Nat) (h:Nat->Int),0<p/\0<q/\p<=m/\m+q<=n/\gh=p+q/\i=.int .i64 p/\j=.int .i64 q/\Dat wr g cap n h/\Hid (cA h (m-p) m (m+q)=cA f a m b)/\w.grownBy wr (some g))
 case atStart=>
  refine⟨m-a,b-m,f,by omega,by omega,by omega,by omega,by omega,congrArg _ (by omega),congrArg _ (by omega),hd,hid ?_,uI _ _⟩;rw[show m-(m-a)=a by omega,show m+(b-m)=b by omega]
 case round=>
  obtain⟨p,q,h,hp,hq,hpm,hqn,hg,rfl,rfl,hdat,HR,hgr⟩:=hrel;have HG:=hid hg;clear hg;rcases pW p q with hpq|hpq|hpq
  ·have t1:((p:Int) != (q:Int))=true:=by rw[bne_iff_ne];omega
   have t2:decide (q<p)=false:=by simp;omega
   go_wp2_with fail;rw[show((m:Int)-(p:Int))=((m-p:Nat):Int) from by omega,show((m:Int)+(q:Int)-(p:Int))=((m+q-p:Nat):Int) from by omega];refine(JC g cap n _ _ _ h cv _ hdat hn hcap (by omega) (by omega)).mono ?_;rintro e w1 ⟨rfl,hd1,hg1⟩;go_wp2;have hg:=HG.out
   go_roundg (p+(q-p))
   case measure=>omega
   case rel=>exact⟨p,q-p,_,hp,by omega,hpm,by omega,rfl,rfl,congrArg _ (by omega),hd1,hid (by rw[<-aEo h m p q hpm hpq hp];exact HR.out),dS hgr hg1⟩
  ·subst hpq;have t1:((p:Int) != (p:Int))=false:=by simp
   go_wp2_with fail;rw[show((m:Int)-(p:Int))=((m-p:Nat):Int) from by omega];refine(JC g cap n _ _ _ h cv _ hdat hn hcap (by omega) (by omega)).mono ?_;rintro e w1 ⟨rfl,hd1,hg1⟩;go_wp2
   go_end0
   exact⟨rfl,by rw[<-HR.out,aEm h m p hpm];exact hd1,dS hgr hg1⟩
  ·have t1:((p:Int) != (q:Int))=true:=by rw[bne_iff_ne];omega
   have t2:decide (q<p)=true:=by simp;omega
   go_wp2_with fail;rw[show((m:Int)-(p:Int))=((m-p:Nat):Int) from by omega];refine(JC g cap n _ _ _ h cv _ hdat hn hcap (by omega) (by omega)).mono ?_;rintro e w1 ⟨rfl,hd1,hg1⟩;go_wp2;have hg:=HG.out
   go_roundg ((p-q)+q)
   case measure=>omega
   case rel=>exact⟨p-q,q,_,by omega,hq,by omega,hqn,rfl,congrArg _ (by omega),rfl,hd1,hid (by rw[<-aEn h m p q hpm hpq hq];exact HR.out),dS hgr hg1⟩
def pO (w0:World) (g n bx:Nat) (klt:Int->Int->Bool):Prop:=
 ∀W,w0.grownBy W (some g)->∀x y:Int,0<=x->x<(n:Int)->0<=y->y<(n:Int)->
  Calls Tryz.prog 163 #[.int .i64 x,.int .i64 y,.pointer (some ⟨bx,0,none⟩)] W fun e W'=>∃c:Int,e=.returned (.int .i64 c)/\decide (c<0)=klt x y/\Below W.heap.size W W'
theorem pO.later {w0 w1:World} {g n bx:Nat} {klt:Int->Int->Bool} (h:pO w0 g n bx klt) (hg:w0.grownBy w1 (some g)):pO w1 g n bx klt:=
 fun W hW=>h W (dS hg hW)
def nE (bx:Nat):Value:=.func (.func 163) #[] #[.pointer (some ⟨bx,0,none⟩)]
def InR (n:Nat) (f:Nat->Int):Prop:=∀k,k<n->0<=f k/\f k<(n:Int)
theorem InR.from {n a b:Nat} {f g:Nat->Int} (h:InR n f) (hb:b<=n) (p:iU a b f g):InR n g:=fun k hk=>by
 by_cases hc:a<=k/\k<b
 ·obtain⟨k',h1,h2,h3⟩:=p.1 k hc.1 hc.2;rw[h3];exact h k' (by omega)
 ·rw[p.2 k hc];exact h k hk
def vV (f:Nat->Int) (a b:Nat):Prop:=∀i j,a<=i->i<j->j<b->f i<f j
def gN (f:Nat->Int) (j i:Nat):Nat->Int:=fun k=>if k=j then f i else if j<k/\k<=i then f (k-1) else f k
theorem aE1 (f:Nat->Int) (i:Nat):gN f i i=f:=by
 funext k;unfold gN
 by_cases h:k=i
 ·rw[if_pos h,h]
 ·rw[if_neg h,if_neg (by omega)]
theorem aE2 (f:Nat->Int) (j i:Nat) (h:j<i):gN f j i=gH (gH (gN f (j+1) i) (j+1) (gN f (j+1) i j)) j (gN f (j+1) i (j+1)):=by
 have e1:gN f (j+1) i j=f j:=by unfold gN;rw[if_neg (by omega),if_neg (by omega)]
 have e2:gN f (j+1) i (j+1)=f i:=by unfold gN;rw[if_pos rfl]
 rw[e1,e2]
 funext k
 unfold gH gN
 by_cases h1:k=j
 ·rw[if_pos h1,if_pos h1]
 ·rw[if_neg h1,if_neg h1]
  by_cases h2:k=j+1
  ·rw[if_pos h2,if_pos (by omega)];congr 1;omega
  ·rw[if_neg h2,if_neg h2]
   by_cases h3:j<k/\k<=i
   ·rw[if_pos h3,if_pos (by omega)]
   ·rw[if_neg h3,if_neg (by omega)]
theorem QD (f:Nat->Int) (a j i:Nat) (h1:a<=j) (h2:j<=i):iU a (i+1) f (gN f j i):=by
 refine⟨fun k h3 h4=>?_,fun k hk=>?_⟩
 ·unfold gN
  by_cases c1:k=j
  ·rw[if_pos c1];exact⟨i,by omega,by omega,rfl⟩
  ·rw[if_neg c1]
   by_cases c2:j<k/\k<=i
   ·rw[if_pos c2];exact⟨k-1,by omega,by omega,rfl⟩
   ·rw[if_neg c2];exact⟨k,h3,h4,rfl⟩
 ·unfold gN;rw[if_neg (by omega),if_neg (by omega)]
theorem QE {lt:Int->Int->Prop} {f:Nat->Int} {a j i:Nat} (h:gM lt f a i) (_h1:a<=j) (h2:j<=i) (hlo:∀k,a<=k->k<j->lt (f k) (f i)) (hhi:∀k,j<=k->k<i->lt (f i) (f k)):
  gM lt (gN f j i) a (i+1):=by
 have d1:gN f j i j=f i:=by unfold gN;rw[if_pos rfl]
 have d2:∀k,j<k->k<=i->gN f j i k=f (k-1):=fun k p q=>by unfold gN;rw[if_neg (by omega),if_pos ⟨p,q⟩]
 have d3:∀k,k<j->gN f j i k=f k:=fun k p=>by unfold gN;rw[if_neg (by omega),if_neg (by omega)]
 intro p q hp hpq hq;rcases pW p j with c1|c1|c1
 ·rw[d3 p c1];rcases pW q j with c2|c2|c2
  ·rw[d3 q c2];exact h _ _ hp hpq (by omega)
  ·rw[c2,d1];exact hlo _ hp c1
  ·rw[d2 q c2 (by omega)];exact h _ _ hp (by omega) (by omega)
 ·rw[c1,d1,d2 q (by omega) (by omega)];exact hhi _ (by omega) (by omega)
 ·rw[d2 p c1 (by omega),d2 q (by omega) (by omega)];exact h _ _ (by omega) (by omega) (by omega)
structure Cmp (lt:Int->Int->Prop) (klt:Int->Int->Bool):Prop where
 S:rI lt
 iff:∀x y,x<y->(klt y x=true↔lt y x)
theorem QF (g cap n a b bx:Nat) (f:Nat->Int) (klt:Int->Int->Bool) (lt:Int->Int->Prop) (w:World) (hd:Dat w g cap n f) (hn:n<=1000000) (_hcap:cap<=maxLen) (hab:a<=b) (hbn:b<=n)
  (hf:InR n f) (hr:vV f a b) (hc:pO w g n bx klt) (C:Cmp lt klt):
  Calls Tryz.prog 211 #[.slice (some ⟨g,0,none⟩) n cap,.int .i64 (a:Int),.int .i64 (b:Int),nE bx] w fun e w'=>
   e=.returned (.tuple #[])/\(∃h,kX lt f h a b/\Dat w' g cap n h)/\w.grownBy w' (some g):=by
 unfold maxLen at _hcap;unfold nE;have HCM:=hid hc;have HR:=hid hr;clear hc hr;go_enter Tryz.func211,Tryz.ntmps211;go_wp2
 go_loopg [8] (b-(a+1)) (fun gh i wr=>∃(k:Nat) (h:Nat->Int),a+1<=k/\(k<=b\/k=a+1)/\gh=b-k/\i=.int .i64 k/\Dat wr g cap n h/\Hid (kX lt f h a (min k b))/\w.grownBy wr (some g))
 case atStart=>
  refine⟨a+1,f,aA _,.inr rfl,rfl,congrArg _ (by omega),hd,hid ⟨iU.refl _ _ _,gM.tiny _ _ _ (by omega)⟩,uI _ _⟩
 case round=>
  obtain⟨i,h,hi1,hi2,hg,rfl,hdat,HM,hgr⟩:=hrel;have HG:=hid hg;clear hg
  by_cases hlt:i<b
  ·obtain⟨wo,rfl⟩:∃wo:World,wo=wr:=⟨_,rfl⟩;have hfm:=HM.out.frm;rw[gU (by omega)] at hfm;have hin:=hf.from (by omega) hfm;go_wp2
   go_loopg [9] i (fun gh j wr=>∃q:Nat,a<=q/\q<=i/\gh=q/\j=.int .i64 q/\Dat wr g cap n (gN h q i)/\Hid (∀k,q<=k->k<i->lt (h i) (h k))/\w.grownBy wr (some g))
   case atStart=>exact⟨i,by omega,aA _,rfl,rfl,by rw[aE1];exact hdat,hid (fun k h1 h2=>by omega),hgr⟩
   case round=>
    clear hdat hgr;obtain⟨q,hq1,hq2,hg2,rfl,hdat,HK,hgr⟩:=hrel;have HG2:=hid hg2;clear hg2
    by_cases hqa:a<q
    ·have t1:decide (a<q)=true:=by simpa using hqa
     have c1:=hdat.cell (k:=q) (by omega);have c2:=hdat.cell (k:=q-1) (by omega);have f1:=hdat.free q;have f2:=hdat.free (q-1);have e1:gN h q i q=h i:=by unfold gN;rw[if_pos rfl]
     have e2:gN h q i (q-1)=h (q-1):=by unfold gN;rw[if_neg (by omega),if_neg (by omega)]
     rw[e1] at c1;rw[e2] at c2;have E1:=hid e1;have E2:=hid e2;clear e1 e2;have b1:=hin i (by omega);have b2:=hin (q-1) (by omega);obtain⟨x,hx⟩:∃x,x=h i:=⟨_,rfl⟩;obtain⟨y,hy⟩:∃y,y=h (q-1):=⟨_,rfl⟩;rw[<-hx] at c1 b1;rw[<-hy] at c2 b2;have HX:=hid hx;have HY:=hid hy;clear hx hy;have s1:aI.wrap ((q:Int)-1)=(q:Int)-1:=tS _ (by omega);have s2:((q:Int)-1).toNat=q-1:=by omega
     have s3:(0:Int)<=(q:Int)-1:=by omega
     have s4:(q:Int)-1<(n:Int):=by omega
     have s5:q<n:=by omega
     have s6:(1:Int)<=(q:Int):=by omega
     have s7:1<=q:=by omega
     have s8:0<q:=by omega
     have s9:(q:Int)<=(n:Int):=by omega
     have s10:q<=n:=by omega
     go_wp2_with fail
     go_cut [34] (fun s34 wx=>s34=.bool (klt x y)/\Dat wx g cap n (gN h q i)/\w.grownBy wx (some g))
     case first=>
      go_still_tail 14,(by kernel_rfl)
      change wpList _ _ _ _ _ wr.drew;have hdw:=hdat.drew;have hgw:=nC hgr;generalize wr.drew=wr2 at*
      go_wp2_with (go_at_call 163;refine(HCM.out _ hgw x y b1.1 b1.2 b2.1 b2.2).mono ?_;rintro e w2 ⟨c,rfl,hc,hb⟩);go_meet;exact⟨rfl,hdw.grown (rJ (row:=none) hb) (by simp),dS hgw (rJ hb)⟩
     case rest=>
      obtain⟨rfl,hd1,hg1⟩:=hcut;have hyx:y<x:=by
       rw[HX.out,HY.out];obtain⟨k',k1,k2,k3⟩:=hfm.1 (q-1) (by omega) (by omega);rw[k3,hfm.2 i (by omega)];exact HR.out k' i k1 (by omega) (by omega)
      have HYX:=hid hyx;clear hyx
      by_cases hkl:klt x y=true
      ·have hlt':=hid ((C.iff y x HYX.out).1 hkl);have d1:=hd1.cell (k:=q) (by omega);have d2:=hd1.cell (k:=q-1) (by omega);have g1:=hd1.free q;have g2:=hd1.free (q-1);rw[E1.out,<-HX.out] at d1;rw[E2.out,<-HY.out] at d2;have hne:q≠q-1:=by omega
       rw[hkl];clear c1 c2 f1 f2 hdat hgr;go_wp2
       go_region
       all_goals go_wp2
       have hg2:=HG2.out
       go_roundg (q-1)
       case measure=>omega
       case rel=>
        refine⟨q-1,by omega,by omega,rfl,congrArg _ (by omega),?_,hid (fun k k1 k2=>?_),nC (dS (dS hg1 (eM _ _ _ _)) (eM _ _ _ _))⟩
        ·have:=(hd1.set q y).set (q-1) x;have e:=aE2 h (q-1) i (by omega);rw[show q-1+1=q by omega,E1.out,E2.out,<-HX.out,<-HY.out] at e;rw[e];exact this.drew
        ·rcases bT k q with h'|h'
         ·have:k=q-1:=by omega
          rw[this,<-HX.out,<-HY.out];exact hlt'.out
         ·exact HK.out k h' k2
      ·have hkl0:klt x y=false:=by simpa using hkl
       have hlt':=hid ((C.S.tot y x (by have:=HYX.out;omega)).resolve_right (fun h=>hkl ((C.iff y x HYX.out).2 h)));rw[hkl0];clear hkl;have hsorted:=hid (QE (j:=q) (i:=i) (a:=a) (f:=h) (lt:=lt) (by have:=HM.out.srt;rwa[gU (by omega)] at this) (by omega) (by omega)
        (fun k k1 k2=>by
         have e:lt (h (q-1)) (h i):=by rw[<-HX.out,<-HY.out];exact hlt'.out
         rcases bT k (q-1) with h'|h'
         ·have hs:=HM.out.srt;rw[gU (by omega)] at hs;exact C.S.tr _ _ _ (hs k (q-1) k1 h' (by omega)) e
         ·have:k=q-1:=by omega
          rw[this];exact e) HK.out)
       have hfrom:=hid ((hfm.wide (aA a) (show i<=i+1 by omega)).trans (QD h a q i (by omega) (by omega)));clear c1 c2 f1 f2 hdat hgr;go_wp2;have hg:=HG.out
       go_roundg (b-(i+1))
       case measure=>omega
       case rel=>exact⟨i+1,_,by omega,.inl (by omega),rfl,by go_num,hd1,hid (by rw[gU (by omega)];exact⟨hfrom.out,hsorted.out⟩),hg1⟩
    ·have hqe:q=a:=by omega
     have t1:decide (a<q)=false:=by simp;omega
     have hsorted:=hid (QE (j:=q) (i:=i) (a:=a) (f:=h) (lt:=lt) (by have:=HM.out.srt;rwa[gU (by omega)] at this) (by omega) (by omega) (fun k k1 k2=>by omega) HK.out);have hfrom:=hid ((hfm.wide (aA a) (show i<=i+1 by omega)).trans (QD h a q i (by omega) (by omega)));clear hqe;go_wp2
     go_quiet (fail)
     go_wp2;have hg:=HG.out
     go_roundg (b-(i+1))
     case measure=>omega
     case rel=>exact⟨i+1,_,by omega,.inl (by omega),rfl,by go_num,hdat.drewN _,hid (by rw[gU (by omega)];exact⟨hfrom.out,hsorted.out⟩),aEz hgr _⟩
  ·go_wp2
   go_end0
   refine⟨rfl,⟨h,?_,hdat⟩,hgr⟩;have:=HM.out;rcases hi2 with h'|h'
   ·rwa[show min i b=b by omega] at this
   ·exact⟨(HM.out.frm.wide (aA _) (by omega)),gM.tiny _ _ _ (by omega)⟩
theorem aE3 (f:Nat->Int) (a:Nat):cA f a (a+1) (a+1)=f:=by
 funext k;unfold cA
 rw[if_neg (by omega)]
 by_cases h:a+(a+1-(a+1))<=k/\k<a+1
 ·rw[if_pos h];congr 1;omega
 ·rw[if_neg h]
theorem aE4 (f:Nat->Int) (a p:Nat) (h:a<=p):cA f a (a+1) (p+1+1)=gH (gH (cA f a (a+1) (p+1)) p (cA f a (a+1) (p+1) (p+1))) (p+1) (cA f a (a+1) (p+1) p):=by
 have e1:cA f a (a+1) (p+1) (p+1)=f (p+1):=by unfold cA;rw[if_neg (by omega),if_neg (by omega)]
 have e2:cA f a (a+1) (p+1) p=f a:=by
  unfold cA;rw[if_neg (by omega),if_pos (by omega)];congr 1;omega
 rw[e1,e2]
 funext k
 unfold gH
 by_cases h1:k=p+1
 ·rw[if_pos h1];unfold cA;rw[if_neg (by omega),if_pos (by omega)];congr 1;omega
 ·rw[if_neg h1]
  by_cases h2:k=p
  ·rw[if_pos h2];unfold cA;rw[if_pos (by omega)];congr 1;omega
  ·rw[if_neg h2];unfold cA
   by_cases h3:a<=k/\k<p
   ·rw[if_pos (by omega),if_pos (by omega)]
   ·rw[if_neg (by omega),if_neg (by omega),if_neg (by omega),if_neg (by omega)]
theorem aE5 (g cap n a m b bx:Nat) (hm:m=a+1) (f:Nat->Int) (klt:Int->Int->Bool) (lt:Int->Int->Prop) (w:World) (hd:Dat w g cap n f) (hn:n<=1000000) (_hcap:cap<=maxLen) (hbn:b<=n)
  (hf:InR n f) (hp:lC lt f a (a+1) b) (hc:pO w g n bx klt) (C:Cmp lt klt):
  Calls Tryz.prog 212 #[.slice (some ⟨g,0,none⟩) n cap,.int .i64 (a:Int),.int .i64 (m:Int),.int .i64 (b:Int),nE bx] w fun e w'=>
   e=.returned (.tuple #[])/\(∃h,kX lt f h a b/\Dat w' g cap n h)/\w.grownBy w' (some g):=by
 unfold maxLen at _hcap;unfold nE;have hab:=hp.mb;have HCM:=hid hc;have HP:=hid hp;clear hc hp;have t0:((m:Int)-(a:Int)==1)=true:=by rw[beq_iff_eq];omega
 have hma:(m:Int)=(a:Int)+1:=by omega
 have hmn:m<n:=by omega
 have ham:a<m:=by omega
 have HMA:=hid hma;have HM0:=hid hm;clear hm hma;go_enter Tryz.func212,Tryz.ntmps212;go_wp2
 go_loopg [10,11] (b-m) (fun gh i j wr=>∃p q:Nat,m<=p/\p<=q/\q<=b/\gh=q-p/\i=.int .i64 p/\j=.int .i64 q/\Dat wr g cap n f/\
   Hid (∀k,m<=k->k<p->lt (f k) (f a))/\Hid (∀k,q<=k->k<b->lt (f a) (f k))/\w.grownBy wr (some g))
 case atStart=>have hm:=HM0.out;exact⟨m,b,aA _,by omega,aA _,rfl,rfl,rfl,hd,hid (fun k h1 h2=>by omega),hid (fun k h1 h2=>by omega),uI _ _⟩
 case round=>
  obtain⟨p,q,hp1,hpq,hqb,hg,rfl,rfl,hdat,HL,HH,hgr⟩:=hrel;have HG:=hid hg;clear hg;have hap:a+1<=p:=by have:=HM0.out;omega
  by_cases hlt:p<q
  ·obtain⟨hh,hhe⟩:∃hh,hh=(p+q)/2:=⟨_,rfl⟩;have h1:p<=hh:=by omega
   have h2:hh<q:=by omega
   have c1:=hdat.cell (k:=hh) (by omega);have c2:=hdat.cell (k:=a) (by omega);have b1:=hf hh (by omega);have b2:=hf a (by omega);have E:=hid hhe;have e0:((p:Int)+(q:Int))/2=((hh:Nat):Int):=by omega
   clear hhe;obtain⟨x,hx⟩:∃x,x=f hh:=⟨_,rfl⟩;obtain⟨y,hy⟩:∃y,y=f a:=⟨_,rfl⟩;rw[<-hx] at c1 b1;rw[<-hy] at c2 b2;have HX:=hid hx;have HY:=hid hy;clear hx hy;have s1:hh<n:=by omega
   have s2:a<n:=by omega
   go_wp2
   go_cut [50] (fun s50 wx=>s50=.bool (klt x y)/\Dat wx g cap n f/\w.grownBy wx (some g))
   case first=>
    go_still_tail 9,(by kernel_rfl)
    change wpList _ _ _ _ _ wr.drew;have hdw:=hdat.drew;have hgw:=nC hgr;generalize wr.drew=wr2 at*
    go_wp2_with (go_at_call 163;refine(HCM.out _ hgw x y b1.1 b1.2 b2.1 b2.2).mono ?_;rintro e w2 ⟨c,rfl,hc,hb⟩);go_meet;exact⟨rfl,hdw.grown (rJ (row:=none) hb) (by simp),dS hgw (rJ hb)⟩
   case rest=>
    obtain⟨rfl,hd1,hg1⟩:=hcut;have hyx:f a<f hh:=HP.out.ne a hh (aA _) (by omega) (by omega) (by omega);have HYX:=hid hyx;clear hyx;clear c1 c2 hdat hgr
    by_cases hkl:klt x y=true
    ·have hl:=hid (aEt (h:=hh) C.S HP.out (by omega) ((C.iff _ _ HYX.out).1 (by rw[<-HX.out,<-HY.out];exact hkl)));rw[hkl];go_wp2;have hg:=HG.out
     go_roundg (q-(hh+1))
     case measure=>omega
     case rel=>exact⟨hh+1,q,by omega,by omega,hqb,rfl,by go_num,rfl,hd1,hid (fun k h1 h2=>hl.out k (by have:=HM0.out;omega) h2),HH,hg1⟩
    ·have hl:=hid (aEu (h:=hh) C.S HP.out (by omega) (by omega) (fun h=>hkl (by rw[HX.out,HY.out];exact(C.iff _ _ HYX.out).2 h)));have hkl0:klt x y=false:=by simpa using hkl
     rw[hkl0];go_wp2;have hg:=HG.out
     go_roundg (hh-p)
     case measure=>omega
     case rel=>exact⟨p,hh,by omega,by omega,by omega,rfl,rfl,rfl,hd1,HL,hl,hg1⟩
  ·have hpe:q=p:=by omega
   subst hpe;have HM:=hid (aEp HP.out hap hqb (fun k h1 h2=>HL.out k (by have:=HM0.out;omega) h2) HH.out);clear HL HH;go_wp2
   go_loopg [13] (q-1-a) (fun gh k wr=>∃p:Nat,a<=p/\p<q/\gh=q-1-p/\k=.int .i64 p/\Dat wr g cap n (cA f a (a+1) (p+1))/\w.grownBy wr (some g))
   case atStart=>exact⟨a,aA _,by omega,rfl,rfl,by rw[aE3];exact hdat,hgr⟩
   case round=>
    clear hdat hgr;obtain⟨p,hp2,hp3,hg2,rfl,hdat,hgr⟩:=hrel;have HG2:=hid hg2;clear hg2
    by_cases hlt2:p+1<q
    ·have t1:decide ((p:Int)<(q:Int)-1)=true:=by simp;omega
     have c1:=hdat.cell (k:=p) (by omega);have c2:=hdat.cell (k:=p+1) (by omega);have f1:=hdat.free p;have f2:=hdat.free (p+1);have e:=aE4 f a p hp2;obtain⟨x,hx⟩:∃x,x=cA f a (a+1) (p+1) p:=⟨_,rfl⟩;obtain⟨y,hy⟩:∃y,y=cA f a (a+1) (p+1) (p+1):=⟨_,rfl⟩;rw[<-hx] at c1 e;rw[<-hy] at c2 e;have E3:=hid e;clear hx hy e;have s3:p+1<n:=by omega
     have s4:p<n:=by omega
     have hne:p≠p+1:=by omega
     go_wp2
     go_region
     all_goals go_wp2
     have hg2:=HG2.out
     go_roundg (q-1-(p+1))
     case measure=>omega
     case rel=>
      refine⟨p+1,by omega,by omega,rfl,by go_num,?_,nC (dS (dS hgr (eM _ _ _ _)) (eM _ _ _ _))⟩;rw[E3.out];exact((hdat.set p y).set (p+1) x).drew
    ·have hpe:p=q-1:=by omega
     have t1:decide ((p:Int)<(q:Int)-1)=false:=by simp;omega
     have e1:p+1=q:=by omega
     rw[e1] at hdat;clear hpe e1;go_wp2;refine gJ (qX rfl _ _ _) rfl ?_;exact⟨rfl,⟨_,HM.out,hdat⟩,hgr⟩
theorem aE6 (f:Nat->Int) (m:Nat):cA f m m (m+1)=f:=by
 funext k;unfold cA
 by_cases h:m<=k/\k<m+(m+1-m)
 ·rw[if_pos h];congr 1;omega
 ·rw[if_neg h,if_neg (by omega)]
theorem aE7 (f:Nat->Int) (q m:Nat) (h:q+1<=m):cA f q m (m+1)=gH (gH (cA f (q+1) m (m+1)) (q+1) (cA f (q+1) m (m+1) q)) q (cA f (q+1) m (m+1) (q+1)):=by
 have e1:cA f (q+1) m (m+1) q=f q:=by unfold cA;rw[if_neg (by omega),if_neg (by omega)]
 have e2:cA f (q+1) m (m+1) (q+1)=f m:=by
  unfold cA;rw[if_pos (by omega)];congr 1;omega
 rw[e1,e2]
 funext k
 unfold gH
 by_cases h1:k=q
 ·rw[if_pos h1];unfold cA;rw[if_pos (by omega)];congr 1;omega
 ·rw[if_neg h1]
  by_cases h2:k=q+1
  ·rw[if_pos h2];unfold cA;rw[if_neg (by omega),if_pos (by omega)];congr 1;omega
  ·rw[if_neg h2];unfold cA
   by_cases h3:q+1<k/\k<=m
   ·rw[if_neg (by omega),if_pos (by omega),if_neg (by omega),if_pos (by omega)]
   ·rw[if_neg (by omega),if_neg (by omega),if_neg (by omega),if_neg (by omega)]
theorem aE8 (g cap n a m b bx:Nat) (hm:b=m+1) (h2:a+1<m) (f:Nat->Int) (klt:Int->Int->Bool) (lt:Int->Int->Prop) (w:World) (hd:Dat w g cap n f) (hn:n<=1000000) (_hcap:cap<=maxLen) (hbn:b<=n)
  (hf:InR n f) (hp:lC lt f a m (m+1)) (hc:pO w g n bx klt) (C:Cmp lt klt):
  Calls Tryz.prog 212 #[.slice (some ⟨g,0,none⟩) n cap,.int .i64 (a:Int),.int .i64 (m:Int),.int .i64 (b:Int),nE bx] w fun e w'=>
   e=.returned (.tuple #[])/\(∃h,kX lt f h a (m+1)/\Dat w' g cap n h)/\w.grownBy w' (some g):=by
 unfold maxLen at _hcap;unfold nE;have HCM:=hid hc;have HP:=hid hp;clear hc hp;have t0:((m:Int)-(a:Int)==1)=false:=by rw[beq_eq_false_iff_ne];omega
 have t1:((b:Int)-(m:Int)==1)=true:=by rw[beq_iff_eq];omega
 have hmb:m<b:=by omega
 have hmn:m<n:=by omega
 have HM0:=hid hm;clear hm;go_enter Tryz.func212,Tryz.ntmps212;go_wp2
 go_loopg [14,15] (m-a) (fun gh i j wr=>∃p q:Nat,a<=p/\p<=q/\q<=m/\gh=q-p/\i=.int .i64 p/\j=.int .i64 q/\Dat wr g cap n f/\
   Hid (∀k,a<=k->k<p->lt (f k) (f m))/\Hid (∀k,q<=k->k<m->lt (f m) (f k))/\w.grownBy wr (some g))
 case atStart=>exact⟨a,m,aA _,by omega,aA _,rfl,rfl,rfl,hd,hid (fun k h1 h2=>by omega),hid (fun k h1 h2=>by omega),uI _ _⟩
 case round=>
  obtain⟨p,q,hp1,hpq,hqb,hg,rfl,rfl,hdat,HL,HH,hgr⟩:=hrel;have HG:=hid hg;clear hg
  by_cases hlt:p<q
  ·obtain⟨hh,hhe⟩:∃hh,hh=(p+q)/2:=⟨_,rfl⟩;have h1:p<=hh:=by omega
   have h2:hh<q:=by omega
   have c1:=hdat.cell (k:=m) (by omega);have c2:=hdat.cell (k:=hh) (by omega);have b1:=hf m (by omega);have b2:=hf hh (by omega);have E:=hid hhe;have e0:((p:Int)+(q:Int))/2=((hh:Nat):Int):=by omega
   clear hhe;obtain⟨x,hx⟩:∃x,x=f m:=⟨_,rfl⟩;obtain⟨y,hy⟩:∃y,y=f hh:=⟨_,rfl⟩;rw[<-hx] at c1 b1;rw[<-hy] at c2 b2;have HX:=hid hx;have HY:=hid hy;clear hx hy;have s1:hh<n:=by omega
   have s2:m<n:=by omega
   go_wp2
   go_cut [103] (fun s103 wx=>s103=.bool (!klt x y)/\Dat wx g cap n f/\w.grownBy wx (some g))
   case first=>
    go_still_tail 9,(by kernel_rfl)
    change wpList _ _ _ _ _ wr.drew;have hdw:=hdat.drew;have hgw:=nC hgr;generalize wr.drew=wr2 at*
    go_wp2_with (go_at_call 163;refine(HCM.out _ hgw x y b1.1 b1.2 b2.1 b2.2).mono ?_;rintro e w2 ⟨c,rfl,hc,hb⟩);go_meet;exact⟨rfl,hdw.grown (rJ (row:=none) hb) (by simp),dS hgw (rJ hb)⟩
   case rest=>
    obtain⟨rfl,hd1,hg1⟩:=hcut;have hyx:f hh<f m:=HP.out.ne hh m (by omega) (by omega) (by omega) (by omega);have HYX:=hid hyx;clear hyx;clear c1 c2 hdat hgr
    by_cases hkl:klt x y=true
    ·have hl:=hid (aEw (h:=hh) C.S HP.out (by omega) ((C.iff _ _ HYX.out).1 (by rw[<-HX.out,<-HY.out];exact hkl)));rw[hkl];go_wp2;have hg:=HG.out
     go_roundg (hh-p)
     case measure=>omega
     case rel=>exact⟨p,hh,by omega,by omega,by omega,rfl,rfl,rfl,hd1,HL,hl,hg1⟩
    ·have hl:=hid (aEv (h:=hh) C.S HP.out (by omega) (by omega) (fun h=>hkl (by rw[HX.out,HY.out];exact(C.iff _ _ HYX.out).2 h)));have hkl0:klt x y=false:=by simpa using hkl
     rw[hkl0];go_wp2;have hg:=HG.out
     go_roundg (q-(hh+1))
     case measure=>omega
     case rel=>exact⟨hh+1,q,by omega,by omega,hqb,rfl,by go_num,rfl,hd1,hl,HH,hg1⟩
  ·have hpe:q=p:=by omega
   subst hpe;have HM:=hid (aEq HP.out hp1 hqb HL.out HH.out);clear HL HH;go_wp2
   go_loopg [17] (m-q) (fun gh k wr=>∃p:Nat,q<=p/\p<=m/\gh=p-q/\k=.int .i64 p/\Dat wr g cap n (cA f p m (m+1))/\w.grownBy wr (some g))
   case atStart=>exact⟨m,hqb,aA _,rfl,rfl,by rw[aE6];exact hdat,hgr⟩
   case round=>
    clear hdat hgr;obtain⟨p,hp2,hp3,hg2,rfl,hdat,hgr⟩:=hrel;have HG2:=hid hg2;clear hg2
    by_cases hlt2:q<p
    ·have t1:decide (q<p)=true:=by simpa using hlt2
     have c1:=hdat.cell (k:=p) (by omega);have c2:=hdat.cell (k:=p-1) (by omega);have f1:=hdat.free p;have f2:=hdat.free (p-1);have e:=aE7 f (p-1) m (by omega);rw[show p-1+1=p by omega] at e;obtain⟨x,hx⟩:∃x,x=cA f p m (m+1) p:=⟨_,rfl⟩;obtain⟨y,hy⟩:∃y,y=cA f p m (m+1) (p-1):=⟨_,rfl⟩;rw[<-hx] at c1 e;rw[<-hy] at c2 e;have E3:=hid e;clear hx hy e;have s1:aI.wrap ((p:Int)-1)=(p:Int)-1:=tS _ (by omega);have s2:((p:Int)-1).toNat=p-1:=by omega
     have s3:(0:Int)<=(p:Int)-1:=by omega
     have s4:(p:Int)-1<(n:Int):=by omega
     have s5:p<n:=by omega
     have s6:(1:Int)<=(p:Int):=by omega
     have s7:1<=p:=by omega
     have s8:0<p:=by omega
     have s9:(p:Int)<=(n:Int):=by omega
     have s10:p<=n:=by omega
     have hne:p≠p-1:=by omega
     go_wp2
     go_region
     all_goals go_wp2
     have hg2:=HG2.out
     go_roundg (p-1-q)
     case measure=>omega
     case rel=>
      refine⟨p-1,by omega,by omega,rfl,congrArg _ (by omega),?_,nC (dS (dS hgr (eM _ _ _ _)) (eM _ _ _ _))⟩;rw[E3.out];exact((hdat.set p y).set (p-1) x).drew
    ·have hpe:p=q:=by omega
     have t1:decide (q<p)=false:=by simp;omega
     rw[hpe] at hdat;clear hpe;go_wp2;refine gJ (qX rfl _ _ _) rfl ?_;exact⟨rfl,⟨_,HM.out,hdat⟩,hgr⟩
theorem aE9 (f:Nat->Int) (s m t:Nat) (h:s=m\/m=t) (hst:s<=m) (hmt:m<=t):cA f s m t=f:=by
 funext k;unfold cA
 rcases h with h|h
 ·subst h
  by_cases h1:s<=k/\k<s+(t-s)
  ·rw[if_pos h1];congr 1;omega
  ·rw[if_neg h1,if_neg (by omega)]
 ·subst h;rw[if_neg (by omega)]
  by_cases h1:s+(m-m)<=k/\k<m
  ·rw[if_pos h1];congr 1;omega
  ·rw[if_neg h1]
def QG (g cap n bx:Nat) (klt:Int->Int->Bool) (lt:Int->Int->Prop) (N:Nat):Prop:=
 ∀(a m b:Nat) (f:Nat->Int) (w:World),b<=a+N->Dat w g cap n f->b<=n->InR n f->lC lt f a m b->pO w g n bx klt->
  Calls Tryz.prog 212 #[.slice (some ⟨g,0,none⟩) n cap,.int .i64 (a:Int),.int .i64 (m:Int),.int .i64 (b:Int),nE bx] w fun e w'=>
   e=.returned (.tuple #[])/\(∃h,kX lt f h a b/\Dat w' g cap n h)/\w.grownBy w' (some g)
theorem aFa (g cap n a m b bx:Nat) (h1:a+1<m) (h2:m+1<b) (f:Nat->Int) (klt:Int->Int->Bool) (lt:Int->Int->Prop) (w:World) (hd:Dat w g cap n f) (hn:n<=1000000) (hcap:cap<=maxLen) (hbn:b<=n)
  (hf:InR n f) (hp:lC lt f a m b) (hc:pO w g n bx klt) (C:Cmp lt klt) (N:Nat) (hN:b<=a+(N+1)) (ih:QG g cap n bx klt lt N):
  Calls Tryz.prog 212 #[.slice (some ⟨g,0,none⟩) n cap,.int .i64 (a:Int),.int .i64 (m:Int),.int .i64 (b:Int),nE bx] w fun e w'=>
   e=.returned (.tuple #[])/\(∃h,kX lt f h a b/\Dat w' g cap n h)/\w.grownBy w' (some g):=by
 unfold maxLen at hcap;unfold nE;have HCM:=hid hc;have HP:=hid hp;have IH:=hid ih;clear hc hp ih;have t0:((m:Int)-(a:Int)==1)=false:=by rw[beq_eq_false_iff_ne];omega
 have t1:((b:Int)-(m:Int)==1)=false:=by rw[beq_eq_false_iff_ne];omega
 have hmb:m<b:=by omega
 have ham:a<m:=by omega
 have hmn:m<n:=by omega
 obtain⟨mid,hmid⟩:∃mid,mid=(a+b)/2:=⟨_,rfl⟩;have e0:((a:Int)+(b:Int))/2=((mid:Nat):Int):=by omega
 have q1:a<mid:=by omega
 have q2:mid<b:=by omega
 have q3:b<=mid+mid+1-a:=by omega
 obtain⟨nn,hnn⟩:∃nn,nn=mid+m:=⟨_,rfl⟩;obtain⟨pv,hpv⟩:∃pv,pv=nn-1:=⟨_,rfl⟩;have e10:(mid:Int)+(m:Int)=((nn:Nat):Int):=by omega
 have e11:(nn:Int)-1=((pv:Nat):Int):=by omega
 have q9:nn<=2*n:=by omega
 have q10:1<=nn:=by omega
 have q11:pv<=2*n:=by omega
 have q12:m<=nn:=by omega
 have HNN:=hid hnn;have HPV:=hid hpv;have HMID:=hid hmid;clear hmid hnn hpv;go_enter Tryz.func212,Tryz.ntmps212
 go_upto_if 140 with fail
 go_cut [20,21] (fun s20 s21 wx=>∃lo hi:Nat,s20=.int .i64 lo/\s21=.int .i64 hi/\((mid<m/\lo+b=mid+m/\hi=mid)\/(m<=mid/\lo=a/\hi=m))/\w=wx)
 case first=>as_aux_lemma=>
  by_cases hq:mid<m
  ·have t2:decide (mid<m)=true:=by simpa using hq
   have e12:(nn:Int)-(b:Int)=(((nn-b:Nat):Nat):Int):=by have:=HNN.out;omega
   go_wp2_with fail;go_meet;exact⟨nn-b,mid,rfl,rfl,.inl ⟨hq,by have:=HNN.out;omega,rfl⟩,rfl⟩
  ·have t2:decide (mid<m)=false:=by simpa using hq
   go_wp2_with fail;go_meet;exact⟨a,m,rfl,rfl,.inr ⟨by omega,rfl,rfl⟩,rfl⟩
 case rest=>
  obtain⟨lo,hi,rfl,rfl,hlh,rfl⟩:=hcut;have q4:lo<=hi:=by omega
  have q5:a<=lo:=by omega
  have q6:hi<=m:=by omega
  have q7:hi<=mid:=by omega
  have q8:nn<=b+lo:=by have:=HNN.out;omega
  have q13:hi+m<=nn:=by have:=HNN.out;omega
  have HLH:=hid hlh;clear hlh;go_wp2_with fail
  go_loopg [20,21] (hi-lo) (fun gh i j wr=>∃p q:Nat,lo<=p/\p<=q/\q<=hi/\gh=q-p/\i=.int .i64 p/\j=.int .i64 q/\Dat wr g cap n f/\
   Hid (∀k,lo<=k->k<p->lt (f k) (f (nn-1-k)))/\Hid (∀k,q<=k->k<hi->lt (f (nn-1-k)) (f k))/\w.grownBy wr (some g))
  case atStart=>exact⟨lo,hi,aA _,by omega,aA _,rfl,rfl,rfl,hd,hid (fun k h1 h2=>by omega),hid (fun k h1 h2=>by omega),uI _ _⟩
  case round=>
   obtain⟨p,q,hp1,hpq,hqb,hg,rfl,rfl,hdat,HL,HH,hgr⟩:=hrel;have HG:=hid hg;clear hg
   by_cases hlt:p<q
   ·obtain⟨hh,hhe⟩:∃hh,hh=(p+q)/2:=⟨_,rfl⟩;have h1:p<=hh:=by omega
    have h2:hh<q:=by omega
    obtain⟨d,hde⟩:∃d,d=nn-1-hh:=⟨_,rfl⟩;have d1:m<=d:=by omega
    have d2:d<b:=by omega
    have c1:=hdat.cell (k:=d) (by omega);have c2:=hdat.cell (k:=hh) (by omega);have b1:=hf d (by omega);have b2:=hf hh (by omega);have E:=hid hhe;have ED:=hid hde;have e0:((p:Int)+(q:Int))/2=((hh:Nat):Int):=by omega
    have e1:(pv:Int)-(hh:Int)=((d:Nat):Int):=by have:=HPV.out;omega
    have q14:hh<=pv:=by have:=HPV.out;omega
    have e2:aI.wrap ((d:Nat):Int)=((d:Nat):Int):=tS _ (by omega);clear hhe hde;obtain⟨x,hx⟩:∃x,x=f d:=⟨_,rfl⟩;obtain⟨y,hy⟩:∃y,y=f hh:=⟨_,rfl⟩;rw[<-hx] at c1 b1;rw[<-hy] at c2 b2;have HX:=hid hx;have HY:=hid hy;clear hx hy;have s1:hh<n:=by omega
    have s2:d<n:=by omega
    go_wp2_with fail
    go_cut [171] (fun s171 wx=>s171=.bool (!klt x y)/\Dat wx g cap n f/\w.grownBy wx (some g))
    case first=>as_aux_lemma=>
     go_still_tail 11,(by kernel_rfl)
     change wpList _ _ _ _ _ wr.drew;have hdw:=hdat.drew;have hgw:=nC hgr;generalize wr.drew=wr2 at*
     go_wp2_with (go_at_call 163;refine(HCM.out _ hgw x y b1.1 b1.2 b2.1 b2.2).mono ?_;rintro e w2 ⟨c,rfl,hc,hb⟩);go_meet;exact⟨rfl,hdw.grown (rJ (row:=none) hb) (by simp),dS hgw (rJ hb)⟩
    case rest=>
     obtain⟨rfl,hd1,hg1⟩:=hcut;have hyx:f hh<f d:=HP.out.ne hh d (by omega) (by omega) (by omega) (by omega);have HYX:=hid hyx;clear hyx;clear c1 c2 hdat hgr
     by_cases hkl:klt x y=true
     ·have hk:=(C.iff _ _ HYX.out).1 (by rw[<-HX.out,<-HY.out];exact hkl);rw[ED.out] at hk;have hl:=hid (aEy (c:=hh) (hi:=hi) (n:=nn) C.S HP.out (by omega) (by omega) (by omega) q6 (fun k hk=>by omega) hk);clear hk;rw[hkl];go_wp2_with fail;have hg:=HG.out
      go_roundg (hh-p)
      case measure=>omega
      case rel=>exact⟨p,hh,by omega,by omega,by omega,rfl,rfl,rfl,hd1,HL,hl,hg1⟩
     ·have hk:¬lt (f d) (f hh):=(fun h=>hkl (by rw[HX.out,HY.out];exact(C.iff _ _ HYX.out).2 h));rw[ED.out] at hk;have hl:=hid (aEx (c:=hh) (lo:=lo) (n:=nn) C.S HP.out q5 (by omega) (by omega) (by omega) (by omega) (by omega) hk);clear hk;have hkl0:klt x y=false:=by simpa using hkl
      rw[hkl0];go_wp2_with fail;have hg:=HG.out
      go_roundg (q-(hh+1))
      case measure=>omega
      case rel=>exact⟨hh+1,q,by omega,by omega,hqb,rfl,by go_num,rfl,hd1,hl,HH,hg1⟩
   ·have hpe:q=p:=by omega
    subst hpe;obtain⟨r1,r2,r3,r4,r5,r6⟩:=aEr C.S HP.out HMID.out HLH.out hp1 hqb (by rw[<-HNN.out];exact HL.out) (by rw[<-HNN.out];exact HH.out);have r7:q<=mid:=by omega
    have R:=aEs HP.out r1 r2 r7 r4 r5 r6;obtain⟨t,hte⟩:∃t,t=mid+m-q:=⟨_,rfl⟩;rw[<-hte] at R r3 r4;clear r5 r6;have e2:(nn:Int)-(q:Int)=((t:Nat):Int):=by have:=HNN.out;omega
    have e3:aI.wrap ((t:Nat):Int)=((t:Nat):Int):=tS _ (by omega);have r9:q<=nn:=by have:=HNN.out;omega
    have r8:mid<=t:=by omega
    have HT:=hid hte;clear hte;obtain⟨h,hh⟩:∃h,h=cA f q m t:=⟨_,rfl⟩;rw[<-hh] at R;obtain⟨R1,R2,R3,R4,R5,R6,R7,R8⟩:=R;have K1:=hid R1;have K2:=hid R2;have K3:=hid R3;have K4:=hid R4;have K5:=hid R5;have K6:=hid R6;have K7:=hid R7;have K8:=hid R8;have EH:=hid hh;clear R1 R2 R3 R4 R5 R6 R7 R8 hh HL HH;have hin:InR n h:=hf.from hbn K1.out;go_upto_region 39 with fail
    go_cut [185] (fun s185 wx=>s185=.bool (decide (q<m)&&decide (m<t))/\wr=wx)
    case first=>as_aux_lemma=>
     by_cases hx:q<m
     ·have t2:decide (q<m)=true:=by simpa using hx
      go_wp2_with fail;go_meet;exact⟨by simp[hx],rfl⟩
     ·have t2:decide (q<m)=false:=by simpa using hx
      go_wp2_with fail;go_meet;exact⟨by simp[hx],rfl⟩
    case rest=>
    obtain⟨rfl,rfl⟩:=hcut
    go_upto_if 185 with fail
    go_cut [] (fun wx=>Dat wx g cap n h/\w.grownBy wx (some g))
    case first=>as_aux_lemma=>
     by_cases hx:q<m/\m<t
     ·have t2:(decide (q<m)&&decide (m<t))=true:=by simpa using hx
      have hx1:=hx.1;have hx2:=hx.2;clear hx;rw[t2];go_wp2_with fail;refine(aE0 g cap n _ _ _ f _ _ hdat hn hcap (by omega) (by omega) (by omega)).mono ?_;rintro e w1 ⟨rfl,hd1,hg1⟩;go_wp2;go_meet;exact⟨by rw[EH.out];exact hd1,dS hgr hg1⟩
     ·have hdh:Dat wr g cap n h:=by rw[EH.out,aE9 f q m t (by omega) (by omega) (by omega)];exact hdat
      have t2:(decide (q<m)&&decide (m<t))=false:=by simpa using hx
      clear hx;rw[t2];go_wp2_with fail;go_meet;exact⟨hdh,hgr⟩
    case rest=>
    obtain⟨hd1,hg1⟩:=hcut;clear hdat hgr;clear hf;obtain⟨wa,hwa⟩:∃wa:World,wa=wc:=⟨_,rfl⟩;rw[<-hwa] at hd1 hg1;rw[<-hwa];clear hwa;go_upto_region 41 with fail
    go_cut [199] (fun s199 wx=>s199=.bool (decide (a<q)&&decide (q<mid))/\wa=wx)
    case first=>as_aux_lemma=>
     by_cases hx:a<q
     ·have t2:decide (a<q)=true:=by simpa using hx
      go_wp2_with fail;go_meet;exact⟨by simp[hx],rfl⟩
     ·have t2:decide (a<q)=false:=by simpa using hx
      go_wp2_with fail;go_meet;exact⟨by simp[hx],rfl⟩
    case rest=>
    obtain⟨rfl,rfl⟩:=hcut
    go_upto_if 199 with fail
    go_cut [] (fun wx=>(∃h1,kX lt h h1 a mid/\Dat wx g cap n h1)/\w.grownBy wx (some g))
    case first=>as_aux_lemma=>
     by_cases hx:a<q/\q<mid
     ·have t2:(decide (a<q)&&decide (q<mid))=true:=by simpa using hx
      have hx1:=hx.1;have hx2:=hx.2;clear hx;rw[t2];go_wp2_with fail;refine(IH.out a q mid h _ (by omega) hd1 (by omega) hin ⟨hx1,hx2,K2.out,K3.out,K6.out⟩ (HCM.out.later hg1)).mono ?_;rintro e w1 ⟨rfl,hd2,hg2⟩;go_wp2;go_meet;exact⟨hd2,dS hg1 hg2⟩
     ·have t2:(decide (a<q)&&decide (q<mid))=false:=by simpa using hx
      have hm0:kX lt h h a mid:=⟨iU.refl _ _ _,by
       rcases bT a q with hx1|hx1
       ·have:mid=q:=by omega
        rw[this];exact K2.out
       ·have:a=q:=by omega
        rw[this];exact K3.out⟩
      have HM0:=hid hm0;clear hx hm0;rw[t2];go_wp2_with fail;go_meet;exact⟨⟨h,HM0.out,hd1⟩,hg1⟩
    case rest=>
    obtain⟨⟨f2,hm2,hd2⟩,hg2⟩:=hcut;have M2:=hid hm2;have hin2:InR n f2:=hin.from (by omega) hm2.frm;obtain⟨wb,hwb⟩:∃wb:World,wb=wc:=⟨_,rfl⟩;rw[<-hwb] at hd2 hg2;rw[<-hwb];clear hwb hm2 hd1 hg1;go_upto_region 43 with fail
    go_cut [213] (fun s213 wx=>s213=.bool (decide (mid<t)&&decide (t<b))/\wb=wx)
    case first=>as_aux_lemma=>
     by_cases hx:mid<t
     ·have t2:decide (mid<t)=true:=by simpa using hx
      go_wp2_with fail;go_meet;exact⟨by simp[hx],rfl⟩
     ·have t2:decide (mid<t)=false:=by simpa using hx
      go_wp2_with fail;go_meet;exact⟨by simp[hx],rfl⟩
    case rest=>
    obtain⟨rfl,rfl⟩:=hcut
    by_cases hx:mid<t/\t<b
    ·have t2:(decide (mid<t)&&decide (t<b))=true:=by simpa using hx
     have hx1:=hx.1;have hx2:=hx.2;clear hx;rw[t2];go_wp2_with fail;refine(IH.out mid t b f2 _ (by omega) hd2 (by omega) hin2 ⟨hx1,hx2,K4.out.congr (fun k k1 k2=>M2.out.frm.2 k (by omega)),K5.out.congr (fun k k1 k2=>M2.out.frm.2 k (by omega)),
      fun i j i1 i2 j1 j2=>by rw[M2.out.frm.2 i (by omega),M2.out.frm.2 j (by omega)];exact K7.out i j i1 i2 j1 j2⟩ (HCM.out.later hg2)).mono ?_
     rintro e w1 ⟨rfl,⟨f3,hm3,hd3⟩,hg3⟩;go_wp2
     go_end0
     exact⟨rfl,⟨f3,PZ K1.out (by omega) (by omega) M2.out hm3 K8.out,hd3⟩,dS hg2 hg3⟩
    ·have t2:(decide (mid<t)&&decide (t<b))=false:=by simpa using hx
     have hm3:kX lt f2 f2 mid b:=⟨iU.refl _ _ _,by
      rcases bT mid t with hx1|hx1
      ·have:b=t:=by omega
       rw[this];exact K4.out.congr (fun k k1 k2=>M2.out.frm.2 k (by omega))
      ·have:mid=t:=by omega
       rw[this];exact K5.out.congr (fun k k1 k2=>M2.out.frm.2 k (by omega))⟩
     have M3:=hid hm3;clear hx hm3;rw[t2];go_wp2_with fail
     go_end0
     exact⟨rfl,⟨f2,PZ K1.out (by omega) (by omega) M2.out M3.out K8.out,hd2⟩,hg2⟩
theorem QH (g cap n bx:Nat) (klt:Int->Int->Bool) (lt:Int->Int->Prop) (hn:n<=1000000) (hcap:cap<=maxLen) (C:Cmp lt klt):∀N,QG g cap n bx klt lt N:=by
 intro N
 induction N with
 |zero=>intro a m b f w hb hd hbn hf hp hc;have:=hp.am;have:=hp.mb;omega
 |succ N ih=>
  intro a m b f w hb hd hbn hf hp hc;have h1:=hp.am;have h2:=hp.mb
  by_cases e1:m=a+1
  ·exact aE5 g cap n a m b bx e1 f klt lt w hd hn hcap hbn hf (by rw[<-e1];exact hp) hc C
  ·by_cases e2:b=m+1
   ·have:=aE8 g cap n a m b bx e2 (by omega) f klt lt w hd hn hcap hbn hf (by rw[<-e2];exact hp) hc C;rw[<-e2] at this;exact this
   ·exact aFa g cap n a m b bx (by omega) (by omega) f klt lt w hd hn hcap hbn hf hp hc C N (by omega) ih
end
end Go.Proofs.YtpgmbhpbgkljdaaGreatDoor
