/-
  Texts put together (part 27): the walks and the plain laws on which the statement stands.
-/
import Derived.Test.YtfckbfofgeilgaaGreatDoorZ22
import Derived.Test.YtfckbfofgeilgaaGreatDoorZ25
set_option maxRecDepth 100000
set_option maxHeartbeats 12800000
set_option linter.unusedVariables false
set_option linter.unusedSimpArgs false
open Go.Proofs.Tryz
open Go.Proofs.Tryz renaming prog->pG
open ByteArray renaming size_append->rG
open Go.RowKit.Below renaming refl->aH
open Go.Value renaming int->bQ
open Go.World.ownsRow renaming kept->yJ
open Int renaming le_refl->lV,toNat_natCast->fL
open List renaming Pairwise->WN,Perm->wV,drop_zero->pI,getElem?_eq_getElem->aN,getElem?_eq_some_iff->eF,getElem?_set_self->bMl,length_set->nW,length_take->aQ,mem_cons->jQ,mem_filter->NT,pairwise_cons->bLs,set_set->bNf,take_sublist->aLo
open List.Pairwise renaming nil->bNd
open List.Perm renaming refl->GZ
open Nat renaming le_refl->aD,sub_zero->sD,zero_le->aO
open Ne renaming symm->bK9
open Option.some renaming inj->cC
namespace Go.Proofs.YtfckbfofgeilgaaGreatDoor
section
open Go.RowKit Go
structure Rdr where
 st:Int
 off:Int
 n:Int
 blk:Int
 last:Int
 got:ByteArray
 text:ByteArray
def bK3 (r:Rdr):List Value:=[.int .i64 r.st,.int .i64 r.off,.int .i64 r.n,.int .i64 r.blk,.int .i64 r.last,.string r.got,.string r.text]
def bK8:Rdr:=⟨0,0,0,0,0,⟨#[]⟩,⟨#[]⟩⟩
structure bL9 (P:List Prt) (o m f e k:Nat):Prop where
 m1:1<=m
 m2:m<1048576
 o1:o<(iH (P.map Prt.t)).size
 cov:yF (gU 0 P) (o:Int) (m:Int)=((f:Int),(e:Int))
 fk:f<=k
 ke:k<=e
 el:e<P.length
def bK5 (P:List Prt) (o m e k:Nat) (s:Int) (d:ByteArray):Rdr:=⟨s,o,m,k,e,bLh P o m k,d⟩
def bMp (P:List Prt) (r:Rdr):Prop:=r=bK8\/∃o m f e k,bL9 P o m f e k/\(r=bK5 P o m e k 1 ⟨#[]⟩\/r=bK5 P o m e k 2 ⟨#[]⟩\/∃p,P[k]? =some p/\r=bK5 P o m e k 3 p.t)
structure bN6 (P:List Prt) (room clock:Int) (H:List Hld) (Rs:List Rdr) (dec:Int):Prop where
 right:jA (gU 0 P)
 few:P.length<=2000
 size:(iH (P.map Prt.t)).size<=1000000000
 shelf:okH room clock H
 texts:∀h∈H,∃(k:Nat) (p:Prt),h.b=(k:Int)/\P[k]? =some p/\h.t=p.t
 r1:1<=Rs.length
 r8:Rs.length<=8
 d0:0<=dec
 d1:dec<=1099511627776
 rdrs:∀r∈Rs,bMp P r
theorem bL9.in {P:List Prt} {o m f e k:Nat} (h:bL9 P o m f e k) (A:jA (gU 0 P)):ahB P f<=o/\min (o+m) (iH (P.map Prt.t)).size<=ahB P (e+1)/\(∀(j:Nat) (p:Prt),P[j]? =some p->f<=j->j<=e->o<ahB P j+p.t.size/\ahB P j<o+m):=by
 obtain⟨D,F,G,-,-,I,J,L⟩:=bO8 A h.m1 h.o1;have d:=h.cov;rw[G] at d
 injection d with e1 e2
 obtain rfl:D=f:=by omega
 obtain rfl:F=e:=by omega
 exact⟨I,J,L⟩
structure okU (room clock:Int) (Hs:List Hld):Prop where
 r:1<=room/\room<=64
 c:0<=clock/\clock<=1099511627776
 len:(Hs.length:Int)<=room
 ord:Hs.Pairwise (fun x y=>y.s<x.s)
 each:∀h∈Hs,0<=h.b/\1<=h.s/\h.s<=clock
 one:Hs.Pairwise (fun x y=>x.b≠y.b)
def byB (d:List Hld):List Hld:=d.foldr (fun h H=>bLf H h) []
theorem bM6:∀{d:List Hld},d.Pairwise (fun x y=>x.b≠y.b)->(byB d).Perm d/\(byB d).Pairwise (fun x y=>x.b<y.b)
 |[],_=>⟨GZ _,bNd⟩
 |h::d,D=>by
  obtain⟨F,G⟩:=bLs.1 D;obtain⟨e,A⟩:=bM6 G;refine⟨(bMm h A).trans ?_,bMv h A⟩;rw[bL5 (fun x I=>bK9 (F x (e.mem_iff.1 I)))];exact e.cons h
theorem okU.perm {room clock:Int} {d:List Hld} (h:okU room clock d):(byB d).Perm d:=(bM6 h.one).1
theorem okU.sorted {room clock:Int} {d:List Hld} (h:okU room clock d):(byB d).Pairwise (fun x y=>x.b<y.b):=(bM6 h.one).2
theorem okU.okH {room clock:Int} {d:List Hld} (h:okU room clock d):okH room clock (byB d):=
 ⟨h.r,h.c,by rw[h.perm.length_eq];exact h.len,h.sorted,fun x e=>h.each x (h.perm.mem_iff.1 e),(h.perm.pairwise_iff (fun{x y} q=>bK9 q)).2 (h.ord.imp (fun{x y} q=>by omega))⟩
theorem bPb {d H:List Hld} (e:d.Pairwise (fun x y=>x.b≠y.b)) (A:H.Pairwise (fun x y=>x.b<y.b)) (D:H.Perm d):H=byB d:=bNx A (bM6 e).2 (D.trans (bM6 e).1.symm)
def bLo (room clock:Int) (d:List Hld) (k:Int) (t:ByteArray):List Hld:=((⟨k,clock+1,t⟩:Hld)::bLc d k).take room.toNat
theorem okU.use {room clock:Int} {d:List Hld} (h:okU room clock d) {k:Int} (t:ByteArray) (F:0<=k) (G:clock+1<=1099511627776):okU room (clock+1) (bLo room clock d k t):=by
 have I:=h.r;have e:(bLo room clock d k t).Sublist (⟨k,clock+1,t⟩::bLc d k):=aLo _ _;refine⟨h.r,⟨by have:=h.c;omega,G⟩,by unfold bLo;rw[aQ];omega,WN.sublist e (bLs.2 ⟨fun y A=>?_,h.ord.filter _⟩),fun x D=>?_,WN.sublist e (bLs.2 ⟨fun y A=>bK9 (of_decide_eq_true (NT.1 A).2),h.one.filter _⟩)⟩
 ·have:=h.each y (NT.1 A).1;show y.s<clock+1;omega
 ·rcases jQ.1 (e.mem D) with rfl|D
  ·exact⟨F,by have:=h.c;show 1<=clock+1;omega,lV _⟩
  ·have:=h.each x (NT.1 D).1;omega
theorem bN8 {room clock:Int} {d:List Hld} (h:okU room clock d) {k:Int} (t:ByteArray) (e:0<=k) (A:clock+1<=1099511627776) (D:((bLc d k).length:Int)+1<=room):bLf (byB d) ⟨k,clock+1,t⟩=byB (bLo room clock d k t):=by
 refine bPb (h.use t e A).one (bMv _ h.sorted) ((bMm _ h.sorted).trans ?_);unfold bLo;rw[List.take_of_length_le (by rw[List.length_cons];omega)];exact(h.perm.filter _).cons _
theorem bRl {room clock:Int} {d:List Hld} (h:okU room clock d) {k:Int} (t:ByteArray) (F:0<=k) (G:clock+1<=1099511627776) (D:∀x∈d,x.b≠k) (O:(d.length:Int)=room) {y:Hld} (I:d[d.length-1]? =some y):bLf (bLc (byB d) y.b) ⟨k,clock+1,t⟩=byB (bLo room clock d k t):=by
 have R:=h.r;refine bPb (h.use t F G).one (bMv _ (h.sorted.filter _)) ((bMm _ (h.sorted.filter _)).trans ?_);unfold bLo;rw[bL5 D,List.take_cons (by omega),show room.toNat-1=d.length-1 by omega];refine wV.cons _ ?_;have e:d=d.take (d.length-1)++[y]:=by
  have:=List.take_append_drop (d.length-1) d;rw[<-eF.1 I |>.2,List.take_append_getElem];rw[show d.length-1+1=d.length by omega,List.take_length]
 have J:bLc d y.b=d.take (d.length-1):=by
  have M:=h.one;generalize d.take (d.length-1)=L at*
  subst e;unfold bLc;rw[List.filter_append,List.filter_cons_of_neg (by simp),List.filter_nil,List.append_nil];exact bL5 fun x A=>(List.pairwise_append.1 M).2.2 x A y List.mem_cons_self
 rw[<-J];refine wV.trans (wV.of_eq (bL5 fun x A=>D x (h.perm.mem_iff.1 (NT.1 A).1))) (h.perm.filter _)
structure Dk where
 clock:Int
 Hs:List Hld
 Rs:List Rdr
 dec:Int
structure bK7 (P:List Prt) (room:Int) (S:Dk):Prop where
 right:jA (gU 0 P)
 few:P.length<=2000
 size:(iH (P.map Prt.t)).size<=1000000000
 shelf:okU room S.clock S.Hs
 texts:∀h∈S.Hs,∃(k:Nat) (p:Prt),h.b=(k:Int)/\P[k]? =some p/\h.t=p.t
 r1:1<=S.Rs.length
 r8:S.Rs.length<=8
 d0:0<=S.dec
 d1:S.dec<=1099511627776
 rdrs:∀r∈S.Rs,bMp P r
def bL0 (P:List Prt) (k:Nat):ByteArray:=((P[k]?).map Prt.t).getD ⟨#[]⟩
theorem bNm {P:List Prt} {k:Nat} {p:Prt} (h:P[k]? =some p):bL0 P k=p.t:=by unfold bL0;rw[h];rfl
theorem bK7.hld {P:List Prt} {room:Int} {S:Dk} (h:bK7 P room S) {x:Hld} (e:x∈S.Hs):0<=x.b/\x.b<=2000/\x.t=bL0 P x.b.toNat:=by
 obtain⟨k,p,A,d,D⟩:=h.texts x e;have:=(eF.1 d).1;have:=h.few;refine⟨by omega,by omega,?_⟩;rw[A,fL,bNm d,D]
def bLj (U o m:Nat):Int:=if U<o+m then 8 else 0
def bMa (P:List Prt) (o m e k:Nat):Rdr:=if k=e then bK8 else bK5 P o m e (k+1) 1 ⟨#[]⟩
def bMh (k e:Nat):Bool:=decide (k=e)
def bLx (P:List Prt) (o m e k:Nat):ByteArray:=if k=e then bLh P o m (k+1) else⟨#[]⟩
def bLy (P:List Prt) (o m e k:Nat):Int:=if k=e then bLj (iH (P.map Prt.t)).size o m else 0
def bMq (room:Int) (S:Dk) (k:Int) (t:ByteArray):Dk:=⟨S.clock+1,bLo room S.clock S.Hs k t,S.Rs,S.dec⟩
def bMy (P:List Prt) (S:Dk) (r o m e k:Nat):(Bool×ByteArray×Int)×Dk:=((bMh k e,bLx P o m e k,bLy P o m e k),⟨S.clock,S.Hs,S.Rs.set r (bMa P o m e k),S.dec⟩)
def goD (P:List Prt) (room:Int) (S:Dk) (r:Nat) (y:Rdr):(Bool×ByteArray×Int)×Dk:=
 if y.st=0 then((false,⟨#[]⟩,0),S)
 else if y.st=1 then
  match bLt S.Hs y.blk with
  |none=>((false,⟨#[]⟩,0),⟨S.clock,S.Hs,S.Rs.set r ⟨2,y.off,y.n,y.blk,y.last,y.got,y.text⟩,S.dec⟩)
  |some h=>bMy P (bMq room S y.blk h.t) r y.off.toNat y.n.toNat y.last.toNat y.blk.toNat
 else if y.st=2 then((false,⟨#[]⟩,0),⟨S.clock,S.Hs,S.Rs.set r ⟨3,y.off,y.n,y.blk,y.last,y.got,bL0 P y.blk.toNat⟩,S.dec+1⟩)
 else bMy P (bMq room S y.blk y.text) r y.off.toNat y.n.toNat y.last.toNat y.blk.toNat
def bLi (P:List Prt) (room:Int) (S:Dk) (r:Nat):(Bool×ByteArray×Int)×Dk:=
 match S.Rs[r]? with
 |none=>((false,⟨#[]⟩,0),S)
 |some y=>goD P room S r y
theorem bK7.use {P:List Prt} {room:Int} {S:Dk} (h:bK7 P room S) {k:Nat} {p:Prt} (e:P[k]? =some p) (A:S.clock+1<=1099511627776):bK7 P room (bMq room S k p.t):=
 ⟨h.right,h.few,h.size,h.shelf.use _ (Int.natCast_nonneg k) A,fun x d=>by
  rcases jQ.1 ((aLo _ _).mem d) with rfl|d
  ·exact⟨k,p,rfl,e,rfl⟩
  ·exact h.texts x (NT.1 d).1,h.r1,h.r8,h.d0,h.d1,h.rdrs⟩
theorem bK7.setR {P:List Prt} {room:Int} {S:Dk} (h:bK7 P room S) (r:Nat) {y:Rdr} (e:bMp P y):bK7 P room ⟨S.clock,S.Hs,S.Rs.set r y,S.dec⟩:=
 ⟨h.right,h.few,h.size,h.shelf,h.texts,by rw[nW];exact h.r1,by rw[nW];exact h.r8,h.d0,h.d1,fun x d=>by
  rcases List.mem_or_eq_of_mem_set d with d|rfl
  ·exact h.rdrs x d
  ·exact e⟩
theorem bL9.next {P:List Prt} {o m f e k:Nat} (h:bL9 P o m f e k):bMp P (bMa P o m e k):=by
 unfold bMa;split
 ·exact .inl rfl
 ·exact .inr ⟨o,m,f,e,k+1,⟨h.m1,h.m2,h.o1,h.cov,by have:=h.fk;omega,by have:=h.ke;omega,h.el⟩,.inl rfl⟩
theorem bK7.step {P:List Prt} {room:Int} {S:Dk} (h:bK7 P room S) (r:Nat) (D:S.clock+1<=1099511627776) (I:S.dec+1<=1099511627776):bK7 P room (bLi P room S r).2:=by
 unfold bLi
 cases J:S.Rs[r]? with
 |none=>exact h
 |some y=>
  rcases h.rdrs y (List.mem_of_getElem? J) with rfl|⟨o,m,f,e,k,d,q⟩
  ·exact h
  ·obtain⟨p,A⟩:∃p,P[k]? =some p:=⟨_,aN (Nat.lt_of_le_of_lt d.ke d.el)⟩;rcases q with rfl|rfl|⟨F,L,rfl⟩
   ·show bK7 P room (goD P room S r (bK5 P o m e k 1 ⟨#[]⟩)).2;unfold goD bK5;dsimp only
    rw[aA (by decide),aB rfl]
    cases M:bLt S.Hs (k:Int) with
    |none=>exact h.setR r (.inr ⟨o,m,f,e,k,d,.inr (.inl rfl)⟩)
    |some x=>
     obtain⟨O,V⟩:=bNg M;obtain⟨R,F,Y,G,U⟩:=h.texts x O;obtain rfl:R=k:=by omega
     obtain rfl:=cC (G.symm.trans A);dsimp only
     rw[U];exact(h.use G D).setR r d.next
   ·show bK7 P room (goD P room S r (bK5 P o m e k 2 ⟨#[]⟩)).2;unfold goD bK5;dsimp only
    rw[aA (by decide),aA (by decide),aB rfl,fL,bNm A];have g:=h.setR r (y:=bK5 P o m e k 3 p.t) (.inr ⟨o,m,f,e,k,d,.inr (.inr ⟨p,A,rfl⟩)⟩);exact⟨g.right,g.few,g.size,g.shelf,g.texts,g.r1,g.r8,by have:=h.d0;show 0<=S.dec+1;omega,I,g.rdrs⟩
   ·show bK7 P room (goD P room S r (bK5 P o m e k 3 F.t)).2;unfold goD bK5;dsimp only
    rw[aA (by decide),aA (by decide),aA (by decide)];exact(h.use L D).setR r d.next
theorem bK7.D {P:List Prt} {room:Int} {S:Dk} (h:bK7 P room S):bN6 P room S.clock (byB S.Hs) S.Rs S.dec:=
 ⟨h.right,h.few,h.size,h.shelf.okH,fun x d=>h.texts x (h.shelf.perm.mem_iff.1 d),h.r1,h.r8,h.d0,h.d1,h.rdrs⟩
def bLl (P:List Prt) (S:Dk) (r o m:Nat):(Bool×ByteArray×Int)×Dk:=
 if(yF (gU 0 P) (o:Int) (m:Int)).1<0 then((true,⟨#[]⟩,bLj (iH (P.map Prt.t)).size o m),S)
 else((false,⟨#[]⟩,0),⟨S.clock,S.Hs,S.Rs.set r ⟨1,o,m,(yF (gU 0 P) (o:Int) (m:Int)).1,(yF (gU 0 P) (o:Int) (m:Int)).2,⟨#[]⟩,⟨#[]⟩⟩,S.dec⟩)
theorem bNs {P:List Prt} (d:jA (gU 0 P)) (o m:Nat):
  ((yF (gU 0 P) (o:Int) (m:Int)=(-1,-1))/\(m=0\/(iH (P.map Prt.t)).size<=o))\/
  (∃f e:Nat,yF (gU 0 P) (o:Int) (m:Int)=((f:Int),(e:Int))/\1<=m/\o<(iH (P.map Prt.t)).size/\f<=e/\e<P.length/\ahB P f<=o/\min (o+m) (iH (P.map Prt.t)).size<=ahB P (e+1)):=by
 by_cases h:m=0\/(iH (P.map Prt.t)).size<=o
 ·refine .inl ⟨?_,h⟩;unfold yF;rw[aB];have:lG (gU 0 P)=((iH (P.map Prt.t)).size:Int):=by unfold lG;rw[aB d,bNj,bMw]
  omega
 ·obtain⟨f,e,A,D,F,G,I,-⟩:=bO8 d (o:=o) (m:=m) (by omega) (by omega);exact .inr ⟨f,e,A,by omega,by omega,D,F,G,I⟩
def bLq (T:ByteArray) (o m:Nat):ByteArray:=T.extract o (min (o+m) T.size)
def bL4 (P:List Prt) (room:Int) (S:Dk) (k:Nat):Dk:=⟨S.clock+1,bLo room S.clock S.Hs k (bL0 P k),S.Rs,if(bLt S.Hs (k:Int)).isSome then S.dec else S.dec+1⟩
def bMs (P:List Prt) (room:Int):Nat->Nat->Dk->Dk
 |0,_,S=>S
 |j+1,k,S=>bMs P room j (k+1) (bL4 P room S k)
def bLw (S:Dk) (R:List Rdr):Dk:=⟨S.clock,S.Hs,R,S.dec⟩
theorem bOh (P:List Prt) (room:Int) (R:List Rdr):∀(j k:Nat) (S:Dk),bMs P room j k (bLw S R)=bLw (bMs P room j k S) R
 |0,_,_=>rfl
 |j+1,k,S=>bOh P room R j (k+1) (bL4 P room S k)
theorem bOi (P:List Prt) (room:Int):∀(j k:Nat) (S:Dk),(bMs P room j k S).Rs=S.Rs
 |0,_,_=>rfl
 |j+1,k,S=>bOi P room j (k+1) (bL4 P room S k)
def bLr (P:List Prt) (room:Int) (r:Nat):Nat->(Bool×ByteArray×Int)×Dk->(Bool×ByteArray×Int)×Dk
 |0,R=>R
 |n+1,R=>if R.1.1=true then R else bLr P room r n (bLi P room R.2 r)
theorem bR8 {P:List Prt} {room:Int} {r:Nat} {R:(Bool×ByteArray×Int)×Dk} (h:R.1.1=true):∀n,bLr P room r n R=R
 |0=>rfl
 |n+1=>aB h
theorem bNb {P:List Prt} {room:Int} {r:Nat} {R d:(Bool×ByteArray×Int)×Dk} (h:R.1.1=false) (e:bLi P room R.2 r=d) (n:Nat):bLr P room r (n+1) R=bLr P room r n d:=by
 rw[bLr,aA (by rw[h];decide),e]
def bMi (P:List Prt) (S:Dk):Prop:=∀x∈S.Hs,x.t=bL0 P x.b.toNat
theorem bK7.txt {P:List Prt} {room:Int} {S:Dk} (h:bK7 P room S):bMi P S:=fun _ d=>(h.hld d).2.2
theorem bMi.find {P:List Prt} {S:Dk} (h:bMi P S) {k:Nat} {x:Hld} (d:bLt S.Hs (k:Int)=some x):x.t=bL0 P k:=by
 obtain⟨e,A⟩:=bNg d;have:=h x e;rw[A,fL] at this;exact this
theorem bNt {P:List Prt} {room:Int} {S:Dk} {r:Nat} {y:Rdr} (d:S.Rs[r]? =some y):bLi P room S r=goD P room S r y:=by unfold bLi;rw[d]
theorem bPp {P:List Prt} {room:Int} {S:Dk} (F:bMi P S) {r o m e k:Nat} (A:S.Rs[r]? =some (bK5 P o m e k 1 ⟨#[]⟩)) (G:k<P.length) (b:ByteArray) (c:Int):
  ∃n,n<=3/\∀j,bLr P room r (n+j) ((false,b,c),S)=bLr P room r j ((bMh k e,bLx P o m e k,bLy P o m e k),bLw (bL4 P room S k) (S.Rs.set r (bMa P o m e k))):=by
 have D:=(eF.1 A).1
 cases d:bLt S.Hs (k:Int) with
 |some x=>
  refine⟨1,by decide,fun j=>?_⟩;rw[Nat.add_comm 1 j];refine bNb rfl ?_ j;rw[bNt A];unfold goD bK5;dsimp only
  rw[aA (by decide),aB rfl,d];dsimp only
  rw[F.find d];unfold bMy bMq bLw bL4;dsimp only
  rw[d,fL,fL,fL,fL];rfl
 |none=>
  obtain⟨p,M⟩:∃p,P[k]? =some p:=⟨_,aN G⟩;refine⟨3,by decide,fun j=>?_⟩;have I:bLi P room S r=((false,⟨#[]⟩,0),⟨S.clock,S.Hs,S.Rs.set r (bK5 P o m e k 2 ⟨#[]⟩),S.dec⟩):=by
   rw[bNt A];unfold goD bK5;dsimp only
   rw[aA (by decide),aB rfl,d]
  have J:bLi P room ⟨S.clock,S.Hs,S.Rs.set r (bK5 P o m e k 2 ⟨#[]⟩),S.dec⟩ r=((false,⟨#[]⟩,0),⟨S.clock,S.Hs,S.Rs.set r (bK5 P o m e k 3 (bL0 P k)),S.dec+1⟩):=by
   rw[bNt (bMl D)];unfold goD bK5;dsimp only
   rw[aA (by decide),aA (by decide),aB rfl,fL,bNf]
  have L:bLi P room ⟨S.clock,S.Hs,S.Rs.set r (bK5 P o m e k 3 (bL0 P k)),S.dec+1⟩ r=((bMh k e,bLx P o m e k,bLy P o m e k),bLw (bL4 P room S k) (S.Rs.set r (bMa P o m e k))):=by
   rw[bNt (bMl D)];unfold goD bK5;dsimp only
   rw[aA (by decide),aA (by decide),aA (by decide)];unfold bMy bMq bLw bL4;dsimp only
   rw[d,fL,fL,fL,fL,bNf];rfl
  rw[show 3+j=j+1+1+1 by omega,bNb rfl I,bNb rfl J,bNb rfl L]
theorem bMi.use {P:List Prt} {room:Int} {S:Dk} (h:bMi P S) (k:Nat):bMi P (bL4 P room S k):=fun x d=>by
 rcases jQ.1 ((aLo _ _).mem d) with rfl|e
 ·exact congrArg (bL0 P) (fL k).symm
 ·exact h x (NT.1 e).1
theorem bPq {P:List Prt} {room:Int} {r o m e:Nat} (F:e<P.length):∀(j k:Nat) (S:Dk) (b:ByteArray) (c:Int),bMi P S->S.Rs[r]? =some (bK5 P o m e k 1 ⟨#[]⟩)->k+j=e->
  ∃n,n<=3*(j+1)/\bLr P room r n ((false,b,c),S)=((true,bLh P o m (e+1),bLj (iH (P.map Prt.t)).size o m),bLw (bMs P room (j+1) k S) (S.Rs.set r bK8))
 |0,k,S,b,c,d,A,G=>by
  obtain rfl:k=e:=G;obtain⟨n,I,h⟩:=bPp (room:=room) d A F b c;refine⟨n,I,?_⟩;have:=h 0;rw[Nat.add_zero] at this;rw[this];unfold bMh bLx bLy bMa;rw[aB rfl,aB rfl,aB rfl,aG rfl];rfl
 |j+1,k,S,b,c,d,A,G=>by
  have L:=(eF.1 A).1;have D:¬k=e:=by omega
  obtain⟨n,I,h⟩:=bPp (room:=room) d A (by omega) b c;unfold bMh bLx bLy bMa at h;rw[aA D,aA D,aA D,aE D] at h;obtain⟨J,O,M⟩:=bPq F j (k+1) (bLw (bL4 P room S k) (S.Rs.set r (bK5 P o m e (k+1) 1 ⟨#[]⟩))) ⟨#[]⟩ 0 (d.use k) (bMl L) (by omega);refine⟨n+J,by omega,?_⟩;rw[h J,M,bOh];show _=(_,bLw (bMs P room (j+1) (k+1) (bL4 P room S k)) (S.Rs.set r bK8));unfold bLw;dsimp only
  rw[bNf]
def bLe (P:List Prt) (room:Int) (S:Dk) (o m:Nat):Dk:=if(yF (gU 0 P) (o:Int) (m:Int)).1<0 then S else bMs P room ((yF (gU 0 P) (o:Int) (m:Int)).2.toNat+1-(yF (gU 0 P) (o:Int) (m:Int)).1.toNat) (yF (gU 0 P) (o:Int) (m:Int)).1.toNat S
theorem bR9 {α:Type} {l:List α} {r:Nat} {y z:α} (h:l[r]? =some y):(l.set r z).set r y=l:=by
 rw[bNf];refine List.ext_getElem? fun i=>?_
 rw[List.getElem?_set];split
 ·subst i;rw[aB (eF.1 h).1,h]
 ·rfl
theorem bPr {P:List Prt} {room:Int} {S:Dk} (A:bK7 P room S) {r:Nat} (D:S.Rs[r]? =some bK8) (o m:Nat):
  ∃n,n<=3*P.length/\bLr P room r n (bLl P S r o m)=((true,bLq (iH (P.map Prt.t)) o m,bLj (iH (P.map Prt.t)).size o m),bLe P room S o m):=by
 have F:=(eF.1 D).1;rcases bNs A.right o m with⟨d,h⟩|⟨f,e,d,M,O,R,G,I,J⟩
 ·refine⟨0,aO _,?_⟩;unfold bLl bLe bLr;rw[d,aB (by decide),aB (by decide)];unfold bLq;rw[bNl _ (by omega)]
 ·have L:bLl P S r o m=((false,⟨#[]⟩,0),bLw S (S.Rs.set r (bK5 P o m e f 1 ⟨#[]⟩))):=by
   unfold bLl bK5;rw[d,aA (by omega),bO6 I];rfl
  obtain⟨n,U,h⟩:=bPq (room:=room) G (e-f) f (bLw S (S.Rs.set r (bK5 P o m e f 1 ⟨#[]⟩))) ⟨#[]⟩ 0 A.txt (bMl F) (by omega);refine⟨n,by omega,?_⟩;rw[L,h,bRj J,bOh];unfold bLe;rw[d,aA (by omega),fL,fL,show e+1-f=e-f+1 by omega];unfold bLw bLq;dsimp only
  rw[bR9 D,<-bOi P room (e-f+1) f S]
theorem bPs {P:List Prt} {room:Int} {S:Dk} (A:bK7 P room S) {r:Nat} (o m:Nat) (D:m<1048576):bK7 P room (bLl P S r o m).2:=by
 unfold bLl;rcases bNs A.right o m with⟨d,h⟩|⟨f,e,d,F,G,I,J,L,M⟩
 ·rw[d,aB (by decide)];exact A
 ·rw[d,aA (by omega)];have:=A.setR r (y:=bK5 P o m e f 1 ⟨#[]⟩) (.inr ⟨o,m,f,e,f,⟨F,D,G,d,aD _,I,J⟩,.inl rfl⟩);unfold bK5 at this;rw[bO6 L] at this;exact this
theorem bPt {P:List Prt} {room:Int} (S:Dk) (r:Nat):(bLi P room S r).2.clock<=S.clock+1/\(bLi P room S r).2.dec<=S.dec+1/\(bLi P room S r).2.Rs.length=S.Rs.length:=by
 unfold bLi;split
 ·exact⟨by show S.clock<=S.clock+1;omega,by show S.dec<=S.dec+1;omega,rfl⟩
 ·unfold goD;split
  ·exact⟨by show S.clock<=S.clock+1;omega,by show S.dec<=S.dec+1;omega,rfl⟩
  ·split
   ·split
    ·exact⟨by show S.clock<=S.clock+1;omega,by show S.dec<=S.dec+1;omega,nW⟩
    ·exact⟨lV _,by show S.dec<=S.dec+1;omega,nW⟩
   ·split
    ·exact⟨by show S.clock<=S.clock+1;omega,lV _,nW⟩
    ·exact⟨lV _,by show S.dec<=S.dec+1;omega,nW⟩
end
section
open Go.RowKit Go Go.Shelf
theorem WrL.below {w w':World} {p B:Nat} {d:List (List Bool)} (h:WrL w p B d) (e:Below w.heap.size w w'):WrL w' p B d:=by
 obtain⟨v,A,D⟩:=h;exact⟨v,A.below e A.lt,D.below e (aD _)⟩
def oI (l:List ByteArray):List Value:=l.map Value.string
def RdT (w:World) (v:Value) (l:List ByteArray):Prop:=Rd w v l.length (oI l)
theorem FX (l:List ByteArray):(oI l).length=l.length:=List.length_map ..
theorem RdT.below {w w':World} {v:Value} {l:List ByteArray} (h:RdT w v l) (d:Below w.heap.size w w'):RdT w' v l:=Rd.below h d
theorem RdT.open {w:World} {v:Value} {l:List ByteArray} (h:RdT w v l):
  ∃a cap,v=.slice a l.length cap/\l.length<=cap/\cap<=maxLen/\
   (0<l.length->∃b off,a=some ⟨b,off,none⟩/\b<w.heap.size/\∀j x,l[j]? =some x->w.cell? ⟨b,off+j,none⟩=some (.string x)):=by
 obtain⟨a,cap,rfl,D,F,d⟩:=h;refine⟨a,cap,rfl,D,F,fun L=>?_⟩;rcases d with d|⟨b,off,rfl,G,I⟩
 ·have:=congrArg List.length d;rw[FX,List.length_nil] at this;omega
 ·refine⟨b,off,rfl,G,fun j x A=>?_⟩;have J:=(eF.1 A).1;have e:(oI l)[j]? =some (.string x):=by unfold oI;rw[List.getElem?_map,A];rfl
  rw[I j (by rw[FX];exact J),List.getD_eq_getElem?_getD,e];rfl
theorem MY {w w':World} {B e size n G A I J:Nat} {v D:Value} {F L:List Value} (h:w.ownsRow B e size v n F) (M:w.ownsRow G A I D J L) (O:w.grownBy w' D.ownBlock) (R:e≠A):w'.ownsRow B e size v n F:=by
 refine yJ h O ?_;rcases h.2 with⟨rfl,_⟩|⟨g,cap,V,rfl,_,U,_⟩
 ·exact .inl rfl
 ·refine .inr fun q=>?_
  rcases M.2 with⟨rfl,_⟩|⟨Y,Z,a0,rfl,_,d,_⟩
  ·cases q
  ·obtain rfl:=cC q;rw[U] at d
   injection d with d
   injection d with _ q2 _
   exact R q2
theorem bBy:ElT pG 154 87 4 (.int .u32 0):=ElT.mk' (by kernel_rfl) underlying154 rfl (by decide)
theorem aIn {e:Array Oper} {rest:List Oper} {o:Oper} {a:Act} {Q:Exit->Act->World->Prop} {w:World} (A:o.guard=none) (s x:Operand)
  (D:o.op=.call {callee:=.builtin .append,args:=#[s,x],argTypes:=#[154,154]}) (base:Nat) (v:Value) (l:List (BitVec 32)) (hs:a.eval s=v) (hown:OwS w base v l)
  (g:Nat) (n:BitVec 32) (hx:a.eval x=.slice (some ⟨g,0,none⟩) 1 1) (hc:w.cell? ⟨g,0,none⟩=some (.int .u32 (n.toNat:Int))) (hroom:(l.length+1)*4<=140737488355328) (hbase:base<=w.heap.size)
  (h:∀d w',OwS w' base d (l++[n])->Below base w w'->w.grownBy w' v.ownBlock->wpList pG e Q rest (a.put o.dst d) w'):wpList pG e Q (o::rest) a w:=
 tM bBy A s x D base v _ hs hown g _ hx hc rfl (by simpa [uX] using hroom) hbase (fun d w' F G I=>h d w' (by unfold OwS uX;rw[List.map_append];exact F) G I)
def aIo (w w':World) (n:Int) (l:List ByteArray) (e:Ending):Prop:=
 (wrE n l=0/\e=.returned (.tuple #[.string (mkS (aI (cM n.toNat l))),.int .i64 0])/\(∀t∈l,okT (40*n) t)/\Below w.heap.size w w')\/(wrE n l≠0/\e=.returned (.tuple #[.string ⟨#[]⟩,.int .i64 (wrE n l)])/\Below w.heap.size w w')
theorem VE (c n:Int) (w:World) (D: -9223372036854775808<=c) (F:c<=9223372036854775807) (G:1<=n) (I:n<=1000000000):
  Calls pG 33 #[.int .i64 c,.int .i64 n] w fun e w'=>e=.returned (.int .i64 (cK c n))/\w=w':=by
 by_cases A:c<0
 ·have d:=hid (show cK c n=(-(c+1))%n from by simp[cK,A]);go_enter func33,ntmps33;go_wp2;go_ret;exact⟨eI (by rw[d.out];rw[<-Int.neg_tmod,Int.tmod_eq_emod_of_nonneg (by omega)]),rfl⟩
 ·have d:=hid (show cK c n=c%n from by simp[cK,A]);have J:0<=c:=by omega
  go_enter func33,ntmps33;go_wp2;go_ret;exact⟨eI (by rw[d.out]),rfl⟩
theorem bDg (s:ByteArray) (w:World) (D:s.size<=1000000):
  Calls pG 117 #[.string s] w fun e w'=>e=.returned (.int .i64 (lnL s.data.toList:Int))/\Below w.heap.size w w':=by
 have A:=aHf s w D;obtain⟨P,d⟩:=ex1 (mkS (bT s.data.toList));have F:=hid (show(P.size:Int)=(lnL s.data.toList:Int) by rw[d,cS];rfl);rw[<-d] at A;clear d;go_enter func117,ntmps117;go_wp2_with fail;refine A.mono ?_;rintro e I ⟨rfl,G⟩;go_wp2_with fail;go_ret;exact⟨eI F.out,G⟩
theorem aJd (s:ByteArray) (room:Nat) (w:World) (hs:s.size<=100000) (hr:room<=1000000):
  Calls pG 77 #[.string s,.int .i64 (room:Int)] w fun e w'=>e=.returned (.int .i64 (cJ s.data.toList room:Int))/\Below w.heap.size w w':=by
 have G:=hid (mV s);have hcut:=pT s.data.toList room;obtain⟨C,R⟩:=ex1 (cJ s.data.toList room);rw[<-R] at hcut ⊢;obtain⟨a0,a1,I⟩:=hcut;rw[G.out] at a0 I;have HU:=hid (fun i (h1:i<=s.size)=>show lnL (s.data.toList.take i)<=room↔i<=C from by
  constructor
  ·intro h;refine Nat.le_of_not_lt fun q=>?_
   have a:=I (by omega);have b:=AC s.data.toList (C+1) (i-(C+1)) (by rw[G.out];omega);rw[show C+1+(i-(C+1))=i by omega] at b;omega
  ·intro h;have b:=AC s.data.toList i (C-i) (by rw[G.out];omega);rw[show i+(C-i)=C by omega] at b;omega)
 clear R a1 I;go_enter func77,ntmps77;go_wp2_with fail
 go_loopg [5,6] (s.size+1) (fun g s5 s6 wr=>∃i K:Nat,i<=s.size+1/\g=s.size+1-i/\s6=.int .i64 (i:Int)/\s5=.int .i64 (K:Int)/\Hid (K=min (i-1) C)/\Below w.heap.size w wr)
 case atStart=>exact⟨0,0,aO _,rfl,rfl,rfl,hid (by omega),aH _ _⟩
 case round=>
  obtain⟨i,K,hi,F,rfl,rfl,J,U⟩:=hrel;have V:=hid F;clear F
  by_cases a2:i<=s.size
  ·have t1:decide ((i:Int)<=(s.size:Int))=true:=aG (by omega);have q1:(i:Int)<=(s.size:Int):=by omega
   obtain⟨T,L⟩:=ex1 (s.extract 0 i);have M:T.data.toList=s.data.toList.take i:=by rw[L,iW,dP,pI,sD]
   have a5:T.size<=s.size:=by
    have:T.data.toList.length=T.size:=by simp
    rw[<-this,M,aQ];omega
   have A:=bDg T wr (by omega);rw[M] at A;have D:=HU.out i a2;obtain⟨X,Y⟩:=ex1 (lnL (s.data.toList.take i));rw[<-Y] at A D;have a6:=L.symm;clear L M Y;go_wp2_with fail;refine A.mono ?_;rintro e w2 ⟨rfl,a3⟩;have Z:=aW U a3
   by_cases d:X<=room
   ·have t2:decide ((X:Int)<=(room:Int))=true:=aG (by omega);have a4:decide (X<=room)=true:=aG d;have hK:=J.out;have O:=hid (show i=min (i+1-1) C by have:=D.1 d;omega);clear hK D d A;go_wp2_with fail;have F:=V.out
    go_roundg (s.size+1-(i+1))
    ·exact⟨i+1,i,by omega,rfl,by go_num,rfl,O,Z⟩
    ·omega
   ·have t2:decide ((X:Int)<=(room:Int))=false:=aE (by omega);have a4:decide (X<=room)=false:=aE d;have O:=hid (show K=min (i+1-1) C by have:=J.out;have:=fun q=>d (D.2 q);omega);clear D d A;go_wp2_with fail;have F:=V.out
    go_roundg (s.size+1-(i+1))
    ·exact⟨i+1,K,by omega,rfl,by go_num,rfl,O,Z⟩
    ·omega
  ·have t1:decide ((i:Int)<=(s.size:Int))=false:=aE (by omega);have HF:=hid (show(K:Int)=(C:Int) by have:=J.out;omega);go_wp2_with fail;go_ret;exact⟨eI HF.out,U⟩
theorem aJe:ElT pG 77 9 16 (.string ⟨#[]⟩):=ElT.mk' (by kernel_rfl) underlying77 rfl (by decide)
def OwT (w:World) (B:Nat) (v:Value) (l:List ByteArray):Prop:=Ow w B 9 v (oI l)
theorem OwT.rd {w:World} {B:Nat} {v:Value} {l:List ByteArray} (h:OwT w B v l):RdT w v l:=by grind [RdT,Ow.rd,FX,OwT]
theorem aJf {e:Array Oper} {rest:List Oper} {o:Oper} {a:Act} {Q:Exit->Act->World->Prop} {w:World} (A:o.guard=none) (s x:Operand)
  (D:o.op=.call {callee:=.builtin .append,args:=#[s,x],argTypes:=#[77,77]}) (base:Nat) (v:Value) (l:List ByteArray) (hs:a.eval s=v) (hown:OwT w base v l)
  (g:Nat) (n:ByteArray) (hx:a.eval x=.slice (some ⟨g,0,none⟩) 1 1) (hc:w.cell? ⟨g,0,none⟩=some (.string n)) (hroom:(l.length+1)*16<=140737488355328) (hbase:base<=w.heap.size)
  (h:∀d w',OwT w' base d (l++[n])->Below base w w'->w.grownBy w' v.ownBlock->wpList pG e Q rest (a.put o.dst d) w'):wpList pG e Q (o::rest) a w:=
 tM aJe A s x D base v _ hs hown g _ hx hc rfl (by simpa [oI] using hroom) hbase (fun d w' I F G=>h d w' (by grind [OwT,oI,rest]) F G)
theorem kpT {d e w0:World} {B:Nat} (h:Below B w0 d/\B<=d.heap.size) (A:Below d.heap.size d e):Below B w0 e/\B<=e.heap.size:=⟨h.1.trans (A.mono h.2),Nat.le_trans h.2 A.size⟩
def vC (l:List ByteArray):Prop:=∀t∈l,0<t.size/\lnL t.data.toList<=40/\t.size<=360
theorem bDh (s:ByteArray) (v:Value) (O:List (Int×Int)) (w:World) (hr:RdP w v O) (a4:WfP O):
  Calls pG 32 #[.string s,v] w fun e w'=>∃u l,e=.returned u/\RdT w' u l/\l.length<=5/\vC l/\Below w.heap.size w w':=by
 obtain⟨m,a5,b3,b4⟩:=BE s.size 60 (by decide);have b5:min (s.size:Int) 60=(m:Int):=by rw[<-a5,Int.min_def];split<;>split<;>omega
 obtain⟨X,U⟩:=ex1 (s.extract 0 m);have b6:X.size<=60:=by rw[U];simp;omega
 have b7:=U.symm;have q1:(m:Int)<=(s.size:Int):=by omega
 have a6:=fun W (h:Below w.heap.size w W/\w.heap.size<=W.heap.size)=>aBo v O 300 W (hr.below h.1) a4 (by decide) (by decide)
 have b8:Below w.heap.size w w.drew/\w.heap.size<=w.drew.heap.size:=⟨(aH w.heap.size w).drew,aD _⟩;clear U;go_enter func32,ntmps32;go_wp2_with fail
 go_cut [6] (fun c6 I=>∃Y:ByteArray,c6=.string Y/\Y.size<=360/\Below w.heap.size w I)
 case first=>
  go_region_held3 (fun I=>Below w.heap.size w I/\w.heap.size<=I.heap.size)
   (first
    |with_reducible assumption
    |with_reducible exact kpT (by assumption) (by assumption))
   (first
    |(go_at_call 76;with_reducible refine(a6 _ (by assumption)).mono ?_;rintro e d ⟨t2,rfl,c9,h2⟩;have q3:¬9223372036854775807<X.size+t2.size:=by omega))
  all_goals
   obtain⟨A,a7⟩:=(show Below w.heap.size w d/\w.heap.size<=d.heap.size by assumption);have b9:(X++t2).size<=360:=by rw[rG];omega
   go_wp2_with fail;go_meet;exact⟨_,rfl,b9,A⟩
 case rest=>
  obtain⟨Y,rfl,hY,a8⟩:=hcut;clear a5 b5 b3 b4 b7 q1 a6 b8 b6 hr a4;go_wp2_with fail
  go_loopg [5,6,7,8] 5 (fun g s5 s6 s7 _s8 wr=>∃(i:Nat) (rest:ByteArray) (l:List ByteArray),i<=5/\g=5-i/\s7=.int .i64 (i:Int)/\s6=.string rest/\rest.size<=360/\l.length=i/\vC l/\OwT wr w.heap.size s5 l/\Below w.heap.size w wr)
  case atStart=>exact⟨0,Y,[],by decide,rfl,rfl,rfl,hY,rfl,fun t ht=>by simp at ht,Ow.nil _ _ _,a8⟩
  case round=>
   clear hY a8;obtain⟨i,rest,l,hi,V,rfl,rfl,d0,D,Z,J,A⟩:=hrel;have HG:=hid V;have L:=hid D;clear V D;have a7:=A.size
   by_cases d1:i<5
   rotate_left
   ·have t1:decide ((i:Int)<5)=false:=aE (by omega);go_wp2_with fail;go_ret;exact⟨_,l,rfl,J.rd,by rw[L.out];omega,Z,A⟩
   have t1:decide ((i:Int)<5)=true:=aG (by omega)
   by_cases F:rest.data.toList=[]
   ·have te:rest.toList.isEmpty=true:=by rw[Lib.toList_data,F];rfl
    clear F;go_wp2_with fail;go_ret;exact⟨_,l,rfl,J.rd,by rw[L.out];omega,Z,A⟩
   have te:rest.toList.isEmpty=false:=xM F;obtain⟨R,c0,d2,a9⟩:∃R:Nat,1<=R/\R<=40/\([bQ .i64 40,.int .i64 7,.int .i64 23,.int .i64 40,.int .i64 13]:List Value)[i]? =some (.int .i64 (R:Int)):=by
    rcases(show i=0\/i=1\/i=2\/i=3\/i=4 by omega) with rfl|rfl|rfl|rfl|rfl
    ·exact⟨40,by decide,by decide,rfl⟩
    ·exact⟨7,by decide,by decide,rfl⟩
    ·exact⟨23,by decide,by decide,rfl⟩
    ·exact⟨40,by decide,by decide,rfl⟩
    ·exact⟨13,by decide,by decide,rfl⟩
   have hA:=Arr.new wr 3 [bQ .i64 40,.int .i64 7,.int .i64 23,.int .i64 40,.int .i64 13];have c1:=hA.cell a9;change (wr.alloc (.cells #[bQ .i64 40,.int .i64 7,.int .i64 23,.int .i64 40,.int .i64 13] 3)).cell? _=_ at c1;have hcut:=fun W=>aJd rest R W (by omega) (by omega)
   have b0:=AE (s:=rest.data.toList) (room:=R) F c0;have M:=pT rest.data.toList R;obtain⟨K,hK⟩:=ex1 (cJ rest.data.toList R);rw[<-hK] at hcut b0 M;have D:=mV rest;have d3:K<=rest.size:=by rw[<-D];exact M.1
   have q1:(i:Int)<5:=by omega
   have q2:(K:Int)<=(rest.size:Int):=by omega
   obtain⟨x,hx⟩:=ex1 (rest.extract 0 K);have a0:x.data.toList=rest.data.toList.take K:=by rw[hx,iW,dP,pI,sD]
   have c2:x.size=K:=by
    have:x.data.toList.length=x.size:=by simp
    rw[<-this,a0,aQ,D];omega
   obtain⟨y,hy⟩:=ex1 (rest.extract K rest.size);have c3:y.size<=360:=by rw[hy];simp;omega
   have d4:=hx.symm;have d5:=hy.symm;have b1:vC (l++[x]):=fun u G=>by
    rcases List.mem_append.1 G with G|G
    ·exact Z u G
    ·obtain rfl:=List.mem_singleton.1 G;exact⟨by omega,by rw[a0];have:=M.2.1;omega,by omega⟩
   have HF:=hid b1;have c4:=hid (show(l++[x]).length=i+1 by rw[List.length_append,L.out];rfl);have d6:l.length<=5:=by rw[L.out];exact hi
   clear F a9 hA b0 M hK D hx a0 c2 hy b1;go_wp2_with fail;refine(hcut _).mono ?_;rintro e d ⟨rfl,a1⟩;have a2:Below w.heap.size w (wr.alloc (.cells #[bQ .i64 40,.int .i64 7,.int .i64 23,.int .i64 40,.int .i64 13] 3)):=A.alloc a7 _;have a3:=a2.trans (a1.mono a2.size);have b2:OwT d w.heap.size u5 l:=Ow.below (Ow.alloc J (.cells #[bQ .i64 40,.int .i64 7,.int .i64 23,.int .i64 40,.int .i64 13] 3)) a1 (aD _);have c5:=a3.size;have hN:=bX d (.string x) 9;have c7:OwT (d.alloc (.cells #[.string x] 9)) w.heap.size u5 l:=Ow.alloc b2 _
   have c8:Below w.heap.size w (d.alloc (.cells #[.string x] 9)):=a3.alloc c5 _;clear a2 a1 J b2 A a3 hcut c1;go_wp2_with (at_builtin;refine aJf rfl _ _ rfl w.heap.size _ _ rfl c7 _ x rfl hN ?_ ?_ ?_;(omega);(simp;omega);intro v3 w3 p1 p2 p3);have V:=HG.out
   go_roundg (5-(i+1))
   ·exact⟨i+1,y,l++[x],by omega,rfl,by go_num,rfl,c3,c4.out,HF.out,p1,c8.trans p2⟩
   ·omega
end
end Go.Proofs.YtfckbfofgeilgaaGreatDoor
