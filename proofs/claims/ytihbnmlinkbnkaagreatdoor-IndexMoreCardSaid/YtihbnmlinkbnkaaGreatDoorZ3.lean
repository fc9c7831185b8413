/-
  Texts put together (part 3): the walks and the plain laws on which the statement stands.
-/
import Derived.Shelf.Strings.Builder1
import Derived.Shelf.Small.Bits
import Derived.Shelf.Small.Wraps
import Derived.Shelf.Strings.BuilderF
import Derived.Shelf.Strings.BuilderK
import Derived.Shelf.Strconv.Itoa0
import Derived.Shelf.Sort.Plain
import Derived.Shelf.Strings.Prefix
import Derived.Shelf.Slices.Turned
import Derived.Shelf.Slices.In.SortNone
import Derived.Shelf.Bytes.IndexByte
import Derived.Test.YtihbnmlinkbnkaaGreatDoorProg
import Derived.Test.YtihbnmlinkbnkaaGreatDoorZ1
set_option maxRecDepth 100000
set_option maxHeartbeats 12800000
set_option linter.unusedVariables false
set_option linter.unusedSimpArgs false
open Go.Proofs.Tryz
open Go.Proofs.Tryz renaming prog->pG
open Classical renaming byContradiction->aLh
open Go.RowKit.Below renaming refl->aH
open Go.Value renaming int->bQ
open List renaming cons_append->fF,countP_le_length->DI,ext_getElem?->lH,getElem?_eq_getElem->aN,getElem?_eq_none->fZ,length_append->aL,length_eq_zero_iff->nX,length_map->aS,range->eT,range_succ->wU,replicate->aX,replicate_succ->GX,take_append_drop->kH
open Nat renaming add_assoc->fU,eq_zero_or_pos->jE,le_refl->aD,lt_or_ge->cF,mod_add_div->WO,mod_lt->kU,zero_le->aO
open Option renaming map_map->XJ
namespace Go.Proofs.YtihbnmlinkbnkaaGreatDoor
def mG (c:UInt8):Nat->List UInt8->Nat
 |0,_=>0
 |_+1,[]=>0
 |n+1,b::s=>if b=c then mG c n s+1 else 0
theorem aCe (c:UInt8):∀n s,mG c n s<=n/\mG c n s<=s.length
 |0,_=>by simp[mG]
 |n+1,[]=>by simp[mG]
 |n+1,b::s=>by
  have:=aCe c n s
  grind [mG]
theorem aCf (c:UInt8):∀n s k,k<mG c n s->s[k]? =some c
 |0,_,k,h=>by simp[mG] at h
 |n+1,[],k,h=>by simp[mG] at h
 |n+1,b::s,k,h=>by
  unfold mG at h;split at h
  ·next e=>
   cases k with
   |zero=>simp[e]
   |succ k=>simpa using aCf c n s k (by omega)
  ·omega
theorem aCg (c:UInt8):∀n s,mG c n s<n->s[mG c n s]?≠some c
 |0,_,h=>by omega
 |n+1,[],h=>by simp[mG]
 |n+1,b::s,h=>by
  unfold mG at h ⊢;split
  ·next e=>
   rw[aB e] at h
   simpa using aCg c n s (by omega)
  grind
theorem aCh (c:UInt8):∀n s k,k<=n->(∀j,j<k->s[j]? =some c)->(k=n\/s[k]?≠some c)->mG c n s=k
 |0,_,k,h,_,_=>by simp[mG];omega
 |n+1,[],k,h,A,d=>by
  cases k with
  |zero=>rfl
  |succ k=>have:=A 0 (by omega);simp at this
 |n+1,b::s,k,h,A,d=>by
  unfold mG
  cases k with
  |zero=>
   rw[aA];rintro rfl;rcases d with d|d
   ·omega
   ·simp at d
  |succ k=>
   have F:=A 0 (by omega);rw[aB (by simpa using F),aCh c n s k (by omega) (fun j G=>by grind)];rcases d with d|d
   ·grind
   ·grind
def bF (s:List UInt8):Nat:=match s with
 |[]=>0
 |c::r=>mG c 255 (c::r)
theorem mH (s:List UInt8) (h:s≠[]):1<=bF s/\bF s<=255/\bF s<=s.length:=by
 cases s with
 |nil=>exact absurd rfl h
 |cons c r=>
  have:=aCe c 255 (c::r);refine⟨?_,this.1,this.2⟩;show 1<=mG c 255 (c::r);unfold mG;rw[aB rfl];omega
def pP (s:List UInt8) (n:Nat):List UInt8:=s.take (min n 4)++if 4<=n then[UInt8.ofNat (n-4)] else[]
def xP:Nat->List UInt8->List UInt8
 |0,_=>[]
 |_+1,[]=>[]
 |f+1,c::r=>pP (c::r) (bF (c::r))++xP f ((c::r).drop (bF (c::r)))
theorem aCi:∀f g s,s.length<=f->s.length<=g->xP f s=xP g s
 |0,g,s,d,A=>by
  have:s=[]:=nX.1 (by omega);subst this
  cases g<;>rfl
 |f+1,0,s,d,A=>by grind [xP]
 |f+1,g+1,[],_,_=>rfl
 |f+1,g+1,c::r,d,A=>by
  unfold xP;have:=mH (c::r) (by simp);rw[aCi f g _ (by grind) (by grind)]
def bT (s:List UInt8):List UInt8:=xP s.length s
theorem LD:bT []=[]:=rfl
theorem CB (s:List UInt8) (h:s≠[]):bT s=pP s (bF s)++bT (s.drop (bF s)):=by
 cases s with
 |nil=>exact absurd rfl h
 |cons c r=>
  have:=mH (c::r) h;show xP (r.length+1) (c::r)=_;unfold xP bT;rw[aCi r.length ((c::r).drop (bF (c::r))).length _ (by grind) (aD _)]
theorem RR (s:List UInt8) (n:Nat) (h:n<=s.length):(pP s n).length=if n<4 then n else 5:=by grind [pP]
theorem aTn {s:List UInt8} {out:List UInt8} (h:s≠[]) {d:List UInt8} (A:out++bT s=d):(out++pP s (bF s))++bT (s.drop (bF s))=d:=by grind [CB,bT,pP,bF]
def unS:Nat->UInt8->List UInt8->Option (List UInt8)
 |r,_,[]=>if r=4 then none else some []
 |r,c,b::s=>if r=4 then(unS 0 c s).map (aX b.toNat c++·)
  else if 0<r/\b=c then(unS (r+1) c s).map (b::·)
  else(unS 1 b s).map (b::·)
def eX (s:List UInt8):Option (List UInt8):=unS 0 0 s
theorem aTo (c d:UInt8):∀s,unS 0 c s=unS 0 d s
 |[]=>rfl
 |b::s=>by simp[unS]
theorem aTp {r:Nat} {c:UInt8} {s:List UInt8} (d:r<4) (h:∀b,s.head? =some b->b≠c):unS r c s=unS 0 0 s:=by
 cases s with
 |nil=>unfold unS;rw[aA (by omega),aA (by decide)]
 |cons b s=>
  have:=h b rfl;unfold unS;rw[aA (by omega),aA (by grind),aA (by decide),aA (by simp)]
theorem RS (c:UInt8):∀(n r:Nat) (s:List UInt8),0<r->r+n<=4->unS r c (aX n c++s)=(unS (r+n) c s).map (aX n c++·)
 |0,r,s,_,_=>by simp
 |n+1,r,s,d,A=>by
  rw[GX,fF]
  conv=>lhs;unfold unS
  rw[aA (by omega),aB ⟨d,rfl⟩,RS c n (r+1) s (by omega) (by omega),XJ,show r+1+n=r+(n+1) by omega];rfl
theorem aCj {c:UInt8} {n:Nat} {s:List UInt8} (d:1<=n) (A:n<4) (h:∀b,s.head? =some b->b≠c):eX (aX n c++s)=(eX s).map (aX n c++·):=by
 obtain⟨k,rfl⟩:∃k,n=k+1:=⟨n-1,by omega⟩;unfold eX;rw[GX,fF]
 conv=>lhs;unfold unS
 rw[aA (by decide),aA (by simp),RS c k 1 s (by decide) (by omega),aTp (r:=1+k) (by omega) h,XJ];rfl
theorem RT (c:UInt8) (s:List UInt8):eX (aX 4 c++s)=match s with
  |[]=>none
  |b::r=>(eX r).map (aX 4 c++aX b.toNat c++·):=by
 unfold eX;rw[show aX 4 c=c::aX 3 c from rfl,fF]
 conv=>lhs;unfold unS
 rw[aA (by decide),aA (by simp),RS c 3 1 s (by decide) (by decide),XJ]
 cases s with
 |nil=>unfold unS;rfl
 |cons b r=>
  show Option.map _ (unS 4 c (b::r))=_
  conv=>lhs;unfold unS
  rw[aB rfl,XJ,aTo c 0]
  congr 1
theorem RU {s:List UInt8} {c:UInt8} (h:s.head? =some c):s.take (bF s)=aX (bF s) c/\(bF s<255->(s.drop (bF s)).head?≠some c):=by
 cases s with
 |nil=>simp at h
 |cons d r=>
  obtain rfl:d=c:=by simpa using h
  have A:=(mH (d::r) (by simp)).2.2;have F:=aCf d 255 (d::r);constructor
  ·apply lH
   grind [bF]
  ·grind [List.head?_drop,aCg,bF]
theorem aTq {s:List UInt8} (h:s≠[]):(bT s).head? =s.head? :=by
 rw[CB s h];have A:=mH s h
 cases s with
 |nil=>exact absurd rfl h
 |cons c r=>
  unfold pP;obtain⟨k,d⟩:∃k,min (bF (c::r)) 4=k+1:=⟨min (bF (c::r)) 4-1,by omega⟩;rw[d,List.take_succ_cons];rfl
theorem aCk:∀(n:Nat) (s:List UInt8),s.length<=n->eX (bT s)=some s
 |0,s,h=>by
  have:s=[]:=nX.1 (by omega);subst this;rfl
 |n+1,s,h=>by
  cases d:s with
  |nil=>rfl
  |cons c r=>
   rw[<-d];have A:s≠[]:=by rw[d];simp
   have J:=mH s A;obtain⟨F,L⟩:=RU (s:=s) (c:=c) (by rw[d];rfl);have G:=aCk n (s.drop (bF s)) (by grind);have H:aX (bF s) c++s.drop (bF s)=s:=by rw[<-F,kH]
   rw[CB s A];unfold pP
   by_cases I:4<=bF s
   ·rw[aB I,show min (bF s) 4=4 by omega];have e:s.take 4=aX 4 c:=by grind
    rw[e,List.append_assoc,RT];simp only[List.singleton_append];rw[G,Option.map_some,UInt8.toNat_ofNat',Nat.mod_eq_of_lt (by omega),List.replicate_append_replicate,show 4+(bF s-4)=bF s by omega,H]
   ·grind [bF,aCj,LD,aTq,eX,bT]
theorem uM:∀(n:Nat) (s:List UInt8),s.length<=n->(bT s).length<=2*s.length/\(s≠[]->bT s≠[])/\s.length<=52*(bT s).length
 |0,s,h=>by
  have:s=[]:=nX.1 (by omega);subst this;exact⟨by simp[LD],fun q=>absurd rfl q,by simp⟩
 |n+1,s,h=>by
  by_cases d:s=[]
  ·grind [LD,bT]
  ·have A:=mH s d;obtain⟨F,_,G⟩:=uM n (s.drop (bF s)) (by grind)
   grind [CB,RR,bT]
def ltc (s:List UInt8) (c:Nat):Nat:=s.countP (fun b=>decide (b.toNat<c))
def eqc (s:List UInt8) (c:Nat):Nat:=s.countP (fun b=>b.toNat==c)
theorem JN (s:List UInt8) (c:Nat):ltc s (c+1)=ltc s c+eqc s c:=by
 unfold ltc eqc
 induction s with
 |nil=>rfl
 |cons b l d=>
  simp only[List.countP_cons,d]
  by_cases A:b.toNat<c
  ·grind
  ·grind
theorem YZ (s:List UInt8):ltc s 0=0:=by simp[ltc]
theorem ZA (s:List UInt8):ltc s 256=s.length:=by
 unfold ltc;rw[List.countP_eq_length];intro b _;simp;exact b.toNat_lt
theorem ZB (s:List UInt8) (c d:Nat) (h:c<=d):ltc s c<=ltc s d:=by
 induction d with
 |zero=>
   have:c=0:=by omega
   subst this;exact aD _
 |succ d F=>
  rcases cF d c with A|A
  ·grind
  ·grind [JN,ltc]
theorem JO (s:List UInt8) (k c:Nat) (b:UInt8) (h:s[k]? =some b):eqc (s.take (k+1)) c=eqc (s.take k) c+if b.toNat=c then 1 else 0:=by grind [eqc,List.take_add_one]
theorem PO (s:List UInt8) (k c:Nat):eqc (s.take k) c<=eqc s c:=by grind [eqc,List.countP,kH]
def sM (s:List UInt8) (c n:Nat):List Nat:=(eT n).filter (fun i=>(s.getD i 0).toNat==c)
theorem JP (s:List UInt8) (c n:Nat) (b:UInt8) (h:s[n]? =some b):sM s c (n+1)=sM s c n++if b.toNat=c then[n] else[]:=by grind [sM,wU]
theorem PP (s:List UInt8) (c:Nat):∀n,n<=s.length->(sM s c n).length=eqc (s.take n) c
 |0,_=>by simp[sM,eqc]
 |n+1,h=>by
  obtain⟨b,d⟩:∃b,s[n]? =some b:=⟨_,aN (by omega)⟩;rw[JP s c n b d,JO s n c b d,aL,PP s c n (by omega)]
  grind
theorem ZC (s:List UInt8) (c:Nat):∀n,n<=s.length->∀i j,(sM s c n)[i]? =some j↔(j<n/\(∃b,s[j]? =some b/\b.toNat=c)/\i=eqc (s.take j) c)
 |0,_,i,j=>by simp[sM]
 |n+1,h,i,j=>by
  obtain⟨b,d⟩:∃b,s[n]? =some b:=⟨_,aN (by omega)⟩;have A:=PP s c n (by omega);have F:=ZC s c n (by omega) i j;rw[JP s c n b d,List.getElem?_append]
  grind
def pL (s:List UInt8):Nat->List Nat
 |0=>[]
 |m+1=>pL s m++sM s m s.length
def vec (s:List UInt8):List Nat:=pL s 256
theorem JQ (s:List UInt8):∀m,(pL s m).length=ltc s m
 |0=>by simp[pL,YZ]
 |m+1=>by
  rw[pL,aL,JQ s m,PP s m _ (aD _),List.take_length,JN]
theorem yY (s:List UInt8):(vec s).length=s.length:=by rw[vec,JQ,ZA]
def kX (s:List UInt8) (j:Nat):Nat:=ltc s (s.getD j 0).toNat+eqc (s.take j) (s.getD j 0).toNat
theorem PQ (s:List UInt8):∀m i j,(pL s m)[i]? =some j↔(j<s.length/\(s.getD j 0).toNat<m/\i=kX s j)
 |0,i,j=>by simp[pL]
 |m+1,i,j=>by
  have G:=JQ s m;rw[pL,List.getElem?_append];split
  ·rename_i hi
   rw[PQ s m i j]
   grind [kX,pL]
  ·rename_i hi
   rw[ZC s m _ (aD _)];constructor
   ·grind [kX,pL]
   ·rintro⟨A,H,F⟩;have I:m<=(s.getD j 0).toNat:=by
     rcases cF (s.getD j 0).toNat m with d|d
     ·have:=(PQ s m i j).2 ⟨A,d,F⟩;rw[fZ (by omega)] at this;cases this
     ·exact d
    grind [kX,pL]
theorem yZ (s:List UInt8) (i j:Nat):(vec s)[i]? =some j↔(j<s.length/\i=kX s j):=by
 rw[vec,PQ];constructor
 ·grind
 ·rintro⟨d,A⟩;exact⟨d,(s.getD j 0).toNat_lt,A⟩
theorem ZD (s:List UInt8) (j:Nat) (h:j<s.length):kX s j<s.length:=by
 have:=(yZ s (kX s j) j).2 ⟨h,rfl⟩
 grind [yY,kX]
theorem aNf (s:List UInt8) (j k:Nat) (d:j<s.length) (A:k<s.length) (h:kX s j=kX s k):j=k:=by
 have F:=(yZ s (kX s j) j).2 ⟨d,rfl⟩;have G:=(yZ s (kX s k) k).2 ⟨A,rfl⟩
 grind
def vU (s:List UInt8):List Int:=(vec s).map Int.ofNat
theorem aNg (s:List UInt8) (l:List Int) (G:l.length=s.length) (h:∀j,j<s.length->l[kX s j]? =some (j:Int)):l=vU s:=by
 unfold vU;apply lH;intro i;rcases cF i s.length with hi|hi
 ·obtain⟨j,d⟩:∃j,(vec s)[i]? =some j:=⟨_,aN (by rw[yY];exact hi)⟩;obtain⟨A,F⟩:=(yZ s i j).1 d;rw[List.getElem?_map,d,F,h j A];rfl
 ·rw[fZ (by omega),fZ (by rw[aS,yY];exact hi)]
def nxt (s:List UInt8) (i:Nat):Nat:=(vec s).getD i 0
theorem JR (s:List UInt8) (i:Nat) (h:i<s.length):nxt s i<s.length:=by grind [vec,yY,yZ,nxt]
theorem PR (s:List UInt8) (i:Nat) (h:i<s.length):kX s (nxt s i)=i:=by
 obtain⟨j,d⟩:∃j,(vec s)[i]? =some j:=⟨_,aN (by rw[yY];exact h)⟩;have:=((yZ s i j).1 d).2;simp[nxt,List.getD,d,<-this]
theorem aNh (s:List UInt8) (j:Nat) (h:j<s.length):nxt s (kX s j)=j:=by
 have:=(yZ s (kX s j) j).2 ⟨h,rfl⟩
 grind [nxt,kX]
theorem aNi (s:List UInt8) (i j:Nat) (hi:i<s.length) (d:j<s.length) (h:nxt s i=nxt s j):i=j:=by grind [PR,nxt]
def qC (s:List UInt8) (k d:Nat):Int:=if d=0 then 0 else(eqc (s.take k) (d-1):Int)
def nH (s:List UInt8) (c d:Nat):Int:=if d<=c then(ltc s d:Int) else(eqc s (d-1):Int)
def sN (s:List UInt8) (k d:Nat):Int:=(ltc s d:Int)+(eqc (s.take k) d:Int)
theorem aNj (s:List UInt8):qC s 0=fun _=>0:=by funext d;simp[qC,eqc]
theorem aNk (s:List UInt8) (k:Nat) (b:UInt8) (h:s[k]? =some b) (d:Nat):qC s (k+1) d=if d=b.toNat+1 then qC s k (b.toNat+1)+1 else qC s k d:=by grind [qC,JO]
theorem aNl (s:List UInt8):qC s s.length=nH s 0:=by grind [qC,nH,YZ]
theorem aNm (s:List UInt8) (c d:Nat):nH s (c+1) d=if d=c+1 then nH s c (c+1)+nH s c c else nH s c d:=by grind [nH,JN]
theorem aNn (s:List UInt8) (d:Nat) (h:d<257):sN s 0 d=nH s 256 d:=by grind [nH,sN,eqc]
theorem aNo (s:List UInt8) (k:Nat) (b:UInt8) (h:s[k]? =some b) (d:Nat):sN s (k+1) d=if d=b.toNat then sN s k b.toNat+1 else sN s k d:=by grind [sN,JO]
theorem ZE (s:List UInt8) (k:Nat) (b:UInt8) (h:s[k]? =some b):sN s k b.toNat=(kX s k:Int):=by grind [sN,kX]
theorem ZF (s:List UInt8) (c:Nat):eqc s c<=s.length:=DI
theorem aNp (s:List UInt8) (c:Nat):ltc s c<=s.length:=DI
theorem aNq (s:List UInt8) (k d:Nat):0<=qC s k d/\qC s k d<=s.length:=by grind [qC,PO,ZF]
theorem ZG (s:List UInt8) (k d:Nat):0<=nH s k d/\nH s k d<=s.length:=by grind [nH,aNp,ZF]
attribute [irreducible] vec
theorem php:∀(n:Nat) (f:Nat->Nat),(∀k,k<=n->f k<n)->∃a b,a<b/\b<=n/\f a=f b
 |0,f,h=>absurd (h 0 (aD 0)) (Nat.not_lt_zero _)
 |n+1,f,h=>by
  by_cases d:∃k,k<=n/\f k=f (n+1)
  ·obtain⟨k,A,F⟩:=d;exact⟨k,n+1,by omega,aD _,F⟩
  ·have H:∀k,k<=n->f k≠f (n+1):=fun k G e=>d ⟨k,G,e⟩
   have I:=h (n+1) (aD _);obtain⟨a,b,A,F,J⟩:=php n (fun k=>if f (n+1)<f k then f k-1 else f k) (fun k G=>by grind);refine⟨a,b,A,by omega,?_⟩
   grind
def nI (s:List UInt8):Nat->Nat->Nat
 |0,o=>o
 |k+1,o=>nxt s (nI s k o)
theorem xG (s:List UInt8) (o:Nat) (h:o<s.length):∀k,nI s k o<s.length
 |0=>h
 |k+1=>JR s _ (xG s o h k)
def qR (s:List UInt8) (o:Nat):List UInt8:=(eT s.length).map (fun i=>s.getD (nI s (i+1) o) 0)
def oA (s:List UInt8) (o k:Nat):List UInt8:=(eT k).map (fun i=>s.getD (nI s (i+1) o) 0)
theorem ZH (s:List UInt8) (o:Nat):qR s o=oA s o s.length:=rfl
theorem ZI (s:List UInt8) (o k:Nat):oA s o (k+1)=oA s o k++[s.getD (nI s (k+1) o) 0]:=by simp[oA,wU]
theorem xH (s:List UInt8) (o k:Nat):(oA s o k).length=k:=by simp[oA]
theorem JS (s:List UInt8) (o:Nat):(qR s o).length=s.length:=by simp[qR]
def qD (s:List UInt8) (o:Int):Bool:=decide (0<=o)&&decide (o<max (s.length:Int) 1)
def oU (s:List UInt8) (o:Int):List UInt8:=if qD s o then qR s o.toNat else[]
def rK (s:List UInt8) (o:Int):Int:=if qD s o then 0 else 1
theorem aNs (s:List UInt8) (o i:Nat) (h:i<s.length):(qR s o)[i]? =some (s.getD (nI s (i+1) o) 0):=by simp[qR,h]
theorem aNt (s:List UInt8) (a b c:Nat) (h:a<=b):eqc (s.take a) c<=eqc (s.take b) c:=by
 have:=PO (s.take b) a c
 grind
theorem aNu (s:List UInt8) (i:Nat) (h:i+1<s.length):
  (s.getD (nxt s i) 0).toNat<=(s.getD (nxt s (i+1)) 0).toNat/\((s.getD (nxt s i) 0).toNat=(s.getD (nxt s (i+1)) 0).toNat->nxt s i<nxt s (i+1)):=by
 have M:=JR s i (by omega);have I:=JR s (i+1) h;have F:=PR s i (by omega);have G:=PR s (i+1) h;generalize nxt s i=a at*
 generalize nxt s (i+1)=b at*
 unfold kX at F G;obtain⟨y,H⟩:∃y,s[b]? =some y:=⟨_,aN I⟩;have J:s.getD b 0=y:=by simp[H]
 have L:=JO s b y.toNat y H;rw[aB rfl] at L;have O:=PO s (b+1) y.toNat;rw[J] at G ⊢;constructor
 ·rcases cF y.toNat (s.getD a 0).toNat with d|d
  ·have U:=ZB s (y.toNat+1) _ d
   grind [JN,nxt]
  ·exact d
 ·intro e;rw[e] at F;rcases cF a b with A|A
  ·exact A
  ·have:=aNt s b a y.toNat A;omega
section
variable {c:Nat->Nat}
def eqm (c:Nat->Nat) (m a b:Nat):Prop:=∀t,t<m->c (a+t)=c (b+t)
def ltm (c:Nat->Nat) (m a b:Nat):Prop:=∃t,t<m/\(∀u,u<t->c (a+u)=c (b+u))/\c (a+t)<c (b+t)
theorem eqm.refl (m a:Nat):eqm c m a a:=fun _ _=>rfl
theorem eqm.symm {m a b:Nat} (h:eqm c m a b):eqm c m b a:=fun t d=>(h t d).symm
theorem eqm.trans {m a b d:Nat} (h:eqm c m a b) (k:eqm c m b d):eqm c m a d:=by grind [eqm]
theorem ltm.trans {m a b d:Nat} (h:ltm c m a b) (k:ltm c m b d):ltm c m a d:=by grind [ltm]
theorem ltm.not_eqm {m a b:Nat} (h:ltm c m a b):¬eqm c m a b:=by grind [ltm,eqm]
theorem ltm.irrefl {m a:Nat}:¬ltm c m a a:=by simp[eqm.refl,ltm]
theorem ltm.asymm {m a b:Nat} (h:ltm c m a b):¬ltm c m b a:=fun k=>ltm.irrefl (h.trans k)
theorem ltm.eqm {m a b d:Nat} (h:ltm c m a b) (k:eqm c m b d):ltm c m a d:=by grind [ltm,eqm]
theorem eqm.ltm {m a b d:Nat} (h:eqm c m a b) (k:ltm c m b d):ltm c m a d:=by grind [eqm,ltm]
theorem zA (c:Nat->Nat) (a b:Nat):∀m,ltm c m a b\/eqm c m a b\/ltm c m b a:=by
 intro m
 induction m with
 |zero=>exact .inr (.inl (fun t h=>by omega))
 |succ m d=>
  rcases d with⟨t,t1,A,F⟩|h|⟨t,t1,A,F⟩
  ·grind [ltm,eqm]
  ·grind [ltm,eqm]
  ·grind [ltm,eqm]
theorem ZJ (m k a b:Nat):ltm c (m+k) a b↔ltm c m a b\/(eqm c m a b/\ltm c k (a+m) (b+m)):=by
 constructor
 ·rintro⟨t,t1,d,A⟩;rcases cF t m with p|p
  ·grind [ltm,eqm]
  ·refine .inr ⟨fun u F=>d u (by omega),t-m,by omega,fun u F=>?_,?_⟩
   ·have:=d (m+u) (by omega)
    grind
   grind
 ·rintro(⟨t,t1,d,A⟩|⟨h,t,t1,d,A⟩)
  ·grind [ltm,eqm]
  ·refine⟨m+t,by omega,fun u F=>?_,by grind⟩;rcases cF u m with p|p
   ·exact h u p
   ·have:=d (u-m) (by omega)
    grind
theorem aNv (m k a b:Nat):eqm c (m+k) a b↔eqm c m a b/\eqm c k (a+m) (b+m):=by
 constructor
 ·intro h;refine⟨fun t d=>h t (by omega),fun t d=>?_⟩;have:=h (m+t) (by omega)
  grind
 ·rintro⟨h,A⟩ t d;rcases cF t m with p|p
  ·exact h t p
  ·have:=A (t-m) (by omega)
   grind
def Cyc (c:Nat->Nat) (n:Nat):Prop:=∀i,c (i+n)=c i
theorem Cyc.mul {n:Nat} (h:Cyc c n) (i q:Nat):c (i+n*q)=c i:=by
 induction q with
 |zero=>rfl
 |succ q d=>rw[Nat.mul_succ,<-fU,h,d]
theorem Cyc.mod {n:Nat} (h:Cyc c n) (i:Nat):c (i%n)=c i:=by
 have:=h.mul (i%n) (i/n)
 grind [WO,Cyc]
theorem Cyc.mod_add {n:Nat} (h:Cyc c n) (i t:Nat):c (i%n+t)=c (i+t):=by
 rw[<-h.mod (i%n+t),<-h.mod (i+t),Nat.mod_add_mod]
theorem Cyc.ltm {n:Nat} (h:Cyc c n) (m a b:Nat):ltm c m (a%n) (b%n)↔ltm c m a b:=by
 unfold Go.Proofs.YtihbnmlinkbnkaaGreatDoor.ltm;simp only[h.mod_add]
theorem Cyc.eqm {n:Nat} (h:Cyc c n) (m a b:Nat):eqm c m (a%n) (b%n)↔eqm c m a b:=by
 unfold Go.Proofs.YtihbnmlinkbnkaaGreatDoor.eqm;simp only[h.mod_add]
theorem Cyc.all {n:Nat} (h:Cyc c n) (G:0<n) {m a b:Nat} (H:n<=m):(Go.Proofs.YtihbnmlinkbnkaaGreatDoor.eqm c m a b↔Go.Proofs.YtihbnmlinkbnkaaGreatDoor.eqm c n a b)/\(Go.Proofs.YtihbnmlinkbnkaaGreatDoor.ltm c m a b↔Go.Proofs.YtihbnmlinkbnkaaGreatDoor.ltm c n a b):=by
 have F:Go.Proofs.YtihbnmlinkbnkaaGreatDoor.eqm c n a b->Go.Proofs.YtihbnmlinkbnkaaGreatDoor.eqm c m a b:=fun k t _=>by
  have e:∀x,c (x+t)=c (x+t%n):=fun x=>by
   have:=h.mul (x+t%n) (t/n);rw[fU,WO] at this;exact this
  rw[e a,e b];exact k (t%n) (kU _ G)
 refine⟨⟨fun k t I=>k t (by omega),F⟩,⟨fun k=>?_,fun⟨t,t1,d,A⟩=>⟨t,by omega,d,A⟩⟩⟩;rcases zA c a b n with p|p|p
 ·exact p
 ·exact absurd (F p) k.not_eqm
 ·obtain⟨t,t1,d,A⟩:=p;exact absurd ⟨t,by omega,d,A⟩ k.asymm
def rL (c:Nat->Nat) (n m:Nat) (r:Nat->Int):Prop:=∀a b,a<n->b<n->(r a<r b↔ltm c m a b)
theorem rL.eq {n m:Nat} {r:Nat->Int} (h:rL c n m r) {a b:Nat} (d:a<n) (A:b<n):r a=r b↔eqm c m a b:=by
 constructor
 ·grind [zA,rL,eqm]
 ·intro e;rcases Int.lt_trichotomy (r a) (r b) with p|p|p
  ·exact absurd e ((h a b d A).1 p).not_eqm
  ·exact p
  ·exact absurd e.symm ((h b a A d).1 p).not_eqm
def DU (r:Nat->Int) (n M x y:Nat):Int:=
 if r x<r y then-1 else if r y<r x then 1 else if r ((x+M)%n)<r ((y+M)%n) then-1 else if r ((y+M)%n)<r ((x+M)%n) then 1 else 0
theorem ZK {n M x y:Nat} {r:Nat->Int} (H:Cyc c n) (h:rL c n (max M 1) r) (A:x<n) (F:y<n):
  (DU r n M x y<0↔ltm c (max (2*M) 1) x y)/\(DU r n M x y=0↔eqm c (max (2*M) 1) x y):=by
 have d:0<n:=by omega
 have O:=h x y A F;have e2:=h y x F A;have I:=h.eq A F;have J:=h ((x+M)%n) ((y+M)%n) (kU _ d) (kU _ d);have U:=h ((y+M)%n) ((x+M)%n) (kU _ d) (kU _ d);have L:=h.eq (kU (x+M) d) (kU (y+M) d);rw[H.ltm] at J U;rw[H.eqm] at L;have V:ltm c (max (2*M) 1) x y↔r x<r y\/(r x=r y/\r ((x+M)%n)<r ((y+M)%n)):=by
  rcases jE M with G|G
  ·grind
  ·rw[J,O,I,show max (2*M) 1=M+M by omega,show max M 1=M by omega,ZJ]
 have Z:eqm c (max (2*M) 1) x y↔(r x=r y/\r ((x+M)%n)=r ((y+M)%n)):=by
  rcases jE M with G|G
  ·grind
  ·rw[L,I,show max (2*M) 1=M+M by omega,show max M 1=M by omega,aNv]
 rw[V,Z];unfold DU;omega
def bef (c:Nat->Nat) (m:Nat) (x y:Int):Prop:=ltm c m x.toNat y.toNat\/(eqm c m x.toNat y.toNat/\x<y)
theorem BJ (c:Nat->Nat) (m:Nat):vR (bef c m):=by
 refine⟨?_,?_,?_⟩
 ·rintro x y z (h|⟨h,d⟩) (k|⟨k,A⟩)
  ·exact .inl (h.trans k)
  ·exact .inl (h.eqm k)
  ·exact .inl (h.ltm k)
  ·exact .inr ⟨h.trans k,by omega⟩
 ·grind [zA,bef]
 grind [ltm.irrefl,bef]
structure Ord (c:Nat->Nat) (n m:Nat) (o:Nat->Int):Prop where
 rng:∀k,k<n->0<=o k/\o k<(n:Int)
 srt:jM (bef c m) o 0 n
theorem Ord.ne {n m:Nat} {o:Nat->Int} (h:Ord c n m o) {i j:Nat} (hi:i<n) (d:j<n) (A:i≠j):o i≠o j:=by
 intro e;rcases Nat.lt_or_gt_of_ne A with p|p
 ·have:=h.srt i j (aO _) p d;rw[e] at this;exact(BJ c m).irr _ this
 ·have:=h.srt j i (aO _) p hi;rw[e] at this;exact(BJ c m).irr _ this
theorem Ord.onto {n m:Nat} {o:Nat->Int} (h:Ord c n m o) {y:Nat} (A:y<n):∃k,k<n/\o k=(y:Int):=by
 apply aLh;intro F;obtain⟨a,b,G,H,e⟩:=php n (fun k=>if k<n then(o k).toNat else y) (fun k I=>by
  show(if k<n then(o k).toNat else y)<n
  by_cases p:k<n
  ·rw[aB p];have:=h.rng k p;omega
  grind)
 have d:(if a<n then(o a).toNat else y)=(if b<n then(o b).toNat else y):=e;rw[aB (by omega:a<n)] at d;have J:=h.rng a (by omega)
 by_cases p:b<n
 ·rw[aB p] at d;have L:=h.rng b p;exact h.ne (i:=a) (j:=b) (by omega) p (by omega) (by omega)
 grind
theorem Ord.uniq {n m:Nat} {o d:Nat->Int} (h:Ord c n m o) (F:Ord c n m d):∀k,k<n->o k=d k:=by
 intro k
 induction k using Nat.strongRecOn with
 |ind k G=>
  intro I;apply aLh;intro H;have J:∀{o d:Nat->Int},Ord c n m o->Ord c n m d->(∀j,j<k->o j=d j)->o k≠d k->bef c m (d k) (o k):=by
   intro o d h F G H;have r:=h.rng k I;obtain⟨j,A,e⟩:=F.onto (y:=(o k).toNat) (by omega);have L:d j=o k:=by omega
   rcases Nat.lt_trichotomy j k with p|p|p
   ·exact absurd ((G j p).trans L) (h.ne A I (by omega))
   ·grind
   ·rw[<-L];exact F.srt k j (aO _) p A
  have M:=J h F (fun j A=>G j A (by omega)) H;have O:=J F h (fun j A=>(G j A (by omega)).symm) (fun e=>H e.symm);exact(BJ c m).irr _ ((BJ c m).tr _ _ _ M O)
theorem Ord.congr {n m:Nat} {o A:Nat->Int} (h:Ord c n m o) (e:∀k,k<n->A k=o k):Ord c n m A:=
 ⟨fun k d=>by rw[e k d];exact h.rng k d,h.srt.congr fun k _ d=>e k d⟩
theorem Ord.full {n m:Nat} {o:Nat->Int} (h:Ord c n m o) (d:Cyc c n) (A:0<n) (F:n<=m):Ord c n n o:=
 ⟨h.rng,fun i j G H I=>by
  have:=h.srt i j G H I;unfold bef at this ⊢;rwa[(d.all A F).1,(d.all A F).2] at this⟩
theorem aNw {n:Nat} {f:Nat->Int} (G:∀k,k<n->0<=f k/\f k<(n:Int)) (H:∀k,k+1<n->f k<f (k+1)):∀k,k<n->f k=(k:Int):=by
 have lo:∀k,k<n->(k:Int)<=f k:=by
  intro k
  induction k with
  |zero=>intro h;exact(G 0 h).1
  |succ k A=>intro h;have:=A (by omega);have:=H k h;omega
 have hi:∀d k,k+d+1=n->f k<=(k:Int):=by
  intro d
  induction d with
  |zero=>intro k F;have:=(G k (by omega)).2;omega
  |succ d A=>intro k F;have:=A (k+1) (by omega);have:=H k (by omega);omega
 intro k F;have:=lo k F;have:=hi (n-k-1) k (by omega);omega
theorem aNx {n m:Nat} {o:Nat->Int} (h:Ord c n m o) {v:Nat->Int} {r:Nat->Int}
  (U:∀i,i+1<n->(eqm c m (o i).toNat (o (i+1)).toNat/\v (i+1)=v i)\/(¬eqm c m (o i).toNat (o (i+1)).toNat/\v (i+1)=v i+1)) (I:∀i,i<n->r (o i).toNat=v i):rL c n m r:=by
 have J:∀j,j<n->∀i,i<=j->v i<=v j/\(v i=v j↔eqm c m (o i).toNat (o j).toNat):=by
  intro j
  induction j with
  |zero=>
    intro _ i hi;have:i=0:=by omega
    subst this;exact⟨Int.le_refl _,⟨fun _=>eqm.refl _ _,fun _=>rfl⟩⟩
  |succ j V=>
   intro d i hi;rcases cF j i with p|p
   ·grind [eqm.refl,eqm,rL]
   ·obtain⟨L,A⟩:=V (by omega) i p;have e:=U j d;rcases e with⟨q,e⟩|⟨q,e⟩
    ·grind [eqm,rL]
    ·refine⟨by omega,⟨fun w=>by omega,fun w=>?_⟩⟩;exfalso;have s:=h.srt j (j+1) (aO _) (by omega) d;have Z:ltm c m (o j).toNat (o (j+1)).toNat:=s.resolve_right (fun x=>q x.1);rcases cF i j with F|F
     ·rcases h.srt i j (aO _) F (by omega) with t|⟨t,_⟩
      ·exact(t.trans Z).not_eqm w
      grind [eqm,rL]
     grind
 intro a b ha hb;obtain⟨i,hi,ei⟩:=h.onto ha;obtain⟨j,d,ej⟩:=h.onto hb;have M:=I i hi;have O:=I j d;have G:(o i).toNat=a:=by omega
 have H:(o j).toNat=b:=by omega
 rw[G] at M;rw[H] at O;rw[M,O];rcases cF i j with p|p
 ·obtain⟨L,A⟩:=J j d i (by omega);rw[G,H] at A;have s:=h.srt i j (aO _) p d;unfold bef at s;rw[G,H] at s;constructor
  ·grind
  ·intro w;have:v i≠v j:=fun e=>w.not_eqm (A.1 e)
   omega
 ·obtain⟨L,A⟩:=J i hi j p;rw[G,H] at A;constructor
  ·intro w;omega
  ·intro w;exfalso;rcases cF j i with F|F
   ·have s:=h.srt j i (aO _) F hi;unfold bef at s;rw[G,H] at s;rcases s with s|⟨s,_⟩
    ·exact w.asymm s
    ·exact w.not_eqm s.symm
   grind [ltm.irrefl,eqm,rL]
end
end Go.Proofs.YtihbnmlinkbnkaaGreatDoor
namespace Go.Proofs
open Go.Shelf
def Tryz.lays122_ren:Go.Shelf.Ren:=⟨fun|122=>274|215=>297|n=>n,fun|3=>3|4=>4|n=>n,fun|n=>n⟩
theorem Tryz.lays122:Go.Proofs.Lays.n122 pG Tryz.lays122_ren:={
 mixed:=by kernel_rfl
 f122:=func274.trans (congrArg some (by kernel_rfl))
 f215:=func297.trans (congrArg some (by kernel_rfl))
 t3:=underlying3
 a3:=Tryz.isAgg3
 z3:=Tryz.sizeOf3
 v3:=Tryz.zeroValue3
 t4:=underlying4
 a4:=Tryz.isAgg4
 z4:=Tryz.sizeOf4
 v4:=Tryz.zeroValue4}
open Go.RowKit in
theorem Tryz.cmp_Compare_int (x y:Int) (w:World):
  Calls pG 274 #[.int .i64 x,.int .i64 y] w fun e w'=>e=.returned (.int .i64 (Lib.compareInt x y))/\w'=w:=Any.cmp_Compare_int Tryz.lays122 x y w
def Tryz.lays189_ren:Go.Shelf.Ren:=⟨fun|189=>237|125=>270|257=>269|128=>294|129=>295|294=>285|295=>286|296=>287|297=>288|298=>289|299=>290|216=>291|300=>292|301=>293|328=>302|329=>303|330=>304|331=>305|332=>306|215=>297|343=>309|n=>n,fun|28=>26|3=>3|46=>162|0=>0|51=>44|53=>85|4=>4|183=>357|182=>356|131=>362|5=>5|9=>9|218=>367|222=>371|228=>375|229=>67|n=>n,fun|n=>n⟩
theorem Tryz.lays189:Go.Proofs.Lays.n189 pG Tryz.lays189_ren:={
 mixed:=by kernel_rfl
 f125:=func270.trans (congrArg some (by kernel_rfl))
 f128:=func294.trans (congrArg some (by kernel_rfl))
 f129:=func295.trans (congrArg some (by kernel_rfl))
 f189:=func237.trans (congrArg some (by kernel_rfl))
 f215:=func297.trans (congrArg some (by kernel_rfl))
 f216:=func291.trans (congrArg some (by kernel_rfl))
 f257:=func269.trans (congrArg some (by kernel_rfl))
 f294:=func285.trans (congrArg some (by kernel_rfl))
 f295:=func286.trans (congrArg some (by kernel_rfl))
 f296:=func287.trans (congrArg some (by kernel_rfl))
 f297:=func288.trans (congrArg some (by kernel_rfl))
 f298:=func289.trans (congrArg some (by kernel_rfl))
 f299:=func290.trans (congrArg some (by kernel_rfl))
 f300:=func292.trans (congrArg some (by kernel_rfl))
 f301:=func293.trans (congrArg some (by kernel_rfl))
 f328:=func302.trans (congrArg some (by kernel_rfl))
 f329:=func303.trans (congrArg some (by kernel_rfl))
 f330:=func304.trans (congrArg some (by kernel_rfl))
 f331:=func305.trans (congrArg some (by kernel_rfl))
 f332:=func306.trans (congrArg some (by kernel_rfl))
 f343:=func309.trans (congrArg some (by kernel_rfl))
 t0:=underlying0
 a0:=Tryz.isAgg0
 z0:=Tryz.sizeOf0
 v0:=Tryz.zeroValue0
 t3:=underlying3
 a3:=Tryz.isAgg3
 z3:=Tryz.sizeOf3
 v3:=Tryz.zeroValue3
 t4:=underlying4
 a4:=Tryz.isAgg4
 z4:=Tryz.sizeOf4
 v4:=Tryz.zeroValue4
 t5:=underlying5
 a5:=Tryz.isAgg5
 z5:=Tryz.sizeOf5
 v5:=Tryz.zeroValue5
 t9:=underlying9
 a9:=Tryz.isAgg9
 z9:=Tryz.sizeOf9
 v9:=Tryz.zeroValue9
 t28:=underlying26
 a28:=Tryz.isAgg26
 z28:=Tryz.sizeOf26
 v28:=Tryz.zeroValue26
 t46:=underlying162
 a46:=Tryz.isAgg162
 z46:=Tryz.sizeOf162
 v46:=Tryz.zeroValue162
 t51:=underlying44
 a51:=Tryz.isAgg44
 z51:=Tryz.sizeOf44
 v51:=Tryz.zeroValue44
 t53:=underlying85
 a53:=Tryz.isAgg85
 z53:=Tryz.sizeOf85
 v53:=Tryz.zeroValue85
 t131:=underlying362
 a131:=Tryz.isAgg362
 z131:=Tryz.sizeOf362
 v131:=Tryz.zeroValue362
 t182:=underlying356
 a182:=Tryz.isAgg356
 z182:=Tryz.sizeOf356
 v182:=Tryz.zeroValue356
 t183:=underlying357
 a183:=Tryz.isAgg357
 z183:=Tryz.sizeOf357
 v183:=Tryz.zeroValue357
 t218:=underlying367
 a218:=Tryz.isAgg367
 z218:=Tryz.sizeOf367
 v218:=Tryz.zeroValue367
 t222:=underlying371
 a222:=Tryz.isAgg371
 z222:=Tryz.sizeOf371
 v222:=Tryz.zeroValue371
 t228:=underlying375
 a228:=Tryz.isAgg375
 z228:=Tryz.sizeOf375
 v228:=Tryz.zeroValue375
 t229:=underlying67
 a229:=Tryz.isAgg67
 z229:=Tryz.sizeOf67
 v229:=Tryz.zeroValue67}
open Go.Sort Go.RowKit in
theorem Tryz.slices_Sort_int (d off cap:Nat) (zs:List Int) (w:World) (A:Holds (bQ .i64) w d off zs.toArray) (F:d<w.heap.size) (G:zs.length<4611686018427387904):
  Calls pG 237 #[.slice (some ⟨d,off,none⟩) zs.length cap] w fun e w'=>
   e=.returned (.tuple #[])/\∃n os,w'=grow (putRow (bQ .i64) (Sort.ahead w n) d off (zs.mergeSort fun x y=>decide (x<=y)).toArray) os:=Any.slices_Sort_int Tryz.lays189 d off cap zs w A F G
open Go.RowKit Go.Sort in
theorem Tryz.slices_Sort_int_none (p:Option Addr) (cap:Nat) (w:World):
  Calls pG 237 #[.slice p 0 cap] w fun e w'=>e=.returned (.tuple #[])/\w'=w:=Any.slices_Sort_int_none Tryz.lays189 p cap w
end Go.Proofs
namespace Go.Proofs.YtihbnmlinkbnkaaGreatDoor
open Go.RowKit
theorem aQp:Tryz.zeroCells354=(tab 257 (fun _=>0)).toArray:=by kernel_rfl
theorem aA5 (s:ByteArray) (w:World) (hs:s.size<=1000000000):
  Calls pG 265 #[.string s] w fun e w'=>
   ∃v,e=.returned v/\OwI w' w.heap.size v (vU s.data.toList)/\Below w.heap.size w w':=by
 have a2:s.data.toList.length=s.size:=by simp
 have G:=hid a2;clear a2;go_enter func265,ntmps265;go_wp2
 go_loopw [10] (fun i wr=>∃k:Nat,k<=s.size/\i=.int .i64 k/\Arr wr w.heap.size 354 (tab 257 (qC s.data.toList k))/\Below w.heap.size w wr) (fun i _=>s.size-(intOf i).toNat)
 case atStart=>exact⟨0,aO _,rfl,by rw[aNj,aQp];exact Arr.new _ _ _,(aH _ _).alloc (aD _) _⟩
 case round=>
  obtain⟨k,hk,rfl,A,F⟩:=hrel
  by_cases H:k<s.size
  ·have hb:s[k].toNat<256:=s[k].toNat_lt;have J:=hid (fW s k H);have M:=aNq s.data.toList k (s[k].toNat+1);rw[G.out] at M;have hc:=A.cell (lM 257 (qC s.data.toList k) (s[k].toNat+1) (by omega));have hf:=A.free (s[k].toNat+1);obtain⟨x,I⟩:∃x,x=qC s.data.toList k (s[k].toNat+1):=⟨_,rfl⟩;rw[<-I] at hc M;have HX:=hid I;clear I;go_wp2
   go_roundw
   case rel=>
    refine⟨k+1,by omega,by go_num,?_,F.setCell (aD _) _⟩;have:=A.set (s[k].toNat+1) (.int .i64 (x+1));rw[uE 257 _ (qC s.data.toList (k+1)) _ _ (fun d _=>by rw[aNk _ _ _ J.out,HX.out])] at this;exact this
   case measure=>simp[intOf];omega
  ·have O:k=s.size:=by omega
   have HK:=hid O;clear O;go_wp2
   go_loopw [23] (fun i wr=>∃c:Nat,c<=256/\i=.int .i64 c/\Arr wr w.heap.size 354 (tab 257 (nH s.data.toList c))/\Below w.heap.size w wr) (fun i _=>256-(intOf i).toNat)
   case atStart=>exact⟨0,aO _,rfl,by have:=A;rw[HK.out,<-G.out,aNl] at this;exact this,F⟩
   case round=>
    clear A F H;obtain⟨c,hc,rfl,A,F⟩:=hrel
    by_cases H:c<256
    ·have V:decide ((c:Int)<256)=true:=by simp;omega
     have M:=ZG s.data.toList c (c+1);have a3:=ZG s.data.toList c c;rw[G.out] at M a3;have Z:=A.cell (lM 257 (nH s.data.toList c) (c+1) (by omega));have h2:=A.cell (lM 257 (nH s.data.toList c) c (by omega));have hf:=A.free (c+1);obtain⟨x,I⟩:∃x,x=nH s.data.toList c (c+1):=⟨_,rfl⟩;obtain⟨y,hy⟩:∃x,x=nH s.data.toList c c:=⟨_,rfl⟩;rw[<-I] at Z M;rw[<-hy] at h2 a3;have HX:=hid I;have HY:=hid hy;clear I hy;go_wp2
     go_region
     go_wp2
     go_roundw
     case rel=>
      refine⟨c+1,by omega,by go_num,?_,(F.setCell (aD _) _).drew⟩;have:=A.set (c+1) (.int .i64 (x+y));rw[uE 257 _ (nH s.data.toList (c+1)) _ _ (fun d _=>by rw[aNm,HX.out,HY.out])] at this;exact this
     case measure=>simp[intOf];omega
    ·have a4:c=256:=by omega
     have HC:=hid a4;clear a4;have V:decide ((c:Int)<256)=false:=by simp;omega
     obtain⟨U,rfl⟩:∃U:World,U=wr:=⟨_,rfl⟩;go_wp2_with (at_make;refine mkA jL rfl _ _ rfl s.size rfl rfl ?_ ?_;omega);have a8:w.heap.size<U.heap.size:=A.lt
     go_loopw [41] (fun i wr=>∃k:Nat,k<=s.size/\i=.int .i64 k/\Arr wr w.heap.size 354 (tab 257 (sN s.data.toList k))/\(∃L:List Int,L.length=s.size/\Hid (∀j,j<k->L[kX s.data.toList j]? =some (j:Int))/\Arr wr U.heap.size 3 (L.map (bQ .i64)))/\Below w.heap.size w wr) (fun i _=>s.size-(intOf i).toNat)
     case atStart=>
      refine⟨0,aO _,rfl,?_,⟨aX s.size 0,by simp,hid (fun j hj=>by omega),?_⟩,F.alloc (by omega) _⟩
      ·have:=A.alloc (.cells (gW (.int .i64 0) s.size) 3);rw[HC.out] at this;rwa[show tab 257 (sN s.data.toList 0)=tab 257 (nH s.data.toList 256) from by
        apply List.map_congr_left;intro d V;rw[aNn _ _ (by simpa using V)]]
      ·rw[List.map_replicate];exact Arr.made _ _ _ _
     case round=>
      clear A F H V;obtain⟨k,hk,rfl,A,⟨L,hL,HP,a0⟩,F⟩:=hrel
      by_cases H:k<s.size
      ·have hb:s[k].toNat<256:=s[k].toNat_lt;have J:=hid (fW s k H);have a5:=ZD s.data.toList k (by rw[G.out];exact H);have Z:=A.cell (lM 257 (sN s.data.toList k) s[k].toNat (by omega));rw[ZE _ _ _ J.out] at Z;rw[G.out] at a5;obtain⟨p,hp⟩:∃p,p=kX s.data.toList k:=⟨_,rfl⟩;rw[<-hp] at Z a5;have a1:=hid hp;clear hp;have hf:=A.free s[k].toNat;have a9:=a0.free p;obtain⟨v2,a6⟩:∃v2,(L.map (bQ .i64))[p]? =some v2:=⟨_,aN (by simp;omega)⟩;have h2:=a0.cell a6;clear a6;go_wp2
       go_roundw
       case rel=>
        refine⟨k+1,by omega,by go_num,?_,⟨L.set p (k:Int),by simpa using hL,hid ?_,?_⟩,(F.setCell (by simp;omega) _).setCell (aD _) _⟩
        ·have:=(A.other ⟨U.heap.size,p,none⟩ (by simp;omega) (.int .i64 (k:Int))).set s[k].toNat (.int .i64 ((p:Int)+1));rw[uE 257 _ (sN s.data.toList (k+1)) _ _ (fun d _=>by rw[aNo _ _ _ J.out,ZE _ _ _ J.out,<-a1.out])] at this;exact this
        ·intro j hj;rcases cF j k with h'|h'
         ·rw[List.getElem?_set_ne (fun e=>?_)]
          ·exact HP.out j h'
          ·have:=aNf s.data.toList j k (by rw[G.out];omega) (by rw[G.out];omega) (by rw[<-a1.out,e]);omega
         ·have:j=k:=by omega
          subst this;rw[<-a1.out,List.getElem?_set_self (by omega)]
        ·have:=(a0.set p (.int .i64 (k:Int))).other ⟨w.heap.size,s[k].toNat,none⟩ (by simp;omega) (.int .i64 ((p:Int)+1));rwa[<-List.map_set] at this
       case measure=>simp[intOf];omega
      ·have O:k=s.size:=by omega
       have a7:=hid O;clear O;go_wp2;go_ret;have e:=aNg s.data.toList L (by rw[G.out,hL]) (fun j hj=>HP.out j (by rw[a7.out,<-G.out];exact hj));have ho:=a0.own (B:=w.heap.size) (by omega) (by rw[aS,hL];simp only[maxLen];omega);rw[aS,hL] at ho;rw[e] at ho;exact⟨_,rfl,ho,F⟩
theorem zF {a b c d:Value} (A:a=c) (F:b=d):Ending.returned (.tuple #[a,b])=.returned (.tuple #[c,d]):=by rw[A,F]
theorem aA6 (s:List UInt8) (k:Nat) (h:k<s.length):(vU s)[k]? =some ((nxt s k:Nat):Int):=by grind [vU,nxt,vec,yY]
theorem QO (s:List UInt8):(vU s).length=s.length:=by simp[vU,yY]
theorem QP (s:ByteArray) (k:Nat) (h:k<s.size):s.data.toList.getD k 0=s[k]:=by grind [fW]
theorem aQt (s:ByteArray) (o:Int) (w:World) (hs:s.size<=1000000000) (b0: -9223372036854775808<=o) (b2:o<=9223372036854775807):
  Calls pG 232 #[.string s,.int .i64 o] w fun e w'=>
   e=.returned (.tuple #[.string (mkS (oU s.data.toList o)),.int .i64 (rK s.data.toList o)])/\Below w.heap.size w w':=by
 have J:s.data.toList.length=s.size:=by simp
 have G:=hid J
 by_cases L:qD s.data.toList o=true
 case neg=>
  have d:qD s.data.toList o=false:=by simpa using L
  have M:oU s.data.toList o=[]/\rK s.data.toList o=1:=by simp[oU,rK,d]
  have A:=hid M;unfold qD at d;rw[J] at d;clear M L J
  by_cases a6:o<0
  ·clear d;have hd:decide (o<0)=true:=by simpa using a6
   go_enter func232,ntmps232;go_wp2
   go_ret2
   exact⟨zF (by rw[A.out.1];rfl) (by rw[A.out.2];rfl),aH _ _⟩
  ·have h1:(max (s.size:Int) 1)<=o:=by simp at d;omega
   have h2:decide (max (s.size:Int) 1<=o)=true:=by simpa using h1
   have hd:decide (o<0)=false:=by simpa using a6
   clear d h2;go_enter func232,ntmps232;go_wp2
   all_goals go_ret2
   all_goals exact⟨zF (by rw[A.out.1];rfl) (by rw[A.out.2];rfl),aH _ _⟩
 case pos=>
  have d:=L;unfold qD at d;rw[J] at d;have h1:0<=o/\o<max (s.size:Int) 1:=by simpa using d
  obtain⟨n,rfl⟩:=Int.eq_ofNat_of_zero_le h1.1;have M:oU s.data.toList n=oA s.data.toList n s.size/\rK s.data.toList n=0:=by
   simp[oU,rK,L,ZH]
  have A:=hid M;have a1:n<s.size\/(s.size=0/\n=0):=by omega
  clear M L J d h1 b0 b2;have hd:decide ((n:Int)<0)=false:=by simp
  have HN:=hid (show 0<s.size->n<s.size from fun h=>by omega);have b3:n<s.size\/s.size<=0/\n<=0:=by omega
  clear a1;rcases b3 with a1|⟨a1,b6⟩
  ·go_enter func232,ntmps232;go_wp2_with fail;refine(aA5 s _ hs).mono ?_;rintro e w1 ⟨v,rfl,O,H⟩;obtain⟨va,vc,rfl,a2,a3,U⟩:=O.rd.open;rw[QO,G.out] at U a2 ⊢;simp only[maxLen] at a3;clear O;go_wp2_with (at_make;refine mkA yU rfl _ _ rfl s.size rfl rfl ?_ ?_;omega)
   go_loopg [8,27] s.size (fun g a4 i wr=>∃k:Nat,k<=s.size/\g=s.size-k/\i=.int .i64 k/\a4=.int .i64 ((nI s.data.toList k n:Nat):Int)/\Arr wr w1.heap.size 5 (fG (qO s.size 0 (oA s.data.toList n k)))/\Below w.heap.size w wr/\Below w1.heap.size w1 wr)
   case atStart=>
    refine⟨0,aO _,rfl,rfl,rfl,?_,H.alloc (by have:=H.size;omega) _,(aH _ _).alloc (aD _) _⟩;have:=Arr.made w1 5 (.int .u8 0) s.size;rwa[show aX s.size (bQ .u8 0)=fG (qO s.size 0 (oA s.data.toList n 0)) from by simp[fG,qO,oA]] at this
   case round=>
    obtain⟨k,hk,I,rfl,rfl,F,a0,a5⟩:=hrel
    by_cases a7:k<s.size
    ·have hn:=HN.out (by omega);have a8:=xG s.data.toList n (by rw[G.out];exact hn) k;have V:=xG s.data.toList n (by rw[G.out];exact hn) (k+1);rw[G.out] at a8 V;obtain⟨b1,o1,rfl,b4,a9⟩:=U (by omega);have c1:wr.cell? ⟨b1,o1+nI s.data.toList k n,none⟩=some (.int .i64 ((nI s.data.toList (k+1) n:Nat):Int)):=by
      rw[a5.cell (p:=⟨b1,o1+nI s.data.toList k n,none⟩) b4];exact a9 _ _ (aA6 _ _ (by rw[G.out];exact a8))
     have b7:=hid (fW s _ V);have hb:s[nI s.data.toList (k+1) n].toNat<256:=UInt8.toNat_lt _;obtain⟨x,hx⟩:=aMa s.size (0:UInt8) (oA s.data.toList n k) k a7 (by rw[xH];omega);have c2:=F.cell (IZ hx);have f2:=F.free k;have HG:=hid I;clear hx U a9 I;go_wp2;have I:=HG.out
     go_roundg (s.size-(k+1))
     case measure=>omega
     case rel=>
      refine⟨k+1,by omega,rfl,by go_num,rfl,?_,a0.setCell (by have:=H.size;simp;omega) _,a5.setCell (by simp) _⟩;have:=F.set k (.int .u8 ((s[nI s.data.toList (k+1) n].toNat:Nat):Int));rw[YG] at this;have e:=aL9 s.size (0:UInt8) s[nI s.data.toList (k+1) n] (oA s.data.toList n k) (by rw[xH];exact a7);rw[xH,<-QP s _ V,<-ZI] at e;rw[<-QP s _ V,e] at this;rw[<-QP s _ V];exact this
    ·have Z:k=s.size:=by omega
     rw[Z,YH _ _ _ (by rw[xH];exact aD _)] at F;have b5:=mP (F.rdB (n:=s.size) (by rw[xH]) (by simp only[maxLen];omega));clear Z I;go_wp2
     go_ret2
     exact⟨zF (by rw[A.out.1];rfl) (by rw[A.out.2];rfl),a0⟩
  ·go_enter func232,ntmps232;go_wp2_with fail;refine(aA5 s _ hs).mono ?_;rintro e w1 ⟨v,rfl,O,H⟩;obtain⟨va,vc,rfl,a2,a3,U⟩:=O.rd.open;rw[QO,G.out] at U a2 ⊢;simp only[maxLen] at a3;clear O;go_wp2_with (at_make;refine mkA yU rfl _ _ rfl s.size rfl rfl ?_ ?_;omega)
   go_loopg [8,27] s.size (fun g a4 i wr=>∃k:Nat,k<=s.size/\g=s.size-k/\i=.int .i64 k/\a4=.int .i64 ((nI s.data.toList k n:Nat):Int)/\Arr wr w1.heap.size 5 (fG (qO s.size 0 (oA s.data.toList n k)))/\Below w.heap.size w wr/\Below w1.heap.size w1 wr)
   case atStart=>
    refine⟨0,aO _,rfl,rfl,rfl,?_,H.alloc (by have:=H.size;omega) _,(aH _ _).alloc (aD _) _⟩;have:=Arr.made w1 5 (.int .u8 0) s.size;rwa[show aX s.size (bQ .u8 0)=fG (qO s.size 0 (oA s.data.toList n 0)) from by simp[fG,qO,oA]] at this
   case round=>
    obtain⟨k,hk,I,rfl,rfl,F,a0,a5⟩:=hrel;have Z:k=s.size:=by omega
    rw[Z,YH _ _ _ (by rw[xH];exact aD _)] at F;have b5:=mP (F.rdB (n:=s.size) (by rw[xH]) (by simp only[maxLen];omega));clear Z I;go_wp2
    go_ret2
    exact⟨zF (by rw[A.out.1];rfl) (by rw[A.out.2];rfl),a0⟩
end Go.Proofs.YtihbnmlinkbnkaaGreatDoor
