/- The walks and the plain laws, part 5. -/
import Derived.Shelf.Strings.Builder1
import Derived.Shelf.Small.Bits
import Derived.Shelf.Small.Wraps
import Derived.Shelf.Strings.BuilderF
import Derived.Shelf.Strings.BuilderK
import Derived.Shelf.Strconv.Itoa0
import Derived.Shelf.Sort.Plain
import Derived.Ground.Names2Prog
import Derived.Shelf.Slices.Clone
import Derived.Shelf.Slices.SearchI
import Derived.Shelf.Slices.In.SortNone
import Derived.Ground.SlgnProg
import Derived.Shelf.SlicesE.Clone
import Derived.Shelf.Bytes.IndexByte
import Derived.Test.YtiifmcicleljjaaGreatDoorProg
import Derived.Sort.OwnSortedInts
import Derived.Test.YtiifmcicleljjaaGreatDoorT2
import Derived.Test.YtiifmcicleljjaaGreatDoorT4
set_option maxRecDepth 100000
set_option maxHeartbeats 12800000
set_option linter.unusedVariables false
open Array renaming getElem?_toList->FW
open Bool renaming false_ne_true->aB2
open Classical renaming byContradiction->aCc,propDecidable->GL
open Go renaming run_underlying->sI
open Go.Instr renaming index->tV
open Go.IntKind renaming i64->aI,u8->pX
open Go.IntWalk renaming i64_in->tS
open Go.Lib renaming IsBuilderF->aTu,byteCells->nS
open Go.RowKit.Below renaming refl->aB
open Go.Value renaming int->bO
open Go.Value.slice renaming injEq->aCd
open Go.World renaming block_lt_of_cell?->iO,cell?_alloc_at->FO
open Int renaming eq_ofNat_of_zero_le->NS,le_refl->lJ,tmod_eq_emod_of_nonneg->oJ
open List renaming append_assoc->cF,append_nil->eE,countP_append->NN,countP_le_length->xR,eq_nil_of_length_eq_zero->vK,ext_getElem?->jA,getD->fF,getElem?_eq_getElem->aN,getElem?_eq_none->dL,getElem?_eq_some_iff->eU,getElem?_map->dY,getElem?_set_ne->qU,getElem?_take_of_lt->mB,length_append->aL,length_cons->cR,length_map->bJ,map_append->fI,map_congr_left->qW,mem_map->dU,mem_of_getElem?->cH,pairwise_iff_getElem->xO,range->dG,range_succ->sF,replicate->bB,singleton_append->GI,take_add_one->cQ,take_length->kE,take_of_length_le->cS
open List.Pairwise renaming imp_of_mem->aB5
open Nat renaming add_assoc->dZ,add_sub_cancel'->aCb,add_zero->pH,eq_zero_or_pos->fJ,le_refl->aA,lt_or_ge->bT,lt_trichotomy->pW,mod_add_div->NU,mod_lt->jQ,mul_one->sE,zero_le->aU
open Option.some renaming inj->bW,injEq->iP
open UInt8 renaming ofNat->eK
namespace Go.Proofs.YtiifmcicleljjaaGreatDoor
def ltc (s:List UInt8) (c:Nat):Nat:=s.countP (fun b=>decide (b.toNat<c))
def eqc (s:List UInt8) (c:Nat):Nat:=s.countP (fun b=>b.toNat==c)
theorem CG (s:List UInt8) (c:Nat):ltc s (c+1)=ltc s c+eqc s c:=by
 unfold ltc eqc
 induction s with
 |nil=>rfl
 |cons b l d=>
  simp only[List.countP_cons,d]
  by_cases A:b.toNat<c
  ·have:b.toNat<c+1:=by omega
   have:b.toNat≠c:=by omega
   simp[*];omega
  ·by_cases z:b.toNat=c
   ·simp[z];omega
   ·have:¬b.toNat<c+1:=by omega
    simp[*]
theorem QL (s:List UInt8):ltc s 0=0:=by simp[ltc]
theorem QM (s:List UInt8):ltc s 256=s.length:=by
 unfold ltc;rw[List.countP_eq_length];intro b _;simp;exact b.toNat_lt
theorem QN (s:List UInt8) (c d:Nat) (h:c<=d):ltc s c<=ltc s d:=by
 induction d with
 |zero=>
   have:c=0:=by omega
   subst this;exact aA _
 |succ d A=>
  rcases bT d c with z|z
  ·have:c=d+1:=by omega
   subst this;exact aA _
  ·rw[CG];have:=A z;omega
theorem CH (s:List UInt8) (k c:Nat) (b:UInt8) (h:s[k]? =some b):eqc (s.take (k+1)) c=eqc (s.take k) c+if b.toNat=c then 1 else 0:=by
 unfold eqc;rw[cQ,h,NN]
 by_cases d:b.toNat=c<;>simp[d]
theorem JD (s:List UInt8) (k c:Nat):eqc (s.take k) c<=eqc s c:=by
 unfold eqc;have h:=congrArg (List.countP (fun b=>b.toNat==c)) (List.take_append_drop k s);rw[NN] at h;omega
def mG (s:List UInt8) (c n:Nat):List Nat:=(dG n).filter (fun i=>(s.getD i 0).toNat==c)
theorem CI (s:List UInt8) (c n:Nat) (b:UInt8) (h:s[n]? =some b):mG s c (n+1)=mG s c n++if b.toNat=c then[n] else[]:=by
 unfold mG;rw[sF,List.filter_append];have:s.getD n 0=b:=by simp[h]
 by_cases d:b.toNat=c<;>simp[h,d]
theorem JE (s:List UInt8) (c:Nat):∀n,n<=s.length->(mG s c n).length=eqc (s.take n) c
 |0,_=>by simp[mG,eqc]
 |n+1,h=>by
  obtain⟨b,d⟩:∃b,s[n]? =some b:=⟨_,aN (by omega)⟩;rw[CI s c n b d,CH s n c b d,aL,JE s c n (by omega)]
  by_cases h:b.toNat=c<;>simp[h]
theorem JF (s:List UInt8) (c:Nat):∀n,n<=s.length->∀i j,(mG s c n)[i]? =some j↔(j<n/\(∃b,s[j]? =some b/\b.toNat=c)/\i=eqc (s.take j) c)
 |0,_,i,j=>by simp[mG]
 |n+1,h,i,j=>by
  obtain⟨b,G⟩:∃b,s[n]? =some b:=⟨_,aN (by omega)⟩;have Y:=JE s c n (by omega);have M:=JF s c n (by omega) i j;rw[CI s c n b G,List.getElem?_append];split
  ·rename_i hi
   rw[M];constructor
   ·rintro⟨H,z,A⟩;exact⟨by omega,z,A⟩
   ·rintro⟨H,z,A⟩;refine⟨?_,z,A⟩;rcases bT j n with d|d
    ·exact d
    ·have:j=n:=by omega
     subst this;omega
  ·rename_i hi
   have I:∀E,E<n->i=eqc (s.take E) c->(∃b,s[E]? =some b/\b.toNat=c)->False:=by
    intro E O T U;have:=(JF s c n (by omega) i E).2 ⟨O,U,T⟩;rw[dL (by omega)] at this
    cases this
   by_cases F:b.toNat=c
   ·rw[if_pos F];constructor
    ·intro d;have hi0:i-(mG s c n).length=0:=by
      rcases fJ (i-(mG s c n).length) with J|J
      ·exact J
      ·rw[dL (by simp;omega)] at d;cases d
     rw[hi0] at d;have:n=j:=by simpa using d
     subst this;exact⟨by omega,⟨b,G,F⟩,by omega⟩
    ·rintro⟨H,z,A⟩;rcases bT j n with d|d
     ·exact(I j d A z).elim
     ·have:j=n:=by omega
      subst this;rw[show i-(mG s c j).length=0 by omega];rfl
   ·rw[if_neg F];constructor
    ·intro d;simp at d
    ·rintro⟨H,⟨V,z,L⟩,A⟩;rcases bT j n with d|d
     ·exact(I j d A ⟨V,z,L⟩).elim
     ·have:j=n:=by omega
      subst this;rw[G] at z;cases z;exact absurd L F
def nV (s:List UInt8):Nat->List Nat
 |0=>[]
 |m+1=>nV s m++mG s m s.length
def vec (s:List UInt8):List Nat:=nV s 256
theorem CJ (s:List UInt8):∀m,(nV s m).length=ltc s m
 |0=>by simp[nV,QL]
 |m+1=>by
  rw[nV,aL,CJ s m,JE s m _ (aA _),kE,CG]
theorem aFu (s:List UInt8):vec s=nV s 256:=by rw[vec]
theorem uJ (s:List UInt8):(vec s).length=s.length:=by rw[vec,CJ,QM]
def jI (s:List UInt8) (j:Nat):Nat:=ltc s (s.getD j 0).toNat+eqc (s.take j) (s.getD j 0).toNat
theorem JG (s:List UInt8):∀m i j,(nV s m)[i]? =some j↔(j<s.length/\(s.getD j 0).toNat<m/\i=jI s j)
 |0,i,j=>by simp[nV]
 |m+1,i,j=>by
  have H:=CJ s m;rw[nV,List.getElem?_append];split
  ·rename_i hi
   rw[JG s m i j];constructor
   ·rintro⟨z,E,d⟩;exact⟨z,by omega,d⟩
   ·rintro⟨z,E,d⟩;refine⟨z,?_,d⟩;rcases bT (s.getD j 0).toNat m with A|A
    ·exact A
    ·have F:(s.getD j 0).toNat=m:=by omega
     unfold jI at d;rw[F] at d;omega
  ·rename_i hi
   rw[JF s m _ (aA _)];constructor
   ·rintro⟨z,⟨b,E,d⟩,I⟩;have G:s.getD j 0=b:=by simp[E]
    refine⟨z,by rw[G];omega,?_⟩;unfold jI;rw[G,d];omega
   ·rintro⟨z,E,d⟩;have J:m<=(s.getD j 0).toNat:=by
     rcases bT (s.getD j 0).toNat m with A|A
     ·have:=(JG s m i j).2 ⟨z,A,d⟩;rw[dL (by omega)] at this;cases this
     ·exact A
    have F:(s.getD j 0).toNat=m:=by omega
    refine⟨z,⟨s.getD j 0,by simp[aN z],F⟩,?_⟩;unfold jI at d;rw[F] at d;omega
theorem uK (s:List UInt8) (i j:Nat):(vec s)[i]? =some j↔(j<s.length/\i=jI s j):=by
 rw[vec,JG];constructor
 ·rintro⟨d,_,z⟩;exact⟨d,z⟩
 ·rintro⟨d,z⟩;exact⟨d,(s.getD j 0).toNat_lt,z⟩
theorem QO (s:List UInt8) (j:Nat) (h:j<s.length):jI s j<s.length:=by
 have:=(uK s (jI s j) j).2 ⟨h,rfl⟩;have:=(eU.1 this).1;rw[uJ] at this;exact this
theorem aFi (s:List UInt8) (j k:Nat) (z:j<s.length) (A:k<s.length) (h:jI s j=jI s k):j=k:=by
 have d:=(uK s (jI s j) j).2 ⟨z,rfl⟩;have E:=(uK s (jI s k) k).2 ⟨A,rfl⟩;rw[h,E] at d;exact(bW d).symm
def rL (s:List UInt8):List Int:=(vec s).map Int.ofNat
theorem aFj (s:List UInt8) (l:List Int) (E:l.length=s.length) (h:∀j,j<s.length->l[jI s j]? =some (j:Int)):l=rL s:=by
 unfold rL;apply jA;intro i;rcases bT i s.length with hi|hi
 ·obtain⟨j,d⟩:∃j,(vec s)[i]? =some j:=⟨_,aN (by rw[uJ];exact hi)⟩;obtain⟨z,A⟩:=(uK s i j).1 d;rw[dY,d,A,h j z];rfl
 ·rw[dL (by omega),dL (by rw[bJ,uJ];exact hi)]
def nxt (s:List UInt8) (i:Nat):Nat:=(vec s).getD i 0
theorem CK (s:List UInt8) (i:Nat) (h:i<s.length):nxt s i<s.length:=by
 obtain⟨j,d⟩:∃j,(vec s)[i]? =some j:=⟨_,aN (by rw[uJ];exact h)⟩;have:=((uK s i j).1 d).1;simp[nxt,fF,d,this]
theorem CM (s:List UInt8) (i:Nat) (h:i<s.length):jI s (nxt s i)=i:=by
 obtain⟨j,d⟩:∃j,(vec s)[i]? =some j:=⟨_,aN (by rw[uJ];exact h)⟩;have:=((uK s i j).1 d).2;simp[nxt,fF,d,<-this]
theorem aFk (s:List UInt8) (j:Nat) (h:j<s.length):nxt s (jI s j)=j:=by
 have:=(uK s (jI s j) j).2 ⟨h,rfl⟩;simp[nxt,fF,this]
theorem aFl (s:List UInt8) (i j:Nat) (hi:i<s.length) (d:j<s.length) (h:nxt s i=nxt s j):i=j:=by
 rw[<-CM s i hi,<-CM s j d,h]
def mH (s:List UInt8) (k d:Nat):Int:=if d=0 then 0 else(eqc (s.take k) (d-1):Int)
def kI (s:List UInt8) (c d:Nat):Int:=if d<=c then(ltc s d:Int) else(eqc s (d-1):Int)
def oQ (s:List UInt8) (k d:Nat):Int:=(ltc s d:Int)+(eqc (s.take k) d:Int)
theorem aFm (s:List UInt8):mH s 0=fun _=>0:=by funext d;simp[mH,eqc]
theorem aFn (s:List UInt8) (k:Nat) (b:UInt8) (h:s[k]? =some b) (d:Nat):mH s (k+1) d=if d=b.toNat+1 then mH s k (b.toNat+1)+1 else mH s k d:=by
 unfold mH
 by_cases z:d=0
 ·subst z;rw[if_pos rfl,if_neg (by omega),if_pos rfl]
 ·rw[if_neg z,CH s k _ b h]
  by_cases A:d=b.toNat+1
  ·subst A;simp
  ·rw[if_neg A,if_neg z,if_neg (by omega)];simp
theorem aFo (s:List UInt8):mH s s.length=kI s 0:=by
 funext d
 unfold mH kI;rw[kE]
 by_cases z:d=0
 ·subst z;simp[QL]
 ·rw[if_neg z,if_neg (by omega)]
theorem aFp (s:List UInt8) (c d:Nat):kI s (c+1) d=if d=c+1 then kI s c (c+1)+kI s c c else kI s c d:=by
 unfold kI
 by_cases z:d=c+1
 ·subst z;rw[if_pos rfl,if_pos (aA _),if_neg (by omega),if_pos (aA _),CG];simp;omega
 ·rw[if_neg z]
  by_cases h:d<=c
  ·rw[if_pos h,if_pos (by omega)]
  ·rw[if_neg h,if_neg (by omega)]
theorem aFq (s:List UInt8) (d:Nat) (h:d<257):oQ s 0 d=kI s 256 d:=by
 unfold kI oQ;rw[if_pos (by omega)];simp[eqc]
theorem aFr (s:List UInt8) (k:Nat) (b:UInt8) (h:s[k]? =some b) (d:Nat):oQ s (k+1) d=if d=b.toNat then oQ s k b.toNat+1 else oQ s k d:=by
 unfold oQ;rw[CH s k _ b h]
 by_cases z:d=b.toNat
 ·subst z;simp;omega
 ·rw[if_neg z,if_neg (by omega)];simp
theorem QP (s:List UInt8) (k:Nat) (b:UInt8) (h:s[k]? =some b):oQ s k b.toNat=(jI s k:Int):=by
 unfold oQ jI;have:s.getD k 0=b:=by simp[h]
 rw[this];simp
theorem QQ (s:List UInt8) (c:Nat):eqc s c<=s.length:=xR
theorem aFs (s:List UInt8) (c:Nat):ltc s c<=s.length:=xR
theorem aFt (s:List UInt8) (k d:Nat):0<=mH s k d/\mH s k d<=s.length:=by
 unfold mH;split
 ·omega
 ·have:=JD s k (d-1);have:=QQ s (d-1);omega
theorem QS (s:List UInt8) (k d:Nat):0<=kI s k d/\kI s k d<=s.length:=by
 unfold kI;split
 ·have:=aFs s d;omega
 ·have:=QQ s (d-1);omega
attribute [irreducible] vec
theorem php:∀(n:Nat) (f:Nat->Nat),(∀k,k<=n->f k<n)->∃a b,a<b/\b<=n/\f a=f b
 |0,f,h=>absurd (h 0 (aA 0)) (Nat.not_lt_zero _)
 |n+1,f,h=>by
  by_cases E:∃k,k<=n/\f k=f (n+1)
  ·obtain⟨k,F,d⟩:=E;exact⟨k,n+1,by omega,aA _,d⟩
  ·have z:∀k,k<=n->f k≠f (n+1):=fun k A e=>E ⟨k,A,e⟩
   have H:=h (n+1) (aA _);obtain⟨a,b,F,d,G⟩:=php n (fun k=>if f (n+1)<f k then f k-1 else f k) (fun k A=>by
    have:=h k (by omega);have:=z k A;split<;>omega)
   refine⟨a,b,F,by omega,?_⟩;have I:=z a (by omega);have J:=z b d;split at G<;>split at G<;>omega
def kJ (s:List UInt8):Nat->Nat->Nat
 |0,o=>o
 |k+1,o=>nxt s (kJ s k o)
theorem sU (s:List UInt8) (o:Nat) (h:o<s.length):∀k,kJ s k o<s.length
 |0=>h
 |k+1=>CK s _ (sU s o h k)
def nF (s:List UInt8) (o:Nat):List UInt8:=(dG s.length).map (fun i=>s.getD (kJ s (i+1) o) 0)
def kY (s:List UInt8) (o k:Nat):List UInt8:=(dG k).map (fun i=>s.getD (kJ s (i+1) o) 0)
theorem QT (s:List UInt8) (o:Nat):nF s o=kY s o s.length:=rfl
theorem QV (s:List UInt8) (o k:Nat):kY s o (k+1)=kY s o k++[s.getD (kJ s (k+1) o) 0]:=by simp[kY,sF]
theorem sV (s:List UInt8) (o k:Nat):(kY s o k).length=k:=by simp[kY]
theorem CN (s:List UInt8) (o:Nat):(nF s o).length=s.length:=by simp[nF]
def mJ (s:List UInt8) (o:Int):Bool:=decide (0<=o)&&decide (o<max (s.length:Int) 1)
def lE (s:List UInt8) (o:Int):List UInt8:=if mJ s o then nF s o.toNat else[]
def nW (s:List UInt8) (o:Int):Int:=if mJ s o then 0 else 1
theorem aFv (s:List UInt8) (o i:Nat) (h:i<s.length):(nF s o)[i]? =some (s.getD (kJ s (i+1) o) 0):=by simp[nF,h]
theorem aFw (s:List UInt8) (a b c:Nat) (h:a<=b):eqc (s.take a) c<=eqc (s.take b) c:=by
 have:=JD (s.take b) a c;rwa[List.take_take,Nat.min_eq_left h] at this
theorem aFx (s:List UInt8) (i:Nat) (h:i+1<s.length):
  (s.getD (nxt s i) 0).toNat<=(s.getD (nxt s (i+1)) 0).toNat/\((s.getD (nxt s i) 0).toNat=(s.getD (nxt s (i+1)) 0).toNat->nxt s i<nxt s (i+1)):=by
 have L:=CK s i (by omega);have G:=CK s (i+1) h;have A:=CM s i (by omega);have E:=CM s (i+1) h;generalize nxt s i=a at*
 generalize nxt s (i+1)=b at*
 unfold jI at A E;obtain⟨y,F⟩:∃y,s[b]? =some y:=⟨_,aN G⟩;have H:s.getD b 0=y:=by simp[F]
 have I:=CH s b y.toNat y F;rw[if_pos rfl] at I;have M:=JD s (b+1) y.toNat;rw[H] at E ⊢;constructor
 ·rcases bT y.toNat (s.getD a 0).toNat with d|d
  ·have J:=QN s (y.toNat+1) _ d;rw[CG] at J;omega
  ·exact d
 ·intro e;rw[e] at A;rcases bT a b with z|z
  ·exact z
  ·have:=aFw s b a y.toNat z;omega
section
variable {c:Nat->Nat}
def eqm (c:Nat->Nat) (m a b:Nat):Prop:=∀t,t<m->c (a+t)=c (b+t)
def ltm (c:Nat->Nat) (m a b:Nat):Prop:=∃t,t<m/\(∀u,u<t->c (a+u)=c (b+u))/\c (a+t)<c (b+t)
theorem eqm.refl (m a:Nat):eqm c m a a:=fun _ _=>rfl
theorem eqm.symm {m a b:Nat} (h:eqm c m a b):eqm c m b a:=fun t d=>(h t d).symm
theorem eqm.trans {m a b d:Nat} (h:eqm c m a b) (k:eqm c m b d):eqm c m a d:=fun t z=>(h t z).trans (k t z)
theorem ltm.trans {m a b d:Nat} (h:ltm c m a b) (k:ltm c m b d):ltm c m a d:=by
 obtain⟨t,t1,A,F⟩:=h;obtain⟨u,G,E,H⟩:=k;rcases pW t u with p|p|p
 ·exact⟨t,t1,fun v z=>(A v z).trans (E v (by omega)),by rw[<-E t p];exact F⟩
 ·subst p;exact⟨t,t1,fun v z=>(A v z).trans (E v z),by omega⟩
 ·exact⟨u,G,fun v z=>(A v (by omega)).trans (E v z),by rw[A u p];exact H⟩
theorem ltm.not_eqm {m a b:Nat} (h:ltm c m a b):¬eqm c m a b:=fun k=>by
 obtain⟨t,t1,_,d⟩:=h;have:=k t t1;omega
theorem ltm.irrefl {m a:Nat}:¬ltm c m a a:=fun h=>h.not_eqm (eqm.refl m a)
theorem ltm.asymm {m a b:Nat} (h:ltm c m a b):¬ltm c m b a:=fun k=>ltm.irrefl (h.trans k)
theorem ltm.eqm {m a b d:Nat} (h:ltm c m a b) (k:eqm c m b d):ltm c m a d:=by
 obtain⟨t,t1,z,A⟩:=h;exact⟨t,t1,fun v E=>(z v E).trans (k v (by omega)),by rw[<-k t t1];exact A⟩
theorem eqm.ltm {m a b d:Nat} (h:eqm c m a b) (k:ltm c m b d):ltm c m a d:=by
 obtain⟨t,t1,z,A⟩:=k;exact⟨t,t1,fun v E=>(h v (by omega)).trans (z v E),by rw[h t t1];exact A⟩
theorem uL (c:Nat->Nat) (a b:Nat):∀m,ltm c m a b\/eqm c m a b\/ltm c m b a:=by
 intro m
 induction m with
 |zero=>exact .inr (.inl (fun t h=>by omega))
 |succ m E=>
  rcases E with⟨t,t1,d,z⟩|h|⟨t,t1,d,z⟩
  ·exact .inl ⟨t,by omega,d,z⟩
  ·rcases pW (c (a+m)) (c (b+m)) with p|p|p
   ·exact .inl ⟨m,by omega,fun u A=>h u A,p⟩
   ·refine .inr (.inl (fun t F=>?_));rcases bT t m with q|q
    ·exact h t q
    ·have:t=m:=by omega
     rw[this];exact p
   ·exact .inr (.inr ⟨m,by omega,fun u A=>(h u A).symm,p⟩)
  ·exact .inr (.inr ⟨t,by omega,d,z⟩)
theorem QW (m k a b:Nat):ltm c (m+k) a b↔ltm c m a b\/(eqm c m a b/\ltm c k (a+m) (b+m)):=by
 constructor
 ·rintro⟨t,t1,d,z⟩;rcases bT t m with p|p
  ·exact .inl ⟨t,p,d,z⟩
  ·refine .inr ⟨fun u A=>d u (by omega),t-m,by omega,fun u A=>?_,?_⟩
   ·have:=d (m+u) (by omega);rwa[<-dZ,<-dZ] at this
   ·rw[dZ,dZ,aCb p];exact z
 ·rintro(⟨t,t1,d,z⟩|⟨h,t,t1,d,z⟩)
  ·exact⟨t,by omega,d,z⟩
  ·refine⟨m+t,by omega,fun u A=>?_,by rw[<-dZ,<-dZ];exact z⟩;rcases bT u m with p|p
   ·exact h u p
   ·have:=d (u-m) (by omega);rwa[dZ,dZ,aCb p] at this
theorem aFy (m k a b:Nat):eqm c (m+k) a b↔eqm c m a b/\eqm c k (a+m) (b+m):=by
 constructor
 ·intro h;refine⟨fun t d=>h t (by omega),fun t d=>?_⟩;have:=h (m+t) (by omega);rwa[<-dZ,<-dZ] at this
 ·rintro⟨h,z⟩ t d;rcases bT t m with p|p
  ·exact h t p
  ·have:=z (t-m) (by omega);rwa[dZ,dZ,aCb p] at this
def Cyc (c:Nat->Nat) (n:Nat):Prop:=∀i,c (i+n)=c i
theorem Cyc.mul {n:Nat} (h:Cyc c n) (i q:Nat):c (i+n*q)=c i:=by
 induction q with
 |zero=>rfl
 |succ q d=>rw[Nat.mul_succ,<-dZ,h,d]
theorem Cyc.mod {n:Nat} (h:Cyc c n) (i:Nat):c (i%n)=c i:=by
 have:=h.mul (i%n) (i/n);rw[NU] at this;exact this.symm
theorem Cyc.mod_add {n:Nat} (h:Cyc c n) (i t:Nat):c (i%n+t)=c (i+t):=by
 rw[<-h.mod (i%n+t),<-h.mod (i+t),Nat.mod_add_mod]
theorem Cyc.ltm {n:Nat} (h:Cyc c n) (m a b:Nat):ltm c m (a%n) (b%n)↔ltm c m a b:=by
 unfold Go.Proofs.YtiifmcicleljjaaGreatDoor.ltm;simp only[h.mod_add]
theorem Cyc.eqm {n:Nat} (h:Cyc c n) (m a b:Nat):eqm c m (a%n) (b%n)↔eqm c m a b:=by
 unfold Go.Proofs.YtiifmcicleljjaaGreatDoor.eqm;simp only[h.mod_add]
theorem Cyc.all {n:Nat} (h:Cyc c n) (E:0<n) {m a b:Nat} (F:n<=m):(Go.Proofs.YtiifmcicleljjaaGreatDoor.eqm c m a b↔Go.Proofs.YtiifmcicleljjaaGreatDoor.eqm c n a b)/\(Go.Proofs.YtiifmcicleljjaaGreatDoor.ltm c m a b↔Go.Proofs.YtiifmcicleljjaaGreatDoor.ltm c n a b):=by
 have A:Go.Proofs.YtiifmcicleljjaaGreatDoor.eqm c n a b->Go.Proofs.YtiifmcicleljjaaGreatDoor.eqm c m a b:=fun k t _=>by
  have e:∀x,c (x+t)=c (x+t%n):=fun x=>by
   have:=h.mul (x+t%n) (t/n);rw[dZ,NU] at this;exact this
  rw[e a,e b];exact k (t%n) (jQ _ E)
 refine⟨⟨fun k t G=>k t (by omega),A⟩,⟨fun k=>?_,fun⟨t,t1,d,z⟩=>⟨t,by omega,d,z⟩⟩⟩;rcases uL c a b n with p|p|p
 ·exact p
 ·exact absurd (A p) k.not_eqm
 ·obtain⟨t,t1,d,z⟩:=p;exact absurd ⟨t,by omega,d,z⟩ k.asymm
def sW (c:Nat->Nat) (n m:Nat) (r:Nat->Int):Prop:=∀a b,a<n->b<n->(r a<r b↔ltm c m a b)
theorem sW.eq {n m:Nat} {r:Nat->Int} (h:sW c n m r) {a b:Nat} (d:a<n) (z:b<n):r a=r b↔eqm c m a b:=by
 constructor
 ·intro e;rcases uL c a b m with p|p|p
  ·have:=(h a b d z).2 p;omega
  ·exact p
  ·have:=(h b a z d).2 p;omega
 ·intro e;rcases Int.lt_trichotomy (r a) (r b) with p|p|p
  ·exact absurd e ((h a b d z).1 p).not_eqm
  ·exact p
  ·exact absurd e.symm ((h b a z d).1 p).not_eqm
def yK (r:Nat->Int) (n M x y:Nat):Int:=
 if r x<r y then-1 else if r y<r x then 1 else if r ((x+M)%n)<r ((y+M)%n) then-1 else if r ((y+M)%n)<r ((x+M)%n) then 1 else 0
theorem QX {n M x y:Nat} {r:Nat->Int} (J:Cyc c n) (h:sW c n (max M 1) r) (G:x<n) (H:y<n):
  (yK r n M x y<0↔ltm c (max (2*M) 1) x y)/\(yK r n M x y=0↔eqm c (max (2*M) 1) x y):=by
 have d:0<n:=by omega
 have I:=h x y G H;have e2:=h y x H G;have z:=h.eq G H;have E:=h ((x+M)%n) ((y+M)%n) (jQ _ d) (jQ _ d);have L:=h ((y+M)%n) ((x+M)%n) (jQ _ d) (jQ _ d);have F:=h.eq (jQ (x+M) d) (jQ (y+M) d);rw[J.ltm] at E L;rw[J.eqm] at F;have O:ltm c (max (2*M) 1) x y↔r x<r y\/(r x=r y/\r ((x+M)%n)<r ((y+M)%n)):=by
  rcases fJ M with A|A
  ·subst A;rw[E,I,z];simp only[Nat.max_def,pH];constructor
   ·exact .inl
   ·rintro(p|⟨p,q⟩)
    ·exact p
    ·exact q
  ·rw[E,I,z,show max (2*M) 1=M+M by omega,show max M 1=M by omega,QW]
 have T:eqm c (max (2*M) 1) x y↔(r x=r y/\r ((x+M)%n)=r ((y+M)%n)):=by
  rcases fJ M with A|A
  ·subst A;rw[F,z];simp only[Nat.max_def,pH];exact⟨fun p=>⟨p,p⟩,fun p=>p.1⟩
  ·rw[F,z,show max (2*M) 1=M+M by omega,show max M 1=M by omega,aFy]
 rw[O,T];unfold yK;generalize r x=p;generalize r y=q;generalize r ((x+M)%n)=s;generalize r ((y+M)%n)=t;clear O T I e2 z E L F h
 by_cases U:p<q
 ·rw[if_pos U];constructor<;>constructor<;>intro _<;>omega
 ·rw[if_neg U]
  by_cases V:q<p
  ·rw[if_pos V];constructor<;>constructor<;>intro _<;>omega
  ·rw[if_neg V]
   by_cases Y:s<t
   ·rw[if_pos Y];constructor<;>constructor<;>intro _<;>omega
   ·rw[if_neg Y]
    by_cases Z:t<s
    ·rw[if_pos Z];constructor<;>constructor<;>intro _<;>omega
    ·rw[if_neg Z];constructor<;>constructor<;>intro _<;>omega
def bef (c:Nat->Nat) (m:Nat) (x y:Int):Prop:=ltm c m x.toNat y.toNat\/(eqm c m x.toNat y.toNat/\x<y)
theorem vW (c:Nat->Nat) (m:Nat):rI (bef c m):=by
 refine⟨?_,?_,?_⟩
 ·rintro x y z (h|⟨h,A⟩) (k|⟨k,E⟩)
  ·exact .inl (h.trans k)
  ·exact .inl (h.eqm k)
  ·exact .inl (h.ltm k)
  ·exact .inr ⟨h.trans k,by omega⟩
 ·intro x y d;rcases uL c x.toNat y.toNat m with p|p|p
  ·exact .inl (.inl p)
  ·rcases Int.lt_or_gt_of_ne d with q|q
   ·exact .inl (.inr ⟨p,q⟩)
   ·exact .inr (.inr ⟨p.symm,q⟩)
  ·exact .inr (.inl p)
 ·rintro x (h|⟨_,h⟩)
  ·exact ltm.irrefl h
  ·omega
structure Ord (c:Nat->Nat) (n m:Nat) (o:Nat->Int):Prop where
 rng:∀k,k<n->0<=o k/\o k<(n:Int)
 srt:gM (bef c m) o 0 n
theorem Ord.ne {n m:Nat} {o:Nat->Int} (h:Ord c n m o) {i j:Nat} (hi:i<n) (d:j<n) (z:i≠j):o i≠o j:=by
 intro e;rcases Nat.lt_or_gt_of_ne z with p|p
 ·have:=h.srt i j (aU _) p d;rw[e] at this;exact(vW c m).irr _ this
 ·have:=h.srt j i (aU _) p hi;rw[e] at this;exact(vW c m).irr _ this
theorem Ord.onto {n m:Nat} {o:Nat->Int} (h:Ord c n m o) {y:Nat} (z:y<n):∃k,k<n/\o k=(y:Int):=by
 apply aCc;intro A;obtain⟨a,b,E,F,e⟩:=php n (fun k=>if k<n then(o k).toNat else y) (fun k G=>by
  show(if k<n then(o k).toNat else y)<n
  by_cases p:k<n
  ·rw[if_pos p];have:=h.rng k p;omega
  ·rw[if_neg p];exact z)
 have d:(if a<n then(o a).toNat else y)=(if b<n then(o b).toNat else y):=e;rw[if_pos (by omega:a<n)] at d;have H:=h.rng a (by omega)
 by_cases p:b<n
 ·rw[if_pos p] at d;have I:=h.rng b p;exact h.ne (i:=a) (j:=b) (by omega) p (by omega) (by omega)
 ·rw[if_neg p] at d;exact A ⟨a,by omega,by omega⟩
theorem Ord.uniq {n m:Nat} {o d:Nat->Int} (h:Ord c n m o) (A:Ord c n m d):∀k,k<n->o k=d k:=by
 intro k
 induction k using Nat.strongRecOn with
 |ind k E=>
  intro H;apply aCc;intro F;have I:∀{o d:Nat->Int},Ord c n m o->Ord c n m d->(∀j,j<k->o j=d j)->o k≠d k->bef c m (d k) (o k):=by
   intro o d h A E F;have r:=h.rng k H;obtain⟨j,z,e⟩:=A.onto (y:=(o k).toNat) (by omega);have G:d j=o k:=by omega
   rcases pW j k with p|p|p
   ·exact absurd ((E j p).trans G) (h.ne z H (by omega))
   ·subst p;exact absurd G.symm F
   ·rw[<-G];exact A.srt k j (aU _) p z
  have J:=I h A (fun j z=>E j z (by omega)) F;have L:=I A h (fun j z=>(E j z (by omega)).symm) (fun e=>F e.symm);exact(vW c m).irr _ ((vW c m).tr _ _ _ J L)
theorem Ord.congr {n m:Nat} {o z:Nat->Int} (h:Ord c n m o) (e:∀k,k<n->z k=o k):Ord c n m z:=
 ⟨fun k d=>by rw[e k d];exact h.rng k d,h.srt.congr fun k _ d=>e k d⟩
theorem Ord.full {n m:Nat} {o:Nat->Int} (h:Ord c n m o) (d:Cyc c n) (z:0<n) (A:n<=m):Ord c n n o:=
 ⟨h.rng,fun i j E F G=>by
  have:=h.srt i j E F G;unfold bef at this ⊢;rwa[(d.all z A).1,(d.all z A).2] at this⟩
theorem aFz {n:Nat} {f:Nat->Int} (E:∀k,k<n->0<=f k/\f k<(n:Int)) (F:∀k,k+1<n->f k<f (k+1)):∀k,k<n->f k=(k:Int):=by
 have lo:∀k,k<n->(k:Int)<=f k:=by
  intro k
  induction k with
  |zero=>intro h;exact(E 0 h).1
  |succ k z=>intro h;have:=z (by omega);have:=F k h;omega
 have hi:∀d k,k+d+1=n->f k<=(k:Int):=by
  intro d
  induction d with
  |zero=>intro k A;have:=(E k (by omega)).2;omega
  |succ d z=>intro k A;have:=z (k+1) (by omega);have:=F k (by omega);omega
 intro k A;have:=lo k A;have:=hi (n-k-1) k (by omega);omega
theorem aF0 {n m:Nat} {o:Nat->Int} (h:Ord c n m o) {v:Nat->Int} {r:Nat->Int}
  (M:∀i,i+1<n->(eqm c m (o i).toNat (o (i+1)).toNat/\v (i+1)=v i)\/(¬eqm c m (o i).toNat (o (i+1)).toNat/\v (i+1)=v i+1)) (G:∀i,i<n->r (o i).toNat=v i):sW c n m r:=by
 have H:∀j,j<n->∀i,i<=j->v i<=v j/\(v i=v j↔eqm c m (o i).toNat (o j).toNat):=by
  intro j
  induction j with
  |zero=>
    intro _ i hi;have:i=0:=by omega
    subst this;exact⟨lJ _,⟨fun _=>eqm.refl _ _,fun _=>rfl⟩⟩
  |succ j O=>
   intro A i hi;rcases bT j i with p|p
   ·have:i=j+1:=by omega
    subst this;exact⟨lJ _,⟨fun _=>eqm.refl _ _,fun _=>rfl⟩⟩
   ·obtain⟨I,d⟩:=O (by omega) i p;have e:=M j A;rcases e with⟨q,e⟩|⟨q,e⟩
    ·refine⟨by omega,⟨fun w=>(d.1 (by omega)).trans q,fun w=>?_⟩⟩;have:=d.2 (w.trans q.symm);omega
    ·refine⟨by omega,⟨fun w=>by omega,fun w=>?_⟩⟩;exfalso;have s:=h.srt j (j+1) (aU _) (by omega) A;have T:ltm c m (o j).toNat (o (j+1)).toNat:=s.resolve_right (fun x=>q x.1);rcases bT i j with F|F
     ·rcases h.srt i j (aU _) F (by omega) with t|⟨t,_⟩
      ·exact(t.trans T).not_eqm w
      ·exact q (t.symm.trans w)
     ·have:i=j:=by omega
      subst this;exact q w
 intro a b U V;obtain⟨i,hi,Y⟩:=h.onto U;obtain⟨j,A,Z⟩:=h.onto V;have J:=G i hi;have L:=G j A;have E:(o i).toNat=a:=by omega
 have z:(o j).toNat=b:=by omega
 rw[E] at J;rw[z] at L;rw[J,L];rcases bT i j with p|p
 ·obtain⟨I,d⟩:=H j A i (by omega);rw[E,z] at d;have s:=h.srt i j (aU _) p A;unfold bef at s;rw[E,z] at s;constructor
  ·intro w;exact s.resolve_right (fun x=>by have:=d.2 x.1;omega)
  ·intro w;have:v i≠v j:=fun e=>w.not_eqm (d.1 e)
   omega
 ·obtain⟨I,d⟩:=H i hi j p;rw[E,z] at d;constructor
  ·intro w;omega
  ·intro w;exfalso;rcases bT j i with F|F
   ·have s:=h.srt j i (aU _) F hi;unfold bef at s;rw[E,z] at s;rcases s with s|⟨s,_⟩
    ·exact w.asymm s
    ·exact w.not_eqm s.symm
   ·have:i=j:=by omega
    subst this;rw[E] at z;subst z;exact ltm.irrefl w
end
end Go.Proofs.YtiifmcicleljjaaGreatDoor
namespace Go.Proofs
open Go.Shelf
def Tryz.lays170_ren:Go.Shelf.Ren:=⟨fun|170=>176|n=>n,fun|70=>110|3=>3|0=>0|72=>112|37=>45|5=>5|n=>n,fun|n=>n⟩
theorem Tryz.lays170:Go.Proofs.Lays.n170 Tryz.prog Tryz.lays170_ren:={
 mixed:=by kernel_rfl
 f170:=Tryz.func176.trans (congrArg some (by kernel_rfl))
 t0:=Tryz.underlying0
 a0:=Tryz.isAgg0
 z0:=Tryz.sizeOf0
 v0:=Tryz.zeroValue0
 t3:=Tryz.underlying3
 a3:=Tryz.isAgg3
 z3:=Tryz.sizeOf3
 v3:=Tryz.zeroValue3
 t37:=Tryz.underlying45
 a37:=Tryz.isAgg45
 z37:=Tryz.sizeOf45
 v37:=Tryz.zeroValue45
 t70:=Tryz.underlying110
 a70:=Tryz.isAgg110
 z70:=Tryz.sizeOf110
 v70:=Tryz.zeroValue110
 t72:=Tryz.underlying112
 a72:=Tryz.isAgg112
 z72:=Tryz.sizeOf112
 v72:=Tryz.zeroValue112}
def Tryz.lays169_ren:Go.Shelf.Ren:=⟨fun|169=>72|n=>n,fun|70=>110|9=>9|0=>0|72=>112|37=>45|127=>193|3=>3|5=>5|n=>n,fun|n=>n⟩
theorem Tryz.lays169:Go.Proofs.Lays.n169 Tryz.prog Tryz.lays169_ren:={
 mixed:=by kernel_rfl
 f169:=Tryz.func72.trans (congrArg some (by kernel_rfl))
 t0:=Tryz.underlying0
 a0:=Tryz.isAgg0
 z0:=Tryz.sizeOf0
 v0:=Tryz.zeroValue0
 t3:=Tryz.underlying3
 a3:=Tryz.isAgg3
 z3:=Tryz.sizeOf3
 v3:=Tryz.zeroValue3
 t9:=Tryz.underlying9
 a9:=Tryz.isAgg9
 z9:=Tryz.sizeOf9
 v9:=Tryz.zeroValue9
 t37:=Tryz.underlying45
 a37:=Tryz.isAgg45
 z37:=Tryz.sizeOf45
 v37:=Tryz.zeroValue45
 t70:=Tryz.underlying110
 a70:=Tryz.isAgg110
 z70:=Tryz.sizeOf110
 v70:=Tryz.zeroValue110
 t72:=Tryz.underlying112
 a72:=Tryz.isAgg112
 z72:=Tryz.sizeOf112
 v72:=Tryz.zeroValue112
 t127:=Tryz.underlying193
 a127:=Tryz.isAgg193
 z127:=Tryz.sizeOf193
 v127:=Tryz.zeroValue193}
theorem Tryz.Builder_Extra_169:Builder.Extra Tryz.prog Tryz.lays169_ren:={
 sizeBuilder:=by kernel_rfl
 liesBuilder:=by kernel_rfl
 t5:=Tryz.underlying5
 a5:=Tryz.isAgg5
 z5:=Tryz.sizeOf5
 v5:=Tryz.zeroValue5
 infoByte:=by kernel_rfl
 cellsByte:=by kernel_rfl
 sizeByte:=by kernel_rfl
 neB5:=by decide}
def Tryz.lays122_ren:Go.Shelf.Ren:=⟨fun|122=>221|215=>242|n=>n,fun|3=>3|4=>4|n=>n,fun|n=>n⟩
theorem Tryz.lays122:Go.Proofs.Lays.n122 Tryz.prog Tryz.lays122_ren:={
 mixed:=by kernel_rfl
 f122:=Tryz.func221.trans (congrArg some (by kernel_rfl))
 f215:=Tryz.func242.trans (congrArg some (by kernel_rfl))
 t3:=Tryz.underlying3
 a3:=Tryz.isAgg3
 z3:=Tryz.sizeOf3
 v3:=Tryz.zeroValue3
 t4:=Tryz.underlying4
 a4:=Tryz.isAgg4
 z4:=Tryz.sizeOf4
 v4:=Tryz.zeroValue4}
open Go.RowKit in
theorem Tryz.cmp_Compare_int (x y:Int) (w:World):
  Calls Tryz.prog 221 #[.int .i64 x,.int .i64 y] w fun e w'=>e=.returned (.int .i64 (Lib.compareInt x y))/\w'=w:=Any.cmp_Compare_int Tryz.lays122 x y w
open Go.RowKit in
theorem Tryz.Builder_Len_f (B b:Nat) (d:List Value) (w:World) (h:aTu 112 5 B b d w):
  Calls Tryz.prog 176 #[.pointer (some ⟨b,0,none⟩)] w fun e w'=>e=.returned (.int .i64 d.length)/\w'=w:=Any.Builder_Len_f Tryz.lays170 B b d w h
open Go.RowKit in
theorem Tryz.Builder_String_any_k (B b:Nat) (l:List UInt8) (w:World) (h:aTu 112 5 B b (nS l) w) (d:B<=w.heap.size):
  Calls Tryz.prog 72 #[.pointer (some ⟨b,0,none⟩)] w fun e w'=>e=.returned (.string ⟨l.toArray⟩)/\(aTu 112 5 B b (nS l) w'/\Below B w w'/\Lib.OthersKept 5 (some b) w w'):=Any.Builder_String_any_k Tryz.lays169 Tryz.Builder_Extra_169 B b l w h d
def Tryz.lays189_ren:Go.Shelf.Ren:=⟨fun|189=>184|125=>217|257=>216|128=>239|129=>240|294=>230|295=>231|296=>232|297=>233|298=>234|299=>235|216=>236|300=>237|301=>238|328=>246|329=>247|330=>248|331=>249|332=>250|215=>242|343=>254|n=>n,fun|28=>27|3=>3|46=>119|0=>0|51=>34|53=>54|4=>4|183=>298|182=>297|131=>303|5=>5|9=>9|218=>312|222=>316|228=>320|229=>321|n=>n,fun|n=>n⟩
theorem Tryz.lays189:Go.Proofs.Lays.n189 Tryz.prog Tryz.lays189_ren:={
 mixed:=by kernel_rfl
 f125:=Tryz.func217.trans (congrArg some (by kernel_rfl))
 f128:=Tryz.func239.trans (congrArg some (by kernel_rfl))
 f129:=Tryz.func240.trans (congrArg some (by kernel_rfl))
 f189:=Tryz.func184.trans (congrArg some (by kernel_rfl))
 f215:=Tryz.func242.trans (congrArg some (by kernel_rfl))
 f216:=Tryz.func236.trans (congrArg some (by kernel_rfl))
 f257:=Tryz.func216.trans (congrArg some (by kernel_rfl))
 f294:=Tryz.func230.trans (congrArg some (by kernel_rfl))
 f295:=Tryz.func231.trans (congrArg some (by kernel_rfl))
 f296:=Tryz.func232.trans (congrArg some (by kernel_rfl))
 f297:=Tryz.func233.trans (congrArg some (by kernel_rfl))
 f298:=Tryz.func234.trans (congrArg some (by kernel_rfl))
 f299:=Tryz.func235.trans (congrArg some (by kernel_rfl))
 f300:=Tryz.func237.trans (congrArg some (by kernel_rfl))
 f301:=Tryz.func238.trans (congrArg some (by kernel_rfl))
 f328:=Tryz.func246.trans (congrArg some (by kernel_rfl))
 f329:=Tryz.func247.trans (congrArg some (by kernel_rfl))
 f330:=Tryz.func248.trans (congrArg some (by kernel_rfl))
 f331:=Tryz.func249.trans (congrArg some (by kernel_rfl))
 f332:=Tryz.func250.trans (congrArg some (by kernel_rfl))
 f343:=Tryz.func254.trans (congrArg some (by kernel_rfl))
 t0:=Tryz.underlying0
 a0:=Tryz.isAgg0
 z0:=Tryz.sizeOf0
 v0:=Tryz.zeroValue0
 t3:=Tryz.underlying3
 a3:=Tryz.isAgg3
 z3:=Tryz.sizeOf3
 v3:=Tryz.zeroValue3
 t4:=Tryz.underlying4
 a4:=Tryz.isAgg4
 z4:=Tryz.sizeOf4
 v4:=Tryz.zeroValue4
 t5:=Tryz.underlying5
 a5:=Tryz.isAgg5
 z5:=Tryz.sizeOf5
 v5:=Tryz.zeroValue5
 t9:=Tryz.underlying9
 a9:=Tryz.isAgg9
 z9:=Tryz.sizeOf9
 v9:=Tryz.zeroValue9
 t28:=Tryz.underlying27
 a28:=Tryz.isAgg27
 z28:=Tryz.sizeOf27
 v28:=Tryz.zeroValue27
 t46:=Tryz.underlying119
 a46:=Tryz.isAgg119
 z46:=Tryz.sizeOf119
 v46:=Tryz.zeroValue119
 t51:=Tryz.underlying34
 a51:=Tryz.isAgg34
 z51:=Tryz.sizeOf34
 v51:=Tryz.zeroValue34
 t53:=Tryz.underlying54
 a53:=Tryz.isAgg54
 z53:=Tryz.sizeOf54
 v53:=Tryz.zeroValue54
 t131:=Tryz.underlying303
 a131:=Tryz.isAgg303
 z131:=Tryz.sizeOf303
 v131:=Tryz.zeroValue303
 t182:=Tryz.underlying297
 a182:=Tryz.isAgg297
 z182:=Tryz.sizeOf297
 v182:=Tryz.zeroValue297
 t183:=Tryz.underlying298
 a183:=Tryz.isAgg298
 z183:=Tryz.sizeOf298
 v183:=Tryz.zeroValue298
 t218:=Tryz.underlying312
 a218:=Tryz.isAgg312
 z218:=Tryz.sizeOf312
 v218:=Tryz.zeroValue312
 t222:=Tryz.underlying316
 a222:=Tryz.isAgg316
 z222:=Tryz.sizeOf316
 v222:=Tryz.zeroValue316
 t228:=Tryz.underlying320
 a228:=Tryz.isAgg320
 z228:=Tryz.sizeOf320
 v228:=Tryz.zeroValue320
 t229:=Tryz.underlying321
 a229:=Tryz.isAgg321
 z229:=Tryz.sizeOf321
 v229:=Tryz.zeroValue321}
open Go.Sort Go.RowKit in
theorem Tryz.slices_Sort_int (d off cap:Nat) (z:List Int) (w:World) (A:Holds (bO .i64) w d off z.toArray) (E:d<w.heap.size) (F:z.length<4611686018427387904):
  Calls Tryz.prog 184 #[.slice (some ⟨d,off,none⟩) z.length cap] w fun e w'=>
   e=.returned (.tuple #[])/\∃n os,w'=grow (putRow (bO .i64) (Sort.ahead w n) d off (z.mergeSort fun x y=>decide (x<=y)).toArray) os:=Any.slices_Sort_int Tryz.lays189 d off cap z w A E F
open Go.RowKit Go.Sort in
theorem Tryz.slices_Sort_int_none (p:Option Addr) (cap:Nat) (w:World):
  Calls Tryz.prog 184 #[.slice p 0 cap] w fun e w'=>e=.returned (.tuple #[])/\w'=w:=Any.slices_Sort_int_none Tryz.lays189 p cap w
end Go.Proofs
namespace Go.Proofs.YtiifmcicleljjaaGreatDoor
open Go.RowKit
def pP (s:ByteArray) (b n M:Nat):Value:=.agg #[.string s,.slice (some ⟨b,0,none⟩) n n,.int .i64 (M:Int)]
theorem iI {B:Nat} {a b:World} (h:Below B a b) (n:Nat):Below B a (b.drewN n):=⟨h.os,h.tape,h.output,h.size,h.block⟩
def orI (p q:Int):Int:=if p=0 then q else p
theorem aF1 {p q:Int} (h:p≠0):orI p q=p:=if_neg h
theorem QY {p q:Int} (h:p=0):orI p q=q:=if_pos h
theorem aF2 (s:ByteArray) (b n M k:Nat) (r:Nat->Int) (w:World) (z:s.size=n) (G:n<=1000000) (H:M<=4000000) (I:k<n) (A:Arr w b 3 (tab n r)):
  Calls Tryz.prog 222 #[pP s b n M,.int .i64 (k:Int)] w fun e w'=>e=.returned (.int .i64 (r ((k+M)%n)))/\Below w.heap.size w w':=by
 unfold pP;subst z;have E:0<s.size:=by omega
 obtain⟨j,d⟩:∃j,j=(k+M)%s.size:=⟨_,rfl⟩;have F:j<s.size:=by rw[d];exact jQ _ E
 have J:((k:Int)+(M:Int)).tmod (s.size:Int)=(j:Int):=by
  rw[d,oJ (by omega),Int.natCast_emod,Int.natCast_add]
 have L:=(A.alloc (.cells #[.string s,.slice (some ⟨b,0,none⟩) s.size s.size,.int .i64 (M:Int)] 228)).cell (iS s.size r j F);have O:((s.size:Int)==0)=false:=by rw[beq_eq_false_iff_ne];omega
 rw[<-d];have T:=hid d;clear d;go_enter Tryz.func222,Tryz.ntmps222;go_wp2
 go_quiet (fail)
 go_wp2;go_ret;refine⟨rfl,?_⟩;exact iI (Below.alloc (aB _ _) (aA _) _) _
theorem aF3 (v:Value) (p q:Int) (w:World) (G:RdI w v [p,q]):
  Calls Tryz.prog 220 #[v] w fun e w'=>e=.returned (.int .i64 (orI p q))/\w=w':=by
 obtain⟨a,cap,rfl,O,h2,H⟩:=G.open;obtain⟨b,off,rfl,I,E⟩:=H (by simp);have T:=E 0 p rfl;have c1:=E 1 q rfl;rw[pH] at T;clear E H G;simp only[cR,List.length_nil,Nat.zero_add,Nat.reduceAdd] at O ⊢;have HQ:=hid I;clear I;go_enter Tryz.func220,Tryz.ntmps220;go_wp2
 go_loopg [8,5] 2 (fun U V s5 wr=>∃k:Nat,k<=2/\U=2-k/\V=.int .i64 k/\(1<=k->p=0)/\(2<=k->q=0)/\w=wr)
 case atStart=>exact⟨0,by omega,rfl,rfl,fun h=>by omega,fun h=>by omega,rfl⟩
 case round=>
  obtain⟨k,hk,A,rfl,J,L,rfl⟩:=hrel;have M:=hid A;have F:=hid J;have Y:=hid L;clear A J L;rcases bT k 1 with h|h
  ·have:k=0:=by omega
   subst this
   by_cases d:p=0
   ·have t:(p != 0)=false:=by simp[d]
    have z:=hid d;clear d;go_wp2;have A:=M.out
    go_roundg 1
    case measure=>omega
    case rel=>exact⟨1,by omega,rfl,by go_num,fun _=>z.out,fun h=>by omega,rfl⟩
   ·have t:(p != 0)=true:=by simp[d]
    have z:=hid d;clear d;go_wp2;go_ret;exact⟨fX (aF1 z.out).symm,rfl⟩
  ·rcases bT k 2 with Z|Z
   ·have:k=1:=by omega
    subst this
    by_cases d:q=0
    ·have t:(q != 0)=false:=by simp[d]
     have z:=hid d;clear d;go_wp2;have A:=M.out
     go_roundg 0
     case measure=>omega
     case rel=>exact⟨2,by omega,rfl,by go_num,fun _=>F.out (by omega),fun _=>z.out,rfl⟩
    ·have t:(q != 0)=true:=by simp[d]
     have z:=hid d;clear d;go_wp2;go_ret;exact⟨fX (QY (F.out (by omega))).symm,rfl⟩
   ·have:k=2:=by omega
    subst this;go_wp2;go_ret;exact⟨fX ((QY (F.out (by omega))).trans (Y.out (by omega))).symm,rfl⟩
theorem yL {d z:World} {E F G H I:Addr} {v1 v2 v3 v4 v5:Value} {B:Nat} {w0:World}
  (h:d.cell? E=some v1/\d.cell? F=some v2/\d.cell? G=some v3/\d.cell? H=some v4/\d.cell? I=some v5/\Below B w0 d/\B<=d.heap.size) (A:Below d.heap.size d z):
  z.cell? E=some v1/\z.cell? F=some v2/\z.cell? G=some v3/\z.cell? H=some v4/\z.cell? I=some v5/\Below B w0 z/\B<=z.heap.size:=by
 obtain⟨M,O,T,U,V,Y,J⟩:=h;have k:∀{p:Addr} {v:Value},d.cell? p=some v->z.cell? p=some v:=fun{p} {v} L=>(A.cell (iO d p L)).trans L
 exact⟨k M,k O,k T,k U,k V,Y.trans (A.mono J),Nat.le_trans J A.size⟩
def rM (r:Nat->Int) (n M x y:Nat):Int:=orI (Lib.compareInt (r x) (r y)) (Lib.compareInt (r ((x+M)%n)) (r ((y+M)%n)))
theorem QZ (r:Nat->Int) (n M x y:Nat):rM r n M x y=yK r n M x y:=by
 unfold rM orI yK Lib.compareInt;generalize r x=p;generalize r y=q;generalize r ((x+M)%n)=s;generalize r ((y+M)%n)=t
 by_cases d:p<q
 ·simp[d]
 ·by_cases z:q<p
  ·simp[d,z]
  ·simp[d,z]
theorem JH {d w0:World} {z A E F G:Addr} {v1 v2 v3 v4 v5:Value} {b:Nat} {e:TypeId} {l:List Value} (H:Arr w0 b e l) (I:b<w0.heap.size)
  (h:d.cell? z=some v1/\d.cell? A=some v2/\d.cell? E=some v3/\d.cell? F=some v4/\d.cell? G=some v5/\Below w0.heap.size w0 d/\w0.heap.size<=d.heap.size):Arr d b e l:=
 H.below h.2.2.2.2.2.1 I
theorem RA {w w0 d:World} {z A E F G:Addr} {v1 v2 v3 v4 v5:Value} {q:Nat} (H:Below q w w0)
  (h:d.cell? z=some v1/\d.cell? A=some v2/\d.cell? E=some v3/\d.cell? F=some v4/\d.cell? G=some v5/\Below w0.heap.size w0 d/\w0.heap.size<=d.heap.size) (I:q<=w0.heap.size):Below q w d:=
 H.trans (h.2.2.2.2.2.1.mono I)
theorem uM (w:World) (o:Obj):Below w.heap.size w (w.alloc o):=(aB _ _).alloc (aA _) _
theorem aF4 (x y:Int) (w:World):Calls Tryz.prog 221 #[.int .i64 x,.int .i64 y] w fun e w'=>e=.returned (.int .i64 (Lib.compareInt x y))/\w=w':=
 (Tryz.cmp_Compare_int x y w).mono fun _ _ h=>⟨h.1,h.2.symm⟩
theorem RB (s:ByteArray) (b n M x y:Nat) (r:Nat->Int) (w:World) (A:s.size=n) (Z:n<=1000000) (hM:M<=4000000) (H:x<n) (I:y<n) (E:Arr w b 3 (tab n r)):
  Calls Tryz.prog 186 #[pP s b n M,.int .i64 (x:Int),.int .i64 (y:Int)] w fun e w'=>e=.returned (.int .i64 (rM r n M x y))/\Below w.heap.size w w':=by
 have F:∀(k:Nat) (d:World),k<n->Arr d b 3 (tab n r)->Calls Tryz.prog 222 #[pP s b n M,.int .i64 (k:Int)] d fun e w'=>e=.returned (.int .i64 (r ((k+M)%n)))/\Below d.heap.size d w':=
  fun k d hk h2=>aF2 s b n M k r d A Z hM hk h2
 unfold pP at F ⊢;have J:=hid F;have HS:=hid A;clear F A;have a3:=E.lt;have z:=E.alloc (.cells #[.string s,.slice (some ⟨b,0,none⟩) n n,.int .i64 (M:Int)] 228);have L:=z.cell (iS n r x H);have O:=z.cell (iS n r y I);have T:(w.alloc (.cells #[.string s,.slice (some ⟨b,0,none⟩) n n,.int .i64 (M:Int)] 228)).cell? ⟨w.heap.size,0,none⟩=some (.string s):=FO _ _ _ _ rfl;have U:(w.alloc (.cells #[.string s,.slice (some ⟨b,0,none⟩) n n,.int .i64 (M:Int)] 228)).cell? ⟨w.heap.size,1,none⟩=some (.slice (some ⟨b,0,none⟩) n n):=FO _ _ _ _ rfl
 have V:(w.alloc (.cells #[.string s,.slice (some ⟨b,0,none⟩) n n,.int .i64 (M:Int)] 228)).cell? ⟨w.heap.size,2,none⟩=some (.int .i64 (M:Int)):=FO _ _ _ _ rfl;have G:Below w.heap.size w (w.alloc (.cells #[.string s,.slice (some ⟨b,0,none⟩) n n,.int .i64 (M:Int)] 228)):=(aB _ _).alloc (aA _) _;have Y:=z.lt;have a1:=G.size;have a2:=hid G;clear G E;have i1:(0:Int)<=(x:Int):=by omega
 have i2:(x:Int)<(n:Int):=by omega
 have i3:(0:Int)<=(y:Int):=by omega
 have i4:(y:Int)<(n:Int):=by omega
 go_enter Tryz.func186,Tryz.ntmps186;go_wp2;generalize w.alloc (.cells #[.string s,.slice (some ⟨b,0,none⟩) n n,.int .i64 (M:Int)] 228)=W at*
 have a4:=yL ⟨T,U,V,L,O,aB W.heap.size W,aA _⟩ (aB W.heap.size W).drew;clear T U V L O
 go_region_held3 (fun w'=>w'.cell? ⟨w.heap.size,0,none⟩=some (.string s)/\w'.cell? ⟨w.heap.size,1,none⟩=some (.slice (some ⟨b,0,none⟩) n n)/\w'.cell? ⟨w.heap.size,2,none⟩=some (.int .i64 (M:Int))/\
   w'.cell? ⟨b,x,none⟩=some (.int .i64 (r x))/\w'.cell? ⟨b,y,none⟩=some (.int .i64 (r y))/\Below W.heap.size W w'/\W.heap.size<=w'.heap.size)
  (first
   |with_reducible assumption
   |with_reducible exact yL (by assumption) (by assumption)
   |with_reducible exact yL (by assumption) (uM _ _))
  (first
   |(go_at_call 221;refine(aF4 _ _ _).mono ?_;rintro e w' ⟨rfl,rfl⟩)
   |(go_at_call_of 222 (bO .i64 (x:Int));refine(J.out x _ H (JH z Y (by assumption))).mono ?_;rintro e w' ⟨rfl,hb⟩)
   |(go_at_call_of 222 (bO .i64 (y:Int));refine(J.out y _ I (JH z Y (by assumption))).mono ?_;rintro e w' ⟨rfl,hb⟩)
   |(go_at_call 220;refine(aF3 _ _ _ _ (xY _ _ [_,_] 2 rfl (by decide))).mono ?_;rintro e w' ⟨rfl,rfl⟩))
 all_goals go_wp2
 all_goals go_ret
 all_goals exact⟨rfl,RA a2.out (by assumption) a1⟩
def qJ (s:ByteArray) (b n M:Nat):Value:=.iface 228 (pP s b n M)
theorem aF5 (s:ByteArray) (b bx n M x y:Nat) (r:Nat->Int) (w:World) (z:s.size=n) (F:n<=1000000) (G:M<=4000000) (H:x<n) (I:y<n) (A:Arr w b 3 (tab n r)) (E:w.cell? ⟨bx,0,none⟩=some (qJ s b n M)):
  Calls Tryz.prog 219 #[.int .i64 (x:Int),.int .i64 (y:Int),.pointer (some ⟨bx,0,none⟩)] w fun e w'=>e=.returned (.int .i64 (rM r n M x y))/\Below w.heap.size w w':=by
 have d:=RB s b n M x y r w z F G H I A;unfold qJ at E;unfold pP at d E;have J:=hid d;clear d z A;go_enter Tryz.func219,Tryz.ntmps219;go_wp2_with fail;refine J.out.mono ?_;rintro e O ⟨rfl,L⟩;go_wp2;go_ret;exact⟨rfl,L⟩
end Go.Proofs.YtiifmcicleljjaaGreatDoor
namespace Go.Proofs.YtiifmcicleljjaaGreatDoor
open Go.RowKit Go.Shelf
def RC (w0:World) (g:Nat) (d:Array Value) (p:Int->Bool) (l:List Int):Prop:=
 ∀W,Below w0.heap.size w0 W->∀x∈l,Calls Tryz.prog g (#[bO .i64 x]++d) W fun e z=>e=.returned (.bool (p x))/\z=W
theorem RD (g:Nat) (G:Array Value) (p:Int->Bool) (v:Value) (l:List Int) (w:World) (H:RdI w v l) (z:Enters Tryz.prog g) (I:RC w g G p l):
  Calls Tryz.prog 149 #[v,.func (.func g) #[] G] w fun e w'=>e=.returned (.int .i64 (fP p l))/\w'=w:=by
 obtain⟨a,ca,rfl,a1,T,J⟩:=H.open;unfold maxLen at T;clear H;have U:=hid I;have hE:∀args W,(callFunc g args).run Tryz.prog W=.ok (.enter g args) W:=z;clear I z;go_enter Tryz.func149,Tryz.ntmps149;go_wp2_with fail
 go_loopg [8] l.length (fun V Y wr=>∃k:Nat,k<=l.length/\V=l.length-k/\Y=.int .i64 k/\Hid (∀x∈l.take k,p x=false)/\wr=w)
 case atStart=>exact⟨0,aU _,rfl,rfl,hid (fun x A=>by simp at A),rfl⟩
 case round=>
  obtain⟨k,hk,z,rfl,HT,rfl⟩:=hrel;have Z:=hid z;clear z
  by_cases E:k<l.length
  ·obtain⟨b1,o1,rfl,a2,L⟩:=J (by omega);obtain⟨x,A⟩:=dH E;have c1:=L k x A;have a0:x∈l:=cH A;have M:=hid A;have hP:=U.out _ (aB _ wr) x a0;clear L A J;go_wp2_with fail;refine hP.mono ?_;rintro e w1 ⟨rfl,rfl⟩
   by_cases F:p x=true
   ·rw[F];go_wp2_with fail;go_ret;refine⟨fX ?_,rfl⟩;rw[BR HT.out E (by have:=M.out;rw[aN E] at this;rw[bW this];exact F)]
   ·have O:p x=false:=by simpa using F
    rw[O];go_wp2_with fail;have z:=Z.out
    go_roundg (l.length-(k+1))
    case measure=>omega
    case rel=>
     refine⟨k+1,by omega,rfl,by go_num,hid (fun y d=>?_),rfl⟩;rw[cQ,M.out] at d;rcases List.mem_append.1 d with d|d
     ·exact HT.out y d
     ·simp at d;rw[d];exact O
  ·go_wp2_with fail;go_ret;exact⟨fX (by rw[oN];have:=HT.out;rwa[cS (by omega)] at this),rfl⟩
theorem uN (g:Nat) (d:Array Value) (p:Int->Bool) (v:Value) (l:List Int) (w:World) (z:RdI w v l) (A:Enters Tryz.prog g) (E:RC w g d p l):
  Calls Tryz.prog 85 #[v,.func (.func g) #[] d] w fun e w'=>e=.returned (.bool (decide (0<=fP p l)))/\w'=w:=by
 have F:=hid (RD g d p v l w z A E);obtain⟨i,hi⟩:∃i,i=fP p l:=⟨_,rfl⟩;rw[<-hi] at F ⊢;clear z A E hi;go_enter Tryz.func85,Tryz.ntmps85;go_wp2_with fail;refine F.out.mono ?_;rintro e G ⟨rfl,rfl⟩;go_wp2_with fail;go_ret;exact⟨rfl,rfl⟩
theorem aF6 (x:Int) (w:World):Calls Tryz.prog 189 #[.int .i64 x] w fun e w'=>e=.returned (.bool (decide (x<0)))/\w'=w:=by
 go_enter Tryz.func189,Tryz.ntmps189;go_wp2;go_ret;exact⟨rfl,rfl⟩
theorem aF7 (x:Int) (w:World):Calls Tryz.prog 136 #[.int .i64 x] w fun e w'=>e=.returned (.bool (decide (1099511627776<x)))/\w'=w:=by
 go_enter Tryz.func136,Tryz.ntmps136;go_wp2;go_ret;exact⟨rfl,rfl⟩
theorem aF8 (x t:Int) (b:Addr) (w:World) (d:w.cell? b=some (.int .i64 t)):Calls Tryz.prog 190 #[.int .i64 x,.pointer (some b)] w fun e w'=>e=.returned (.bool (decide (t<x)))/\w'=w:=by
 go_enter Tryz.func190,Tryz.ntmps190;go_wp2;go_ret;exact⟨rfl,rfl⟩
theorem aF9 (x:Int) (w:World):Calls Tryz.prog 244 #[.int .i64 x] w fun e w'=>e=.returned (.bool (!(x==0)&& !(x==1)))/\w'=w:=by
 by_cases d:x=0
 ·subst d;go_enter Tryz.func244,Tryz.ntmps244;go_wp2;go_ret;exact⟨rfl,rfl⟩
 ·have t0:(x != 0)=true:=by rw[bne_iff_ne];exact d
  by_cases z:x=1
  ·subst z;go_enter Tryz.func244,Tryz.ntmps244;go_wp2;go_ret;exact⟨rfl,rfl⟩
  ·have t1:(x != 1)=true:=by rw[bne_iff_ne];exact z
   go_enter Tryz.func244,Tryz.ntmps244;go_wp2;go_ret;exact⟨sN (by simp[d,z]),rfl⟩
theorem JI (v:Value) (l:List Int) (w:World) (d:RdI w v l):
  Calls Tryz.prog 135 #[v] w fun e w'=>e=.returned (.bool (decide (0<=fP (fun x=>decide (x<0)) l)))/\w'=w:=by
 have z:=hid (uN 189 #[] (fun x=>decide (x<0)) v l w d (enters_of Tryz.func189 (by kernel_rfl) rfl) (fun W _ x _=>aF6 x W));obtain⟨i,hi⟩:∃i,i=decide (0<=fP (fun x=>decide (x<0)) l):=⟨_,rfl⟩;rw[<-hi] at z ⊢;clear hi d;go_enter Tryz.func135,Tryz.ntmps135;go_wp2_with fail;refine z.out.mono ?_;rintro e A ⟨rfl,rfl⟩;go_wp2_with fail;go_ret;exact⟨rfl,rfl⟩
def eY (t:Int) (l:List Int):Nat:=l.findIdx (fun x=>decide (t<x))
theorem aGa (t:Int):∀l:List Int,(if fP (fun x=>decide (t<x)) l<0 then(l.length:Int) else fP (fun x=>decide (t<x)) l)=(eY t l:Int):=by
 intro l
 induction l with
 |nil=>rfl
 |cons x l d=>
  unfold eY at d ⊢;rw[fP,List.findIdx_cons]
  by_cases z:t<x
  ·simp[z]
  ·simp only[z,decide_false,Bool.false_eq_true,if_false,cond_false];obtain⟨A,_,_⟩:=BQ (fun x=>decide (t<x)) l
   by_cases h:fP (fun x=>decide (t<x)) l<0
   ·rw[if_pos h] at d;rw[if_pos h,if_pos (by omega),cR];omega
   ·rw[if_neg h] at d;rw[if_neg h,if_neg (by omega),d];omega
theorem vX (t:Int) (l:List Int):eY t l<=l.length:=List.findIdx_le_length
theorem yM (t:Int) (l:List Int):∀x∈l.take (eY t l),¬t<x:=by
 intro x d;obtain⟨i,hi,rfl⟩:=List.mem_iff_getElem.1 d;rw[List.length_take] at hi;rw[List.getElem_take];have:=List.not_of_lt_findIdx (p:=fun x=>decide (t<x)) (xs:=l) (i:=i) (by unfold eY at hi;omega)
 simpa using this
theorem vY (t:Int) (l:List Int) {x:Int} (h:l[eY t l]? =some x):t<x:=by
 obtain⟨z,A⟩:=eU.1 h;have:=List.findIdx_getElem (p:=fun x=>decide (t<x)) (w:=z);have d:decide (t<l[eY t l])=true:=this;rw[A] at d
 simpa using d
theorem RF (v:Value) (l:List Int) (t:Int) (w:World) (d:RdI w v l):
  Calls Tryz.prog 138 #[v,.int .i64 t] w fun e w'=>e=.returned (.int .i64 ((eY t l:Nat):Int))/\Below w.heap.size w w':=by
 have z:=aGa t l;have A:=hid (RD 190 #[.pointer (some ⟨w.heap.size,0,none⟩)] (fun x=>decide (t<x)) v l (w.alloc (.cells #[.int .i64 t] 3)) (d.below ((aB _ _).alloc (aA _) _)) (enters_of Tryz.func190 (by kernel_rfl) rfl)
  (fun W F x _=>aF8 x t ⟨w.heap.size,0,none⟩ W (by rw[F.cell (p:=⟨w.heap.size,0,none⟩) (by simp)];exact bS _ _ _)))
 obtain⟨a,I,rfl,J,G,H⟩:=d.open;obtain⟨i,hi⟩:∃i,i=fP (fun x=>decide (t<x)) l:=⟨_,rfl⟩;rw[<-hi] at A z;have E:=hid z;clear hi H d z;unfold maxLen at G;go_enter Tryz.func138,Tryz.ntmps138;go_wp2_with fail;refine A.out.mono ?_;rintro e L ⟨rfl,rfl⟩
 by_cases h:i<0
 ·go_wp2_with fail;go_ret;refine⟨fX ?_,(aB _ _).alloc (aA _) _⟩;have:=E.out;rwa[if_pos h] at this
 ·go_wp2_with fail;go_ret;refine⟨fX ?_,(aB _ _).alloc (aA _) _⟩;have:=E.out;rwa[if_neg (by omega)] at this
end Go.Proofs.YtiifmcicleljjaaGreatDoor
namespace Go.Proofs.YtiifmcicleljjaaGreatDoor
open Go.RowKit
def pQ (w:World) (v:Value) (m:List Int):Prop:=
 (v=.slice none 0 0/\m=[])\/∃b off cap,v=.slice (some ⟨b,off,none⟩) m.length cap/\b<w.heap.size/\∀j x,m[j]? =some x->w.cell? ⟨b,off+j,none⟩=some (.int .i64 x)
theorem pQ.below {w w':World} {v:Value} {m:List Int} (h:pQ w v m) (d:Below w.heap.size w w'):pQ w' v m:=by
 rcases h with h|⟨b,off,cap,rfl,z,A⟩
 ·exact .inl h
 ·exact .inr ⟨b,off,cap,rfl,Nat.lt_of_lt_of_le z d.size,fun j x E=>by rw[d.cell (p:=⟨b,off+j,none⟩) z];exact A j x E⟩
theorem OwI.src {w:World} {B:Nat} {v:Value} {l:List Int} (h:OwI w B v l):pQ w v l:=by
 have A:=h.rd.open;obtain⟨a,cap,rfl,_,_,E⟩:=A;rcases h.2 with⟨e,F⟩|⟨g,J,L,e,_⟩
 ·have:l=[]:=vK (by simpa using F);subst this;exact .inl ⟨e,rfl⟩
 ·rw[aCd] at e;obtain⟨rfl,_,rfl⟩:=e;rcases fJ l.length with d|d
  ·have:l=[]:=vK d;subst this;exact .inr ⟨g,0,cap,rfl,(h.lt g rfl).2,fun j x G=>by simp at G⟩
  ·obtain⟨b,off,z,H,I⟩:=E d;rw[iP] at z;rw[z];exact .inr ⟨b,off,cap,rfl,H,I⟩
theorem RG (w:World) (t:TypeId) (x:Int):pQ (w.alloc (.cells #[.int .i64 x] t)) (.slice (some ⟨w.heap.size,0,none⟩) 1 1) [x]:=
 .inr ⟨w.heap.size,0,1,rfl,by simp,fun j y d=>by
  cases j with
  |zero=>simp at d;subst d;exact bS _ _ _
  |succ j=>simp at d⟩
theorem RH {w:World} (E:TypeId) (z:Nat) (v:Value) (l:List Int) (H:OwI w z v l) (I:Value) (m:List Int) (M:pQ w I m) (O:(l.length+m.length)*8<=140737488355328) (J:z<=w.heap.size):
  ∃A w',(Builtin.append_ #[27,27] E #[v,I]).run Tryz.prog w=.ok A w'/\OwI w' z A (l++m)/\Below z w w'/\w.grownBy w' v.ownBlock:=by
 obtain⟨i,hi,T,U,V⟩:=gL.info;have Y:(bO .i64 0).cells.size=1:=by rw[gL.cells];rfl
 have F:w.ownsRow z 3 1 v l.length (l.map (bO .i64)):=by have:=H;unfold OwI Ow at this;rwa[bJ] at this
 rcases M with⟨rfl,rfl⟩|⟨b,off,cap,rfl,_,Z⟩
 ·refine⟨v,w,run_append_owned_none (P:=Tryz.prog) (w:=w) z _ E 3 i 1 gL.under hi v l.length _ F,by rw[eE];exact H,aB _ _,⟨rfl,rfl,rfl,aA _,fun _ _ _=>rfl⟩⟩
 ·obtain⟨A,w',q1,q2,L,_⟩:=run_append_own (P:=Tryz.prog) w z 27 E 3 i _ 1 8 gL.under hi T U V Y (by decide) v l.length _ F ⟨b,off,none⟩ m.length cap (m.map (bO .i64)) (by simp) (fun j u d=>by
    rw[dY] at d
    cases G:m[j]? with
    |none=>rw[G] at d;simp at d
    |some y=>
     rw[G] at d;simp at d;subst d;have e:(⟨b,off,none⟩:Addr).add j=⟨b,off+j,none⟩:=by unfold Addr.add;split<;>simp_all
     rw[e];exact Z j y G) (fun u d=>by obtain⟨y,_,rfl⟩:=dU.1 d;rfl) (by simp only[maxLen];omega) O J
  refine⟨A,w',q1,?_,rC F L J,L⟩;unfold OwI Ow;rw[fI,aL,bJ,bJ];exact q2
theorem CO {z:Array Oper} {rest:List Oper} {o:Oper} {a:Act} {Q:Exit->Act->World->Prop} {w:World} (A:o.guard=none) (s x:Operand)
  (E:o.op=.call {callee:=.builtin .append,args:=#[s,x],argTypes:=#[27,27]}) (base:Nat) (v:Value) (l:List Int) (hs:a.eval s=v) (hown:OwI w base v l)
  (sv:Value) (m:List Int) (hx:a.eval x=sv) (hsrc:pQ w sv m) (hroom:(l.length+m.length)*8<=140737488355328) (hbase:base<=w.heap.size)
  (h:∀d w',OwI w' base d (l++m)->Below base w w'->w.grownBy w' v.ownBlock->wpList Tryz.prog z Q rest (a.put o.dst d) w'):wpList Tryz.prog z Q (o::rest) a w:=by
 refine wpList_plain A fun K F=>?_
 obtain⟨d,w',G,H,I,J⟩:=RH o.type base v l hown sv m hsrc hroom hbase;unfold Oper.wp execOp;simp only[E,resolve,invoke,builtin,Sem.run_bind,Sem.run_pure,Result.andThen_ok,List.map_toArray,List.map_cons,List.map_nil,hs,hx,G];exact F _ _ (h d w' H I J)
theorem RdI.dropS {w:World} {b off:Nat} {l:List Int} (z:∀j x,l[j]? =some x->w.cell? ⟨b,off+j,none⟩=some (.int .i64 x)) (k:Nat):∀j x,(l.drop k)[j]? =some x->w.cell? ⟨b,off+k+j,none⟩=some (.int .i64 x):=by
 intro j x d;rw[List.getElem?_drop] at d;have:=z _ x d;rw[<-dZ] at this;exact this
theorem RI (m:Nat) (h:0<m):∃b:Nat,b<=1/\dig m=(b:Int)::dig ((m-1)/2)/\((m:Int)-1).tmod 2=(b:Int)/\((m:Int)-1)%2=(b:Int)/\(1:Int)-(m:Int).tmod 2=(b:Int)/\(1:Int)-(m:Int)%2=(b:Int)/\
  ((m:Int)-1).tdiv 2=(((m-1)/2:Nat):Int)/\((m:Int)-1)/2=(((m-1)/2:Nat):Int):=by
 obtain⟨p,rfl⟩:∃p,m=p+1:=⟨m-1,by omega⟩;refine⟨p%2,by omega,?_,?_,by omega,?_,by omega,?_,by omega⟩
 ·rw[BY h]
  congr 1
  split<;>omega
 ·rw[oJ (by omega)];omega
 ·rw[oJ (by omega)];omega
 ·rw[Int.tdiv_eq_ediv_of_nonneg (by omega)];omega
theorem aGb (n:Nat) (w:World) (U:n<=1000000):
  Calls Tryz.prog 139 #[.int .i64 (n:Int)] w fun e w'=>∃v,e=.returned v/\OwI w' w.heap.size v (dig n)/\Below w.heap.size w w':=by
 go_enter Tryz.func139,Tryz.ntmps139;go_wp2_with fail
 go_loopg [0,2] n (fun H I J wr=>∃(m:Nat) (l:List Int),m<=n/\H=m/\I=.int .i64 m/\OwI wr w.heap.size J l/\Hid (l++dig m=dig n)/\l.length+m<=n/\Below w.heap.size w wr)
 case atStart=>exact⟨n,[],aA _,rfl,rfl,OwI.nil _ _,hid rfl,by simp,aB _ _⟩
 case round=>
  obtain⟨m,l,V,z,rfl,E,F,Y,d⟩:=hrel;have L:=hid z;clear z;rcases fJ m with A|A
  ·subst A;go_wp2_with fail;go_ret;refine⟨_,rfl,?_,d⟩;have:=F.out;rw[qF,eE] at this;rw[<-this];exact E
  ·obtain⟨b,Z,G,e2,e3,_,_,e6,e7⟩:=RI m A;have M:=hid G;clear G;have a0:=d.size;have s1:aI.wrap ((m:Int)-1)=(m:Int)-1:=tS _ (by omega);go_wp2_with (at_builtin;refine eN rfl _ _ rfl w.heap.size _ _ rfl (E.alloc _) wr.heap.size (b:Int) rfl ?_ ?_ ?_ ?_;(exact bS _ _ _);omega;(simp;omega);intro v' w1 O T a1);have z:=L.out
   go_roundg ((m-1)/2)
   case measure=>omega
   case rel=>
    refine⟨(m-1)/2,l++[(b:Int)],by omega,rfl,by go_num,O,hid ?_,by simp;omega,(d.alloc d.size _).trans T⟩;rw[cF,GI,<-M.out];exact F.out
theorem JJ (n:Nat) (w:World) (U:n<=1000000):
  Calls Tryz.prog 157 #[.int .i64 (n:Int)] w fun e w'=>∃v,e=.returned v/\OwI w' w.heap.size v (dig n)/\Below w.heap.size w w':=by
 go_enter Tryz.func157,Tryz.ntmps157;go_wp2_with fail
 go_loopg [3,4] n (fun H I J wr=>∃(m:Nat) (l:List Int),m<=n/\H=m/\J=.int .i64 m/\OwI wr w.heap.size I l/\Hid (l++dig m=dig n)/\l.length+m<=n/\Below w.heap.size w wr)
 case atStart=>exact⟨n,[],aA _,rfl,rfl,OwI.nil _ _,hid rfl,by simp,aB _ _⟩
 case round=>
  obtain⟨m,l,V,z,rfl,E,F,Y,d⟩:=hrel;have L:=hid z;clear z;rcases fJ m with A|A
  ·subst A;go_wp2_with fail;go_ret;refine⟨_,rfl,?_,d⟩;have:=F.out;rw[qF,eE] at this;rw[<-this];exact E
  ·obtain⟨b,Z,G,_,_,e4,e5,e6,e7⟩:=RI m A;have M:=hid G;clear G;have a0:=d.size;have s1:aI.wrap ((m:Int)-1)=(m:Int)-1:=tS _ (by omega);go_wp2_with (at_builtin;refine eN rfl _ _ rfl w.heap.size _ _ rfl (E.alloc _) wr.heap.size (b:Int) rfl ?_ ?_ ?_ ?_;(exact bS _ _ _);omega;(simp;omega);intro v' w1 O T a1);have z:=L.out
   go_roundg ((m-1)/2)
   case measure=>omega
   case rel=>
    refine⟨(m-1)/2,l++[(b:Int)],by omega,rfl,by go_num,O,hid ?_,by simp;omega,(d.alloc d.size _).trans T⟩;rw[cF,GI,<-M.out];exact F.out
theorem RJ (v:Value) (l:List Int) (w:World) (A:RdI w v l) (G:∀x∈l,0<=x):
  Calls Tryz.prog 156 #[v] w fun e w'=>e=.returned (.bool false)/\w'=w:=by
 obtain⟨a,O,rfl,T,H,E⟩:=A.open;unfold maxLen at H;clear A;go_enter Tryz.func156,Tryz.ntmps156;go_wp2_with fail
 go_loopg [3] l.length (fun I J wr=>∃k:Nat,k<=l.length/\I=l.length-k/\J=.int .i64 k/\wr=w)
 case atStart=>exact⟨0,aU _,rfl,rfl,rfl⟩
 case round=>
  obtain⟨k,U,d,rfl,rfl⟩:=hrel;have L:=hid d;clear d
  by_cases M:k<l.length
  ·obtain⟨V,Y,rfl,Z,F⟩:=E (by omega);obtain⟨x,z⟩:=dH M;have c1:=F k x z;have a0:=G x (cH z);have t1:decide (x<0)=false:=decide_eq_false (by omega);clear F z E;go_wp2_with fail;have d:=L.out
   go_roundg (l.length-(k+1))
   case measure=>omega
   case rel=>exact⟨k+1,by omega,rfl,by go_num,rfl⟩
  ·go_wp2_with fail;go_ret;exact⟨rfl,rfl⟩
theorem OwI.setLow {w:World} {B:Nat} {v:Value} {l:List Int} (h:OwI w B v l) {p:Addr} (F:p.block<B) (x:Value):OwI (w.setCell p x) B v l:=by
 refine⟨h.1,?_⟩;rcases h.2 with d|⟨g,cap,z,rfl,A,E,rest⟩
 ·exact .inl d
 ·refine .inr ⟨g,cap,z,rfl,A,?_,rest⟩;rw[heap_setCell_other w p g x (fun e=>by omega)];exact E
def qK (w:World) (b:Nat) (l:List Int):Prop:=∃v,Arr w b 190 [v]/\OwI w (b+1) v l
theorem qK.lt {w:World} {b:Nat} {l:List Int} (h:qK w b l):b<w.heap.size:=by obtain⟨v,h,_⟩:=h;exact h.lt
theorem qK.below {w w':World} {b:Nat} {l:List Int} (h:qK w b l) (d:Below w.heap.size w w'):qK w' b l:=by
 have:=h.lt;obtain⟨v,z,A⟩:=h;exact⟨v,z.below d this,A.below d (aA _)⟩
theorem CP (b:Nat) (E:Value) (l m:List Int) (w:World) (F:qK w b l) (H:pQ w E m) (I:(l.length+m.length)*8<=140737488355328):
  Calls Tryz.prog 137 #[.pointer (some ⟨b,0,none⟩),E] w fun e w'=>e=.returned (.tuple #[])/\qK w' b (l++m)/\Below b w w':=by
 have L:=F.lt;obtain⟨v,d,J⟩:=F;have M:=d.cell (i:=0) rfl;have O:=d.free 0;go_enter Tryz.func137,Tryz.ntmps137;go_wp2_with (at_builtin;refine CO rfl _ _ rfl (b+1) _ _ rfl J _ m rfl H I (by omega) ?_;intro T U z G V;(obtain⟨Y,Z,rfl,_,_,_⟩:=z.rd.open);(have A:=d.below G (by omega));(have c2:=A.cell (i:=0) rfl);(have f2:=A.free 0))
 go_end0
 rw[aL] at z;exact⟨rfl,⟨_,A.set 0 _,z.setLow (p:=⟨b,0,none⟩) (Nat.lt_succ_self b) _⟩,(G.mono (Nat.le_succ b)).setCell (p:=⟨b,0,none⟩) (aA _) _⟩
theorem aGi (p:Option Addr) (cap:Nat) (d:Value) (w:World):
  Calls Tryz.prog 251 #[.slice p 0 cap,.int .i64 0,.int .i64 0,d] w fun e w'=>e=.returned (.tuple #[])/\w=w':=by
 go_enter Tryz.func251,Tryz.ntmps251;go_wp2
 go_loopg [8] 0 (fun _gh i wr=>i=.int .i64 1/\w=wr)
 case atStart=>exact⟨rfl,rfl⟩
 case round=>
  obtain⟨rfl,rfl⟩:=hrel;go_wp2
  go_end0
  exact⟨rfl,rfl⟩
theorem aGj (p:Option Addr) (cap:Nat) (d:Value) (w:World):
  Calls Tryz.prog 241 #[.slice p 0 cap,.int .i64 0,d] w fun e w'=>e=.returned (.tuple #[])/\w=w':=by
 go_enter Tryz.func241,Tryz.ntmps241;go_wp2
 go_loopg [7,8] 0 (fun _gh i j wr=>i=.int .i64 0/\j=.int .i64 20/\w=wr)
 case atStart=>exact⟨rfl,rfl,rfl⟩
 case round=>
  obtain⟨rfl,rfl,rfl⟩:=hrel;go_wp2_with fail;refine(aGi p cap d w).mono ?_;rintro e A ⟨rfl,rfl⟩;go_wp2_with fail
  go_loopg [6,7,8,9] 0 (fun _gh z _s7 _s8 _s9 wr=>z=.int .i64 20/\w=wr)
  case atStart=>exact⟨rfl,rfl⟩
  case round=>
   obtain⟨rfl,rfl⟩:=hrel;go_wp2_with fail
   go_end0
   exact⟨rfl,rfl⟩
theorem aGk (p:Option Addr) (cap:Nat) (d:Value) (w:World):
  Calls Tryz.prog 218 #[.slice p 0 cap,d] w fun e w'=>e=.returned (.tuple #[])/\w=w':=by
 go_enter Tryz.func218,Tryz.ntmps218;go_wp2_with fail;refine(aGj p cap d w).mono ?_;rintro e z ⟨rfl,rfl⟩;go_wp2
 go_end0
 exact⟨rfl,rfl⟩
theorem aGl (p:Option Addr) (cap:Nat) (t:TypeId) (d:Value) (w:World):
  Calls Tryz.prog 185 #[.slice p 0 cap,.iface t d] w fun e w'=>e=.returned (.tuple #[])/\Below w.heap.size w w':=by
 go_enter Tryz.func185,Tryz.ntmps185;go_wp2_with fail;refine(aGk p cap _ _).mono ?_;rintro e z ⟨rfl,rfl⟩;go_wp2
 go_end0
 exact⟨rfl,uM _ _⟩
noncomputable def wB (c:Nat->Nat) (m:Nat) (x y:Int):Bool:=@decide (ltm c m x.toNat y.toNat) (GL _)
theorem JO (c:Nat->Nat) (m:Nat) (x y:Int):wB c m x y=true↔ltm c m x.toNat y.toNat:=by unfold wB;exact@decide_eq_true_iff _ (GL _)
theorem aGm (c:Nat->Nat) (m:Nat):Cmp (bef c m) (wB c m):=
 ⟨vW c m,fun x y d=>by
  rw[JO];unfold bef;constructor
  ·exact .inl
  ·rintro(h|⟨_,h⟩)
   ·exact h
   ·omega⟩
theorem aGn {s:ByteArray} {b g bx n M:Nat} {r:Nat->Int} {w:World} {c:Nat->Nat} (E:s.size=n) (F:n<=1000000) (G:M<=4000000) (H:Arr w b 3 (tab n r)) (I:b≠g) (J:bx≠g) (d:w.cell? ⟨bx,0,none⟩=some (qJ s b n M))
  (L:Cyc c n) (O:sW c n (max M 1) r):pO w g n bx (wB c (max (2*M) 1)):=by
 intro W z x y a2 a3 hy0 hy1;have T:((x.toNat:Nat):Int)=x:=by omega
 have U:((y.toNat:Nat):Int)=y:=by omega
 have V:=iO w _ d;have Y:W.cell? ⟨bx,0,none⟩=some (qJ s b n M):=by
  rw[<-d];exact World.cell?_of_block (w:=w) (z.block bx V (fun e=>J (by have:=bW e;omega)))
 have Z:Arr W b 3 (tab n r):=H.grown z (fun e=>I (by have:=bW e;omega));have:=aF5 s b bx n M x.toNat y.toNat r W E F G (by omega) (by omega) Z Y;rw[T,U] at this;refine this.mono ?_;rintro e w' ⟨rfl,a0⟩;refine⟨_,rfl,?_,a0⟩;rw[QZ];have A:=(QX (x:=x.toNat) (y:=y.toNat) L O (by omega) (by omega)).1
 by_cases h:ltm c (max (2*M) 1) x.toNat y.toNat
 ·rw[(JO _ _ _ _).2 h];exact decide_eq_true (A.2 h)
 ·have:wB c (max (2*M) 1) x y=false:=by
   cases a1:wB c (max (2*M) 1) x y with
   |false=>rfl
   |true=>exact absurd ((JO _ _ _ _).1 a1) h
  rw[this];exact decide_eq_false (fun h'=>h (A.1 h'))
theorem aGo (s:ByteArray) (b g cap n M:Nat) (r:Nat->Int) (w:World) (c:Nat->Nat) (Z:s.size=n) (H:n<=1000000) (hM:M<=4000000) (I:Arr w b 3 (tab n r)) (a0:b≠g) (z:Dat w g cap n (fun k=>(k:Int))) (J:cap<=maxLen)
  (L:Cyc c n) (d:sW c n (max M 1) r):
  Calls Tryz.prog 185 #[.slice (some ⟨g,0,none⟩) n cap,qJ s b n M] w fun e w'=>
   e=.returned (.tuple #[])/\(∃h,Ord c n (max (2*M) 1) h/\Dat w' g cap n h)/\w.grownBy w' (some g):=by
 have hg:=z.lt;have A:=uM w (.cells #[qJ s b n M] 274);have O:=aGn (bx:=w.heap.size) Z H hM (I.alloc (.cells #[qJ s b n M] 274)) a0 (by omega) (bS w (qJ s b n M) 274) L d;have E:=aFh g cap n w.heap.size (fun k=>(k:Int)) _ (bef c (max (2*M) 1)) _ (z.below A hg) H J (fun k d=>by show 0<=(k:Int)/\(k:Int)<(n:Int);omega) (fun i j _ h2 _=>by show(i:Int)<(j:Int);omega) O (aGm c _);unfold maxLen at J;unfold nE at E;have F:=hid E;have G:=hid A;have HD:=hid z;clear E O A d L I z;unfold qJ at F G ⊢;obtain⟨T,U⟩:∃T,T=pP s b n M:=⟨_,rfl⟩
 rw[<-U] at F G ⊢;clear U;go_enter Tryz.func185,Tryz.ntmps185;go_wp2_with fail;refine F.out.mono ?_;rintro e w1 ⟨rfl,⟨h,V,hD⟩,hG⟩;go_wp2
 go_end0
 refine⟨rfl,⟨h,⟨fun k d=>?_,V.srt⟩,hD⟩,dS (rJ G.out) hG⟩;obtain⟨Y,_,p2,p3⟩:=V.frm k (aU _) d;rw[p3];show 0<=(Y:Int)/\(Y:Int)<(n:Int);omega
def gI (n:Nat) (o:Nat->Int):List Int:=(dG n).map o
theorem mL (n:Nat) (o:Nat->Int):(gI n o).length=n:=by simp[gI]
theorem wC (n:Nat) (o:Nat->Int) (k:Nat) (h:k<n):(gI n o)[k]? =some (o k):=by simp[gI,h]
theorem aGp (n:Nat) (o:Nat->Int):gI (n+1) o=gI n o++[o n]:=by simp[gI,sF]
theorem aGq {n:Nat} {o d:Nat->Int} (h:∀k,k<n->o k=d k):gI n o=gI n d:=by
 unfold gI;exact qW (fun k z=>h k (by simpa using z))
theorem RO (l:List Int):gI l.length (fun k=>l.getD k 0)=l:=by
 apply jA;intro k
 by_cases h:k<l.length
 ·rw[wC _ _ _ h];simp[fF,aN h]
 ·rw[dL (by rw[mL];omega),dL (by omega)]
theorem RP {d:Array Value} {n:Nat} {f:Nat->Int} (A:n<=d.size) (h:∀k,k<n->d[k]? =some (.int .i64 (f k))):d.toList.take n=(gI n f).map (bO .i64):=by
 apply jA;intro k
 by_cases z:k<n
 ·rw[mB z,FW,h k z,dY,wC _ _ _ z];rfl
 ·rw[dL (by simp;omega),dL (by simp[gI];omega)]
theorem aGr {w:World} {B:Nat} {v:Value} {l:List Int} (h:OwI w B v l) (A:l≠[]):
  ∃g cap,v=.slice (some ⟨g,0,none⟩) l.length cap/\B<=g/\Dat w g cap l.length (fun k=>l.getD k 0)/\cap<=maxLen:=by
 obtain⟨L,h⟩:=h;rw[bJ] at h;rcases h with⟨rfl,E⟩|⟨g,cap,d,rfl,F,G,H,I,M,J⟩
 ·exact absurd (by cases l with|nil=>rfl|cons x l=>simp at E) A
 ·refine⟨g,cap,rfl,F,⟨d,G,by omega,H,fun k z=>?_⟩,I⟩;have:(d.toList.take l.length)[k]? =(l.map (bO .i64))[k]? :=by rw[<-J,sE]
  rw[mB z,FW] at this;rw[this];simp[fF,aN z]
theorem aGs {w:World} {B g cap n:Nat} {f:Nat->Int} (h:Dat w g cap n f) (d:B<=g) (z:cap<=maxLen):OwI w B (.slice (some ⟨g,0,none⟩) n cap) (gI n f):=by
 obtain⟨A,E,H,F,G⟩:=h;refine⟨(sE _).symm,.inr ⟨g,cap,A,by rw[bJ,mL],d,E,by rw[bJ,mL];exact F,z,by omega,?_⟩⟩;rw[bJ,mL,sE];exact RP (by omega) G
theorem Dat.other {w:World} {g cap n:Nat} {f:Nat->Int} (h:Dat w g cap n f) (p:Addr) (d:p.block≠g) (v:Value):Dat (w.setCell p v) g cap n f:=by
 obtain⟨z,h,A⟩:=h;exact⟨z,by rw[Below.heap_setCell w p v g (fun e=>d e.symm)];exact h,A⟩
theorem aGt {n:Nat} {o:Nat->Int} (H:∀k,k<n->0<=o k/\o k<(n:Int)) (I:∀i j,i<j->j<n->o i≠o j):
  (gI n o).mergeSort (fun x y=>decide (x<=y))=gI n (fun k=>(k:Int)):=by
 obtain⟨l,A⟩:∃l,l=(gI n o).mergeSort (fun x y=>decide (x<=y)):=⟨_,rfl⟩;rw[<-A];have E:l.Perm (gI n o):=by rw[A];exact List.mergeSort_perm _ _
 have J:l.Pairwise (fun x y=>decide (x<=y)=true):=by
  rw[A];exact List.pairwise_mergeSort (fun a b c d z=>by simp at*;omega) (fun a b=>by simp;omega) _
 have L:l.length=n:=by rw[E.length_eq,mL]
 have M:l.Nodup:=by
  rw[E.nodup_iff];unfold gI List.Nodup;rw[List.pairwise_map];refine aB5 ?_ List.pairwise_lt_range;intro a b ha O T;exact I a b T (by simpa using O)
 have U:∀k,k<n->0<=l.getD k 0/\l.getD k 0<(n:Int):=by
  intro k V;have Y:k<l.length:=by omega
  have d:l.getD k 0∈l:=by simp[fF,aN Y]
  have z:=E.mem_iff.1 d;unfold gI at z;obtain⟨i,hi,e⟩:=dU.1 z;rw[<-e];exact H i (by simpa using hi)
 have Z:∀k,k+1<n->l.getD k 0<l.getD (k+1) 0:=by
  intro k V;have F:k<l.length:=by omega
  have G:k+1<l.length:=by omega
  have d:=xO.1 J k (k+1) F G (by omega);have z:=xO.1 M k (k+1) F G (by omega);simp only[decide_eq_true_eq] at d;simp only[fF,aN F,aN G,Option.getD_some];omega
 have a0:=aFz U Z;rw[<-RO l,L];exact aGq a0
theorem aGu (g cap n:Nat) (o:Nat->Int) (w:World) (A:Dat w g cap n o) (T:n<=1000000) (E:∀k,k<n->0<=o k/\o k<(n:Int)) (F:∀i j,i<j->j<n->o i≠o j):
  Calls Tryz.prog 184 #[.slice (some ⟨g,0,none⟩) n cap] w fun e w'=>e=.returned (.tuple #[])/\Dat w' g cap n (fun k=>(k:Int))/\w.grownBy w' (some g):=by
 obtain⟨G,d,H,I,J⟩:=A;have L:=RP (by omega) J;have M:Go.Sort.Holds (bO .i64) w g 0 (gI n o).toArray:=holds_of_blockI d (by rw[mL];exact L);have O:g<w.heap.size:=(Array.getElem?_eq_some_iff.1 d).1;have h:=Tryz.slices_Sort_int g 0 cap (gI n o) w M O (by rw[mL];omega);rw[mL,aGt E F] at h;refine h.mono ?_;rintro e w' ⟨rfl,m,os,rfl⟩;refine⟨rfl,?_,grownBy_sortedI _⟩;refine⟨_,heap_sortedI _ d,by simp[Go.Sort.putCells,H],I,fun k z=>?_⟩;have:=take_putCellsI G (gI n (fun k=>(k:Int))) (by rw[mL];omega);have e:=congrArg (fun l=>l[k]?) this
 rw[mL,mB z,FW] at e;rw[e,dY,wC _ _ _ z];rfl
noncomputable def vr (c:Nat->Nat) (m:Nat) (o:Nat->Int):Nat->Int
 |0=>0
 |i+1=>vr c m o i+ @ite _ (eqm c m (o i).toNat (o (i+1)).toNat) (GL _) 0 1
theorem JP (c:Nat->Nat) (m:Nat) (o:Nat->Int) (i:Nat):(eqm c m (o i).toNat (o (i+1)).toNat/\vr c m o (i+1)=vr c m o i)\/(¬eqm c m (o i).toNat (o (i+1)).toNat/\vr c m o (i+1)=vr c m o i+1):=by
 by_cases h:eqm c m (o i).toNat (o (i+1)).toNat
 ·exact .inl ⟨h,by rw[vr,@if_pos _ (GL _) h];omega⟩
 ·exact .inr ⟨h,by rw[vr,@if_neg _ (GL _) h]⟩
theorem aGv (c:Nat->Nat) (m:Nat) (o:Nat->Int):∀i,0<=vr c m o i/\vr c m o i<=(i:Int):=by
 intro i
 induction i with
 |zero=>exact⟨lJ _,lJ _⟩
 |succ i d=>rcases JP c m o i with h|h<;>omega
def bX (s:ByteArray) (i:Nat):Nat:=(s.data.toList.getD (i%s.size) 0).toNat
theorem sX (s:ByteArray):Cyc (bX s) s.size:=fun i=>by unfold bX;rw[Nat.add_mod_right]
theorem aGw (s:ByteArray) {i:Nat} (h:i<s.size):bX s i=(s.data.toList.getD i 0).toNat:=by unfold bX;rw[Nat.mod_eq_of_lt h]
theorem aGx (s:ByteArray):sW (bX s) s.size 1 (fun k=>(bX s k:Int)):=by
 intro a b _ _;constructor
 ·intro h;exact⟨0,by omega,fun u z=>by omega,by simp only[pH];have A:(bX s a:Int)<(bX s b:Int):=h;omega⟩
 ·rintro⟨t,t1,_,d⟩;have:t=0:=by omega
  subst this;simp only[pH] at d;show(bX s a:Int)<(bX s b:Int);omega
theorem yZ {z:Array Oper} {rest:List Oper} {o:Oper} {a:Act} {Q:Exit->Act->World->Prop} {w:World} (A:o.guard=none) (s x:Operand)
  (E:o.op=.call {callee:=.builtin .append,args:=#[s,x],argTypes:=#[45,45]}) (base:Nat) (v:Value) (l:List UInt8) (hs:a.eval s=v) (hown:OwB w base v l)
  (g:Nat) (b:UInt8) (hx:a.eval x=.slice (some ⟨g,0,none⟩) 1 1) (hc:w.cell? ⟨g,0,none⟩=some (.int .u8 (b.toNat:Int))) (hroom:(l.length+1)*1<=140737488355328) (hbase:base<=w.heap.size)
  (h:∀d w',OwB w' base d (l++[b])->Below base w w'->w.grownBy w' v.ownBlock->wpList Tryz.prog z Q rest (a.put o.dst d) w'):wpList Tryz.prog z Q (o::rest) a w:=
 rD vQ A s x E base v _ hs hown g _ hx hc rfl (by simpa using hroom) hbase (fun d w' F G H=>h d w' (by unfold OwB;rw[IC];exact F) G H)
def oT (s:List UInt8) (k c:Nat):Bool:=dB (s.take k) c
theorem UP (s:List UInt8) (k:Nat) (b:UInt8) (h:s[k]? =some b) (c:Nat):oT s (k+1) c=if c=b.toNat then true else oT s k c:=by
 unfold oT dB;rw[cQ,h,Option.toList_some,List.any_append]
 by_cases e:c=b.toNat
 ·rw[if_pos e,e];simp
 ·rw[if_neg e];have:(b.toNat==c)=false:=by rw[beq_eq_false_iff_ne];exact fun h=>e h.symm
  simp[this]
def eS (f:Nat->Bool):List Value:=(dG 256).map fun c=>.bool (f c)
theorem zA (f:Nat->Bool) (c:Nat) (h:c<256):(eS f)[c]? =some (.bool (f c)):=by simp[eS,h]
theorem aJe (f f':Nat->Bool) (c:Nat) (v:Bool) (h:∀d,f' d=if d=c then v else f d):(eS f).set c (.bool v)=eS f':=by
 apply jA;intro j
 by_cases z:j<256
 ·by_cases e:c=j
  ·subst e;simp[eS,z,h]
  ·rw[qU e,zA f j z,zA f' j z,h,if_neg (fun h=>e h.symm)]
 ·rw[dL (by simp[eS];omega),dL (by simp[eS];omega)]
theorem UQ:Tryz.zeroCells124=(eS (fun _=>false)).toArray:=by kernel_rfl
theorem KX (f:Nat->Bool):(eS f).toArray.size=256:=by simp[eS]
theorem wN (f:Nat->Bool):(Tryz.prog.info? 124).map (·.size)=some (eS f).toArray.size:=by rw[KX];kernel_rfl
theorem uW:Tryz.prog.underlying 124=some (.array 256 4):=by kernel_rfl
theorem UR {w:World} {b:Nat} {e:TypeId} {l:List Value} (h:Arr w b e l) (d:l.length=256) (f:Nat->Bool):
  (storeCells ⟨b,0,none⟩ (eS f)).run Tryz.prog w=.ok () (w.setRow b (eS f).toArray):=by
 have z:(eS f).length=256:=by simp[eS]
 have A:=run_storeCells_from (P:=Tryz.prog) b e (eS f) 0 l.toArray w h (by simp[d,z]) (fun v E=>by obtain⟨c,_,rfl⟩:=dU.1 E;rfl);rw[A]
 congr 2
theorem zB {B:Nat} {w w':World} (h:Below B w w') (g:Nat) (z:B<=g) (cs:Array Value):Below B w (w'.setRow g cs):=
 ⟨h.os,h.tape,h.output,by rw[size_setRow];exact h.size,fun k d=>(setRow_other w' g k cs (by omega)).trans (h.block k d)⟩
theorem US (s:ByteArray) (w:World) (U:s.size<=140737488355328):
  Calls Tryz.prog 76 #[.string s] w fun e w'=>e=.returned (.agg (eS (dB s.data.toList)).toArray)/\Below w.heap.size w w':=by
 have F:=hid (show s.data.toList.length=s.size by simp);go_enter Tryz.func76,Tryz.ntmps76;go_wp2_with fail
 go_loopg [3,6] s.size (fun G _s3 H wr=>∃k:Nat,k<=s.size/\G=s.size-k/\H=.int .i64 k/\Arr wr w.heap.size 124 (eS (oT s.data.toList k))/\Below w.heap.size w wr)
 case atStart=>
  refine⟨0,aU _,rfl,rfl,?_,(aB _ _).alloc (aA _) _⟩;rw[UQ,show oT s.data.toList 0=fun _=>false from by funext c;simp[oT,dB]];exact Arr.new w _ _
 case round=>
 obtain⟨k,V,z,rfl,d,A⟩:=hrel;have I:=hid z;clear z
 by_cases J:k<s.size
 ·have L:=s[k].toNat_lt;have Y:=d.cell (zA (oT s.data.toList k) s[k].toNat L);have Z:=d.free s[k].toNat;have M:=hid (UP s.data.toList k s[k] (eW s k J));go_wp2_with fail;have z:=I.out
  go_roundg (s.size-(k+1))
  case measure=>omega
  case rel=>
   refine⟨k+1,by omega,rfl,by go_num,?_,A.setCell (p:=⟨w.heap.size,s[k].toNat,none⟩) (aA _) _⟩;have:=d.set s[k].toNat (.bool true);rwa[aJe _ (oT s.data.toList (k+1)) _ true M.out] at this
 ·have O:k=s.size:=by omega
  subst O;have E:oT s.data.toList s.size=dB s.data.toList:=by funext c;unfold oT;rw[cS (by rw[F.out];exact aA _)]
  rw[E] at d;clear E;go_wp2_with fail;refine wp_load_row 124 (.tmp 2) rfl w.heap.size rfl _ _ (0,0) (.array 256 4) d uW rfl (wN _) ?_;have a0:=UR d (by simp[eS]) (dB s.data.toList);go_wp2_with fail;have T:Arr (wr.setRow w.heap.size (eS (dB s.data.toList)).toArray) w.heap.size 124 (eS (dB s.data.toList)):=setRow_heap wr w.heap.size _ _ 124 (0,0) d;refine bodyPost_ret (results_cell_row rfl _ _ w.heap.size _ _ (0,0) (.array 256 4) rfl T uW rfl (wN _)) rfl ?_;exact⟨rfl,zB A _ (aA _) _⟩
theorem aJf (cs:Array Value) (k:Nat) (d:k<256) (b:Bool) (h:cs[k]? =some (.bool b)) (w:World):(tV 124 (.agg cs) (.int .i64 (k:Int))).run Tryz.prog w=.ok (.bool b) w:=by
 have z:(k:Int)<256:=by omega
 simp[tV,sI uW,asIntOf,d,part,isAgg,sI Tryz.underlying4,h,Result.andThen]
theorem UT {c:Nat} (h:c<256):(eK c).toNat=c:=by rw[UInt8.toNat_ofNat'];omega
theorem KY (s:ByteArray) (w:World) (U:s.size<=140737488355328):
  Calls Tryz.prog 66 #[.string s] w fun e w'=>e=.returned (.string (mkS (bK s.data.toList)))/\Below w.heap.size w w':=by
 go_enter Tryz.func66,Tryz.ntmps66;go_wp2_with fail;refine(US s _ U).mono ?_;rintro e z ⟨rfl,V⟩;obtain⟨cs,A⟩:∃cs,cs=(eS (dB s.data.toList)).toArray:=⟨_,rfl⟩;rw[<-A];have a3:cs.size=256:=by rw[A];exact KX _
 have L:∀c,c<256->cs[c]? =some (.bool (dB s.data.toList c)):=fun c Y=>by rw[A];simpa using zA (dB s.data.toList) c Y
 have Z:=hid L;clear A L;go_wp2_with fail
 go_loopg [3,4,5,8] 256 (fun gh s3 _s4 _s5 s8 wr=>∃k:Nat,k<=256/\gh=256-k/\s8=.int .i64 k/\OwB wr z.heap.size s3 (jH s.data.toList k)/\Below z.heap.size z wr)
 case atStart=>exact⟨0,by omega,rfl,rfl,Ow.nil _ _ _,aB _ _⟩
 case round=>
 obtain⟨k,hk,E,rfl,G,F⟩:=hrel;have M:=hid E;clear E
 by_cases H:k<256
 ·have t1:decide ((k:Int)<256)=true:=decide_eq_true (by omega);have t2:(k:Int)<256:=by omega
  have g1:=Z.out k H;have O:(tV 124 (.agg cs) (.int .i64 (k:Int))).run Tryz.prog wr=.ok (.bool (dB s.data.toList k)) wr:=aJf cs k H _ g1 wr;have g2:pX.wrap (k:Int)=(k:Int):=by unfold IntKind.wrap;simp[IntKind.signed,IntKind.bits];omega
  have a4:=PI s.data.toList k;have a0:=F.size;have T:=hid (IK s.data.toList k);have e1:((eK k).toNat:Int)=(k:Int):=by rw[UT H]
  by_cases d:dB s.data.toList k=true
  ·rw[d] at O;have I:=hid d;clear d;go_wp2_with (at_builtin;refine yZ rfl _ _ rfl z.heap.size _ _ rfl (G.alloc _) wr.heap.size (eK k) rfl ?_ ?_ ?_ ?_;(rw[e1];exact bS _ _ _);omega;(simp;omega);intro v' w3 a1 hB a5);have E:=M.out
   go_roundg (256-(k+1))
   case measure=>omega
   case rel=>
    refine⟨k+1,by omega,rfl,by go_num,?_,(F.alloc a0 _).trans hB⟩;have:=T.out;rw[if_pos I.out] at this;rw[this];exact a1
  ·have J:dB s.data.toList k=false:=by simpa using d
   rw[J] at O;have I:=hid J;clear d J;go_wp2_with fail;have E:=M.out
   go_roundg (256-(k+1))
   case measure=>omega
   case rel=>
    refine⟨k+1,by omega,rfl,by go_num,?_,F⟩;have:=T.out;rw[if_neg (by rw[I.out];exact aB2),eE] at this;rw[this];exact G
 ·have a2:k=256:=by omega
  subst a2;have a6:=lQ G.rd;have HE:=hid (show jH s.data.toList 256=bK s.data.toList from rfl);go_wp2_with fail;go_ret;exact⟨tY (by rw[HE.out]),bV V F⟩
theorem UU (s:ByteArray) (c:Nat) (w:World) (O:s.size<=140737488355328) (_hc:c<256):
  Calls Tryz.prog 152 #[.string s,.int .i64 (c:Int)] w fun e w'=>e=.returned (.bool (dB s.data.toList c))/\w'=w:=by
 have G:=hid (show s.data.toList.length=s.size by simp);go_enter Tryz.func152,Tryz.ntmps152;go_wp2_with fail
 go_loopg [5] s.size (fun H I wr=>∃k:Nat,k<=s.size/\H=s.size-k/\I=.int .i64 k/\Hid (oT s.data.toList k c=false)/\w=wr)
 case atStart=>exact⟨0,aU _,rfl,rfl,hid rfl,rfl⟩
 case round=>
 obtain⟨k,T,z,rfl,E,rfl⟩:=hrel;have J:=hid z;clear z
 by_cases F:k<s.size
 ·have U:=s[k].toNat_lt;have L:=hid (UP s.data.toList k s[k] (eW s k F) c)
  by_cases d:s[k].toNat=c
  ·have t1:((s[k].toNat:Int)==(c:Int))=true:=by rw[beq_iff_eq];omega
   have A:=hid d;clear d;go_wp2_with fail;go_ret;refine⟨sN ?_,rfl⟩;have M:s[k]∈s.data.toList:=cH (eW s k F);rw[<-A.out];exact((IJ s.data.toList s[k]).2 M).symm
  ·have t1:((s[k].toNat:Int)==(c:Int))=false:=by rw[beq_eq_false_iff_ne];omega
   have A:=hid d;clear d;go_wp2_with fail;have z:=J.out
   go_roundg (s.size-(k+1))
   case measure=>omega
   case rel=>
    refine⟨k+1,by omega,rfl,by go_num,hid ?_,rfl⟩;rw[L.out,if_neg (fun e=>A.out e.symm)];exact E.out
 ·have V:k=s.size:=by omega
  go_wp2_with fail;go_ret;refine⟨sN ?_,rfl⟩;have:=E.out;unfold oT at this;rw[cS (by rw[G.out];omega)] at this;exact this.symm
theorem KZ (s:ByteArray) (w:World) (L:s.size<=140737488355328):
  Calls Tryz.prog 97 #[.string s] w fun e w'=>e=.returned (.string (mkS (bK s.data.toList)))/\Below w.heap.size w w':=by
 go_enter Tryz.func97,Tryz.ntmps97;go_wp2_with fail
 go_loopg [3,4] 256 (fun M O T wr=>∃k:Nat,k<=256/\M=256-k/\T=.int .i64 k/\OwB wr w.heap.size O (jH s.data.toList k)/\Below w.heap.size w wr)
 case atStart=>exact⟨0,by omega,rfl,rfl,Ow.nil _ _ _,aB _ _⟩
 case round=>
 obtain⟨k,hk,z,rfl,E,A⟩:=hrel;have H:=hid z;clear z
 by_cases I:k<256
 ·have t1:decide ((k:Int)<256)=true:=decide_eq_true (by omega);have t2:(k:Int)<256:=by omega
  have g2:pX.wrap (k:Int)=(k:Int):=by unfold IntKind.wrap;simp[IntKind.signed,IntKind.bits];omega
  have a1:=PI s.data.toList k;have U:=A.size;have J:=hid (IK s.data.toList k);have V:((eK k).toNat:Int)=(k:Int):=by rw[UT I]
  go_wp2_with fail;refine(UU s k _ L I).mono ?_;rintro e Y ⟨rfl,rfl⟩
  by_cases d:dB s.data.toList k=true
  ·rw[d];have F:=hid d;clear d;go_wp2_with (at_builtin;refine yZ rfl _ _ rfl w.heap.size _ _ rfl (E.alloc _) Y.heap.size (eK k) rfl ?_ ?_ ?_ ?_;(rw[V];exact bS _ _ _);omega;(simp;omega);intro v' w3 Z hB a2);have z:=H.out
   go_roundg (256-(k+1))
   case measure=>omega
   case rel=>
    refine⟨k+1,by omega,rfl,by go_num,?_,(A.alloc U _).trans hB⟩;have:=J.out;rw[if_pos F.out] at this;rw[this];exact Z
  ·have G:dB s.data.toList k=false:=by simpa using d
   rw[G];have F:=hid G;clear d G;go_wp2_with fail;have z:=H.out
   go_roundg (256-(k+1))
   case measure=>omega
   case rel=>
    refine⟨k+1,by omega,rfl,by go_num,?_,A⟩;have:=J.out;rw[if_neg (by rw[F.out];exact aB2),eE] at this;rw[this];exact E
 ·have a0:k=256:=by omega
  subst a0;have a3:=lQ E.rd;have HE:=hid (show jH s.data.toList 256=bK s.data.toList from rfl);go_wp2_with fail;go_ret;exact⟨tY (by rw[HE.out]),A⟩
theorem aL8 (s:List UInt8) (k:Nat) (d:k<=256):(nV s k).length<=s.length:=by
 rw[CJ,<-QM s];exact QN s k 256 d
theorem aL9 (s:List UInt8) (c n:Nat):(mG s c n).length<=n:=by
 unfold mG;have:=List.length_filter_le (fun i=>(s.getD i 0).toNat==c) (dG n);simpa using this
theorem aMa (s:ByteArray) (w:World) (Y:s.size<=1000000000):
  Calls Tryz.prog 183 #[.string s] w fun e w'=>
   ∃v,e=.returned v/\OwI w' w.heap.size v (rL s.data.toList)/\Below w.heap.size w w':=by
 go_enter Tryz.func183,Tryz.ntmps183;go_wp2
 go_loopw [3,4] (fun out c wr=>∃k:Nat,k<=256/\c=.int .i64 k/\OwI wr w.heap.size out ((nV s.data.toList k).map Int.ofNat)/\Below w.heap.size w wr) (fun _ c _=>256-(intOf c).toNat)
 case atStart=>exact⟨0,aU _,rfl,OwI.nil _ _,aB _ _⟩
 case round=>
  obtain⟨k,Z,rfl,F,G⟩:=hrel
  by_cases a0:k<256
  ·obtain⟨H,rfl⟩:∃H:World,H=wr:=⟨_,rfl⟩;have hd:decide ((k:Int)<256)=true:=by simp;omega
   go_wp2
   go_loopw [3,5] (fun out i wr=>∃j:Nat,j<=s.size/\i=.int .i64 j/\OwI wr w.heap.size out ((nV s.data.toList k++mG s.data.toList k j).map Int.ofNat)/\Below w.heap.size w wr) (fun _ i _=>s.size-(intOf i).toNat)
   case atStart=>exact⟨0,aU _,rfl,by simpa [mG] using F,G⟩
   case round=>
    obtain⟨j,hj,rfl,A,d⟩:=hrel
    by_cases L:j<s.size
    ·have hb:s[j].toNat<256:=s[j].toNat_lt;have I:=hid (eW s j L);have M:=aL8 s.data.toList k (by omega);have a1:=aL9 s.data.toList k j;simp only[Array.length_toList,ByteArray.size_data] at M;go_wp2_with (at_builtin;refine eN rfl _ _ rfl w.heap.size _ _ rfl (A.alloc _) wr.heap.size (j:Int) rfl ?_ ?_ ?_ ?_;(exact bS _ _ _);(simp only[aL,bJ];omega);(have:=d.size;simp;omega);intro v' w1 O T a2)
     ·have E:((s[j].toNat:Int)==(k:Int))=true:=by assumption
      have z:=CI s.data.toList k j _ I.out;rw[if_pos (by have:=eq_of_beq E;omega)] at z
      go_roundw
      case rel=>exact⟨j+1,by omega,by go_num,by rw[z,<-cF,fI];exact O,(d.alloc (by have:=d.size;omega) _).trans T⟩
      case measure=>simp[intOf];omega
     ·have E:((s[j].toNat:Int)==(k:Int))=false:=by assumption
      have z:=CI s.data.toList k j _ I.out;rw[if_neg (by have:=ne_of_beq_false E;omega),eE] at z
      go_roundw
      case rel=>exact⟨j+1,by omega,by go_num,by rw[z];exact A,d⟩
      case measure=>simp[intOf];omega
    ·go_wp2
     go_roundw
     case rel=>exact⟨k+1,by omega,by go_num,by
      have U:j=s.data.toList.length:=by simp;omega
      rw[U] at A;simpa [nV] using A,d⟩
     case measure=>simp[intOf];omega
  ·have J:k=256:=by omega
   have V:=hid J;clear J;go_wp2;go_ret;have e:=V.out;subst e;exact⟨_,rfl,by rw[rL,aFu];exact F,G⟩
theorem aL7:Tryz.zeroCells311=(tab 257 (fun _=>0)).toArray:=by kernel_rfl
theorem WX (s:ByteArray) (w:World) (hs:s.size<=1000000000):
  Calls Tryz.prog 226 #[.string s] w fun e w'=>
   ∃v,e=.returned v/\OwI w' w.heap.size v (rL s.data.toList)/\Below w.heap.size w w':=by
 have a1:s.data.toList.length=s.size:=by simp
 have E:=hid a1;clear a1;go_enter Tryz.func226,Tryz.ntmps226;go_wp2
 go_loopw [10] (fun i wr=>∃k:Nat,k<=s.size/\i=.int .i64 k/\Arr wr w.heap.size 311 (tab 257 (mH s.data.toList k))/\Below w.heap.size w wr) (fun i _=>s.size-(intOf i).toNat)
 case atStart=>exact⟨0,aU _,rfl,by rw[aFm,aL7];exact Arr.new _ _ _,(aB _ _).alloc (aA _) _⟩
 case round=>
  obtain⟨k,hk,rfl,z,A⟩:=hrel
  by_cases F:k<s.size
  ·have hb:s[k].toNat<256:=s[k].toNat_lt;have H:=hid (eW s k F);have I:=aFt s.data.toList k (s[k].toNat+1);rw[E.out] at I;have hc:=z.cell (iS 257 (mH s.data.toList k) (s[k].toNat+1) (by omega));have hf:=z.free (s[k].toNat+1);obtain⟨x,G⟩:∃x,x=mH s.data.toList k (s[k].toNat+1):=⟨_,rfl⟩;rw[<-G] at hc I;have Y:=hid G;clear G;go_wp2
   go_roundw
   case rel=>
    refine⟨k+1,by omega,by go_num,?_,A.setCell (aA _) _⟩;have:=z.set (s[k].toNat+1) (.int .i64 (x+1));rw[qD 257 _ (mH s.data.toList (k+1)) _ _ (fun d _=>by rw[aFn _ _ _ H.out,Y.out])] at this;exact this
   case measure=>simp[intOf];omega
  ·have J:k=s.size:=by omega
   have HK:=hid J;clear J;go_wp2
   go_loopw [23] (fun i wr=>∃c:Nat,c<=256/\i=.int .i64 c/\Arr wr w.heap.size 311 (tab 257 (kI s.data.toList c))/\Below w.heap.size w wr) (fun i _=>256-(intOf i).toNat)
   case atStart=>exact⟨0,aU _,rfl,by have:=z;rw[HK.out,<-E.out,aFo] at this;exact this,A⟩
   case round=>
    clear z A F;obtain⟨c,hc,rfl,z,A⟩:=hrel
    by_cases F:c<256
    ·have O:decide ((c:Int)<256)=true:=by simp;omega
     have I:=QS s.data.toList c (c+1);have a2:=QS s.data.toList c c;rw[E.out] at I a2;have T:=z.cell (iS 257 (kI s.data.toList c) (c+1) (by omega));have h2:=z.cell (iS 257 (kI s.data.toList c) c (by omega));have hf:=z.free (c+1);obtain⟨x,G⟩:∃x,x=kI s.data.toList c (c+1):=⟨_,rfl⟩;obtain⟨y,Z⟩:∃x,x=kI s.data.toList c c:=⟨_,rfl⟩;rw[<-G] at T I;rw[<-Z] at h2 a2;have Y:=hid G;have HY:=hid Z;clear G Z;go_wp2
     go_region
     go_wp2
     go_roundw
     case rel=>
      refine⟨c+1,by omega,by go_num,?_,(A.setCell (aA _) _).drew⟩;have:=z.set (c+1) (.int .i64 (x+y));rw[qD 257 _ (kI s.data.toList (c+1)) _ _ (fun d _=>by rw[aFp,Y.out,HY.out])] at this;exact this
     case measure=>simp[intOf];omega
    ·have a3:c=256:=by omega
     have HC:=hid a3;clear a3;have O:decide ((c:Int)<256)=false:=by simp;omega
     obtain⟨M,rfl⟩:∃M:World,M=wr:=⟨_,rfl⟩;go_wp2_with (at_make;refine mkA gL rfl _ _ rfl s.size rfl rfl ?_ ?_;omega);have a7:w.heap.size<M.heap.size:=z.lt
     go_loopw [41] (fun i wr=>∃k:Nat,k<=s.size/\i=.int .i64 k/\Arr wr w.heap.size 311 (tab 257 (oQ s.data.toList k))/\(∃L:List Int,L.length=s.size/\Hid (∀j,j<k->L[jI s.data.toList j]? =some (j:Int))/\Arr wr M.heap.size 3 (L.map (bO .i64)))/\Below w.heap.size w wr) (fun i _=>s.size-(intOf i).toNat)
     case atStart=>
      refine⟨0,aU _,rfl,?_,⟨bB s.size 0,by simp,hid (fun j hj=>by omega),?_⟩,A.alloc (by omega) _⟩
      ·have:=z.alloc (.cells (fB (.int .i64 0) s.size) 3);rw[HC.out] at this;rwa[show tab 257 (oQ s.data.toList 0)=tab 257 (kI s.data.toList 256) from by
        apply qW;intro d O;rw[aFq _ _ (by simpa using O)]]
      ·rw[List.map_replicate];exact Arr.made _ _ _ _
     case round=>
      clear z A F O;obtain⟨k,hk,rfl,z,⟨L,U,HP,V⟩,A⟩:=hrel
      by_cases F:k<s.size
      ·have hb:s[k].toNat<256:=s[k].toNat_lt;have H:=hid (eW s k F);have a4:=QO s.data.toList k (by rw[E.out];exact F);have T:=z.cell (iS 257 (oQ s.data.toList k) s[k].toNat (by omega));rw[QP _ _ _ H.out] at T;rw[E.out] at a4;obtain⟨p,hp⟩:∃p,p=jI s.data.toList k:=⟨_,rfl⟩;rw[<-hp] at T a4;have a0:=hid hp;clear hp;have hf:=z.free s[k].toNat;have a8:=V.free p;obtain⟨v2,a5⟩:∃v2,(L.map (bO .i64))[p]? =some v2:=⟨_,aN (by simp;omega)⟩;have h2:=V.cell a5;clear a5;go_wp2
       go_roundw
       case rel=>
        refine⟨k+1,by omega,by go_num,?_,⟨L.set p (k:Int),by simpa using U,hid ?_,?_⟩,(A.setCell (by simp;omega) _).setCell (aA _) _⟩
        ·have:=(z.other ⟨M.heap.size,p,none⟩ (by simp;omega) (.int .i64 (k:Int))).set s[k].toNat (.int .i64 ((p:Int)+1));rw[qD 257 _ (oQ s.data.toList (k+1)) _ _ (fun d _=>by rw[aFr _ _ _ H.out,QP _ _ _ H.out,<-a0.out])] at this;exact this
        ·intro j hj;rcases bT j k with h'|h'
         ·rw[qU (fun e=>?_)]
          ·exact HP.out j h'
          ·have:=aFi s.data.toList j k (by rw[E.out];omega) (by rw[E.out];omega) (by rw[<-a0.out,e]);omega
         ·have:j=k:=by omega
          subst this;rw[<-a0.out,List.getElem?_set_self (by omega)]
        ·have:=(V.set p (.int .i64 (k:Int))).other ⟨w.heap.size,s[k].toNat,none⟩ (by simp;omega) (.int .i64 ((p:Int)+1));rwa[<-List.map_set] at this
       case measure=>simp[intOf];omega
      ·have J:k=s.size:=by omega
       have a6:=hid J;clear J;go_wp2;go_ret;have e:=aFj s.data.toList L (by rw[E.out,U]) (fun j hj=>HP.out j (by rw[a6.out,<-E.out];exact hj));have ho:=V.own (B:=w.heap.size) (by omega) (by rw[bJ,U];simp only[maxLen];omega);rw[bJ,U] at ho;rw[e] at ho;exact⟨_,rfl,ho,A⟩
theorem uZ {a b c d:Value} (z:a=c) (A:b=d):Ending.returned (.tuple #[a,b])=.returned (.tuple #[c,d]):=by rw[z,A]
theorem WY (s:List UInt8) (k:Nat) (h:k<s.length):(rL s)[k]? =some ((nxt s k:Nat):Int):=by
 unfold rL nxt;have:k<(vec s).length:=by rw[uJ];exact h
 simp[fF,aN this]
theorem LO (s:List UInt8):(rL s).length=s.length:=by simp[rL,uJ]
theorem LP (s:ByteArray) (k:Nat) (h:k<s.size):s.data.toList.getD k 0=s[k]:=by
 simp[fF,eW s k h]
theorem aMb (s:ByteArray) (o:Int) (w:World) (hs:s.size<=1000000000) (a8: -9223372036854775808<=o) (a9:o<=9223372036854775807):
  Calls Tryz.prog 209 #[.string s,.int .i64 o] w fun e w'=>
   e=.returned (.tuple #[.string (mkS (lE s.data.toList o)),.int .i64 (nW s.data.toList o)])/\Below w.heap.size w w':=by
 have I:s.data.toList.length=s.size:=by simp
 have F:=hid I
 by_cases J:mJ s.data.toList o=true
 case neg=>
  have d:mJ s.data.toList o=false:=by simpa using J
  have L:lE s.data.toList o=[]/\nW s.data.toList o=1:=by simp[lE,nW,d]
  have z:=hid L;unfold mJ at d;rw[I] at d;clear L J I
  by_cases a4:o<0
  ·clear d;have hd:decide (o<0)=true:=by simpa using a4
   go_enter Tryz.func209,Tryz.ntmps209;go_wp2
   go_ret2
   exact⟨uZ (by rw[z.out.1];rfl) (by rw[z.out.2];rfl),aB _ _⟩
  ·have V:(max (s.size:Int) 1)<=o:=by simp at d;omega
   have h2:decide (max (s.size:Int) 1<=o)=true:=by simpa using V
   have hd:decide (o<0)=false:=by simpa using a4
   clear d h2;go_enter Tryz.func209,Tryz.ntmps209;go_wp2
   all_goals go_ret2
   all_goals exact⟨uZ (by rw[z.out.1];rfl) (by rw[z.out.2];rfl),aB _ _⟩
 case pos=>
  have d:=J;unfold mJ at d;rw[I] at d;have V:0<=o/\o<max (s.size:Int) 1:=by simpa using d
  obtain⟨n,rfl⟩:=NS V.1;have L:lE s.data.toList n=kY s.data.toList n s.size/\nW s.data.toList n=0:=by
   simp[lE,nW,J,QT]
  have z:=hid L;have Z:n<s.size\/(s.size=0/\n=0):=by omega
  clear L J I d V a8 a9;have hd:decide ((n:Int)<0)=false:=by simp
  have HN:=hid (show 0<s.size->n<s.size from fun h=>by omega);have b0:n<s.size\/s.size<=0/\n<=0:=by omega
  clear Z;rcases b0 with Z|⟨Z,b4⟩
  ·go_enter Tryz.func209,Tryz.ntmps209;go_wp2_with fail;refine(WX s _ hs).mono ?_;rintro e A ⟨v,rfl,M,G⟩;obtain⟨va,vc,rfl,a0,a1,O⟩:=M.rd.open;rw[LO,F.out] at O a0 ⊢;simp only[maxLen] at a1;clear M;go_wp2_with (at_make;refine mkA vQ rfl _ _ rfl s.size rfl rfl ?_ ?_;omega)
   go_loopg [8,27] s.size (fun g a2 i wr=>∃k:Nat,k<=s.size/\g=s.size-k/\i=.int .i64 k/\a2=.int .i64 ((kJ s.data.toList k n:Nat):Int)/\Arr wr A.heap.size 5 (eO (nA s.size 0 (kY s.data.toList n k)))/\Below w.heap.size w wr/\Below A.heap.size A wr)
   case atStart=>
    refine⟨0,aU _,rfl,rfl,rfl,?_,G.alloc (by have:=G.size;omega) _,(aB _ _).alloc (aA _) _⟩;have:=Arr.made A 5 (.int .u8 0) s.size;rwa[show bB s.size (bO .u8 0)=eO (nA s.size 0 (kY s.data.toList n 0)) from by simp[eO,nA,kY]] at this
   case round=>
    obtain⟨k,hk,H,rfl,rfl,E,Y,a3⟩:=hrel
    by_cases a5:k<s.size
    ·have hn:=HN.out (by omega);have a6:=sU s.data.toList n (by rw[F.out];exact hn) k;have T:=sU s.data.toList n (by rw[F.out];exact hn) (k+1);rw[F.out] at a6 T;obtain⟨b1,o1,rfl,b2,a7⟩:=O (by omega);have c1:wr.cell? ⟨b1,o1+kJ s.data.toList k n,none⟩=some (.int .i64 ((kJ s.data.toList (k+1) n:Nat):Int)):=by
      rw[a3.cell (p:=⟨b1,o1+kJ s.data.toList k n,none⟩) b2];exact a7 _ _ (WY _ _ (by rw[F.out];exact a6))
     have b5:=hid (eW s _ T);have hb:s[kJ s.data.toList (k+1) n].toNat<256:=UInt8.toNat_lt _;obtain⟨x,hx⟩:=aDe s.size (0:UInt8) (kY s.data.toList n k) k a5 (by rw[sV];omega);have c2:=E.cell (BH hx);have f2:=E.free k;have HG:=hid H;clear hx O a7 H;go_wp2;have H:=HG.out
     go_roundg (s.size-(k+1))
     case measure=>omega
     case rel=>
      refine⟨k+1,by omega,rfl,by go_num,rfl,?_,Y.setCell (by have:=G.size;simp;omega) _,a3.setCell (by simp) _⟩;have:=E.set k (.int .u8 ((s[kJ s.data.toList (k+1) n].toNat:Nat):Int));rw[OR] at this;have e:=aDd s.size (0:UInt8) s[kJ s.data.toList (k+1) n] (kY s.data.toList n k) (by rw[sV];exact a5);rw[sV,<-LP s _ T,<-QV] at e;rw[<-LP s _ T,e] at this;rw[<-LP s _ T];exact this
    ·have U:k=s.size:=by omega
     rw[U,OS _ _ _ (by rw[sV];exact aA _)] at E;have b3:=lQ (E.rdB (n:=s.size) (by rw[sV]) (by simp only[maxLen];omega));clear U H;go_wp2
     go_ret2
     exact⟨uZ (by rw[z.out.1];rfl) (by rw[z.out.2];rfl),Y⟩
  ·go_enter Tryz.func209,Tryz.ntmps209;go_wp2_with fail;refine(WX s _ hs).mono ?_;rintro e A ⟨v,rfl,M,G⟩;obtain⟨va,vc,rfl,a0,a1,O⟩:=M.rd.open;rw[LO,F.out] at O a0 ⊢;simp only[maxLen] at a1;clear M;go_wp2_with (at_make;refine mkA vQ rfl _ _ rfl s.size rfl rfl ?_ ?_;omega)
   go_loopg [8,27] s.size (fun g a2 i wr=>∃k:Nat,k<=s.size/\g=s.size-k/\i=.int .i64 k/\a2=.int .i64 ((kJ s.data.toList k n:Nat):Int)/\Arr wr A.heap.size 5 (eO (nA s.size 0 (kY s.data.toList n k)))/\Below w.heap.size w wr/\Below A.heap.size A wr)
   case atStart=>
    refine⟨0,aU _,rfl,rfl,rfl,?_,G.alloc (by have:=G.size;omega) _,(aB _ _).alloc (aA _) _⟩;have:=Arr.made A 5 (.int .u8 0) s.size;rwa[show bB s.size (bO .u8 0)=eO (nA s.size 0 (kY s.data.toList n 0)) from by simp[eO,nA,kY]] at this
   case round=>
    obtain⟨k,hk,H,rfl,rfl,E,Y,a3⟩:=hrel;have U:k=s.size:=by omega
    rw[U,OS _ _ _ (by rw[sV];exact aA _)] at E;have b3:=lQ (E.rdB (n:=s.size) (by rw[sV]) (by simp only[maxLen];omega));clear U H;go_wp2
    go_ret2
    exact⟨uZ (by rw[z.out.1];rfl) (by rw[z.out.2];rfl),Y⟩
theorem aMc (s:ByteArray) (o:Int) (w:World) (hs:s.size<=1000000000) (a3: -9223372036854775808<=o) (a4:o<=9223372036854775807):
  Calls Tryz.prog 125 #[.string s,.int .i64 o] w fun e w'=>
   e=.returned (.tuple #[.string (mkS (lE s.data.toList o)),.int .i64 (nW s.data.toList o)])/\Below w.heap.size w w':=by
 have E:s.data.toList.length=s.size:=by simp
 have F:=hid E
 by_cases G:mJ s.data.toList o=true
 case neg=>
  have d:mJ s.data.toList o=false:=by simpa using G
  have H:lE s.data.toList o=[]/\nW s.data.toList o=1:=by simp[lE,nW,d]
  have z:=hid H;unfold mJ at d;rw[E] at d;clear H G E
  by_cases L:o<0
  ·clear d;have M:decide (o<0)=true:=by simpa using L
   go_enter Tryz.func125,Tryz.ntmps125;go_wp2
   go_ret2
   exact⟨uZ (by rw[z.out.1];rfl) (by rw[z.out.2];rfl),aB _ _⟩
  ·have I:(max (s.size:Int) 1)<=o:=by simp at d;omega
   have M:decide (o<0)=false:=by simpa using L
   have b0:decide (0<o)=true:=by simp;omega
   have b2:decide ((s.size:Int)<=o)=true:=by simp;omega
   clear d;go_enter Tryz.func125,Tryz.ntmps125;go_wp2
   go_ret2
   exact⟨uZ (by rw[z.out.1];rfl) (by rw[z.out.2];rfl),aB _ _⟩
 case pos=>
  have d:=G;unfold mJ at d;rw[E] at d;have I:0<=o/\o<max (s.size:Int) 1:=by simpa using d
  obtain⟨n,rfl⟩:=NS I.1;have H:lE s.data.toList n=kY s.data.toList n s.size/\nW s.data.toList n=0:=by
   simp[lE,nW,G,QT]
  have z:=hid H;have a5:n<s.size\/(s.size=0/\n=0):=by omega
  clear H G E d I a3 a4;have M:decide ((n:Int)<0)=false:=by simp
  have HN:=hid (show 0<s.size->n<s.size from fun h=>by omega);have A:(decide (0<n)=true/\decide (s.size<=n)=false)\/decide (0<n)=false:=by
   rcases fJ n with h|h
   ·right;simp;omega
   ·left;simp;omega
  clear a5;rcases A with⟨hg1,b3⟩|hg1
  all_goals
   go_enter Tryz.func125,Tryz.ntmps125;go_wp2_with fail;refine(aMa s _ hs).mono ?_;rintro e O ⟨v,rfl,T,hB⟩;obtain⟨va,vc,rfl,a6,a7,J⟩:=T.rd.open;rw[LO,F.out] at J a6 ⊢;simp only[maxLen] at a7;clear T;go_wp2
   go_loopg [7,8,9] s.size (fun g out a8 i wr=>∃k:Nat,k<=s.size/\g=s.size-k/\i=.int .i64 k/\a8=.int .i64 ((kJ s.data.toList k n:Nat):Int)/\out=.string (mkS (kY s.data.toList n k))/\Below w.heap.size w wr/\Below O.heap.size O wr)
   case atStart=>
    exact⟨0,aU _,rfl,rfl,rfl,rfl,hB,aB _ _⟩
   case round=>
    obtain⟨k,hk,A,rfl,rfl,rfl,U,V⟩:=hrel
    by_cases b4:k<s.size
    ·have Y:=HN.out (by omega);have Z:=sU s.data.toList n (by rw[F.out];exact Y) k;have a0:=sU s.data.toList n (by rw[F.out];exact Y) (k+1);rw[F.out] at Z a0;obtain⟨b1,o1,rfl,a9,a1⟩:=J (by omega);have c1:wr.cell? ⟨b1,o1+kJ s.data.toList k n,none⟩=some (.int .i64 ((kJ s.data.toList (k+1) n:Nat):Int)):=by
      rw[V.cell (p:=⟨b1,o1+kJ s.data.toList k n,none⟩) a9];exact a1 _ _ (WY _ _ (by rw[F.out];exact Z))
     have HG:=hid A;have b5:(kY s.data.toList n k).length<=1000000000:=by rw[sV];omega
     clear J a1 A;go_wp2;have A:=HG.out
     go_roundg (s.size-(k+1))
     case measure=>omega
     case rel=>exact⟨k+1,by omega,rfl,by go_num,rfl,congrArg Value.string (by rw[BI s _ a0,pM,<-QV]),U,V⟩
    ·have a2:k=s.size:=by omega
     have HK:=hid a2;clear a2 A;go_wp2
     go_ret2
     exact⟨uZ (by rw[z.out.1,<-HK.out];rfl) (by rw[z.out.2];rfl),U⟩
end Go.Proofs.YtiifmcicleljjaaGreatDoor
