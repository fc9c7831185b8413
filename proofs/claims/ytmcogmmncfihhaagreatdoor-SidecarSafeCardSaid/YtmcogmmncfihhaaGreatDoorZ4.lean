/-
  Texts put together (part 4): the walks and the plain laws on which the statement stands.
-/
import Derived.Test.YtmcogmmncfihhaaGreatDoorZ3
set_option maxRecDepth 100000
set_option maxHeartbeats 12800000
set_option linter.unusedVariables false
set_option linter.unusedSimpArgs false
open Bool renaming false_ne_true->aB2
open Classical renaming byContradiction->aCc
open Go renaming run_underlying->sI
open Go.Instr renaming index->tV
open Go.IntKind renaming bits->FQ,signed->FP,u8->pX
open Go.RowKit.Below renaming refl->aB
open Go.Value renaming int->bO
open Go.Value.slice renaming injEq->aCd
open Int renaming tmod_eq_emod_of_nonneg->oJ
open List renaming append_nil->eE,countP_append->NN,countP_le_length->xR,eq_nil_of_length_eq_zero->vK,ext_getElem?->jA,getD->fF,getElem?_append->aCa,getElem?_eq_getElem->aN,getElem?_eq_none->dL,getElem?_eq_some_iff->eU,getElem?_map->dY,getElem?_set_ne->qU,length_append->aL,length_map->bJ,mem_map->dU,mem_of_getElem?->cH,range->dG,range_succ->sF,replicate->bB,take_add_one->cQ,take_length->kE,take_of_length_le->cS
open Nat renaming add_assoc->dZ,eq_zero_or_pos->fJ,le_refl->aA,lt_or_ge->bT,lt_trichotomy->pW,mod_add_div->NU,zero_le->aU
open Option.some renaming inj->bW,injEq->iP
open UInt8 renaming ofNat->eK
namespace Go.Proofs.YtmcogmmncfihhaaGreatDoor
section
def ltc (s:List UInt8) (c:Nat):Nat:=s.countP (fun b=>decide (b.toNat<c))
def eqc (s:List UInt8) (c:Nat):Nat:=s.countP (fun b=>b.toNat==c)
theorem CG (s:List UInt8) (c:Nat):ltc s (c+1)=ltc s c+eqc s c:=by
 unfold ltc eqc
 induction s with
 |nil=>rfl
 |cons b l ih=>
  simp only[List.countP_cons,ih]
  by_cases h1:b.toNat<c
  ·have:b.toNat<c+1:=by omega
   have:b.toNat≠c:=by omega
   simp[*];omega
  ·by_cases h2:b.toNat=c
   ·simp[h2];omega
   ·have:¬b.toNat<c+1:=by omega
    simp[*]
theorem QL (s:List UInt8):ltc s 0=0:=by simp[ltc]
theorem QM (s:List UInt8):ltc s 256=s.length:=by
 unfold ltc;rw[List.countP_eq_length];intro b _;simp;exact b.toNat_lt
theorem QN (s:List UInt8) (c d:Nat) (h:c<=d):ltc s c<=ltc s d:=by
 induction d with
 |zero=>
   have:c=0:=by omega
   subst this;exact aA _
 |succ d ih=>
  rcases bT d c with h'|h'
  ·have:c=d+1:=by omega
   subst this;exact aA _
  ·rw[CG];have:=ih h';omega
theorem CH (s:List UInt8) (k c:Nat) (b:UInt8) (h:s[k]? =some b):eqc (s.take (k+1)) c=eqc (s.take k) c+if b.toNat=c then 1 else 0:=by
 unfold eqc;rw[cQ,h,NN]
 by_cases hb:b.toNat=c<;>simp[hb]
theorem JD (s:List UInt8) (k c:Nat):eqc (s.take k) c<=eqc s c:=by
 unfold eqc;have h:=congrArg (List.countP (fun b=>b.toNat==c)) (List.take_append_drop k s);rw[NN] at h;omega
def mG (s:List UInt8) (c n:Nat):List Nat:=(dG n).filter (fun i=>(s.getD i 0).toNat==c)
theorem CI (s:List UInt8) (c n:Nat) (b:UInt8) (h:s[n]? =some b):mG s c (n+1)=mG s c n++if b.toNat=c then[n] else[]:=by
 unfold mG;rw[sF,List.filter_append];have:s.getD n 0=b:=by simp[h]
 by_cases hb:b.toNat=c<;>simp[h,hb]
theorem JE (s:List UInt8) (c:Nat):∀n,n<=s.length->(mG s c n).length=eqc (s.take n) c
 |0,_=>by simp[mG,eqc]
 |n+1,h=>by
  obtain⟨b,hb⟩:∃b,s[n]? =some b:=⟨_,aN (by omega)⟩;rw[CI s c n b hb,CH s n c b hb,aL,JE s c n (by omega)]
  by_cases h:b.toNat=c<;>simp[h]
theorem JF (s:List UInt8) (c:Nat):∀n,n<=s.length->∀i j,(mG s c n)[i]? =some j↔(j<n/\(∃b,s[j]? =some b/\b.toNat=c)/\i=eqc (s.take j) c)
 |0,_,i,j=>by simp[mG]
 |n+1,h,i,j=>by
  obtain⟨b,hb⟩:∃b,s[n]? =some b:=⟨_,aN (by omega)⟩;have hl:=JE s c n (by omega);have ih:=JF s c n (by omega) i j;rw[CI s c n b hb,aCa];split
  ·rename_i hi
   rw[ih];constructor
   ·rintro⟨h1,h2,h3⟩;exact⟨by omega,h2,h3⟩
   ·rintro⟨h1,h2,h3⟩;refine⟨?_,h2,h3⟩;rcases bT j n with h'|h'
    ·exact h'
    ·have:j=n:=by omega
     subst this;omega
  ·rename_i hi
   have hn:∀j',j'<n->i=eqc (s.take j') c->(∃b,s[j']? =some b/\b.toNat=c)->False:=by
    intro j' hj' he hb';have:=(JF s c n (by omega) i j').2 ⟨hj',hb',he⟩;rw[dL (by omega)] at this
    cases this
   by_cases hc:b.toNat=c
   ·rw[if_pos hc];constructor
    ·intro h';have hi0:i-(mG s c n).length=0:=by
      rcases fJ (i-(mG s c n).length) with h0|h0
      ·exact h0
      ·rw[dL (by simp;omega)] at h';cases h'
     rw[hi0] at h';have:n=j:=by simpa using h'
     subst this;exact⟨by omega,⟨b,hb,hc⟩,by omega⟩
    ·rintro⟨h1,h2,h3⟩;rcases bT j n with h'|h'
     ·exact(hn j h' h3 h2).elim
     ·have:j=n:=by omega
      subst this;rw[show i-(mG s c j).length=0 by omega];rfl
   ·rw[if_neg hc];constructor
    ·intro h';simp at h'
    ·rintro⟨h1,⟨b',h2,h4⟩,h3⟩;rcases bT j n with h'|h'
     ·exact(hn j h' h3 ⟨b',h2,h4⟩).elim
     ·have:j=n:=by omega
      subst this;rw[hb] at h2;cases h2;exact absurd h4 hc
def nV (s:List UInt8):Nat->List Nat
 |0=>[]
 |m+1=>nV s m++mG s m s.length
def vec (s:List UInt8):List Nat:=nV s 256
theorem CJ (s:List UInt8):∀m,(nV s m).length=ltc s m
 |0=>by simp[nV,QL]
 |m+1=>by
  rw[nV,aL,CJ s m,JE s m _ (aA _),kE,CG]
theorem uJ (s:List UInt8):(vec s).length=s.length:=by rw[vec,CJ,QM]
def jI (s:List UInt8) (j:Nat):Nat:=ltc s (s.getD j 0).toNat+eqc (s.take j) (s.getD j 0).toNat
theorem JG (s:List UInt8):∀m i j,(nV s m)[i]? =some j↔(j<s.length/\(s.getD j 0).toNat<m/\i=jI s j)
 |0,i,j=>by simp[nV]
 |m+1,i,j=>by
  have hl:=CJ s m;rw[nV,aCa];split
  ·rename_i hi
   rw[JG s m i j];constructor
   ·rintro⟨h1,h2,h3⟩;exact⟨h1,by omega,h3⟩
   ·rintro⟨h1,h2,h3⟩;refine⟨h1,?_,h3⟩;rcases bT (s.getD j 0).toNat m with h'|h'
    ·exact h'
    ·have he:(s.getD j 0).toNat=m:=by omega
     unfold jI at h3;rw[he] at h3;omega
  ·rename_i hi
   rw[JF s m _ (aA _)];constructor
   ·rintro⟨h1,⟨b,h2,h3⟩,h4⟩;have hg:s.getD j 0=b:=by simp[h2]
    refine⟨h1,by rw[hg];omega,?_⟩;unfold jI;rw[hg,h3];omega
   ·rintro⟨h1,h2,h3⟩;have hge:m<=(s.getD j 0).toNat:=by
     rcases bT (s.getD j 0).toNat m with h'|h'
     ·have:=(JG s m i j).2 ⟨h1,h',h3⟩;rw[dL (by omega)] at this;cases this
     ·exact h'
    have he:(s.getD j 0).toNat=m:=by omega
    refine⟨h1,⟨s.getD j 0,by simp[aN h1],he⟩,?_⟩;unfold jI at h3;rw[he] at h3;omega
theorem uK (s:List UInt8) (i j:Nat):(vec s)[i]? =some j↔(j<s.length/\i=jI s j):=by
 rw[vec,JG];constructor
 ·rintro⟨h1,_,h3⟩;exact⟨h1,h3⟩
 ·rintro⟨h1,h3⟩;exact⟨h1,(s.getD j 0).toNat_lt,h3⟩
theorem QO (s:List UInt8) (j:Nat) (h:j<s.length):jI s j<s.length:=by
 have:=(uK s (jI s j) j).2 ⟨h,rfl⟩;have:=(eU.1 this).1;rw[uJ] at this;exact this
theorem aFi (s:List UInt8) (j k:Nat) (hj:j<s.length) (hk:k<s.length) (h:jI s j=jI s k):j=k:=by
 have h1:=(uK s (jI s j) j).2 ⟨hj,rfl⟩;have h2:=(uK s (jI s k) k).2 ⟨hk,rfl⟩;rw[h,h2] at h1;exact(bW h1).symm
def rL (s:List UInt8):List Int:=(vec s).map Int.ofNat
theorem aFj (s:List UInt8) (l:List Int) (hl:l.length=s.length) (h:∀j,j<s.length->l[jI s j]? =some (j:Int)):l=rL s:=by
 unfold rL;apply jA;intro i;rcases bT i s.length with hi|hi
 ·obtain⟨j,hj⟩:∃j,(vec s)[i]? =some j:=⟨_,aN (by rw[uJ];exact hi)⟩;obtain⟨h1,h2⟩:=(uK s i j).1 hj;rw[dY,hj,h2,h j h1];rfl
 ·rw[dL (by omega),dL (by rw[bJ,uJ];exact hi)]
def nxt (s:List UInt8) (i:Nat):Nat:=(vec s).getD i 0
theorem CK (s:List UInt8) (i:Nat) (h:i<s.length):nxt s i<s.length:=by
 obtain⟨j,hj⟩:∃j,(vec s)[i]? =some j:=⟨_,aN (by rw[uJ];exact h)⟩;have:=((uK s i j).1 hj).1;simp[nxt,fF,hj,this]
theorem CM (s:List UInt8) (i:Nat) (h:i<s.length):jI s (nxt s i)=i:=by
 obtain⟨j,hj⟩:∃j,(vec s)[i]? =some j:=⟨_,aN (by rw[uJ];exact h)⟩;have:=((uK s i j).1 hj).2;simp[nxt,fF,hj,<-this]
theorem aFk (s:List UInt8) (j:Nat) (h:j<s.length):nxt s (jI s j)=j:=by
 have:=(uK s (jI s j) j).2 ⟨h,rfl⟩;simp[nxt,fF,this]
theorem aFl (s:List UInt8) (i j:Nat) (hi:i<s.length) (hj:j<s.length) (h:nxt s i=nxt s j):i=j:=by
 rw[<-CM s i hi,<-CM s j hj,h]
def mH (s:List UInt8) (k d:Nat):Int:=if d=0 then 0 else(eqc (s.take k) (d-1):Int)
def kI (s:List UInt8) (c d:Nat):Int:=if d<=c then(ltc s d:Int) else(eqc s (d-1):Int)
def oQ (s:List UInt8) (k d:Nat):Int:=(ltc s d:Int)+(eqc (s.take k) d:Int)
theorem aFm (s:List UInt8):mH s 0=fun _=>0:=by funext d;simp[mH,eqc]
theorem aFn (s:List UInt8) (k:Nat) (b:UInt8) (h:s[k]? =some b) (d:Nat):mH s (k+1) d=if d=b.toNat+1 then mH s k (b.toNat+1)+1 else mH s k d:=by
 unfold mH
 by_cases h0:d=0
 ·subst h0;rw[if_pos rfl,if_neg (by omega),if_pos rfl]
 ·rw[if_neg h0,CH s k _ b h]
  by_cases hd:d=b.toNat+1
  ·subst hd;simp
  ·rw[if_neg hd,if_neg h0,if_neg (by omega)];simp
theorem aFo (s:List UInt8):mH s s.length=kI s 0:=by
 funext d
 unfold mH kI;rw[kE]
 by_cases h0:d=0
 ·subst h0;simp[QL]
 ·rw[if_neg h0,if_neg (by omega)]
theorem aFp (s:List UInt8) (c d:Nat):kI s (c+1) d=if d=c+1 then kI s c (c+1)+kI s c c else kI s c d:=by
 unfold kI
 by_cases hd:d=c+1
 ·subst hd;rw[if_pos rfl,if_pos (aA _),if_neg (by omega),if_pos (aA _),CG];simp;omega
 ·rw[if_neg hd]
  by_cases h:d<=c
  ·rw[if_pos h,if_pos (by omega)]
  ·rw[if_neg h,if_neg (by omega)]
theorem aFq (s:List UInt8) (d:Nat) (h:d<257):oQ s 0 d=kI s 256 d:=by
 unfold kI oQ;rw[if_pos (by omega)];simp[eqc]
theorem aFr (s:List UInt8) (k:Nat) (b:UInt8) (h:s[k]? =some b) (d:Nat):oQ s (k+1) d=if d=b.toNat then oQ s k b.toNat+1 else oQ s k d:=by
 unfold oQ;rw[CH s k _ b h]
 by_cases hd:d=b.toNat
 ·subst hd;simp;omega
 ·rw[if_neg hd,if_neg (by omega)];simp
theorem QP (s:List UInt8) (k:Nat) (b:UInt8) (h:s[k]? =some b):oQ s k b.toNat=(jI s k:Int):=by
 unfold oQ jI;have:s.getD k 0=b:=by simp[h]
 rw[this];simp
theorem QQ (s:List UInt8) (c:Nat):eqc s c<=s.length:=xR
theorem aFs (s:List UInt8) (c:Nat):ltc s c<=s.length:=xR
theorem aFt (s:List UInt8) (k d:Nat):0<=mH s k d/\mH s k d<=s.length:=by
 unfold mH;split
 ·omega
 ·have:=JD s k (d-1);have:=QQ s (d-1);omega
theorem QS (s:List UInt8) (k d:Nat):0<=kI s k d/\kI s k d<=s.length:=by
 unfold kI;split
 ·have:=aFs s d;omega
 ·have:=QQ s (d-1);omega
attribute [irreducible] vec
theorem php:∀(n:Nat) (f:Nat->Nat),(∀k,k<=n->f k<n)->∃a b,a<b/\b<=n/\f a=f b
 |0,f,h=>absurd (h 0 (aA 0)) (Nat.not_lt_zero _)
 |n+1,f,h=>by
  by_cases hc:∃k,k<=n/\f k=f (n+1)
  ·obtain⟨k,h1,h2⟩:=hc;exact⟨k,n+1,by omega,aA _,h2⟩
  ·have hne:∀k,k<=n->f k≠f (n+1):=fun k hk e=>hc ⟨k,hk,e⟩
   have hn:=h (n+1) (aA _);obtain⟨a,b,h1,h2,h3⟩:=php n (fun k=>if f (n+1)<f k then f k-1 else f k) (fun k hk=>by
    have:=h k (by omega);have:=hne k hk;split<;>omega)
   refine⟨a,b,h1,by omega,?_⟩;have ha:=hne a (by omega);have hb:=hne b h2;split at h3<;>split at h3<;>omega
def kJ (s:List UInt8):Nat->Nat->Nat
 |0,o=>o
 |k+1,o=>nxt s (kJ s k o)
theorem sU (s:List UInt8) (o:Nat) (h:o<s.length):∀k,kJ s k o<s.length
 |0=>h
 |k+1=>CK s _ (sU s o h k)
def nF (s:List UInt8) (o:Nat):List UInt8:=(dG s.length).map (fun i=>s.getD (kJ s (i+1) o) 0)
def kY (s:List UInt8) (o k:Nat):List UInt8:=(dG k).map (fun i=>s.getD (kJ s (i+1) o) 0)
theorem QT (s:List UInt8) (o:Nat):nF s o=kY s o s.length:=rfl
theorem QV (s:List UInt8) (o k:Nat):kY s o (k+1)=kY s o k++[s.getD (kJ s (k+1) o) 0]:=by simp[kY,sF]
theorem sV (s:List UInt8) (o k:Nat):(kY s o k).length=k:=by simp[kY]
theorem CN (s:List UInt8) (o:Nat):(nF s o).length=s.length:=by simp[nF]
def mJ (s:List UInt8) (o:Int):Bool:=decide (0<=o)&&decide (o<max (s.length:Int) 1)
def lE (s:List UInt8) (o:Int):List UInt8:=if mJ s o then nF s o.toNat else[]
def nW (s:List UInt8) (o:Int):Int:=if mJ s o then 0 else 1
theorem aFv (s:List UInt8) (o i:Nat) (h:i<s.length):(nF s o)[i]? =some (s.getD (kJ s (i+1) o) 0):=by simp[nF,h]
theorem aFw (s:List UInt8) (a b c:Nat) (h:a<=b):eqc (s.take a) c<=eqc (s.take b) c:=by
 have:=JD (s.take b) a c;rwa[List.take_take,Nat.min_eq_left h] at this
theorem aFx (s:List UInt8) (i:Nat) (h:i+1<s.length):
  (s.getD (nxt s i) 0).toNat<=(s.getD (nxt s (i+1)) 0).toNat/\((s.getD (nxt s i) 0).toNat=(s.getD (nxt s (i+1)) 0).toNat->nxt s i<nxt s (i+1)):=by
 have ha:=CK s i (by omega);have hb:=CK s (i+1) h;have pa:=CM s i (by omega);have pb:=CM s (i+1) h;generalize nxt s i=a at*
 generalize nxt s (i+1)=b at*
 unfold jI at pa pb;obtain⟨y,hy⟩:∃y,s[b]? =some y:=⟨_,aN hb⟩;have hgb:s.getD b 0=y:=by simp[hy]
 have h1:=CH s b y.toNat y hy;rw[if_pos rfl] at h1;have h2:=JD s (b+1) y.toNat;rw[hgb] at pb ⊢;constructor
 ·rcases bT y.toNat (s.getD a 0).toNat with hc|hc
  ·have h3:=QN s (y.toNat+1) _ hc;rw[CG] at h3;omega
  ·exact hc
 ·intro e;rw[e] at pa;rcases bT a b with h4|h4
  ·exact h4
  ·have:=aFw s b a y.toNat h4;omega
section
variable {c:Nat->Nat}
def eqm (c:Nat->Nat) (m a b:Nat):Prop:=∀t,t<m->c (a+t)=c (b+t)
def ltm (c:Nat->Nat) (m a b:Nat):Prop:=∃t,t<m/\(∀u,u<t->c (a+u)=c (b+u))/\c (a+t)<c (b+t)
theorem eqm.refl (m a:Nat):eqm c m a a:=fun _ _=>rfl
theorem eqm.symm {m a b:Nat} (h:eqm c m a b):eqm c m b a:=fun t ht=>(h t ht).symm
theorem eqm.trans {m a b d:Nat} (h:eqm c m a b) (k:eqm c m b d):eqm c m a d:=fun t ht=>(h t ht).trans (k t ht)
theorem ltm.trans {m a b d:Nat} (h:ltm c m a b) (k:ltm c m b d):ltm c m a d:=by
 obtain⟨t,t1,t2,t3⟩:=h;obtain⟨u,u1,u2,u3⟩:=k;rcases pW t u with p|p|p
 ·exact⟨t,t1,fun v hv=>(t2 v hv).trans (u2 v (by omega)),by rw[<-u2 t p];exact t3⟩
 ·subst p;exact⟨t,t1,fun v hv=>(t2 v hv).trans (u2 v hv),by omega⟩
 ·exact⟨u,u1,fun v hv=>(t2 v (by omega)).trans (u2 v hv),by rw[t2 u p];exact u3⟩
theorem ltm.not_eqm {m a b:Nat} (h:ltm c m a b):¬eqm c m a b:=fun k=>by
 obtain⟨t,t1,_,t3⟩:=h;have:=k t t1;omega
theorem ltm.irrefl {m a:Nat}:¬ltm c m a a:=fun h=>h.not_eqm (eqm.refl m a)
theorem ltm.asymm {m a b:Nat} (h:ltm c m a b):¬ltm c m b a:=fun k=>ltm.irrefl (h.trans k)
theorem ltm.eqm {m a b d:Nat} (h:ltm c m a b) (k:eqm c m b d):ltm c m a d:=by
 obtain⟨t,t1,t2,t3⟩:=h;exact⟨t,t1,fun v hv=>(t2 v hv).trans (k v (by omega)),by rw[<-k t t1];exact t3⟩
theorem eqm.ltm {m a b d:Nat} (h:eqm c m a b) (k:ltm c m b d):ltm c m a d:=by
 obtain⟨t,t1,t2,t3⟩:=k;exact⟨t,t1,fun v hv=>(h v (by omega)).trans (t2 v hv),by rw[h t t1];exact t3⟩
theorem uL (c:Nat->Nat) (a b:Nat):∀m,ltm c m a b\/eqm c m a b\/ltm c m b a:=by
 intro m
 induction m with
 |zero=>exact .inr (.inl (fun t h=>by omega))
 |succ m ih=>
  rcases ih with⟨t,t1,t2,t3⟩|h|⟨t,t1,t2,t3⟩
  ·exact .inl ⟨t,by omega,t2,t3⟩
  ·rcases pW (c (a+m)) (c (b+m)) with p|p|p
   ·exact .inl ⟨m,by omega,fun u hu=>h u hu,p⟩
   ·refine .inr (.inl (fun t ht=>?_));rcases bT t m with q|q
    ·exact h t q
    ·have:t=m:=by omega
     rw[this];exact p
   ·exact .inr (.inr ⟨m,by omega,fun u hu=>(h u hu).symm,p⟩)
  ·exact .inr (.inr ⟨t,by omega,t2,t3⟩)
theorem QW (m k a b:Nat):ltm c (m+k) a b↔ltm c m a b\/(eqm c m a b/\ltm c k (a+m) (b+m)):=by
 constructor
 ·rintro⟨t,t1,t2,t3⟩;rcases bT t m with p|p
  ·exact .inl ⟨t,p,t2,t3⟩
  ·refine .inr ⟨fun u hu=>t2 u (by omega),t-m,by omega,fun u hu=>?_,?_⟩
   ·have:=t2 (m+u) (by omega);rwa[<-dZ,<-dZ] at this
   ·rw[dZ,dZ,Nat.add_sub_cancel' p];exact t3
 ·rintro(⟨t,t1,t2,t3⟩|⟨h,t,t1,t2,t3⟩)
  ·exact⟨t,by omega,t2,t3⟩
  ·refine⟨m+t,by omega,fun u hu=>?_,by rw[<-dZ,<-dZ];exact t3⟩;rcases bT u m with p|p
   ·exact h u p
   ·have:=t2 (u-m) (by omega);rwa[dZ,dZ,Nat.add_sub_cancel' p] at this
def Cyc (c:Nat->Nat) (n:Nat):Prop:=∀i,c (i+n)=c i
theorem Cyc.mul {n:Nat} (h:Cyc c n) (i q:Nat):c (i+n*q)=c i:=by
 induction q with
 |zero=>rfl
 |succ q ih=>rw[Nat.mul_succ,<-dZ,h,ih]
theorem Cyc.mod {n:Nat} (h:Cyc c n) (i:Nat):c (i%n)=c i:=by
 have:=h.mul (i%n) (i/n);rw[NU] at this;exact this.symm
theorem Cyc.mod_add {n:Nat} (h:Cyc c n) (i t:Nat):c (i%n+t)=c (i+t):=by
 rw[<-h.mod (i%n+t),<-h.mod (i+t),Nat.mod_add_mod]
theorem Cyc.ltm {n:Nat} (h:Cyc c n) (m a b:Nat):ltm c m (a%n) (b%n)↔ltm c m a b:=by
 unfold Go.Proofs.YtmcogmmncfihhaaGreatDoor.ltm;simp only[h.mod_add]
theorem Cyc.eqm {n:Nat} (h:Cyc c n) (m a b:Nat):eqm c m (a%n) (b%n)↔eqm c m a b:=by
 unfold Go.Proofs.YtmcogmmncfihhaaGreatDoor.eqm;simp only[h.mod_add]
theorem Cyc.all {n:Nat} (h:Cyc c n) (hn:0<n) {m a b:Nat} (hm:n<=m):(Go.Proofs.YtmcogmmncfihhaaGreatDoor.eqm c m a b↔Go.Proofs.YtmcogmmncfihhaaGreatDoor.eqm c n a b)/\(Go.Proofs.YtmcogmmncfihhaaGreatDoor.ltm c m a b↔Go.Proofs.YtmcogmmncfihhaaGreatDoor.ltm c n a b):=by
 have key:Go.Proofs.YtmcogmmncfihhaaGreatDoor.eqm c n a b->Go.Proofs.YtmcogmmncfihhaaGreatDoor.eqm c m a b:=fun k t _=>by
  have e:∀x,c (x+t)=c (x+t%n):=fun x=>by
   have:=h.mul (x+t%n) (t/n);rw[dZ,NU] at this;exact this
  rw[e a,e b];exact k (t%n) (Nat.mod_lt _ hn)
 refine⟨⟨fun k t ht=>k t (by omega),key⟩,⟨fun k=>?_,fun⟨t,t1,t2,t3⟩=>⟨t,by omega,t2,t3⟩⟩⟩;rcases uL c a b n with p|p|p
 ·exact p
 ·exact absurd (key p) k.not_eqm
 ·obtain⟨t,t1,t2,t3⟩:=p;exact absurd ⟨t,by omega,t2,t3⟩ k.asymm
def bef (c:Nat->Nat) (m:Nat) (x y:Int):Prop:=ltm c m x.toNat y.toNat\/(eqm c m x.toNat y.toNat/\x<y)
theorem vW (c:Nat->Nat) (m:Nat):rI (bef c m):=by
 refine⟨?_,?_,?_⟩
 ·rintro x y z (h|⟨h,h'⟩) (k|⟨k,k'⟩)
  ·exact .inl (h.trans k)
  ·exact .inl (h.eqm k)
  ·exact .inl (h.ltm k)
  ·exact .inr ⟨h.trans k,by omega⟩
 ·intro x y hne;rcases uL c x.toNat y.toNat m with p|p|p
  ·exact .inl (.inl p)
  ·rcases Int.lt_or_gt_of_ne hne with q|q
   ·exact .inl (.inr ⟨p,q⟩)
   ·exact .inr (.inr ⟨p.symm,q⟩)
  ·exact .inr (.inl p)
 ·rintro x (h|⟨_,h⟩)
  ·exact ltm.irrefl h
  ·omega
structure Ord (c:Nat->Nat) (n m:Nat) (o:Nat->Int):Prop where
 rng:∀k,k<n->0<=o k/\o k<(n:Int)
 srt:gM (bef c m) o 0 n
theorem Ord.ne {n m:Nat} {o:Nat->Int} (h:Ord c n m o) {i j:Nat} (hi:i<n) (hj:j<n) (hij:i≠j):o i≠o j:=by
 intro e;rcases Nat.lt_or_gt_of_ne hij with p|p
 ·have:=h.srt i j (aU _) p hj;rw[e] at this;exact(vW c m).irr _ this
 ·have:=h.srt j i (aU _) p hi;rw[e] at this;exact(vW c m).irr _ this
theorem Ord.onto {n m:Nat} {o:Nat->Int} (h:Ord c n m o) {y:Nat} (hy:y<n):∃k,k<n/\o k=(y:Int):=by
 apply aCc;intro hno;obtain⟨a,b,hab,hb,e⟩:=php n (fun k=>if k<n then(o k).toNat else y) (fun k hk=>by
  show(if k<n then(o k).toNat else y)<n
  by_cases p:k<n
  ·rw[if_pos p];have:=h.rng k p;omega
  ·rw[if_neg p];exact hy)
 have e':(if a<n then(o a).toNat else y)=(if b<n then(o b).toNat else y):=e;rw[if_pos (by omega:a<n)] at e';have ra:=h.rng a (by omega)
 by_cases p:b<n
 ·rw[if_pos p] at e';have rb:=h.rng b p;exact h.ne (i:=a) (j:=b) (by omega) p (by omega) (by omega)
 ·rw[if_neg p] at e';exact hno ⟨a,by omega,by omega⟩
theorem Ord.uniq {n m:Nat} {o o':Nat->Int} (h:Ord c n m o) (h':Ord c n m o'):∀k,k<n->o k=o' k:=by
 intro k
 induction k using Nat.strongRecOn with
 |ind k ih=>
  intro hk;apply aCc;intro hne;have step:∀{o o':Nat->Int},Ord c n m o->Ord c n m o'->(∀j,j<k->o j=o' j)->o k≠o' k->bef c m (o' k) (o k):=by
   intro o o' h h' ih hne;have r:=h.rng k hk;obtain⟨j,hj,e⟩:=h'.onto (y:=(o k).toNat) (by omega);have e':o' j=o k:=by omega
   rcases pW j k with p|p|p
   ·exact absurd ((ih j p).trans e') (h.ne hj hk (by omega))
   ·subst p;exact absurd e'.symm hne
   ·rw[<-e'];exact h'.srt k j (aU _) p hj
  have s1:=step h h' (fun j hj=>ih j hj (by omega)) hne;have s2:=step h' h (fun j hj=>(ih j hj (by omega)).symm) (fun e=>hne e.symm);exact(vW c m).irr _ ((vW c m).tr _ _ _ s1 s2)
end
end
section
open Go.RowKit
theorem iI {B:Nat} {a b:World} (h:Below B a b) (n:Nat):Below B a (b.drewN n):=⟨h.os,h.tape,h.output,h.size,h.block⟩
end
section
open Go.RowKit Go.Shelf
def RC (w0:World) (g:Nat) (caps:Array Value) (p:Int->Bool) (l:List Int):Prop:=
 ∀W,Below w0.heap.size w0 W->∀x∈l,Calls Tryz.prog g (#[bO .i64 x]++caps) W fun e W'=>e=.returned (.bool (p x))/\W'=W
theorem RD (g:Nat) (caps:Array Value) (p:Int->Bool) (v:Value) (l:List Int) (w:World) (hr:RdI w v l) (hg:Enters Tryz.prog g) (hp:RC w g caps p l):
  Calls Tryz.prog 162 #[v,.func (.func g) #[] caps] w fun e w'=>e=.returned (.int .i64 (fP p l))/\w'=w:=by
 obtain⟨a,ca,rfl,hca,hma,hA⟩:=hr.open;unfold maxLen at hma;clear hr;have HP:=hid hp;have hE:∀args W,(callFunc g args).run Tryz.prog W=.ok (.enter g args) W:=hg;clear hp hg;go_enter Tryz.func162,Tryz.ntmps162;go_wp2_with fail
 go_loopg [8] l.length (fun gh s8 wr=>∃k:Nat,k<=l.length/\gh=l.length-k/\s8=.int .i64 k/\Hid (∀x∈l.take k,p x=false)/\wr=w)
 case atStart=>exact⟨0,aU _,rfl,rfl,hid (fun x hx=>by simp at hx),rfl⟩
 case round=>
  obtain⟨k,hk,hg,rfl,HT,rfl⟩:=hrel;have HG:=hid hg;clear hg
  by_cases hlt:k<l.length
  ·obtain⟨b1,o1,rfl,hb1,hc1⟩:=hA (by omega);obtain⟨x,hx⟩:=dH hlt;have c1:=hc1 k x hx;have hmem:x∈l:=cH hx;have HX:=hid hx;have hP:=HP.out _ (aB _ wr) x hmem;clear hc1 hx hA;go_wp2_with fail;refine hP.mono ?_;rintro e w1 ⟨rfl,rfl⟩
   by_cases hpx:p x=true
   ·rw[hpx];go_wp2_with fail;go_ret;refine⟨fX ?_,rfl⟩;rw[BR HT.out hlt (by have:=HX.out;rw[aN hlt] at this;rw[bW this];exact hpx)]
   ·have hpf:p x=false:=by simpa using hpx
    rw[hpf];go_wp2_with fail;have hg:=HG.out
    go_roundg (l.length-(k+1))
    case measure=>omega
    case rel=>
     refine⟨k+1,by omega,rfl,by go_num,hid (fun y hy=>?_),rfl⟩;rw[cQ,HX.out] at hy;rcases List.mem_append.1 hy with hy|hy
     ·exact HT.out y hy
     ·simp at hy;rw[hy];exact hpf
  ·go_wp2_with fail;go_ret;exact⟨fX (by rw[oN];have:=HT.out;rwa[cS (by omega)] at this),rfl⟩
theorem uN (g:Nat) (caps:Array Value) (p:Int->Bool) (v:Value) (l:List Int) (w:World) (hr:RdI w v l) (hg:Enters Tryz.prog g) (hp:RC w g caps p l):
  Calls Tryz.prog 149 #[v,.func (.func g) #[] caps] w fun e w'=>e=.returned (.bool (decide (0<=fP p l)))/\w'=w:=by
 have HI:=hid (RD g caps p v l w hr hg hp);obtain⟨i,hi⟩:∃i,i=fP p l:=⟨_,rfl⟩;rw[<-hi] at HI ⊢;clear hr hg hp hi;go_enter Tryz.func149,Tryz.ntmps149;go_wp2_with fail;refine HI.out.mono ?_;rintro e w1 ⟨rfl,rfl⟩;go_wp2_with fail;go_ret;exact⟨rfl,rfl⟩
theorem aF6 (x:Int) (w:World):Calls Tryz.prog 173 #[.int .i64 x] w fun e w'=>e=.returned (.bool (decide (x<0)))/\w'=w:=by
 go_enter Tryz.func173,Tryz.ntmps173;go_wp2;go_ret;exact⟨rfl,rfl⟩
theorem aF8 (x t:Int) (b:Addr) (w:World) (hc:w.cell? b=some (.int .i64 t)):Calls Tryz.prog 174 #[.int .i64 x,.pointer (some b)] w fun e w'=>e=.returned (.bool (decide (t<x)))/\w'=w:=by
 go_enter Tryz.func174,Tryz.ntmps174;go_wp2;go_ret;exact⟨rfl,rfl⟩
theorem aF9 (x:Int) (w:World):Calls Tryz.prog 175 #[.int .i64 x] w fun e w'=>e=.returned (.bool (!(x==0)&& !(x==1)))/\w'=w:=by
 by_cases h0:x=0
 ·subst h0;go_enter Tryz.func175,Tryz.ntmps175;go_wp2;go_ret;exact⟨rfl,rfl⟩
 ·have t0:(x != 0)=true:=by rw[bne_iff_ne];exact h0
  by_cases h1:x=1
  ·subst h1;go_enter Tryz.func175,Tryz.ntmps175;go_wp2;go_ret;exact⟨rfl,rfl⟩
  ·have t1:(x != 1)=true:=by rw[bne_iff_ne];exact h1
   go_enter Tryz.func175,Tryz.ntmps175;go_wp2;go_ret;exact⟨sN (by simp[h0,h1]),rfl⟩
theorem JI (v:Value) (l:List Int) (w:World) (hr:RdI w v l):
  Calls Tryz.prog 163 #[v] w fun e w'=>e=.returned (.bool (decide (0<=fP (fun x=>decide (x<0)) l)))/\w'=w:=by
 have HI:=hid (uN 173 #[] (fun x=>decide (x<0)) v l w hr (enters_of Tryz.func173 (by kernel_rfl) rfl) (fun W _ x _=>aF6 x W));obtain⟨i,hi⟩:∃i,i=decide (0<=fP (fun x=>decide (x<0)) l):=⟨_,rfl⟩;rw[<-hi] at HI ⊢;clear hi hr;go_enter Tryz.func163,Tryz.ntmps163;go_wp2_with fail;refine HI.out.mono ?_;rintro e w1 ⟨rfl,rfl⟩;go_wp2_with fail;go_ret;exact⟨rfl,rfl⟩
def eY (t:Int) (l:List Int):Nat:=l.findIdx (fun x=>decide (t<x))
theorem aGa (t:Int):∀l:List Int,(if fP (fun x=>decide (t<x)) l<0 then(l.length:Int) else fP (fun x=>decide (t<x)) l)=(eY t l:Int):=by
 intro l
 induction l with
 |nil=>rfl
 |cons x l ih=>
  unfold eY at ih ⊢;rw[fP,List.findIdx_cons]
  by_cases hx:t<x
  ·simp[hx]
  ·simp only[hx,decide_false,Bool.false_eq_true,if_false,cond_false];obtain⟨h1,_,_⟩:=BQ (fun x=>decide (t<x)) l
   by_cases h:fP (fun x=>decide (t<x)) l<0
   ·rw[if_pos h] at ih;rw[if_pos h,if_pos (by omega),List.length_cons];omega
   ·rw[if_neg h] at ih;rw[if_neg h,if_neg (by omega),ih];omega
theorem vX (t:Int) (l:List Int):eY t l<=l.length:=List.findIdx_le_length
theorem yM (t:Int) (l:List Int):∀x∈l.take (eY t l),¬t<x:=by
 intro x hx;obtain⟨i,hi,rfl⟩:=List.mem_iff_getElem.1 hx;rw[List.length_take] at hi;rw[List.getElem_take];have:=List.not_of_lt_findIdx (p:=fun x=>decide (t<x)) (xs:=l) (i:=i) (by unfold eY at hi;omega)
 simpa using this
theorem vY (t:Int) (l:List Int) {x:Int} (h:l[eY t l]? =some x):t<x:=by
 obtain⟨hl,hx⟩:=eU.1 h;have:=List.findIdx_getElem (p:=fun x=>decide (t<x)) (w:=hl);have h2:decide (t<l[eY t l])=true:=this;rw[hx] at h2
 simpa using h2
theorem RF (v:Value) (l:List Int) (t:Int) (w:World) (hr:RdI w v l):
  Calls Tryz.prog 165 #[v,.int .i64 t] w fun e w'=>e=.returned (.int .i64 ((eY t l:Nat):Int))/\Below w.heap.size w w':=by
 have hli:=aGa t l;have HI:=hid (RD 174 #[.pointer (some ⟨w.heap.size,0,none⟩)] (fun x=>decide (t<x)) v l (w.alloc (.cells #[.int .i64 t] 3)) (hr.below ((aB _ _).alloc (aA _) _)) (enters_of Tryz.func174 (by kernel_rfl) rfl)
  (fun W hW x _=>aF8 x t ⟨w.heap.size,0,none⟩ W (by rw[hW.cell (p:=⟨w.heap.size,0,none⟩) (by simp)];exact bS _ _ _)))
 obtain⟨a,ca,rfl,hca,hma,hA⟩:=hr.open;obtain⟨i,hi⟩:∃i,i=fP (fun x=>decide (t<x)) l:=⟨_,rfl⟩;rw[<-hi] at HI hli;have HL:=hid hli;clear hi hA hr hli;unfold maxLen at hma;go_enter Tryz.func165,Tryz.ntmps165;go_wp2_with fail;refine HI.out.mono ?_;rintro e w1 ⟨rfl,rfl⟩
 by_cases h:i<0
 ·go_wp2_with fail;go_ret;refine⟨fX ?_,(aB _ _).alloc (aA _) _⟩;have:=HL.out;rwa[if_pos h] at this
 ·go_wp2_with fail;go_ret;refine⟨fX ?_,(aB _ _).alloc (aA _) _⟩;have:=HL.out;rwa[if_neg (by omega)] at this
end
section
open Go.RowKit
theorem yZ {ops:Array Oper} {rest:List Oper} {o:Oper} {a:Act} {Q:Exit->Act->World->Prop} {w:World} (hgd:o.guard=none) (s x:Operand)
  (ho:o.op=.call {callee:=.builtin .append,args:=#[s,x],argTypes:=#[47,47]}) (base:Nat) (v:Value) (l:List UInt8) (hs:a.eval s=v) (hown:OwB w base v l)
  (g:Nat) (b:UInt8) (hx:a.eval x=.slice (some ⟨g,0,none⟩) 1 1) (hc:w.cell? ⟨g,0,none⟩=some (.int .u8 (b.toNat:Int))) (hroom:(l.length+1)*1<=140737488355328) (hbase:base<=w.heap.size)
  (h:∀v' w',OwB w' base v' (l++[b])->Below base w w'->w.grownBy w' v.ownBlock->wpList Tryz.prog ops Q rest (a.put o.dst v') w'):wpList Tryz.prog ops Q (o::rest) a w:=
 rD vQ hgd s x ho base v _ hs hown g _ hx hc rfl (by simpa using hroom) hbase (fun v' w' q1 q2 q3=>h v' w' (by unfold OwB;rw[IC];exact q1) q2 q3)
def oT (s:List UInt8) (k c:Nat):Bool:=dB (s.take k) c
theorem UP (s:List UInt8) (k:Nat) (b:UInt8) (h:s[k]? =some b) (c:Nat):oT s (k+1) c=if c=b.toNat then true else oT s k c:=by
 unfold oT dB;rw[cQ,h,Option.toList_some,List.any_append]
 by_cases e:c=b.toNat
 ·rw[if_pos e,e];simp
 ·rw[if_neg e];have:(b.toNat==c)=false:=by rw[beq_eq_false_iff_ne];exact fun h=>e h.symm
  simp[this]
def eS (f:Nat->Bool):List Value:=(dG 256).map fun c=>.bool (f c)
theorem zA (f:Nat->Bool) (c:Nat) (h:c<256):(eS f)[c]? =some (.bool (f c)):=by simp[eS,h]
theorem aJe (f f':Nat->Bool) (c:Nat) (v:Bool) (h:∀d,f' d=if d=c then v else f d):(eS f).set c (.bool v)=eS f':=by
 apply jA;intro j
 by_cases hj:j<256
 ·by_cases e:c=j
  ·subst e;simp[eS,hj,h]
  ·rw[qU e,zA f j hj,zA f' j hj,h,if_neg (fun h=>e h.symm)]
 ·rw[dL (by simp[eS];omega),dL (by simp[eS];omega)]
theorem UQ:Tryz.zeroCells265=(eS (fun _=>false)).toArray:=by kernel_rfl
theorem KX (f:Nat->Bool):(eS f).toArray.size=256:=by simp[eS]
theorem wN (f:Nat->Bool):(Tryz.prog.info? 265).map (·.size)=some (eS f).toArray.size:=by rw[KX];kernel_rfl
theorem uW:Tryz.prog.underlying 265=some (.array 256 4):=by kernel_rfl
theorem UR {w:World} {b:Nat} {e:TypeId} {l:List Value} (h:Arr w b e l) (hl:l.length=256) (f:Nat->Bool):
  (storeCells ⟨b,0,none⟩ (eS f)).run Tryz.prog w=.ok () (w.setRow b (eS f).toArray):=by
 have h1:(eS f).length=256:=by simp[eS]
 have h2:=run_storeCells_from (P:=Tryz.prog) b e (eS f) 0 l.toArray w h (by simp[hl,h1]) (fun v hv=>by obtain⟨c,_,rfl⟩:=dU.1 hv;rfl);rw[h2]
 congr 2
theorem zB {B:Nat} {w w':World} (h:Below B w w') (g:Nat) (hg:B<=g) (cs:Array Value):Below B w (w'.setRow g cs):=
 ⟨h.os,h.tape,h.output,by rw[size_setRow];exact h.size,fun k hk=>(setRow_other w' g k cs (by omega)).trans (h.block k hk)⟩
theorem US (s:ByteArray) (w:World) (hs:s.size<=140737488355328):
  Calls Tryz.prog 161 #[.string s] w fun e w'=>e=.returned (.agg (eS (dB s.data.toList)).toArray)/\Below w.heap.size w w':=by
 have HL:=hid (show s.data.toList.length=s.size by simp);go_enter Tryz.func161,Tryz.ntmps161;go_wp2_with fail
 go_loopg [3,6] s.size (fun gh _s3 s6 wr=>∃k:Nat,k<=s.size/\gh=s.size-k/\s6=.int .i64 k/\Arr wr w.heap.size 265 (eS (oT s.data.toList k))/\Below w.heap.size w wr)
 case atStart=>
  refine⟨0,aU _,rfl,rfl,?_,(aB _ _).alloc (aA _) _⟩;rw[UQ,show oT s.data.toList 0=fun _=>false from by funext c;simp[oT,dB]];exact Arr.new w _ _
 case round=>
 obtain⟨k,hk,hg,rfl,harr,hbel⟩:=hrel;have HG:=hid hg;clear hg
 by_cases hlt:k<s.size
 ·have hb:=s[k].toNat_lt;have c1:=harr.cell (zA (oT s.data.toList k) s[k].toNat hb);have f1:=harr.free s[k].toNat;have HS:=hid (UP s.data.toList k s[k] (eW s k hlt));go_wp2_with fail;have hg:=HG.out
  go_roundg (s.size-(k+1))
  case measure=>omega
  case rel=>
   refine⟨k+1,by omega,rfl,by go_num,?_,hbel.setCell (p:=⟨w.heap.size,s[k].toNat,none⟩) (aA _) _⟩;have:=harr.set s[k].toNat (.bool true);rwa[aJe _ (oT s.data.toList (k+1)) _ true HS.out] at this
 ·have hke:k=s.size:=by omega
  subst hke;have hfin:oT s.data.toList s.size=dB s.data.toList:=by funext c;unfold oT;rw[cS (by rw[HL.out];exact aA _)]
  rw[hfin] at harr;clear hfin;go_wp2_with fail;refine wp_load_row 265 (.tmp 2) rfl w.heap.size rfl _ _ (0,0) (.array 256 4) harr uW rfl (wN _) ?_;have hst:=UR harr (by simp[eS]) (dB s.data.toList);go_wp2_with fail;have harr2:Arr (wr.setRow w.heap.size (eS (dB s.data.toList)).toArray) w.heap.size 265 (eS (dB s.data.toList)):=setRow_heap wr w.heap.size _ _ 265 (0,0) harr;refine bodyPost_ret (results_cell_row rfl _ _ w.heap.size _ _ (0,0) (.array 256 4) rfl harr2 uW rfl (wN _)) rfl ?_;exact⟨rfl,zB hbel _ (aA _) _⟩
theorem aJf (cs:Array Value) (k:Nat) (hk:k<256) (b:Bool) (h:cs[k]? =some (.bool b)) (w:World):(tV 265 (.agg cs) (.int .i64 (k:Int))).run Tryz.prog w=.ok (.bool b) w:=by
 have hk':(k:Int)<256:=by omega
 simp[tV,sI uW,asIntOf,hk,part,isAgg,sI Tryz.underlying4,h,Result.andThen]
theorem UT {c:Nat} (h:c<256):(eK c).toNat=c:=by rw[UInt8.toNat_ofNat'];omega
theorem KY (s:ByteArray) (w:World) (hs:s.size<=140737488355328):
  Calls Tryz.prog 148 #[.string s] w fun e w'=>e=.returned (.string (mkS (bK s.data.toList)))/\Below w.heap.size w w':=by
 go_enter Tryz.func148,Tryz.ntmps148;go_wp2_with fail;refine(US s _ hs).mono ?_;rintro e w1 ⟨rfl,h1⟩;obtain⟨cs,hcs⟩:∃cs,cs=(eS (dB s.data.toList)).toArray:=⟨_,rfl⟩;rw[<-hcs];have hsz:cs.size=256:=by rw[hcs];exact KX _
 have hget:∀c,c<256->cs[c]? =some (.bool (dB s.data.toList c)):=fun c hc=>by rw[hcs];simpa using zA (dB s.data.toList) c hc
 have HGET:=hid hget;clear hcs hget;go_wp2_with fail
 go_loopg [3,4,5,8] 256 (fun gh s3 _s4 _s5 s8 wr=>∃k:Nat,k<=256/\gh=256-k/\s8=.int .i64 k/\OwB wr w1.heap.size s3 (jH s.data.toList k)/\Below w1.heap.size w1 wr)
 case atStart=>exact⟨0,by omega,rfl,rfl,Ow.nil _ _ _,aB _ _⟩
 case round=>
 obtain⟨k,hk,hg,rfl,hown,hbel⟩:=hrel;have HG:=hid hg;clear hg
 by_cases hlt:k<256
 ·have t1:decide ((k:Int)<256)=true:=decide_eq_true (by omega);have t2:(k:Int)<256:=by omega
  have g1:=HGET.out k hlt;have ix:(tV 265 (.agg cs) (.int .i64 (k:Int))).run Tryz.prog wr=.ok (.bool (dB s.data.toList k)) wr:=aJf cs k hlt _ g1 wr;have g2:pX.wrap (k:Int)=(k:Int):=by unfold IntKind.wrap;simp[FP,FQ];omega
  have hlen:=PI s.data.toList k;have hbs:=hbel.size;have hsucc:=hid (IK s.data.toList k);have e1:((eK k).toNat:Int)=(k:Int):=by rw[UT hlt]
  by_cases hh:dB s.data.toList k=true
  ·rw[hh] at ix;have HH:=hid hh;clear hh;go_wp2_with (at_builtin;refine yZ rfl _ _ rfl w1.heap.size _ _ rfl (hown.alloc _) wr.heap.size (eK k) rfl ?_ ?_ ?_ ?_;(rw[e1];exact bS _ _ _);omega;(simp;omega);intro v' w3 hown' hB hgrow);have hg:=HG.out
   go_roundg (256-(k+1))
   case measure=>omega
   case rel=>
    refine⟨k+1,by omega,rfl,by go_num,?_,(hbel.alloc hbs _).trans hB⟩;have:=hsucc.out;rw[if_pos HH.out] at this;rw[this];exact hown'
  ·have hf:dB s.data.toList k=false:=by simpa using hh
   rw[hf] at ix;have HH:=hid hf;clear hh hf;go_wp2_with fail;have hg:=HG.out
   go_roundg (256-(k+1))
   case measure=>omega
   case rel=>
    refine⟨k+1,by omega,rfl,by go_num,?_,hbel⟩;have:=hsucc.out;rw[if_neg (by rw[HH.out];exact aB2),eE] at this;rw[this];exact hown
 ·have hke:k=256:=by omega
  subst hke;have hcv:=lQ hown.rd;have HE:=hid (show jH s.data.toList 256=bK s.data.toList from rfl);go_wp2_with fail;go_ret;exact⟨tY (by rw[HE.out]),bV h1 hbel⟩
theorem UU (s:ByteArray) (c:Nat) (w:World) (hs:s.size<=140737488355328) (_hc:c<256):
  Calls Tryz.prog 81 #[.string s,.int .i64 (c:Int)] w fun e w'=>e=.returned (.bool (dB s.data.toList c))/\w'=w:=by
 have HL:=hid (show s.data.toList.length=s.size by simp);go_enter Tryz.func81,Tryz.ntmps81;go_wp2_with fail
 go_loopg [5] s.size (fun gh s5 wr=>∃k:Nat,k<=s.size/\gh=s.size-k/\s5=.int .i64 k/\Hid (oT s.data.toList k c=false)/\w=wr)
 case atStart=>exact⟨0,aU _,rfl,rfl,hid rfl,rfl⟩
 case round=>
 obtain⟨k,hk,hg,rfl,HN,rfl⟩:=hrel;have HG:=hid hg;clear hg
 by_cases hlt:k<s.size
 ·have hb:=s[k].toNat_lt;have HS:=hid (UP s.data.toList k s[k] (eW s k hlt) c)
  by_cases he:s[k].toNat=c
  ·have t1:((s[k].toNat:Int)==(c:Int))=true:=by rw[beq_iff_eq];omega
   have HE:=hid he;clear he;go_wp2_with fail;go_ret;refine⟨sN ?_,rfl⟩;have hm:s[k]∈s.data.toList:=cH (eW s k hlt);rw[<-HE.out];exact((IJ s.data.toList s[k]).2 hm).symm
  ·have t1:((s[k].toNat:Int)==(c:Int))=false:=by rw[beq_eq_false_iff_ne];omega
   have HE:=hid he;clear he;go_wp2_with fail;have hg:=HG.out
   go_roundg (s.size-(k+1))
   case measure=>omega
   case rel=>
    refine⟨k+1,by omega,rfl,by go_num,hid ?_,rfl⟩;rw[HS.out,if_neg (fun e=>HE.out e.symm)];exact HN.out
 ·have hke:k=s.size:=by omega
  go_wp2_with fail;go_ret;refine⟨sN ?_,rfl⟩;have:=HN.out;unfold oT at this;rw[cS (by rw[HL.out];omega)] at this;exact this.symm
theorem KZ (s:ByteArray) (w:World) (hs:s.size<=140737488355328):
  Calls Tryz.prog 67 #[.string s] w fun e w'=>e=.returned (.string (mkS (bK s.data.toList)))/\Below w.heap.size w w':=by
 go_enter Tryz.func67,Tryz.ntmps67;go_wp2_with fail
 go_loopg [3,4] 256 (fun gh s3 s4 wr=>∃k:Nat,k<=256/\gh=256-k/\s4=.int .i64 k/\OwB wr w.heap.size s3 (jH s.data.toList k)/\Below w.heap.size w wr)
 case atStart=>exact⟨0,by omega,rfl,rfl,Ow.nil _ _ _,aB _ _⟩
 case round=>
 obtain⟨k,hk,hg,rfl,hown,hbel⟩:=hrel;have HG:=hid hg;clear hg
 by_cases hlt:k<256
 ·have t1:decide ((k:Int)<256)=true:=decide_eq_true (by omega);have t2:(k:Int)<256:=by omega
  have g2:pX.wrap (k:Int)=(k:Int):=by unfold IntKind.wrap;simp[FP,FQ];omega
  have hlen:=PI s.data.toList k;have hbs:=hbel.size;have hsucc:=hid (IK s.data.toList k);have e1:((eK k).toNat:Int)=(k:Int):=by rw[UT hlt]
  go_wp2_with fail;refine(UU s k _ hs hlt).mono ?_;rintro e w1 ⟨rfl,rfl⟩
  by_cases hh:dB s.data.toList k=true
  ·rw[hh];have HH:=hid hh;clear hh;go_wp2_with (at_builtin;refine yZ rfl _ _ rfl w.heap.size _ _ rfl (hown.alloc _) w1.heap.size (eK k) rfl ?_ ?_ ?_ ?_;(rw[e1];exact bS _ _ _);omega;(simp;omega);intro v' w3 hown' hB hgrow);have hg:=HG.out
   go_roundg (256-(k+1))
   case measure=>omega
   case rel=>
    refine⟨k+1,by omega,rfl,by go_num,?_,(hbel.alloc hbs _).trans hB⟩;have:=hsucc.out;rw[if_pos HH.out] at this;rw[this];exact hown'
  ·have hf:dB s.data.toList k=false:=by simpa using hh
   rw[hf];have HH:=hid hf;clear hh hf;go_wp2_with fail;have hg:=HG.out
   go_roundg (256-(k+1))
   case measure=>omega
   case rel=>
    refine⟨k+1,by omega,rfl,by go_num,?_,hbel⟩;have:=hsucc.out;rw[if_neg (by rw[HH.out];exact aB2),eE] at this;rw[this];exact hown
 ·have hke:k=256:=by omega
  subst hke;have hcv:=lQ hown.rd;have HE:=hid (show jH s.data.toList 256=bK s.data.toList from rfl);go_wp2_with fail;go_ret;exact⟨tY (by rw[HE.out]),hbel⟩
def pQ (w:World) (v:Value) (m:List Int):Prop:=
 (v=.slice none 0 0/\m=[])\/∃b off cap,v=.slice (some ⟨b,off,none⟩) m.length cap/\b<w.heap.size/\∀j x,m[j]? =some x->w.cell? ⟨b,off+j,none⟩=some (.int .i64 x)
theorem pQ.below {w w':World} {v:Value} {m:List Int} (h:pQ w v m) (hb:Below w.heap.size w w'):pQ w' v m:=by
 rcases h with h|⟨b,off,cap,rfl,hl,hc⟩
 ·exact .inl h
 ·exact .inr ⟨b,off,cap,rfl,Nat.lt_of_lt_of_le hl hb.size,fun j x hx=>by rw[hb.cell (p:=⟨b,off+j,none⟩) hl];exact hc j x hx⟩
theorem OwI.src {w:World} {B:Nat} {v:Value} {l:List Int} (h:OwI w B v l):pQ w v l:=by
 have h2:=h.rd.open;obtain⟨a,cap,rfl,_,_,hA⟩:=h2;rcases h.2 with⟨e,e2⟩|⟨g,cap',cur,e,_⟩
 ·have:l=[]:=vK (by simpa using e2);subst this;exact .inl ⟨e,rfl⟩
 ·rw[aCd] at e;obtain⟨rfl,_,rfl⟩:=e;rcases fJ l.length with h0|h0
  ·have:l=[]:=vK h0;subst this;exact .inr ⟨g,0,cap,rfl,(h.lt g rfl).2,fun j x hx=>by simp at hx⟩
  ·obtain⟨b,off,e3,hb,hc⟩:=hA h0;rw[iP] at e3;rw[e3];exact .inr ⟨b,off,cap,rfl,hb,hc⟩
theorem RG (w:World) (t:TypeId) (x:Int):pQ (w.alloc (.cells #[.int .i64 x] t)) (.slice (some ⟨w.heap.size,0,none⟩) 1 1) [x]:=
 .inr ⟨w.heap.size,0,1,rfl,by simp,fun j y hy=>by
  cases j with
  |zero=>simp at hy;subst hy;exact bS _ _ _
  |succ j=>simp at hy⟩
theorem RH {w:World} (ty:TypeId) (base:Nat) (v:Value) (l:List Int) (hown:OwI w base v l) (sv:Value) (m:List Int) (hsrc:pQ w sv m) (hroom:(l.length+m.length)*8<=140737488355328) (hbase:base<=w.heap.size):
  ∃v' w',(Builtin.append_ #[57,57] ty #[v,sv]).run Tryz.prog w=.ok v' w'/\OwI w' base v' (l++m)/\Below base w w'/\w.grownBy w' v.ownBlock:=by
 obtain⟨i,hi,hz,h2,h3⟩:=gL.info;have h4:(bO .i64 0).cells.size=1:=by rw[gL.cells];rfl
 have hown':w.ownsRow base 3 1 v l.length (l.map (bO .i64)):=by have:=hown;unfold OwI Ow at this;rwa[bJ] at this
 rcases hsrc with⟨rfl,rfl⟩|⟨b,off,cap,rfl,_,hc⟩
 ·refine⟨v,w,run_append_owned_none (P:=Tryz.prog) (w:=w) base _ ty 3 i 1 gL.under hi v l.length _ hown',by rw[eE];exact hown,aB _ _,⟨rfl,rfl,rfl,aA _,fun _ _ _=>rfl⟩⟩
 ·obtain⟨v',w',q1,q2,q3,_⟩:=run_append_own (P:=Tryz.prog) w base 57 ty 3 i _ 1 8 gL.under hi hz h2 h3 h4 (by decide) v l.length _ hown' ⟨b,off,none⟩ m.length cap (m.map (bO .i64)) (by simp) (fun j u hu=>by
    rw[dY] at hu
    cases hn:m[j]? with
    |none=>rw[hn] at hu;simp at hu
    |some y=>
     rw[hn] at hu;simp at hu;subst hu;have e:(⟨b,off,none⟩:Addr).add j=⟨b,off+j,none⟩:=by unfold Addr.add;split<;>simp_all
     rw[e];exact hc j y hn) (fun u hu=>by obtain⟨y,_,rfl⟩:=dU.1 hu;rfl) (by simp only[maxLen];omega) hroom hbase
  refine⟨v',w',q1,?_,rC hown' q3 hbase,q3⟩;unfold OwI Ow;rw[List.map_append,aL,bJ,bJ];exact q2
theorem CO {ops:Array Oper} {rest:List Oper} {o:Oper} {a:Act} {Q:Exit->Act->World->Prop} {w:World} (hgd:o.guard=none) (s x:Operand)
  (ho:o.op=.call {callee:=.builtin .append,args:=#[s,x],argTypes:=#[57,57]}) (base:Nat) (v:Value) (l:List Int) (hs:a.eval s=v) (hown:OwI w base v l)
  (sv:Value) (m:List Int) (hx:a.eval x=sv) (hsrc:pQ w sv m) (hroom:(l.length+m.length)*8<=140737488355328) (hbase:base<=w.heap.size)
  (h:∀v' w',OwI w' base v' (l++m)->Below base w w'->w.grownBy w' v.ownBlock->wpList Tryz.prog ops Q rest (a.put o.dst v') w'):wpList Tryz.prog ops Q (o::rest) a w:=by
 refine wpList_plain hgd fun K hK=>?_
 obtain⟨v',w',hr,q1,q2,q3⟩:=RH o.type base v l hown sv m hsrc hroom hbase;unfold Oper.wp execOp;simp only[ho,resolve,invoke,builtin,Sem.run_bind,Sem.run_pure,Result.andThen_ok,List.map_toArray,List.map_cons,List.map_nil,hs,hx,hr];exact hK _ _ (h v' w' q1 q2 q3)
theorem RdI.dropS {w:World} {b off:Nat} {l:List Int} (hc:∀j x,l[j]? =some x->w.cell? ⟨b,off+j,none⟩=some (.int .i64 x)) (k:Nat):∀j x,(l.drop k)[j]? =some x->w.cell? ⟨b,off+k+j,none⟩=some (.int .i64 x):=by
 intro j x hx;rw[List.getElem?_drop] at hx;have:=hc _ x hx;rw[<-dZ] at this;exact this
theorem RI (m:Nat) (h:0<m):∃b:Nat,b<=1/\dig m=(b:Int)::dig ((m-1)/2)/\((m:Int)-1).tmod 2=(b:Int)/\((m:Int)-1)%2=(b:Int)/\(1:Int)-(m:Int).tmod 2=(b:Int)/\(1:Int)-(m:Int)%2=(b:Int)/\
  ((m:Int)-1).tdiv 2=(((m-1)/2:Nat):Int)/\((m:Int)-1)/2=(((m-1)/2:Nat):Int):=by
 obtain⟨p,rfl⟩:∃p,m=p+1:=⟨m-1,by omega⟩;refine⟨p%2,by omega,?_,?_,by omega,?_,by omega,?_,by omega⟩
 ·rw[BY h]
  congr 1
  split<;>omega
 ·rw[oJ (by omega)];omega
 ·rw[oJ (by omega)];omega
 ·rw[Int.tdiv_eq_ediv_of_nonneg (by omega)];omega
theorem JJ (n:Nat) (w:World) (hn:n<=1000000):
  Calls Tryz.prog 86 #[.int .i64 (n:Int)] w fun e w'=>∃v,e=.returned v/\OwI w' w.heap.size v (dig n)/\Below w.heap.size w w':=by
 go_enter Tryz.func86,Tryz.ntmps86;go_wp2_with fail
 go_loopg [3,4] n (fun gh s3 s4 wr=>∃(m:Nat) (l:List Int),m<=n/\gh=m/\s4=.int .i64 m/\OwI wr w.heap.size s3 l/\Hid (l++dig m=dig n)/\l.length+m<=n/\Below w.heap.size w wr)
 case atStart=>exact⟨n,[],aA _,rfl,rfl,OwI.nil _ _,hid rfl,by simp,aB _ _⟩
 case round=>
  obtain⟨m,l,hm,hg,rfl,hown,HD,hlm,hbel⟩:=hrel;have HG:=hid hg;clear hg;rcases fJ m with h0|h0
  ·subst h0;go_wp2_with fail;go_ret;refine⟨_,rfl,?_,hbel⟩;have:=HD.out;rw[qF,eE] at this;rw[<-this];exact hown
  ·obtain⟨b,hb,e1,_,_,e4,e5,e6,e7⟩:=RI m h0;have E1:=hid e1;clear e1;have hbs:=hbel.size;have s1:IntKind.i64.wrap ((m:Int)-1)=(m:Int)-1:=IntWalk.i64_in _ (by omega);go_wp2_with (at_builtin;refine eN rfl _ _ rfl w.heap.size _ _ rfl (hown.alloc _) wr.heap.size (b:Int) rfl ?_ ?_ ?_ ?_;(exact bS _ _ _);omega;(simp;omega);intro v' w1 hown' hB hgrow);have hg:=HG.out
   go_roundg ((m-1)/2)
   case measure=>omega
   case rel=>
    refine⟨(m-1)/2,l++[(b:Int)],by omega,rfl,by go_num,hown',hid ?_,by simp;omega,(hbel.alloc hbel.size _).trans hB⟩;rw[List.append_assoc,List.singleton_append,<-E1.out];exact HD.out
theorem RJ (v:Value) (l:List Int) (w:World) (hr:RdI w v l) (hpos:∀x∈l,0<=x):
  Calls Tryz.prog 85 #[v] w fun e w'=>e=.returned (.bool false)/\w'=w:=by
 obtain⟨a,ca,rfl,hca,hma,hA⟩:=hr.open;unfold maxLen at hma;clear hr;go_enter Tryz.func85,Tryz.ntmps85;go_wp2_with fail
 go_loopg [3] l.length (fun gh s3 wr=>∃k:Nat,k<=l.length/\gh=l.length-k/\s3=.int .i64 k/\wr=w)
 case atStart=>exact⟨0,aU _,rfl,rfl,rfl⟩
 case round=>
  obtain⟨k,hk,hg,rfl,rfl⟩:=hrel;have HG:=hid hg;clear hg
  by_cases hlt:k<l.length
  ·obtain⟨b1,o1,rfl,hb1,hc1⟩:=hA (by omega);obtain⟨x,hx⟩:=dH hlt;have c1:=hc1 k x hx;have hx0:=hpos x (cH hx);have t1:decide (x<0)=false:=decide_eq_false (by omega);clear hc1 hx hA;go_wp2_with fail;have hg:=HG.out
   go_roundg (l.length-(k+1))
   case measure=>omega
   case rel=>exact⟨k+1,by omega,rfl,by go_num,rfl⟩
  ·go_wp2_with fail;go_ret;exact⟨rfl,rfl⟩
theorem OwI.setLow {w:World} {B:Nat} {v:Value} {l:List Int} (h:OwI w B v l) {p:Addr} (hp:p.block<B) (x:Value):OwI (w.setCell p x) B v l:=by
 refine⟨h.1,?_⟩;rcases h.2 with hn|⟨g,cap,cur,rfl,h1,hg,rest⟩
 ·exact .inl hn
 ·refine .inr ⟨g,cap,cur,rfl,h1,?_,rest⟩;rw[heap_setCell_other w p g x (fun e=>by omega)];exact hg
def qK (w:World) (b:Nat) (l:List Int):Prop:=∃v,Arr w b 269 [v]/\OwI w (b+1) v l
theorem qK.lt {w:World} {b:Nat} {l:List Int} (h:qK w b l):b<w.heap.size:=by obtain⟨v,h,_⟩:=h;exact h.lt
theorem qK.below {w w':World} {b:Nat} {l:List Int} (h:qK w b l) (hb:Below w.heap.size w w'):qK w' b l:=by
 have:=h.lt;obtain⟨v,h1,h2⟩:=h;exact⟨v,h1.below hb this,h2.below hb (aA _)⟩
theorem CP (b:Nat) (src:Value) (l m:List Int) (w:World) (hl:qK w b l) (hs:pQ w src m) (hroom:(l.length+m.length)*8<=140737488355328):
  Calls Tryz.prog 164 #[.pointer (some ⟨b,0,none⟩),src] w fun e w'=>e=.returned (.tuple #[])/\qK w' b (l++m)/\Below b w w':=by
 have hb:=hl.lt;obtain⟨v,harr,hown⟩:=hl;have c1:=harr.cell (i:=0) rfl;have f1:=harr.free 0;go_enter Tryz.func164,Tryz.ntmps164;go_wp2_with (at_builtin;refine CO rfl _ _ rfl (b+1) _ _ rfl hown _ m rfl hs hroom (by omega) ?_;intro v' w1 hown' hB hgrow;(obtain⟨a',cap',rfl,_,_,_⟩:=hown'.rd.open);(have harr1:=harr.below hB (by omega));(have c2:=harr1.cell (i:=0) rfl);(have f2:=harr1.free 0))
 go_end0
 rw[aL] at hown';exact⟨rfl,⟨_,harr1.set 0 _,hown'.setLow (p:=⟨b,0,none⟩) (Nat.lt_succ_self b) _⟩,(hB.mono (Nat.le_succ b)).setCell (p:=⟨b,0,none⟩) (aA _) _⟩
def nL (d:List Int):Int:=if num d<=1099511627776 then(num d:Int) else 0
def lA (d:List Int):Int:=if num d<=1099511627776 then 0 else 4
theorem aL7:Tryz.zeroCells286=(tab 257 (fun _=>0)).toArray:=by kernel_rfl
theorem WX (s:ByteArray) (w:World) (hs:s.size<=1000000000):
  Calls Tryz.prog 169 #[.string s] w fun e w'=>
   ∃v,e=.returned v/\OwI w' w.heap.size v (rL s.data.toList)/\Below w.heap.size w w':=by
 have hl0:s.data.toList.length=s.size:=by simp
 have HL:=hid hl0;clear hl0;go_enter Tryz.func169,Tryz.ntmps169;go_wp2
 go_loopw [10] (fun i wr=>∃k:Nat,k<=s.size/\i=.int .i64 k/\Arr wr w.heap.size 286 (tab 257 (mH s.data.toList k))/\Below w.heap.size w wr) (fun i _=>s.size-(intOf i).toNat)
 case atStart=>exact⟨0,aU _,rfl,by rw[aFm,aL7];exact Arr.new _ _ _,(aB _ _).alloc (aA _) _⟩
 case round=>
  obtain⟨k,hk,rfl,harr,hbel⟩:=hrel
  by_cases hlt:k<s.size
  ·have hb:s[k].toNat<256:=s[k].toNat_lt;have HB:=hid (eW s k hlt);have hbd:=aFt s.data.toList k (s[k].toNat+1);rw[HL.out] at hbd;have hc:=harr.cell (iS 257 (mH s.data.toList k) (s[k].toNat+1) (by omega));have hf:=harr.free (s[k].toNat+1);obtain⟨x,hx⟩:∃x,x=mH s.data.toList k (s[k].toNat+1):=⟨_,rfl⟩;rw[<-hx] at hc hbd;have HX:=hid hx;clear hx;go_wp2
   go_roundw
   case rel=>
    refine⟨k+1,by omega,by go_num,?_,hbel.setCell (aA _) _⟩;have:=harr.set (s[k].toNat+1) (.int .i64 (x+1));rw[qD 257 _ (mH s.data.toList (k+1)) _ _ (fun d _=>by rw[aFn _ _ _ HB.out,HX.out])] at this;exact this
   case measure=>simp[intOf];omega
  ·have hk':k=s.size:=by omega
   have HK:=hid hk';clear hk';go_wp2
   go_loopw [23] (fun i wr=>∃c:Nat,c<=256/\i=.int .i64 c/\Arr wr w.heap.size 286 (tab 257 (kI s.data.toList c))/\Below w.heap.size w wr) (fun i _=>256-(intOf i).toNat)
   case atStart=>exact⟨0,aU _,rfl,by have:=harr;rw[HK.out,<-HL.out,aFo] at this;exact this,hbel⟩
   case round=>
    clear harr hbel hlt;obtain⟨c,hc,rfl,harr,hbel⟩:=hrel
    by_cases hlt:c<256
    ·have hd:decide ((c:Int)<256)=true:=by simp;omega
     have hbd:=QS s.data.toList c (c+1);have hbe:=QS s.data.toList c c;rw[HL.out] at hbd hbe;have h1:=harr.cell (iS 257 (kI s.data.toList c) (c+1) (by omega));have h2:=harr.cell (iS 257 (kI s.data.toList c) c (by omega));have hf:=harr.free (c+1);obtain⟨x,hx⟩:∃x,x=kI s.data.toList c (c+1):=⟨_,rfl⟩;obtain⟨y,hy⟩:∃x,x=kI s.data.toList c c:=⟨_,rfl⟩;rw[<-hx] at h1 hbd;rw[<-hy] at h2 hbe;have HX:=hid hx;have HY:=hid hy;clear hx hy;go_wp2
     go_region
     go_wp2
     go_roundw
     case rel=>
      refine⟨c+1,by omega,by go_num,?_,(hbel.setCell (aA _) _).drew⟩;have:=harr.set (c+1) (.int .i64 (x+y));rw[qD 257 _ (kI s.data.toList (c+1)) _ _ (fun d _=>by rw[aFp,HX.out,HY.out])] at this;exact this
     case measure=>simp[intOf];omega
    ·have hc':c=256:=by omega
     have HC:=hid hc';clear hc';have hd:decide ((c:Int)<256)=false:=by simp;omega
     obtain⟨wo,rfl⟩:∃wo:World,wo=wr:=⟨_,rfl⟩;go_wp2_with (at_make;refine mkA gL rfl _ _ rfl s.size rfl rfl ?_ ?_;omega);have hwo:w.heap.size<wo.heap.size:=harr.lt
     go_loopw [41] (fun i wr=>∃k:Nat,k<=s.size/\i=.int .i64 k/\Arr wr w.heap.size 286 (tab 257 (oQ s.data.toList k))/\(∃L:List Int,L.length=s.size/\Hid (∀j,j<k->L[jI s.data.toList j]? =some (j:Int))/\Arr wr wo.heap.size 3 (L.map (bO .i64)))/\Below w.heap.size w wr) (fun i _=>s.size-(intOf i).toNat)
     case atStart=>
      refine⟨0,aU _,rfl,?_,⟨bB s.size 0,by simp,hid (fun j hj=>by omega),?_⟩,hbel.alloc (by omega) _⟩
      ·have:=harr.alloc (.cells (fB (.int .i64 0) s.size) 3);rw[HC.out] at this;rwa[show tab 257 (oQ s.data.toList 0)=tab 257 (kI s.data.toList 256) from by
        apply List.map_congr_left;intro d hd;rw[aFq _ _ (by simpa using hd)]]
      ·rw[List.map_replicate];exact Arr.made _ _ _ _
     case round=>
      clear harr hbel hlt hd;obtain⟨k,hk,rfl,harr,⟨L,hL,HP,hout⟩,hbel⟩:=hrel
      by_cases hlt:k<s.size
      ·have hb:s[k].toNat<256:=s[k].toNat_lt;have HB:=hid (eW s k hlt);have hp0:=QO s.data.toList k (by rw[HL.out];exact hlt);have h1:=harr.cell (iS 257 (oQ s.data.toList k) s[k].toNat (by omega));rw[QP _ _ _ HB.out] at h1;rw[HL.out] at hp0;obtain⟨p,hp⟩:∃p,p=jI s.data.toList k:=⟨_,rfl⟩;rw[<-hp] at h1 hp0;have HPk:=hid hp;clear hp;have hf:=harr.free s[k].toNat;have hf2:=hout.free p;obtain⟨v2,hv2⟩:∃v2,(L.map (bO .i64))[p]? =some v2:=⟨_,aN (by simp;omega)⟩;have h2:=hout.cell hv2;clear hv2;go_wp2
       go_roundw
       case rel=>
        refine⟨k+1,by omega,by go_num,?_,⟨L.set p (k:Int),by simpa using hL,hid ?_,?_⟩,(hbel.setCell (by simp;omega) _).setCell (aA _) _⟩
        ·have:=(harr.other ⟨wo.heap.size,p,none⟩ (by simp;omega) (.int .i64 (k:Int))).set s[k].toNat (.int .i64 ((p:Int)+1));rw[qD 257 _ (oQ s.data.toList (k+1)) _ _ (fun d _=>by rw[aFr _ _ _ HB.out,QP _ _ _ HB.out,<-HPk.out])] at this;exact this
        ·intro j hj;rcases bT j k with h'|h'
         ·rw[qU (fun e=>?_)]
          ·exact HP.out j h'
          ·have:=aFi s.data.toList j k (by rw[HL.out];omega) (by rw[HL.out];omega) (by rw[<-HPk.out,e]);omega
         ·have:j=k:=by omega
          subst this;rw[<-HPk.out,List.getElem?_set_self (by omega)]
        ·have:=(hout.set p (.int .i64 (k:Int))).other ⟨w.heap.size,s[k].toNat,none⟩ (by simp;omega) (.int .i64 ((p:Int)+1));rwa[<-List.map_set] at this
       case measure=>simp[intOf];omega
      ·have hk':k=s.size:=by omega
       have HK':=hid hk';clear hk';go_wp2;go_ret;have e:=aFj s.data.toList L (by rw[HL.out,hL]) (fun j hj=>HP.out j (by rw[HK'.out,<-HL.out];exact hj));have ho:=hout.own (B:=w.heap.size) (by omega) (by rw[bJ,hL];simp only[maxLen];omega);rw[bJ,hL] at ho;rw[e] at ho;exact⟨_,rfl,ho,hbel⟩
theorem uZ {a b c d:Value} (h1:a=c) (h2:b=d):Ending.returned (.tuple #[a,b])=.returned (.tuple #[c,d]):=by rw[h1,h2]
theorem WY (s:List UInt8) (k:Nat) (h:k<s.length):(rL s)[k]? =some ((nxt s k:Nat):Int):=by
 unfold rL nxt;have:k<(vec s).length:=by rw[uJ];exact h
 simp[fF,aN this]
theorem LO (s:List UInt8):(rL s).length=s.length:=by simp[rL,uJ]
theorem LP (s:ByteArray) (k:Nat) (h:k<s.size):s.data.toList.getD k 0=s[k]:=by
 simp[fF,eW s k h]
theorem aMb (s:ByteArray) (o:Int) (w:World) (hs:s.size<=1000000000) (ho1: -9223372036854775808<=o) (ho2:o<=9223372036854775807):
  Calls Tryz.prog 153 #[.string s,.int .i64 o] w fun e w'=>
   e=.returned (.tuple #[.string (mkS (lE s.data.toList o)),.int .i64 (nW s.data.toList o)])/\Below w.heap.size w w':=by
 have hl0:s.data.toList.length=s.size:=by simp
 have HL:=hid hl0
 by_cases hok:mJ s.data.toList o=true
 case neg=>
  have h0:mJ s.data.toList o=false:=by simpa using hok
  have hfin:lE s.data.toList o=[]/\nW s.data.toList o=1:=by simp[lE,nW,h0]
  have HF:=hid hfin;unfold mJ at h0;rw[hl0] at h0;clear hfin hok hl0
  by_cases hneg:o<0
  ·clear h0;have hd:decide (o<0)=true:=by simpa using hneg
   go_enter Tryz.func153,Tryz.ntmps153;go_wp2
   go_ret2
   exact⟨uZ (by rw[HF.out.1];rfl) (by rw[HF.out.2];rfl),aB _ _⟩
  ·have h1:(max (s.size:Int) 1)<=o:=by simp at h0;omega
   have h2:decide (max (s.size:Int) 1<=o)=true:=by simpa using h1
   have hd:decide (o<0)=false:=by simpa using hneg
   clear h0 h2;go_enter Tryz.func153,Tryz.ntmps153;go_wp2
   all_goals go_ret2
   all_goals exact⟨uZ (by rw[HF.out.1];rfl) (by rw[HF.out.2];rfl),aB _ _⟩
 case pos=>
  have h0:=hok;unfold mJ at h0;rw[hl0] at h0;have h1:0<=o/\o<max (s.size:Int) 1:=by simpa using h0
  obtain⟨n,rfl⟩:=Int.eq_ofNat_of_zero_le h1.1;have hfin:lE s.data.toList n=kY s.data.toList n s.size/\nW s.data.toList n=0:=by
   simp[lE,nW,hok,QT]
  have HF:=hid hfin;have hlt:n<s.size\/(s.size=0/\n=0):=by omega
  clear hfin hok hl0 h0 h1 ho1 ho2;have hd:decide ((n:Int)<0)=false:=by simp
  have HN:=hid (show 0<s.size->n<s.size from fun h=>by omega);have hlt':n<s.size\/s.size<=0/\n<=0:=by omega
  clear hlt;rcases hlt' with hlt|⟨hlt,hlt2⟩
  ·go_enter Tryz.func153,Tryz.ntmps153;go_wp2_with fail;refine(WX s _ hs).mono ?_;rintro e w1 ⟨v,rfl,hv,hB⟩;obtain⟨va,vc,rfl,hvc,hvm,hvA⟩:=hv.rd.open;rw[LO,HL.out] at hvA hvc ⊢;simp only[maxLen] at hvm;clear hv;go_wp2_with (at_make;refine mkA vQ rfl _ _ rfl s.size rfl rfl ?_ ?_;omega)
   go_loopg [8,27] s.size (fun g at_ i wr=>∃k:Nat,k<=s.size/\g=s.size-k/\i=.int .i64 k/\at_=.int .i64 ((kJ s.data.toList k n:Nat):Int)/\Arr wr w1.heap.size 5 (eO (nA s.size 0 (kY s.data.toList n k)))/\Below w.heap.size w wr/\Below w1.heap.size w1 wr)
   case atStart=>
    refine⟨0,aU _,rfl,rfl,rfl,?_,hB.alloc (by have:=hB.size;omega) _,(aB _ _).alloc (aA _) _⟩;have:=Arr.made w1 5 (.int .u8 0) s.size;rwa[show bB s.size (bO .u8 0)=eO (nA s.size 0 (kY s.data.toList n 0)) from by simp[eO,nA,kY]] at this
   case round=>
    obtain⟨k,hk,hg,rfl,rfl,harr,hbel,hbel1⟩:=hrel
    by_cases hlk:k<s.size
    ·have hn:=HN.out (by omega);have hat:=sU s.data.toList n (by rw[HL.out];exact hn) k;have hat1:=sU s.data.toList n (by rw[HL.out];exact hn) (k+1);rw[HL.out] at hat hat1;obtain⟨b1,o1,rfl,hb1,hc1⟩:=hvA (by omega);have c1:wr.cell? ⟨b1,o1+kJ s.data.toList k n,none⟩=some (.int .i64 ((kJ s.data.toList (k+1) n:Nat):Int)):=by
      rw[hbel1.cell (p:=⟨b1,o1+kJ s.data.toList k n,none⟩) hb1];exact hc1 _ _ (WY _ _ (by rw[HL.out];exact hat))
     have HBY:=hid (eW s _ hat1);have hb:s[kJ s.data.toList (k+1) n].toNat<256:=UInt8.toNat_lt _;obtain⟨x,hx⟩:=aDe s.size (0:UInt8) (kY s.data.toList n k) k hlk (by rw[sV];omega);have c2:=harr.cell (BH hx);have f2:=harr.free k;have HG:=hid hg;clear hx hvA hc1 hg;go_wp2;have hg:=HG.out
     go_roundg (s.size-(k+1))
     case measure=>omega
     case rel=>
      refine⟨k+1,by omega,rfl,by go_num,rfl,?_,hbel.setCell (by have:=hB.size;simp;omega) _,hbel1.setCell (by simp) _⟩;have:=harr.set k (.int .u8 ((s[kJ s.data.toList (k+1) n].toNat:Nat):Int));rw[OR] at this;have e:=aDd s.size (0:UInt8) s[kJ s.data.toList (k+1) n] (kY s.data.toList n k) (by rw[sV];exact hlk);rw[sV,<-LP s _ hat1,<-QV] at e;rw[<-LP s _ hat1,e] at this;rw[<-LP s _ hat1];exact this
    ·have hk':k=s.size:=by omega
     rw[hk',OS _ _ _ (by rw[sV];exact aA _)] at harr;have hcv:=lQ (harr.rdB (n:=s.size) (by rw[sV]) (by simp only[maxLen];omega));clear hk' hg;go_wp2
     go_ret2
     exact⟨uZ (by rw[HF.out.1];rfl) (by rw[HF.out.2];rfl),hbel⟩
  ·go_enter Tryz.func153,Tryz.ntmps153;go_wp2_with fail;refine(WX s _ hs).mono ?_;rintro e w1 ⟨v,rfl,hv,hB⟩;obtain⟨va,vc,rfl,hvc,hvm,hvA⟩:=hv.rd.open;rw[LO,HL.out] at hvA hvc ⊢;simp only[maxLen] at hvm;clear hv;go_wp2_with (at_make;refine mkA vQ rfl _ _ rfl s.size rfl rfl ?_ ?_;omega)
   go_loopg [8,27] s.size (fun g at_ i wr=>∃k:Nat,k<=s.size/\g=s.size-k/\i=.int .i64 k/\at_=.int .i64 ((kJ s.data.toList k n:Nat):Int)/\Arr wr w1.heap.size 5 (eO (nA s.size 0 (kY s.data.toList n k)))/\Below w.heap.size w wr/\Below w1.heap.size w1 wr)
   case atStart=>
    refine⟨0,aU _,rfl,rfl,rfl,?_,hB.alloc (by have:=hB.size;omega) _,(aB _ _).alloc (aA _) _⟩;have:=Arr.made w1 5 (.int .u8 0) s.size;rwa[show bB s.size (bO .u8 0)=eO (nA s.size 0 (kY s.data.toList n 0)) from by simp[eO,nA,kY]] at this
   case round=>
    obtain⟨k,hk,hg,rfl,rfl,harr,hbel,hbel1⟩:=hrel;have hk':k=s.size:=by omega
    rw[hk',OS _ _ _ (by rw[sV];exact aA _)] at harr;have hcv:=lQ (harr.rdB (n:=s.size) (by rw[sV]) (by simp only[maxLen];omega));clear hk' hg;go_wp2
    go_ret2
    exact⟨uZ (by rw[HF.out.1];rfl) (by rw[HF.out.2];rfl),hbel⟩
end
end Go.Proofs.YtmcogmmncfihhaaGreatDoor
