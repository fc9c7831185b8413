/-
  Texts put together (part 3): the walks and the plain laws on which the statement stands.
-/
import Derived.Below
import Derived.Test.YtjkjeamepgjicaaGreatDoorZ1
set_option maxRecDepth 100000
set_option maxHeartbeats 12800000
set_option linter.unusedVariables false
set_option linter.unusedSimpArgs false
open Go.RowKit.Below renaming refl->aB
open Go.Value renaming int->bO
open List renaming countP_append->NN,countP_le_length->xR,getD->fF,getElem?_eq_getElem->aN,getElem?_eq_none->dL,length_append->aL,length_map->bJ,range->dG,range_succ->sF,replicate->bB,take_length->kE
open Nat renaming le_refl->aA,lt_or_ge->bT,zero_le->aU
open Option.some renaming inj->bW
namespace Go.Proofs.YtjkjeamepgjicaaGreatDoor
section
def ltc (s:List UInt8) (c:Nat):Nat:=s.countP (fun b=>decide (b.toNat<c))
def eqc (s:List UInt8) (c:Nat):Nat:=s.countP (fun b=>b.toNat==c)
theorem CG (s:List UInt8) (c:Nat):ltc s (c+1)=ltc s c+eqc s c:=by
 unfold ltc eqc
 induction s with
 |nil=>rfl
 |cons b l ih=>
  simp only[List.countP_cons,ih]
  by_cases h1:b.toNat<c
  ·have:b.toNat<c+1:=by omega
   have:b.toNat≠c:=by omega
   simp[*];omega
  ·by_cases h2:b.toNat=c
   ·simp[h2];omega
   ·have:¬b.toNat<c+1:=by omega
    simp[*]
theorem QL (s:List UInt8):ltc s 0=0:=by simp[ltc]
theorem QM (s:List UInt8):ltc s 256=s.length:=by
 unfold ltc;rw[List.countP_eq_length];intro b _;simp;exact b.toNat_lt
theorem QN (s:List UInt8) (c d:Nat) (h:c<=d):ltc s c<=ltc s d:=by
 induction d with
 |zero=>
   have:c=0:=by omega
   subst this;exact aA _
 |succ d ih=>
  rcases bT d c with h'|h'
  ·have:c=d+1:=by omega
   subst this;exact aA _
  ·rw[CG];have:=ih h';omega
theorem CH (s:List UInt8) (k c:Nat) (b:UInt8) (h:s[k]? =some b):eqc (s.take (k+1)) c=eqc (s.take k) c+if b.toNat=c then 1 else 0:=by
 unfold eqc;rw[List.take_add_one,h,NN]
 by_cases hb:b.toNat=c<;>simp[hb]
theorem JD (s:List UInt8) (k c:Nat):eqc (s.take k) c<=eqc s c:=by
 unfold eqc;have h:=congrArg (List.countP (fun b=>b.toNat==c)) (List.take_append_drop k s);rw[NN] at h;omega
def mG (s:List UInt8) (c n:Nat):List Nat:=(dG n).filter (fun i=>(s.getD i 0).toNat==c)
theorem CI (s:List UInt8) (c n:Nat) (b:UInt8) (h:s[n]? =some b):mG s c (n+1)=mG s c n++if b.toNat=c then[n] else[]:=by
 unfold mG;rw[sF,List.filter_append];have:s.getD n 0=b:=by simp[h]
 by_cases hb:b.toNat=c<;>simp[h,hb]
theorem JE (s:List UInt8) (c:Nat):∀n,n<=s.length->(mG s c n).length=eqc (s.take n) c
 |0,_=>by simp[mG,eqc]
 |n+1,h=>by
  obtain⟨b,hb⟩:∃b,s[n]? =some b:=⟨_,aN (by omega)⟩;rw[CI s c n b hb,CH s n c b hb,aL,JE s c n (by omega)]
  by_cases h:b.toNat=c<;>simp[h]
theorem JF (s:List UInt8) (c:Nat):∀n,n<=s.length->∀i j,(mG s c n)[i]? =some j↔(j<n/\(∃b,s[j]? =some b/\b.toNat=c)/\i=eqc (s.take j) c)
 |0,_,i,j=>by simp[mG]
 |n+1,h,i,j=>by
  obtain⟨b,hb⟩:∃b,s[n]? =some b:=⟨_,aN (by omega)⟩;have hl:=JE s c n (by omega);have ih:=JF s c n (by omega) i j;rw[CI s c n b hb,List.getElem?_append];split
  ·rename_i hi
   rw[ih];constructor
   ·rintro⟨h1,h2,h3⟩;exact⟨by omega,h2,h3⟩
   ·rintro⟨h1,h2,h3⟩;refine⟨?_,h2,h3⟩;rcases bT j n with h'|h'
    ·exact h'
    ·have:j=n:=by omega
     subst this;omega
  ·rename_i hi
   have hn:∀j',j'<n->i=eqc (s.take j') c->(∃b,s[j']? =some b/\b.toNat=c)->False:=by
    intro j' hj' he hb';have:=(JF s c n (by omega) i j').2 ⟨hj',hb',he⟩;rw[dL (by omega)] at this
    cases this
   by_cases hc:b.toNat=c
   ·rw[if_pos hc];constructor
    ·intro h';have hi0:i-(mG s c n).length=0:=by
      rcases Nat.eq_zero_or_pos (i-(mG s c n).length) with h0|h0
      ·exact h0
      ·rw[dL (by simp;omega)] at h';cases h'
     rw[hi0] at h';have:n=j:=by simpa using h'
     subst this;exact⟨by omega,⟨b,hb,hc⟩,by omega⟩
    ·rintro⟨h1,h2,h3⟩;rcases bT j n with h'|h'
     ·exact(hn j h' h3 h2).elim
     ·have:j=n:=by omega
      subst this;rw[show i-(mG s c j).length=0 by omega];rfl
   ·rw[if_neg hc];constructor
    ·intro h';simp at h'
    ·rintro⟨h1,⟨b',h2,h4⟩,h3⟩;rcases bT j n with h'|h'
     ·exact(hn j h' h3 ⟨b',h2,h4⟩).elim
     ·have:j=n:=by omega
      subst this;rw[hb] at h2;cases h2;exact absurd h4 hc
def nV (s:List UInt8):Nat->List Nat
 |0=>[]
 |m+1=>nV s m++mG s m s.length
def vec (s:List UInt8):List Nat:=nV s 256
theorem CJ (s:List UInt8):∀m,(nV s m).length=ltc s m
 |0=>by simp[nV,QL]
 |m+1=>by
  rw[nV,aL,CJ s m,JE s m _ (aA _),kE,CG]
theorem uJ (s:List UInt8):(vec s).length=s.length:=by rw[vec,CJ,QM]
def jI (s:List UInt8) (j:Nat):Nat:=ltc s (s.getD j 0).toNat+eqc (s.take j) (s.getD j 0).toNat
theorem JG (s:List UInt8):∀m i j,(nV s m)[i]? =some j↔(j<s.length/\(s.getD j 0).toNat<m/\i=jI s j)
 |0,i,j=>by simp[nV]
 |m+1,i,j=>by
  have hl:=CJ s m;rw[nV,List.getElem?_append];split
  ·rename_i hi
   rw[JG s m i j];constructor
   ·rintro⟨h1,h2,h3⟩;exact⟨h1,by omega,h3⟩
   ·rintro⟨h1,h2,h3⟩;refine⟨h1,?_,h3⟩;rcases bT (s.getD j 0).toNat m with h'|h'
    ·exact h'
    ·have he:(s.getD j 0).toNat=m:=by omega
     unfold jI at h3;rw[he] at h3;omega
  ·rename_i hi
   rw[JF s m _ (aA _)];constructor
   ·rintro⟨h1,⟨b,h2,h3⟩,h4⟩;have hg:s.getD j 0=b:=by simp[h2]
    refine⟨h1,by rw[hg];omega,?_⟩;unfold jI;rw[hg,h3];omega
   ·rintro⟨h1,h2,h3⟩;have hge:m<=(s.getD j 0).toNat:=by
     rcases bT (s.getD j 0).toNat m with h'|h'
     ·have:=(JG s m i j).2 ⟨h1,h',h3⟩;rw[dL (by omega)] at this;cases this
     ·exact h'
    have he:(s.getD j 0).toNat=m:=by omega
    refine⟨h1,⟨s.getD j 0,by simp[aN h1],he⟩,?_⟩;unfold jI at h3;rw[he] at h3;omega
theorem uK (s:List UInt8) (i j:Nat):(vec s)[i]? =some j↔(j<s.length/\i=jI s j):=by
 rw[vec,JG];constructor
 ·rintro⟨h1,_,h3⟩;exact⟨h1,h3⟩
 ·rintro⟨h1,h3⟩;exact⟨h1,(s.getD j 0).toNat_lt,h3⟩
theorem QO (s:List UInt8) (j:Nat) (h:j<s.length):jI s j<s.length:=by
 have:=(uK s (jI s j) j).2 ⟨h,rfl⟩;have:=(List.getElem?_eq_some_iff.1 this).1;rw[uJ] at this;exact this
theorem aFi (s:List UInt8) (j k:Nat) (hj:j<s.length) (hk:k<s.length) (h:jI s j=jI s k):j=k:=by
 have h1:=(uK s (jI s j) j).2 ⟨hj,rfl⟩;have h2:=(uK s (jI s k) k).2 ⟨hk,rfl⟩;rw[h,h2] at h1;exact(bW h1).symm
def rL (s:List UInt8):List Int:=(vec s).map Int.ofNat
theorem aFj (s:List UInt8) (l:List Int) (hl:l.length=s.length) (h:∀j,j<s.length->l[jI s j]? =some (j:Int)):l=rL s:=by
 unfold rL;apply List.ext_getElem?;intro i;rcases bT i s.length with hi|hi
 ·obtain⟨j,hj⟩:∃j,(vec s)[i]? =some j:=⟨_,aN (by rw[uJ];exact hi)⟩;obtain⟨h1,h2⟩:=(uK s i j).1 hj;rw[List.getElem?_map,hj,h2,h j h1];rfl
 ·rw[dL (by omega),dL (by rw[bJ,uJ];exact hi)]
def nxt (s:List UInt8) (i:Nat):Nat:=(vec s).getD i 0
theorem CK (s:List UInt8) (i:Nat) (h:i<s.length):nxt s i<s.length:=by
 obtain⟨j,hj⟩:∃j,(vec s)[i]? =some j:=⟨_,aN (by rw[uJ];exact h)⟩;have:=((uK s i j).1 hj).1;simp[nxt,fF,hj,this]
theorem CM (s:List UInt8) (i:Nat) (h:i<s.length):jI s (nxt s i)=i:=by
 obtain⟨j,hj⟩:∃j,(vec s)[i]? =some j:=⟨_,aN (by rw[uJ];exact h)⟩;have:=((uK s i j).1 hj).2;simp[nxt,fF,hj,<-this]
theorem aFk (s:List UInt8) (j:Nat) (h:j<s.length):nxt s (jI s j)=j:=by
 have:=(uK s (jI s j) j).2 ⟨h,rfl⟩;simp[nxt,fF,this]
theorem aFl (s:List UInt8) (i j:Nat) (hi:i<s.length) (hj:j<s.length) (h:nxt s i=nxt s j):i=j:=by
 rw[<-CM s i hi,<-CM s j hj,h]
def mH (s:List UInt8) (k d:Nat):Int:=if d=0 then 0 else(eqc (s.take k) (d-1):Int)
def kI (s:List UInt8) (c d:Nat):Int:=if d<=c then(ltc s d:Int) else(eqc s (d-1):Int)
def oQ (s:List UInt8) (k d:Nat):Int:=(ltc s d:Int)+(eqc (s.take k) d:Int)
theorem aFm (s:List UInt8):mH s 0=fun _=>0:=by funext d;simp[mH,eqc]
theorem aFn (s:List UInt8) (k:Nat) (b:UInt8) (h:s[k]? =some b) (d:Nat):mH s (k+1) d=if d=b.toNat+1 then mH s k (b.toNat+1)+1 else mH s k d:=by
 unfold mH
 by_cases h0:d=0
 ·subst h0;rw[if_pos rfl,if_neg (by omega),if_pos rfl]
 ·rw[if_neg h0,CH s k _ b h]
  by_cases hd:d=b.toNat+1
  ·subst hd;simp
  ·rw[if_neg hd,if_neg h0,if_neg (by omega)];simp
theorem aFo (s:List UInt8):mH s s.length=kI s 0:=by
 funext d
 unfold mH kI;rw[kE]
 by_cases h0:d=0
 ·subst h0;simp[QL]
 ·rw[if_neg h0,if_neg (by omega)]
theorem aFp (s:List UInt8) (c d:Nat):kI s (c+1) d=if d=c+1 then kI s c (c+1)+kI s c c else kI s c d:=by
 unfold kI
 by_cases hd:d=c+1
 ·subst hd;rw[if_pos rfl,if_pos (aA _),if_neg (by omega),if_pos (aA _),CG];simp;omega
 ·rw[if_neg hd]
  by_cases h:d<=c
  ·rw[if_pos h,if_pos (by omega)]
  ·rw[if_neg h,if_neg (by omega)]
theorem aFq (s:List UInt8) (d:Nat) (h:d<257):oQ s 0 d=kI s 256 d:=by
 unfold kI oQ;rw[if_pos (by omega)];simp[eqc]
theorem aFr (s:List UInt8) (k:Nat) (b:UInt8) (h:s[k]? =some b) (d:Nat):oQ s (k+1) d=if d=b.toNat then oQ s k b.toNat+1 else oQ s k d:=by
 unfold oQ;rw[CH s k _ b h]
 by_cases hd:d=b.toNat
 ·subst hd;simp;omega
 ·rw[if_neg hd,if_neg (by omega)];simp
theorem QP (s:List UInt8) (k:Nat) (b:UInt8) (h:s[k]? =some b):oQ s k b.toNat=(jI s k:Int):=by
 unfold oQ jI;have:s.getD k 0=b:=by simp[h]
 rw[this];simp
theorem QQ (s:List UInt8) (c:Nat):eqc s c<=s.length:=xR
theorem aFs (s:List UInt8) (c:Nat):ltc s c<=s.length:=xR
theorem aFt (s:List UInt8) (k d:Nat):0<=mH s k d/\mH s k d<=s.length:=by
 unfold mH;split
 ·omega
 ·have:=JD s k (d-1);have:=QQ s (d-1);omega
theorem QS (s:List UInt8) (k d:Nat):0<=kI s k d/\kI s k d<=s.length:=by
 unfold kI;split
 ·have:=aFs s d;omega
 ·have:=QQ s (d-1);omega
attribute [irreducible] vec
theorem php:∀(n:Nat) (f:Nat->Nat),(∀k,k<=n->f k<n)->∃a b,a<b/\b<=n/\f a=f b
 |0,f,h=>absurd (h 0 (aA 0)) (Nat.not_lt_zero _)
 |n+1,f,h=>by
  by_cases hc:∃k,k<=n/\f k=f (n+1)
  ·obtain⟨k,h1,h2⟩:=hc;exact⟨k,n+1,by omega,aA _,h2⟩
  ·have hne:∀k,k<=n->f k≠f (n+1):=fun k hk e=>hc ⟨k,hk,e⟩
   have hn:=h (n+1) (aA _);obtain⟨a,b,h1,h2,h3⟩:=php n (fun k=>if f (n+1)<f k then f k-1 else f k) (fun k hk=>by
    have:=h k (by omega);have:=hne k hk;split<;>omega)
   refine⟨a,b,h1,by omega,?_⟩;have ha:=hne a (by omega);have hb:=hne b h2;split at h3<;>split at h3<;>omega
def kJ (s:List UInt8):Nat->Nat->Nat
 |0,o=>o
 |k+1,o=>nxt s (kJ s k o)
theorem sU (s:List UInt8) (o:Nat) (h:o<s.length):∀k,kJ s k o<s.length
 |0=>h
 |k+1=>CK s _ (sU s o h k)
def nF (s:List UInt8) (o:Nat):List UInt8:=(dG s.length).map (fun i=>s.getD (kJ s (i+1) o) 0)
def kY (s:List UInt8) (o k:Nat):List UInt8:=(dG k).map (fun i=>s.getD (kJ s (i+1) o) 0)
theorem QT (s:List UInt8) (o:Nat):nF s o=kY s o s.length:=rfl
theorem QV (s:List UInt8) (o k:Nat):kY s o (k+1)=kY s o k++[s.getD (kJ s (k+1) o) 0]:=by simp[kY,sF]
theorem sV (s:List UInt8) (o k:Nat):(kY s o k).length=k:=by simp[kY]
theorem CN (s:List UInt8) (o:Nat):(nF s o).length=s.length:=by simp[nF]
def mJ (s:List UInt8) (o:Int):Bool:=decide (0<=o)&&decide (o<max (s.length:Int) 1)
def lE (s:List UInt8) (o:Int):List UInt8:=if mJ s o then nF s o.toNat else[]
def nW (s:List UInt8) (o:Int):Int:=if mJ s o then 0 else 1
theorem aFv (s:List UInt8) (o i:Nat) (h:i<s.length):(nF s o)[i]? =some (s.getD (kJ s (i+1) o) 0):=by simp[nF,h]
theorem aFw (s:List UInt8) (a b c:Nat) (h:a<=b):eqc (s.take a) c<=eqc (s.take b) c:=by
 have:=JD (s.take b) a c;rwa[List.take_take,Nat.min_eq_left h] at this
theorem aFx (s:List UInt8) (i:Nat) (h:i+1<s.length):
  (s.getD (nxt s i) 0).toNat<=(s.getD (nxt s (i+1)) 0).toNat/\((s.getD (nxt s i) 0).toNat=(s.getD (nxt s (i+1)) 0).toNat->nxt s i<nxt s (i+1)):=by
 have ha:=CK s i (by omega);have hb:=CK s (i+1) h;have pa:=CM s i (by omega);have pb:=CM s (i+1) h;generalize nxt s i=a at*
 generalize nxt s (i+1)=b at*
 unfold jI at pa pb;obtain⟨y,hy⟩:∃y,s[b]? =some y:=⟨_,aN hb⟩;have hgb:s.getD b 0=y:=by simp[hy]
 have h1:=CH s b y.toNat y hy;rw[if_pos rfl] at h1;have h2:=JD s (b+1) y.toNat;rw[hgb] at pb ⊢;constructor
 ·rcases bT y.toNat (s.getD a 0).toNat with hc|hc
  ·have h3:=QN s (y.toNat+1) _ hc;rw[CG] at h3;omega
  ·exact hc
 ·intro e;rw[e] at pa;rcases bT a b with h4|h4
  ·exact h4
  ·have:=aFw s b a y.toNat h4;omega
end
section
open Go.RowKit
theorem aL7:Tryz.zeroCells226=(tab 257 (fun _=>0)).toArray:=by kernel_rfl
theorem WX (s:ByteArray) (w:World) (hs:s.size<=1000000000):
  Calls Tryz.prog 105 #[.string s] w fun e w'=>
   ∃v,e=.returned v/\OwI w' w.heap.size v (rL s.data.toList)/\Below w.heap.size w w':=by
 have hl0:s.data.toList.length=s.size:=by simp
 have HL:=hid hl0;clear hl0;go_enter Tryz.func105,Tryz.ntmps105;go_wp2
 go_loopw [10] (fun i wr=>∃k:Nat,k<=s.size/\i=.int .i64 k/\Arr wr w.heap.size 226 (tab 257 (mH s.data.toList k))/\Below w.heap.size w wr) (fun i _=>s.size-(intOf i).toNat)
 case atStart=>exact⟨0,aU _,rfl,by rw[aFm,aL7];exact Arr.new _ _ _,(aB _ _).alloc (aA _) _⟩
 case round=>
  obtain⟨k,hk,rfl,harr,hbel⟩:=hrel
  by_cases hlt:k<s.size
  ·have hb:s[k].toNat<256:=s[k].toNat_lt;have HB:=hid (eW s k hlt);have hbd:=aFt s.data.toList k (s[k].toNat+1);rw[HL.out] at hbd;have hc:=harr.cell (iS 257 (mH s.data.toList k) (s[k].toNat+1) (by omega));have hf:=harr.free (s[k].toNat+1);obtain⟨x,hx⟩:∃x,x=mH s.data.toList k (s[k].toNat+1):=⟨_,rfl⟩;rw[<-hx] at hc hbd;have HX:=hid hx;clear hx;go_wp2
   go_roundw
   case rel=>
    refine⟨k+1,by omega,by go_num,?_,hbel.setCell (aA _) _⟩;have:=harr.set (s[k].toNat+1) (.int .i64 (x+1));rw[qD 257 _ (mH s.data.toList (k+1)) _ _ (fun d _=>by rw[aFn _ _ _ HB.out,HX.out])] at this;exact this
   case measure=>simp[intOf];omega
  ·have hk':k=s.size:=by omega
   have HK:=hid hk';clear hk';go_wp2
   go_loopw [23] (fun i wr=>∃c:Nat,c<=256/\i=.int .i64 c/\Arr wr w.heap.size 226 (tab 257 (kI s.data.toList c))/\Below w.heap.size w wr) (fun i _=>256-(intOf i).toNat)
   case atStart=>exact⟨0,aU _,rfl,by have:=harr;rw[HK.out,<-HL.out,aFo] at this;exact this,hbel⟩
   case round=>
    clear harr hbel hlt;obtain⟨c,hc,rfl,harr,hbel⟩:=hrel
    by_cases hlt:c<256
    ·have hd:decide ((c:Int)<256)=true:=by simp;omega
     have hbd:=QS s.data.toList c (c+1);have hbe:=QS s.data.toList c c;rw[HL.out] at hbd hbe;have h1:=harr.cell (iS 257 (kI s.data.toList c) (c+1) (by omega));have h2:=harr.cell (iS 257 (kI s.data.toList c) c (by omega));have hf:=harr.free (c+1);obtain⟨x,hx⟩:∃x,x=kI s.data.toList c (c+1):=⟨_,rfl⟩;obtain⟨y,hy⟩:∃x,x=kI s.data.toList c c:=⟨_,rfl⟩;rw[<-hx] at h1 hbd;rw[<-hy] at h2 hbe;have HX:=hid hx;have HY:=hid hy;clear hx hy;go_wp2
     go_region
     go_wp2
     go_roundw
     case rel=>
      refine⟨c+1,by omega,by go_num,?_,(hbel.setCell (aA _) _).drew⟩;have:=harr.set (c+1) (.int .i64 (x+y));rw[qD 257 _ (kI s.data.toList (c+1)) _ _ (fun d _=>by rw[aFp,HX.out,HY.out])] at this;exact this
     case measure=>simp[intOf];omega
    ·have hc':c=256:=by omega
     have HC:=hid hc';clear hc';have hd:decide ((c:Int)<256)=false:=by simp;omega
     obtain⟨wo,rfl⟩:∃wo:World,wo=wr:=⟨_,rfl⟩;go_wp2_with (at_make;refine mkA gL rfl _ _ rfl s.size rfl rfl ?_ ?_;omega);have hwo:w.heap.size<wo.heap.size:=harr.lt
     go_loopw [41] (fun i wr=>∃k:Nat,k<=s.size/\i=.int .i64 k/\Arr wr w.heap.size 226 (tab 257 (oQ s.data.toList k))/\(∃L:List Int,L.length=s.size/\Hid (∀j,j<k->L[jI s.data.toList j]? =some (j:Int))/\Arr wr wo.heap.size 3 (L.map (bO .i64)))/\Below w.heap.size w wr) (fun i _=>s.size-(intOf i).toNat)
     case atStart=>
      refine⟨0,aU _,rfl,?_,⟨bB s.size 0,by simp,hid (fun j hj=>by omega),?_⟩,hbel.alloc (by omega) _⟩
      ·have:=harr.alloc (.cells (fB (.int .i64 0) s.size) 3);rw[HC.out] at this;rwa[show tab 257 (oQ s.data.toList 0)=tab 257 (kI s.data.toList 256) from by
        apply List.map_congr_left;intro d hd;rw[aFq _ _ (by simpa using hd)]]
      ·rw[List.map_replicate];exact Arr.made _ _ _ _
     case round=>
      clear harr hbel hlt hd;obtain⟨k,hk,rfl,harr,⟨L,hL,HP,hout⟩,hbel⟩:=hrel
      by_cases hlt:k<s.size
      ·have hb:s[k].toNat<256:=s[k].toNat_lt;have HB:=hid (eW s k hlt);have hp0:=QO s.data.toList k (by rw[HL.out];exact hlt);have h1:=harr.cell (iS 257 (oQ s.data.toList k) s[k].toNat (by omega));rw[QP _ _ _ HB.out] at h1;rw[HL.out] at hp0;obtain⟨p,hp⟩:∃p,p=jI s.data.toList k:=⟨_,rfl⟩;rw[<-hp] at h1 hp0;have HPk:=hid hp;clear hp;have hf:=harr.free s[k].toNat;have hf2:=hout.free p;obtain⟨v2,hv2⟩:∃v2,(L.map (bO .i64))[p]? =some v2:=⟨_,aN (by simp;omega)⟩;have h2:=hout.cell hv2;clear hv2;go_wp2
       go_roundw
       case rel=>
        refine⟨k+1,by omega,by go_num,?_,⟨L.set p (k:Int),by simpa using hL,hid ?_,?_⟩,(hbel.setCell (by simp;omega) _).setCell (aA _) _⟩
        ·have:=(harr.other ⟨wo.heap.size,p,none⟩ (by simp;omega) (.int .i64 (k:Int))).set s[k].toNat (.int .i64 ((p:Int)+1));rw[qD 257 _ (oQ s.data.toList (k+1)) _ _ (fun d _=>by rw[aFr _ _ _ HB.out,QP _ _ _ HB.out,<-HPk.out])] at this;exact this
        ·intro j hj;rcases bT j k with h'|h'
         ·rw[List.getElem?_set_ne (fun e=>?_)]
          ·exact HP.out j h'
          ·have:=aFi s.data.toList j k (by rw[HL.out];omega) (by rw[HL.out];omega) (by rw[<-HPk.out,e]);omega
         ·have:j=k:=by omega
          subst this;rw[<-HPk.out,List.getElem?_set_self (by omega)]
        ·have:=(hout.set p (.int .i64 (k:Int))).other ⟨w.heap.size,s[k].toNat,none⟩ (by simp;omega) (.int .i64 ((p:Int)+1));rwa[<-List.map_set] at this
       case measure=>simp[intOf];omega
      ·have hk':k=s.size:=by omega
       have HK':=hid hk';clear hk';go_wp2;go_ret;have e:=aFj s.data.toList L (by rw[HL.out,hL]) (fun j hj=>HP.out j (by rw[HK'.out,<-HL.out];exact hj));have ho:=hout.own (B:=w.heap.size) (by omega) (by rw[bJ,hL];simp only[maxLen];omega);rw[bJ,hL] at ho;rw[e] at ho;exact⟨_,rfl,ho,hbel⟩
theorem uZ {a b c d:Value} (h1:a=c) (h2:b=d):Ending.returned (.tuple #[a,b])=.returned (.tuple #[c,d]):=by rw[h1,h2]
theorem WY (s:List UInt8) (k:Nat) (h:k<s.length):(rL s)[k]? =some ((nxt s k:Nat):Int):=by
 unfold rL nxt;have:k<(vec s).length:=by rw[uJ];exact h
 simp[fF,aN this]
theorem LO (s:List UInt8):(rL s).length=s.length:=by simp[rL,uJ]
theorem LP (s:ByteArray) (k:Nat) (h:k<s.size):s.data.toList.getD k 0=s[k]:=by
 simp[fF,eW s k h]
theorem aMb (s:ByteArray) (o:Int) (w:World) (hs:s.size<=1000000000) (ho1: -9223372036854775808<=o) (ho2:o<=9223372036854775807):
  Calls Tryz.prog 89 #[.string s,.int .i64 o] w fun e w'=>
   e=.returned (.tuple #[.string (mkS (lE s.data.toList o)),.int .i64 (nW s.data.toList o)])/\Below w.heap.size w w':=by
 have hl0:s.data.toList.length=s.size:=by simp
 have HL:=hid hl0
 by_cases hok:mJ s.data.toList o=true
 case neg=>
  have h0:mJ s.data.toList o=false:=by simpa using hok
  have hfin:lE s.data.toList o=[]/\nW s.data.toList o=1:=by simp[lE,nW,h0]
  have HF:=hid hfin;unfold mJ at h0;rw[hl0] at h0;clear hfin hok hl0
  by_cases hneg:o<0
  ·clear h0;have hd:decide (o<0)=true:=by simpa using hneg
   go_enter Tryz.func89,Tryz.ntmps89;go_wp2
   go_ret2
   exact⟨uZ (by rw[HF.out.1];rfl) (by rw[HF.out.2];rfl),aB _ _⟩
  ·have h1:(max (s.size:Int) 1)<=o:=by simp at h0;omega
   have h2:decide (max (s.size:Int) 1<=o)=true:=by simpa using h1
   have hd:decide (o<0)=false:=by simpa using hneg
   clear h0 h2;go_enter Tryz.func89,Tryz.ntmps89;go_wp2
   all_goals go_ret2
   all_goals exact⟨uZ (by rw[HF.out.1];rfl) (by rw[HF.out.2];rfl),aB _ _⟩
 case pos=>
  have h0:=hok;unfold mJ at h0;rw[hl0] at h0;have h1:0<=o/\o<max (s.size:Int) 1:=by simpa using h0
  obtain⟨n,rfl⟩:=Int.eq_ofNat_of_zero_le h1.1;have hfin:lE s.data.toList n=kY s.data.toList n s.size/\nW s.data.toList n=0:=by
   simp[lE,nW,hok,QT]
  have HF:=hid hfin;have hlt:n<s.size\/(s.size=0/\n=0):=by omega
  clear hfin hok hl0 h0 h1 ho1 ho2;have hd:decide ((n:Int)<0)=false:=by simp
  have HN:=hid (show 0<s.size->n<s.size from fun h=>by omega);have hlt':n<s.size\/s.size<=0/\n<=0:=by omega
  clear hlt;rcases hlt' with hlt|⟨hlt,hlt2⟩
  ·go_enter Tryz.func89,Tryz.ntmps89;go_wp2_with fail;refine(WX s _ hs).mono ?_;rintro e w1 ⟨v,rfl,hv,hB⟩;obtain⟨va,vc,rfl,hvc,hvm,hvA⟩:=hv.rd.open;rw[LO,HL.out] at hvA hvc ⊢;simp only[maxLen] at hvm;clear hv;go_wp2_with (at_make;refine mkA vQ rfl _ _ rfl s.size rfl rfl ?_ ?_;omega)
   go_loopg [8,27] s.size (fun g at_ i wr=>∃k:Nat,k<=s.size/\g=s.size-k/\i=.int .i64 k/\at_=.int .i64 ((kJ s.data.toList k n:Nat):Int)/\Arr wr w1.heap.size 5 (eO (nA s.size 0 (kY s.data.toList n k)))/\Below w.heap.size w wr/\Below w1.heap.size w1 wr)
   case atStart=>
    refine⟨0,aU _,rfl,rfl,rfl,?_,hB.alloc (by have:=hB.size;omega) _,(aB _ _).alloc (aA _) _⟩;have:=Arr.made w1 5 (.int .u8 0) s.size;rwa[show bB s.size (bO .u8 0)=eO (nA s.size 0 (kY s.data.toList n 0)) from by simp[eO,nA,kY]] at this
   case round=>
    obtain⟨k,hk,hg,rfl,rfl,harr,hbel,hbel1⟩:=hrel
    by_cases hlk:k<s.size
    ·have hn:=HN.out (by omega);have hat:=sU s.data.toList n (by rw[HL.out];exact hn) k;have hat1:=sU s.data.toList n (by rw[HL.out];exact hn) (k+1);rw[HL.out] at hat hat1;obtain⟨b1,o1,rfl,hb1,hc1⟩:=hvA (by omega);have c1:wr.cell? ⟨b1,o1+kJ s.data.toList k n,none⟩=some (.int .i64 ((kJ s.data.toList (k+1) n:Nat):Int)):=by
      rw[hbel1.cell (p:=⟨b1,o1+kJ s.data.toList k n,none⟩) hb1];exact hc1 _ _ (WY _ _ (by rw[HL.out];exact hat))
     have HBY:=hid (eW s _ hat1);have hb:s[kJ s.data.toList (k+1) n].toNat<256:=UInt8.toNat_lt _;obtain⟨x,hx⟩:=aDe s.size (0:UInt8) (kY s.data.toList n k) k hlk (by rw[sV];omega);have c2:=harr.cell (BH hx);have f2:=harr.free k;have HG:=hid hg;clear hx hvA hc1 hg;go_wp2;have hg:=HG.out
     go_roundg (s.size-(k+1))
     case measure=>omega
     case rel=>
      refine⟨k+1,by omega,rfl,by go_num,rfl,?_,hbel.setCell (by have:=hB.size;simp;omega) _,hbel1.setCell (by simp) _⟩;have:=harr.set k (.int .u8 ((s[kJ s.data.toList (k+1) n].toNat:Nat):Int));rw[OR] at this;have e:=aDd s.size (0:UInt8) s[kJ s.data.toList (k+1) n] (kY s.data.toList n k) (by rw[sV];exact hlk);rw[sV,<-LP s _ hat1,<-QV] at e;rw[<-LP s _ hat1,e] at this;rw[<-LP s _ hat1];exact this
    ·have hk':k=s.size:=by omega
     rw[hk',OS _ _ _ (by rw[sV];exact aA _)] at harr;have hcv:=lQ (harr.rdB (n:=s.size) (by rw[sV]) (by simp only[maxLen];omega));clear hk' hg;go_wp2
     go_ret2
     exact⟨uZ (by rw[HF.out.1];rfl) (by rw[HF.out.2];rfl),hbel⟩
  ·go_enter Tryz.func89,Tryz.ntmps89;go_wp2_with fail;refine(WX s _ hs).mono ?_;rintro e w1 ⟨v,rfl,hv,hB⟩;obtain⟨va,vc,rfl,hvc,hvm,hvA⟩:=hv.rd.open;rw[LO,HL.out] at hvA hvc ⊢;simp only[maxLen] at hvm;clear hv;go_wp2_with (at_make;refine mkA vQ rfl _ _ rfl s.size rfl rfl ?_ ?_;omega)
   go_loopg [8,27] s.size (fun g at_ i wr=>∃k:Nat,k<=s.size/\g=s.size-k/\i=.int .i64 k/\at_=.int .i64 ((kJ s.data.toList k n:Nat):Int)/\Arr wr w1.heap.size 5 (eO (nA s.size 0 (kY s.data.toList n k)))/\Below w.heap.size w wr/\Below w1.heap.size w1 wr)
   case atStart=>
    refine⟨0,aU _,rfl,rfl,rfl,?_,hB.alloc (by have:=hB.size;omega) _,(aB _ _).alloc (aA _) _⟩;have:=Arr.made w1 5 (.int .u8 0) s.size;rwa[show bB s.size (bO .u8 0)=eO (nA s.size 0 (kY s.data.toList n 0)) from by simp[eO,nA,kY]] at this
   case round=>
    obtain⟨k,hk,hg,rfl,rfl,harr,hbel,hbel1⟩:=hrel;have hk':k=s.size:=by omega
    rw[hk',OS _ _ _ (by rw[sV];exact aA _)] at harr;have hcv:=lQ (harr.rdB (n:=s.size) (by rw[sV]) (by simp only[maxLen];omega));clear hk' hg;go_wp2
    go_ret2
    exact⟨uZ (by rw[HF.out.1];rfl) (by rw[HF.out.2];rfl),hbel⟩
end
end Go.Proofs.YtjkjeamepgjicaaGreatDoor
