/-
  Texts put together (part 4): the walks and the plain laws on which the statement stands.
-/
import Derived.Shelf.Strings.Builder1
import Derived.Shelf.Small.Bits
import Derived.Shelf.Small.Wraps
import Derived.Shelf.Strings.BuilderF
import Derived.Shelf.Strings.BuilderK
import Derived.Shelf.Strconv.Itoa0
import Derived.Shelf.Sort.Plain
import Derived.Shelf.Strings.Prefix
import Derived.Shelf.Slices.In.SortNone
import Derived.Shelf.Bytes.IndexByte
import Derived.Test.YtpgmbhpbgkljdaaGreatDoorProg
import Derived.Test.YtpgmbhpbgkljdaaGreatDoorZ2
import Derived.Test.YtpgmbhpbgkljdaaGreatDoorZ3
set_option maxRecDepth 100000
set_option maxHeartbeats 12800000
open BitVec renaming ofNat->qZ,shiftLeft_xor_distrib->aTd,toNat_ofNat->aCq,toNat_shiftLeft->GP,toNat_ushiftRight->aTf,xor_assoc->tU
open Classical renaming byContradiction->aCc
open Go.IntKind renaming u32->rA,wrap_u32'->aCs
open Go.Lib renaming IsBuilderF->aTu,byteCells->nS
open Go.RowKit.Below renaming refl->aB
open Go.Value renaming int->bO
open Int renaming le_refl->lJ
open List renaming Perm->mT,countP_append->NN,countP_le_length->xR,getD->fF,getD_eq_getElem?_getD->aV,getElem?_append->aCa,getElem?_append_right->jY,getElem?_cons_succ->aS,getElem?_eq_getElem->aN,getElem?_eq_none->dL,getElem?_set_ne->qU,getElem?_set_self->FS,length_append->aL,length_map->bJ,length_singleton->fK,length_take->aX,perm_middle->aCf,range->dG,range_succ->sF,replicate->bB,set_append_right->ON,set_cons_zero->aH,take_add_one->cQ,take_append_drop->jE,take_length->kE
open List.Perm renaming cons->GK,refl->xP
open Nat renaming add_assoc->dZ,add_sub_cancel'->aCb,add_zero->pH,eq_zero_or_pos->fJ,le_refl->aA,lt_or_ge->bT,lt_trichotomy->pW,mod_add_div->NU,mod_eq_of_lt->kU,mod_lt->jQ,shiftLeft_eq->GQ,shiftRight_eq_div_pow->AK,strongRecOn->FT,sub_self->oI,zero_le->aU
open Option.some renaming inj->bW
namespace Go.Proofs.YtpgmbhpbgkljdaaGreatDoor
def rT (x:BitVec 32):BitVec 32:=if x.msb then(x<<<1)^^^79764919#32 else x<<<1
def rU (x:BitVec 32) (b:Bool):BitVec 32:=if x.msb != b then(x<<<1)^^^79764919#32 else x<<<1
def jL:Nat->BitVec 32->BitVec 32
 |0,x=>x
 |k+1,x=>rT (jL k x)
theorem TS (x y:BitVec 32):rT (x^^^y)=rT x^^^rT y:=by
 unfold rT;rw[BitVec.msb_xor,aTd]
 cases hx:x.msb<;>cases hy:y.msb<;>simp
 ·rw[tU]
 ·rw[tU,tU,BitVec.xor_comm (y<<<1)]
 ·rw[tU,<-tU (79764919#32),BitVec.xor_comm (79764919#32) (y<<<1),tU,BitVec.xor_self,BitVec.xor_zero]
theorem KI (k:Nat) (x y:BitVec 32):jL k (x^^^y)=jL k x^^^jL k y:=by
 induction k with
 |zero=>rfl
 |succ k ih=>unfold jL;rw[ih,TS]
def kN (i:Nat):BitVec 32:=jL 8 (qZ 32 i<<<24)
def nY (x:BitVec 32) (b:Nat):Nat->BitVec 32
 |0=>x
 |k+1=>rU (nY x b k) (b.testBit (7-k))
theorem aIo:∀b:Fin 256,∀k:Fin 8,rU (0#32) (b.val.testBit (7-k.val))^^^(qZ 32 b.val<<<(24+k.val+1))=rT (qZ 32 b.val<<<(24+k.val)):=by decide+kernel
theorem aIp (x:BitVec 32) (b:Bool):rU x b=rT x^^^rU (0#32) b:=by
 unfold rU rT
 cases hx:x.msb<;>cases b<;>simp[tU]
theorem aIq (x:BitVec 32) (b:Nat) (hb:b<256):∀k,k<=8->nY x b k^^^(qZ 32 b<<<(24+k))=jL k (x^^^(qZ 32 b<<<24)):=by
 intro k
 induction k with
 |zero=>intro _;rfl
 |succ k ih=>
  intro hk;have h:=ih (by omega);unfold jL nY;rw[<-h,TS,aIp,tU]
  congr 1
  exact aIo ⟨b,hb⟩ ⟨k,by omega⟩
theorem aIr:∀b:Fin 256,qZ 32 b.val<<<32=0#32:=by decide+kernel
theorem aIs (x:BitVec 32) (b:Nat) (hb:b<256):nY x b 8=jL 8 (x^^^(qZ 32 b<<<24)):=by
 rw[<-aIq x b hb 8 (aA _),show 24+8=32 from rfl,aIr ⟨b,hb⟩,BitVec.xor_zero]
theorem aIt:∀k (x:BitVec 32),x.toNat*2^k<4294967296->(jL k x).toNat=x.toNat*2^k:=by
 intro k
 induction k with
 |zero=>intro x _;simp[jL]
 |succ k ih=>
  intro x hx;rw[Nat.pow_succ,<-Nat.mul_assoc] at hx ⊢;have h:=ih x (by omega);unfold jL rT;have hm:(jL k x).msb=false:=by
   rw[BitVec.msb_eq_decide,h];exact decide_eq_false (by simp;omega)
  rw[hm,if_neg (by decide),GP,h,GQ];rw[kU (by simp;omega)]
theorem aIu (x:BitVec 32):x=(x&&&0xffffff#32)^^^((x>>>24)<<<24):=by
 apply BitVec.eq_of_getLsbD_eq;intro i hi;simp only[BitVec.getLsbD_xor,BitVec.getLsbD_and,BitVec.getLsbD_shiftLeft,BitVec.getLsbD_ushiftRight]
 by_cases h:i<24
 ·have:(0xffffff#32).getLsbD i=true:=by
   rcases(show ∃j:Fin 24,j.val=i from⟨⟨i,h⟩,rfl⟩) with⟨j,rfl⟩;exact(by decide+kernel:∀j:Fin 24,(0xffffff#32).getLsbD j.val=true) j
  simp[h,this]
 ·have:(0xffffff#32).getLsbD i=false:=by
   rcases(show ∃j:Fin 8,j.val+24=i from⟨⟨i-24,by omega⟩,by simp;omega⟩) with⟨j,rfl⟩;exact(by decide+kernel:∀j:Fin 8,(0xffffff#32).getLsbD (j.val+24)=false) j
  rw[this];simp[h,hi,show 24+(i-24)=i by omega]
theorem aIv (c:BitVec 32) (b:Nat) (hb:b<256):nY c b 8=(c<<<8)^^^kN ((c>>>24).toNat^^^b):=by
 rw[aIs c b hb];have hs:=aIu c;have hlow:jL 8 (c&&&0xffffff#32)=c<<<8:=by
  apply BitVec.eq_of_toNat_eq;have h1:(c&&&0xffffff#32).toNat=c.toNat%16777216:=by
   rw[BitVec.toNat_and];exact Nat.and_two_pow_sub_one_eq_mod c.toNat 24
  rw[aIt 8 _ (by rw[h1];omega),h1,GP,GQ];omega
 have hx:qZ 32 ((c>>>24).toNat^^^b)=(c>>>24)^^^qZ 32 b:=by
  apply BitVec.eq_of_toNat_eq;have h1:(c>>>24).toNat<256:=by rw[aTf,AK];have:=c.isLt;omega
  have h2:(c>>>24).toNat^^^b<256:=Nat.xor_lt_two_pow (n:=8) h1 hb;rw[aCq,BitVec.toNat_xor,aCq,kU (by omega),kU (b:=2^32) (by omega)]
 unfold kN;rw[hx,aTd,KI,KI]
 conv=>lhs;rw[hs,KI]
 rw[hlow,tU]
def kQ (c:BitVec 32) (s:List UInt8):BitVec 32:=s.foldl (fun c b=>nY c b.toNat 8) c
def fG (s:List UInt8):BitVec 32:= ~~~ kQ (0xffffffff#32) s
theorem aIw (c:BitVec 32) (s:List UInt8) (b:UInt8):kQ c (s++[b])=nY (kQ c s) b.toNat 8:=by unfold kQ;rw[List.foldl_append];rfl
def ltc (s:List UInt8) (c:Nat):Nat:=s.countP (fun b=>decide (b.toNat<c))
def eqc (s:List UInt8) (c:Nat):Nat:=s.countP (fun b=>b.toNat==c)
theorem CG (s:List UInt8) (c:Nat):ltc s (c+1)=ltc s c+eqc s c:=by
 unfold ltc eqc
 induction s with
 |nil=>rfl
 |cons b l ih=>
  simp only[List.countP_cons,ih]
  by_cases h1:b.toNat<c
  ·have:b.toNat<c+1:=by omega
   have:b.toNat≠c:=by omega
   simp[*];omega
  ·by_cases h2:b.toNat=c
   ·simp[h2];omega
   ·have:¬b.toNat<c+1:=by omega
    simp[*]
theorem QL (s:List UInt8):ltc s 0=0:=by simp[ltc]
theorem QM (s:List UInt8):ltc s 256=s.length:=by
 unfold ltc;rw[List.countP_eq_length];intro b _;simp;exact b.toNat_lt
theorem QN (s:List UInt8) (c d:Nat) (h:c<=d):ltc s c<=ltc s d:=by
 induction d with
 |zero=>
   have:c=0:=by omega
   subst this;exact aA _
 |succ d ih=>
  rcases bT d c with h'|h'
  ·have:c=d+1:=by omega
   subst this;exact aA _
  ·rw[CG];have:=ih h';omega
theorem CH (s:List UInt8) (k c:Nat) (b:UInt8) (h:s[k]? =some b):eqc (s.take (k+1)) c=eqc (s.take k) c+if b.toNat=c then 1 else 0:=by
 unfold eqc;rw[cQ,h,NN]
 by_cases hb:b.toNat=c<;>simp[hb]
theorem JD (s:List UInt8) (k c:Nat):eqc (s.take k) c<=eqc s c:=by
 unfold eqc;have h:=congrArg (List.countP (fun b=>b.toNat==c)) (jE k s);rw[NN] at h;omega
def mG (s:List UInt8) (c n:Nat):List Nat:=(dG n).filter (fun i=>(s.getD i 0).toNat==c)
theorem CI (s:List UInt8) (c n:Nat) (b:UInt8) (h:s[n]? =some b):mG s c (n+1)=mG s c n++if b.toNat=c then[n] else[]:=by
 unfold mG;rw[sF,List.filter_append];have:s.getD n 0=b:=by simp[h]
 by_cases hb:b.toNat=c<;>simp[h,hb]
theorem JE (s:List UInt8) (c:Nat):∀n,n<=s.length->(mG s c n).length=eqc (s.take n) c
 |0,_=>by simp[mG,eqc]
 |n+1,h=>by
  obtain⟨b,hb⟩:∃b,s[n]? =some b:=⟨_,aN (by omega)⟩;rw[CI s c n b hb,CH s n c b hb,aL,JE s c n (by omega)]
  by_cases h:b.toNat=c<;>simp[h]
theorem JF (s:List UInt8) (c:Nat):∀n,n<=s.length->∀i j,(mG s c n)[i]? =some j↔(j<n/\(∃b,s[j]? =some b/\b.toNat=c)/\i=eqc (s.take j) c)
 |0,_,i,j=>by simp[mG]
 |n+1,h,i,j=>by
  obtain⟨b,hb⟩:∃b,s[n]? =some b:=⟨_,aN (by omega)⟩;have hl:=JE s c n (by omega);have ih:=JF s c n (by omega) i j;rw[CI s c n b hb,aCa];split
  ·rename_i hi
   rw[ih];constructor
   ·rintro⟨h1,h2,h3⟩;exact⟨by omega,h2,h3⟩
   ·rintro⟨h1,h2,h3⟩;refine⟨?_,h2,h3⟩;rcases bT j n with h'|h'
    ·exact h'
    ·have:j=n:=by omega
     subst this;omega
  ·rename_i hi
   have hn:∀j',j'<n->i=eqc (s.take j') c->(∃b,s[j']? =some b/\b.toNat=c)->False:=by
    intro j' hj' he hb';have:=(JF s c n (by omega) i j').2 ⟨hj',hb',he⟩;rw[dL (by omega)] at this
    cases this
   by_cases hc:b.toNat=c
   ·rw[if_pos hc];constructor
    ·intro h';have hi0:i-(mG s c n).length=0:=by
      rcases fJ (i-(mG s c n).length) with h0|h0
      ·exact h0
      ·rw[dL (by simp;omega)] at h';cases h'
     rw[hi0] at h';have:n=j:=by simpa using h'
     subst this;exact⟨by omega,⟨b,hb,hc⟩,by omega⟩
    ·rintro⟨h1,h2,h3⟩;rcases bT j n with h'|h'
     ·exact(hn j h' h3 h2).elim
     ·have:j=n:=by omega
      subst this;rw[show i-(mG s c j).length=0 by omega];rfl
   ·rw[if_neg hc];constructor
    ·intro h';simp at h'
    ·rintro⟨h1,⟨b',h2,h4⟩,h3⟩;rcases bT j n with h'|h'
     ·exact(hn j h' h3 ⟨b',h2,h4⟩).elim
     ·have:j=n:=by omega
      subst this;rw[hb] at h2;cases h2;exact absurd h4 hc
def nV (s:List UInt8):Nat->List Nat
 |0=>[]
 |m+1=>nV s m++mG s m s.length
def vec (s:List UInt8):List Nat:=nV s 256
theorem CJ (s:List UInt8):∀m,(nV s m).length=ltc s m
 |0=>by simp[nV,QL]
 |m+1=>by
  rw[nV,aL,CJ s m,JE s m _ (aA _),kE,CG]
theorem uJ (s:List UInt8):(vec s).length=s.length:=by rw[vec,CJ,QM]
def jI (s:List UInt8) (j:Nat):Nat:=ltc s (s.getD j 0).toNat+eqc (s.take j) (s.getD j 0).toNat
theorem JG (s:List UInt8):∀m i j,(nV s m)[i]? =some j↔(j<s.length/\(s.getD j 0).toNat<m/\i=jI s j)
 |0,i,j=>by simp[nV]
 |m+1,i,j=>by
  have hl:=CJ s m;rw[nV,aCa];split
  ·rename_i hi
   rw[JG s m i j];constructor
   ·rintro⟨h1,h2,h3⟩;exact⟨h1,by omega,h3⟩
   ·rintro⟨h1,h2,h3⟩;refine⟨h1,?_,h3⟩;rcases bT (s.getD j 0).toNat m with h'|h'
    ·exact h'
    ·have he:(s.getD j 0).toNat=m:=by omega
     unfold jI at h3;rw[he] at h3;omega
  ·rename_i hi
   rw[JF s m _ (aA _)];constructor
   ·rintro⟨h1,⟨b,h2,h3⟩,h4⟩;have hg:s.getD j 0=b:=by simp[h2]
    refine⟨h1,by rw[hg];omega,?_⟩;unfold jI;rw[hg,h3];omega
   ·rintro⟨h1,h2,h3⟩;have hge:m<=(s.getD j 0).toNat:=by
     rcases bT (s.getD j 0).toNat m with h'|h'
     ·have:=(JG s m i j).2 ⟨h1,h',h3⟩;rw[dL (by omega)] at this;cases this
     ·exact h'
    have he:(s.getD j 0).toNat=m:=by omega
    refine⟨h1,⟨s.getD j 0,by simp[aN h1],he⟩,?_⟩;unfold jI at h3;rw[he] at h3;omega
theorem uK (s:List UInt8) (i j:Nat):(vec s)[i]? =some j↔(j<s.length/\i=jI s j):=by
 rw[vec,JG];constructor
 ·rintro⟨h1,_,h3⟩;exact⟨h1,h3⟩
 ·rintro⟨h1,h3⟩;exact⟨h1,(s.getD j 0).toNat_lt,h3⟩
theorem QO (s:List UInt8) (j:Nat) (h:j<s.length):jI s j<s.length:=by
 have:=(uK s (jI s j) j).2 ⟨h,rfl⟩;have:=(List.getElem?_eq_some_iff.1 this).1;rw[uJ] at this;exact this
theorem aFi (s:List UInt8) (j k:Nat) (hj:j<s.length) (hk:k<s.length) (h:jI s j=jI s k):j=k:=by
 have h1:=(uK s (jI s j) j).2 ⟨hj,rfl⟩;have h2:=(uK s (jI s k) k).2 ⟨hk,rfl⟩;rw[h,h2] at h1;exact(bW h1).symm
def rL (s:List UInt8):List Int:=(vec s).map Int.ofNat
theorem aFj (s:List UInt8) (l:List Int) (hl:l.length=s.length) (h:∀j,j<s.length->l[jI s j]? =some (j:Int)):l=rL s:=by
 unfold rL;apply List.ext_getElem?;intro i;rcases bT i s.length with hi|hi
 ·obtain⟨j,hj⟩:∃j,(vec s)[i]? =some j:=⟨_,aN (by rw[uJ];exact hi)⟩;obtain⟨h1,h2⟩:=(uK s i j).1 hj;rw[List.getElem?_map,hj,h2,h j h1];rfl
 ·rw[dL (by omega),dL (by rw[bJ,uJ];exact hi)]
def nxt (s:List UInt8) (i:Nat):Nat:=(vec s).getD i 0
theorem CK (s:List UInt8) (i:Nat) (h:i<s.length):nxt s i<s.length:=by
 obtain⟨j,hj⟩:∃j,(vec s)[i]? =some j:=⟨_,aN (by rw[uJ];exact h)⟩;have:=((uK s i j).1 hj).1;simp[nxt,fF,hj,this]
theorem CM (s:List UInt8) (i:Nat) (h:i<s.length):jI s (nxt s i)=i:=by
 obtain⟨j,hj⟩:∃j,(vec s)[i]? =some j:=⟨_,aN (by rw[uJ];exact h)⟩;have:=((uK s i j).1 hj).2;simp[nxt,fF,hj,<-this]
theorem aFk (s:List UInt8) (j:Nat) (h:j<s.length):nxt s (jI s j)=j:=by
 have:=(uK s (jI s j) j).2 ⟨h,rfl⟩;simp[nxt,fF,this]
theorem aFl (s:List UInt8) (i j:Nat) (hi:i<s.length) (hj:j<s.length) (h:nxt s i=nxt s j):i=j:=by
 rw[<-CM s i hi,<-CM s j hj,h]
def mH (s:List UInt8) (k d:Nat):Int:=if d=0 then 0 else(eqc (s.take k) (d-1):Int)
def kI (s:List UInt8) (c d:Nat):Int:=if d<=c then(ltc s d:Int) else(eqc s (d-1):Int)
def oQ (s:List UInt8) (k d:Nat):Int:=(ltc s d:Int)+(eqc (s.take k) d:Int)
theorem aFm (s:List UInt8):mH s 0=fun _=>0:=by funext d;simp[mH,eqc]
theorem aFn (s:List UInt8) (k:Nat) (b:UInt8) (h:s[k]? =some b) (d:Nat):mH s (k+1) d=if d=b.toNat+1 then mH s k (b.toNat+1)+1 else mH s k d:=by
 unfold mH
 by_cases h0:d=0
 ·subst h0;rw[if_pos rfl,if_neg (by omega),if_pos rfl]
 ·rw[if_neg h0,CH s k _ b h]
  by_cases hd:d=b.toNat+1
  ·subst hd;simp
  ·rw[if_neg hd,if_neg h0,if_neg (by omega)];simp
theorem aFo (s:List UInt8):mH s s.length=kI s 0:=by
 funext d
 unfold mH kI;rw[kE]
 by_cases h0:d=0
 ·subst h0;simp[QL]
 ·rw[if_neg h0,if_neg (by omega)]
theorem aFp (s:List UInt8) (c d:Nat):kI s (c+1) d=if d=c+1 then kI s c (c+1)+kI s c c else kI s c d:=by
 unfold kI
 by_cases hd:d=c+1
 ·subst hd;rw[if_pos rfl,if_pos (aA _),if_neg (by omega),if_pos (aA _),CG];simp;omega
 ·rw[if_neg hd]
  by_cases h:d<=c
  ·rw[if_pos h,if_pos (by omega)]
  ·rw[if_neg h,if_neg (by omega)]
theorem aFq (s:List UInt8) (d:Nat) (h:d<257):oQ s 0 d=kI s 256 d:=by
 unfold kI oQ;rw[if_pos (by omega)];simp[eqc]
theorem aFr (s:List UInt8) (k:Nat) (b:UInt8) (h:s[k]? =some b) (d:Nat):oQ s (k+1) d=if d=b.toNat then oQ s k b.toNat+1 else oQ s k d:=by
 unfold oQ;rw[CH s k _ b h]
 by_cases hd:d=b.toNat
 ·subst hd;simp;omega
 ·rw[if_neg hd,if_neg (by omega)];simp
theorem QP (s:List UInt8) (k:Nat) (b:UInt8) (h:s[k]? =some b):oQ s k b.toNat=(jI s k:Int):=by
 unfold oQ jI;have:s.getD k 0=b:=by simp[h]
 rw[this];simp
theorem QQ (s:List UInt8) (c:Nat):eqc s c<=s.length:=xR
theorem aFs (s:List UInt8) (c:Nat):ltc s c<=s.length:=xR
theorem aFt (s:List UInt8) (k d:Nat):0<=mH s k d/\mH s k d<=s.length:=by
 unfold mH;split
 ·omega
 ·have:=JD s k (d-1);have:=QQ s (d-1);omega
theorem QS (s:List UInt8) (k d:Nat):0<=kI s k d/\kI s k d<=s.length:=by
 unfold kI;split
 ·have:=aFs s d;omega
 ·have:=QQ s (d-1);omega
attribute [irreducible] vec
theorem php:∀(n:Nat) (f:Nat->Nat),(∀k,k<=n->f k<n)->∃a b,a<b/\b<=n/\f a=f b
 |0,f,h=>absurd (h 0 (aA 0)) (Nat.not_lt_zero _)
 |n+1,f,h=>by
  by_cases hc:∃k,k<=n/\f k=f (n+1)
  ·obtain⟨k,h1,h2⟩:=hc;exact⟨k,n+1,by omega,aA _,h2⟩
  ·have hne:∀k,k<=n->f k≠f (n+1):=fun k hk e=>hc ⟨k,hk,e⟩
   have hn:=h (n+1) (aA _);obtain⟨a,b,h1,h2,h3⟩:=php n (fun k=>if f (n+1)<f k then f k-1 else f k) (fun k hk=>by
    have:=h k (by omega);have:=hne k hk;split<;>omega)
   refine⟨a,b,h1,by omega,?_⟩;have ha:=hne a (by omega);have hb:=hne b h2;split at h3<;>split at h3<;>omega
def kJ (s:List UInt8):Nat->Nat->Nat
 |0,o=>o
 |k+1,o=>nxt s (kJ s k o)
theorem sU (s:List UInt8) (o:Nat) (h:o<s.length):∀k,kJ s k o<s.length
 |0=>h
 |k+1=>CK s _ (sU s o h k)
def nF (s:List UInt8) (o:Nat):List UInt8:=(dG s.length).map (fun i=>s.getD (kJ s (i+1) o) 0)
def kY (s:List UInt8) (o k:Nat):List UInt8:=(dG k).map (fun i=>s.getD (kJ s (i+1) o) 0)
theorem QT (s:List UInt8) (o:Nat):nF s o=kY s o s.length:=rfl
theorem QV (s:List UInt8) (o k:Nat):kY s o (k+1)=kY s o k++[s.getD (kJ s (k+1) o) 0]:=by simp[kY,sF]
theorem sV (s:List UInt8) (o k:Nat):(kY s o k).length=k:=by simp[kY]
theorem CN (s:List UInt8) (o:Nat):(nF s o).length=s.length:=by simp[nF]
def mJ (s:List UInt8) (o:Int):Bool:=decide (0<=o)&&decide (o<max (s.length:Int) 1)
def lE (s:List UInt8) (o:Int):List UInt8:=if mJ s o then nF s o.toNat else[]
def nW (s:List UInt8) (o:Int):Int:=if mJ s o then 0 else 1
theorem aFv (s:List UInt8) (o i:Nat) (h:i<s.length):(nF s o)[i]? =some (s.getD (kJ s (i+1) o) 0):=by simp[nF,h]
theorem aFw (s:List UInt8) (a b c:Nat) (h:a<=b):eqc (s.take a) c<=eqc (s.take b) c:=by
 have:=JD (s.take b) a c;rwa[List.take_take,Nat.min_eq_left h] at this
theorem aFx (s:List UInt8) (i:Nat) (h:i+1<s.length):
  (s.getD (nxt s i) 0).toNat<=(s.getD (nxt s (i+1)) 0).toNat/\((s.getD (nxt s i) 0).toNat=(s.getD (nxt s (i+1)) 0).toNat->nxt s i<nxt s (i+1)):=by
 have ha:=CK s i (by omega);have hb:=CK s (i+1) h;have pa:=CM s i (by omega);have pb:=CM s (i+1) h;generalize nxt s i=a at*
 generalize nxt s (i+1)=b at*
 unfold jI at pa pb;obtain⟨y,hy⟩:∃y,s[b]? =some y:=⟨_,aN hb⟩;have hgb:s.getD b 0=y:=by simp[hy]
 have h1:=CH s b y.toNat y hy;rw[if_pos rfl] at h1;have h2:=JD s (b+1) y.toNat;rw[hgb] at pb ⊢;constructor
 ·rcases bT y.toNat (s.getD a 0).toNat with hc|hc
  ·have h3:=QN s (y.toNat+1) _ hc;rw[CG] at h3;omega
  ·exact hc
 ·intro e;rw[e] at pa;rcases bT a b with h4|h4
  ·exact h4
  ·have:=aFw s b a y.toNat h4;omega
section
variable {c:Nat->Nat}
def eqm (c:Nat->Nat) (m a b:Nat):Prop:=∀t,t<m->c (a+t)=c (b+t)
def ltm (c:Nat->Nat) (m a b:Nat):Prop:=∃t,t<m/\(∀u,u<t->c (a+u)=c (b+u))/\c (a+t)<c (b+t)
theorem eqm.refl (m a:Nat):eqm c m a a:=fun _ _=>rfl
theorem eqm.symm {m a b:Nat} (h:eqm c m a b):eqm c m b a:=fun t ht=>(h t ht).symm
theorem eqm.trans {m a b d:Nat} (h:eqm c m a b) (k:eqm c m b d):eqm c m a d:=fun t ht=>(h t ht).trans (k t ht)
theorem ltm.trans {m a b d:Nat} (h:ltm c m a b) (k:ltm c m b d):ltm c m a d:=by
 obtain⟨t,t1,t2,t3⟩:=h;obtain⟨u,u1,u2,u3⟩:=k;rcases pW t u with p|p|p
 ·exact⟨t,t1,fun v hv=>(t2 v hv).trans (u2 v (by omega)),by rw[<-u2 t p];exact t3⟩
 ·subst p;exact⟨t,t1,fun v hv=>(t2 v hv).trans (u2 v hv),by omega⟩
 ·exact⟨u,u1,fun v hv=>(t2 v (by omega)).trans (u2 v hv),by rw[t2 u p];exact u3⟩
theorem ltm.not_eqm {m a b:Nat} (h:ltm c m a b):¬eqm c m a b:=fun k=>by
 obtain⟨t,t1,_,t3⟩:=h;have:=k t t1;omega
theorem ltm.irrefl {m a:Nat}:¬ltm c m a a:=fun h=>h.not_eqm (eqm.refl m a)
theorem ltm.asymm {m a b:Nat} (h:ltm c m a b):¬ltm c m b a:=fun k=>ltm.irrefl (h.trans k)
theorem ltm.eqm {m a b d:Nat} (h:ltm c m a b) (k:eqm c m b d):ltm c m a d:=by
 obtain⟨t,t1,t2,t3⟩:=h;exact⟨t,t1,fun v hv=>(t2 v hv).trans (k v (by omega)),by rw[<-k t t1];exact t3⟩
theorem eqm.ltm {m a b d:Nat} (h:eqm c m a b) (k:ltm c m b d):ltm c m a d:=by
 obtain⟨t,t1,t2,t3⟩:=k;exact⟨t,t1,fun v hv=>(h v (by omega)).trans (t2 v hv),by rw[h t t1];exact t3⟩
theorem uL (c:Nat->Nat) (a b:Nat):∀m,ltm c m a b\/eqm c m a b\/ltm c m b a:=by
 intro m
 induction m with
 |zero=>exact .inr (.inl (fun t h=>by omega))
 |succ m ih=>
  rcases ih with⟨t,t1,t2,t3⟩|h|⟨t,t1,t2,t3⟩
  ·exact .inl ⟨t,by omega,t2,t3⟩
  ·rcases pW (c (a+m)) (c (b+m)) with p|p|p
   ·exact .inl ⟨m,by omega,fun u hu=>h u hu,p⟩
   ·refine .inr (.inl (fun t ht=>?_));rcases bT t m with q|q
    ·exact h t q
    ·have:t=m:=by omega
     rw[this];exact p
   ·exact .inr (.inr ⟨m,by omega,fun u hu=>(h u hu).symm,p⟩)
  ·exact .inr (.inr ⟨t,by omega,t2,t3⟩)
theorem QW (m k a b:Nat):ltm c (m+k) a b↔ltm c m a b\/(eqm c m a b/\ltm c k (a+m) (b+m)):=by
 constructor
 ·rintro⟨t,t1,t2,t3⟩;rcases bT t m with p|p
  ·exact .inl ⟨t,p,t2,t3⟩
  ·refine .inr ⟨fun u hu=>t2 u (by omega),t-m,by omega,fun u hu=>?_,?_⟩
   ·have:=t2 (m+u) (by omega);rwa[<-dZ,<-dZ] at this
   ·rw[dZ,dZ,aCb p];exact t3
 ·rintro(⟨t,t1,t2,t3⟩|⟨h,t,t1,t2,t3⟩)
  ·exact⟨t,by omega,t2,t3⟩
  ·refine⟨m+t,by omega,fun u hu=>?_,by rw[<-dZ,<-dZ];exact t3⟩;rcases bT u m with p|p
   ·exact h u p
   ·have:=t2 (u-m) (by omega);rwa[dZ,dZ,aCb p] at this
theorem aFy (m k a b:Nat):eqm c (m+k) a b↔eqm c m a b/\eqm c k (a+m) (b+m):=by
 constructor
 ·intro h;refine⟨fun t ht=>h t (by omega),fun t ht=>?_⟩;have:=h (m+t) (by omega);rwa[<-dZ,<-dZ] at this
 ·rintro⟨h,k'⟩ t ht;rcases bT t m with p|p
  ·exact h t p
  ·have:=k' (t-m) (by omega);rwa[dZ,dZ,aCb p] at this
def Cyc (c:Nat->Nat) (n:Nat):Prop:=∀i,c (i+n)=c i
theorem Cyc.mul {n:Nat} (h:Cyc c n) (i q:Nat):c (i+n*q)=c i:=by
 induction q with
 |zero=>rfl
 |succ q ih=>rw[Nat.mul_succ,<-dZ,h,ih]
theorem Cyc.mod {n:Nat} (h:Cyc c n) (i:Nat):c (i%n)=c i:=by
 have:=h.mul (i%n) (i/n);rw[NU] at this;exact this.symm
theorem Cyc.mod_add {n:Nat} (h:Cyc c n) (i t:Nat):c (i%n+t)=c (i+t):=by
 rw[<-h.mod (i%n+t),<-h.mod (i+t),Nat.mod_add_mod]
theorem Cyc.ltm {n:Nat} (h:Cyc c n) (m a b:Nat):ltm c m (a%n) (b%n)↔ltm c m a b:=by
 unfold Go.Proofs.YtpgmbhpbgkljdaaGreatDoor.ltm;simp only[h.mod_add]
theorem Cyc.eqm {n:Nat} (h:Cyc c n) (m a b:Nat):eqm c m (a%n) (b%n)↔eqm c m a b:=by
 unfold Go.Proofs.YtpgmbhpbgkljdaaGreatDoor.eqm;simp only[h.mod_add]
theorem Cyc.all {n:Nat} (h:Cyc c n) (hn:0<n) {m a b:Nat} (hm:n<=m):(Go.Proofs.YtpgmbhpbgkljdaaGreatDoor.eqm c m a b↔Go.Proofs.YtpgmbhpbgkljdaaGreatDoor.eqm c n a b)/\(Go.Proofs.YtpgmbhpbgkljdaaGreatDoor.ltm c m a b↔Go.Proofs.YtpgmbhpbgkljdaaGreatDoor.ltm c n a b):=by
 have key:Go.Proofs.YtpgmbhpbgkljdaaGreatDoor.eqm c n a b->Go.Proofs.YtpgmbhpbgkljdaaGreatDoor.eqm c m a b:=fun k t _=>by
  have e:∀x,c (x+t)=c (x+t%n):=fun x=>by
   have:=h.mul (x+t%n) (t/n);rw[dZ,NU] at this;exact this
  rw[e a,e b];exact k (t%n) (jQ _ hn)
 refine⟨⟨fun k t ht=>k t (by omega),key⟩,⟨fun k=>?_,fun⟨t,t1,t2,t3⟩=>⟨t,by omega,t2,t3⟩⟩⟩;rcases uL c a b n with p|p|p
 ·exact p
 ·exact absurd (key p) k.not_eqm
 ·obtain⟨t,t1,t2,t3⟩:=p;exact absurd ⟨t,by omega,t2,t3⟩ k.asymm
def sW (c:Nat->Nat) (n m:Nat) (r:Nat->Int):Prop:=∀a b,a<n->b<n->(r a<r b↔ltm c m a b)
theorem sW.eq {n m:Nat} {r:Nat->Int} (h:sW c n m r) {a b:Nat} (ha:a<n) (hb:b<n):r a=r b↔eqm c m a b:=by
 constructor
 ·intro e;rcases uL c a b m with p|p|p
  ·have:=(h a b ha hb).2 p;omega
  ·exact p
  ·have:=(h b a hb ha).2 p;omega
 ·intro e;rcases Int.lt_trichotomy (r a) (r b) with p|p|p
  ·exact absurd e ((h a b ha hb).1 p).not_eqm
  ·exact p
  ·exact absurd e.symm ((h b a hb ha).1 p).not_eqm
def yK (r:Nat->Int) (n M x y:Nat):Int:=
 if r x<r y then-1 else if r y<r x then 1 else if r ((x+M)%n)<r ((y+M)%n) then-1 else if r ((y+M)%n)<r ((x+M)%n) then 1 else 0
theorem QX {n M x y:Nat} {r:Nat->Int} (hc:Cyc c n) (h:sW c n (max M 1) r) (hx:x<n) (hy:y<n):
  (yK r n M x y<0↔ltm c (max (2*M) 1) x y)/\(yK r n M x y=0↔eqm c (max (2*M) 1) x y):=by
 have hn:0<n:=by omega
 have e1:=h x y hx hy;have e2:=h y x hy hx;have e3:=h.eq hx hy;have f1:=h ((x+M)%n) ((y+M)%n) (jQ _ hn) (jQ _ hn);have f2:=h ((y+M)%n) ((x+M)%n) (jQ _ hn) (jQ _ hn);have f3:=h.eq (jQ (x+M) hn) (jQ (y+M) hn);rw[hc.ltm] at f1 f2;rw[hc.eqm] at f3;have a1:ltm c (max (2*M) 1) x y↔r x<r y\/(r x=r y/\r ((x+M)%n)<r ((y+M)%n)):=by
  rcases fJ M with h0|h0
  ·subst h0;rw[f1,e1,e3];simp only[Nat.max_def,pH];constructor
   ·exact .inl
   ·rintro(p|⟨p,q⟩)
    ·exact p
    ·exact q
  ·rw[f1,e1,e3,show max (2*M) 1=M+M by omega,show max M 1=M by omega,QW]
 have a2:eqm c (max (2*M) 1) x y↔(r x=r y/\r ((x+M)%n)=r ((y+M)%n)):=by
  rcases fJ M with h0|h0
  ·subst h0;rw[f3,e3];simp only[Nat.max_def,pH];exact⟨fun p=>⟨p,p⟩,fun p=>p.1⟩
  ·rw[f3,e3,show max (2*M) 1=M+M by omega,show max M 1=M by omega,aFy]
 rw[a1,a2];unfold yK;generalize r x=p;generalize r y=q;generalize r ((x+M)%n)=s;generalize r ((y+M)%n)=t;clear a1 a2 e1 e2 e3 f1 f2 f3 h
 by_cases h1:p<q
 ·rw[if_pos h1];constructor<;>constructor<;>intro _<;>omega
 ·rw[if_neg h1]
  by_cases h2:q<p
  ·rw[if_pos h2];constructor<;>constructor<;>intro _<;>omega
  ·rw[if_neg h2]
   by_cases h3:s<t
   ·rw[if_pos h3];constructor<;>constructor<;>intro _<;>omega
   ·rw[if_neg h3]
    by_cases h4:t<s
    ·rw[if_pos h4];constructor<;>constructor<;>intro _<;>omega
    ·rw[if_neg h4];constructor<;>constructor<;>intro _<;>omega
def bef (c:Nat->Nat) (m:Nat) (x y:Int):Prop:=ltm c m x.toNat y.toNat\/(eqm c m x.toNat y.toNat/\x<y)
theorem vW (c:Nat->Nat) (m:Nat):rI (bef c m):=by
 refine⟨?_,?_,?_⟩
 ·rintro x y z (h|⟨h,h'⟩) (k|⟨k,k'⟩)
  ·exact .inl (h.trans k)
  ·exact .inl (h.eqm k)
  ·exact .inl (h.ltm k)
  ·exact .inr ⟨h.trans k,by omega⟩
 ·intro x y hne;rcases uL c x.toNat y.toNat m with p|p|p
  ·exact .inl (.inl p)
  ·rcases Int.lt_or_gt_of_ne hne with q|q
   ·exact .inl (.inr ⟨p,q⟩)
   ·exact .inr (.inr ⟨p.symm,q⟩)
  ·exact .inr (.inl p)
 ·rintro x (h|⟨_,h⟩)
  ·exact ltm.irrefl h
  ·omega
structure Ord (c:Nat->Nat) (n m:Nat) (o:Nat->Int):Prop where
 rng:∀k,k<n->0<=o k/\o k<(n:Int)
 srt:gM (bef c m) o 0 n
theorem Ord.ne {n m:Nat} {o:Nat->Int} (h:Ord c n m o) {i j:Nat} (hi:i<n) (hj:j<n) (hij:i≠j):o i≠o j:=by
 intro e;rcases Nat.lt_or_gt_of_ne hij with p|p
 ·have:=h.srt i j (aU _) p hj;rw[e] at this;exact(vW c m).irr _ this
 ·have:=h.srt j i (aU _) p hi;rw[e] at this;exact(vW c m).irr _ this
theorem Ord.onto {n m:Nat} {o:Nat->Int} (h:Ord c n m o) {y:Nat} (hy:y<n):∃k,k<n/\o k=(y:Int):=by
 apply aCc;intro hno;obtain⟨a,b,hab,hb,e⟩:=php n (fun k=>if k<n then(o k).toNat else y) (fun k hk=>by
  show(if k<n then(o k).toNat else y)<n
  by_cases p:k<n
  ·rw[if_pos p];have:=h.rng k p;omega
  ·rw[if_neg p];exact hy)
 have e':(if a<n then(o a).toNat else y)=(if b<n then(o b).toNat else y):=e;rw[if_pos (by omega:a<n)] at e';have ra:=h.rng a (by omega)
 by_cases p:b<n
 ·rw[if_pos p] at e';have rb:=h.rng b p;exact h.ne (i:=a) (j:=b) (by omega) p (by omega) (by omega)
 ·rw[if_neg p] at e';exact hno ⟨a,by omega,by omega⟩
theorem Ord.uniq {n m:Nat} {o o':Nat->Int} (h:Ord c n m o) (h':Ord c n m o'):∀k,k<n->o k=o' k:=by
 intro k
 induction k using FT with
 |ind k ih=>
  intro hk;apply aCc;intro hne;have step:∀{o o':Nat->Int},Ord c n m o->Ord c n m o'->(∀j,j<k->o j=o' j)->o k≠o' k->bef c m (o' k) (o k):=by
   intro o o' h h' ih hne;have r:=h.rng k hk;obtain⟨j,hj,e⟩:=h'.onto (y:=(o k).toNat) (by omega);have e':o' j=o k:=by omega
   rcases pW j k with p|p|p
   ·exact absurd ((ih j p).trans e') (h.ne hj hk (by omega))
   ·subst p;exact absurd e'.symm hne
   ·rw[<-e'];exact h'.srt k j (aU _) p hj
  have s1:=step h h' (fun j hj=>ih j hj (by omega)) hne;have s2:=step h' h (fun j hj=>(ih j hj (by omega)).symm) (fun e=>hne e.symm);exact(vW c m).irr _ ((vW c m).tr _ _ _ s1 s2)
theorem Ord.congr {n m:Nat} {o o':Nat->Int} (h:Ord c n m o) (e:∀k,k<n->o' k=o k):Ord c n m o':=
 ⟨fun k hk=>by rw[e k hk];exact h.rng k hk,h.srt.congr fun k _ hk=>e k hk⟩
theorem Ord.full {n m:Nat} {o:Nat->Int} (h:Ord c n m o) (hc:Cyc c n) (hn:0<n) (hm:n<=m):Ord c n n o:=
 ⟨h.rng,fun i j h1 h2 h3=>by
  have:=h.srt i j h1 h2 h3;unfold bef at this ⊢;rwa[(hc.all hn hm).1,(hc.all hn hm).2] at this⟩
theorem aFz {n:Nat} {f:Nat->Int} (hr:∀k,k<n->0<=f k/\f k<(n:Int)) (hs:∀k,k+1<n->f k<f (k+1)):∀k,k<n->f k=(k:Int):=by
 have lo:∀k,k<n->(k:Int)<=f k:=by
  intro k
  induction k with
  |zero=>intro h;exact(hr 0 h).1
  |succ k ih=>intro h;have:=ih (by omega);have:=hs k h;omega
 have hi:∀d k,k+d+1=n->f k<=(k:Int):=by
  intro d
  induction d with
  |zero=>intro k hk;have:=(hr k (by omega)).2;omega
  |succ d ih=>intro k hk;have:=ih (k+1) (by omega);have:=hs k (by omega);omega
 intro k hk;have:=lo k hk;have:=hi (n-k-1) k (by omega);omega
theorem aF0 {n m:Nat} {o:Nat->Int} (h:Ord c n m o) {v:Nat->Int} {r:Nat->Int}
  (hv:∀i,i+1<n->(eqm c m (o i).toNat (o (i+1)).toNat/\v (i+1)=v i)\/(¬eqm c m (o i).toNat (o (i+1)).toNat/\v (i+1)=v i+1)) (hr:∀i,i<n->r (o i).toNat=v i):sW c n m r:=by
 have key:∀j,j<n->∀i,i<=j->v i<=v j/\(v i=v j↔eqm c m (o i).toNat (o j).toNat):=by
  intro j
  induction j with
  |zero=>
    intro _ i hi;have:i=0:=by omega
    subst this;exact⟨lJ _,⟨fun _=>eqm.refl _ _,fun _=>rfl⟩⟩
  |succ j ih=>
   intro hj i hi;rcases bT j i with p|p
   ·have:i=j+1:=by omega
    subst this;exact⟨lJ _,⟨fun _=>eqm.refl _ _,fun _=>rfl⟩⟩
   ·obtain⟨k1,k2⟩:=ih (by omega) i p;have e:=hv j hj;rcases e with⟨q,e⟩|⟨q,e⟩
    ·refine⟨by omega,⟨fun w=>(k2.1 (by omega)).trans q,fun w=>?_⟩⟩;have:=k2.2 (w.trans q.symm);omega
    ·refine⟨by omega,⟨fun w=>by omega,fun w=>?_⟩⟩;exfalso;have s:=h.srt j (j+1) (aU _) (by omega) hj;have s':ltm c m (o j).toNat (o (j+1)).toNat:=s.resolve_right (fun x=>q x.1);rcases bT i j with p'|p'
     ·rcases h.srt i j (aU _) p' (by omega) with t|⟨t,_⟩
      ·exact(t.trans s').not_eqm w
      ·exact q (t.symm.trans w)
     ·have:i=j:=by omega
      subst this;exact q w
 intro a b ha hb;obtain⟨i,hi,ei⟩:=h.onto ha;obtain⟨j,hj,ej⟩:=h.onto hb;have ra:=hr i hi;have rb:=hr j hj;have ta:(o i).toNat=a:=by omega
 have tb:(o j).toNat=b:=by omega
 rw[ta] at ra;rw[tb] at rb;rw[ra,rb];rcases bT i j with p|p
 ·obtain⟨k1,k2⟩:=key j hj i (by omega);rw[ta,tb] at k2;have s:=h.srt i j (aU _) p hj;unfold bef at s;rw[ta,tb] at s;constructor
  ·intro w;exact s.resolve_right (fun x=>by have:=k2.2 x.1;omega)
  ·intro w;have:v i≠v j:=fun e=>w.not_eqm (k2.1 e)
   omega
 ·obtain⟨k1,k2⟩:=key i hi j p;rw[ta,tb] at k2;constructor
  ·intro w;omega
  ·intro w;exfalso;rcases bT j i with p'|p'
   ·have s:=h.srt j i (aU _) p' hi;unfold bef at s;rw[ta,tb] at s;rcases s with s|⟨s,_⟩
    ·exact w.asymm s
    ·exact w.not_eqm s.symm
   ·have:i=j:=by omega
    subst this;rw[ta] at tb;subst tb;exact ltm.irrefl w
end
end Go.Proofs.YtpgmbhpbgkljdaaGreatDoor
namespace Go.Proofs
open Go.Shelf
def Tryz.lays170_ren:Go.Shelf.Ren:=⟨fun|170=>205|n=>n,fun|70=>86|3=>3|0=>0|72=>88|37=>75|5=>5|n=>n,fun|n=>n⟩
theorem Tryz.lays170:Go.Proofs.Lays.n170 Tryz.prog Tryz.lays170_ren:={
 mixed:=by kernel_rfl
 f170:=Tryz.func205.trans (congrArg some (by kernel_rfl))
 t0:=Tryz.underlying0
 a0:=Tryz.isAgg0
 z0:=Tryz.sizeOf0
 v0:=Tryz.zeroValue0
 t3:=Tryz.underlying3
 a3:=Tryz.isAgg3
 z3:=Tryz.sizeOf3
 v3:=Tryz.zeroValue3
 t37:=Tryz.underlying75
 a37:=Tryz.isAgg75
 z37:=Tryz.sizeOf75
 v37:=Tryz.zeroValue75
 t70:=Tryz.underlying86
 a70:=Tryz.isAgg86
 z70:=Tryz.sizeOf86
 v70:=Tryz.zeroValue86
 t72:=Tryz.underlying88
 a72:=Tryz.isAgg88
 z72:=Tryz.sizeOf88
 v72:=Tryz.zeroValue88}
def Tryz.lays169_ren:Go.Shelf.Ren:=⟨fun|169=>48|n=>n,fun|70=>86|9=>9|0=>0|72=>88|37=>75|127=>142|3=>3|5=>5|n=>n,fun|n=>n⟩
theorem Tryz.lays169:Go.Proofs.Lays.n169 Tryz.prog Tryz.lays169_ren:={
 mixed:=by kernel_rfl
 f169:=Tryz.func48.trans (congrArg some (by kernel_rfl))
 t0:=Tryz.underlying0
 a0:=Tryz.isAgg0
 z0:=Tryz.sizeOf0
 v0:=Tryz.zeroValue0
 t3:=Tryz.underlying3
 a3:=Tryz.isAgg3
 z3:=Tryz.sizeOf3
 v3:=Tryz.zeroValue3
 t9:=Tryz.underlying9
 a9:=Tryz.isAgg9
 z9:=Tryz.sizeOf9
 v9:=Tryz.zeroValue9
 t37:=Tryz.underlying75
 a37:=Tryz.isAgg75
 z37:=Tryz.sizeOf75
 v37:=Tryz.zeroValue75
 t70:=Tryz.underlying86
 a70:=Tryz.isAgg86
 z70:=Tryz.sizeOf86
 v70:=Tryz.zeroValue86
 t72:=Tryz.underlying88
 a72:=Tryz.isAgg88
 z72:=Tryz.sizeOf88
 v72:=Tryz.zeroValue88
 t127:=Tryz.underlying142
 a127:=Tryz.isAgg142
 z127:=Tryz.sizeOf142
 v127:=Tryz.zeroValue142}
theorem Tryz.Builder_Extra_169:Builder.Extra Tryz.prog Tryz.lays169_ren:={
 sizeBuilder:=by kernel_rfl
 liesBuilder:=by kernel_rfl
 t5:=Tryz.underlying5
 a5:=Tryz.isAgg5
 z5:=Tryz.sizeOf5
 v5:=Tryz.zeroValue5
 infoByte:=by kernel_rfl
 cellsByte:=by kernel_rfl
 sizeByte:=by kernel_rfl
 neB5:=by decide}
def Tryz.lays122_ren:Go.Shelf.Ren:=⟨fun|122=>165|215=>190|n=>n,fun|3=>3|4=>4|n=>n,fun|n=>n⟩
theorem Tryz.lays122:Go.Proofs.Lays.n122 Tryz.prog Tryz.lays122_ren:={
 mixed:=by kernel_rfl
 f122:=Tryz.func165.trans (congrArg some (by kernel_rfl))
 f215:=Tryz.func190.trans (congrArg some (by kernel_rfl))
 t3:=Tryz.underlying3
 a3:=Tryz.isAgg3
 z3:=Tryz.sizeOf3
 v3:=Tryz.zeroValue3
 t4:=Tryz.underlying4
 a4:=Tryz.isAgg4
 z4:=Tryz.sizeOf4
 v4:=Tryz.zeroValue4}
open Go.RowKit in
theorem Tryz.cmp_Compare_int (x y:Int) (w:World):
  Calls Tryz.prog 165 #[.int .i64 x,.int .i64 y] w fun e w'=>e=.returned (.int .i64 (Lib.compareInt x y))/\w'=w:=Any.cmp_Compare_int Tryz.lays122 x y w
open Go.RowKit in
theorem Tryz.Builder_Len_f (B b:Nat) (bs:List Value) (w:World) (h:aTu 88 5 B b bs w):
  Calls Tryz.prog 205 #[.pointer (some ⟨b,0,none⟩)] w fun e w'=>e=.returned (.int .i64 bs.length)/\w'=w:=Any.Builder_Len_f Tryz.lays170 B b bs w h
open Go.RowKit in
theorem Tryz.Builder_String_any_k (B b:Nat) (l:List UInt8) (w:World) (h:aTu 88 5 B b (nS l) w) (hBw:B<=w.heap.size):
  Calls Tryz.prog 48 #[.pointer (some ⟨b,0,none⟩)] w fun e w'=>e=.returned (.string ⟨l.toArray⟩)/\(aTu 88 5 B b (nS l) w'/\Below B w w'/\Lib.OthersKept 5 (some b) w w'):=Any.Builder_String_any_k Tryz.lays169 Tryz.Builder_Extra_169 B b l w h hBw
def Tryz.lays189_ren:Go.Shelf.Ren:=⟨fun|189=>142|125=>161|257=>160|128=>187|129=>188|294=>178|295=>179|296=>180|297=>181|298=>182|299=>183|216=>184|300=>185|301=>186|328=>206|329=>207|330=>208|331=>209|332=>210|215=>190|343=>225|n=>n,fun|28=>39|3=>3|46=>101|0=>0|51=>34|53=>46|4=>4|183=>268|182=>267|131=>273|5=>5|9=>9|218=>297|222=>301|228=>325|229=>68|n=>n,fun|n=>n⟩
theorem Tryz.lays189:Go.Proofs.Lays.n189 Tryz.prog Tryz.lays189_ren:={
 mixed:=by kernel_rfl
 f125:=Tryz.func161.trans (congrArg some (by kernel_rfl))
 f128:=Tryz.func187.trans (congrArg some (by kernel_rfl))
 f129:=Tryz.func188.trans (congrArg some (by kernel_rfl))
 f189:=Tryz.func142.trans (congrArg some (by kernel_rfl))
 f215:=Tryz.func190.trans (congrArg some (by kernel_rfl))
 f216:=Tryz.func184.trans (congrArg some (by kernel_rfl))
 f257:=Tryz.func160.trans (congrArg some (by kernel_rfl))
 f294:=Tryz.func178.trans (congrArg some (by kernel_rfl))
 f295:=Tryz.func179.trans (congrArg some (by kernel_rfl))
 f296:=Tryz.func180.trans (congrArg some (by kernel_rfl))
 f297:=Tryz.func181.trans (congrArg some (by kernel_rfl))
 f298:=Tryz.func182.trans (congrArg some (by kernel_rfl))
 f299:=Tryz.func183.trans (congrArg some (by kernel_rfl))
 f300:=Tryz.func185.trans (congrArg some (by kernel_rfl))
 f301:=Tryz.func186.trans (congrArg some (by kernel_rfl))
 f328:=Tryz.func206.trans (congrArg some (by kernel_rfl))
 f329:=Tryz.func207.trans (congrArg some (by kernel_rfl))
 f330:=Tryz.func208.trans (congrArg some (by kernel_rfl))
 f331:=Tryz.func209.trans (congrArg some (by kernel_rfl))
 f332:=Tryz.func210.trans (congrArg some (by kernel_rfl))
 f343:=Tryz.func225.trans (congrArg some (by kernel_rfl))
 t0:=Tryz.underlying0
 a0:=Tryz.isAgg0
 z0:=Tryz.sizeOf0
 v0:=Tryz.zeroValue0
 t3:=Tryz.underlying3
 a3:=Tryz.isAgg3
 z3:=Tryz.sizeOf3
 v3:=Tryz.zeroValue3
 t4:=Tryz.underlying4
 a4:=Tryz.isAgg4
 z4:=Tryz.sizeOf4
 v4:=Tryz.zeroValue4
 t5:=Tryz.underlying5
 a5:=Tryz.isAgg5
 z5:=Tryz.sizeOf5
 v5:=Tryz.zeroValue5
 t9:=Tryz.underlying9
 a9:=Tryz.isAgg9
 z9:=Tryz.sizeOf9
 v9:=Tryz.zeroValue9
 t28:=Tryz.underlying39
 a28:=Tryz.isAgg39
 z28:=Tryz.sizeOf39
 v28:=Tryz.zeroValue39
 t46:=Tryz.underlying101
 a46:=Tryz.isAgg101
 z46:=Tryz.sizeOf101
 v46:=Tryz.zeroValue101
 t51:=Tryz.underlying34
 a51:=Tryz.isAgg34
 z51:=Tryz.sizeOf34
 v51:=Tryz.zeroValue34
 t53:=Tryz.underlying46
 a53:=Tryz.isAgg46
 z53:=Tryz.sizeOf46
 v53:=Tryz.zeroValue46
 t131:=Tryz.underlying273
 a131:=Tryz.isAgg273
 z131:=Tryz.sizeOf273
 v131:=Tryz.zeroValue273
 t182:=Tryz.underlying267
 a182:=Tryz.isAgg267
 z182:=Tryz.sizeOf267
 v182:=Tryz.zeroValue267
 t183:=Tryz.underlying268
 a183:=Tryz.isAgg268
 z183:=Tryz.sizeOf268
 v183:=Tryz.zeroValue268
 t218:=Tryz.underlying297
 a218:=Tryz.isAgg297
 z218:=Tryz.sizeOf297
 v218:=Tryz.zeroValue297
 t222:=Tryz.underlying301
 a222:=Tryz.isAgg301
 z222:=Tryz.sizeOf301
 v222:=Tryz.zeroValue301
 t228:=Tryz.underlying325
 a228:=Tryz.isAgg325
 z228:=Tryz.sizeOf325
 v228:=Tryz.zeroValue325
 t229:=Tryz.underlying68
 a229:=Tryz.isAgg68
 z229:=Tryz.sizeOf68
 v229:=Tryz.zeroValue68}
open Go.Sort Go.RowKit in
theorem Tryz.slices_Sort_int (blk off cap:Nat) (zs:List Int) (w:World) (hH:Holds (bO .i64) w blk off zs.toArray) (hblk:blk<w.heap.size) (hsz:zs.length<4611686018427387904):
  Calls Tryz.prog 142 #[.slice (some ⟨blk,off,none⟩) zs.length cap] w fun e w'=>
   e=.returned (.tuple #[])/\∃n os,w'=grow (putRow (bO .i64) (Sort.ahead w n) blk off (zs.mergeSort fun x y=>decide (x<=y)).toArray) os:=Any.slices_Sort_int Tryz.lays189 blk off cap zs w hH hblk hsz
open Go.RowKit Go.Sort in
theorem Tryz.slices_Sort_int_none (p:Option Addr) (cap:Nat) (w:World):
  Calls Tryz.prog 142 #[.slice p 0 cap] w fun e w'=>e=.returned (.tuple #[])/\w'=w:=Any.slices_Sort_int_none Tryz.lays189 p cap w
end Go.Proofs
namespace Go.Proofs.YtpgmbhpbgkljdaaGreatDoor
open Go.RowKit
theorem aL7:Tryz.zeroCells346=(tab 257 (fun _=>0)).toArray:=by kernel_rfl
theorem WX (s:ByteArray) (w:World) (hs:s.size<=1000000000):
  Calls Tryz.prog 228 #[.string s] w fun e w'=>
   ∃v,e=.returned v/\OwI w' w.heap.size v (rL s.data.toList)/\Below w.heap.size w w':=by
 have hl0:s.data.toList.length=s.size:=by simp
 have HL:=hid hl0;clear hl0;go_enter Tryz.func228,Tryz.ntmps228;go_wp2
 go_loopw [10] (fun i wr=>∃k:Nat,k<=s.size/\i=.int .i64 k/\Arr wr w.heap.size 346 (tab 257 (mH s.data.toList k))/\Below w.heap.size w wr) (fun i _=>s.size-(intOf i).toNat)
 case atStart=>exact⟨0,aU _,rfl,by rw[aFm,aL7];exact Arr.new _ _ _,(aB _ _).alloc (aA _) _⟩
 case round=>
  obtain⟨k,hk,rfl,harr,hbel⟩:=hrel
  by_cases hlt:k<s.size
  ·have hb:s[k].toNat<256:=s[k].toNat_lt;have HB:=hid (eW s k hlt);have hbd:=aFt s.data.toList k (s[k].toNat+1);rw[HL.out] at hbd;have hc:=harr.cell (iS 257 (mH s.data.toList k) (s[k].toNat+1) (by omega));have hf:=harr.free (s[k].toNat+1);obtain⟨x,hx⟩:∃x,x=mH s.data.toList k (s[k].toNat+1):=⟨_,rfl⟩;rw[<-hx] at hc hbd;have HX:=hid hx;clear hx;go_wp2
   go_roundw
   case rel=>
    refine⟨k+1,by omega,by go_num,?_,hbel.setCell (aA _) _⟩;have:=harr.set (s[k].toNat+1) (.int .i64 (x+1));rw[qD 257 _ (mH s.data.toList (k+1)) _ _ (fun d _=>by rw[aFn _ _ _ HB.out,HX.out])] at this;exact this
   case measure=>simp[intOf];omega
  ·have hk':k=s.size:=by omega
   have HK:=hid hk';clear hk';go_wp2
   go_loopw [23] (fun i wr=>∃c:Nat,c<=256/\i=.int .i64 c/\Arr wr w.heap.size 346 (tab 257 (kI s.data.toList c))/\Below w.heap.size w wr) (fun i _=>256-(intOf i).toNat)
   case atStart=>exact⟨0,aU _,rfl,by have:=harr;rw[HK.out,<-HL.out,aFo] at this;exact this,hbel⟩
   case round=>
    clear harr hbel hlt;obtain⟨c,hc,rfl,harr,hbel⟩:=hrel
    by_cases hlt:c<256
    ·have hd:decide ((c:Int)<256)=true:=by simp;omega
     have hbd:=QS s.data.toList c (c+1);have hbe:=QS s.data.toList c c;rw[HL.out] at hbd hbe;have h1:=harr.cell (iS 257 (kI s.data.toList c) (c+1) (by omega));have h2:=harr.cell (iS 257 (kI s.data.toList c) c (by omega));have hf:=harr.free (c+1);obtain⟨x,hx⟩:∃x,x=kI s.data.toList c (c+1):=⟨_,rfl⟩;obtain⟨y,hy⟩:∃x,x=kI s.data.toList c c:=⟨_,rfl⟩;rw[<-hx] at h1 hbd;rw[<-hy] at h2 hbe;have HX:=hid hx;have HY:=hid hy;clear hx hy;go_wp2
     go_region
     go_wp2
     go_roundw
     case rel=>
      refine⟨c+1,by omega,by go_num,?_,(hbel.setCell (aA _) _).drew⟩;have:=harr.set (c+1) (.int .i64 (x+y));rw[qD 257 _ (kI s.data.toList (c+1)) _ _ (fun d _=>by rw[aFp,HX.out,HY.out])] at this;exact this
     case measure=>simp[intOf];omega
    ·have hc':c=256:=by omega
     have HC:=hid hc';clear hc';have hd:decide ((c:Int)<256)=false:=by simp;omega
     obtain⟨wo,rfl⟩:∃wo:World,wo=wr:=⟨_,rfl⟩;go_wp2_with (at_make;refine mkA gL rfl _ _ rfl s.size rfl rfl ?_ ?_;omega);have hwo:w.heap.size<wo.heap.size:=harr.lt
     go_loopw [41] (fun i wr=>∃k:Nat,k<=s.size/\i=.int .i64 k/\Arr wr w.heap.size 346 (tab 257 (oQ s.data.toList k))/\(∃L:List Int,L.length=s.size/\Hid (∀j,j<k->L[jI s.data.toList j]? =some (j:Int))/\Arr wr wo.heap.size 3 (L.map (bO .i64)))/\Below w.heap.size w wr) (fun i _=>s.size-(intOf i).toNat)
     case atStart=>
      refine⟨0,aU _,rfl,?_,⟨bB s.size 0,by simp,hid (fun j hj=>by omega),?_⟩,hbel.alloc (by omega) _⟩
      ·have:=harr.alloc (.cells (fB (.int .i64 0) s.size) 3);rw[HC.out] at this;rwa[show tab 257 (oQ s.data.toList 0)=tab 257 (kI s.data.toList 256) from by
        apply List.map_congr_left;intro d hd;rw[aFq _ _ (by simpa using hd)]]
      ·rw[List.map_replicate];exact Arr.made _ _ _ _
     case round=>
      clear harr hbel hlt hd;obtain⟨k,hk,rfl,harr,⟨L,hL,HP,hout⟩,hbel⟩:=hrel
      by_cases hlt:k<s.size
      ·have hb:s[k].toNat<256:=s[k].toNat_lt;have HB:=hid (eW s k hlt);have hp0:=QO s.data.toList k (by rw[HL.out];exact hlt);have h1:=harr.cell (iS 257 (oQ s.data.toList k) s[k].toNat (by omega));rw[QP _ _ _ HB.out] at h1;rw[HL.out] at hp0;obtain⟨p,hp⟩:∃p,p=jI s.data.toList k:=⟨_,rfl⟩;rw[<-hp] at h1 hp0;have HPk:=hid hp;clear hp;have hf:=harr.free s[k].toNat;have hf2:=hout.free p;obtain⟨v2,hv2⟩:∃v2,(L.map (bO .i64))[p]? =some v2:=⟨_,aN (by simp;omega)⟩;have h2:=hout.cell hv2;clear hv2;go_wp2
       go_roundw
       case rel=>
        refine⟨k+1,by omega,by go_num,?_,⟨L.set p (k:Int),by simpa using hL,hid ?_,?_⟩,(hbel.setCell (by simp;omega) _).setCell (aA _) _⟩
        ·have:=(harr.other ⟨wo.heap.size,p,none⟩ (by simp;omega) (.int .i64 (k:Int))).set s[k].toNat (.int .i64 ((p:Int)+1));rw[qD 257 _ (oQ s.data.toList (k+1)) _ _ (fun d _=>by rw[aFr _ _ _ HB.out,QP _ _ _ HB.out,<-HPk.out])] at this;exact this
        ·intro j hj;rcases bT j k with h'|h'
         ·rw[qU (fun e=>?_)]
          ·exact HP.out j h'
          ·have:=aFi s.data.toList j k (by rw[HL.out];omega) (by rw[HL.out];omega) (by rw[<-HPk.out,e]);omega
         ·have:j=k:=by omega
          subst this;rw[<-HPk.out,FS (by omega)]
        ·have:=(hout.set p (.int .i64 (k:Int))).other ⟨w.heap.size,s[k].toNat,none⟩ (by simp;omega) (.int .i64 ((p:Int)+1));rwa[<-List.map_set] at this
       case measure=>simp[intOf];omega
      ·have hk':k=s.size:=by omega
       have HK':=hid hk';clear hk';go_wp2;go_ret;have e:=aFj s.data.toList L (by rw[HL.out,hL]) (fun j hj=>HP.out j (by rw[HK'.out,<-HL.out];exact hj));have ho:=hout.own (B:=w.heap.size) (by omega) (by rw[bJ,hL];simp only[maxLen];omega);rw[bJ,hL] at ho;rw[e] at ho;exact⟨_,rfl,ho,hbel⟩
theorem uZ {a b c d:Value} (h1:a=c) (h2:b=d):Ending.returned (.tuple #[a,b])=.returned (.tuple #[c,d]):=by rw[h1,h2]
theorem WY (s:List UInt8) (k:Nat) (h:k<s.length):(rL s)[k]? =some ((nxt s k:Nat):Int):=by
 unfold rL nxt;have:k<(vec s).length:=by rw[uJ];exact h
 simp[fF,aN this]
theorem LO (s:List UInt8):(rL s).length=s.length:=by simp[rL,uJ]
theorem LP (s:ByteArray) (k:Nat) (h:k<s.size):s.data.toList.getD k 0=s[k]:=by
 simp[fF,eW s k h]
theorem aMb (s:ByteArray) (o:Int) (w:World) (hs:s.size<=1000000000) (ho1: -9223372036854775808<=o) (ho2:o<=9223372036854775807):
  Calls Tryz.prog 220 #[.string s,.int .i64 o] w fun e w'=>
   e=.returned (.tuple #[.string (mkS (lE s.data.toList o)),.int .i64 (nW s.data.toList o)])/\Below w.heap.size w w':=by
 have hl0:s.data.toList.length=s.size:=by simp
 have HL:=hid hl0
 by_cases hok:mJ s.data.toList o=true
 case neg=>
  have h0:mJ s.data.toList o=false:=by simpa using hok
  have hfin:lE s.data.toList o=[]/\nW s.data.toList o=1:=by simp[lE,nW,h0]
  have HF:=hid hfin;unfold mJ at h0;rw[hl0] at h0;clear hfin hok hl0
  by_cases hneg:o<0
  ·clear h0;have hd:decide (o<0)=true:=by simpa using hneg
   go_enter Tryz.func220,Tryz.ntmps220;go_wp2
   go_ret2
   exact⟨uZ (by rw[HF.out.1];rfl) (by rw[HF.out.2];rfl),aB _ _⟩
  ·have h1:(max (s.size:Int) 1)<=o:=by simp at h0;omega
   have h2:decide (max (s.size:Int) 1<=o)=true:=by simpa using h1
   have hd:decide (o<0)=false:=by simpa using hneg
   clear h0 h2;go_enter Tryz.func220,Tryz.ntmps220;go_wp2
   all_goals go_ret2
   all_goals exact⟨uZ (by rw[HF.out.1];rfl) (by rw[HF.out.2];rfl),aB _ _⟩
 case pos=>
  have h0:=hok;unfold mJ at h0;rw[hl0] at h0;have h1:0<=o/\o<max (s.size:Int) 1:=by simpa using h0
  obtain⟨n,rfl⟩:=Int.eq_ofNat_of_zero_le h1.1;have hfin:lE s.data.toList n=kY s.data.toList n s.size/\nW s.data.toList n=0:=by
   simp[lE,nW,hok,QT]
  have HF:=hid hfin;have hlt:n<s.size\/(s.size=0/\n=0):=by omega
  clear hfin hok hl0 h0 h1 ho1 ho2;have hd:decide ((n:Int)<0)=false:=by simp
  have HN:=hid (show 0<s.size->n<s.size from fun h=>by omega);have hlt':n<s.size\/s.size<=0/\n<=0:=by omega
  clear hlt;rcases hlt' with hlt|⟨hlt,hlt2⟩
  ·go_enter Tryz.func220,Tryz.ntmps220;go_wp2_with fail;refine(WX s _ hs).mono ?_;rintro e w1 ⟨v,rfl,hv,hB⟩;obtain⟨va,vc,rfl,hvc,hvm,hvA⟩:=hv.rd.open;rw[LO,HL.out] at hvA hvc ⊢;simp only[maxLen] at hvm;clear hv;go_wp2_with (at_make;refine mkA vQ rfl _ _ rfl s.size rfl rfl ?_ ?_;omega)
   go_loopg [8,27] s.size (fun g at_ i wr=>∃k:Nat,k<=s.size/\g=s.size-k/\i=.int .i64 k/\at_=.int .i64 ((kJ s.data.toList k n:Nat):Int)/\Arr wr w1.heap.size 5 (eO (nA s.size 0 (kY s.data.toList n k)))/\Below w.heap.size w wr/\Below w1.heap.size w1 wr)
   case atStart=>
    refine⟨0,aU _,rfl,rfl,rfl,?_,hB.alloc (by have:=hB.size;omega) _,(aB _ _).alloc (aA _) _⟩;have:=Arr.made w1 5 (.int .u8 0) s.size;rwa[show bB s.size (bO .u8 0)=eO (nA s.size 0 (kY s.data.toList n 0)) from by simp[eO,nA,kY]] at this
   case round=>
    obtain⟨k,hk,hg,rfl,rfl,harr,hbel,hbel1⟩:=hrel
    by_cases hlk:k<s.size
    ·have hn:=HN.out (by omega);have hat:=sU s.data.toList n (by rw[HL.out];exact hn) k;have hat1:=sU s.data.toList n (by rw[HL.out];exact hn) (k+1);rw[HL.out] at hat hat1;obtain⟨b1,o1,rfl,hb1,hc1⟩:=hvA (by omega);have c1:wr.cell? ⟨b1,o1+kJ s.data.toList k n,none⟩=some (.int .i64 ((kJ s.data.toList (k+1) n:Nat):Int)):=by
      rw[hbel1.cell (p:=⟨b1,o1+kJ s.data.toList k n,none⟩) hb1];exact hc1 _ _ (WY _ _ (by rw[HL.out];exact hat))
     have HBY:=hid (eW s _ hat1);have hb:s[kJ s.data.toList (k+1) n].toNat<256:=UInt8.toNat_lt _;obtain⟨x,hx⟩:=aDe s.size (0:UInt8) (kY s.data.toList n k) k hlk (by rw[sV];omega);have c2:=harr.cell (BH hx);have f2:=harr.free k;have HG:=hid hg;clear hx hvA hc1 hg;go_wp2;have hg:=HG.out
     go_roundg (s.size-(k+1))
     case measure=>omega
     case rel=>
      refine⟨k+1,by omega,rfl,by go_num,rfl,?_,hbel.setCell (by have:=hB.size;simp;omega) _,hbel1.setCell (by simp) _⟩;have:=harr.set k (.int .u8 ((s[kJ s.data.toList (k+1) n].toNat:Nat):Int));rw[OR] at this;have e:=aDd s.size (0:UInt8) s[kJ s.data.toList (k+1) n] (kY s.data.toList n k) (by rw[sV];exact hlk);rw[sV,<-LP s _ hat1,<-QV] at e;rw[<-LP s _ hat1,e] at this;rw[<-LP s _ hat1];exact this
    ·have hk':k=s.size:=by omega
     rw[hk',OS _ _ _ (by rw[sV];exact aA _)] at harr;have hcv:=lQ (harr.rdB (n:=s.size) (by rw[sV]) (by simp only[maxLen];omega));clear hk' hg;go_wp2
     go_ret2
     exact⟨uZ (by rw[HF.out.1];rfl) (by rw[HF.out.2];rfl),hbel⟩
  ·go_enter Tryz.func220,Tryz.ntmps220;go_wp2_with fail;refine(WX s _ hs).mono ?_;rintro e w1 ⟨v,rfl,hv,hB⟩;obtain⟨va,vc,rfl,hvc,hvm,hvA⟩:=hv.rd.open;rw[LO,HL.out] at hvA hvc ⊢;simp only[maxLen] at hvm;clear hv;go_wp2_with (at_make;refine mkA vQ rfl _ _ rfl s.size rfl rfl ?_ ?_;omega)
   go_loopg [8,27] s.size (fun g at_ i wr=>∃k:Nat,k<=s.size/\g=s.size-k/\i=.int .i64 k/\at_=.int .i64 ((kJ s.data.toList k n:Nat):Int)/\Arr wr w1.heap.size 5 (eO (nA s.size 0 (kY s.data.toList n k)))/\Below w.heap.size w wr/\Below w1.heap.size w1 wr)
   case atStart=>
    refine⟨0,aU _,rfl,rfl,rfl,?_,hB.alloc (by have:=hB.size;omega) _,(aB _ _).alloc (aA _) _⟩;have:=Arr.made w1 5 (.int .u8 0) s.size;rwa[show bB s.size (bO .u8 0)=eO (nA s.size 0 (kY s.data.toList n 0)) from by simp[eO,nA,kY]] at this
   case round=>
    obtain⟨k,hk,hg,rfl,rfl,harr,hbel,hbel1⟩:=hrel;have hk':k=s.size:=by omega
    rw[hk',OS _ _ _ (by rw[sV];exact aA _)] at harr;have hcv:=lQ (harr.rdB (n:=s.size) (by rw[sV]) (by simp only[maxLen];omega));clear hk' hg;go_wp2
    go_ret2
    exact⟨uZ (by rw[HF.out.1];rfl) (by rw[HF.out.2];rfl),hbel⟩
end Go.Proofs.YtpgmbhpbgkljdaaGreatDoor
namespace Go.Proofs.YtpgmbhpbgkljdaaGreatDoor
open Go.RowKit Go
theorem DW (a b:BitVec 32):bits .xor .u32 (a.toNat:Int) (b.toNat:Int)=((a^^^b).toNat:Int):=by
 rw[u32_xor_nat _ _ a.isLt b.isLt,BitVec.toNat_xor]
theorem WC (a:BitVec 32):rA.wrap ((a.toNat:Int)*2)=((a<<<1).toNat:Int):=by
 rw[aCs,GP,GQ];omega
theorem aKn (a:BitVec 32):rA.wrap ((a.toNat:Int)*256)=((a<<<8).toNat:Int):=by
 rw[aCs,GP,GQ];omega
theorem aKo (a:Nat) (_h:a<256):rA.wrap ((a:Int)*16777216)=((qZ 32 a<<<24).toNat:Int):=by
 rw[aCs,GP,GQ,aCq];omega
theorem aKp (a:BitVec 32):(a.toNat:Int)/16777216=((a>>>24).toNat:Int):=by
 rw[aTf,AK];omega
theorem WD (a:BitVec 32):(a.toNat:Int)/2147483648=(a.msb.toNat:Int):=by
 rw[BitVec.msb_eq_decide];have:=a.isLt
 by_cases h:2^(32-1)<=a.toNat
 ·rw[decide_eq_true h];simp only[Bool.toNat_true];omega
 ·rw[decide_eq_false h];simp only[Bool.toNat_false];omega
theorem aKq (a:BitVec 32):bits .and .u32 (a.toNat:Int) 2147483648=if a.msb then 2147483648 else 0:=by
 rw[show(2147483648:Int)=((2147483648:Nat):Int) from rfl,u32_and_nat _ _ a.isLt (by decide),show(2147483648:Nat)=2^31 from rfl,Go.nat_bit 31 a.toNat];have h:=WD a;have h2:a.toNat/2^31=a.msb.toNat:=by
  have:((a.toNat/2^31:Nat):Int)=(a.msb.toNat:Int):=by rw[<-h];omega
  exact Int.ofNat_inj.1 this
 rw[h2]
 cases a.msb<;>rfl
theorem WE (a:BitVec 32):bits .xor .u32 (a.toNat:Int) 79764919=((a^^^79764919#32).toNat:Int):=by
 have h:=DW a (79764919#32);have e:(((79764919#32:BitVec 32).toNat:Nat):Int)=79764919:=by decide
 rwa[e] at h
theorem WF (c:BitVec 32) (s:List UInt8) (k:Nat) (b:UInt8) (h:s[k]? =some b):kQ c (s.take (k+1))=nY (kQ c (s.take k)) b.toNat 8:=by
 rw[cQ,h,Option.toList_some,aIw]
end Go.Proofs.YtpgmbhpbgkljdaaGreatDoor
namespace Go.Proofs.YtpgmbhpbgkljdaaGreatDoor
def ahd (a b:Int×Int):Prop:=a.1<b.1\/(a.1=b.1/\a.2<b.2)
instance (a b:Int×Int):Decidable (ahd a b):=inferInstanceAs (Decidable (_\/_))
theorem FC {a b c:Int×Int} (h1:¬ahd b a) (h2:¬ahd c b):¬ahd c a:=by unfold ahd at*;omega
theorem FD {a b:Int×Int} (h:ahd a b):¬ahd b a:=by unfold ahd at*;omega
def mR (l:List (Int×Int)) (i j:Nat):List (Int×Int):=(l.set i (l.getD j (0,0))).set j (l.getD i (0,0))
theorem xG (l:List (Int×Int)) (i j:Nat):(mR l i j).length=l.length:=by simp[mR]
theorem aAz {l:List (Int×Int)} {i j:Nat} (hi:i<l.length) (hj:j<l.length) (k:Nat):(mR l i j).getD k (0,0)=if k=j then l.getD i (0,0) else if k=i then l.getD j (0,0) else l.getD k (0,0):=by
 unfold mR;rw[aV]
 by_cases h1:k=j
 ·subst h1;rw[if_pos rfl,FS (by simpa using hj)];rfl
 ·rw[if_neg h1,qU (fun e=>h1 e.symm)]
  by_cases h2:k=i
  ·subst h2;rw[if_pos rfl,FS hi];rfl
  ·rw[if_neg h2,qU (fun e=>h2 e.symm)];rfl
theorem aA0 {l:List (Int×Int)} {i:Nat} (hi:i<l.length):l=l.take i++l[i]::l.drop (i+1):=by rw[List.getElem_cons_drop,jE]
theorem aA1 {l:List (Int×Int)} {i j:Nat} (hij:i<j) (hj:j<l.length):(mR l i j).Perm l:=by
 obtain⟨A,x,B,y,C,rfl,hA,hB⟩:∃A x B y C,l=A++x::(B++y::C)/\A.length=i/\B.length=j-i-1:=by
  have e1:=aA0 (l:=l) (i:=i) (by omega);have hk:j-i-1<(l.drop (i+1)).length:=by rw[List.length_drop];omega
  have e2:=aA0 hk;refine⟨l.take i,l[i],(l.drop (i+1)).take (j-i-1),(l.drop (i+1))[j-i-1],(l.drop (i+1)).drop (j-i-1+1),?_,by rw[aX];omega,by rw[aX];omega⟩;rw[<-e2];exact e1
 have gi:(A++x::(B++y::C)).getD i (0,0)=x:=by
  rw[aV,jY (by omega),hA,oI];rfl
 have gj:(A++x::(B++y::C)).getD j (0,0)=y:=by
  rw[aV,jY (by omega),hA,show j-i=(j-i-1)+1 by omega,aS,jY (by omega),hB,oI];rfl
 have e:mR (A++x::(B++y::C)) i j=A++y::(B++x::C):=by
  unfold mR;rw[gi,gj,ON _ _ (by omega),hA,oI,aH,ON _ _ (by omega),hA,show j-i=(j-i-1)+1 by omega,List.set_cons_succ,ON _ _ (by omega),hB,oI,aH]
 rw[e];refine mT.append_left _ ?_;refine(GK y aCf).trans ?_;refine(mT.swap x y _).trans ?_;exact GK x aCf.symm
def nN (l:List (Int×Int)):Prop:=∀j,0<j->j<l.length->¬ahd (l.getD j (0,0)) (l.getD ((j-1)/2) (0,0))
def pA (l:List (Int×Int)) (i:Nat):Prop:=(∀j,0<j->j<l.length->j≠i->¬ahd (l.getD j (0,0)) (l.getD ((j-1)/2) (0,0)))/\
 (0<i->∀j,0<j->j<l.length->(j-1)/2=i->¬ahd (l.getD j (0,0)) (l.getD ((i-1)/2) (0,0)))
def sD (l:List (Int×Int)) (i:Nat):Prop:=(∀j,0<j->j<l.length->(j-1)/2≠i->¬ahd (l.getD j (0,0)) (l.getD ((j-1)/2) (0,0)))/\
 (0<i->∀j,0<j->j<l.length->(j-1)/2=i->¬ahd (l.getD j (0,0)) (l.getD ((i-1)/2) (0,0)))
theorem pA.start {l:List (Int×Int)} (h:nN l) (x:Int×Int):pA (l++[x]) l.length:=by
 have hg:∀k,k<l.length->(l++[x]).getD k (0,0)=l.getD k (0,0):=fun k hk=>by rw[aV,List.getElem?_append_left hk,aV]
 refine⟨fun j h0 hj hne=>?_,fun h0 j _ hj he=>?_⟩
 ·rw[aL,fK] at hj;rw[hg j (by omega),hg _ (by omega)];exact h j h0 (by omega)
 ·rw[aL,fK] at hj;omega
theorem pA.top {l:List (Int×Int)} (h:pA l 0):nN l:=fun j h0 hj=>h.1 j h0 hj (by omega)
theorem pA.stop {l:List (Int×Int)} {i:Nat} (h:pA l i) (hn:¬ahd (l.getD i (0,0)) (l.getD ((i-1)/2) (0,0))):nN l:=fun j h0 hj=>by
 by_cases e:j=i
 ·subst e;exact hn
 ·exact h.1 j h0 hj e
theorem pA.step {l:List (Int×Int)} {i:Nat} (h:pA l i) (h0:0<i) (hi:i<l.length) (ha:ahd (l.getD i (0,0)) (l.getD ((i-1)/2) (0,0))):pA (mR l i ((i-1)/2)) ((i-1)/2):=by
 have hu:(i-1)/2<l.length:=by omega
 have hne:i≠(i-1)/2:=by omega
 have g:=aAz hi hu;generalize hup:(i-1)/2=u at*
 refine⟨fun j hj0 hj hju=>?_,fun hu0 j hj0 hj he=>?_⟩
 ·rw[xG] at hj;rw[g,g,if_neg hju]
  by_cases h1:j=i
  ·subst h1;rw[if_pos rfl,hup,if_pos rfl];exact FD ha
  ·rw[if_neg h1]
   by_cases h2:(j-1)/2=u
   ·rw[if_pos h2];have:=h.1 j hj0 hj h1;rw[h2] at this;exact FC (FD ha) this
   ·rw[if_neg h2]
    by_cases h3:(j-1)/2=i
    ·rw[if_pos h3];have:=h.2 h0 j hj0 hj h3;rw[hup] at this;exact this
    ·rw[if_neg h3];exact h.1 j hj0 hj h1
 ·rw[xG] at hj;have hup2:(u-1)/2≠u/\(u-1)/2≠i:=by omega
  rw[g,g,if_neg hup2.1,if_neg hup2.2,if_neg (show j≠u by omega)];have k1:=h.1 u hu0 hu (fun e=>hne e.symm)
  by_cases h1:j=i
  ·rw[if_pos h1];exact k1
  ·rw[if_neg h1];have:=h.1 j hj0 hj h1;rw[he] at this;exact FC k1 this
theorem nN.least {l:List (Int×Int)} (h:nN l):∀j,j<l.length->¬ahd (l.getD j (0,0)) (l.getD 0 (0,0)):=by
 intro j
 induction j using FT with
 |ind j ih=>
  intro hj;rcases fJ j with rfl|h0
  ·unfold ahd;omega
  ·exact FC (ih ((j-1)/2) (by omega) (by omega)) (h j h0 hj)
theorem sD.start {l:List (Int×Int)} (h:nN l) (h0:0<l.length):sD ((l.set 0 (l.getD (l.length-1) (0,0))).take (l.length-1)) 0:=by
 refine⟨fun j hj0 hj he=>?_,fun h=>by omega⟩;rw[aX,List.length_set] at hj;have g:∀k,0<k->k<l.length-1->((l.set 0 (l.getD (l.length-1) (0,0))).take (l.length-1)).getD k (0,0)=l.getD k (0,0):=fun k hk0 hk=>by
  rw[aV,List.getElem?_take,if_pos hk,qU (by omega),aV]
 rw[g j hj0 (by omega),g _ (by omega) (by omega)];exact h j hj0 (by omega)
theorem aRa {l:List (Int×Int)} (h0:0<l.length):(l.getD 0 (0,0)::(l.set 0 (l.getD (l.length-1) (0,0))).take (l.length-1)).Perm l:=by
 cases l with
 |nil=>simp at h0
 |cons x l=>
  simp only[aH,List.length_cons,Nat.add_sub_cancel];rcases fJ l.length with e|e
  ·obtain rfl:=List.length_eq_zero_iff.1 e;exact xP _
  ·obtain⟨m,y,rfl⟩:∃m y,l=m++[y]:=⟨l.dropLast,l.getLast (by intro q;rw[q] at e;simp at e),(List.dropLast_concat_getLast _).symm⟩;have e2:(x::(m++[y])).getD (m++[y]).length (0,0)=y:=by
    rw[aV,aL,fK,aS,jY (aA _),oI];rfl
   rw[e2];show(x::(y::(m++[y])).take (m++[y]).length).Perm _;rw[aL,fK,List.take_succ_cons,List.take_left' rfl];exact GK x (List.perm_append_comm (l₁:=[y]) (l₂:=m))
theorem sD.stop {l:List (Int×Int)} {i:Nat} (h:sD l i) (hn:∀j,0<j->j<l.length->(j-1)/2=i->¬ahd (l.getD j (0,0)) (l.getD i (0,0))):nN l:=fun j h0 hj=>by
 by_cases e:(j-1)/2=i
 ·rw[e];exact hn j h0 hj e
 ·exact h.1 j h0 hj e
theorem sD.step {l:List (Int×Int)} {i f:Nat} (h:sD l i) (hf0:0<f) (hf:f<l.length) (hfi:(f-1)/2=i) (ha:ahd (l.getD f (0,0)) (l.getD i (0,0)))
  (hl:∀j,0<j->j<l.length->(j-1)/2=i->¬ahd (l.getD j (0,0)) (l.getD f (0,0))):sD (mR l i f) f:=by
 have hi:i<l.length:=by omega
 have hne:i≠f:=by omega
 have g:=aAz hi hf;refine⟨fun j hj0 hj he=>?_,fun _ j hj0 hj he=>?_⟩
 ·rw[xG] at hj;rw[g,g,if_neg he]
  by_cases h1:j=f
  ·subst h1;rw[if_pos rfl,if_pos hfi];exact FD ha
  ·rw[if_neg h1]
   by_cases h2:j=i
   ·subst h2;rw[if_pos rfl,if_neg (by omega)];exact h.2 hj0 f hf0 hf hfi
   ·rw[if_neg h2]
    by_cases h3:(j-1)/2=i
    ·rw[if_pos h3];exact hl j hj0 hj h3
    ·rw[if_neg h3];exact h.1 j hj0 hj h3
 ·rw[xG] at hj;rw[g,g,hfi,if_neg hne,if_pos rfl,if_neg (show j≠f by omega),if_neg (show j≠i by omega)];have:=h.1 j hj0 hj (by omega);rw[he] at this;exact this
end Go.Proofs.YtpgmbhpbgkljdaaGreatDoor
