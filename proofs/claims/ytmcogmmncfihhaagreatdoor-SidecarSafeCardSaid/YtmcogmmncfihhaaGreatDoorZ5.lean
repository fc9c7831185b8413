/-
  Texts put together (part 5): the walks and the plain laws on which the statement stands.
-/
import Derived.Test.YtmcogmmncfihhaaGreatDoorZ4
set_option maxRecDepth 100000
set_option maxHeartbeats 12800000
set_option linter.unusedVariables false
set_option linter.unusedSimpArgs false
open Go renaming bodyPost_ret->gJ
open Go.IntKind renaming i64->aI,u32->rA,wrap_i64->aM,wrap_u32->vP
open Go.RowKit.Below renaming refl->aB
open Int renaming le_refl->lJ
open List renaming append_assoc->cF,append_nil->eE,cons_append->gE,drop_eq_nil_of_le->AT,drop_take->aUd,ext_getElem?->jA,getElem?_eq_none->dL,getElem?_replicate->aTg,getElem?_take->lW,length->tM,length_append->aL,length_cons->cR,length_drop->cI,length_eq_zero_iff->mV,length_pos_iff->kV,length_take->aX,mem_of_getElem?->cH,replicate->bB,replicate_append_replicate->aTh,replicate_succ->AE,take_add_one->cQ,take_append_of_le_length->GO,take_of_length_le->cS,take_take->AG
open Nat renaming le_refl->aA,min_eq_left->gU,zero_le->aU
open Option renaming map_map->OH,map_some->xW,toList_some->mX
open Option.some renaming inj->bW
open UInt8 renaming ofNat->eK,toNat_inj->qV,toNat_ofNat'->nP
namespace Go.Proofs.YtmcogmmncfihhaaGreatDoor
section
open Go.RowKit
theorem aIi (a:ByteArray) (i:Nat):a.extract i (i+1)++a.extract 0 i++a.extract (i+1) a.size=mkS (eF a.data.toList i):=by
 rw[nT,nT,nT,pM,pM];unfold eF;rw[List.drop_zero,Nat.sub_zero,show i+1-i=1 by omega,cS (l:=a.data.toList.drop (i+1)) (by rw[cI];simp)]
theorem TI (a:ByteArray) (b:UInt8) (w:World) (hs:a.size<=1000000000) (hm:b∈a.data.toList):
  Calls Tryz.prog 96 #[.string a,.int .u8 (b.toNat:Int)] w fun e w'=>e=.returned (.int .i64 ((plc a.data.toList b:Nat):Int))/\w'=w:=by
 have hl:a.data.toList.length=a.size:=by simp
 have hp:=rG hm;rw[hl] at hp;obtain⟨p,hpp⟩:∃p,p=plc a.data.toList b:=⟨_,rfl⟩;rw[<-hpp] at hp ⊢;have HPP:=hid hpp;have HL:=hid hl;have hb:=b.toNat_lt;clear hl hpp;go_enter Tryz.func96,Tryz.ntmps96;go_wp2_with fail
 go_loopg [5] p (fun gh s5 wr=>∃k:Nat,k<=p/\gh=p-k/\s5=.int .i64 k/\w=wr)
 case atStart=>exact⟨0,aU _,rfl,rfl,rfl⟩
 case round=>
 obtain⟨k,hk,hg,rfl,rfl⟩:=hrel;have HG:=hid hg;clear hg;have hka:k<a.size:=by omega
 have hbk:=a[k].toNat_lt
 by_cases hkp:k<p
 ·have hne:a[k].toNat≠b.toNat:=by
   have h1:=PL (a:=a.data.toList) (c:=b) (i:=k) (by rw[<-HPP.out];exact hkp) (by rw[HL.out];exact hka);intro e;exact h1 (qV.1 e)
  have t1:((a[k].toNat:Int)==(b.toNat:Int))=false:=by rw[beq_eq_false_iff_ne];omega
  have t2:¬((a[k].toNat:Int)=(b.toNat:Int)):=by omega
  go_wp2_with fail;have hg:=HG.out
  go_roundg (p-(k+1))
  case measure=>omega
  case rel=>exact⟨k+1,by omega,rfl,by go_num,rfl⟩
 ·obtain rfl:p=k:=by omega
  have he:a[p]=b:=by
   have h1:=BU hm;rw[<-HPP.out] at h1;rw[eW a p hka] at h1;exact bW h1
  have t1:((a[p].toNat:Int)==(b.toNat:Int))=true:=by rw[beq_iff_eq,he]
  clear he;go_wp2_with fail;go_ret;exact⟨rfl,rfl⟩
theorem TJ (a:ByteArray) (w:World) (hs:a.size<=1000000000) (hn:a.data.toList.Nodup):
  Calls Tryz.prog 95 #[.string a] w fun e w'=>e=.returned (.bool true)/\w'=w:=by
 have HN:=hid hn;clear hn;go_enter Tryz.func95,Tryz.ntmps95;go_wp2_with fail
 go_loopg [3] a.size (fun gh s3 wr=>∃k:Nat,k<=a.size/\gh=a.size-k/\s3=.int .i64 k/\w=wr)
 case atStart=>exact⟨0,aU _,rfl,rfl,rfl⟩
 case round=>
 obtain⟨k,hk,hg,rfl,rfl⟩:=hrel;have HG:=hid hg;clear hg
 by_cases hka:k<a.size
 ·have hp:=hid (show plc a.data.toList a[k]=k from IL (a:=a.data.toList) HN.out (i:=k) (by simpa using hka));have hm:a[k]∈a.data.toList:=cH (eW a k hka);have t1:decide ((k:Int)<(k:Int))=false:=decide_eq_false (by omega);go_wp2_with fail;refine(TI a a[k] _ hs hm).mono ?_;rintro e w1 ⟨rfl,rfl⟩;rw[hp.out];go_wp2_with fail;have hg:=HG.out
  go_roundg (a.size-(k+1))
  case measure=>omega
  case rel=>exact⟨k+1,by omega,rfl,by go_num,rfl⟩
 ·go_wp2_with fail;go_ret;exact⟨rfl,rfl⟩
theorem TK (a:ByteArray) (i:Nat) (w:World) (hs:a.size<=1000000000) (hi:i<a.size):
  Calls Tryz.prog 97 #[.string a,.int .i64 (i:Int)] w fun e w'=>e=.returned (.string (mkS (eF a.data.toList i)))/\Below w.heap.size w w':=by
 have e:=aIi a i;have HE:=hid e;clear e;have hle:i<=a.size:=by omega
 have hle2:i+1<=a.size:=by omega
 go_enter Tryz.func97,Tryz.ntmps97;go_wp2
 go_quiet (fail)
 go_wp2;go_ret;exact⟨tY HE.out,iI (aB _ _) _⟩
theorem TL (a s:ByteArray) (w:World) (ha:a.size<=1000) (hs:s.size<=1000000) (hn:a.data.toList.Nodup) (hsub:∀b∈s.data.toList,b∈a.data.toList):
  Calls Tryz.prog 69 #[.string a,.string s] w fun e w'=>∃v,e=.returned (.tuple #[v,.int .i64 0])/\OwI w' w.heap.size v (cM a.data.toList s.data.toList)/\Below w.heap.size w w':=by
 have htold:Calls Tryz.prog 84 #[.string a,.string s] w fun e w'=>∃v u,e=.returned (.tuple #[v,u,.int .i64 0])/\OwI w' w.heap.size v (cM a.data.toList s.data.toList)/\Below w.heap.size w w':=by
  have HN:=hid hn;have HSUB:=hid hsub;have hl:s.data.toList.length=s.size:=by simp
  have hla:a.data.toList.length=a.size:=by simp
  have HL:=hid hl;have HLA:=hid hla;clear hn hsub hl hla;go_enter Tryz.func84,Tryz.ntmps84;go_wp2_with fail;refine(TJ a _ (by omega) HN.out).mono ?_;rintro e w1 ⟨rfl,rfl⟩;go_wp2_with fail
  go_loopg [8,9,10,11] s.size (fun gh s8 s9 s10 _s11 wr=>∃k:Nat,k<=s.size/\gh=s.size-k/\s10=.int .i64 k/\s8=.string (mkS (eB a.data.toList (s.data.toList.take k)))/\OwI wr w1.heap.size s9 (cM a.data.toList (s.data.toList.take k))/\Below w1.heap.size w1 wr)
  case atStart=>exact⟨0,aU _,rfl,rfl,by simp[eB,pL],OwI.nil _ _,aB _ _⟩
  case round=>
  obtain⟨k,hk,hg,rfl,rfl,hown,hbel⟩:=hrel;have HG:=hid hg;clear hg
  by_cases hlt:k<s.size
  ·obtain⟨A,hA⟩:∃A,A=mkS (eB a.data.toList (s.data.toList.take k)):=⟨_,rfl⟩;have hAl:A.data.toList=eB a.data.toList (s.data.toList.take k):=by rw[hA];rfl
   have hperm:=BV (s.data.toList.take k) a.data.toList;rw[<-hAl] at hperm;have hAs:A.size=a.size:=by
    have:=hperm.length_eq
    simpa using this
   have hmem:s[k]∈A.data.toList:=hperm.mem_iff.2 (HSUB.out _ (cH (eW s k hlt)));have e1:=hid (show cM a.data.toList (s.data.toList.take (k+1))=cM a.data.toList (s.data.toList.take k)++[((plc A.data.toList s[k]:Nat):Int)] by
    rw[cQ,eW s k hlt,mX,BW,<-hAl])
   have e2:=hid (show eB a.data.toList (s.data.toList.take (k+1))=eF A.data.toList (plc A.data.toList s[k]) by
    rw[cQ,eW s k hlt,mX,IM,<-hAl])
   have hll:=hid (show(cM a.data.toList (s.data.toList.take k)).length=k by rw[rH,aX,HL.out];omega);rw[<-hA];have hp:=rG hmem;rw[show A.data.toList.length=A.size by simp] at hp;obtain⟨p,hpp⟩:∃p,p=plc A.data.toList s[k]:=⟨_,rfl⟩;rw[<-hpp] at hp e1 e2;have HPP:=hid hpp;have hA1000:A.size<=1000:=by omega
   have hbs:=hbel.size;have hb:=s[k].toNat_lt;clear hA hAl hperm hAs hpp;go_wp2_with fail;refine(TI A s[k] _ (by omega) hmem).mono ?_;rintro e w2 ⟨rfl,rfl⟩;rw[<-HPP.out];go_wp2_with (at_builtin;refine eN rfl _ _ rfl w1.heap.size _ _ rfl (hown.alloc _) w2.heap.size (p:Int) rfl ?_ ?_ ?_ ?_;(exact bS _ _ _);(rw[hll.out];omega);(simp;omega);intro v' w3 hown' hB hgrow);refine(TK A p _ (by omega) hp).mono ?_;rintro e w4 ⟨rfl,h4⟩;rw[<-e2.out];go_wp2_with fail;have hg:=HG.out
   go_roundg (s.size-(k+1))
   case measure=>omega
   case rel=>exact⟨k+1,by omega,rfl,by go_num,rfl,by rw[e1.out];exact hown'.below h4 (aA _),((hbel.alloc hbs _).trans hB).trans (h4.mono (by have:=hB.size;simp at this;omega))⟩
  ·have hke:k=s.size:=by omega
   go_wp2_with fail
   go_ret3
   rw[cS (by rw[HL.out];omega)] at hown;exact⟨_,_,rfl,hown,hbel⟩
 have HT:=hid htold;clear htold hn hsub;go_enter Tryz.func69,Tryz.ntmps69;go_wp2_with fail;refine HT.out.mono ?_;rintro e w1 ⟨v,u,rfl,hown,hb⟩;go_wp2_with fail
 go_ret2
 exact⟨_,rfl,hown,hb⟩
end
section
structure Ent where
 a:Int
 r:Int
 f:Int
 n:Int
 y:Int
def Ent.ok (fr at':Int) (x:Ent):Prop:=x.f=fr/\1<=x.n/\x.n<=18720/\40<=x.r/\x.r<=360/\x.r%40=0/\at'<x.a
instance (fr at':Int) (x:Ent):Decidable (x.ok fr at'):=inferInstanceAs (Decidable (_/\_))
def aU0:Int->Int->List Ent->Prop
 |_,_,[]=>True
 |fr,at',x::l=>x.ok fr at'/\aU0 (x.f+x.n) x.a l
instance rightDec:(fr at':Int)->(l:List Ent)->Decidable (aU0 fr at' l)
 |_,_,[]=>isTrue trivial
 |fr,at',x::l=>by
  unfold aU0;have:=rightDec (x.f+x.n) x.a l;exact inferInstance
def aU1 (l:List Ent):Prop:=aU0 0 31 l
instance (l:List Ent):Decidable (aU1 l):=inferInstanceAs (Decidable (aU0 _ _ _))
def aU3 (l:List Ent):Int:=(l.map Ent.n).sum
def aVm (l:List Ent):Int:=if aU1 l then aU3 l else 0
theorem aWo (x:Ent) (l:List Ent):aU3 (x::l)=x.n+aU3 l:=by unfold aU3;simp
def jM (c:UInt8):Nat->List UInt8->Nat
 |0,_=>0
 |_+1,[]=>0
 |n+1,b::s=>if b=c then jM c n s+1 else 0
theorem TT (c:UInt8):∀n s,jM c n s<=n/\jM c n s<=s.length
 |0,_=>by simp[jM]
 |n+1,[]=>by simp[jM]
 |n+1,b::s=>by
  have:=TT c n s;unfold jM;split<;>simp<;>omega
theorem TU (c:UInt8):∀n s k,k<jM c n s->s[k]? =some c
 |0,_,k,h=>by simp[jM] at h
 |n+1,[],k,h=>by simp[jM] at h
 |n+1,b::s,k,h=>by
  unfold jM at h;split at h
  ·next e=>
   cases k with
   |zero=>simp[e]
   |succ k=>simpa using TU c n s k (by omega)
  ·omega
theorem TV (c:UInt8):∀n s,jM c n s<n->s[jM c n s]?≠some c
 |0,_,h=>by omega
 |n+1,[],h=>by simp[jM]
 |n+1,b::s,h=>by
  unfold jM at h ⊢;split
  ·next e=>
   rw[if_pos e] at h
   simpa using TV c n s (by omega)
  ·next e=>simpa using e
theorem TW (c:UInt8):∀n s k,k<=n->(∀j,j<k->s[j]? =some c)->(k=n\/s[k]?≠some c)->jM c n s=k
 |0,_,k,h,_,_=>by simp[jM];omega
 |n+1,[],k,h,h1,h2=>by
  cases k with
  |zero=>rfl
  |succ k=>have:=h1 0 (by omega);simp at this
 |n+1,b::s,k,h,h1,h2=>by
  unfold jM
  cases k with
  |zero=>
   rw[if_neg];rintro rfl;rcases h2 with h2|h2
   ·omega
   ·simp at h2
  |succ k=>
   have h0:=h1 0 (by omega);rw[if_pos (by simpa using h0),TW c n s k (by omega) (fun j hj=>by have:=h1 (j+1) (by omega);simpa using this)];rcases h2 with h2|h2
   ·exact .inl (by omega)
   ·exact .inr (by simpa using h2)
def dX (s:List UInt8):Nat:=match s with
 |[]=>0
 |c::r=>jM c 255 (c::r)
theorem pS (s:List UInt8) (h:s≠[]):1<=dX s/\dX s<=255/\dX s<=s.length:=by
 cases s with
 |nil=>exact absurd rfl h
 |cons c r=>
  have:=TT c 255 (c::r);refine⟨?_,this.1,this.2⟩;show 1<=jM c 255 (c::r);unfold jM;rw[if_pos rfl];omega
def mN (s:List UInt8) (n:Nat):List UInt8:=s.take (min n 4)++if 4<=n then[eK (n-4)] else[]
def uT:Nat->List UInt8->List UInt8
 |0,_=>[]
 |_+1,[]=>[]
 |f+1,c::r=>mN (c::r) (dX (c::r))++uT f ((c::r).drop (dX (c::r)))
theorem TX:∀f g s,s.length<=f->s.length<=g->uT f s=uT g s
 |0,g,s,hf,hg=>by
  have:s=[]:=mV.1 (by omega);subst this
  cases g<;>rfl
 |f+1,0,s,hf,hg=>by
  have:s=[]:=mV.1 (by omega);subst this;rfl
 |f+1,g+1,[],_,_=>rfl
 |f+1,g+1,c::r,hf,hg=>by
  unfold uT;have:=pS (c::r) (by simp);rw[TX f g _ (by rw[cI];simp only[cR] at*;omega) (by rw[cI];simp only[cR] at*;omega)]
def bC (s:List UInt8):List UInt8:=uT s.length s
theorem DL:bC []=[]:=rfl
theorem yU (s:List UInt8) (h:s≠[]):bC s=mN s (dX s)++bC (s.drop (dX s)):=by
 cases s with
 |nil=>exact absurd rfl h
 |cons c r=>
  have:=pS (c::r) h;show uT (r.length+1) (c::r)=_;unfold uT bC;rw[TX r.length ((c::r).drop (dX (c::r))).length _ (by rw[cI];simp only[cR] at*;omega) (aA _)]
theorem TY (s:List UInt8) (n:Nat) (h:n<=s.length):(mN s n).length=if n<4 then n else 5:=by
 unfold mN;rw[aL,aX]
 by_cases h4:4<=n
 ·rw[if_pos h4,if_neg (by omega)];simp;omega
 ·rw[if_neg h4,if_pos (by omega)];simp;omega
theorem aI1 {s:List UInt8} {out:List UInt8} (h:s≠[]) {all:List UInt8} (ho:out++bC s=all):(out++mN s (dX s))++bC (s.drop (dX s))=all:=by
 rw[<-ho,yU s h,cF]
def unS:Nat->UInt8->List UInt8->Option (List UInt8)
 |r,_,[]=>if r=4 then none else some []
 |r,c,b::s=>if r=4 then(unS 0 c s).map (bB b.toNat c++·)
  else if 0<r/\b=c then(unS (r+1) c s).map (b::·)
  else(unS 1 b s).map (b::·)
def dT (s:List UInt8):Option (List UInt8):=unS 0 0 s
theorem aIx (c d:UInt8):∀s,unS 0 c s=unS 0 d s
 |[]=>rfl
 |b::s=>by unfold unS;simp
theorem aIy {r:Nat} {c:UInt8} {s:List UInt8} (hr:r<4) (h:∀b,s.head? =some b->b≠c):unS r c s=unS 0 0 s:=by
 cases s with
 |nil=>unfold unS;rw[if_neg (by omega),if_neg (by decide)]
 |cons b s=>
  have:=h b rfl;unfold unS;rw[if_neg (by omega),if_neg (by rintro⟨_,e⟩;exact this e),if_neg (by decide),if_neg (by simp)]
theorem KJ (c:UInt8):∀(n r:Nat) (s:List UInt8),0<r->r+n<=4->unS r c (bB n c++s)=(unS (r+n) c s).map (bB n c++·)
 |0,r,s,_,_=>by simp
 |n+1,r,s,h0,h4=>by
  rw[AE,gE]
  conv=>lhs;unfold unS
  rw[if_neg (by omega),if_pos ⟨h0,rfl⟩,KJ c n (r+1) s (by omega) (by omega),OH,show r+1+n=r+(n+1) by omega];rfl
theorem TZ {c:UInt8} {n:Nat} {s:List UInt8} (h1:1<=n) (h4:n<4) (h:∀b,s.head? =some b->b≠c):dT (bB n c++s)=(dT s).map (bB n c++·):=by
 obtain⟨k,rfl⟩:∃k,n=k+1:=⟨n-1,by omega⟩;unfold dT;rw[AE,gE]
 conv=>lhs;unfold unS
 rw[if_neg (by decide),if_neg (by simp),KJ c k 1 s (by decide) (by omega),aIy (r:=1+k) (by omega) h,OH];rfl
theorem KK (c:UInt8) (s:List UInt8):dT (bB 4 c++s)=match s with
  |[]=>none
  |b::r=>(dT r).map (bB 4 c++bB b.toNat c++·):=by
 unfold dT;rw[show bB 4 c=c::bB 3 c from rfl,gE]
 conv=>lhs;unfold unS
 rw[if_neg (by decide),if_neg (by simp),KJ c 3 1 s (by decide) (by decide),OH]
 cases s with
 |nil=>unfold unS;rfl
 |cons b r=>
  show Option.map _ (unS 4 c (b::r))=_
  conv=>lhs;unfold unS
  rw[if_pos rfl,OH,aIx c 0]
  congr 1
theorem aIz {s:List UInt8} {c:UInt8} (h:s.head? =some c):s.take (dX s)=bB (dX s) c/\(dX s<255->(s.drop (dX s)).head?≠some c):=by
 cases s with
 |nil=>simp at h
 |cons d r=>
  obtain rfl:d=c:=by simpa using h
  have hle:=(pS (d::r) (by simp)).2.2;have hs:=TU d 255 (d::r);constructor
  ·apply jA;intro k;rw[lW,aTg]
   by_cases hk:k<dX (d::r)
   ·rw[if_pos hk,if_pos hk];exact hs k hk
   ·rw[if_neg hk,if_neg hk]
  ·intro hlt;rw[List.head?_drop];exact TV d 255 (d::r) hlt
theorem aI0 {s:List UInt8} (h:s≠[]):(bC s).head? =s.head? :=by
 rw[yU s h];have hb:=pS s h
 cases s with
 |nil=>exact absurd rfl h
 |cons c r=>
  unfold mN;obtain⟨k,hk⟩:∃k,min (dX (c::r)) 4=k+1:=⟨min (dX (c::r)) 4-1,by omega⟩;rw[hk,List.take_succ_cons];rfl
theorem UA:∀(n:Nat) (s:List UInt8),s.length<=n->dT (bC s)=some s
 |0,s,h=>by
  have:s=[]:=mV.1 (by omega);subst this;rfl
 |n+1,s,h=>by
  cases hs:s with
  |nil=>rfl
  |cons c r=>
   rw[<-hs];have hne:s≠[]:=by rw[hs];simp
   have hb:=pS s hne;obtain⟨h1,h2⟩:=aIz (s:=s) (c:=c) (by rw[hs];rfl);have ih:=UA n (s.drop (dX s)) (by rw[cI];omega);have hall:bB (dX s) c++s.drop (dX s)=s:=by rw[<-h1,List.take_append_drop]
   rw[yU s hne];unfold mN
   by_cases h4:4<=dX s
   ·rw[if_pos h4,show min (dX s) 4=4 by omega];have e:s.take 4=bB 4 c:=by
     have:=congrArg (List.take 4) h1;rw[AG,gU h4,List.take_replicate,gU h4] at this;exact this
    rw[e,cF,KK];simp only[List.singleton_append];rw[ih,xW,nP,Nat.mod_eq_of_lt (by omega),aTh,show 4+(dX s-4)=dX s by omega,hall]
   ·rw[if_neg h4,eE,show min (dX s) 4=dX s by omega,h1,TZ hb.1 (by omega),ih,xW,hall];intro b hb2 e;subst e
    by_cases hd:s.drop (dX s)=[]
    ·rw[hd] at hb2;simp[DL] at hb2
    ·rw[aI0 hd] at hb2;exact h2 (by omega) hb2
theorem oS:∀(n:Nat) (s:List UInt8),s.length<=n->(bC s).length<=2*s.length/\(s≠[]->bC s≠[])/\s.length<=52*(bC s).length
 |0,s,h=>by
  have:s=[]:=mV.1 (by omega);subst this;exact⟨by simp[DL],fun q=>absurd rfl q,by simp⟩
 |n+1,s,h=>by
  by_cases hne:s=[]
  ·subst hne;exact⟨by simp[DL],fun q=>absurd rfl q,by simp⟩
  ·have hb:=pS s hne;obtain⟨i1,_,i3⟩:=oS n (s.drop (dX s)) (by rw[cI];omega);have hl:=congrArg tM (yU s hne);rw[aL,TY s _ hb.2.2] at hl;rw[cI] at i1 i3;refine⟨?_,fun _ e=>?_,?_⟩
   ·split at hl<;>omega
   ·rw[e] at hl;simp at hl;split at hl<;>omega
   ·split at hl<;>omega
theorem aJ6 (all:List UInt8):dT all=(unS 0 0 all).map ([]++·):=by
 unfold dT
 cases unS 0 0 all<;>rfl
theorem zF {o m:List UInt8} (x:Option (List UInt8)):(x.map (m++·)).map (o++·)=x.map ((o++m)++·):=by
 cases x with
 |none=>rfl
 |some y=>simp
theorem aJ7 {all o s:List UInt8} {c b:UInt8} (h:dT all=(unS 4 c (b::s)).map (o++·)):dT all=(unS 0 c s).map ((o++bB b.toNat c)++·):=by
 rw[h]
 conv=>lhs;unfold unS
 rw[if_pos rfl,zF]
theorem aJ8 {all o s:List UInt8} {r:Nat} {c:UInt8} (h:dT all=(unS r c (c::s)).map (o++·)) (h0:0<r) (h4:r≠4):dT all=(unS (r+1) c s).map ((o++[c])++·):=by
 rw[h]
 conv=>lhs;unfold unS
 rw[if_neg h4,if_pos ⟨h0,rfl⟩];exact zF (m:=[c]) _
theorem VY {all o s:List UInt8} {r:Nat} {c b:UInt8} (h:dT all=(unS r c (b::s)).map (o++·)) (h4:r≠4) (hn:¬(0<r/\b=c)):dT all=(unS 1 b s).map ((o++[b])++·):=by
 rw[h]
 conv=>lhs;unfold unS
 rw[if_neg h4,if_neg hn];exact zF (m:=[b]) _
theorem aJ9 {all o:List UInt8} {r:Nat} {c:UInt8} (h:dT all=(unS r c []).map (o++·)):dT all=if r=4 then none else some o:=by
 rw[h];unfold unS
 by_cases h4:r=4
 ·rw[if_pos h4,if_pos h4];rfl
 ·rw[if_neg h4,if_neg h4];simp
theorem DU {α:Type} (o l:List α) (k:Nat):(o.take k++l).take k=(o++l).take k:=by
 rcases Nat.le_total k o.length with h|h
 ·rw[GO (by rw[aX];omega),AG,Nat.min_self,GO h]
 ·rw[cS h]
def fR (p:List UInt8) (most:Int):List UInt8×Int:=match dT p with
 |none=>([],3)
 |some o=>if most<(o.length:Int) then([],4) else(o,0)
theorem VZ {p:List UInt8} {most:Int} (h:dT p=none):fR p most=([],3):=by unfold fR;rw[h]
theorem LI {p o:List UInt8} {most:Int} (h:dT p=some o):fR p most=if most<(o.length:Int) then([],4) else(o,0):=by unfold fR;rw[h]
theorem aKa:∀(s:List UInt8) (r:Nat) (c:UInt8) (o:List UInt8),unS r c s=some o->s≠[]->r≠4->o≠[]
 |[],_,_,_,_,h,_=>absurd rfl h
 |b::s,r,c,o,h,_,h4=>by
  unfold unS at h;rw[if_neg h4] at h;split at h
  ·cases q:unS (r+1) c s with
   |none=>rw[q] at h;simp at h
   |some y=>rw[q] at h;simp at h;rw[<-h];simp
  ·cases q:unS 1 b s with
   |none=>rw[q] at h;simp at h
   |some y=>rw[q] at h;simp at h;rw[<-h];simp
theorem aKb {p:List UInt8} {most:Int} (hp:p≠[]) (h:(fR p most).2=0):(fR p most).1≠[]/\((fR p most).1.length:Int)<=most:=by
 unfold fR at h ⊢
 cases q:dT p with
 |none=>rw[q] at h;simp at h
 |some o=>
  rw[q] at h;simp only at h ⊢
  by_cases hm:most<(o.length:Int)
  ·rw[if_pos hm] at h;simp at h
  ·rw[if_neg hm];exact⟨aKa p 0 0 o q hp (by decide),by show(o.length:Int)<=most;omega⟩
theorem DV {s:List UInt8} {k:Nat} (h1:k<=255) (h2:k<=s.length) (h3:∀j,j<k->s[j]? =s[0]?) (h4:k=255\/k=s.length\/s[k]?≠s[0]?):dX s=k:=by
 cases s with
 |nil=>simp at h2;subst h2;rfl
 |cons c r=>
  show jM c 255 (c::r)=k;refine TW c 255 _ k h1 (fun j hj=>by rw[h3 j hj];rfl) ?_;rcases h4 with h|h|h
  ·exact .inl h
  ·right;rw[dL (by omega)];simp
  ·right;exact fun e=>h (by rw[e];rfl)
theorem aKd {α:Type} {X Y:List α} {c:α} {k n M:Nat} (hk:k<=n) (hY:Y=(X++bB k c).take (M+1)) (hf:M<Y.length):(X++bB n c).take (M+1)=Y:=by
 have h1:M+1<=(X++bB k c).length:=by
  rw[hY,aX] at hf;omega
 have e:bB n c=bB k c++bB (n-k) c:=by rw[aTh,show k+(n-k)=n by omega]
 rw[e,<-cF,GO h1,hY]
theorem aKe {α:Type} {X Y:List α} {c:α} {k M:Nat} (hY:Y=(X++bB k c).take (M+1)) (hf:Y.length<=M):Y++[c]=(X++bB (k+1) c).take (M+1):=by
 have h1:(X++bB k c).length<=M:=by
  rw[hY,aX] at hf;omega
 rw[cS (by omega)] at hY;rw[List.replicate_succ',<-cF,<-hY,cS (by rw[aL,List.length_singleton];omega)]
end
section
open Go.RowKit Go Go.Shelf
theorem aQy (k:Nat) (x:BitVec 32):jL (k+1) x=if(jL k x).msb then(jL k x)<<<1^^^79764919#32 else(jL k x)<<<1:=rfl
theorem aAr (a:BitVec 32):bits .xor .u32 rA.max (a.toNat:Int)=((~~~ a).toNat:Int):=by
 have h:=DW (0xffffffff#32) a;have e:(((0xffffffff#32:BitVec 32).toNat:Nat):Int)=rA.max:=by decide
 rw[e] at h;rw[h];have:(0xffffffff#32)^^^a= ~~~ a:=by
  have:=BitVec.allOnes_xor (x:=a);exact this
 rw[this]
theorem aQz (i:Nat) (hi:i<256) (w:World):
  Calls Tryz.prog 48 #[.int .i64 (i:Int)] w fun e w'=>e=.returned (.int .u32 ((kN i).toNat:Int))/\w'=w:=by
 have e0:=aKo i hi;have m0:rA.wrap (i:Int)=(i:Int):=by rw[vP];omega
 have m0':(i:Int)%4294967296=(i:Int):=by omega
 obtain⟨x0,hx0⟩:∃x0,x0=BitVec.ofNat 32 i<<<24:=⟨_,rfl⟩;obtain⟨X0,hX0⟩:∃X0,X0=x0.toNat:=⟨_,rfl⟩;rw[<-hx0,<-hX0] at e0;have e0':(i:Int)*16777216%4294967296=(X0:Int):=by rw[<-e0,vP]
 have HT:=hid (show kN i=jL 8 x0 by rw[hx0];rfl);have HX0:=hid hX0;clear hX0 hx0;go_enter Tryz.func48,Tryz.ntmps48;go_wp2_with fail
 go_loopg [3,7] 8 (fun g s3 s7 wr=>∃j X:Nat,j<=8/\g=8-j/\s7=.int .i64 (j:Int)/\s3=.int .u32 (X:Int)/\Hid (X=(jL j x0).toNat)/\wr=w)
 case atStart=>exact⟨0,X0,by omega,rfl,rfl,rfl,HX0,rfl⟩
 case round=>
  obtain⟨j,X,hj,hg,rfl,rfl,HX,rfl⟩:=hrel;have HG:=hid hg;clear hg e0 e0' m0 m0'
  by_cases hlt:j<8
  ·have t1:decide ((j:Int)<8)=true:=decide_eq_true (by omega);obtain⟨x,hx⟩:∃x,x=jL j x0:=⟨_,rfl⟩;have hX:=HX.out;rw[<-hx] at hX;have hsucc:=aQy j x0;rw[<-hx] at hsucc;have e1:=aKq x;have e2:=WC x;obtain⟨y,hy⟩:∃y,y=x<<<1:=⟨_,rfl⟩;obtain⟨Y,hY⟩:∃Y,Y=y.toNat:=⟨_,rfl⟩;have e3:=WE y;obtain⟨z,hz⟩:∃z,z=y^^^79764919#32:=⟨_,rfl⟩;obtain⟨Z,hZ⟩:∃Z,Z=z.toNat:=⟨_,rfl⟩;rw[<-hX] at e1;rw[<-hX,<-hy,<-hY] at e2;rw[<-hY,<-hz,<-hZ] at e3;rw[<-hy,<-hz] at hsucc;have e2':(X:Int)*2%4294967296=(Y:Int):=by rw[<-e2,vP]
   have HY:=hid hY;have HZ:=hid hZ
   by_cases hm:x.msb=true
   ·rw[if_pos hm] at e1;rw[if_pos hm] at hsucc;have HS:=hid hsucc;clear hx hX hy hY hz hZ hsucc hm;go_wp2_with fail;have hg:=HG.out
    go_roundg (8-(j+1))
    case measure=>omega
    case rel=>exact⟨j+1,Z,by omega,rfl,by go_num,rfl,hid (by rw[HS.out];exact HZ.out),rfl⟩
   ·rw[if_neg hm] at e1;rw[if_neg hm] at hsucc;have HS:=hid hsucc;clear hx hX hy hY hz hZ hsucc hm e3;go_wp2_with fail;have hg:=HG.out
    go_roundg (8-(j+1))
    case measure=>omega
    case rel=>exact⟨j+1,Y,by omega,rfl,by go_num,rfl,hid (by rw[HS.out];exact HY.out),rfl⟩
  ·have t1:decide ((j:Int)<8)=false:=decide_eq_false (by omega);have ej:j=8:=by omega
   subst ej;go_wp2_with fail;go_ret;exact⟨fX (by rw[HT.out,<-HX.out]),rfl⟩
def fT (f:Nat->Nat):List Value:=(List.range 256).map fun c=>.int .u32 (f c:Int)
theorem EZ (f:Nat->Nat) (c:Nat) (h:c<256):(fT f)[c]? =some (.int .u32 (f c:Int)):=by simp[fT,h]
theorem aQ0 (f f':Nat->Nat) (c:Nat) (v:Nat) (h:∀d,f' d=if d=c then v else f d):(fT f).set c (.int .u32 (v:Int))=fT f':=by
 apply jA;intro j
 by_cases hj:j<256
 ·by_cases e:c=j
  ·subst e;simp[fT,hj,h]
  ·rw[List.getElem?_set_ne e,EZ f j hj,EZ f' j hj,h,if_neg (fun h=>e h.symm)]
 ·rw[dL (by simp[fT];omega),dL (by simp[fT];omega)]
theorem aAs:Tryz.zeroCells99=(fT (fun _=>0)).toArray:=by kernel_rfl
theorem aQ1 (f:Nat->Nat):(fT f).toArray.size=256:=by simp[fT]
theorem aAt (f:Nat->Nat):(Tryz.prog.info? 99).map (·.size)=some (fT f).toArray.size:=by rw[aQ1];kernel_rfl
theorem aAu:Tryz.prog.underlying 99=some (.array 256 34):=by kernel_rfl
theorem aAv {w:World} {b:Nat} {e:TypeId} {l:List Value} (h:Arr w b e l) (hl:l.length=256) (f:Nat->Nat):
  (storeCells ⟨b,0,none⟩ (fT f)).run Tryz.prog w=.ok () (w.setRow b (fT f).toArray):=by
 have h1:(fT f).length=256:=by simp[fT]
 have h2:=run_storeCells_from (P:=Tryz.prog) b e (fT f) 0 l.toArray w h (by simp[hl,h1]) (fun v hv=>by obtain⟨c,_,rfl⟩:=List.mem_map.1 hv;rfl);rw[h2]
 congr 2
def qS (k c:Nat):Nat:=if c<k then(kN c).toNat else 0
theorem aQ2 (k c:Nat):qS (k+1) c=if c=k then(kN k).toNat else qS k c:=by
 unfold qS
 by_cases h:c=k
 ·subst h;simp
 ·rw[if_neg h]
  by_cases h2:c<k
  ·rw[if_pos h2,if_pos (by omega)]
  ·rw[if_neg h2,if_neg (by omega)]
theorem aQ3 (w:World):
  Calls Tryz.prog 47 #[.func (.func 48) #[] #[]] w fun e w'=>e=.returned (.agg (fT (fun c=>(kN c).toNat)).toArray)/\Below w.heap.size w w':=by
 go_enter Tryz.func47,Tryz.ntmps47;go_wp2_with fail
 go_loopg [3,4] 256 (fun gh _s3 s4 wr=>∃k:Nat,k<=256/\gh=256-k/\s4=.int .i64 k/\Arr wr w.heap.size 99 (fT (qS k))/\Below w.heap.size w wr)
 case atStart=>
  refine⟨0,aU _,rfl,rfl,?_,(aB _ _).alloc (aA _) _⟩;rw[aAs,show qS 0=fun _=>0 from by funext c;simp[qS]];exact Arr.new w _ _
 case round=>
 obtain⟨k,hk,hg,rfl,harr,hbel⟩:=hrel;have HG:=hid hg;clear hg
 by_cases hlt:k<256
 ·have t1:decide ((k:Int)<256)=true:=decide_eq_true (by omega);have c1:=harr.cell (EZ (qS k) k hlt);have f1:=harr.free k;go_wp2_with fail;refine(aQz k hlt _).mono ?_;rintro e w1 ⟨rfl,rfl⟩;have hk2:(k:Int)<256:=by omega
  go_wp2_with fail;have hg:=HG.out
  go_roundg (256-(k+1))
  case measure=>omega
  case rel=>
   refine⟨k+1,by omega,rfl,by go_num,?_,hbel.setCell (p:=⟨w.heap.size,k,none⟩) (aA _) _⟩;have:=harr.set k (.int .u32 ((kN k).toNat:Int));rwa[aQ0 _ (qS (k+1)) _ _ (aQ2 k)] at this
 ·have hke:k=256:=by omega
  subst hke;have t1:decide ((256:Int)<256)=false:=by decide
  have hfin:fT (qS 256)=fT (fun c=>(kN c).toNat):=by
   unfold fT;apply List.map_congr_left;intro c hc;rw[List.mem_range] at hc;unfold qS;rw[if_pos hc]
  rw[hfin] at harr;clear hfin;go_wp2_with fail;refine wp_load_row 99 (.tmp 2) rfl w.heap.size rfl _ _ (0,0) (.array 256 34) harr aAu rfl (aAt _) ?_;have hst:=aAv harr (by simp[fT]) (fun c=>(kN c).toNat);go_wp2_with fail;have harr2:Arr (wr.setRow w.heap.size (fT (fun c=>(kN c).toNat)).toArray) w.heap.size 99 (fT (fun c=>(kN c).toNat)):=setRow_heap wr w.heap.size _ _ 99 (0,0) harr;refine gJ (results_cell_row rfl _ _ w.heap.size _ _ (0,0) (.array 256 34) rfl harr2 aAu rfl (aAt _)) rfl ?_;exact⟨rfl,zB hbel _ (aA _) _⟩
theorem aQ4 (c:BitVec 32) (s:ByteArray) (w:World) (hs:s.size<=140737488355328):
  Calls Tryz.prog 32 #[.int .u32 (c.toNat:Int),.string s] w fun e w'=>e=.returned (.int .u32 ((~~~ kQ (~~~ c) s.data.toList).toNat:Int))/\Below w.heap.size w w':=by
 have HL:=hid (show s.data.toList.length=s.size by simp);have x1:=aAr c;obtain⟨C,hC⟩:∃C,C=c.toNat:=⟨_,rfl⟩;obtain⟨D,hD⟩:∃D,D=(~~~ c).toNat:=⟨_,rfl⟩;rw[<-hC] at x1 ⊢;rw[<-hD] at x1;have HD:=hid hD;obtain⟨cc,hcc⟩:∃cc,cc= ~~~ c:=⟨_,rfl⟩;rw[<-hcc] at HD ⊢;clear hC hD hcc;go_enter Tryz.func32,Tryz.ntmps32;go_wp2_with fail;refine(aQ3 _).mono ?_;rintro e w1 ⟨rfl,hb1⟩;have ha:Arr (w1.alloc (.cells Tryz.zeroCells99 99)) w1.heap.size 99 (fT (fun _=>0)):=by rw[aAs];exact Arr.new w1 _ _
 have hst:=aAv ha (by simp[fT]) (fun c=>(kN c).toNat);have ha2:Arr ((w1.alloc (.cells Tryz.zeroCells99 99)).setRow w1.heap.size (fT (fun c=>(kN c).toNat)).toArray) w1.heap.size 99 (fT (fun c=>(kN c).toNat)):=setRow_heap (w1.alloc (.cells Tryz.zeroCells99 99)) w1.heap.size _ _ 99 (0,0) ha;have hb2:Below w.heap.size w ((w1.alloc (.cells Tryz.zeroCells99 99)).setRow w1.heap.size (fT (fun c=>(kN c).toNat)).toArray):=zB (hb1.alloc hb1.size _) _ hb1.size _;go_wp2_with fail
 generalize (w1.alloc (.cells Tryz.zeroCells99 99)).setRow w1.heap.size (fT (fun c=>(kN c).toNat)).toArray=w2 at*
 have HG0:=hid (fun c (hc:c<256)=>ha2.cell (EZ (fun c=>(kN c).toNat) c hc));clear hst ha ha2;go_wp2_with fail
 go_loopg [0,6,12] s.size (fun g s0 _s6 s12 wr=>∃k X:Nat,k<=s.size/\g=s.size-k/\s12=.int .i64 (k:Int)/\s0=.int .u32 (X:Int)/\Hid (X=(kQ cc (s.data.toList.take k)).toNat)/\wr=w2)
 case atStart=>exact⟨0,D,aU _,rfl,rfl,rfl,HD,rfl⟩
 case round=>
  obtain⟨k,X,hk,hg,rfl,rfl,HX,rfl⟩:=hrel;have HG:=hid hg;clear hg x1
  by_cases hlt:k<s.size
  ·have t1:decide ((k:Int)<(s.size:Int))=true:=decide_eq_true (by omega);have hb:=s[k].toNat_lt;have HS:=hid (WF cc s.data.toList k s[k] (eW s k hlt));obtain⟨x,hx⟩:∃x,x=kQ cc (s.data.toList.take k):=⟨_,rfl⟩;rw[<-hx] at HX HS;have hX:=HX.out;have hstep:=aIv x s[k].toNat hb;have e1:=aKn x;have e2:=aKp x;have hq256:(x>>>24).toNat<256:=by
    have:(x>>>24).toNat=x.toNat/16777216:=by simp[Nat.shiftRight_eq_div_pow]
    have:=x.isLt;omega
   obtain⟨y,hy⟩:∃y,y=x<<<8:=⟨_,rfl⟩;obtain⟨Y,hY⟩:∃Y,Y=y.toNat:=⟨_,rfl⟩;obtain⟨Q,hQ⟩:∃Q,Q=(x>>>24).toNat:=⟨_,rfl⟩;rw[<-hX] at e1 e2;rw[<-hy,<-hY] at e1;rw[<-hQ] at e2 hq256;rw[<-hy,<-hQ] at hstep;have e3:(Q:Int)%256=(Q:Int):=by omega
   have e6:(X:Int)/16777216=(Q:Int):=by omega
   clear e2;have e4:=u8_xor_nat Q s[k].toNat hq256 hb;obtain⟨R,hR⟩:∃R,R=Q^^^s[k].toNat:=⟨_,rfl⟩;have hR256:R<256:=by rw[hR];exact Nat.xor_lt_two_pow (n:=8) hq256 hb
   rw[<-hR] at e4 hstep;have c1:=HG0.out R hR256;have hR2:(R:Int)<256:=by omega
   obtain⟨t,ht⟩:∃t,t=kN R:=⟨_,rfl⟩;have e5:=DW y t;rw[<-ht] at c1 hstep;obtain⟨T,hT⟩:∃T,T=t.toNat:=⟨_,rfl⟩;obtain⟨z,hz⟩:∃z,z=y^^^t:=⟨_,rfl⟩;obtain⟨Z,hZ⟩:∃Z,Z=z.toNat:=⟨_,rfl⟩;rw[<-hT] at c1;rw[<-hY,<-hT,<-hz,<-hZ] at e5;have HZ:=hid (show Z=(kQ cc (s.data.toList.take (k+1))).toNat by rw[HS.out,hstep,hZ,hz]);have e1':(X:Int)*256%4294967296=(Y:Int):=by rw[<-e1,vP]
   clear hx hX hstep hy hY hQ hR ht hT hz hZ HS;go_wp2_with fail;have hg:=HG.out
   go_roundg (s.size-(k+1))
   case measure=>omega
   case rel=>exact⟨k+1,Z,by omega,rfl,by go_num,rfl,HZ,rfl⟩
  ·have t1:decide ((k:Int)<(s.size:Int))=false:=decide_eq_false (by omega);obtain⟨x,hx⟩:∃x,x=kQ cc (s.data.toList.take k):=⟨_,rfl⟩;have hx2:=HX.out;rw[<-hx] at hx2;have x2:=aAr x;rw[<-hx2] at x2;obtain⟨Z,hZ⟩:∃Z,Z=(~~~ x).toNat:=⟨_,rfl⟩;rw[<-hZ] at x2;have HF:=hid (show((Z:Nat):Int)=((~~~ kQ cc s.data.toList).toNat:Int) by rw[hZ,hx,cS (by rw[HL.out];omega)]);clear hx hx2 hZ;go_wp2_with fail;go_ret;exact⟨fX HF.out,hb2⟩
theorem FA (s:ByteArray) (w:World) (hs:s.size<=140737488355328):
  Calls Tryz.prog 15 #[.string s] w fun e w'=>e=.returned (.int .u32 ((fG s.data.toList).toNat:Int))/\Below w.heap.size w w':=by
 have h0:=aQ4 (0#32) s w hs;have e0:(((0#32:BitVec 32).toNat:Nat):Int)=0:=rfl;have e1:(~~~ kQ (~~~ (0#32)) s.data.toList)=fG s.data.toList:=rfl;rw[e0,e1] at h0;go_enter Tryz.func15,Tryz.ntmps15;go_wp2_with fail;refine h0.mono ?_;rintro e w1 ⟨rfl,hb⟩;go_wp2_with fail;go_ret;exact⟨rfl,hb⟩
theorem UE (s:List UInt8) (a:Int) (k:Nat) (h:(aZ s a k).2.2.2≠0):∀m,(aZ s a (k+m))=aZ s a k
 |0=>rfl
 |m+1=>by
  have ih:=UE s a k h m;show(if(aZ s a (k+m)).2.2.2≠0 then aZ s a (k+m) else _)=_;rw[ih,if_pos h]
theorem KO (s:List UInt8) (a n:Nat) (h1:2<=n) (h2:n<=258):eJ s (a:Int) (n:Int)=if(aZ s a n).2.2.2≠0 then([],0,(aZ s a n).2.2.2) else((aZ s a n).1,(aZ s a n).2.2.1,0):=by
 unfold eJ;rw[if_neg (by omega),Int.toNat_natCast]
theorem UF {s:List UInt8} {a n k:Nat} (h1:2<=n) (h2:n<=258) (hk:k<=n) (h:(aZ s a k).2.2.2≠0):eJ s (a:Int) (n:Int)=([],0,(aZ s a k).2.2.2):=by
 have:=UE s a k h (n-k);rw[show k+(n-k)=n by omega] at this;rw[KO s a n h1 h2,this,if_pos h]
theorem UG (s:List UInt8) (a:Int):aZ s a 0=([],(aE s a 5:Int),a+5,if aO s.length a 5≠0 then aO s.length a 5 else if(aE s a 5:Int)<1\/20<(aE s a 5:Int) then 3 else 0):=rfl
theorem UH {s:List UInt8} {a:Int} {k:Nat} (h:(aZ s a k).2.2.2=0):aZ s a (k+1)=
  if(eD s (aZ s a k).2.2.1 (aZ s a k).2.1).2.2≠0 then((aZ s a k).1,(aZ s a k).2.1,(aZ s a k).2.2.1,(eD s (aZ s a k).2.2.1 (aZ s a k).2.1).2.2)
  else((aZ s a k).1++[(eD s (aZ s a k).2.2.1 (aZ s a k).2.1).1],(eD s (aZ s a k).2.2.1 (aZ s a k).2.1).1,(eD s (aZ s a k).2.2.1 (aZ s a k).2.1).2.1,0):=by
 show(if(aZ s a k).2.2.2≠0 then aZ s a k else _)=_;rw[if_neg (fun q=>q h)]
def wM (w w':World) (s:List UInt8) (a n:Nat) (e:Ending):Prop:=
 ∃v,e=.returned (.tuple #[v,.int .i64 (eJ s (a:Int) (n:Int)).2.1,.int .i64 (eJ s (a:Int) (n:Int)).2.2])/\OwI w' w.heap.size v (eJ s (a:Int) (n:Int)).1/\Below w.heap.size w w'
theorem yY {w w':World} {s:List UInt8} {a n:Nat} {E:Int} (h:eJ s (a:Int) (n:Int)=([],0,E)) (hb:Below w.heap.size w w'):wM w w' s a n (.returned (.tuple #[.slice none 0 0,.int .i64 0,.int .i64 E])):=by
 refine⟨.slice none 0 0,?_,?_,hb⟩
 ·rw[h]
 ·rw[h];exact OwI.nil _ _
end
section
open Go.RowKit Go
theorem aKi (s:ByteArray) (w:World) (hs:s.size<=140737488355328):
  Calls Tryz.prog 66 #[.string s] w fun e w'=>e=.returned (.int .i64 ((dX s.data.toList:Nat):Int))/\Below w.heap.size w w':=by
 have HL:=hid (show s.data.toList.length=s.size by simp);go_enter Tryz.func66,Tryz.ntmps66;go_wp2_with fail
 go_loopg [3] 256 (fun g s3 wr=>∃k:Nat,k<=s.size/\k<=255/\g=256-k/\s3=.int .i64 (k:Int)/\Hid (∀j,j<k->s.data.toList[j]? =s.data.toList[0]?)/\Below w.heap.size w wr)
 case atStart=>exact⟨0,aU _,by omega,rfl,rfl,hid (fun j hj=>by omega),aB _ _⟩
 case round=>
  obtain⟨k,hk,hk2,hg,rfl,HJ,hbel⟩:=hrel;have HG:=hid hg;clear hg
  by_cases hlt:k<s.size
  ·have t1:decide ((k:Int)<(s.size:Int))=true:=decide_eq_true (by omega)
   by_cases h255:k<255
   ·have t2:decide ((k:Int)<255)=true:=decide_eq_true (by omega);have h0:0<s.size:=by omega
    have eb:=eW s k hlt;have e0:=eW s 0 h0;obtain⟨b,hb⟩:∃b,b=s[k].toNat:=⟨_,rfl⟩;obtain⟨c,hc⟩:∃c,c=s[0].toNat:=⟨_,rfl⟩
    by_cases hbc:b=c
    ·have t3:((b:Int)==(c:Int))=true:=by rw[hbc];simp
     have t4:decide ((b:Int)=(c:Int))=true:=decide_eq_true (by omega);have HS:=hid (show s.data.toList[k]? =s.data.toList[0]? by rw[eb,e0];congr 1;exact qV.1 (by rw[<-hb,<-hc];exact hbc));have e1:(s[k].toNat:Int)=(b:Int):=by rw[hb]
     have e2:(s[0].toNat:Int)=(c:Int):=by rw[hc]
     clear eb e0 hb hc;go_wp2_with fail
     go_quiet (fail)
     go_wp2_with fail;have hg:=HG.out
     go_roundg (256-(k+1))
     case measure=>omega
     case rel=>exact⟨k+1,by omega,by omega,rfl,by go_num,hid (fun j hj=>by rcases Nat.lt_or_ge j k with q|q;exact HJ.out j q;rw[show j=k by omega];exact HS.out),iI hbel _⟩
    ·have t3:((b:Int)==(c:Int))=false:=by rw[beq_eq_false_iff_ne];omega
     have t4:decide ((b:Int)=(c:Int))=false:=decide_eq_false (by omega);have HP:=hid (show dX s.data.toList=k from DV hk2 (by rw[HL.out];exact hk) HJ.out (.inr (.inr (by rw[eb,e0];intro e;injection e with e;exact hbc (by rw[hb,hc,e])))));have e1:(s[k].toNat:Int)=(b:Int):=by rw[hb]
     have e2:(s[0].toNat:Int)=(c:Int):=by rw[hc]
     clear eb e0 hb hc;go_wp2_with fail
     go_quiet (fail)
     go_wp2_with fail;go_ret;exact⟨fX (by rw[HP.out]),iI hbel _⟩
   ·have t2:decide ((k:Int)<255)=false:=decide_eq_false (by omega);have HP:=hid (show dX s.data.toList=k from DV hk2 (by rw[HL.out];exact hk) HJ.out (.inl (by omega)));go_wp2_with fail
    go_quiet (fail)
    go_wp2_with fail;go_ret;exact⟨fX (by rw[HP.out]),iI hbel _⟩
  ·have t1:decide ((k:Int)<(s.size:Int))=false:=decide_eq_false (by omega);have HP:=hid (show dX s.data.toList=k from DV hk2 (by rw[HL.out];exact hk) HJ.out (.inr (.inl (by rw[HL.out];omega))));go_wp2_with fail
   go_quiet (fail)
   go_wp2_with fail;go_ret;exact⟨fX (by rw[HP.out]),iI hbel _⟩
theorem aKj (b:UInt8) (W:World):(convert 47 9 (.slice (some ⟨W.heap.size,0,none⟩) 1 1)).run Tryz.prog (W.alloc (.cells #[.int .u8 (b.toNat:Int)] 5)).drew=.ok (.string (mkS [b])) (W.alloc (.cells #[.int .u8 (b.toNat:Int)] 5)).drew:=
 lQ (l:=[b]) (Arr.rdB (w:=(W.alloc (.cells #[.int .u8 (b.toNat:Int)] 5)).drew) (l:=[b]) (Arr.new W 5 [.int .u8 (b.toNat:Int)]) rfl (by decide))
theorem aKk (s:ByteArray) (w:World) (hs:s.size<=1000000):
  Calls Tryz.prog 52 #[.string s] w fun e w'=>e=.returned (.string (mkS (bC s.data.toList)))/\Below w.heap.size w w':=by
 have HL:=hid (show s.data.toList.length=s.size by simp);go_enter Tryz.func52,Tryz.ntmps52;go_wp2_with fail
 go_loopg [3,4,5] s.size (fun g s3 s4 _s5 wr=>∃(a:Nat) (o:List UInt8),a<=s.size/\g=s.size-a/\s4=.int .i64 (a:Int)/\s3=.string (mkS o)/\Hid (o++bC (s.data.toList.drop a)=bC s.data.toList)/\Below w.heap.size w wr)
 case atStart=>exact⟨0,[],aU _,rfl,rfl,rfl,hid (by simp),aB _ _⟩
 case round=>
  obtain⟨a,o,ha,hg,rfl,rfl,HO,hbel⟩:=hrel;have HG:=hid hg;clear hg
  by_cases hlt:a<s.size
  ·have t1:decide ((a:Int)<(s.size:Int))=true:=decide_eq_true (by omega);have hne:s.data.toList.drop a≠[]:=fun e=>by have:=congrArg tM e;rw[cI,HL.out] at this;simp at this;omega
   have hbd:=pS _ hne;have hstep:=aI1 hne HO.out;have hol:o.length<=2000000:=by
    have h1:=(oS s.data.toList.length s.data.toList (aA _)).1;have h2:=congrArg tM HO.out;rw[aL] at h2;rw[HL.out] at h1;omega
   have hx:s.extract a s.size=mkS (s.data.toList.drop a):=by
    rw[nT,cS (by rw[cI,HL.out];omega)]
   have hdl:(s.data.toList.drop a).length=s.size-a:=by rw[cI,HL.out]
   obtain⟨r,hr⟩:∃r,r=s.data.toList.drop a:=⟨_,rfl⟩;rw[<-hr] at hx hbd hstep hdl;have hcall:=fun W=>aKi (mkS r) W (by rw[cP];omega)
   obtain⟨n,hn⟩:∃n,n=dX r:=⟨_,rfl⟩;rw[fW,<-hn] at hcall;rw[<-hn] at hbd hstep;have hdrop:r.drop n=s.data.toList.drop (a+n):=by rw[hr,List.drop_drop]
   have HSt:=hid hstep;have HD:=hid hdrop;have HR:=hid hr;clear hne hn hr hstep hdrop;have q1:a<=s.size:=ha;have q2:(a:Int)<=(s.size:Int):=by omega
   by_cases h4:n<4
   ·have t2:decide ((n:Int)<4)=true:=decide_eq_true (by omega);have m1:aI.wrap ((a:Int)+(n:Int))=((a+n:Nat):Int):=by rw[aM];omega
    have q3:a+n<=s.size:=by omega
    have q4:((a+n:Nat):Int)<=(s.size:Int):=by omega
    have q5:(a:Int)<=((a+n:Nat):Int):=by omega
    have q6:a<=a+n:=by omega
    have hx2:s.extract a (a+n)=mkS (mN r n):=by
     rw[nT,<-HR.out,show a+n-a=n by omega]
     congr 1
     unfold mN;rw[if_neg (by omega),eE,gU (by omega)]
    have hpl:(mN r n).length<=5:=by
     rw[TY r n (by omega)];split<;>omega
    obtain⟨p,hp⟩:∃p,p=mN r n:=⟨_,rfl⟩;rw[<-hp] at hx2 hpl;have HP:=hid hp;clear hp;obtain⟨c,hc⟩:∃c:Nat,c=a+n:=⟨_,rfl⟩;rw[<-hc] at m1 q3 q4 q5 q6 hx2;have hsum:mkS o++mkS p=mkS (o++p):=pM o p;have HC:=hid hc;clear hc;go_wp2_with fail;refine(hcall _).mono ?_;rintro e w1 ⟨rfl,hb1⟩;go_wp2_with fail;have hg:=HG.out;have hc:=HC.out;have hbs:=hbel.size
    go_roundg (s.size-c)
    case measure=>omega
    case rel=>exact⟨c,o++p,q3,rfl,by go_num,rfl,hid (by rw[HP.out,hc,<-HD.out];exact HSt.out),hbel.trans (hb1.mono hbs)⟩
   ·have t2:decide ((n:Int)<4)=false:=decide_eq_false (by omega);have m1:aI.wrap ((a:Int)+4)=((a+4:Nat):Int):=by rw[aM];omega
    have m2:aI.wrap ((a:Int)+(n:Int))=((a+n:Nat):Int):=by rw[aM];omega
    have m3:aI.wrap ((n:Int)-4)=((n-4:Nat):Int):=by rw[aM];omega
    have hx2:s.extract a (a+4)=mkS (r.take 4):=by
     rw[nT,<-HR.out,show a+4-a=4 by omega]
    obtain⟨d,hd⟩:∃d:Nat,d=n-4:=⟨_,rfl⟩;obtain⟨b,hb⟩:∃b:UInt8,b=eK d:=⟨_,rfl⟩;have hb2:b.toNat=d:=by rw[hb,nP];omega
    have m4:IntKind.u8.wrap (d:Int)=(b.toNat:Int):=by rw[hb2,IntKind.wrap_u8];omega
    have hpp:r.take 4++[b]=mN r n:=by
     unfold mN;rw[if_pos (by omega),Nat.min_eq_right (by omega),hb,hd]
    rw[<-hd] at m3;obtain⟨e4,he4⟩:∃e4:Nat,e4=a+4:=⟨_,rfl⟩;obtain⟨c,hc⟩:∃c:Nat,c=a+n:=⟨_,rfl⟩;rw[<-he4] at m1 hx2;rw[<-hc] at m2;have q3:e4<=s.size:=by omega
    have q4:(e4:Int)<=(s.size:Int):=by omega
    have q5:(a:Int)<=(e4:Int):=by omega
    have q6:a<=e4:=by omega
    obtain⟨p,hp⟩:∃p,p=r.take 4:=⟨_,rfl⟩;have hpl:p.length<=4:=by rw[hp,aX];omega
    rw[<-hp] at hx2 hpp;have hsum:mkS o++mkS p=mkS (o++p):=pM o p;have hsum2:mkS (o++p)++mkS [b]=mkS (o++p++[b]):=pM _ _;have HPP:=hid hpp;have HC:=hid hc;have q7:c<=s.size:=by omega
    have hcv:=aKj b;have q8:¬9223372036854775807<o.length+p.length:=by omega
    have q9:¬9223372036854775807<o.length+p.length+1:=by omega
    clear hb hb2 hd hp hpp he4 hc;go_wp2_with fail;refine(hcall _).mono ?_;rintro e w1 ⟨rfl,hb1⟩;go_wp2_with fail
    go_region
    all_goals
     go_wp2_with fail;have hg:=HG.out;have hc:=HC.out;have hbs:=hbel.size;have hb1s:=hb1.size
     go_roundg (s.size-c)
     case measure=>omega
     case rel=>exact⟨c,o++(p++[b]),q7,rfl,by go_num,rfl,hid (by rw[HPP.out,hc,<-HD.out];exact HSt.out),(hbel.trans (hb1.mono hbs)).trans (((aB _ w1).alloc (aA _) _).mono (by omega)).drew⟩
  ·have t1:decide ((a:Int)<(s.size:Int))=false:=decide_eq_false (by omega);have hfin:=HO.out;rw[AT (by rw[HL.out];omega),DL,eE] at hfin;have HF:=hid hfin;clear hfin;go_wp2_with fail;go_ret;exact⟨tY (by rw[HF.out]),hbel⟩
end
section
open Go.RowKit Go Go.Shelf
theorem Bld.drew {w:World} {B b:Nat} {l:List UInt8} (h:Bld w B b l):Bld w.drew B b l:=h
theorem Bld.drewN {w:World} {B b:Nat} {l:List UInt8} (h:Bld w B b l) (n:Nat):Bld (w.drewN n) B b l:=h
theorem aAo (b mb:Nat) (c:UInt8) (n M:Nat) (X:List UInt8) (w:World) (h:Bld w b b X) (hm:w.cell? ⟨mb,0,none⟩=some (.int .i64 (M:Int))) (hmb:mb<b) (hbw:b<w.heap.size) (hM:M<=1000000) (hX:X.length<=M+1) (hn:n<=255):
  Calls Tryz.prog 132 #[.int .u8 (c.toNat:Int),.int .i64 (n:Int),.pointer (some ⟨b,0,none⟩),.pointer (some ⟨mb,0,none⟩)] w fun e w'=>e=.returned (.tuple #[])/\Bld w' b b ((X++bB n c).take (M+1))/\Below b w w':=by
 go_enter Tryz.func132,Tryz.ntmps132;go_wp2_with fail
 go_loopg [7] n (fun g s7 wr=>∃(k:Nat) (Y:List UInt8),k<=n/\g=n-k/\s7=.int .i64 (k:Int)/\Hid (Y=(X++bB k c).take (M+1))/\Bld wr b b Y/\Below b w wr)
 case atStart=>exact⟨0,X,aU _,rfl,rfl,hid (by rw[List.replicate_zero,eE,cS hX]),h,aB _ _⟩
 case round=>
  obtain⟨k,Y,hk,hg,rfl,HY,hB,hbel⟩:=hrel;have HG:=hid hg;clear hg
  by_cases hlt:k<n
  ·have t1:decide ((k:Int)<(n:Int))=true:=decide_eq_true (by omega);have c1:=(hbel.cell (p:=⟨mb,0,none⟩) hmb).trans hm;have hmx:max (M:Int) 0=(M:Int):=by omega
   have hBd:=hB.drew;have hsz:=hbel.size;go_wp2_with fail
   by_cases hful:M<Y.length
   ·have t2:decide ((M:Int)<(Y.length:Int))=true:=decide_eq_true (by omega);have t3:decide ((Y.length:Int)>(M:Int))=true:=decide_eq_true (by omega)
    go_region_with (go_at_call 133;refine(EW b b Y _ (by assumption)).mono ?_;rintro e w1 ⟨rfl,rfl⟩)
    all_goals
     go_wp2_with fail
     first|go_end0|refine gJ (results_none rfl _ _ _) rfl ?_
     exact⟨rfl,by rw[aKd hk HY.out hful];exact hB,hbel.drew⟩
   ·have t2:decide ((M:Int)<(Y.length:Int))=false:=decide_eq_false (by omega);have t3:decide ((Y.length:Int)>(M:Int))=false:=decide_eq_false (by omega);have hcall:=aAm b b Y c wr.drew hBd (by omega) (by show b<=wr.heap.size;omega)
    go_region_with (go_at_call 133;refine(EW b b Y _ (by assumption)).mono ?_;rintro e w1 ⟨rfl,rfl⟩)
    all_goals
     go_wp2_with fail;refine hcall.mono ?_;rintro e w2 ⟨rfl,h2,b2,_⟩;go_wp2_with fail;have hg:=HG.out
     go_roundg (n-(k+1))
     case measure=>omega
     case rel=>exact⟨k+1,Y++[c],by omega,rfl,by go_num,hid (aKe HY.out (by omega)),h2,hbel.drew.trans b2⟩
  ·have t1:decide ((k:Int)<(n:Int))=false:=decide_eq_false (by omega);have hke:k=n:=by omega
   subst hke;go_wp2_with fail
   go_end0
   exact⟨rfl,by rw[<-HY.out];exact hB,hbel⟩
theorem aAp (w:World):Bld (w.alloc (.cells #[.pointer none,.slice none 0 0] 222)) w.heap.size w.heap.size []:=Lib.IsBuilderF.of (Lib.fresh_isBuilder 222 5 w)
theorem aQv (s:ByteArray) (M:Nat) (w:World) (hs:s.size<=1000000) (hM:M<=1000000):
  Calls Tryz.prog 117 #[.string s,.int .i64 (M:Int)] w fun e w'=>e=.returned (.tuple #[.string (mkS (fR s.data.toList M).1),.int .i64 (fR s.data.toList M).2])/\Below w.heap.size w w':=by
 have HL:=hid (show s.data.toList.length=s.size by simp);have hmf:∀(fn:Fn) (first cap:Array Value) (w:World),(Instr.makeFunc fn first cap).run Tryz.prog w=.ok (.func fn first cap) w:=fun _ _ _ _=>rfl
 have hE:∀args W,(callFunc 132 args).run Tryz.prog W=.ok (.enter 132 args) W:=enters_of Tryz.func132 (by kernel_rfl) rfl;go_enter Tryz.func117,Tryz.ntmps117;go_wp2_with fail;have hB0:=aAp (w.alloc (.cells #[.int .i64 (M:Int)] 3));rw[World.size_alloc] at hB0;have hm0:((w.alloc (.cells #[.int .i64 (M:Int)] 3)).alloc (.cells #[.pointer none,.slice none 0 0] 222)).cell? ⟨w.heap.size,0,none⟩=some (.int .i64 (M:Int)):=((Arr.new w 3 [.int .i64 (M:Int)]).alloc _).cell (i:=0) rfl
 have hs0:((w.alloc (.cells #[.int .i64 (M:Int)] 3)).alloc (.cells #[.pointer none,.slice none 0 0] 222)).heap.size=w.heap.size+1+1:=by simp
 have hb0:Below w.heap.size w ((w.alloc (.cells #[.int .i64 (M:Int)] 3)).alloc (.cells #[.pointer none,.slice none 0 0] 222)):=((aB _ w).alloc (aA _) _).alloc (by simp) _;generalize (w.alloc (.cells #[.int .i64 (M:Int)] 3)).alloc (.cells #[.pointer none,.slice none 0 0] 222)=w0 at*
 go_loopg [8,9,10,14] s.size (fun g s8 s9 _s10 s14 wr=>∃(k r:Nat) (c:UInt8) (o:List UInt8),k<=s.size/\g=s.size-k/\s14=.int .i64 (k:Int)/\s8=.int .i64 (r:Int)/\s9=.int .u8 (c.toNat:Int)/\r<=4/\Hid (dT s.data.toList=(unS r c (s.data.toList.drop k)).map (o++·))/\Bld wr (w.heap.size+1) (w.heap.size+1) (o.take (M+1))/\Below (w.heap.size+1) w0 wr)
 case atStart=>exact⟨0,0,0,[],aU _,rfl,rfl,rfl,rfl,by omega,hid (aJ6 _),hB0,aB _ _⟩
 case round=>
  obtain⟨k,r,c,o,hk,hg,rfl,rfl,rfl,hr4,HO,hB,hbel⟩:=hrel;have HG:=hid hg;clear hg;have hm1:=(hbel.cell (p:=⟨w.heap.size,0,none⟩) (by show w.heap.size<w.heap.size+1;omega)).trans hm0;have hsz:=hbel.size;have hXl:(o.take (M+1)).length<=M+1:=by rw[aX];omega
  by_cases hlt:k<s.size
  ·have t1:decide ((k:Int)<(s.size:Int))=true:=decide_eq_true (by omega);have hb:=s[k].toNat_lt;have hdk:s.data.toList.drop k=s[k]::s.data.toList.drop (k+1):=by
    obtain⟨h1,h2⟩:=List.getElem?_eq_some_iff.1 (eW s k hlt);rw[List.drop_eq_getElem_cons h1,h2]
   have HO1:=HO.out;rw[hdk] at HO1
   by_cases h4:r=4
   ·subst h4;have t2:decide (((4:Nat):Int)=4)=true:=by decide
    have HS:=hid (aJ7 HO1);have hcall:=fun(n:Nat) hn=>aAo (w.heap.size+1) w.heap.size c n M (o.take (M+1)) wr hB hm1 (by omega) (by omega) hM hXl hn
    have hcall1:=hcall s[k].toNat (by omega);rw[DU] at hcall1;clear hcall hdk HO1;go_wp2_with fail;refine hcall1.mono ?_;rintro e w2 ⟨rfl,h2,b2⟩;go_wp2_with fail;have hg:=HG.out
    go_roundg (s.size-(k+1))
    case measure=>omega
    case rel=>exact⟨k+1,0,c,_,by omega,rfl,by go_num,rfl,rfl,by omega,HS,h2,hbel.trans b2⟩
   ·have t2:decide ((r:Int)=4)=false:=decide_eq_false (by omega);have t2':((r:Int)==4)=false:=by rw[beq_eq_false_iff_ne];omega
    have hcall:=fun(d:UInt8)=>aAo (w.heap.size+1) w.heap.size d 1 M (o.take (M+1)) wr hB hm1 (by omega) (by omega) hM hXl (by omega)
    by_cases h0:0<r
    ·have t3:decide ((0:Int)<(r:Int))=true:=decide_eq_true (by omega);have t3':decide ((r:Int)>0)=true:=decide_eq_true (by omega)
     by_cases hc:s[k]=c
     ·have t4:((s[k].toNat:Int)==(c.toNat:Int))=true:=by rw[hc];simp
      have t4':decide ((s[k].toNat:Int)=(c.toNat:Int))=true:=decide_eq_true (by rw[hc]);rw[hc] at HO1;have HS:=hid (aJ8 HO1 h0 h4);have hcall1:=hcall c;rw[DU] at hcall1;have m1:aI.wrap ((r:Int)+1)=((r+1:Nat):Int):=by rw[aM];omega
      clear hcall hdk HO1 hc;go_wp2_with fail;refine hcall1.mono ?_;rintro e w2 ⟨rfl,h2,b2⟩;go_wp2_with fail;have hg:=HG.out
      go_roundg (s.size-(k+1))
      case measure=>omega
      case rel=>exact⟨k+1,r+1,c,_,by omega,rfl,by go_num,by go_num,rfl,by omega,HS,h2,hbel.trans b2⟩
     ·have hne:(s[k].toNat:Int)≠(c.toNat:Int):=fun e=>hc (qV.1 (by omega))
      have t4:((s[k].toNat:Int)==(c.toNat:Int))=false:=by rw[beq_eq_false_iff_ne];exact hne
      have t4':decide ((s[k].toNat:Int)=(c.toNat:Int))=false:=decide_eq_false hne;have HS:=hid (VY HO1 h4 (by rintro⟨_,h⟩;exact hc h));have hcall1:=hcall s[k];rw[DU] at hcall1;clear hcall hdk HO1 hc hne;go_wp2_with fail;refine hcall1.mono ?_;rintro e w2 ⟨rfl,h2,b2⟩;go_wp2_with fail;have hg:=HG.out
      go_roundg (s.size-(k+1))
      case measure=>omega
      case rel=>exact⟨k+1,1,s[k],_,by omega,rfl,by go_num,rfl,rfl,by omega,HS,h2,hbel.trans b2⟩
    ·have t3:decide ((0:Int)<(r:Int))=false:=decide_eq_false (by omega);have t3':decide ((r:Int)>0)=false:=decide_eq_false (by omega);have HS:=hid (VY HO1 h4 (by rintro⟨h,_⟩;exact h0 h));have hcall1:=hcall s[k];rw[DU] at hcall1;clear hcall hdk HO1;go_wp2_with fail;refine hcall1.mono ?_;rintro e w2 ⟨rfl,h2,b2⟩;go_wp2_with fail;have hg:=HG.out
     go_roundg (s.size-(k+1))
     case measure=>omega
     case rel=>exact⟨k+1,1,s[k],_,by omega,rfl,by go_num,rfl,rfl,by omega,HS,h2,hbel.trans b2⟩
  ·have t1:decide ((k:Int)<(s.size:Int))=false:=decide_eq_false (by omega);have hend:=HO.out;rw[AT (by rw[HL.out];omega)] at hend;have hend:=aJ9 hend
   by_cases h4:r=4
   ·subst h4;have t2:decide (((4:Nat):Int)=4)=true:=by decide
    rw[if_pos rfl] at hend;have HE:=hid (VZ (most:=(M:Int)) hend);clear hend;go_wp2_with fail
    go_ret2
    exact⟨by rw[HE.out];rfl,hb0.trans (hbel.mono (by omega))⟩
   ·have t2:decide ((r:Int)=4)=false:=decide_eq_false (by omega);have t2':((r:Int)==4)=false:=by rw[beq_eq_false_iff_ne];omega
    rw[if_neg h4] at hend;have hE2:=LI (most:=(M:Int)) hend;clear hend;have hBN:∀n,Bld (wr.drewN n) (w.heap.size+1) (w.heap.size+1) (o.take (M+1)):=fun n=>hB.drewN n
    by_cases hlong:M<o.length
    ·rw[if_pos (by omega)] at hE2;have HE:=hid hE2;clear hE2;have hlen:(o.take (M+1)).length=M+1:=by rw[aX];omega
     have t5:decide ((M:Int)<((M+1:Nat):Int))=true:=decide_eq_true (by omega);have t6:decide (((M+1:Nat):Int)>(M:Int))=true:=decide_eq_true (by omega);have hBd:=hB.drew;have HLn:=hid hlen;clear hlen;go_wp2_with fail
     go_region_with (go_at_call 133;refine(EW (w.heap.size+1) (w.heap.size+1) (o.take (M+1)) _ (by assumption)).mono ?_;rintro e w1 ⟨rfl,rfl⟩;rw[HLn.out])
     all_goals
      go_wp2_with fail
      go_ret2
      exact⟨by rw[HE.out];rfl,hb0.trans ((hbel.mono (by omega)).drew)⟩
    ·rw[if_neg (by omega)] at hE2;have HE:=hid hE2;clear hE2;rw[cS (by omega)] at hB hBN;have t5:decide ((M:Int)<(o.length:Int))=false:=decide_eq_false (by omega);have t6:decide ((o.length:Int)>(M:Int))=false:=decide_eq_false (by omega);have hBd:=hB.drew;have hcall:=aAn (w.heap.size+1) (w.heap.size+1) o wr.drew hBd (by show w.heap.size+1<=wr.heap.size;omega);go_wp2_with fail
     go_region_with (go_at_call 133;refine(EW (w.heap.size+1) (w.heap.size+1) o _ (by assumption)).mono ?_;rintro e w1 ⟨rfl,rfl⟩)
     all_goals
      go_wp2_with fail;refine hcall.mono ?_;rintro e w2 ⟨rfl,_,b2,_⟩;go_wp2_with fail
      go_ret2
      exact⟨by rw[HE.out];rfl,hb0.trans (((hbel.drew).trans b2).mono (by omega))⟩
end
section
open Go.RowKit
theorem wV (l:List Bool) (w:World) (hl:l.length<=1000000):
  Calls Tryz.prog 39 #[.agg #[.string (mkS (aD l)),.int .i64 (l.length:Int)]] w fun e w'=>∃v,e=.returned v/\RdI w' v (bI l)/\Below w.heap.size w w':=by
 go_enter Tryz.func39,Tryz.ntmps39;go_wp2_with fail;have hR:=Arr.new w 82 [.string (mkS (aD l)),.int .i64 (l.length:Int)];have hB0:Below w.heap.size w (w.alloc (.cells #[.string (mkS (aD l)),.int .i64 (l.length:Int)] 82)):=bD (aB _ _) _;change Arr (w.alloc (.cells #[.string (mkS (aD l)),.int .i64 (l.length:Int)] 82)) _ _ _ at hR;generalize w.alloc (.cells #[.string (mkS (aD l)),.int .i64 (l.length:Int)] 82)=w0 at*
 have hpl:(aD l).length<=125001:=by rw[gY];omega
 refine(aD7 (mkS (aD l)) _ (by rw[cP];omega)).mono ?_;rintro e w1 ⟨v,rfl,hown,h1⟩;rw[fW] at hown;obtain⟨a,c,rfl,hc1,hc2,_⟩:=hown.rd.open;have hR1:=hR.below h1 hR.lt;have c1:=hR1.cell (i:=1) rfl;have hblen:(bI (kW (aD l))).length=8*((l.length+7)/8):=by rw[cN,xZ,gY]
 have htk:(bI (kW (aD l))).take l.length=bI l:=by rw[aD5,aDl]
 have hrd:RdI w1 (.slice a l.length c) (bI l):=by
  have hlen:l.length=(bI l).length:=(cN l).symm;rw[<-htk];have h2:=hown.rd;obtain⟨a',c',e,k1,k2,k3⟩:=h2.open
  injection e with e1 e2 e3
  subst e1;subst e3;rcases Nat.eq_zero_or_pos l.length with q|q
  ·rw[q];exact⟨_,_,rfl,aU _,k2,.inl (by simp)⟩
  ·obtain⟨b,off,rfl,hb,hcell⟩:=k3 (by omega);have hl2:((bI (kW (aD l))).take l.length).length=l.length:=by rw[htk,cN]
   refine⟨_,_,by rw[hl2],by rw[hl2];omega,k2,.inr ⟨b,off,rfl,hb,fun j hj=>?_⟩⟩;rw[List.length_map,hl2] at hj;rw[hcell j _ (List.getElem?_eq_getElem (by omega))];simp[List.getD,show j<(bI (kW (aD l))).length by omega,hj]
 have hB1:=bV hB0 h1;have z1:l.length<=c:=by omega
 have z2:(l.length:Int)<=(c:Int):=by omega
 clear htk hown;go_wp2_with fail;go_ret;exact⟨_,rfl,hrd,hB1⟩
end
section
open Go.RowKit Go
abbrev QR:=Int×Int×Int
def aVe (x:QR) (p fr:Int):Ent:=⟨p+gA x.1 300,40*(1+gA x.2.2 9),fr,1+gA x.2.1 30,gA x.2.2 1000⟩
def aUp:List QR->Int->Int->List Ent
 |[],_,_=>[]
 |x::l,p,fr=>aVe x p fr::aUp l (p+gA x.1 300+1) (fr+(1+gA x.2.1 30))
def aUt:List QR->Int->Int
 |[],p=>p
 |x::l,p=>aUt l (p+gA x.1 300+1)
def aUs:List QR->Int->Int
 |[],fr=>fr
 |x::l,fr=>aUs l (fr+(1+gA x.2.1 30))
theorem aWg (x:QR):∀(l:List QR) (p fr:Int),aUp (l++[x]) p fr=aUp l p fr++[aVe x (aUt l p) (aUs l fr)]
 |[],_,_=>rfl
 |y::l,p,fr=>by
  show _::aUp (l++[x]) _ _=_::(aUp l _ _++_);rw[aWg x l];rfl
theorem aWh (x:QR):∀(l:List QR) (p:Int),aUt (l++[x]) p=aUt l p+gA x.1 300+1
 |[],_=>rfl
 |y::l,p=>aWh x l _
theorem aWi (x:QR):∀(l:List QR) (fr:Int),aUs (l++[x]) fr=aUs l fr+(1+gA x.2.1 30)
 |[],_=>rfl
 |y::l,fr=>aWi x l _
theorem aWj:∀(l:List QR) (p:Int),p<=aUt l p/\aUt l p<=p+300*(l.length:Int)
 |[],p=>⟨lJ _,by simp[aUt]⟩
 |x::l,p=>by
  obtain⟨h1,h2⟩:=aWj l (p+gA x.1 300+1);obtain⟨p1,p2⟩:=vU x.1 300 (by decide);show p<=aUt l (p+gA x.1 300+1)/\aUt l (p+gA x.1 300+1)<=_;rw[cR];push_cast;omega
theorem aVr:∀(l:List QR) (fr:Int),fr<=aUs l fr/\aUs l fr<=fr+30*(l.length:Int)
 |[],p=>⟨lJ _,by simp[aUs]⟩
 |x::l,p=>by
  obtain⟨h1,h2⟩:=aVr l (p+(1+gA x.2.1 30));obtain⟨p1,p2⟩:=vU x.2.1 30 (by decide);show p<=aUs l (p+(1+gA x.2.1 30))/\aUs l (p+(1+gA x.2.1 30))<=_;rw[cR];push_cast;omega
theorem aVs:∀(l:List QR) (p fr:Int),(aUp l p fr).length=l.length
 |[],_,_=>rfl
 |x::l,p,fr=>by
  show(aUp l _ _).length+1=_;rw[aVs l];rfl
theorem aWk:∀(l:List QR) (p fr lo:Int),lo<p->aU0 fr lo (aUp l p fr)
 |[],_,_,_,_=>trivial
 |x::l,p,fr,lo,h=>by
  obtain⟨p1,p2⟩:=vU x.1 300 (by decide);obtain⟨q1,q2⟩:=vU x.2.1 30 (by decide);obtain⟨r1,r2⟩:=vU x.2.2 9 (by decide);refine⟨⟨rfl,?_,?_,?_,?_,?_,?_⟩,?_⟩
  ·show 1<=1+gA x.2.1 30;omega
  ·show 1+gA x.2.1 30<=18720;omega
  ·show 40<=40*(1+gA x.2.2 9);omega
  ·show 40*(1+gA x.2.2 9)<=360;omega
  ·show 40*(1+gA x.2.2 9)%40=0;omega
  ·show lo<p+gA x.1 300;omega
  ·exact aWk l _ _ _ (by show p+gA x.1 300<_;omega)
theorem aWl:∀(l:List QR) (p fr:Int),aU3 (aUp l p fr)=aUs l fr-fr
 |[],_,fr=>by show(0:Int)=fr-fr;omega
 |x::l,p,fr=>by
  show aU3 (aVe x p fr::aUp l _ _)=aUs l _-fr;rw[aWo,aWl l];show(1+gA x.2.1 30)+_=_;omega
def aUv (raw:List QR):List Ent:=aUp (raw.take 20) 32 0
theorem aX4 (raw:List QR):aU1 (aUv raw):=aWk _ _ _ _ (by decide)
theorem aYa (raw:List QR):(aUv raw).length<=20:=by unfold aUv;rw[aVs,aX];omega
theorem aX5 (raw:List QR):aVm (aUv raw)=aU3 (aUv raw):=if_pos (aX4 raw)
theorem aYb (raw:List QR):0<=aVm (aUv raw)/\aVm (aUv raw)<=600:=by
 rw[aX5];unfold aUv;rw[aWl];have h:=aVr (raw.take 20) 0;have hl:(raw.take 20).length<=20:=by rw[aX];omega
 omega
end
section
def lnP (n:Nat):Nat:=if n<4 then n else 5
def lnL (s:List UInt8):Nat:=(bC s).length
theorem bAx:lnL []=0:=rfl
theorem aZ2 {a b:Nat} (h:a<=b):lnP a<=lnP b:=by unfold lnP;split<;>split<;>omega
theorem bAy {s:List UInt8} (h:s≠[]):lnL s=lnP (dX s)+lnL (s.drop (dX s)):=by
 have hb:=pS s h;unfold lnL
 conv=>lhs;rw[yU s h]
 rw[aL,TY _ _ hb.2.2];rfl
theorem bAz {s:List UInt8} (h:s≠[]) {k:Nat} (h1:1<=k) (hk:k<=s.length):dX (s.take k)=min k (dX s):=by
 obtain⟨c,r,rfl⟩:=List.exists_cons_of_ne_nil h;have hb:=pS (c::r) h;obtain⟨p1,p2⟩:=aIz (s:=c::r) (c:=c) rfl;generalize hn:dX (c::r)=n at*
 have hsame:∀j,j<n->(c::r)[j]? =some c:=fun j hj=>by
  have:((c::r).take n)[j]? =some c:=by rw[p1,aTg,if_pos hj]
  rwa[lW,if_pos hj] at this
 have hl:((c::r).take k).length=k:=by rw[aX];omega
 have h0:((c::r).take k)[0]? =some c:=by rw[lW,if_pos (by omega)];rfl
 refine DV (by omega) (by omega) (fun j hj=>?_) ?_
 ·rw[h0,lW,if_pos (by omega)];exact hsame j (by omega)
 ·rw[h0]
  by_cases q:k<=n
  ·exact .inr (.inl (by omega))
  ·by_cases q2:n<255
   ·refine .inr (.inr ?_);have p2:=p2 q2;rw[List.head?_drop] at p2;rw[show min k n=n by omega,lW,if_pos (by omega)];exact p2
   ·exact .inl (by omega)
theorem aYp {s:List UInt8} (h:s≠[]) {k:Nat} (hk:k<=s.length):lnL (s.take k)=if k<=dX s then lnP k else lnP (dX s)+lnL ((s.drop (dX s)).take (k-dX s)):=by
 have hb:=pS s h
 by_cases h0:k=0
 ·subst h0;rw[if_pos (aU _)];rfl
 ·have hne:s.take k≠[]:=fun e=>by
   have:=congrArg tM e;have:=kV.2 h;rw[aX,List.length_nil] at*
   omega
  have hp:=bAz h (by omega) hk;rw[bAy hne,hp];split
  ·next q=>
   rw[show min k (dX s)=k by omega,aUd,Nat.sub_self,List.take_zero,bAx,Nat.add_zero]
  ·next q=>
   rw[show min k (dX s)=dX s by omega,aUd]
theorem aZ3:∀(n:Nat) (s:List UInt8),s.length<=n->∀k,k+1<=s.length->lnL (s.take k)<=lnL (s.take (k+1))
 |0,s,hn,k,hk=>by omega
 |n+1,s,hn,k,hk=>by
  have hne:s≠[]:=fun e=>by rw[e] at hk;simp at hk
  have hb:=pS s hne;rw[aYp hne (by omega),aYp hne hk]
  by_cases q1:k+1<=dX s
  ·rw[if_pos (by omega),if_pos q1];exact aZ2 (by omega)
  ·rw[if_neg q1]
   by_cases q2:k<=dX s
   ·rw[if_pos q2];have:=aZ2 (show k<=dX s by omega);omega
   ·rw[if_neg q2,show k+1-dX s=(k-dX s)+1 by omega];have:=aZ3 n (s.drop (dX s)) (by rw[cI];omega) (k-dX s) (by rw[cI];omega);omega
theorem aYv (s:List UInt8) (k:Nat):∀d,k+d<=s.length->lnL (s.take k)<=lnL (s.take (k+d))
 |0,_=>aA _
 |d+1,h=>Nat.le_trans (aYv s k d (by omega)) (aZ3 s.length s (aA _) (k+d) (by omega))
def aYw:Nat->List UInt8->Nat->Nat
 |0,_,_=>0
 |f+1,s,room=>
  if s=[] then 0
  else if lnP (dX s)<=room then dX s+aYw f (s.drop (dX s)) (room-lnP (dX s))
  else min (min room 3) (dX s)
def aYx (s:List UInt8) (room:Nat):Nat:=aYw s.length s room
def aYy (s:List UInt8) (room k:Nat):Prop:=k<=s.length/\lnL (s.take k)<=room/\(k<s.length->room<lnL (s.take (k+1)))
theorem aZ4:∀(f:Nat) (s:List UInt8) (room:Nat),s.length<=f->aYy s room (aYw f s room)
 |0,s,room,hf=>by
  have:s=[]:=mV.1 (by omega);subst this;exact⟨aA _,aU _,fun h=>absurd h (by simp)⟩
 |f+1,s,room,hf=>by
  unfold aYw
  by_cases h:s=[]
  ·subst h;exact⟨aA _,aU _,fun h=>absurd h (by simp)⟩
  rw[if_neg h];have hb:=pS s h
  by_cases q:lnP (dX s)<=room
  ·rw[if_pos q];obtain⟨i1,i2,i3⟩:=aZ4 f (s.drop (dX s)) (room-lnP (dX s)) (by rw[cI];omega);rw[cI] at i1 i3;generalize aYw f (s.drop (dX s)) (room-lnP (dX s))=k at*
   refine⟨by omega,?_,fun hk=>?_⟩
   ·rw[aYp h (by omega)]
    by_cases q2:dX s+k<=dX s
    ·rw[if_pos q2,show dX s+k=dX s by omega];exact q
    ·rw[if_neg q2,show dX s+k-dX s=k by omega];omega
   ·have i3:=i3 (by omega);rw[aYp h (by omega),if_neg (by omega),show dX s+k+1-dX s=k+1 by omega];omega
  ·rw[if_neg q];have hl:lnP (dX s)=if dX s<4 then dX s else 5:=rfl;have hlt:min (min room 3) (dX s)<dX s:=by split at hl<;>omega
   refine⟨by omega,?_,fun _=>?_⟩
   ·rw[aYp h (by omega),if_pos (by omega)];unfold lnP;rw[if_pos (by omega)];omega
   ·rw[aYp h (by omega),if_pos (by omega)];unfold lnP;split at hl
    ·rw[if_pos (by omega)];omega
    ·split<;>omega
theorem aY8 (s:List UInt8) (room:Nat):aYy s room (aYx s room):=aZ4 _ s room (aA _)
theorem aYy.uniq {s:List UInt8} {room j k:Nat} (h1:aYy s room j) (h2:aYy s room k):j=k:=by
 rcases Nat.lt_trichotomy j k with h|h|h
 ·exfalso;have a:=h1.2.2 (by have:=h2.1;omega);have b:=aYv s (j+1) (k-(j+1)) (by have:=h2.1;omega);rw[show j+1+(k-(j+1))=k by omega] at b;have:=h2.2.1;omega
 ·exact h
 ·exfalso;have a:=h2.2.2 (by have:=h1.1;omega);have b:=aYv s (k+1) (j-(k+1)) (by have:=h1.1;omega);rw[show k+1+(j-(k+1))=j by omega] at b;have:=h1.2.1;omega
theorem bA0 {s:List UInt8} {room:Nat} (h:s≠[]) (hr:1<=room):1<=aYx s room:=by
 have hi:=aY8 s room;have hl:=kV.2 h;refine Nat.pos_of_ne_zero fun e=>?_
 have:=hi.2.2 (by omega);rw[e,aYp h (by omega),if_pos (pS s h).1] at this;have h1:lnP (0+1)=1:=rfl;omega
end
end Go.Proofs.YtmcogmmncfihhaaGreatDoor
