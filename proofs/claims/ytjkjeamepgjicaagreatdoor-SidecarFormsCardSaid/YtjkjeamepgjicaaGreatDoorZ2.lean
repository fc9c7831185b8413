/-
  Texts put together (part 2): the walks and the plain laws on which the statement stands.
-/
import Derived.Laws.BitsAllLaws
import Derived.Laws.Bits64
import Derived.Deep.CutBlock
import Derived.Deep.RegionHeld3
import Derived.Defers
import Derived.Recover
import Derived.Shelf.Abstract
import Derived.Laws.ResultCell
import Derived.Maps.AppendAt
import Derived.Test.YtjkjeamepgjicaaGreatDoorZ1
set_option maxRecDepth 100000
set_option maxHeartbeats 12800000
set_option linter.unusedVariables false
set_option linter.unusedSimpArgs false
open Decidable renaming not_not->dK
open Go.IntKind renaming i64->aI,u64->fU,u8->pX,wrap_i64->aM,wrap_u64->gF
open Go.World.ownsRow renaming alloc->aBy
open Int renaming toNat_natCast->eG
open List renaming any_eq_true->AH,append_assoc->cF,cons_append->gE,drop_append_of_le_length->aTb,getD->fF,getD_eq_getElem?_getD->aV,getElem?_eq_getElem->aN,getElem?_eq_none->dL,getElem_mem->gT,length_append->aL,length_cons->cR,length_map->bJ,map_append->fI,mem_append->cU,mem_cons->kD,mem_cons_of_mem->jD,mem_cons_self->lY,mem_filter->xN,mem_map->dU,mem_range->jF,mem_singleton->dC,range->dG,replicate->bB,sum_cons->pV,take_append_drop->jE,take_append_of_le_length->GO
open List.Pairwise renaming imp_of_mem->aB5
open Nat renaming eq_zero_or_pos->fJ,le_refl->aA,mod_lt->jQ,mul_assoc->vH,mul_comm->oG,pow_le_pow_right->jC,pow_succ->nQ
open Option.some renaming inj->bW
open UInt8 renaming ofNat->eK,toNat_ofNat'->nP
namespace Go.Proofs.YtjkjeamepgjicaaGreatDoor
section
def fP (p:Int->Bool):List Int->Int
 |[]=> -1
 |x::l=>if p x then 0 else if fP p l<0 then-1 else fP p l+1
theorem BQ (p:Int->Bool):∀l,-1<=fP p l/\fP p l<(l.length:Int)/\(fP p l<0↔∀x∈l,p x=false):=by
 intro l
 induction l with
 |nil=>simp[fP]
 |cons x l ih=>
  unfold fP;obtain⟨h1,h2,h3⟩:=ih
  by_cases hx:p x=true
  ·rw[if_pos hx];refine⟨by omega,by rw[cR];omega,?_⟩;constructor
   ·intro h;omega
   ·intro h;have:=h x (by simp);rw[hx] at this;exact Bool.noConfusion this
  ·rw[if_neg hx];have hx':p x=false:=by simpa using hx
   by_cases h:fP p l<0
   ·rw[if_pos h,cR];refine⟨by omega,by omega,?_⟩;constructor
    ·intro _ y hy;rcases kD.1 hy with rfl|hy
     ·exact hx'
     ·exact h3.1 h y hy
    ·intro _;omega
   ·rw[if_neg h,cR];refine⟨by omega,by omega,?_⟩;constructor
    ·intro _;omega
    ·intro h';have:∀y∈l,p y=false:=fun y hy=>h' y (jD _ hy)
     have:=h3.2 this;omega
theorem BR {p:Int->Bool}:∀{l:List Int} {k:Nat},(∀x∈l.take k,p x=false)->(hk:k<l.length)->p l[k]=true->fP p l=(k:Int):=by
 intro l
 induction l with
 |nil=>intro k _ hk;simp at hk
 |cons x l ih=>
  intro k h hk hp;unfold fP
  cases k with
  |zero=>rw[if_pos (by simpa using hp)];rfl
  |succ k=>
   have hx:=h x (by simp);rw[if_neg (by rw[hx];exact Bool.false_ne_true)];have e:=ih (k:=k) (fun y hy=>h y (by simp[hy])) (by simpa using hk) (by simpa using hp);rw[e,if_neg (by omega)];omega
theorem oN {p:Int->Bool} {l:List Int} (h:∀x∈l,p x=false):fP p l= -1:=by
 obtain⟨h1,_,h3⟩:=BQ p l;have:=h3.2 h;omega
def dB (s:List UInt8) (c:Nat):Bool:=s.any (fun b=>b.toNat==c)
theorem IJ (s:List UInt8) (b:UInt8):dB s b.toNat=true↔b∈s:=by
 unfold dB;rw[AH];constructor
 ·rintro⟨x,hx,h⟩;rw[beq_iff_eq,UInt8.toNat_inj] at h;rw[<-h];exact hx
 ·intro h;exact⟨b,h,by simp⟩
def jH (s:List UInt8) (m:Nat):List UInt8:=((dG m).filter (dB s)).map eK
def bK (s:List UInt8):List UInt8:=jH s 256
theorem IK (s:List UInt8) (m:Nat):jH s (m+1)=jH s m++if dB s m then[eK m] else[]:=by
 unfold jH;rw[List.range_succ,List.filter_append,fI]
 congr 1
 by_cases h:dB s m=true
 ·simp[h]
 ·simp[h]
theorem PI (s:List UInt8) (m:Nat):(jH s m).length<=m:=by
 unfold jH;rw[bJ];have:=List.length_filter_le (dB s) (dG m)
 simpa using this
theorem yC (s:List UInt8) (b:UInt8):b∈bK s↔b∈s:=by
 unfold bK jH;rw[dU];constructor
 ·rintro⟨c,hc,rfl⟩;rw[xN,jF] at hc;have e:(eK c).toNat=c:=by rw[nP];omega
  rw[<-IJ,e];exact hc.2
 ·intro h;refine⟨b.toNat,?_,by simp⟩;rw[xN,jF];exact⟨b.toNat_lt,(IJ s b).2 h⟩
theorem BS (s:List UInt8):(bK s).Nodup:=by
 unfold bK jH List.Nodup;rw[List.pairwise_map];refine aB5 ?_ (List.pairwise_lt_range.sublist List.filter_sublist);intro a b ha hb hab e;have ha':=jF.1 (xN.1 ha).1;have hb':=jF.1 (xN.1 hb).1;have:=congrArg UInt8.toNat e;rw[nP,nP] at this;omega
theorem PJ {s t:List UInt8} (h:∀b,b∈s↔b∈t):bK s=bK t:=by
 have e:dB s=dB t:=by
  funext c
  unfold dB;rw[Bool.eq_iff_iff,AH,AH];exact⟨fun⟨x,h1,h2⟩=>⟨x,(h x).1 h1,h2⟩,fun⟨x,h1,h2⟩=>⟨x,(h x).2 h1,h2⟩⟩
 unfold bK jH;rw[e]
theorem PK (s:List UInt8):bK (bK s)=bK s:=PJ (fun b=>yC s b)
theorem BT {s:List UInt8} (h:s≠[]):bK s≠[]:=by
 cases s with
 |nil=>exact absurd rfl h
 |cons b s=>
  intro e;have:=(yC (b::s) b).2 (by simp);rw[e] at this;simp at this
def eF (a:List UInt8) (i:Nat):List UInt8:=(a.drop i).take 1++a.take i++a.drop (i+1)
theorem uE (a:List UInt8) (i:Nat):(eF a i).Perm a:=by
 unfold eF;have e:a=a.take i++((a.drop i).take 1++a.drop (i+1)):=by
  have h1:(a.drop i).drop 1=a.drop (i+1):=by rw[List.drop_drop]
  rw[<-h1,jE,jE]
 have h2:((a.drop i).take 1++a.take i++a.drop (i+1)).Perm (a.take i++((a.drop i).take 1++a.drop (i+1))):=by
  rw[<-cF];exact List.Perm.append_right _ List.perm_append_comm
 rw[<-e] at h2;exact h2
theorem vS (a:List UInt8) (i:Nat):(eF a i).length=a.length:=(uE a i).length_eq
def plc (a:List UInt8) (c:UInt8):Nat:=a.findIdx (fun b=>b==c)
theorem rG {a:List UInt8} {c:UInt8} (h:c∈a):plc a c<a.length:=List.findIdx_lt_length_of_exists ⟨c,h,by simp⟩
theorem BU {a:List UInt8} {c:UInt8} (h:c∈a):a[plc a c]? =some c:=by
 have hl:=rG h;have h2:=List.findIdx_getElem (p:=fun b=>b==c) (w:=hl);rw[aN hl];have h3:(a[plc a c]==c)=true:=h2;rw[beq_iff_eq] at h3;rw[h3]
theorem PL {a:List UInt8} {c:UInt8} {i:Nat} (h:i<plc a c) (hl:i<a.length):a[i]≠c:=by
 have:=List.not_of_lt_findIdx h;intro e;rw[e] at this;simp at this
theorem aDu {a:List UInt8} {c:UInt8} {i:Nat} (hi:i<a.length) (h:a[i]=c) (hm:∀j,(hj:j<i)->a[j]'(by omega)≠c):plc a c=i:=by
 have hmem:c∈a:=by rw[<-h];exact gT hi
 rcases Nat.lt_trichotomy (plc a c) i with p|p|p
 ·have:=BU hmem;have hl:=rG hmem;rw[aN hl] at this;exact absurd (bW this) (hm _ p)
 ·exact p
 ·exact absurd h (PL p hi)
theorem IL {a:List UInt8} (hn:a.Nodup) {i:Nat} (hi:i<a.length):plc a a[i]=i:=by
 refine aDu hi rfl (fun j hj e=>?_);exact List.pairwise_iff_getElem.1 hn j i (by omega) hi hj e
def cM:List UInt8->List UInt8->List Int
 |_,[]=>[]
 |a,c::s=>((plc a c:Nat):Int)::cM (eF a (plc a c)) s
theorem rH:∀(s a:List UInt8),(cM a s).length=s.length:=by
 intro s
 induction s with
 |nil=>intro a;rfl
 |cons c s ih=>intro a;simp[cM,ih]
theorem vT:∀(s a:List UInt8),(∀b∈s,b∈a)->∀x∈cM a s,0<=x/\x<(a.length:Int):=by
 intro s
 induction s with
 |nil=>intro a _ x hx;simp[cM] at hx
 |cons c s ih=>
  intro a h x hx;rw[cM,kD] at hx;rcases hx with rfl|hx
  ·have:=rG (h c (by simp));omega
  ·have:=ih (eF a (plc a c)) (fun b hb=>(uE a _).mem_iff.2 (h b (by simp[hb]))) x hx;rwa[vS] at this
def unL:List UInt8->List Int->List UInt8
 |_,[]=>[]
 |a,i::l=>a.getD i.toNat 0::unL (eF a i.toNat) l
def unA:List UInt8->List Int->List UInt8
 |a,[]=>a
 |a,i::l=>unA (eF a i.toNat) l
theorem oO:∀(l:List Int) (a:List UInt8),(unL a l).length=l.length:=by
 intro l
 induction l with
 |nil=>intro a;rfl
 |cons c l ih=>intro a;simp[unL,ih]
theorem PM:∀(l:List Int) (a:List UInt8),(unA a l).Perm a:=by
 intro l
 induction l with
 |nil=>intro a;exact List.Perm.refl _
 |cons c l ih=>intro a;exact(ih _).trans (uE a _)
theorem IN (i:Int):∀(l:List Int) (a:List UInt8),unL a (l++[i])=unL a l++[(unA a l).getD i.toNat 0]:=by
 intro l
 induction l with
 |nil=>intro a;rfl
 |cons d l ih=>intro a;simp only[gE,unL,unA,ih]
theorem IP (i:Int):∀(l:List Int) (a:List UInt8),unA a (l++[i])=eF (unA a l) i.toNat:=by
 intro l
 induction l with
 |nil=>intro a;rfl
 |cons d l ih=>intro a;simp only[gE,unA,ih]
theorem PN:∀(s a:List UInt8),(∀b∈s,b∈a)->unL a (cM a s)=s:=by
 intro s
 induction s with
 |nil=>intro a _;rfl
 |cons c s ih=>
  intro a h;have hc:=BU (h c (by simp));simp only[cM,unL,eG];rw[fF,hc,ih _ (fun b hb=>(uE a _).mem_iff.2 (h b (by simp[hb])))];rfl
theorem IQ:∀(l:List Int) (a:List UInt8),(∀x∈l,0<=x/\x<(a.length:Int))->∀b∈unL a l,b∈a:=by
 intro l
 induction l with
 |nil=>intro a _ b hb;simp[unL] at hb
 |cons i l ih=>
  intro a h b hb;rw[unL,kD] at hb;rcases hb with rfl|hb
  ·have:=h i (by simp);rw[fF,aN (by omega)];exact gT _
  ·exact(uE a _).mem_iff.1 (ih _ (fun x hx=>by rw[vS];exact h x (by simp[hx])) b hb)
def sQ:Nat->Nat->List Int
 |0,_=>[]
 |f+1,n=>if n=0 then[] else(if n%2=1 then 0 else 1)::sQ f ((n-1)/2)
def dig (n:Nat):List Int:=sQ n n
theorem aDv:∀(f n g:Nat),n<=f->n<=g->sQ f n=sQ g n:=by
 intro f
 induction f with
 |zero=>
  intro n g h1 h2;have:n=0:=by omega
  subst this
  cases g with
  |zero=>rfl
  |succ g=>simp[sQ]
 |succ f ih=>
  intro n g h1 h2
  cases g with
  |zero=>
   have:n=0:=by omega
   subst this;simp[sQ]
  |succ g=>
   unfold sQ
   by_cases h0:n=0
   ·rw[if_pos h0,if_pos h0]
   ·rw[if_neg h0,if_neg h0,ih ((n-1)/2) g (by omega) (by omega)]
theorem qF:dig 0=[]:=rfl
theorem BY {n:Nat} (h:0<n):dig n=(if n%2=1 then 0 else 1)::dig ((n-1)/2):=by
 unfold dig;obtain⟨m,rfl⟩:∃m,n=m+1:=⟨n-1,by omega⟩;rw[sQ,if_neg (by omega),aDv m ((m+1-1)/2) ((m+1-1)/2) (by omega) (aA _)]
theorem BZ:∀(n:Nat),∀x∈dig n,x=0\/x=1:=by
 intro n
 induction n using Nat.strongRecOn with
 |ind n ih=>
  intro x hx;rcases fJ n with h|h
  ·subst h;simp[qF] at hx
  ·rw[BY h,kD] at hx;rcases hx with rfl|hx
   ·split
    ·exact .inl rfl
    ·exact .inr rfl
   ·exact ih _ (by omega) x hx
theorem CA:∀(n:Nat),(dig n).length<=n/\(0<n->0<(dig n).length):=by
 intro n
 induction n using Nat.strongRecOn with
 |ind n ih=>
  rcases fJ n with h|h
  ·subst h;simp[qF]
  ·rw[BY h,cR];have:=(ih ((n-1)/2) (by omega)).1;omega
def num:List Int->Nat
 |[]=>0
 |d::l=>(d.toNat+1)+2*num l
theorem PO:∀n,num (dig n)=n:=by
 intro n
 induction n using Nat.strongRecOn with
 |ind n ih=>
  rcases fJ n with h|h
  ·subst h;rfl
  ·rw[BY h,num,ih _ (by omega)];split
   ·simp;omega
   ·simp;omega
def cZ:Nat->List Int->List Int
 |k,[]=>dig k
 |k,x::l=>if x=0 then cZ (k+1) l else dig k++(x+1)::cZ 0 l
def zx:Nat->Nat->List Int->List Int
 |n,_,[]=>bB n 0
 |n,p,x::l=>if x<2 then zx (n+p*(x.toNat+1)) (2*p) l else bB n 0++(x-1)::zx 0 1 l
def dA (m:List Int):List Int:=zx 0 1 m
theorem IR:∀(r:List Int) (n p:Nat) (l:List Int),(∀x∈r,x<2)->zx n p (r++l)=zx (n+p*num r) (p*2^r.length) l:=by
 intro r
 induction r with
 |nil=>intro n p l _;simp[num]
 |cons d r ih=>
  intro n p l h;rw[gE,zx,if_pos (h d (by simp)),ih _ _ _ (fun x hx=>h x (by simp[hx])),num,cR,nQ];have e1:n+p*(d.toNat+1)+2*p*num r=n+p*(d.toNat+1+2*num r):=by
   rw[Nat.mul_add p (d.toNat+1),Nat.mul_left_comm p 2,vH 2 p];omega
  have e2:2*p*2^r.length=p*(2^r.length*2):=by
   rw[oG 2 p,vH,oG 2]
  rw[e1,e2]
theorem IS (n p:Nat):zx n p []=bB n 0:=rfl
theorem CB {n p:Nat} {x:Int} {l:List Int} (h:¬x<2):zx n p (x::l)=bB n 0++(x-1)::dA l:=by
 rw[zx,if_neg h];rfl
theorem aDw:∀(l:List Int) (k:Nat),(∀x∈l,0<=x)->dA (cZ k l)=bB k 0++l:=by
 intro l
 induction l with
 |nil=>
  intro k _;have:=IR (dig k) 0 1 [] (fun x hx=>by rcases BZ k x hx with h|h<;>omega);rw[List.append_nil] at this;rw[cZ,dA,this,IS,PO];simp
 |cons x l ih=>
  intro k h;rw[cZ]
  by_cases hx:x=0
  ·rw[if_pos hx,ih (k+1) (fun y hy=>h y (by simp[hy])),hx];rw[List.replicate_succ',cF];rfl
  ·have hx0:=h x (by simp);rw[if_neg hx,dA,IR _ _ _ _ (fun y hy=>by rcases BZ k y hy with h|h<;>omega),CB (by omega),ih 0 (fun y hy=>h y (by simp[hy])),PO];simp
theorem IT:∀(l:List Int) (k:Nat),(cZ k l).length<=k+l.length/\(0<k+l.length->0<(cZ k l).length):=by
 intro l
 induction l with
 |nil=>intro k;simpa [cZ] using CA k
 |cons x l ih=>
  intro k;rw[cZ]
  by_cases hx:x=0
  ·rw[if_pos hx];have:=ih (k+1);rw[cR];omega
  ·rw[if_neg hx,aL,cR,cR];have h1:=(CA k).1;have h2:=(ih 0).1;omega
theorem aDx:∀(l:List Int) (k:Nat),(∀x∈l,0<=x)->∀y∈cZ k l,y=0\/y=1\/∃x∈l,y=x+1/\x≠0:=by
 intro l
 induction l with
 |nil=>intro k _ y hy;rcases BZ k y hy with h|h;exact .inl h;exact .inr (.inl h)
 |cons x l ih=>
  intro k h y hy;rw[cZ] at hy;have lift:∀k,y∈cZ k l->y=0\/y=1\/∃z∈x::l,y=z+1/\z≠0:=by
   intro k hy;rcases ih k (fun z hz=>h z (by simp[hz])) y hy with q|q|⟨z,hz,q⟩
   ·exact .inl q
   ·exact .inr (.inl q)
   ·exact .inr (.inr ⟨z,by simp[hz],q⟩)
  by_cases hx:x=0
  ·rw[if_pos hx] at hy;exact lift _ hy
  ·rw[if_neg hx,cU,kD] at hy;rcases hy with hy|rfl|hy
   ·rcases BZ k y hy with h|h
    ·exact .inl h
    ·exact .inr (.inl h)
   ·exact .inr (.inr ⟨x,by simp,rfl,hx⟩)
   ·exact lift _ hy
def aO (n:Nat) (at':Int) (k:Nat):Int:=if at'<0 then 1 else if 8*(n:Int)-(k:Int)<at' then 2 else 0
def aE (s:List UInt8) (at':Int) (k:Nat):Nat:=if aO s.length at' k=0 then bY (seg s at'.toNat k) else 0
theorem fQ {n:Nat} {at':Int} {k:Nat} (h:aO n at' k=0):0<=at'/\at'.toNat+k<=8*n/\at'+(k:Int)<=8*(n:Int):=by
 unfold aO at h;split at h
 ·omega
 ·split at h
  ·omega
  ·omega
theorem iA (s:List UInt8) (at':Int) (k:Nat):aE s at' k<2^k:=by
 unfold aE;split
 ·next h=>
  have:=fQ h;have h2:=qE (seg s at'.toNat k);rwa[vR this.2.1] at h2
 ·exact Nat.pow_pos (by decide)
def jS (v k:Nat):Nat->List UInt8
 |0=>[]
 |i+1=>jS v k i++if v.testBit (15-i) then[eK (16*k+i)] else[]
def cJ (s:List UInt8) (at':Int):Nat->List UInt8×Int×Bool×Int
 |0=>([],at'+16,aE s at' 16==0,aO s.length at' 16)
 |k+1=>
  let p:=cJ s at' k
  if p.2.2.2≠0 then p
  else if(aE s at' 16).testBit (15-k) then
   if aO s.length p.2.1 16≠0 then(p.1,p.2.1,p.2.2.1,aO s.length p.2.1 16)
   else(p.1++jS (aE s p.2.1 16) k 16,p.2.1+16,p.2.2.1||aE s p.2.1 16==0,0)
  else p
def cG (s:List UInt8) (at':Int):List UInt8×Int×Int:=
 let p:=cJ s at' 16
 if p.2.2.2≠0 then([],0,p.2.2.2) else if p.2.2.1 then([],0,3) else(p.1,p.2.1,0)
theorem CE (v k:Nat):∀i,(jS v k i).length<=i
 |0=>by simp[jS]
 |i+1=>by
  have:=CE v k i;unfold jS;rw[aL];split<;>simp<;>omega
theorem yE (s:List UInt8) (at':Int):∀k,(cJ s at' k).1.length<=16*k/\((cJ s at' k).2.2.2=0->at'+16<=(cJ s at' k).2.1/\(cJ s at' k).2.1<=at'+16+16*k)
 |0=>⟨by simp[cJ],fun _=>by simp[cJ]⟩
 |k+1=>by
  obtain⟨h1,h2⟩:=yE s at' k;unfold cJ;simp only
  split
  ·next h=>exact⟨by omega,fun q=>absurd q h⟩
  ·next h=>
   have h:=h2 (dK.1 h);split
   ·split
    ·next h3=>exact⟨by show(cJ s at' k).1.length<=_;omega,fun q=>absurd q h3⟩
    ·have:=CE (aE s (cJ s at' k).2.1 16) k 16;refine⟨by rw[aL];omega,fun _=>?_⟩;show at'+16<=(cJ s at' k).2.1+16/\(cJ s at' k).2.1+16<=_;omega
   ·exact⟨by omega,fun _=>by omega⟩
end
section
open Go.RowKit Go
theorem IU (x j:Nat):x/2^j%2=(x.testBit j).toNat:=by
 rw[Nat.testBit_eq_decide_div_mod_eq];rcases Nat.mod_two_eq_zero_or_one (x/2^j) with h|h<;>rw[h]<;>rfl
theorem yG (x j:Nat):(x:Int)/2^j=((x/2^j:Nat):Int):=by
 have e:((2:Int)^j)=((2^j:Nat):Int):=by push_cast;rfl
 rw[e,<-Int.natCast_ediv]
theorem aD0:∀x:Fin 256,∀k:Fin 8,((x.val*2^k.val%256)&&&128)=if x.val.testBit (7-k.val) then 128 else 0:=by decide+kernel
theorem aD1 (x k:Nat) (hx:x<256) (hk:k<8):bits .and .u8 (pX.wrap ((x:Int)*2^k)) 128=if x.testBit (7-k) then 128 else 0:=by
 have e:((2:Int)^k)=((2^k:Nat):Int):=by push_cast;rfl
 have h:pX.wrap ((x:Int)*2^k)=((x*2^k%256:Nat):Int):=by
  rw[IntKind.wrap_u8',e,<-Int.natCast_mul];omega
 rw[h,show(128:Int)=((128:Nat):Int) from rfl,u8_and_nat _ _ (jQ _ (by decide)) (by decide),aD0 ⟨x,hx⟩ ⟨k,hk⟩];split<;>rfl
theorem IV (v:Nat) (b:Bool) (h:2*v<18446744073709551616):bits .or .u64 (fU.wrap ((v:Int)*2)) (b.toNat:Int)=((2*v+b.toNat:Nat):Int):=by
 have h1:fU.wrap ((v:Int)*2)=((2*v:Nat):Int):=by rw[gF];omega
 have hb:b.toNat<2:=by cases b<;>decide
 rw[h1,u64_or_nat _ _ h (by omega),nat_join 1 (2*v) b.toNat (by omega) (by simpa using hb)]
end
section
open Go.RowKit
theorem PR {s:List UInt8} {a k:Nat} (h:a+k<8*s.length):seg s a (k+1)=seg s a k++[dI s (a+k)]:=by
 unfold seg;rw[List.take_add_one]
 congr 1
 rw[List.getElem?_drop,sP,if_pos h];rfl
theorem PS (s:List UInt8) (a:Nat):seg s a 0=[]:=by simp[seg]
def sS (b:Bool):Nat:=if b then 128 else 0
theorem IW (s:ByteArray) (i:Nat) (w:World) (hi:i<8*s.size) (hs:s.size<=140737488355328):
  Calls Tryz.prog 37 #[.string s,.int .i64 (i:Int)] w fun e w'=>e=.returned (.int .u8 (sS (dI s.data.toList i):Nat))/\w'=w:=by
 have hk:i/8<s.size:=by omega
 have e1:(i:Int).tdiv 8=((i/8:Nat):Int):=by rw[Int.tdiv_eq_ediv_of_nonneg (by omega)];omega
 have e2:(i:Int).tmod 8=((i%8:Nat):Int):=by rw[Int.tmod_eq_emod_of_nonneg (by omega)];omega
 have eb:=eW s (i/8) hk;have hb:=s[i/8].toNat_lt;have hk8:i%8<8:=jQ _ (by decide);have e4:=aD1 s[i/8].toNat (i%8) hb hk8;have e5:dI s.data.toList i=s[i/8].toNat.testBit (7-i%8):=by unfold dI;rw[aV,eb];rfl
 have e6:((sS (dI s.data.toList i):Nat):Int)=if s[i/8].toNat.testBit (7-i%8)=true then 128 else 0:=by rw[e5];unfold sS;split<;>rfl
 rw[IntKind.wrap_u8,<-e6] at e4;clear e5 e6 eb;generalize sS (dI s.data.toList i)=t at*
 obtain⟨k,hkk⟩:∃k,k=i%8:=⟨_,rfl⟩;rw[<-hkk] at e2 e4 hk8;clear hkk;have e7:min k 8=k:=by omega
 go_enter Tryz.func37,Tryz.ntmps37;go_wp2_with fail;go_ret;exact⟨rfl,rfl⟩
theorem sT (s:ByteArray) (p:Int) (n:Nat) (w:World) (hs:s.size<=1000000) (hn:n<=64) (hp1: -9223372036854775808<=p) (hp2:p<=9223372036854775807):
  Calls Tryz.prog 33 #[.string s,.int .i64 p,.int .i64 (n:Int)] w fun e w'=>e=.returned (.tuple #[.int .u64 (aE s.data.toList p n:Nat),.int .i64 (aO s.size p n)])/\w'=w:=by
 have hL:s.data.toList.length=s.size:=by simp
 have n1:decide ((n:Int)<0)=false:=decide_eq_false (by omega);have n2:decide ((n:Int)>64)=false:=decide_eq_false (by omega);have n3:decide (64<(n:Int))=false:=decide_eq_false (by omega);have m1:aI.wrap (8*(s.size:Int))=8*(s.size:Int):=by rw[aM];omega
 have m2:aI.wrap (8*(s.size:Int)-(n:Int))=8*(s.size:Int)-(n:Int):=by rw[aM];omega
 by_cases h0:p<0
 ·have e1:aO s.size p n=1:=by unfold aO;rw[if_pos h0]
  have e2:aE s.data.toList p n=0:=by unfold aE;rw[hL,e1,if_neg (by decide)]
  rw[e1,e2];have t1:decide (p<0)=true:=decide_eq_true h0;clear hL e1 e2;go_enter Tryz.func33,Tryz.ntmps33;go_wp2_with fail
  go_ret2
  exact⟨rfl,rfl⟩
 ·have t1:decide (p<0)=false:=decide_eq_false h0
  by_cases h1:8*(s.size:Int)-(n:Int)<p
  ·have e1:aO s.size p n=2:=by unfold aO;rw[if_neg h0,if_pos h1]
   have e2:aE s.data.toList p n=0:=by unfold aE;rw[hL,e1,if_neg (by decide)]
   rw[e1,e2];have t2:decide (8*(s.size:Int)-(n:Int)<p)=true:=decide_eq_true h1;have t3:decide (p>8*(s.size:Int)-(n:Int))=true:=decide_eq_true h1;clear hL e1 e2;go_enter Tryz.func33,Tryz.ntmps33;go_wp2_with fail
   go_ret2
   exact⟨rfl,rfl⟩
  ·have e1:aO s.size p n=0:=by unfold aO;rw[if_neg h0,if_neg h1]
   obtain⟨a,rfl⟩:∃a:Nat,p=(a:Int):=⟨p.toNat,by omega⟩;have hin:a+n<=8*s.size:=by omega
   have e2:aE s.data.toList (a:Int) n=bY (seg s.data.toList a n):=by unfold aE;rw[hL,e1,if_pos rfl,eG]
   rw[e1,e2];have t2:decide (8*(s.size:Int)-(n:Int)<(a:Int))=false:=decide_eq_false h1;have t3:decide ((a:Int)>8*(s.size:Int)-(n:Int))=false:=decide_eq_false h1;have HL:=hid hL;clear hL e1 e2 h1;go_enter Tryz.func33,Tryz.ntmps33;go_wp2_with fail
   go_loopg [6,8,29] n (fun g s8 _s x9 wr=>∃k v:Nat,k<=n/\g=n-k/\x9=.int .i64 (k:Int)/\s8=.int .u64 (v:Int)/\v=bY (seg s.data.toList a k)/\wr=w)
   case atStart=>exact⟨0,0,by omega,rfl,rfl,rfl,by rw[PS];rfl,rfl⟩
   case round=>
    obtain⟨k,v,hk,hg,rfl,rfl,hv,rfl⟩:=hrel;have HG:=hid hg;clear hg
    by_cases hlt:k<n
    ·have t4:decide ((k:Int)<(n:Int))=true:=decide_eq_true (by omega);have hvl:=qE (seg s.data.toList a k);rw[vR (by rw[HL.out];omega),<-hv] at hvl;have h2:2^k<=2^63:=jC (by decide) (by omega);have h63:(2:Nat)^63=9223372036854775808:=by decide
     rw[h63] at h2;have hv63:v<9223372036854775808:=by omega
     clear h63 h2 hvl;have hsg:=PR (s:=s.data.toList) (a:=a) (k:=k) (by rw[HL.out];omega);obtain⟨q,hq⟩:∃q:Nat,q=a+k:=⟨_,rfl⟩;obtain⟨b,hb⟩:∃b:Nat,b=(dI s.data.toList q).toNat:=⟨_,rfl⟩;have hb2:b<2:=by rw[hb];cases dI s.data.toList q<;>decide
     have HV:=hid (show 2*v+b=bY (seg s.data.toList a (k+1)) by rw[hsg,rF,<-hv,<-hq,<-hb]);have hq8:q<8*s.size:=by omega
     have m3:aI.wrap ((a:Int)+(k:Int))=(q:Int):=by rw[aM];omega
     obtain⟨d,hd⟩:∃d:Nat,d=2*v:=⟨_,rfl⟩;have m4:fU.wrap ((v:Int)*2)=(d:Int):=by rw[gF];omega
     have m5:fU.wrap (b:Int)=(b:Int):=by rw[gF];omega
     obtain⟨t,ht⟩:∃t:Nat,t=sS (dI s.data.toList q):=⟨_,rfl⟩;have m7:(t:Int)/128=(b:Int):=by rw[ht,hb];cases dI s.data.toList q<;>rfl
     have HT:=hid ht;obtain⟨v2,hv2⟩:∃v2:Nat,v2=d+b:=⟨_,rfl⟩;have m6:bits .or .u64 (d:Int) (b:Int)=(v2:Int):=by
      have:=IV v (dI s.data.toList q) (by omega);rw[m4,<-hb] at this;rw[this,hv2,hd]
     have HV2:=hid (show v2=bY (seg s.data.toList a (k+1)) by rw[<-HV.out,hv2,hd]);clear hsg hv hq hb hd hv2 hv63 ht;go_wp2_with fail;refine(IW s q _ hq8 (by omega)).mono ?_;rintro e w1 ⟨rfl,rfl⟩;rw[<-HT.out];go_wp2_with fail;have hg:=HG.out
     go_roundg (n-(k+1))
     case measure=>omega
     case rel=>exact⟨k+1,v2,by omega,rfl,by go_num,rfl,HV2.out,rfl⟩
    ·have t4:decide ((k:Int)<(n:Int))=false:=decide_eq_false (by omega);have hkn:k=n:=by omega
     have HV:=hid (show(v:Int)=((bY (seg s.data.toList a n):Nat):Int) by rw[hv,hkn]);clear hv hkn;go_wp2_with fail
     go_ret2
     exact⟨by rw[HV.out];rfl,rfl⟩
theorem IX {ops:Array Oper} {rest:List Oper} {o:Oper} {a:Act} {Q:Exit->Act->World->Prop} {w:World} (hgd:o.guard=none) (s x:Operand)
  (ho:o.op=.call {callee:=.builtin .append,args:=#[s,x],argTypes:=#[40,40]}) (base:Nat) (v:Value) (l:List UInt8) (hs:a.eval s=v) (hown:OwB w base v l)
  (g:Nat) (b:UInt8) (hx:a.eval x=.slice (some ⟨g,0,none⟩) 1 1) (hc:w.cell? ⟨g,0,none⟩=some (.int .u8 (b.toNat:Int))) (hroom:(l.length+1)*1<=140737488355328) (hbase:base<=w.heap.size)
  (h:∀v' w',OwB w' base v' (l++[b])->Below base w w'->w.grownBy w' v.ownBlock->wpList Tryz.prog ops Q rest (a.put o.dst v') w'):wpList Tryz.prog ops Q (o::rest) a w:=
 rD vQ hgd s x ho base v _ hs hown g _ hx hc rfl (by simpa using hroom) hbase (fun v' w' q1 q2 q3=>h v' w' (by unfold OwB;rw[IC];exact q1) q2 q3)
def WrS (w:World) (p B:Nat) (l:List Bool):Prop:=∃v,Arr w p 999983 [v,.int .i64 (l.length:Int)]/\OwB w B v (aD l)
theorem OwB.open {w:World} {B:Nat} {v:Value} {l:List UInt8} (h:OwB w B v l):∃a c,v=.slice a l.length c/\l.length<=c/\c<=maxLen:=by
 have h2:=h.rd;obtain⟨a,c,e,h1,h3,_⟩:=h2;exact⟨a,c,e,h1,h3⟩
theorem OwB.setLow {w:World} {B:Nat} {v:Value} {l:List UInt8} (h:OwB w B v l) {p:Addr} (hp:p.block<B) (x:Value):OwB (w.setCell p x) B v l:=by
 refine⟨h.1,?_⟩;rcases h.2 with hn|⟨g,cap,cur,rfl,h1,hg,rest⟩
 ·exact .inl hn
 ·refine .inr ⟨g,cap,cur,rfl,h1,?_,rest⟩;rw[heap_setCell_other w p g x (fun e=>by omega)];exact hg
theorem OwB.openN {w:World} {B:Nat} {v:Value} {l:List UInt8} (h:OwB w B v l):∃a n c,v=.slice a n c/\Hid (n=l.length)/\n<=c/\c<=maxLen:=by
 obtain⟨a,c,e,h1,h2⟩:=h.open;exact⟨a,l.length,c,e,hid rfl,h1,h2⟩
end
section
open Go.RowKit Go
theorem IY (v j:Nat) (hv:v<18446744073709551616):bits .and .u64 ((v:Int)/2^j) 1=((v.testBit j).toNat:Int):=by
 rw[yG,show(1:Int)=((1:Nat):Int) from rfl,u64_and_nat _ _ (Nat.lt_of_le_of_lt (Nat.div_le_self _ _) hv) (by decide),nat_mask1,IU]
theorem IZ {x:Int} (h1: -9223372036854775808<=x) (h2:x<=9223372036854775807):wrap64 x=x:=by unfold wrap64;omega
theorem WrS.below {w w':World} {p B:Nat} {l:List Bool} (h:WrS w p B l) (hb:Below w.heap.size w w'):WrS w' p B l:=by
 obtain⟨v,hA,ho⟩:=h;exact⟨v,hA.below hb hA.lt,Ow.below ho hb (aA _)⟩
theorem WrS.alloc {w:World} {p B:Nat} {l:List Bool} (h:WrS w p B l) (o:Obj):WrS (w.alloc o) p B l:=by
 obtain⟨v,hA,ho⟩:=h;exact⟨v,hA.alloc o,Ow.alloc ho o⟩
theorem WrS.lt {w:World} {p B:Nat} {l:List Bool} (h:WrS w p B l):p<w.heap.size:=by
 obtain⟨v,hA,_⟩:=h;exact hA.lt
end
section
open Go.RowKit Go Go.Shelf
def qI (w:World) (v:Value) (ls:List (List Bool)):Prop:=
 ∃a cap,v=.slice a ls.length cap/\ls.length<=cap/\cap<=maxLen/\
  (0<ls.length->∃b off,a=some ⟨b,off,none⟩/\b<w.heap.size/\∀j l,ls[j]? =some l->w.cell? ⟨b,off+j*2,none⟩=some (.string (mkS (aD l)))/\w.cell? ⟨b,off+j*2+1,none⟩=some (.int .i64 (l.length:Int)))
theorem qI.below {w w':World} {v:Value} {l:List (List Bool)} (h:qI w v l) (hb:Below w.heap.size w w'):qI w' v l:=by
 obtain⟨a,cap,rfl,h1,h2,h3⟩:=h;refine⟨a,cap,rfl,h1,h2,fun h=>?_⟩;obtain⟨b,off,rfl,hlt,hc⟩:=h3 h;exact⟨b,off,rfl,Nat.lt_of_lt_of_le hlt hb.size,fun j p hp=>by rw[(lP hb).1 _ _ hlt,(lP hb).1 _ _ hlt];exact hc j p hp⟩
def kH (l:List Bool):List Value:=[.string (mkS (aD l)),.int .i64 (l.length:Int)]
def gG (w:World) (B:Nat) (v:Value) (ls:List (List Bool)):Prop:=w.ownsRow B 999983 2 v ls.length (ls.flatMap kH)
theorem gG.nil (w:World) (B:Nat):gG w B (.slice none 0 0) []:=World.ownsRow_nil _ _ _ _
theorem gG.alloc {w:World} {B:Nat} {v:Value} {l:List (List Bool)} (h:gG w B v l) (o:Obj):gG (w.alloc o) B v l:=aBy h o
theorem gG.below {w w':World} {B C:Nat} {v:Value} {l:List (List Bool)} (h:gG w B v l) (hb:Below C w w') (hC:w.heap.size<=C):gG w' B v l:=GZ h hb hC
theorem gG.base {w:World} {B B':Nat} {v:Value} {l:List (List Bool)} (h:gG w B v l) (hb:B'<=B):gG w B' v l:=IA h hb
theorem PX:∀(ls:List (List Bool)) (j:Nat) (l:List Bool),ls[j]? =some l->(ls.flatMap kH)[j*2]? =some (.string (mkS (aD l)))/\(ls.flatMap kH)[j*2+1]? =some (.int .i64 (l.length:Int))
 |[],j,l,h=>by simp at h
 |x::ls,0,l,h=>by
  simp at h;subst h;exact⟨rfl,rfl⟩
 |x::ls,j+1,l,h=>by
  have ih:=PX ls j l (by simpa using h);rw[List.flatMap_cons,show(j+1)*2=j*2+2 by omega];exact⟨by rw[<-ih.1];rfl,by rw[<-ih.2];rfl⟩
theorem gG.rd {w:World} {B:Nat} {v:Value} {ls:List (List Bool)} (h:gG w B v ls):qI w v ls:=by
 obtain⟨hl,h⟩:=h;rcases h with⟨rfl,h0⟩|⟨g,cap,cur,rfl,hb,hg,hnc,hcm,hcs,ht⟩
 ·have:ls=[]:=List.length_eq_zero_iff.1 h0;subst this;exact⟨none,0,rfl,aA _,by simp[maxLen],fun h=>absurd h (by simp)⟩
 ·refine⟨_,cap,rfl,hnc,hcm,fun _=>⟨g,0,rfl,(Array.getElem?_eq_some_iff.1 hg).1,fun j l hj=>?_⟩⟩;obtain⟨e1,e2⟩:=PX ls j l hj;have hjl:=(List.getElem?_eq_some_iff.1 hj).1;rw[Nat.zero_add,cell_of_row w g (j*2) cur _ (0,0) hg,cell_of_row w g (j*2+1) cur _ (0,0) hg];rw[<-ht,List.getElem?_take,if_pos (by omega)] at e1 e2;exact⟨by simpa using e1,by simpa using e2⟩
end
section
def iB (s:List UInt8):Nat->Int->Int->Int×Int×Int
 |0,_,_=>(0,0,2)
 |f+1,at',n=>
  if aO s.length at' 1≠0 then(0,0,aO s.length at' 1)
  else if aE s at' 1=0 then(n,at'+1,0)
  else if aO s.length (at'+1) 1≠0 then(0,0,aO s.length (at'+1) 1)
  else
   let m:=if aE s (at'+1) 1=0 then n+1 else n-1
   if m<1\/20<m then(0,0,3) else iB s f (at'+2) m
def eD (s:List UInt8) (at' n:Int):Int×Int×Int:=iB s (8*s.length+2) at' n
theorem JX (s:List UInt8):∀(f g:Nat) (at' n:Int),0<=at'->8*(s.length:Int)+1-at'<=f->8*(s.length:Int)+1-at'<=g->1<=f->1<=g->iB s f at' n=iB s g at' n
 |0,_,_,_,_,_,_,h,_=>by omega
 |_,0,_,_,_,_,_,_,h=>by omega
 |f+1,g+1,at',n,h0,hf,hg,_,_=>by
  unfold iB;split
  ·rfl
  ·next h1=>
   have h1:=fQ (dK.1 h1);split
   ·rfl
   ·split
    ·rfl
    ·next h2=>
     have h2:=fQ (dK.1 h2);simp only
     generalize (if aE s (at'+1) 1=0 then n+1 else n-1)=m
     by_cases hm:m<1\/20<m
     ·rw[if_pos hm,if_pos hm]
     ·rw[if_neg hm,if_neg hm];exact JX s f g _ _ (by omega) (by omega) (by omega) (by omega) (by omega)
theorem wF (s:List UInt8) (at' n:Int) (h0:0<=at'):eD s at' n=
  if aO s.length at' 1≠0 then(0,0,aO s.length at' 1)
  else if aE s at' 1=0 then(n,at'+1,0)
  else if aO s.length (at'+1) 1≠0 then(0,0,aO s.length (at'+1) 1)
  else if(if aE s (at'+1) 1=0 then n+1 else n-1)<1\/20<(if aE s (at'+1) 1=0 then n+1 else n-1) then(0,0,3)
  else eD s (at'+2) (if aE s (at'+1) 1=0 then n+1 else n-1):=by
 unfold eD
 conv=>lhs;unfold iB
 split
 ·rfl
 ·next h1=>
  have h1:=fQ (dK.1 h1);split
  ·rfl
  ·split
   ·rfl
   ·next h2=>
    have h2:=fQ (dK.1 h2);simp only
    generalize (if aE s (at'+1) 1=0 then n+1 else n-1)=m
    by_cases hm:m<1\/20<m
    ·rw[if_pos hm,if_pos hm]
    ·rw[if_neg hm,if_neg hm];exact JX s _ _ _ _ (by omega) (by omega) (by omega) (by omega) (by omega)
theorem DA (s:List UInt8):∀(f:Nat) (at' n:Int),0<=at'->1<=n->n<=20->(iB s f at' n).2.2=0->1<=(iB s f at' n).1/\(iB s f at' n).1<=20/\at'<(iB s f at' n).2.1/\(iB s f at' n).2.1<=8*(s.length:Int)
 |0,_,_,_,_,_,h=>by unfold iB at h;simp at h
 |f+1,at',n,h0,h1,h2,h=>by
  unfold iB at h ⊢;split at h
  ·next q=>exact absurd h q
  ·next q=>
   have q1:=fQ (dK.1 q);rw[if_neg q];split at h
   ·next k=>
    rw[if_pos k];exact⟨h1,h2,by show at'<at'+1;omega,by show at'+1<=_;omega⟩
   ·next k=>
    rw[if_neg k];split at h
    ·next q2=>exact absurd h q2
    ·next q2=>
     rw[if_neg q2];simp only at h ⊢;generalize (if aE s (at'+1) 1=0 then n+1 else n-1)=m at h ⊢
     by_cases q3:m<1\/20<m
     ·rw[if_pos q3] at h;simp at h
     ·rw[if_neg q3] at h ⊢;have:=DA s f (at'+2) m (by omega) (by omega) (by omega) h;omega
def aZ (s:List UInt8) (at':Int):Nat->List Int×Int×Int×Int
 |0=>([],(aE s at' 5:Int),at'+5,if aO s.length at' 5≠0 then aO s.length at' 5 else if(aE s at' 5:Int)<1\/20<(aE s at' 5:Int) then 3 else 0)
 |k+1=>
  let p:=aZ s at' k
  if p.2.2.2≠0 then p
  else let q:=eD s p.2.2.1 p.2.1
   if q.2.2≠0 then(p.1,p.2.1,p.2.2.1,q.2.2) else(p.1++[q.1],q.1,q.2.1,0)
def eJ (s:List UInt8) (at':Int) (n:Int):List Int×Int×Int:=
 if at'<0\/n<2\/258<n then([],0,1)
 else let p:=aZ s at' n.toNat
  if p.2.2.2≠0 then([],0,p.2.2.2) else(p.1,p.2.2.1,0)
theorem yR (s:List UInt8) (at':Int) (h0:0<=at'):∀k,(aZ s at' k).2.2.2=0->(aZ s at' k).1.length=k/\(∀x∈(aZ s at' k).1,1<=x/\x<=20)/\(1<=(aZ s at' k).2.1/\(aZ s at' k).2.1<=20)/\at'<(aZ s at' k).2.2.1/\(aZ s at' k).2.2.1<=8*(s.length:Int)
 |0,h=>by
  unfold aZ at h ⊢;simp only at h ⊢;split at h
  ·next q=>exact absurd h q
  ·next q=>
   have q1:=fQ (dK.1 q);split at h
   ·simp at h
   ·next q2=>exact⟨rfl,fun x hx=>by simp at hx,by omega,by omega,by omega⟩
 |k+1,h=>by
  unfold aZ at h ⊢;simp only at h ⊢;split at h
  ·next q=>exact absurd h q
  ·next q=>
   obtain⟨h1,h2,h3,h4,h5⟩:=yR s at' h0 k (dK.1 q);rw[if_neg q];split at h
   ·next q2=>exact absurd h q2
   ·next q2=>
    rw[if_neg q2];have:=DA s _ (aZ s at' k).2.2.1 (aZ s at' k).2.1 (by omega) h3.1 h3.2 (dK.1 q2);refine⟨by simp[h1],fun x hx=>?_,⟨this.1,this.2.1⟩,by show at'<(eD _ _ _).2.1;unfold eD;omega,this.2.2.2⟩;rcases cU.1 hx with hx|hx
    ·exact h2 x hx
    ·obtain rfl:=dC.1 hx;exact⟨this.1,this.2.1⟩
theorem SC {a c:List UInt8} {i:Nat} (h:i<a.length):eF (a++c) i=eF a i++c:=by
 unfold eF;rw[aTb (by omega),GO (by rw[List.length_drop];omega),GO (by omega),aTb (by omega)];simp[cF]
theorem SD:∀(l:List Int) (a c:List UInt8),(∀x∈l,0<=x/\x<(a.length:Int))->unL (a++c) l=unL a l/\unA (a++c) l=unA a l++c
 |[],_,_,_=>⟨rfl,rfl⟩
 |x::l,a,c,h=>by
  have hx:=h x (lY ..);have ih:=SD l (eF a x.toNat) c (fun y hy=>by rw[vS];exact h y (jD _ hy));have e:eF (a++c) x.toNat=eF a x.toNat++c:=SC (by omega);unfold unL unA;rw[e];refine⟨?_,ih.2⟩;rw[ih.1]
  congr 1
  rw[aV,List.getElem?_append_left (by omega),aV]
def cC (n:Nat):List UInt8:=(dG n).map eK
theorem oR (n:Nat):(cC n).length=n:=by simp[cC]
theorem JZ {n:Nat} (h:n<=6):cC 6=cC n++(cC 6).drop n:=by
 have e:(cC 6).take n=cC n:=by
  unfold cC;rw[<-List.map_take,List.take_range,Nat.min_eq_left h]
 rw[<-e,jE]
theorem KA {n:Nat} (h:n<=6) (b:UInt8):b∈cC n↔b.toNat<n:=by
 unfold cC;rw[dU];constructor
 ·rintro⟨k,hk,rfl⟩;rw[jF] at hk;rw[nP,Nat.mod_eq_of_lt (by omega)];exact hk
 ·intro hb;exact⟨b.toNat,jF.2 hb,by simp⟩
def jK (s:List UInt8) (tables:Int):Nat->Int->Int->Int×Int×Int
 |0,_,_=>(0,0,2)
 |f+1,at',n=>
  if aO s.length at' 1≠0 then(0,0,aO s.length at' 1)
  else if aE s at' 1=0 then(n,at'+1,0)
  else if n+1=tables then(0,0,3)
  else jK s tables f (at'+1) (n+1)
def gV (s:List UInt8) (tables at' n:Int):Int×Int×Int:=jK s tables (8*s.length+2) at' n
theorem KC (s:List UInt8) (tables:Int):∀(f g:Nat) (at' n:Int),0<=at'->8*(s.length:Int)+1-at'<=f->8*(s.length:Int)+1-at'<=g->1<=f->1<=g->jK s tables f at' n=jK s tables g at' n
 |0,_,_,_,_,_,_,h,_=>by omega
 |_,0,_,_,_,_,_,_,h=>by omega
 |f+1,g+1,at',n,h0,hf,hg,_,_=>by
  unfold jK;split
  ·rfl
  ·next h1=>
   have h1:=fQ (dK.1 h1);split
   ·rfl
   ·split
    ·rfl
    ·exact KC s tables f g _ _ (by omega) (by omega) (by omega) (by omega) (by omega)
theorem DB (s:List UInt8) (tables at' n:Int) (h0:0<=at'):gV s tables at' n=
  if aO s.length at' 1≠0 then(0,0,aO s.length at' 1)
  else if aE s at' 1=0 then(n,at'+1,0)
  else if n+1=tables then(0,0,3)
  else gV s tables (at'+1) (n+1):=by
 unfold gV
 conv=>lhs;unfold jK
 split
 ·rfl
 ·next h1=>
  have h1:=fQ (dK.1 h1);split
  ·rfl
  ·split
   ·rfl
   ·exact KC s tables _ _ _ _ (by omega) (by omega) (by omega) (by omega) (by omega)
theorem DC (s:List UInt8) (tables:Int):∀(f:Nat) (at' n:Int),0<=at'->0<=n->n<tables->(jK s tables f at' n).2.2=0->0<=(jK s tables f at' n).1/\(jK s tables f at' n).1<tables/\at'<(jK s tables f at' n).2.1/\(jK s tables f at' n).2.1<=8*(s.length:Int)
 |0,_,_,_,_,_,h=>by unfold jK at h;simp at h
 |f+1,at',n,h0,h1,h2,h=>by
  unfold jK at h ⊢;split at h
  ·next q=>exact absurd h q
  ·next q=>
   have q1:=fQ (dK.1 q);rw[if_neg q];split at h
   ·next k=>
    rw[if_pos k];exact⟨h1,h2,by show at'<at'+1;omega,by show at'+1<=_;omega⟩
   ·next k=>
    rw[if_neg k];split at h
    ·simp at h
    ·next q3=>
     rw[if_neg q3];have:=DC s tables f (at'+1) (n+1) (by omega) (by omega) (by omega) h;omega
def cO (s:List UInt8) (tables at':Int):Nat->List Int×Int×Int
 |0=>([],at',0)
 |k+1=>
  let p:=cO s tables at' k
  if p.2.2≠0 then p
  else let q:=gV s tables p.2.1 0
   if q.2.2≠0 then(p.1,p.2.1,q.2.2) else(p.1++[q.1],q.2.1,0)
theorem wG (s:List UInt8) (tables at':Int) (h0:0<=at') (ht:0<tables):∀k,(cO s tables at' k).2.2=0->(cO s tables at' k).1.length=k/\(∀x∈(cO s tables at' k).1,0<=x/\x<tables)/\at'<=(cO s tables at' k).2.1/\((cO s tables at' k).2.1=at'\/(cO s tables at' k).2.1<=8*(s.length:Int))
 |0,_=>⟨rfl,fun x hx=>by simp[cO] at hx,Int.le_refl _,.inl rfl⟩
 |k+1,h=>by
  unfold cO at h ⊢;simp only at h ⊢;split at h
  ·next q=>exact absurd h q
  ·next q=>
   obtain⟨h1,h2,h3,h4⟩:=wG s tables at' h0 ht k (dK.1 q);rw[if_neg q];split at h
   ·next q2=>exact absurd h q2
   ·next q2=>
    rw[if_neg q2];have:=DC s tables (8*s.length+2) (cO s tables at' k).2.1 0 (by omega) (by omega) ht (dK.1 q2);refine⟨by simp[h1],fun x hx=>?_,by show at'<=(gV _ _ _ _).2.1;unfold gV;omega,.inr this.2.2.2⟩;rcases cU.1 hx with hx|hx
    ·exact h2 x hx
    ·obtain rfl:=dC.1 hx;exact⟨this.1,this.2.1⟩
def dD (s:List UInt8) (at' n tables:Int):List Int×Int×Int:=
 if tables<2\/6<tables\/at'<0\/n<0\/1048576<n then([],0,1)
 else let p:=cO s tables at' n.toNat
  if p.2.2≠0 then([],0,p.2.2) else((unL (cC tables.toNat) p.1).map (fun b=>(b.toNat:Int)),p.2.1,0)
def dJ (m:List Int) (n which:Nat):Nat->List Int
 |0=>bB n 0
 |k+1=>if k/10%2=which then(dJ m n which k).set (m.getD k 0).toNat ((dJ m n which k).getD (m.getD k 0).toNat 0+1) else dJ m n which k
theorem rP (m:List Int) (n which:Nat):∀k,(dJ m n which k).length=n
 |0=>by simp[dJ]
 |k+1=>by
  unfold dJ;split
  ·rw[List.length_set,rP m n which k]
  ·exact rP m n which k
theorem SH:∀(l:List Int) (i:Nat),i<l.length->(l.set i (l.getD i 0+1)).sum=l.sum+1
 |[],i,h=>by simp at h
 |x::l,0,_=>by simp[List.set_cons_zero];omega
 |x::l,i+1,h=>by
  have:=SH l i (by simpa using h);simp only[List.set_cons_succ,pV,List.getD_cons_succ];omega
theorem wI (m:List Int) (n which:Nat) (h:∀x∈m,0<=x/\x<(n:Int)):∀k,k<=m.length->0<=(dJ m n which k).sum/\(dJ m n which k).sum<=(k:Int)/\∀x∈dJ m n which k,0<=x/\x<=(k:Int)
 |0,_=>by
  refine⟨by simp[dJ],by simp[dJ],fun x hx=>?_⟩;unfold dJ at hx;have:=List.eq_of_mem_replicate hx;omega
 |k+1,hk=>by
  obtain⟨h1,h2,h3⟩:=wI m n which h k (by omega);have hx:=h m[k] (gT (by omega));have e:m.getD k 0=m[k]:=by rw[aV,aN (by omega)];rfl
  unfold dJ;split
  ·rw[e,SH _ _ (by rw[rP];omega)];refine⟨by omega,by omega,fun x hx2=>?_⟩;rcases List.mem_or_eq_of_mem_set hx2 with q|q
   ·have:=h3 x q;omega
   ·have hg:0<=(dJ m n which k).getD m[k].toNat 0/\(dJ m n which k).getD m[k].toNat 0<=(k:Int):=by
     rw[aV,aN (by rw[rP];omega)];exact h3 _ (gT _)
    rw[q];omega
  ·exact⟨h1,by omega,fun x hx2=>by have:=h3 x hx2;omega⟩
def iK (m:List Int) (n which:Nat):List Int:=dJ m n which m.length
def nJ (ws:List Int):List Int:=kL (ws.map (fun w=>max w 1))
theorem DD (ws:List Int) (h:∀x∈ws,0<=x):(ws.map (fun w=>max w 1)).sum<=ws.sum+ws.length:=by
 induction ws with
 |nil=>decide
 |cons x l ih=>
  have:=ih (fun y hy=>h y (jD _ hy));have:=h x (lY ..);simp only[List.map_cons,pV,cR];omega
theorem KE {ws:List Int} (h2:2<=ws.length) (h258:ws.length<=258) (h0:∀x∈ws,0<=x) (hs:ws.sum<=20000):fY (nJ ws)/\(nJ ws).length=ws.length:=by
 have hm:(ws.map (fun w=>max w 1)).length=ws.length:=bJ ..;have:=aGh (ws.map (fun w=>max w 1)) (by omega) (fun x hx=>by
  obtain⟨y,_,rfl⟩:=dU.1 hx;omega) (by have:=DD ws h0;omega)
 unfold fY nJ;rw[this.1,hm];exact⟨⟨h2,h258,this.2⟩,rfl⟩
def dN (m:List Int) (n which:Nat):List Int:=nJ (iK m n which)
theorem rQ {m:List Int} {n which:Nat} (h2:2<=n) (h258:n<=258) (h:∀x∈m,0<=x/\x<(n:Int)) (hm:m.length<=20000):fY (dN m n which)/\(dN m n which).length=n:=by
 have hs:=wI m n which h m.length (aA _);have hl:=rP m n which m.length;have:=KE (ws:=iK m n which) (by unfold iK;omega) (by unfold iK;omega) (fun x hx=>(hs.2.2 x hx).1) (by unfold iK;omega);exact⟨this.1,by rw[dN,this.2];exact hl⟩
theorem KH:∀(t:HT) (d:Nat),d+t.high<=20->((t.deep d).map (fun q=>2^(20-q.2))).sum=2^(20-d)
 |.leaf _,d,_=>by simp[HT.deep]
 |.node _ l r,d,h=>by
  unfold HT.high at h;unfold HT.deep;rw[fI,List.sum_append,KH l (d+1) (by omega),KH r (d+1) (by omega),show 20-d=(20-(d+1))+1 by omega,nQ];omega
theorem aIe {l m:List Nat} (h:l.Perm m):l.sum=m.sum:=by
 induction h with
 |nil=>rfl
 |cons x _ ih=>simp only[pV];omega
 |swap x y l=>simp only[pV];omega
 |trans _ _ h1 h2=>omega
theorem aIf (ws:List Int) (h:2<=ws.length) (h1:∀x∈ws,1<=x) (hs:ws.sum<28657):jR (kL ws)=1048576:=by
 obtain⟨p,hp,hr⟩:=CT ws h;have hg:=jT.all ws (ws.length-1) (by omega);have hd:=qM.all ws (ws.length-1) (by omega);obtain⟨he,hsum⟩:=rO.all ws h1 (ws.length-1) (by omega);rw[hp] at hg hd he hsum;have hp1:p∈[p]:=dC.2 rfl;have hw:=HT.wt_high p.2 (he.even p hp1);have hwt:=he.wt p hp1;have hsum':p.1=ws.sum:=by simpa using hsum
 have hh:p.2.high<=20:=by
  rcases Nat.lt_or_ge 20 p.2.high with k|k
  ·have:=RN (show 21<=p.2.high from k);have e:kM 21=28657:=by decide
   omega
  ·exact k
 have hnd:p.2.leaves.Nodup:=HT.leaves_nodup _ (by have:=hg.nodup;simpa using this);have hperm:p.2.leaves.Perm (dG ws.length):=by
  rw[List.perm_ext_iff_of_nodup hnd List.nodup_range];intro j;rw[jF];constructor
  ·intro hj;rw[<-HT.deep_map p.2 0] at hj;obtain⟨q,hq,rfl⟩:=dU.1 hj;exact(hd.2 p hp1 q hq).1
  ·intro hj;obtain⟨p',hp',hj'⟩:=hg.leaves j hj;obtain rfl:=dC.1 hp';exact hj'
 have hlen:(kL ws).length=ws.length:=rN _ _;have e1:(kL ws).map (fun x=>2^(20-x.toNat))=(dG ws.length).map (fun j=>2^(20-((kL ws).getD j 0).toNat)):=by
  apply List.ext_getElem?;intro j
  by_cases hj:j<ws.length
  ·simp[hj,hlen]
  ·rw[dL (by simp;omega),dL (by simp;omega)]
 unfold jR;rw[e1,<-aIe (hperm.map _),<-HT.deep_map p.2 0,List.map_map];have e2:(p.2.deep 0).map ((fun j=>2^(20-((kL ws).getD j 0).toNat)) ∘ fun q=>q.1)=(p.2.deep 0).map (fun q=>2^(20-q.2)):=by
  apply List.map_congr_left;intro q hq;have:=(hd.2 p hp1 q hq).2;show 2^(20-((gO ws (ws.length-1)).getD q.1 0).toNat)=_;rw[this,eG]
 rw[e2,KH p.2 0 (by omega)]
theorem tB {m:List Int} {n which:Nat} (h2:2<=n) (h258:n<=258) (h:∀x∈m,0<=x/\x<(n:Int)) (hm:m.length<=20000):bL (dN m n which)=0:=by
 have hs:=wI m n which h m.length (aA _);have hl:=rP m n which m.length;have hmx:=DD (iK m n which) (fun x hx=>(hs.2.2 x hx).1);refine aDm (rQ h2 h258 h hm).1 (Nat.le_of_eq ?_);refine aIf _ (by rw[bJ];unfold iK;omega) (fun x hx=>?_) ?_
 ·obtain⟨y,_,rfl⟩:=dU.1 hx;omega
 ·unfold iK at hmx ⊢;omega
end
section
open Go.RowKit Go Go.Shelf
theorem ST {l:List Int} (h:¬(2<=l.length/\l.length<=258)):bL l=1:=by
 unfold bL;rw[if_pos (fun q=>h ⟨q.1,q.2.1⟩)]
theorem DG {l:List Int} {k:Nat} {x:Int} (h:l[k]? =some x) (hx:¬(1<=x/\x<=20)):bL l=1:=by
 unfold bL;rw[if_pos (fun q=>hx (q.2.2 x (List.mem_of_getElem? h)))]
theorem SU {l:List Int} (h:fY l):bL l=if 1048576<jR l then 6 else 0:=by
 unfold bL;rw[if_neg (fun k=>k h)]
def cD (n:Nat) (f:Nat->Value×Value):List Value:=(dG (n*2)).map (fun j=>if j%2=0 then(f (j/2)).1 else(f (j/2)).2)
def qP (l:List Int) (d:Nat):Value×Value:=(.int .i64 (bG l d:Int),.int .u64 (fO l d:Int))
def iW (l:List Int) (n i:Nat):Nat:=fC l n+bU (l.take i) n
theorem DJ {l:List Int} (h:fY l) (hk:jR l<=1048576) {n i:Nat} (hn:n<=20):iW l n i<=1048576:=by
 have h1:=PE h.2.2 hk hn;have h2:bU (l.take i) n<=bU l n:=by
  unfold bU;exact List.Sublist.countP_le (List.take_sublist ..)
 have h3:2^n<=2^20:=jC (by decide) hn;have h4:(2:Nat)^20=1048576:=by decide
 unfold iW;omega
def Wds (w:World) (B:Nat) (v:Value) (l:List Int):Prop:=∃b,B<=b/\v=.slice (some ⟨b,0,none⟩) l.length l.length/\Arr w b 999983 (cD l.length (qP l))
theorem Wds.below {w w':World} {B C:Nat} {v:Value} {l:List Int} (h:Wds w B v l) (hb:Below C w w') (hC:w.heap.size<=C):Wds w' B v l:=by
 obtain⟨b,h1,h2,h3⟩:=h;exact⟨b,h1,h2,h3.below hb (by have:=h3.lt;omega)⟩
theorem UE (s:List UInt8) (a:Int) (k:Nat) (h:(aZ s a k).2.2.2≠0):∀m,(aZ s a (k+m))=aZ s a k
 |0=>rfl
 |m+1=>by
  have ih:=UE s a k h m;show(if(aZ s a (k+m)).2.2.2≠0 then aZ s a (k+m) else _)=_;rw[ih,if_pos h]
theorem KO (s:List UInt8) (a n:Nat) (h1:2<=n) (h2:n<=258):eJ s (a:Int) (n:Int)=if(aZ s a n).2.2.2≠0 then([],0,(aZ s a n).2.2.2) else((aZ s a n).1,(aZ s a n).2.2.1,0):=by
 unfold eJ;rw[if_neg (by omega),eG]
theorem UF {s:List UInt8} {a n k:Nat} (h1:2<=n) (h2:n<=258) (hk:k<=n) (h:(aZ s a k).2.2.2≠0):eJ s (a:Int) (n:Int)=([],0,(aZ s a k).2.2.2):=by
 have:=UE s a k h (n-k);rw[show k+(n-k)=n by omega] at this;rw[KO s a n h1 h2,this,if_pos h]
theorem UG (s:List UInt8) (a:Int):aZ s a 0=([],(aE s a 5:Int),a+5,if aO s.length a 5≠0 then aO s.length a 5 else if(aE s a 5:Int)<1\/20<(aE s a 5:Int) then 3 else 0):=rfl
theorem UH {s:List UInt8} {a:Int} {k:Nat} (h:(aZ s a k).2.2.2=0):aZ s a (k+1)=
  if(eD s (aZ s a k).2.2.1 (aZ s a k).2.1).2.2≠0 then((aZ s a k).1,(aZ s a k).2.1,(aZ s a k).2.2.1,(eD s (aZ s a k).2.2.1 (aZ s a k).2.1).2.2)
  else((aZ s a k).1++[(eD s (aZ s a k).2.2.1 (aZ s a k).2.1).1],(eD s (aZ s a k).2.2.1 (aZ s a k).2.1).1,(eD s (aZ s a k).2.2.1 (aZ s a k).2.1).2.1,0):=by
 show(if(aZ s a k).2.2.2≠0 then aZ s a k else _)=_;rw[if_neg (fun q=>q h)]
def wM (w w':World) (s:List UInt8) (a n:Nat) (e:Ending):Prop:=
 ∃v,e=.returned (.tuple #[v,.int .i64 (eJ s (a:Int) (n:Int)).2.1,.int .i64 (eJ s (a:Int) (n:Int)).2.2])/\OwI w' w.heap.size v (eJ s (a:Int) (n:Int)).1/\Below w.heap.size w w'
theorem yY {w w':World} {s:List UInt8} {a n:Nat} {E:Int} (h:eJ s (a:Int) (n:Int)=([],0,E)) (hb:Below w.heap.size w w'):wM w w' s a n (.returned (.tuple #[.slice none 0 0,.int .i64 0,.int .i64 E])):=by
 refine⟨.slice none 0 0,?_,?_,hb⟩
 ·rw[h]
 ·rw[h];exact OwI.nil _ _
end
end Go.Proofs.YtjkjeamepgjicaaGreatDoor
