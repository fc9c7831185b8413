/-
  Texts put together (part 2): the walks and the plain laws on which the statement stands.
-/
import Derived.Laws.BitsAllLaws
import Derived.Laws.Bits64
import Derived.Deep.CutBlock
import Derived.Deep.RegionHeld3
import Derived.Defers
import Derived.Recover
import Derived.Shelf.Abstract
import Derived.Laws.ResultCell
import Derived.Maps.AppendAt
import Derived.Test.YtmcogmmncfihhaaGreatDoorZ1
set_option maxRecDepth 100000
set_option maxHeartbeats 12800000
set_option linter.unusedVariables false
set_option linter.unusedSimpArgs false
open Decidable renaming not_not->dK
open Go renaming Operand->iM
open Go.IntKind renaming i64->aI,u64->fU,u8->pX,wrap_i64->aM,wrap_u64->gF,wrap_u8->xQ
open Go.Result renaming andThen->jB
open Go.RowKit.Below renaming refl->aB
open Go.Value renaming int->bO
open Go.World.ownsRow renaming alloc->aBy
open Int renaming natCast_mul->FN,tdiv_eq_ediv_of_nonneg->AJ,tmod_eq_emod_of_nonneg->oJ,toNat_natCast->eG
open List renaming any_eq_true->AH,append_assoc->cF,cons_append->gE,getD->fF,getD_eq_getElem?_getD->aV,getElem?_drop->gR,getElem?_eq_getElem->aN,getElem?_eq_none->dL,getElem?_map->dY,getElem?_range->pF,getElem_mem->gT,length_append->aL,length_cons->cR,length_map->bJ,length_set->mW,length_take->aX,map_append->fI,mem_append->cU,mem_cons->kD,mem_cons_of_mem->jD,mem_filter->xN,mem_map->dU,mem_of_getElem?->cH,mem_range->jF,range->dG,replicate->bB,take_add_one->cQ,take_append_drop->jE,take_of_length_le->cS
open List.Pairwise renaming imp_of_mem->aB5
open Nat renaming eq_zero_or_pos->fJ,le_refl->aA,mod_lt->jQ,mod_two_eq_zero_or_one->FU,mul_assoc->vH,mul_comm->oG,pow_le_pow_right->jC,pow_succ->nQ,strongRecOn->FT,zero_le->aU
open Option renaming map_some->xW
open Option.some renaming inj->bW
open UInt8 renaming ofNat->eK,toNat_ofNat'->nP
namespace Go.Proofs.YtmcogmmncfihhaaGreatDoor
section
def fP (p:Int->Bool):List Int->Int
 |[]=> -1
 |x::l=>if p x then 0 else if fP p l<0 then-1 else fP p l+1
theorem BQ (p:Int->Bool):∀l,-1<=fP p l/\fP p l<(l.length:Int)/\(fP p l<0↔∀x∈l,p x=false):=by
 intro l
 induction l with
 |nil=>simp[fP]
 |cons x l ih=>
  unfold fP;obtain⟨h1,h2,h3⟩:=ih
  by_cases hx:p x=true
  ·rw[if_pos hx];refine⟨by omega,by rw[cR];omega,?_⟩;constructor
   ·intro h;omega
   ·intro h;have:=h x (by simp);rw[hx] at this;exact Bool.noConfusion this
  ·rw[if_neg hx];have hx':p x=false:=by simpa using hx
   by_cases h:fP p l<0
   ·rw[if_pos h,cR];refine⟨by omega,by omega,?_⟩;constructor
    ·intro _ y hy;rcases kD.1 hy with rfl|hy
     ·exact hx'
     ·exact h3.1 h y hy
    ·intro _;omega
   ·rw[if_neg h,cR];refine⟨by omega,by omega,?_⟩;constructor
    ·intro _;omega
    ·intro h';have:∀y∈l,p y=false:=fun y hy=>h' y (jD _ hy)
     have:=h3.2 this;omega
theorem BR {p:Int->Bool}:∀{l:List Int} {k:Nat},(∀x∈l.take k,p x=false)->(hk:k<l.length)->p l[k]=true->fP p l=(k:Int):=by
 intro l
 induction l with
 |nil=>intro k _ hk;simp at hk
 |cons x l ih=>
  intro k h hk hp;unfold fP
  cases k with
  |zero=>rw[if_pos (by simpa using hp)];rfl
  |succ k=>
   have hx:=h x (by simp);rw[if_neg (by rw[hx];exact Bool.false_ne_true)];have e:=ih (k:=k) (fun y hy=>h y (by simp[hy])) (by simpa using hk) (by simpa using hp);rw[e,if_neg (by omega)];omega
theorem oN {p:Int->Bool} {l:List Int} (h:∀x∈l,p x=false):fP p l= -1:=by
 obtain⟨h1,_,h3⟩:=BQ p l;have:=h3.2 h;omega
def dB (s:List UInt8) (c:Nat):Bool:=s.any (fun b=>b.toNat==c)
theorem IJ (s:List UInt8) (b:UInt8):dB s b.toNat=true↔b∈s:=by
 unfold dB;rw[AH];constructor
 ·rintro⟨x,hx,h⟩;rw[beq_iff_eq,UInt8.toNat_inj] at h;rw[<-h];exact hx
 ·intro h;exact⟨b,h,by simp⟩
def jH (s:List UInt8) (m:Nat):List UInt8:=((dG m).filter (dB s)).map eK
def bK (s:List UInt8):List UInt8:=jH s 256
theorem IK (s:List UInt8) (m:Nat):jH s (m+1)=jH s m++if dB s m then[eK m] else[]:=by
 unfold jH;rw[List.range_succ,List.filter_append,fI]
 congr 1
 by_cases h:dB s m=true
 ·simp[h]
 ·simp[h]
theorem PI (s:List UInt8) (m:Nat):(jH s m).length<=m:=by
 unfold jH;rw[bJ];have:=List.length_filter_le (dB s) (dG m)
 simpa using this
theorem yC (s:List UInt8) (b:UInt8):b∈bK s↔b∈s:=by
 unfold bK jH;rw[dU];constructor
 ·rintro⟨c,hc,rfl⟩;rw[xN,jF] at hc;have e:(eK c).toNat=c:=by rw[nP];omega
  rw[<-IJ,e];exact hc.2
 ·intro h;refine⟨b.toNat,?_,by simp⟩;rw[xN,jF];exact⟨b.toNat_lt,(IJ s b).2 h⟩
theorem BS (s:List UInt8):(bK s).Nodup:=by
 unfold bK jH List.Nodup;rw[List.pairwise_map];refine aB5 ?_ (List.pairwise_lt_range.sublist List.filter_sublist);intro a b ha hb hab e;have ha':=jF.1 (xN.1 ha).1;have hb':=jF.1 (xN.1 hb).1;have:=congrArg UInt8.toNat e;rw[nP,nP] at this;omega
theorem PJ {s t:List UInt8} (h:∀b,b∈s↔b∈t):bK s=bK t:=by
 have e:dB s=dB t:=by
  funext c
  unfold dB;rw[Bool.eq_iff_iff,AH,AH];exact⟨fun⟨x,h1,h2⟩=>⟨x,(h x).1 h1,h2⟩,fun⟨x,h1,h2⟩=>⟨x,(h x).2 h1,h2⟩⟩
 unfold bK jH;rw[e]
theorem PK (s:List UInt8):bK (bK s)=bK s:=PJ (fun b=>yC s b)
theorem BT {s:List UInt8} (h:s≠[]):bK s≠[]:=by
 cases s with
 |nil=>exact absurd rfl h
 |cons b s=>
  intro e;have:=(yC (b::s) b).2 (by simp);rw[e] at this;simp at this
def eF (a:List UInt8) (i:Nat):List UInt8:=(a.drop i).take 1++a.take i++a.drop (i+1)
theorem uE (a:List UInt8) (i:Nat):(eF a i).Perm a:=by
 unfold eF;have e:a=a.take i++((a.drop i).take 1++a.drop (i+1)):=by
  have h1:(a.drop i).drop 1=a.drop (i+1):=by rw[List.drop_drop]
  rw[<-h1,jE,jE]
 have h2:((a.drop i).take 1++a.take i++a.drop (i+1)).Perm (a.take i++((a.drop i).take 1++a.drop (i+1))):=by
  rw[<-cF];exact List.Perm.append_right _ List.perm_append_comm
 rw[<-e] at h2;exact h2
theorem vS (a:List UInt8) (i:Nat):(eF a i).length=a.length:=(uE a i).length_eq
def plc (a:List UInt8) (c:UInt8):Nat:=a.findIdx (fun b=>b==c)
theorem rG {a:List UInt8} {c:UInt8} (h:c∈a):plc a c<a.length:=List.findIdx_lt_length_of_exists ⟨c,h,by simp⟩
theorem BU {a:List UInt8} {c:UInt8} (h:c∈a):a[plc a c]? =some c:=by
 have hl:=rG h;have h2:=List.findIdx_getElem (p:=fun b=>b==c) (w:=hl);rw[aN hl];have h3:(a[plc a c]==c)=true:=h2;rw[beq_iff_eq] at h3;rw[h3]
theorem PL {a:List UInt8} {c:UInt8} {i:Nat} (h:i<plc a c) (hl:i<a.length):a[i]≠c:=by
 have:=List.not_of_lt_findIdx h;intro e;rw[e] at this;simp at this
theorem aDu {a:List UInt8} {c:UInt8} {i:Nat} (hi:i<a.length) (h:a[i]=c) (hm:∀j,(hj:j<i)->a[j]'(by omega)≠c):plc a c=i:=by
 have hmem:c∈a:=by rw[<-h];exact gT hi
 rcases Nat.lt_trichotomy (plc a c) i with p|p|p
 ·have:=BU hmem;have hl:=rG hmem;rw[aN hl] at this;exact absurd (bW this) (hm _ p)
 ·exact p
 ·exact absurd h (PL p hi)
theorem IL {a:List UInt8} (hn:a.Nodup) {i:Nat} (hi:i<a.length):plc a a[i]=i:=by
 refine aDu hi rfl (fun j hj e=>?_);exact List.pairwise_iff_getElem.1 hn j i (by omega) hi hj e
def cM:List UInt8->List UInt8->List Int
 |_,[]=>[]
 |a,c::s=>((plc a c:Nat):Int)::cM (eF a (plc a c)) s
def eB:List UInt8->List UInt8->List UInt8
 |a,[]=>a
 |a,c::s=>eB (eF a (plc a c)) s
theorem rH:∀(s a:List UInt8),(cM a s).length=s.length:=by
 intro s
 induction s with
 |nil=>intro a;rfl
 |cons c s ih=>intro a;simp[cM,ih]
theorem BV:∀(s a:List UInt8),(eB a s).Perm a:=by
 intro s
 induction s with
 |nil=>intro a;exact List.Perm.refl _
 |cons c s ih=>intro a;exact(ih _).trans (uE a _)
theorem BW (c:UInt8):∀(s a:List UInt8),cM a (s++[c])=cM a s++[((plc (eB a s) c:Nat):Int)]:=by
 intro s
 induction s with
 |nil=>intro a;rfl
 |cons d s ih=>intro a;simp only[gE,cM,eB,ih]
theorem IM (c:UInt8):∀(s a:List UInt8),eB a (s++[c])=eF (eB a s) (plc (eB a s) c):=by
 intro s
 induction s with
 |nil=>intro a;rfl
 |cons d s ih=>intro a;simp only[gE,eB,ih]
theorem vT:∀(s a:List UInt8),(∀b∈s,b∈a)->∀x∈cM a s,0<=x/\x<(a.length:Int):=by
 intro s
 induction s with
 |nil=>intro a _ x hx;simp[cM] at hx
 |cons c s ih=>
  intro a h x hx;rw[cM,kD] at hx;rcases hx with rfl|hx
  ·have:=rG (h c (by simp));omega
  ·have:=ih (eF a (plc a c)) (fun b hb=>(uE a _).mem_iff.2 (h b (by simp[hb]))) x hx;rwa[vS] at this
def unL:List UInt8->List Int->List UInt8
 |_,[]=>[]
 |a,i::l=>a.getD i.toNat 0::unL (eF a i.toNat) l
def unA:List UInt8->List Int->List UInt8
 |a,[]=>a
 |a,i::l=>unA (eF a i.toNat) l
theorem oO:∀(l:List Int) (a:List UInt8),(unL a l).length=l.length:=by
 intro l
 induction l with
 |nil=>intro a;rfl
 |cons c l ih=>intro a;simp[unL,ih]
theorem PM:∀(l:List Int) (a:List UInt8),(unA a l).Perm a:=by
 intro l
 induction l with
 |nil=>intro a;exact List.Perm.refl _
 |cons c l ih=>intro a;exact(ih _).trans (uE a _)
theorem IN (i:Int):∀(l:List Int) (a:List UInt8),unL a (l++[i])=unL a l++[(unA a l).getD i.toNat 0]:=by
 intro l
 induction l with
 |nil=>intro a;rfl
 |cons d l ih=>intro a;simp only[gE,unL,unA,ih]
theorem IP (i:Int):∀(l:List Int) (a:List UInt8),unA a (l++[i])=eF (unA a l) i.toNat:=by
 intro l
 induction l with
 |nil=>intro a;rfl
 |cons d l ih=>intro a;simp only[gE,unA,ih]
theorem PN:∀(s a:List UInt8),(∀b∈s,b∈a)->unL a (cM a s)=s:=by
 intro s
 induction s with
 |nil=>intro a _;rfl
 |cons c s ih=>
  intro a h;have hc:=BU (h c (by simp));simp only[cM,unL,eG];rw[fF,hc,ih _ (fun b hb=>(uE a _).mem_iff.2 (h b (by simp[hb])))];rfl
theorem IQ:∀(l:List Int) (a:List UInt8),(∀x∈l,0<=x/\x<(a.length:Int))->∀b∈unL a l,b∈a:=by
 intro l
 induction l with
 |nil=>intro a _ b hb;simp[unL] at hb
 |cons i l ih=>
  intro a h b hb;rw[unL,kD] at hb;rcases hb with rfl|hb
  ·have:=h i (by simp);rw[fF,aN (by omega)];exact gT _
  ·exact(uE a _).mem_iff.1 (ih _ (fun x hx=>by rw[vS];exact h x (by simp[hx])) b hb)
def sQ:Nat->Nat->List Int
 |0,_=>[]
 |f+1,n=>if n=0 then[] else(if n%2=1 then 0 else 1)::sQ f ((n-1)/2)
def dig (n:Nat):List Int:=sQ n n
theorem aDv:∀(f n g:Nat),n<=f->n<=g->sQ f n=sQ g n:=by
 intro f
 induction f with
 |zero=>
  intro n g h1 h2;have:n=0:=by omega
  subst this
  cases g with
  |zero=>rfl
  |succ g=>simp[sQ]
 |succ f ih=>
  intro n g h1 h2
  cases g with
  |zero=>
   have:n=0:=by omega
   subst this;simp[sQ]
  |succ g=>
   unfold sQ
   by_cases h0:n=0
   ·rw[if_pos h0,if_pos h0]
   ·rw[if_neg h0,if_neg h0,ih ((n-1)/2) g (by omega) (by omega)]
theorem qF:dig 0=[]:=rfl
theorem BY {n:Nat} (h:0<n):dig n=(if n%2=1 then 0 else 1)::dig ((n-1)/2):=by
 unfold dig;obtain⟨m,rfl⟩:∃m,n=m+1:=⟨n-1,by omega⟩;rw[sQ,if_neg (by omega),aDv m ((m+1-1)/2) ((m+1-1)/2) (by omega) (aA _)]
theorem BZ:∀(n:Nat),∀x∈dig n,x=0\/x=1:=by
 intro n
 induction n using FT with
 |ind n ih=>
  intro x hx;rcases fJ n with h|h
  ·subst h;simp[qF] at hx
  ·rw[BY h,kD] at hx;rcases hx with rfl|hx
   ·split
    ·exact .inl rfl
    ·exact .inr rfl
   ·exact ih _ (by omega) x hx
theorem CA:∀(n:Nat),(dig n).length<=n/\(0<n->0<(dig n).length):=by
 intro n
 induction n using FT with
 |ind n ih=>
  rcases fJ n with h|h
  ·subst h;simp[qF]
  ·rw[BY h,cR];have:=(ih ((n-1)/2) (by omega)).1;omega
def num:List Int->Nat
 |[]=>0
 |d::l=>(d.toNat+1)+2*num l
theorem PO:∀n,num (dig n)=n:=by
 intro n
 induction n using FT with
 |ind n ih=>
  rcases fJ n with h|h
  ·subst h;rfl
  ·rw[BY h,num,ih _ (by omega)];split
   ·simp;omega
   ·simp;omega
def cZ:Nat->List Int->List Int
 |k,[]=>dig k
 |k,x::l=>if x=0 then cZ (k+1) l else dig k++(x+1)::cZ 0 l
def zx:Nat->Nat->List Int->List Int
 |n,_,[]=>bB n 0
 |n,p,x::l=>if x<2 then zx (n+p*(x.toNat+1)) (2*p) l else bB n 0++(x-1)::zx 0 1 l
def dA (m:List Int):List Int:=zx 0 1 m
theorem IR:∀(r:List Int) (n p:Nat) (l:List Int),(∀x∈r,x<2)->zx n p (r++l)=zx (n+p*num r) (p*2^r.length) l:=by
 intro r
 induction r with
 |nil=>intro n p l _;simp[num]
 |cons d r ih=>
  intro n p l h;rw[gE,zx,if_pos (h d (by simp)),ih _ _ _ (fun x hx=>h x (by simp[hx])),num,cR,nQ];have e1:n+p*(d.toNat+1)+2*p*num r=n+p*(d.toNat+1+2*num r):=by
   rw[Nat.mul_add p (d.toNat+1),Nat.mul_left_comm p 2,vH 2 p];omega
  have e2:2*p*2^r.length=p*(2^r.length*2):=by
   rw[oG 2 p,vH,oG 2]
  rw[e1,e2]
theorem IS (n p:Nat):zx n p []=bB n 0:=rfl
theorem CB {n p:Nat} {x:Int} {l:List Int} (h:¬x<2):zx n p (x::l)=bB n 0++(x-1)::dA l:=by
 rw[zx,if_neg h];rfl
theorem aDw:∀(l:List Int) (k:Nat),(∀x∈l,0<=x)->dA (cZ k l)=bB k 0++l:=by
 intro l
 induction l with
 |nil=>
  intro k _;have:=IR (dig k) 0 1 [] (fun x hx=>by rcases BZ k x hx with h|h<;>omega);rw[List.append_nil] at this;rw[cZ,dA,this,IS,PO];simp
 |cons x l ih=>
  intro k h;rw[cZ]
  by_cases hx:x=0
  ·rw[if_pos hx,ih (k+1) (fun y hy=>h y (by simp[hy])),hx];rw[List.replicate_succ',cF];rfl
  ·have hx0:=h x (by simp);rw[if_neg hx,dA,IR _ _ _ _ (fun y hy=>by rcases BZ k y hy with h|h<;>omega),CB (by omega),ih 0 (fun y hy=>h y (by simp[hy])),PO];simp
theorem IT:∀(l:List Int) (k:Nat),(cZ k l).length<=k+l.length/\(0<k+l.length->0<(cZ k l).length):=by
 intro l
 induction l with
 |nil=>intro k;simpa [cZ] using CA k
 |cons x l ih=>
  intro k;rw[cZ]
  by_cases hx:x=0
  ·rw[if_pos hx];have:=ih (k+1);rw[cR];omega
  ·rw[if_neg hx,aL,cR,cR];have h1:=(CA k).1;have h2:=(ih 0).1;omega
theorem aDx:∀(l:List Int) (k:Nat),(∀x∈l,0<=x)->∀y∈cZ k l,y=0\/y=1\/∃x∈l,y=x+1/\x≠0:=by
 intro l
 induction l with
 |nil=>intro k _ y hy;rcases BZ k y hy with h|h;exact .inl h;exact .inr (.inl h)
 |cons x l ih=>
  intro k h y hy;rw[cZ] at hy;have lift:∀k,y∈cZ k l->y=0\/y=1\/∃z∈x::l,y=z+1/\z≠0:=by
   intro k hy;rcases ih k (fun z hz=>h z (by simp[hz])) y hy with q|q|⟨z,hz,q⟩
   ·exact .inl q
   ·exact .inr (.inl q)
   ·exact .inr (.inr ⟨z,by simp[hz],q⟩)
  by_cases hx:x=0
  ·rw[if_pos hx] at hy;exact lift _ hy
  ·rw[if_neg hx,cU,kD] at hy;rcases hy with hy|rfl|hy
   ·rcases BZ k y hy with h|h
    ·exact .inl h
    ·exact .inr (.inl h)
   ·exact .inr (.inr ⟨x,by simp,rfl,hx⟩)
   ·exact lift _ hy
def aO (n:Nat) (at':Int) (k:Nat):Int:=if at'<0 then 1 else if 8*(n:Int)-(k:Int)<at' then 2 else 0
def aE (s:List UInt8) (at':Int) (k:Nat):Nat:=if aO s.length at' k=0 then bY (seg s at'.toNat k) else 0
theorem fQ {n:Nat} {at':Int} {k:Nat} (h:aO n at' k=0):0<=at'/\at'.toNat+k<=8*n/\at'+(k:Int)<=8*(n:Int):=by
 unfold aO at h;split at h
 ·omega
 ·split at h
  ·omega
  ·omega
theorem iA (s:List UInt8) (at':Int) (k:Nat):aE s at' k<2^k:=by
 unfold aE;split
 ·next h=>
  have:=fQ h;have h2:=qE (seg s at'.toNat k);rwa[vR this.2.1] at h2
 ·exact Nat.pow_pos (by decide)
def eQ (s:List UInt8) (k:Nat):List Bool:=(dG 16).map (fun i=>dB s (16*k+i))
theorem sR (s:List UInt8) (k:Nat):(eQ s k).length=16:=by simp[eQ]
def iT (s:List UInt8) (k:Nat):Bool:=(eQ s k).any id
theorem yD (l:List Bool):bY l=0↔l.any id=false:=by
 refine yA (P:=fun l=>bY l=0↔l.any id=false) (by decide) (fun l b ih=>?_) l;rw[rF,List.any_append]
 cases b
 ·simp only[Bool.toNat_false,List.any_cons,List.any_nil,id,Bool.or_false];rw[<-ih];omega
 ·simp
def nB (s:List UInt8):List Bool:=(dG 16).map (iT s)
def eX (s:List UInt8):Nat->List Bool
 |0=>[]
 |k+1=>eX s k++if iT s k then eQ s k else[]
def fZ (s:List UInt8):List Bool:=nB s++eX s 16
theorem CC (s:List UInt8):∀k,(eX s k).length<=16*k
 |0=>by simp[eX]
 |k+1=>by
  have:=CC s k;unfold eX;rw[aL];split
  ·rw[sR];omega
  ·simp;omega
theorem CD (s:List UInt8):(fZ s).length<=272:=by
 have:=CC s 16;unfold fZ nB;simp;omega
def jS (v k:Nat):Nat->List UInt8
 |0=>[]
 |i+1=>jS v k i++if v.testBit (15-i) then[eK (16*k+i)] else[]
def cJ (s:List UInt8) (at':Int):Nat->List UInt8×Int×Bool×Int
 |0=>([],at'+16,aE s at' 16==0,aO s.length at' 16)
 |k+1=>
  let p:=cJ s at' k
  if p.2.2.2≠0 then p
  else if(aE s at' 16).testBit (15-k) then
   if aO s.length p.2.1 16≠0 then(p.1,p.2.1,p.2.2.1,aO s.length p.2.1 16)
   else(p.1++jS (aE s p.2.1 16) k 16,p.2.1+16,p.2.2.1||aE s p.2.1 16==0,0)
  else p
def cG (s:List UInt8) (at':Int):List UInt8×Int×Int:=
 let p:=cJ s at' 16
 if p.2.2.2≠0 then([],0,p.2.2.2) else if p.2.2.1 then([],0,3) else(p.1,p.2.1,0)
theorem CE (v k:Nat):∀i,(jS v k i).length<=i
 |0=>by simp[jS]
 |i+1=>by
  have:=CE v k i;unfold jS;rw[aL];split<;>simp<;>omega
theorem yE (s:List UInt8) (at':Int):∀k,(cJ s at' k).1.length<=16*k/\((cJ s at' k).2.2.2=0->at'+16<=(cJ s at' k).2.1/\(cJ s at' k).2.1<=at'+16+16*k)
 |0=>⟨by simp[cJ],fun _=>by simp[cJ]⟩
 |k+1=>by
  obtain⟨h1,h2⟩:=yE s at' k;unfold cJ;simp only
  split
  ·next h=>exact⟨by omega,fun q=>absurd q h⟩
  ·next h=>
   have h:=h2 (dK.1 h);split
   ·split
    ·next h3=>exact⟨by show(cJ s at' k).1.length<=_;omega,fun q=>absurd q h3⟩
    ·have:=CE (aE s (cJ s at' k).2.1 16) k 16;refine⟨by rw[aL];omega,fun _=>?_⟩;show at'+16<=(cJ s at' k).2.1+16/\(cJ s at' k).2.1+16<=_;omega
   ·exact⟨by omega,fun _=>by omega⟩
end
section
open Go.RowKit Go
theorem IU (x j:Nat):x/2^j%2=(x.testBit j).toNat:=by
 rw[Nat.testBit_eq_decide_div_mod_eq];rcases FU (x/2^j) with h|h<;>rw[h]<;>rfl
theorem aD2 (x j:Nat):((x:Int)/2^j)%2=((x.testBit j).toNat:Int):=by
 have e:((2:Int)^j)=((2^j:Nat):Int):=by push_cast;rfl
 rw[e,<-Int.natCast_ediv,<-IU];omega
theorem yG (x j:Nat):(x:Int)/2^j=((x/2^j:Nat):Int):=by
 have e:((2:Int)^j)=((2^j:Nat):Int):=by push_cast;rfl
 rw[e,<-Int.natCast_ediv]
theorem yH (x j:Nat):((x:Int)/2^j).tmod 2=((x.testBit j).toNat:Int):=by
 rw[oJ (by rw[yG];exact Int.natCast_nonneg _),aD2]
theorem aD0:∀x:Fin 256,∀k:Fin 8,((x.val*2^k.val%256)&&&128)=if x.val.testBit (7-k.val) then 128 else 0:=by decide+kernel
theorem aD1 (x k:Nat) (hx:x<256) (hk:k<8):bits .and .u8 (pX.wrap ((x:Int)*2^k)) 128=if x.testBit (7-k) then 128 else 0:=by
 have e:((2:Int)^k)=((2^k:Nat):Int):=by push_cast;rfl
 have h:pX.wrap ((x:Int)*2^k)=((x*2^k%256:Nat):Int):=by
  rw[IntKind.wrap_u8',e,<-FN];omega
 rw[h,show(128:Int)=((128:Nat):Int) from rfl,u8_and_nat _ _ (jQ _ (by decide)) (by decide),aD0 ⟨x,hx⟩ ⟨k,hk⟩];split<;>rfl
theorem IV (v:Nat) (b:Bool) (h:2*v<18446744073709551616):bits .or .u64 (fU.wrap ((v:Int)*2)) (b.toNat:Int)=((2*v+b.toNat:Nat):Int):=by
 have h1:fU.wrap ((v:Int)*2)=((2*v:Nat):Int):=by rw[gF];omega
 have hb:b.toNat<2:=by cases b<;>decide
 rw[h1,u64_or_nat _ _ h (by omega),nat_join 1 (2*v) b.toNat (by omega) (by simpa using hb)]
end
section
open Go.RowKit
def bI (l:List Bool):List Int:=l.map (fun b=>(b.toNat:Int))
theorem cN (l:List Bool):(bI l).length=l.length:=bJ ..
theorem gB (l m:List Bool):bI (l++m)=bI l++bI m:=fI ..
theorem aD4 {l:List Bool} {k:Nat} {b:Bool} (h:l[k]? =some b):(bI l)[k]? =some (b.toNat:Int):=by simp[bI,h]
theorem aD5 (l:List Bool) (k:Nat):(bI l).take k=bI (l.take k):=List.map_take.symm
theorem aD6 (s:List UInt8) (k:Nat) (h:k<8*s.length):(kW s).take (k+1)=(kW s).take k++[dI s k]:=by
 rw[cQ,sP,if_pos h];rfl
theorem PP (v n k:Nat) (h:k<n):(aY v n).take (k+1)=(aY v n).take k++[v.testBit (n-1-k)]:=by
 rw[cQ,ID _ _ _ h];rfl
theorem PQ (s:ByteArray) (i:Nat) (w:World) (hi:i<8*s.size) (hs:s.size<=140737488355328):
  Calls Tryz.prog 51 #[.string s,.int .i64 (i:Int)] w fun e w'=>e=.returned (.int .i64 ((dI s.data.toList i).toNat:Int))/\w'=w:=by
 have hk:i/8<s.size:=by omega
 have e1:(i:Int).tdiv 8=((i/8:Nat):Int):=by rw[AJ (by omega)];omega
 have e2:(i:Int).tmod 8=((i%8:Nat):Int):=by rw[oJ (by omega)];omega
 have e3:aI.wrap (7-((i%8:Nat):Int))=((7-i%8:Nat):Int):=by rw[aM];omega
 have eb:=eW s (i/8) hk;have e4:=yH s[i/8].toNat (7-i%8);have e5:dI s.data.toList i=s[i/8].toNat.testBit (7-i%8):=by unfold dI;rw[aV,eb];rfl
 rw[e5];have hb:=s[i/8].toNat_lt;go_enter Tryz.func51,Tryz.ntmps51;go_wp2_with fail;go_ret;exact⟨rfl,rfl⟩
theorem aD7 (s:ByteArray) (w:World) (hs:s.size<=1000000):
  Calls Tryz.prog 37 #[.string s] w fun e w'=>∃v,e=.returned v/\OwI w' w.heap.size v (bI (kW s.data.toList))/\Below w.heap.size w w':=by
 have HL:=hid (show s.data.toList.length=s.size by simp);go_enter Tryz.func37,Tryz.ntmps37;go_wp2_with fail
 go_loopg [3,4] (8*s.size) (fun g s3 s4 wr=>∃k:Nat,k<=8*s.size/\g=8*s.size-k/\s4=.int .i64 k/\OwI wr w.heap.size s3 (bI ((kW s.data.toList).take k))/\Below w.heap.size w wr)
 case atStart=>exact⟨0,aU _,rfl,rfl,OwI.nil _ _,aB _ _⟩
 case round=>
  obtain⟨k,hk,hg,rfl,hown,hbel⟩:=hrel;have HG:=hid hg;clear hg;have m1:aI.wrap (8*(s.size:Int))=8*(s.size:Int):=by rw[aM];omega
  by_cases hlt:k<8*s.size
  ·have t1:decide ((k:Int)<8*(s.size:Int))=true:=decide_eq_true (by omega);have hlen:(bI ((kW s.data.toList).take k)).length=k:=by rw[cN,aX,xZ,HL.out];omega
   have hbs:=hbel.size;have HS:=hid (aD6 s.data.toList k (by rw[HL.out];exact hlt));go_wp2_with fail;refine(PQ s k _ hlt (by omega)).mono ?_;rintro e w1 ⟨rfl,rfl⟩;go_wp2_with (at_builtin;refine eN rfl _ _ rfl w.heap.size _ _ rfl (hown.alloc _) w1.heap.size ((dI s.data.toList k).toNat:Int) rfl ?_ ?_ ?_ ?_;(exact bS _ _ _);(rw[hlen];omega);(simp;omega);intro v' w1 hown' hB hgrow);have hg:=HG.out
   go_roundg (8*s.size-(k+1))
   case measure=>omega
   case rel=>
    refine⟨k+1,by omega,rfl,by go_num,?_,(hbel.alloc hbel.size _).trans hB⟩;rw[HS.out,gB];exact hown'
  ·have t1:decide ((k:Int)<8*(s.size:Int))=false:=decide_eq_false (by omega);go_wp2_with fail;go_ret;refine⟨_,rfl,?_,hbel⟩;rw[cS (by rw[xZ,HL.out];omega)] at hown;exact hown
theorem uF (v n:Nat) (w:World) (_hv:v<18446744073709551616) (hn:n<=64):
  Calls Tryz.prog 41 #[.int .u64 (v:Int),.int .i64 (n:Int)] w fun e w'=>∃u,e=.returned u/\OwI w' w.heap.size u (bI (aY v n))/\Below w.heap.size w w':=by
 go_enter Tryz.func41,Tryz.ntmps41;go_wp2_with fail;have m1:aI.wrap ((n:Int)-1)=(n:Int)-1:=by rw[aM];omega
 go_loopg [5,6] n (fun g s5 s6 wr=>∃k:Nat,k<=n/\g=n-k/\s6=.int .i64 ((n:Int)-1-(k:Int))/\OwI wr w.heap.size s5 (bI ((aY v n).take k))/\Below w.heap.size w wr)
 case atStart=>exact⟨0,aU _,rfl,by go_num,OwI.nil _ _,aB _ _⟩
 case round=>
  obtain⟨k,hk,hg,rfl,hown,hbel⟩:=hrel;have HG:=hid hg;clear hg
  by_cases hlt:k<n
  ·have t1:decide ((n:Int)-1-(k:Int)>=0)=true:=decide_eq_true (by omega);have t2:decide (0<=(n:Int)-1-(k:Int))=true:=decide_eq_true (by omega);obtain⟨j,hj⟩:∃j:Nat,j=n-1-k:=⟨_,rfl⟩;have ej:(n:Int)-1-(k:Int)=(j:Int):=by omega
   have hlen:(bI ((aY v n).take k)).length=k:=by rw[cN,aX,cY];omega
   have hbs:=hbel.size;have HS:=hid (PP v n k hlt);have e4:=yH v j;have eb:((v.testBit j).toNat:Int)<2:=by cases v.testBit j<;>decide
   have e6:wrap64 ((v.testBit j).toNat:Int)=((v.testBit j).toNat:Int):=by unfold wrap64;omega
   rw[ej];have e7:min j 64=j:=by omega
   have HJ:=hid hj;clear hj ej;go_wp2_with (at_builtin;refine eN rfl _ _ rfl w.heap.size _ _ rfl (hown.alloc _) wr.heap.size ((v.testBit j).toNat:Int) rfl ?_ ?_ ?_ ?_;(exact bS _ _ _);(rw[hlen];omega);(simp;omega);intro v' w1 hown' hB hgrow);have hg:=HG.out
   go_roundg (n-(k+1))
   case measure=>omega
   case rel=>
    have hj:=HJ.out;refine⟨k+1,by omega,rfl,by go_num,?_,(hbel.alloc hbel.size _).trans hB⟩;rw[HS.out,gB,<-hj];exact hown'
  ·have t1:decide ((n:Int)-1-(k:Int)>=0)=false:=decide_eq_false (by omega);have t2:decide (0<=(n:Int)-1-(k:Int))=false:=decide_eq_false (by omega);go_wp2_with fail;go_ret;refine⟨_,rfl,?_,hbel⟩;rw[cS (by rw[cY];omega)] at hown;exact hown
theorem PR {s:List UInt8} {a k:Nat} (h:a+k<8*s.length):seg s a (k+1)=seg s a k++[dI s (a+k)]:=by
 unfold seg;rw[cQ]
 congr 1
 rw[gR,sP,if_pos h];rfl
theorem PS (s:List UInt8) (a:Nat):seg s a 0=[]:=by simp[seg]
def sS (b:Bool):Nat:=if b then 128 else 0
theorem IW (s:ByteArray) (i:Nat) (w:World) (hi:i<8*s.size) (hs:s.size<=140737488355328):
  Calls Tryz.prog 101 #[.string s,.int .i64 (i:Int)] w fun e w'=>e=.returned (.int .u8 (sS (dI s.data.toList i):Nat))/\w'=w:=by
 have hk:i/8<s.size:=by omega
 have e1:(i:Int).tdiv 8=((i/8:Nat):Int):=by rw[AJ (by omega)];omega
 have e2:(i:Int).tmod 8=((i%8:Nat):Int):=by rw[oJ (by omega)];omega
 have eb:=eW s (i/8) hk;have hb:=s[i/8].toNat_lt;have hk8:i%8<8:=jQ _ (by decide);have e4:=aD1 s[i/8].toNat (i%8) hb hk8;have e5:dI s.data.toList i=s[i/8].toNat.testBit (7-i%8):=by unfold dI;rw[aV,eb];rfl
 have e6:((sS (dI s.data.toList i):Nat):Int)=if s[i/8].toNat.testBit (7-i%8)=true then 128 else 0:=by rw[e5];unfold sS;split<;>rfl
 rw[xQ,<-e6] at e4;clear e5 e6 eb;generalize sS (dI s.data.toList i)=t at*
 obtain⟨k,hkk⟩:∃k,k=i%8:=⟨_,rfl⟩;rw[<-hkk] at e2 e4 hk8;clear hkk;have e7:min k 8=k:=by omega
 go_enter Tryz.func101,Tryz.ntmps101;go_wp2_with fail;go_ret;exact⟨rfl,rfl⟩
theorem sT (s:ByteArray) (p:Int) (n:Nat) (w:World) (hs:s.size<=1000000) (hn:n<=64) (hp1: -9223372036854775808<=p) (hp2:p<=9223372036854775807):
  Calls Tryz.prog 92 #[.string s,.int .i64 p,.int .i64 (n:Int)] w fun e w'=>e=.returned (.tuple #[.int .u64 (aE s.data.toList p n:Nat),.int .i64 (aO s.size p n)])/\w'=w:=by
 have hL:s.data.toList.length=s.size:=by simp
 have n1:decide ((n:Int)<0)=false:=decide_eq_false (by omega);have n2:decide ((n:Int)>64)=false:=decide_eq_false (by omega);have n3:decide (64<(n:Int))=false:=decide_eq_false (by omega);have m1:aI.wrap (8*(s.size:Int))=8*(s.size:Int):=by rw[aM];omega
 have m2:aI.wrap (8*(s.size:Int)-(n:Int))=8*(s.size:Int)-(n:Int):=by rw[aM];omega
 by_cases h0:p<0
 ·have e1:aO s.size p n=1:=by unfold aO;rw[if_pos h0]
  have e2:aE s.data.toList p n=0:=by unfold aE;rw[hL,e1,if_neg (by decide)]
  rw[e1,e2];have t1:decide (p<0)=true:=decide_eq_true h0;clear hL e1 e2;go_enter Tryz.func92,Tryz.ntmps92;go_wp2_with fail
  go_ret2
  exact⟨rfl,rfl⟩
 ·have t1:decide (p<0)=false:=decide_eq_false h0
  by_cases h1:8*(s.size:Int)-(n:Int)<p
  ·have e1:aO s.size p n=2:=by unfold aO;rw[if_neg h0,if_pos h1]
   have e2:aE s.data.toList p n=0:=by unfold aE;rw[hL,e1,if_neg (by decide)]
   rw[e1,e2];have t2:decide (8*(s.size:Int)-(n:Int)<p)=true:=decide_eq_true h1;have t3:decide (p>8*(s.size:Int)-(n:Int))=true:=decide_eq_true h1;clear hL e1 e2;go_enter Tryz.func92,Tryz.ntmps92;go_wp2_with fail
   go_ret2
   exact⟨rfl,rfl⟩
  ·have e1:aO s.size p n=0:=by unfold aO;rw[if_neg h0,if_neg h1]
   obtain⟨a,rfl⟩:∃a:Nat,p=(a:Int):=⟨p.toNat,by omega⟩;have hin:a+n<=8*s.size:=by omega
   have e2:aE s.data.toList (a:Int) n=bY (seg s.data.toList a n):=by unfold aE;rw[hL,e1,if_pos rfl,eG]
   rw[e1,e2];have t2:decide (8*(s.size:Int)-(n:Int)<(a:Int))=false:=decide_eq_false h1;have t3:decide ((a:Int)>8*(s.size:Int)-(n:Int))=false:=decide_eq_false h1;have HL:=hid hL;clear hL e1 e2 h1;go_enter Tryz.func92,Tryz.ntmps92;go_wp2_with fail
   go_loopg [6,8,29] n (fun g s8 _s x9 wr=>∃k v:Nat,k<=n/\g=n-k/\x9=.int .i64 (k:Int)/\s8=.int .u64 (v:Int)/\v=bY (seg s.data.toList a k)/\wr=w)
   case atStart=>exact⟨0,0,by omega,rfl,rfl,rfl,by rw[PS];rfl,rfl⟩
   case round=>
    obtain⟨k,v,hk,hg,rfl,rfl,hv,rfl⟩:=hrel;have HG:=hid hg;clear hg
    by_cases hlt:k<n
    ·have t4:decide ((k:Int)<(n:Int))=true:=decide_eq_true (by omega);have hvl:=qE (seg s.data.toList a k);rw[vR (by rw[HL.out];omega),<-hv] at hvl;have h2:2^k<=2^63:=jC (by decide) (by omega);have h63:(2:Nat)^63=9223372036854775808:=by decide
     rw[h63] at h2;have hv63:v<9223372036854775808:=by omega
     clear h63 h2 hvl;have hsg:=PR (s:=s.data.toList) (a:=a) (k:=k) (by rw[HL.out];omega);obtain⟨q,hq⟩:∃q:Nat,q=a+k:=⟨_,rfl⟩;obtain⟨b,hb⟩:∃b:Nat,b=(dI s.data.toList q).toNat:=⟨_,rfl⟩;have hb2:b<2:=by rw[hb];cases dI s.data.toList q<;>decide
     have HV:=hid (show 2*v+b=bY (seg s.data.toList a (k+1)) by rw[hsg,rF,<-hv,<-hq,<-hb]);have hq8:q<8*s.size:=by omega
     have m3:aI.wrap ((a:Int)+(k:Int))=(q:Int):=by rw[aM];omega
     obtain⟨d,hd⟩:∃d:Nat,d=2*v:=⟨_,rfl⟩;have m4:fU.wrap ((v:Int)*2)=(d:Int):=by rw[gF];omega
     have m5:fU.wrap (b:Int)=(b:Int):=by rw[gF];omega
     obtain⟨t,ht⟩:∃t:Nat,t=sS (dI s.data.toList q):=⟨_,rfl⟩;have m7:(t:Int)/128=(b:Int):=by rw[ht,hb];cases dI s.data.toList q<;>rfl
     have HT:=hid ht;obtain⟨v2,hv2⟩:∃v2:Nat,v2=d+b:=⟨_,rfl⟩;have m6:bits .or .u64 (d:Int) (b:Int)=(v2:Int):=by
      have:=IV v (dI s.data.toList q) (by omega);rw[m4,<-hb] at this;rw[this,hv2,hd]
     have HV2:=hid (show v2=bY (seg s.data.toList a (k+1)) by rw[<-HV.out,hv2,hd]);clear hsg hv hq hb hd hv2 hv63 ht;go_wp2_with fail;refine(IW s q _ hq8 (by omega)).mono ?_;rintro e w1 ⟨rfl,rfl⟩;rw[<-HT.out];go_wp2_with fail;have hg:=HG.out
     go_roundg (n-(k+1))
     case measure=>omega
     case rel=>exact⟨k+1,v2,by omega,rfl,by go_num,rfl,HV2.out,rfl⟩
    ·have t4:decide ((k:Int)<(n:Int))=false:=decide_eq_false (by omega);have hkn:k=n:=by omega
     have HV:=hid (show(v:Int)=((bY (seg s.data.toList a n):Nat):Int) by rw[hv,hkn]);clear hv hkn;go_wp2_with fail
     go_ret2
     exact⟨by rw[HV.out];rfl,rfl⟩
def qG (l:List Bool):Nat->Nat
 |0=>0
 |k+1=>2*qG l k+(l.getD k false).toNat
theorem PT (l:List Bool):∀k,qG l k<2^k
 |0=>by simp[qG]
 |k+1=>by
  have:=PT l k;have hb:(l.getD k false).toNat<2:=by cases l.getD k false<;>decide
  unfold qG;rw[nQ];omega
theorem aD8 (l:List Bool):qG l 8=tZ l:=rfl
theorem aD9 (l:List Bool) (j:Nat) (h:j<(l.length+7)/8):(aD l).take (j+1)=(aD l).take j++[uA (l.drop (8*j))]:=by
 rw[cQ]
 congr 1
 unfold aD;rw[dY,pF h];rfl
theorem IX {ops:Array Oper} {rest:List Oper} {o:Oper} {a:Act} {Q:Exit->Act->World->Prop} {w:World} (hgd:o.guard=none) (s x:iM)
  (ho:o.op=.call {callee:=.builtin .append,args:=#[s,x],argTypes:=#[47,47]}) (base:Nat) (v:Value) (l:List UInt8) (hs:a.eval s=v) (hown:OwB w base v l)
  (g:Nat) (b:UInt8) (hx:a.eval x=.slice (some ⟨g,0,none⟩) 1 1) (hc:w.cell? ⟨g,0,none⟩=some (.int .u8 (b.toNat:Int))) (hroom:(l.length+1)*1<=140737488355328) (hbase:base<=w.heap.size)
  (h:∀v' w',OwB w' base v' (l++[b])->Below base w w'->w.grownBy w' v.ownBlock->wpList Tryz.prog ops Q rest (a.put o.dst v') w'):wpList Tryz.prog ops Q (o::rest) a w:=
 rD vQ hgd s x ho base v _ hs hown g _ hx hc rfl (by simpa using hroom) hbase (fun v' w' q1 q2 q3=>h v' w' (by unfold OwB;rw[IC];exact q1) q2 q3)
theorem mF:(Tryz.prog.info? 82).map (·.size)=some 2:=by kernel_rfl
theorem uG (v:Value) (l:List Bool) (w:World) (hr:RdI w v (bI l)) (hl:l.length<=1000000):
  Calls Tryz.prog 43 #[v] w fun e w'=>e=.returned (.agg #[.string (mkS (aD l)),.int .i64 (l.length:Int)])/\Below w.heap.size w w':=by
 obtain⟨a,ca,rfl,hca,hma,hA⟩:=hr.open;rw[cN] at hca hA;simp only[cN];unfold maxLen at hma;clear hr;have HA:=hid hA;clear hA;go_enter Tryz.func43,Tryz.ntmps43;go_wp2_with fail;have hR:=Arr.new w 82 [.string {data:=#[]},.int .i64 0];have hB0:Below w.heap.size w (w.alloc (.cells #[.string {data:=#[]},.int .i64 0] 82)):=bD (aB _ _) _;change Arr (w.alloc (.cells #[.string {data:=#[]},.int .i64 0] 82)) _ _ _ at hR;generalize w.alloc (.cells #[.string {data:=#[]},.int .i64 0] 82)=w0 at*
 go_loopg [3,4,5,6] ((l.length+7)/8) (fun g s3 s4 _s5 _s6 wr=>∃j i:Nat,i=8*j/\j<=(l.length+7)/8/\g=(l.length+7)/8-j/\s4=.int .i64 (i:Int)/\OwB wr (w.heap.size+1) s3 ((aD l).take j)/\Arr wr w.heap.size 82 [.string {data:=#[]},.int .i64 0]/\Below w.heap.size w wr)
 case atStart=>exact⟨0,0,rfl,aU _,rfl,rfl,Ow.nil _ _ _,hR,hB0⟩
 case round=>
  obtain⟨j,i,hi,hj,hg,rfl,hown,hres,hbel⟩:=hrel;have HG:=hid hg;clear hg;have hbs:=hbel.size;have hrl:=hres.lt;have hlen:((aD l).take j).length=j:=by rw[aX,gY];omega
  have HS:=hid (aD9 l j);obtain⟨L,hL⟩:∃L,L=l.drop i:=⟨_,rfl⟩;have HL:=hid hL;have HI:=hid hi;have HLEN:=hid hlen
  by_cases hlt:i<l.length
  ·have t1:decide ((i:Int)<(l.length:Int))=true:=decide_eq_true (by omega);clear hL hi hlen;go_wp2_with fail
   go_loopg [5,6] 8 (fun g s5 s6 wx=>∃k n:Nat,n=qG L k/\k<=8/\g=8-k/\s6=.int .i64 (k:Int)/\s5=.int .i64 (n:Int)/\wx=wr)
   case atStart=>exact⟨0,0,rfl,by omega,rfl,rfl,rfl,rfl⟩
   case round=>
    obtain⟨k,n,hn,hk,hg2,rfl,rfl,rfl⟩:=hrel;have HG2:=hid hg2;clear hg2;have hlt2:=PT L k;rw[<-hn] at hlt2;have hp:2^k<=256:=Nat.le_trans (jC (by decide) hk) (by decide);have hn256:n<256:=by omega
    have HN:=hid hn;clear hn hlt2 hp
    by_cases hk8:k<8
    ·have t2:decide ((k:Int)<8)=true:=decide_eq_true (by omega);obtain⟨d,hd⟩:∃d:Nat,d=2*n:=⟨_,rfl⟩;obtain⟨q,hq⟩:∃q:Nat,q=i+k:=⟨_,rfl⟩;have hqb:q<2000000:=by omega
     have hs:=hid (show qG L (k+1)=2*qG L k+(L.getD k false).toNat from rfl)
     by_cases hin:q<l.length
     ·have t3:decide ((q:Int)<(l.length:Int))=true:=decide_eq_true (by omega);obtain⟨b1,o1,rfl,hb1,hc1⟩:=HA.out (by omega);have hgb:(bI l)[q]? =some ((L.getD k false).toNat:Int):=by
       refine aD4 ?_;rw[HL.out,aV,gR,<-hq,aN hin];rfl
      have c1:wr.cell? ⟨b1,o1+q,none⟩=some (.int .i64 ((L.getD k false).toNat:Int)):=by rw[hbel.cell (p:=⟨b1,o1+q,none⟩) hb1];exact hc1 _ _ hgb
      obtain⟨bt,hbt⟩:∃bt:Nat,bt=(L.getD k false).toNat:=⟨_,rfl⟩;have hb2:bt<2:=by rw[hbt];cases L.getD k false<;>decide
      rw[<-hbt] at c1;obtain⟨n2,hn2⟩:∃n2:Nat,n2=d+bt:=⟨_,rfl⟩;have m1:aI.wrap (2*(n:Int))=(d:Int):=by rw[aM];omega
      have m2:aI.wrap ((i:Int)+(k:Int))=(q:Int):=by rw[aM];omega
      have m3:aI.wrap ((d:Int)+(bt:Int))=(n2:Int):=by rw[aM];omega
      have HE:=hid (show n2=qG L (k+1) by rw[hs.out,<-HN.out,<-hbt,hn2,hd]);clear hc1 hgb hbt hn2 hd hq;go_wp2_with fail;have hg2:=HG2.out
      go_roundg (8-(k+1))
      case measure=>omega
      case rel=>exact⟨k+1,n2,HE.out,by omega,rfl,by go_num,rfl,rfl⟩
     ·have t3:decide ((q:Int)<(l.length:Int))=false:=decide_eq_false (by omega);have HE:=hid (show d=qG L (k+1) by
       rw[hs.out,<-HN.out,HL.out,aV,gR,<-hq,dL (by omega),hd];rfl)
      have m1:aI.wrap (2*(n:Int))=(d:Int):=by rw[aM];omega
      have m2:aI.wrap ((i:Int)+(k:Int))=(q:Int):=by rw[aM];omega
      clear hd hq;go_wp2_with fail;have hg2:=HG2.out
      go_roundg (8-(k+1))
      case measure=>omega
      case rel=>exact⟨k+1,d,HE.out,by omega,rfl,by go_num,rfl,rfl⟩
    ·have t2:decide ((k:Int)<8)=false:=decide_eq_false (by omega);have m4:pX.wrap (n:Int)=(n:Int):=by rw[xQ];omega
     have hv:uA (l.drop (8*j))=eK n:=by
      unfold uA;rw[<-HI.out,<-HL.out,<-aD8,<-show k=8 by omega,<-HN.out]
     have e1:((eK n).toNat:Int)=(n:Int):=by rw[nP,Nat.mod_eq_of_lt (by omega)]
     have HV:=hid hv;clear hv;go_wp2_with (at_builtin;refine IX rfl _ _ rfl (w.heap.size+1) _ _ rfl (Ow.alloc hown _) wr.heap.size (eK n) rfl ?_ ?_ ?_ ?_;(rw[e1];exact bS _ _ _);(rw[HLEN.out];omega);(simp;omega);intro v' w3 hown' hB hgrow);have hg:=HG.out;have hi:=HI.out
     go_roundg ((l.length+7)/8-(j+1))
     case measure=>omega
     case rel=>
      refine⟨j+1,i+8,by omega,by omega,rfl,by go_num,?_,(hres.alloc _).below hB (Nat.lt_succ_self _),(bD hbel _).trans (hB.mono (by omega))⟩;rw[HS.out (by omega),HV.out];exact hown'
  ·have t1:decide ((i:Int)<(l.length:Int))=false:=decide_eq_false (by omega);have hall:(aD l).take j=aD l:=cS (by rw[gY];omega);rw[hall] at hown;clear hall hlen hL hi;have hcv:=lQ hown.rd;have r0:=hres.free 0;have r1:=hres.free 1;have r2:=hres.cell (i:=0) rfl;have r3:=hres.cell (i:=1) rfl;go_wp2_with fail;refine bodyPost_ret (results_cell_row rfl _ _ w.heap.size _ _ (0,0) _ rfl ((hres.set 0 _).set 1 _) Tryz.underlying82 rfl mF) rfl ?_
   exact⟨rfl,(hbel.setCell (p:=⟨w.heap.size,0,none⟩) (aA _) _).setCell (p:=⟨w.heap.size,1,none⟩) (aA _) _⟩
def WrS (w:World) (p B:Nat) (l:List Bool):Prop:=∃v,Arr w p 999983 [v,.int .i64 (l.length:Int)]/\OwB w B v (aD l)
theorem OwB.open {w:World} {B:Nat} {v:Value} {l:List UInt8} (h:OwB w B v l):∃a c,v=.slice a l.length c/\l.length<=c/\c<=maxLen:=by
 have h2:=h.rd;obtain⟨a,c,e,h1,h3,_⟩:=h2;exact⟨a,c,e,h1,h3⟩
theorem OwB.setLow {w:World} {B:Nat} {v:Value} {l:List UInt8} (h:OwB w B v l) {p:Addr} (hp:p.block<B) (x:Value):OwB (w.setCell p x) B v l:=by
 refine⟨h.1,?_⟩;rcases h.2 with hn|⟨g,cap,cur,rfl,h1,hg,rest⟩
 ·exact .inl hn
 ·refine .inr ⟨g,cap,cur,rfl,h1,?_,rest⟩;rw[heap_setCell_other w p g x (fun e=>by omega)];exact hg
theorem OwB.openN {w:World} {B:Nat} {v:Value} {l:List UInt8} (h:OwB w B v l):∃a n c,v=.slice a n c/\Hid (n=l.length)/\n<=c/\c<=maxLen:=by
 obtain⟨a,c,e,h1,h2⟩:=h.open;exact⟨a,l.length,c,e,hid rfl,h1,h2⟩
end
section
open Go.RowKit Go
theorem IY (v j:Nat) (hv:v<18446744073709551616):bits .and .u64 ((v:Int)/2^j) 1=((v.testBit j).toNat:Int):=by
 rw[yG,show(1:Int)=((1:Nat):Int) from rfl,u64_and_nat _ _ (Nat.lt_of_le_of_lt (Nat.div_le_self _ _) hv) (by decide),nat_mask1,IU]
theorem IZ {x:Int} (h1: -9223372036854775808<=x) (h2:x<=9223372036854775807):wrap64 x=x:=by unfold wrap64;omega
theorem WrS.below {w w':World} {p B:Nat} {l:List Bool} (h:WrS w p B l) (hb:Below w.heap.size w w'):WrS w' p B l:=by
 obtain⟨v,hA,ho⟩:=h;exact⟨v,hA.below hb hA.lt,Ow.below ho hb (aA _)⟩
theorem WrS.alloc {w:World} {p B:Nat} {l:List Bool} (h:WrS w p B l) (o:Obj):WrS (w.alloc o) p B l:=by
 obtain⟨v,hA,ho⟩:=h;exact⟨v,hA.alloc o,Ow.alloc ho o⟩
theorem WrS.lt {w:World} {p B:Nat} {l:List Bool} (h:WrS w p B l):p<w.heap.size:=by
 obtain⟨v,hA,_⟩:=h;exact hA.lt
end
section
open Go.RowKit Go Go.Shelf
def eL (l:List Bool):Value:=.agg #[.string (mkS (aD l)),.int .i64 (l.length:Int)]
theorem qH {P:Program} {fn:Func} {p u:Tmp} {ty:TypeId} (h:fn.results=#[.cell p ty,.tmp u]) (tmps:Array Value) (w:World) (g:Nat) (t:TypeId) (cs:Array Value) (fr:Nat×Nat) (d:TypeDesc)
  (hp:tmps.getD p undef=.pointer (some ⟨g,0,none⟩)) (hg:w.heap[g]? =some (.cells cs t fr))
  (hu:P.underlying ty=some d) (hd:(match d with|.struct _|.array _ _=>true|_=>false)=true) (hi:(P.info? ty).map (·.size)=some cs.size):
  (results fn tmps).run P w=.ok (.tuple #[.agg cs,tmps.getD u undef]) w:=by
 rw[results_cell_tmp h,hp];simp[asAddr,jB,run_loadVar_row w g t ty cs fr d hg hu hd hi]
def qI (w:World) (v:Value) (ls:List (List Bool)):Prop:=
 ∃a cap,v=.slice a ls.length cap/\ls.length<=cap/\cap<=maxLen/\
  (0<ls.length->∃b off,a=some ⟨b,off,none⟩/\b<w.heap.size/\∀j l,ls[j]? =some l->w.cell? ⟨b,off+j*2,none⟩=some (.string (mkS (aD l)))/\w.cell? ⟨b,off+j*2+1,none⟩=some (.int .i64 (l.length:Int)))
theorem qI.below {w w':World} {v:Value} {l:List (List Bool)} (h:qI w v l) (hb:Below w.heap.size w w'):qI w' v l:=by
 obtain⟨a,cap,rfl,h1,h2,h3⟩:=h;refine⟨a,cap,rfl,h1,h2,fun h=>?_⟩;obtain⟨b,off,rfl,hlt,hc⟩:=h3 h;exact⟨b,off,rfl,Nat.lt_of_lt_of_le hlt hb.size,fun j p hp=>by rw[(lP hb).1 _ _ hlt,(lP hb).1 _ _ hlt];exact hc j p hp⟩
theorem kG {ops:Array Oper} {rest:List Oper} {o:Oper} {a:Act} {Q:Exit->Act->World->Prop} {w:World} (hgd:o.guard=none) (s x:iM)
  (ho:o.op=.call {callee:=.builtin .append,args:=#[s,x],argTypes:=#[57,57]}) (base:Nat) (v:Value) (l m:List Int) (hs:a.eval s=v) (hown:OwI w base v l)
  (u:Value) (hx:a.eval x=u) (hr:RdI w u m) (hm:0<m.length) (hroom:(l.length+m.length)*8<=140737488355328) (hbase:base<=w.heap.size)
  (h:∀v' w',OwI w' base v' (l++m)->Below base w w'->w.grownBy w' v.ownBlock->(v'.ownBlock=v.ownBlock\/v'.ownBlock=some w.heap.size)->wpList Tryz.prog ops Q rest (a.put o.dst v') w'):wpList Tryz.prog ops Q (o::rest) a w:=by
 obtain⟨i,hi,hz,h2,h3⟩:=gL.info;obtain⟨ad,c,rfl,hc1,hc2,hA⟩:=hr.open;obtain⟨b,off,rfl,hb,hcell⟩:=hA hm;refine wpList_append_own_at w hgd s x 57 ho base 3 i (.int .i64 0) 1 8 Tryz.underlying57 hi hz h2 h3 rfl (by decide) v (l.map (bO .i64)).length (l.map (bO .i64)) hs hown ⟨b,off,none⟩ m.length c (m.map (bO .i64)) hx (by simp)
  (fun j u' hj=>?_) (fun u' hu=>?_) (by simp only[maxLen,bJ];omega) (by simpa using hroom) hbase (fun v' w' q1 q2 _ q4=>h v' w' ?_ (rC hown q2 hbase) q2 q4)
 ·rw[dY] at hj
  cases e:m[j]? with
  |none=>rw[e] at hj;simp at hj
  |some y=>
   rw[e] at hj;simp at hj;rw[show(⟨b,off,none⟩:Addr).add j=⟨b,off+j,none⟩ by unfold Addr.add;split<;>simp_all,hcell j y e,<-hj]
 ·obtain⟨y,_,rfl⟩:=dU.1 hu;rfl
 ·unfold OwI Ow;rw[fI,aL]
  simpa using q1
def kH (l:List Bool):List Value:=[.string (mkS (aD l)),.int .i64 (l.length:Int)]
def gG (w:World) (B:Nat) (v:Value) (ls:List (List Bool)):Prop:=w.ownsRow B 82 2 v ls.length (ls.flatMap kH)
theorem gG.nil (w:World) (B:Nat):gG w B (.slice none 0 0) []:=World.ownsRow_nil _ _ _ _
theorem gG.alloc {w:World} {B:Nat} {v:Value} {l:List (List Bool)} (h:gG w B v l) (o:Obj):gG (w.alloc o) B v l:=aBy h o
theorem gG.below {w w':World} {B C:Nat} {v:Value} {l:List (List Bool)} (h:gG w B v l) (hb:Below C w w') (hC:w.heap.size<=C):gG w' B v l:=GZ h hb hC
theorem gG.base {w:World} {B B':Nat} {v:Value} {l:List (List Bool)} (h:gG w B v l) (hb:B'<=B):gG w B' v l:=IA h hb
theorem PX:∀(ls:List (List Bool)) (j:Nat) (l:List Bool),ls[j]? =some l->(ls.flatMap kH)[j*2]? =some (.string (mkS (aD l)))/\(ls.flatMap kH)[j*2+1]? =some (.int .i64 (l.length:Int))
 |[],j,l,h=>by simp at h
 |x::ls,0,l,h=>by
  simp at h;subst h;exact⟨rfl,rfl⟩
 |x::ls,j+1,l,h=>by
  have ih:=PX ls j l (by simpa using h);rw[List.flatMap_cons,show(j+1)*2=j*2+2 by omega];exact⟨by rw[<-ih.1];rfl,by rw[<-ih.2];rfl⟩
theorem gG.rd {w:World} {B:Nat} {v:Value} {ls:List (List Bool)} (h:gG w B v ls):qI w v ls:=by
 obtain⟨hl,h⟩:=h;rcases h with⟨rfl,h0⟩|⟨g,cap,cur,rfl,hb,hg,hnc,hcm,hcs,ht⟩
 ·have:ls=[]:=List.length_eq_zero_iff.1 h0;subst this;exact⟨none,0,rfl,aA _,by simp[maxLen],fun h=>absurd h (by simp)⟩
 ·refine⟨_,cap,rfl,hnc,hcm,fun _=>⟨g,0,rfl,(Array.getElem?_eq_some_iff.1 hg).1,fun j l hj=>?_⟩⟩;obtain⟨e1,e2⟩:=PX ls j l hj;have hjl:=(List.getElem?_eq_some_iff.1 hj).1;rw[Nat.zero_add,cell_of_row w g (j*2) cur _ (0,0) hg,cell_of_row w g (j*2+1) cur _ (0,0) hg];rw[<-ht,List.getElem?_take,if_pos (by omega)] at e1 e2;exact⟨by simpa using e1,by simpa using e2⟩
end
section
def jU (now x:Int):List Bool:=(bB (x-now).toNat [true,false]).flatten++(bB (now-x).toNat [true,true]).flatten++[false]
def eI (now:Int):List Int->List Bool
 |[]=>[]
 |x::l=>jU now x++eI x l
theorem CY (x:Int):∀(l:List Int) (now:Int),eI now (l++[x])=eI now l++jU (l.getLastD now) x
 |[],now=>by simp[eI]
 |y::l,now=>by
  show jU now y++eI y (l++[x])=(jU now y++eI y l)++_;rw[CY x l y,cF]
  congr 3
  cases l<;>rfl
def dW (l:List Int):List Bool:=aY (l.getD 0 0).toNat 5++eI (l.getD 0 0) l
theorem aHk (now x:Int) (h1:1<=now) (h2:now<=20) (h3:1<=x) (h4:x<=20):(jU now x).length<=39:=by
 unfold jU;simp only[aL,List.length_flatten,List.map_replicate,List.sum_replicate_nat,cR,List.length_nil];omega
theorem CZ:∀(l:List Int) (now:Int),1<=now->now<=20->(∀x∈l,1<=x/\x<=20)->(eI now l).length<=39*l.length
 |[],_,_,_,_=>by simp[eI]
 |x::l,now,h1,h2,h=>by
  have hx:=h x (List.mem_cons_self ..);have:=CZ l x hx.1 hx.2 (fun y hy=>h y (jD _ hy));have:=aHk now x h1 h2 hx.1 hx.2;unfold eI;rw[aL,cR];omega
def iB (s:List UInt8):Nat->Int->Int->Int×Int×Int
 |0,_,_=>(0,0,2)
 |f+1,at',n=>
  if aO s.length at' 1≠0 then(0,0,aO s.length at' 1)
  else if aE s at' 1=0 then(n,at'+1,0)
  else if aO s.length (at'+1) 1≠0 then(0,0,aO s.length (at'+1) 1)
  else
   let m:=if aE s (at'+1) 1=0 then n+1 else n-1
   if m<1\/20<m then(0,0,3) else iB s f (at'+2) m
def eD (s:List UInt8) (at' n:Int):Int×Int×Int:=iB s (8*s.length+2) at' n
theorem JX (s:List UInt8):∀(f g:Nat) (at' n:Int),0<=at'->8*(s.length:Int)+1-at'<=f->8*(s.length:Int)+1-at'<=g->1<=f->1<=g->iB s f at' n=iB s g at' n
 |0,_,_,_,_,_,_,h,_=>by omega
 |_,0,_,_,_,_,_,_,h=>by omega
 |f+1,g+1,at',n,h0,hf,hg,_,_=>by
  unfold iB;split
  ·rfl
  ·next h1=>
   have h1:=fQ (dK.1 h1);split
   ·rfl
   ·split
    ·rfl
    ·next h2=>
     have h2:=fQ (dK.1 h2);simp only
     generalize (if aE s (at'+1) 1=0 then n+1 else n-1)=m
     by_cases hm:m<1\/20<m
     ·rw[if_pos hm,if_pos hm]
     ·rw[if_neg hm,if_neg hm];exact JX s f g _ _ (by omega) (by omega) (by omega) (by omega) (by omega)
theorem wF (s:List UInt8) (at' n:Int) (h0:0<=at'):eD s at' n=
  if aO s.length at' 1≠0 then(0,0,aO s.length at' 1)
  else if aE s at' 1=0 then(n,at'+1,0)
  else if aO s.length (at'+1) 1≠0 then(0,0,aO s.length (at'+1) 1)
  else if(if aE s (at'+1) 1=0 then n+1 else n-1)<1\/20<(if aE s (at'+1) 1=0 then n+1 else n-1) then(0,0,3)
  else eD s (at'+2) (if aE s (at'+1) 1=0 then n+1 else n-1):=by
 unfold eD
 conv=>lhs;unfold iB
 split
 ·rfl
 ·next h1=>
  have h1:=fQ (dK.1 h1);split
  ·rfl
  ·split
   ·rfl
   ·next h2=>
    have h2:=fQ (dK.1 h2);simp only
    generalize (if aE s (at'+1) 1=0 then n+1 else n-1)=m
    by_cases hm:m<1\/20<m
    ·rw[if_pos hm,if_pos hm]
    ·rw[if_neg hm,if_neg hm];exact JX s _ _ _ _ (by omega) (by omega) (by omega) (by omega) (by omega)
theorem DA (s:List UInt8):∀(f:Nat) (at' n:Int),0<=at'->1<=n->n<=20->(iB s f at' n).2.2=0->1<=(iB s f at' n).1/\(iB s f at' n).1<=20/\at'<(iB s f at' n).2.1/\(iB s f at' n).2.1<=8*(s.length:Int)
 |0,_,_,_,_,_,h=>by unfold iB at h;simp at h
 |f+1,at',n,h0,h1,h2,h=>by
  unfold iB at h ⊢;split at h
  ·next q=>exact absurd h q
  ·next q=>
   have q1:=fQ (dK.1 q);rw[if_neg q];split at h
   ·next k=>
    rw[if_pos k];exact⟨h1,h2,by show at'<at'+1;omega,by show at'+1<=_;omega⟩
   ·next k=>
    rw[if_neg k];split at h
    ·next q2=>exact absurd h q2
    ·next q2=>
     rw[if_neg q2];simp only at h ⊢;generalize (if aE s (at'+1) 1=0 then n+1 else n-1)=m at h ⊢
     by_cases q3:m<1\/20<m
     ·rw[if_pos q3] at h;simp at h
     ·rw[if_neg q3] at h ⊢;have:=DA s f (at'+2) m (by omega) (by omega) (by omega) h;omega
def aZ (s:List UInt8) (at':Int):Nat->List Int×Int×Int×Int
 |0=>([],(aE s at' 5:Int),at'+5,if aO s.length at' 5≠0 then aO s.length at' 5 else if(aE s at' 5:Int)<1\/20<(aE s at' 5:Int) then 3 else 0)
 |k+1=>
  let p:=aZ s at' k
  if p.2.2.2≠0 then p
  else let q:=eD s p.2.2.1 p.2.1
   if q.2.2≠0 then(p.1,p.2.1,p.2.2.1,q.2.2) else(p.1++[q.1],q.1,q.2.1,0)
def eJ (s:List UInt8) (at':Int) (n:Int):List Int×Int×Int:=
 if at'<0\/n<2\/258<n then([],0,1)
 else let p:=aZ s at' n.toNat
  if p.2.2.2≠0 then([],0,p.2.2.2) else(p.1,p.2.2.1,0)
theorem yR (s:List UInt8) (at':Int) (h0:0<=at'):∀k,(aZ s at' k).2.2.2=0->(aZ s at' k).1.length=k/\(∀x∈(aZ s at' k).1,1<=x/\x<=20)/\(1<=(aZ s at' k).2.1/\(aZ s at' k).2.1<=20)/\at'<(aZ s at' k).2.2.1/\(aZ s at' k).2.2.1<=8*(s.length:Int)
 |0,h=>by
  unfold aZ at h ⊢;simp only at h ⊢;split at h
  ·next q=>exact absurd h q
  ·next q=>
   have q1:=fQ (dK.1 q);split at h
   ·simp at h
   ·next q2=>exact⟨rfl,fun x hx=>by simp at hx,by omega,by omega,by omega⟩
 |k+1,h=>by
  unfold aZ at h ⊢;simp only at h ⊢;split at h
  ·next q=>exact absurd h q
  ·next q=>
   obtain⟨h1,h2,h3,h4,h5⟩:=yR s at' h0 k (dK.1 q);rw[if_neg q];split at h
   ·next q2=>exact absurd h q2
   ·next q2=>
    rw[if_neg q2];have:=DA s _ (aZ s at' k).2.2.1 (aZ s at' k).2.1 (by omega) h3.1 h3.2 (dK.1 q2);refine⟨by simp[h1],fun x hx=>?_,⟨this.1,this.2.1⟩,by show at'<(eD _ _ _).2.1;unfold eD;omega,this.2.2.2⟩;rcases cU.1 hx with hx|hx
    ·exact h2 x hx
    ·obtain rfl:=List.mem_singleton.1 hx;exact⟨this.1,this.2.1⟩
end
section
open Go.RowKit Go Go.Shelf
theorem aHs {l:List Int} {k:Nat} {x:Int} (h:l[k]? =some x):jR (l.take (k+1))=jR (l.take k)+2^(20-x.toNat):=by
 unfold jR;rw[cQ,h];simp
theorem SV (l:List Int):jR l<=1048576*l.length:=by
 unfold jR
 induction l with
 |nil=>simp
 |cons x l ih=>
  rw[List.map_cons,List.sum_cons,cR];have:2^(20-x.toNat)<=2^20:=jC (by decide) (by omega);have e:(2:Nat)^20=1048576:=by decide
  omega
theorem ST {l:List Int} (h:¬(2<=l.length/\l.length<=258)):bL l=1:=by
 unfold bL;rw[if_pos (fun q=>h ⟨q.1,q.2.1⟩)]
theorem DG {l:List Int} {k:Nat} {x:Int} (h:l[k]? =some x) (hx:¬(1<=x/\x<=20)):bL l=1:=by
 unfold bL;rw[if_pos (fun q=>hx (q.2.2 x (cH h)))]
theorem SU {l:List Int} (h:fY l):bL l=if 1048576<jR l then 6 else 0:=by
 unfold bL;rw[if_neg (fun k=>k h)]
theorem DH (v:Value) (l:List Int) (w:World) (hr:RdI w v l):
  Calls Tryz.prog 90 #[v] w fun e w'=>e=.returned (.int .i64 (bL l))/\w'=w:=by
 obtain⟨a,ca,rfl,hca,hma,hA⟩:=hr.open;unfold maxLen at hma;clear hr
 by_cases h2:2<=l.length/\l.length<=258
 rotate_left
 ·have HC:=hid (ST h2)
  by_cases h3:l.length<2
  ·have t1:decide ((l.length:Int)<2)=true:=decide_eq_true (by omega);go_enter Tryz.func90,Tryz.ntmps90;go_wp2_with fail;go_ret;exact⟨by rw[HC.out];rfl,rfl⟩
  ·have t1:decide ((l.length:Int)<2)=false:=decide_eq_false (by omega);have t2:decide ((l.length:Int)>258)=true:=decide_eq_true (by omega);have t3:decide ((258:Int)<(l.length:Int))=true:=decide_eq_true (by omega);go_enter Tryz.func90,Tryz.ntmps90;go_wp2_with fail;go_ret;exact⟨by rw[HC.out];rfl,rfl⟩
 ·have t1:decide ((l.length:Int)<2)=false:=decide_eq_false (by omega);have t2:decide ((l.length:Int)>258)=false:=decide_eq_false (by omega);have t3:decide ((258:Int)<(l.length:Int))=false:=decide_eq_false (by omega);go_enter Tryz.func90,Tryz.ntmps90;go_wp2_with fail;clear t1 t2 t3
  go_loopg [3] l.length (fun g s3 wr=>∃k:Nat,k<=l.length/\g=l.length-k/\s3=.int .i64 (k:Int)/\Hid (∀x∈l.take k,1<=x/\x<=20)/\wr=w)
  case atStart=>exact⟨0,aU _,rfl,rfl,hid (fun x hx=>by simp at hx),rfl⟩
  case round=>
   obtain⟨k,hk,hg,rfl,HX,rfl⟩:=hrel;have HG:=hid hg;clear hg
   by_cases hlt:k<l.length
   ·have t1:decide ((k:Int)<(l.length:Int))=true:=decide_eq_true (by omega);obtain⟨b1,o1,rfl,hb1,hc1⟩:=hA (by omega);obtain⟨x,hx⟩:=dH hlt;have c1:=hc1 k x hx;clear hc1 hA
    by_cases hx1:x<1
    ·have u1:decide (x<1)=true:=decide_eq_true hx1;have HC:=hid (DG hx (by omega));clear hx;go_wp2_with fail;go_ret;exact⟨by rw[HC.out];rfl,rfl⟩
    ·have u1:decide (x<1)=false:=decide_eq_false hx1
     by_cases hx2:20<x
     ·have u2:decide (20<x)=true:=decide_eq_true hx2;have u3:decide (x>20)=true:=decide_eq_true hx2;have HC:=hid (DG hx (by omega));clear hx;go_wp2_with fail;go_ret;exact⟨by rw[HC.out];rfl,rfl⟩
     ·have u2:decide (20<x)=false:=decide_eq_false hx2;have u3:decide (x>20)=false:=decide_eq_false hx2;have HS:=hid (show ∀y∈l.take (k+1),1<=y/\y<=20 from fun y hy=>by
       rw[cQ,hx] at hy;rcases cU.1 hy with hy|hy
       ·exact HX.out y hy
       ·simp at hy;omega)
      clear hx;go_wp2_with fail;have hg:=HG.out
      go_roundg (l.length-(k+1))
      case measure=>omega
      case rel=>exact⟨k+1,by omega,rfl,by go_num,HS,rfl⟩
   ·have t1:decide ((k:Int)<(l.length:Int))=false:=decide_eq_false (by omega);have hall:=HX.out;rw[cS (by omega)] at hall;have HALL:=hid hall;have HC:=hid (SU ⟨h2.1,h2.2,hall⟩);have hkl:=SV l;clear hall HX;go_wp2_with fail
    go_loopg [4,5] l.length (fun g s4 s5 wx=>∃k K:Nat,k<=l.length/\g=l.length-k/\s5=.int .i64 (k:Int)/\s4=.int .i64 (K:Int)/\Hid (K=jR (l.take k))/\wx=wr)
    case atStart=>exact⟨0,0,aU _,rfl,rfl,rfl,hid rfl,rfl⟩
    case round=>
     obtain⟨k,K,hk,hg,rfl,rfl,HK,rfl⟩:=hrel;have HG:=hid hg;clear hg;have hKb:=SV (l.take k);rw[<-HK.out,aX] at hKb;have hKb2:K<=300000000:=by omega
     clear hKb
     by_cases hlt:k<l.length
     ·have t1:decide ((k:Int)<(l.length:Int))=true:=decide_eq_true (by omega);obtain⟨b1,o1,rfl,hb1,hc1⟩:=hA (by omega);obtain⟨x,hx⟩:=dH hlt;have c1:=hc1 k x hx;have hxb:=HALL.out x (cH hx);obtain⟨q,hq⟩:∃q:Nat,q=20-x.toNat:=⟨_,rfl⟩;have m1:aI.wrap (20-x)=(q:Int):=by rw[aM];omega
      have m1':20-x=(q:Int):=by omega
      have m2:min q 64=q:=by omega
      obtain⟨P,hP⟩:∃P:Nat,P=2^q:=⟨_,rfl⟩;have hPb:P<=1048576:=by rw[hP];exact jC (n:=2) (i:=q) (j:=20) (by decide) (by omega)
      have e1:(2:Int)^q=(P:Int):=by rw[hP];push_cast;rfl
      have m3:aI.wrap (P:Int)=(P:Int):=by rw[aM];omega
      have HS:=hid (show jR (l.take (k+1))=K+P by rw[aHs hx,<-HK.out,hP,hq]);obtain⟨K2,hK2⟩:∃K2:Nat,K2=K+P:=⟨_,rfl⟩;have m4:aI.wrap ((K:Int)+(P:Int))=(K2:Int):=by rw[aM];omega
      have m4':(K:Int)+(P:Int)=(K2:Int):=by omega
      have HK2:=hid hK2;clear hq hP hx hc1 hA hK2;go_wp2_with fail;have hg:=HG.out
      go_roundg (l.length-(k+1))
      case measure=>omega
      case rel=>exact⟨k+1,K2,by omega,rfl,by go_num,rfl,hid (by rw[HS.out,HK2.out]),rfl⟩
     ·have t1:decide ((k:Int)<(l.length:Int))=false:=decide_eq_false (by omega);have hKK:=HK.out;rw[cS (by omega)] at hKK;have hC:=HC.out;rw[<-hKK] at hC
      by_cases hbig:1048576<K
      ·rw[if_pos hbig] at hC;have HC2:=hid hC;have u1:decide ((1048576:Int)<(K:Int))=true:=decide_eq_true (by omega);have u2:decide ((K:Int)>1048576)=true:=decide_eq_true (by omega);clear hC hKK;go_wp2_with fail;go_ret;exact⟨by rw[HC2.out];rfl,rfl⟩
      ·rw[if_neg hbig] at hC;have HC2:=hid hC;have u1:decide ((1048576:Int)<(K:Int))=false:=decide_eq_false (by omega);have u2:decide ((K:Int)>1048576)=false:=decide_eq_false (by omega);clear hC hKK;go_wp2_with fail;go_ret;exact⟨by rw[HC2.out];rfl,rfl⟩
def cD (n:Nat) (f:Nat->Value×Value):List Value:=(dG (n*2)).map (fun j=>if j%2=0 then(f (j/2)).1 else(f (j/2)).2)
theorem DI (n:Nat) (f:Nat->Value×Value):(cD n f).length=n*2:=by simp[cD]
theorem uR (n:Nat) (f:Nat->Value×Value) (i:Nat) (h:i<n):(cD n f)[i*2]? =some (f i).1:=by
 unfold cD;rw[dY,pF (by omega)];simp
theorem uS (n:Nat) (f:Nat->Value×Value) (i:Nat) (h:i<n):(cD n f)[i*2+1]? =some (f i).2:=by
 unfold cD;rw[dY,pF (by omega)];have e1:(i*2+1)%2=1:=by omega
 have e2:(i*2+1)/2=i:=by omega
 simp[e1,e2]
theorem KG (n:Nat) (f f':Nat->Value×Value) (i:Nat) (a b:Value) (h:∀d,d<n->f' d=if d=i then(a,b) else f d):((cD n f).set (i*2) a).set (i*2+1) b=cD n f':=by
 apply List.ext_getElem?;intro j
 by_cases hj:j<n*2
 ·rw[List.getElem?_set,List.getElem?_set];have hl:((cD n f).set (i*2) a).length=n*2:=by rw[mW,DI]
  rw[hl,DI];have hf:=h (j/2) (by omega)
  by_cases h1:i*2+1=j
  ·have hji:j/2=i:=by omega
   rw[if_pos h1,if_pos (by omega)];unfold cD;rw[dY,pF hj];simp only[xW];rw[hf,if_pos hji];simp[show ¬j%2=0 by omega]
  ·rw[if_neg h1]
   by_cases h2:i*2=j
   ·have hji:j/2=i:=by omega
    rw[if_pos h2,if_pos (by omega)];unfold cD;rw[dY,pF hj];simp only[xW];rw[hf,if_pos hji];simp[show j%2=0 by omega]
   ·rw[if_neg h2];unfold cD;rw[dY,dY,pF hj];have hne:¬j/2=i:=fun e=>by
     have m1:=Nat.div_add_mod j 2;have m2:=jQ j (by decide:0<2);omega
    rw[if_neg hne] at hf;rw[xW,xW,hf]
 ·rw[dL (by rw[mW,mW,DI];omega),dL (by rw[DI];omega)]
theorem rS {n:Nat} {f g:Nat->Value×Value} (h:∀d,d<n->f d=g d):cD n f=cD n g:=by
 unfold cD;apply List.map_congr_left;intro j hj;rw[jF] at hj;rw[h (j/2) (by omega)]
theorem SW (a b:Value) (n:Nat):(madeCells #[a,b] (n*2))=(cD n (fun _=>(a,b))).toArray:=by
 unfold madeCells cD;apply Array.ext
 ·simp
 ·intro j h1 h2;simp only[Array.getElem_map,Array.getElem_range,List.getElem_toArray,List.getElem_map,List.getElem_range];rcases FU j with e|e
  ·simp[e]
  ·simp[e]
theorem mk2 {P:Program} {ops:Array Oper} {rest:List Oper} {o:Oper} {a:Act} {Q:Exit->Act->World->Prop} {w:World} {t e bytes:Nat} {z x y:Value} (hu:P.underlying t=some (.slice e)) (hinfo:(P.info? e).map (fun i=>(i.zero,i.size,i.bytes))=some (some z,2,bytes)) (hzc:z.cells=#[x,y]) (hgd:o.guard=none) (l c:iM)
  (ho:o.op=.makeSlice t l c) (n:Nat) (hl:a.eval l=.int .i64 (n:Int)) (hc:a.eval c=.int .i64 (n:Int)) (hroom:n*bytes<=140737488355328) (hn:n<=140737488355328)
  (h:wpList P ops Q rest (a.put o.dst (.slice (some ⟨w.heap.size,0,none⟩) n n)) (w.alloc (.cells (cD n (fun _=>(x,y))).toArray e))):wpList P ops Q (o::rest) a w:=by
 refine wpList_plain hgd fun K hK'=>?_
 obtain⟨i,hi,hz,h2,h3⟩:=info_parts hinfo;have hb:(i.bytes:Int)*(n:Int)<=281474976710656:=by
  rw[h3,<-FN,oG];omega
 have hrun:=run_make (P:=P) w t e i z hu hi hz .i64 .i64 (n:Int) (n:Int) (by omega) (Int.le_refl _) hb (by omega);rw[h2,eG,hzc,SW] at hrun;unfold Oper.wp;simp[execOp,ho,hl,hc,hrun,jB];exact hK' _ _ h
end
end Go.Proofs.YtmcogmmncfihhaaGreatDoor
