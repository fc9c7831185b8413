/- The walks and the plain laws, part 2. -/
import Derived.Laws.BitsAllLaws
import Derived.Laws.Bits64
import Derived.Deep.CutBlock
import Derived.Deep.RegionHeld3
import Derived.Defers
import Derived.Recover
import Derived.Shelf.Abstract
import Derived.Laws.ResultCell
import Derived.Test.YtiifmcicleljjaaGreatDoorT1
set_option maxRecDepth 100000
set_option maxHeartbeats 12800000
set_option linter.unusedVariables false
open Decidable renaming not_not->dK
open Go renaming bodyPost_ret->gJ,run_loadVar_row->NT,wpAnyH_ready->fL,wpAnyH_take->aQ,wp_region_held_drew->vI
open Go.Act renaming put->aJ
open Go.AllReadyH renaming cons->fA,nil->fM
open Go.Instr renaming makeFunc->vJ
open Go.IntKind renaming i64->aI,u64->fU,u8->pX,wrap_i64->aM,wrap_u64->gF,wrap_u8->xQ
open Go.Result renaming andThen->jB
open Go.RowKit.Below renaming refl->aB
open Go.World renaming size_alloc->fV
open Int renaming natCast_ediv->aB8,tdiv_eq_ediv_of_nonneg->AJ,tmod_eq_emod_of_nonneg->oJ,toNat_natCast->eG
open List renaming any_eq_true->AH,append_assoc->cF,append_nil->eE,cons_append->gE,getD->fF,getD_eq_getElem?_getD->aV,getElem?_cons_succ->aS,getElem?_cons_zero->aP,getElem?_drop->gR,getElem?_eq_getElem->aN,getElem?_eq_none->dL,getElem?_toArray->aR,getElem_mem->gT,length_append->aL,length_cons->cR,length_map->bJ,length_take->aX,map_append->fI,mem_cons->kD,mem_filter->xN,mem_range->jF,range->dG,replicate->bB,setIfInBounds_toArray->aK,set_cons_succ->aG,set_cons_zero->aH,take_add_one->cQ,take_append_drop->jE,take_of_length_le->cS,take_zero->FX
open List.Pairwise renaming imp_of_mem->aB5
open List.Perm renaming refl->xP
open Nat renaming eq_zero_or_pos->fJ,le_refl->aA,lt_of_le_of_lt->xI,lt_of_lt_of_le->dR,mod_eq_of_lt->kU,mod_lt->jQ,mul_assoc->vH,mul_comm->oG,pow_le_pow_right->jC,pow_succ->nQ,strongRecOn->FT,zero_le->aU
open Option.some renaming inj->bW
open Or renaming inl->aT
open UInt8 renaming ofNat->eK,toNat_ofNat'->nP
namespace Go.Proofs.YtiifmcicleljjaaGreatDoor
section
def fP (p:Int->Bool):List Int->Int
 |[]=> -1
 |x::l=>if p x then 0 else if fP p l<0 then-1 else fP p l+1
theorem BQ (p:Int->Bool):∀l,-1<=fP p l/\fP p l<(l.length:Int)/\(fP p l<0↔∀x∈l,p x=false):=by
 intro l
 induction l with
 |nil=>simp[fP]
 |cons x l E=>
  unfold fP;obtain⟨H,I,A⟩:=E
  by_cases z:p x=true
  ·rw[if_pos z];refine⟨by omega,by rw[cR];omega,?_⟩;constructor
   ·intro h;omega
   ·intro h;have:=h x (by simp);rw[z] at this;exact Bool.noConfusion this
  ·rw[if_neg z];have F:p x=false:=by simpa using z
   by_cases h:fP p l<0
   ·rw[if_pos h,cR];refine⟨by omega,by omega,?_⟩;constructor
    ·intro _ y d;rcases kD.1 d with rfl|d
     ·exact F
     ·exact A.1 h y d
    ·intro _;omega
   ·rw[if_neg h,cR];refine⟨by omega,by omega,?_⟩;constructor
    ·intro _;omega
    ·intro G;have:∀y∈l,p y=false:=fun y d=>G y (List.mem_cons_of_mem _ d)
     have:=A.2 this;omega
theorem BR {p:Int->Bool}:∀{l:List Int} {k:Nat},(∀x∈l.take k,p x=false)->(d:k<l.length)->p l[k]=true->fP p l=(k:Int):=by
 intro l
 induction l with
 |nil=>intro k _ d;simp at d
 |cons x l A=>
  intro k h d z;unfold fP
  cases k with
  |zero=>rw[if_pos (by simpa using z)];rfl
  |succ k=>
   have E:=h x (by simp);rw[if_neg (by rw[E];exact Bool.false_ne_true)];have e:=A (k:=k) (fun y F=>h y (by simp[F])) (by simpa using d) (by simpa using z);rw[e,if_neg (by omega)];omega
theorem oN {p:Int->Bool} {l:List Int} (h:∀x∈l,p x=false):fP p l= -1:=by
 obtain⟨z,_,d⟩:=BQ p l;have:=d.2 h;omega
def dB (s:List UInt8) (c:Nat):Bool:=s.any (fun b=>b.toNat==c)
theorem IJ (s:List UInt8) (b:UInt8):dB s b.toNat=true↔b∈s:=by
 unfold dB;rw[AH];constructor
 ·rintro⟨x,d,h⟩;rw[beq_iff_eq,UInt8.toNat_inj] at h;rw[<-h];exact d
 ·intro h;exact⟨b,h,by simp⟩
def jH (s:List UInt8) (m:Nat):List UInt8:=((dG m).filter (dB s)).map eK
def bK (s:List UInt8):List UInt8:=jH s 256
theorem IK (s:List UInt8) (m:Nat):jH s (m+1)=jH s m++if dB s m then[eK m] else[]:=by
 unfold jH;rw[List.range_succ,List.filter_append,fI]
 congr 1
 by_cases h:dB s m=true
 ·simp[h]
 ·simp[h]
theorem PI (s:List UInt8) (m:Nat):(jH s m).length<=m:=by
 unfold jH;rw[bJ];have:=List.length_filter_le (dB s) (dG m)
 simpa using this
theorem yC (s:List UInt8) (b:UInt8):b∈bK s↔b∈s:=by
 unfold bK jH;rw[List.mem_map];constructor
 ·rintro⟨c,d,rfl⟩;rw[xN,jF] at d;have e:(eK c).toNat=c:=by rw[nP];omega
  rw[<-IJ,e];exact d.2
 ·intro h;refine⟨b.toNat,?_,by simp⟩;rw[xN,jF];exact⟨b.toNat_lt,(IJ s b).2 h⟩
theorem BS (s:List UInt8):(bK s).Nodup:=by
 unfold bK jH List.Nodup;rw[List.pairwise_map];refine aB5 ?_ (List.pairwise_lt_range.sublist List.filter_sublist);intro a b d z A e;have E:=jF.1 (xN.1 d).1;have F:=jF.1 (xN.1 z).1;have:=congrArg UInt8.toNat e;rw[nP,nP] at this;omega
theorem PJ {s t:List UInt8} (h:∀b,b∈s↔b∈t):bK s=bK t:=by
 have e:dB s=dB t:=by
  funext c
  unfold dB;rw[Bool.eq_iff_iff,AH,AH];exact⟨fun⟨x,d,z⟩=>⟨x,(h x).1 d,z⟩,fun⟨x,d,z⟩=>⟨x,(h x).2 d,z⟩⟩
 unfold bK jH;rw[e]
theorem PK (s:List UInt8):bK (bK s)=bK s:=PJ (fun b=>yC s b)
theorem BT {s:List UInt8} (h:s≠[]):bK s≠[]:=by
 cases s with
 |nil=>exact absurd rfl h
 |cons b s=>
  intro e;have:=(yC (b::s) b).2 (by simp);rw[e] at this;simp at this
def eF (a:List UInt8) (i:Nat):List UInt8:=(a.drop i).take 1++a.take i++a.drop (i+1)
theorem uE (a:List UInt8) (i:Nat):(eF a i).Perm a:=by
 unfold eF;have e:a=a.take i++((a.drop i).take 1++a.drop (i+1)):=by
  have z:(a.drop i).drop 1=a.drop (i+1):=by rw[List.drop_drop]
  rw[<-z,jE,jE]
 have d:((a.drop i).take 1++a.take i++a.drop (i+1)).Perm (a.take i++((a.drop i).take 1++a.drop (i+1))):=by
  rw[<-cF];exact List.Perm.append_right _ List.perm_append_comm
 rw[<-e] at d;exact d
theorem vS (a:List UInt8) (i:Nat):(eF a i).length=a.length:=(uE a i).length_eq
def plc (a:List UInt8) (c:UInt8):Nat:=a.findIdx (fun b=>b==c)
theorem rG {a:List UInt8} {c:UInt8} (h:c∈a):plc a c<a.length:=List.findIdx_lt_length_of_exists ⟨c,h,by simp⟩
theorem BU {a:List UInt8} {c:UInt8} (h:c∈a):a[plc a c]? =some c:=by
 have d:=rG h;have A:=List.findIdx_getElem (p:=fun b=>b==c) (w:=d);rw[aN d];have z:(a[plc a c]==c)=true:=A;rw[beq_iff_eq] at z;rw[z]
theorem PL {a:List UInt8} {c:UInt8} {i:Nat} (h:i<plc a c) (d:i<a.length):a[i]≠c:=by
 have:=List.not_of_lt_findIdx h;intro e;rw[e] at this;simp at this
theorem aDu {a:List UInt8} {c:UInt8} {i:Nat} (hi:i<a.length) (h:a[i]=c) (z:∀j,(E:j<i)->a[j]'(by omega)≠c):plc a c=i:=by
 have d:c∈a:=by rw[<-h];exact gT hi
 rcases Nat.lt_trichotomy (plc a c) i with p|p|p
 ·have:=BU d;have A:=rG d;rw[aN A] at this;exact absurd (bW this) (z _ p)
 ·exact p
 ·exact absurd h (PL p hi)
theorem IL {a:List UInt8} (d:a.Nodup) {i:Nat} (hi:i<a.length):plc a a[i]=i:=by
 refine aDu hi rfl (fun j z e=>?_);exact List.pairwise_iff_getElem.1 d j i (by omega) hi z e
def cM:List UInt8->List UInt8->List Int
 |_,[]=>[]
 |a,c::s=>((plc a c:Nat):Int)::cM (eF a (plc a c)) s
def eB:List UInt8->List UInt8->List UInt8
 |a,[]=>a
 |a,c::s=>eB (eF a (plc a c)) s
theorem rH:∀(s a:List UInt8),(cM a s).length=s.length:=by
 intro s
 induction s with
 |nil=>intro a;rfl
 |cons c s d=>intro a;simp[cM,d]
theorem BV:∀(s a:List UInt8),(eB a s).Perm a:=by
 intro s
 induction s with
 |nil=>intro a;exact xP _
 |cons c s d=>intro a;exact(d _).trans (uE a _)
theorem BW (c:UInt8):∀(s a:List UInt8),cM a (s++[c])=cM a s++[((plc (eB a s) c:Nat):Int)]:=by
 intro s
 induction s with
 |nil=>intro a;rfl
 |cons d s z=>intro a;simp only[gE,cM,eB,z]
theorem IM (c:UInt8):∀(s a:List UInt8),eB a (s++[c])=eF (eB a s) (plc (eB a s) c):=by
 intro s
 induction s with
 |nil=>intro a;rfl
 |cons d s z=>intro a;simp only[gE,eB,z]
theorem vT:∀(s a:List UInt8),(∀b∈s,b∈a)->∀x∈cM a s,0<=x/\x<(a.length:Int):=by
 intro s
 induction s with
 |nil=>intro a _ x d;simp[cM] at d
 |cons c s z=>
  intro a h x d;rw[cM,kD] at d;rcases d with rfl|d
  ·have:=rG (h c (by simp));omega
  ·have:=z (eF a (plc a c)) (fun b A=>(uE a _).mem_iff.2 (h b (by simp[A]))) x d;rwa[vS] at this
def unL:List UInt8->List Int->List UInt8
 |_,[]=>[]
 |a,i::l=>a.getD i.toNat 0::unL (eF a i.toNat) l
def unA:List UInt8->List Int->List UInt8
 |a,[]=>a
 |a,i::l=>unA (eF a i.toNat) l
theorem oO:∀(l:List Int) (a:List UInt8),(unL a l).length=l.length:=by
 intro l
 induction l with
 |nil=>intro a;rfl
 |cons c l d=>intro a;simp[unL,d]
theorem PM:∀(l:List Int) (a:List UInt8),(unA a l).Perm a:=by
 intro l
 induction l with
 |nil=>intro a;exact xP _
 |cons c l d=>intro a;exact(d _).trans (uE a _)
theorem IN (i:Int):∀(l:List Int) (a:List UInt8),unL a (l++[i])=unL a l++[(unA a l).getD i.toNat 0]:=by
 intro l
 induction l with
 |nil=>intro a;rfl
 |cons d l z=>intro a;simp only[gE,unL,unA,z]
theorem IP (i:Int):∀(l:List Int) (a:List UInt8),unA a (l++[i])=eF (unA a l) i.toNat:=by
 intro l
 induction l with
 |nil=>intro a;rfl
 |cons d l z=>intro a;simp only[gE,unA,z]
theorem PN:∀(s a:List UInt8),(∀b∈s,b∈a)->unL a (cM a s)=s:=by
 intro s
 induction s with
 |nil=>intro a _;rfl
 |cons c s d=>
  intro a h;have z:=BU (h c (by simp));simp only[cM,unL,eG];rw[fF,z,d _ (fun b A=>(uE a _).mem_iff.2 (h b (by simp[A])))];rfl
theorem IQ:∀(l:List Int) (a:List UInt8),(∀x∈l,0<=x/\x<(a.length:Int))->∀b∈unL a l,b∈a:=by
 intro l
 induction l with
 |nil=>intro a _ b d;simp[unL] at d
 |cons i l z=>
  intro a h b d;rw[unL,kD] at d;rcases d with rfl|d
  ·have:=h i (by simp);rw[fF,aN (by omega)];exact gT _
  ·exact(uE a _).mem_iff.1 (z _ (fun x A=>by rw[vS];exact h x (by simp[A])) b d)
def sQ:Nat->Nat->List Int
 |0,_=>[]
 |f+1,n=>if n=0 then[] else(if n%2=1 then 0 else 1)::sQ f ((n-1)/2)
def dig (n:Nat):List Int:=sQ n n
theorem aDv:∀(f n g:Nat),n<=f->n<=g->sQ f n=sQ g n:=by
 intro f
 induction f with
 |zero=>
  intro n g z A;have:n=0:=by omega
  subst this
  cases g with
  |zero=>rfl
  |succ g=>simp[sQ]
 |succ f E=>
  intro n g z A
  cases g with
  |zero=>
   have:n=0:=by omega
   subst this;simp[sQ]
  |succ g=>
   unfold sQ
   by_cases d:n=0
   ·rw[if_pos d,if_pos d]
   ·rw[if_neg d,if_neg d,E ((n-1)/2) g (by omega) (by omega)]
theorem qF:dig 0=[]:=rfl
theorem BY {n:Nat} (h:0<n):dig n=(if n%2=1 then 0 else 1)::dig ((n-1)/2):=by
 unfold dig;obtain⟨m,rfl⟩:∃m,n=m+1:=⟨n-1,by omega⟩;rw[sQ,if_neg (by omega),aDv m ((m+1-1)/2) ((m+1-1)/2) (by omega) (aA _)]
theorem BZ:∀(n:Nat),∀x∈dig n,x=0\/x=1:=by
 intro n
 induction n using FT with
 |ind n z=>
  intro x d;rcases fJ n with h|h
  ·subst h;simp[qF] at d
  ·rw[BY h,kD] at d;rcases d with rfl|d
   ·split
    ·exact .inl rfl
    ·exact .inr rfl
   ·exact z _ (by omega) x d
theorem CA:∀(n:Nat),(dig n).length<=n/\(0<n->0<(dig n).length):=by
 intro n
 induction n using FT with
 |ind n d=>
  rcases fJ n with h|h
  ·subst h;simp[qF]
  ·rw[BY h,cR];have:=(d ((n-1)/2) (by omega)).1;omega
def num:List Int->Nat
 |[]=>0
 |d::l=>(d.toNat+1)+2*num l
theorem PO:∀n,num (dig n)=n:=by
 intro n
 induction n using FT with
 |ind n d=>
  rcases fJ n with h|h
  ·subst h;rfl
  ·rw[BY h,num,d _ (by omega)];split
   ·simp;omega
   ·simp;omega
theorem aDy:∀l:List Int,2^l.length<=num l+1:=by
 intro l
 induction l with
 |nil=>simp[num]
 |cons d l z=>rw[num,cR,nQ];omega
def cZ:Nat->List Int->List Int
 |k,[]=>dig k
 |k,x::l=>if x=0 then cZ (k+1) l else dig k++(x+1)::cZ 0 l
def zx:Nat->Nat->List Int->List Int
 |n,_,[]=>bB n 0
 |n,p,x::l=>if x<2 then zx (n+p*(x.toNat+1)) (2*p) l else bB n 0++(x-1)::zx 0 1 l
def dA (m:List Int):List Int:=zx 0 1 m
theorem IR:∀(r:List Int) (n p:Nat) (l:List Int),(∀x∈r,x<2)->zx n p (r++l)=zx (n+p*num r) (p*2^r.length) l:=by
 intro r
 induction r with
 |nil=>intro n p l _;simp[num]
 |cons d r z=>
  intro n p l h;rw[gE,zx,if_pos (h d (by simp)),z _ _ _ (fun x A=>h x (by simp[A])),num,cR,nQ];have E:n+p*(d.toNat+1)+2*p*num r=n+p*(d.toNat+1+2*num r):=by
   rw[Nat.mul_add p (d.toNat+1),Nat.mul_left_comm p 2,vH 2 p];omega
  have F:2*p*2^r.length=p*(2^r.length*2):=by
   rw[oG 2 p,vH,oG 2]
  rw[E,F]
theorem IS (n p:Nat):zx n p []=bB n 0:=rfl
theorem CB {n p:Nat} {x:Int} {l:List Int} (h:¬x<2):zx n p (x::l)=bB n 0++(x-1)::dA l:=by
 rw[zx,if_neg h];rfl
theorem aDw:∀(l:List Int) (k:Nat),(∀x∈l,0<=x)->dA (cZ k l)=bB k 0++l:=by
 intro l
 induction l with
 |nil=>
  intro k _;have:=IR (dig k) 0 1 [] (fun x d=>by rcases BZ k x d with h|h<;>omega);rw[eE] at this;rw[cZ,dA,this,IS,PO];simp
 |cons x l A=>
  intro k h;rw[cZ]
  by_cases d:x=0
  ·rw[if_pos d,A (k+1) (fun y z=>h y (by simp[z])),d];rw[List.replicate_succ',cF];rfl
  ·have E:=h x (by simp);rw[if_neg d,dA,IR _ _ _ _ (fun y z=>by rcases BZ k y z with h|h<;>omega),CB (by omega),A 0 (fun y z=>h y (by simp[z])),PO];simp
theorem IT:∀(l:List Int) (k:Nat),(cZ k l).length<=k+l.length/\(0<k+l.length->0<(cZ k l).length):=by
 intro l
 induction l with
 |nil=>intro k;simpa [cZ] using CA k
 |cons x l d=>
  intro k;rw[cZ]
  by_cases z:x=0
  ·rw[if_pos z];have:=d (k+1);rw[cR];omega
  ·rw[if_neg z,aL,cR,cR];have A:=(CA k).1;have E:=(d 0).1;omega
theorem aDx:∀(l:List Int) (k:Nat),(∀x∈l,0<=x)->∀y∈cZ k l,y=0\/y=1\/∃x∈l,y=x+1/\x≠0:=by
 intro l
 induction l with
 |nil=>intro k _ y d;rcases BZ k y d with h|h;exact .inl h;exact .inr (.inl h)
 |cons x l G=>
  intro k h y d;rw[cZ] at d;have F:∀k,y∈cZ k l->y=0\/y=1\/∃z∈x::l,y=z+1/\z≠0:=by
   intro k d;rcases G k (fun z A=>h z (by simp[A])) y d with q|q|⟨z,A,q⟩
   ·exact .inl q
   ·exact .inr (.inl q)
   ·exact .inr (.inr ⟨z,by simp[A],q⟩)
  by_cases E:x=0
  ·rw[if_pos E] at d;exact F _ d
  ·rw[if_neg E,List.mem_append,kD] at d;rcases d with d|rfl|d
   ·rcases BZ k y d with h|h
    ·exact .inl h
    ·exact .inr (.inl h)
   ·exact .inr (.inr ⟨x,by simp,rfl,E⟩)
   ·exact F _ d
def aO (n:Nat) (at':Int) (k:Nat):Int:=if at'<0 then 1 else if 8*(n:Int)-(k:Int)<at' then 2 else 0
def aE (s:List UInt8) (at':Int) (k:Nat):Nat:=if aO s.length at' k=0 then bY (seg s at'.toNat k) else 0
theorem fQ {n:Nat} {at':Int} {k:Nat} (h:aO n at' k=0):0<=at'/\at'.toNat+k<=8*n/\at'+(k:Int)<=8*(n:Int):=by
 unfold aO at h;split at h
 ·omega
 ·split at h
  ·omega
  ·omega
theorem aDz (n:Nat) (at':Int) (k:Nat):aO n at' k=0\/aO n at' k=1\/aO n at' k=2:=by
 unfold aO;split
 ·exact .inr (.inl rfl)
 ·split
  ·exact .inr (.inr rfl)
  ·exact .inl rfl
theorem iA (s:List UInt8) (at':Int) (k:Nat):aE s at' k<2^k:=by
 unfold aE;split
 ·next h=>
  have:=fQ h;have d:=qE (seg s at'.toNat k);rwa[vR this.2.1] at d
 ·exact Nat.pow_pos (by decide)
def eQ (s:List UInt8) (k:Nat):List Bool:=(dG 16).map (fun i=>dB s (16*k+i))
theorem sR (s:List UInt8) (k:Nat):(eQ s k).length=16:=by simp[eQ]
def iT (s:List UInt8) (k:Nat):Bool:=(eQ s k).any id
theorem yD (l:List Bool):bY l=0↔l.any id=false:=by
 refine yA (P:=fun l=>bY l=0↔l.any id=false) (by decide) (fun l b d=>?_) l;rw[rF,List.any_append]
 cases b
 ·simp only[Bool.toNat_false,List.any_cons,List.any_nil,id,Bool.or_false];rw[<-d];omega
 ·simp
def nB (s:List UInt8):List Bool:=(dG 16).map (iT s)
def eX (s:List UInt8):Nat->List Bool
 |0=>[]
 |k+1=>eX s k++if iT s k then eQ s k else[]
def fZ (s:List UInt8):List Bool:=nB s++eX s 16
theorem CC (s:List UInt8):∀k,(eX s k).length<=16*k
 |0=>by simp[eX]
 |k+1=>by
  have:=CC s k;unfold eX;rw[aL];split
  ·rw[sR];omega
  ·simp;omega
theorem CD (s:List UInt8):(fZ s).length<=272:=by
 have:=CC s 16;unfold fZ nB;simp;omega
def jS (v k:Nat):Nat->List UInt8
 |0=>[]
 |i+1=>jS v k i++if v.testBit (15-i) then[eK (16*k+i)] else[]
def cJ (s:List UInt8) (at':Int):Nat->List UInt8×Int×Bool×Int
 |0=>([],at'+16,aE s at' 16==0,aO s.length at' 16)
 |k+1=>
  let p:=cJ s at' k
  if p.2.2.2≠0 then p
  else if(aE s at' 16).testBit (15-k) then
   if aO s.length p.2.1 16≠0 then(p.1,p.2.1,p.2.2.1,aO s.length p.2.1 16)
   else(p.1++jS (aE s p.2.1 16) k 16,p.2.1+16,p.2.2.1||aE s p.2.1 16==0,0)
  else p
def cG (s:List UInt8) (at':Int):List UInt8×Int×Int:=
 let p:=cJ s at' 16
 if p.2.2.2≠0 then([],0,p.2.2.2) else if p.2.2.1 then([],0,3) else(p.1,p.2.1,0)
theorem CE (v k:Nat):∀i,(jS v k i).length<=i
 |0=>by simp[jS]
 |i+1=>by
  have:=CE v k i;unfold jS;rw[aL];split<;>simp<;>omega
theorem yE (s:List UInt8) (at':Int):∀k,(cJ s at' k).1.length<=16*k/\((cJ s at' k).2.2.2=0->at'+16<=(cJ s at' k).2.1/\(cJ s at' k).2.1<=at'+16+16*k)
 |0=>⟨by simp[cJ],fun _=>by simp[cJ]⟩
 |k+1=>by
  obtain⟨A,d⟩:=yE s at' k;unfold cJ;simp only
  split
  ·next h=>exact⟨by omega,fun q=>absurd q h⟩
  ·next h=>
   have h:=d (dK.1 h);split
   ·split
    ·next z=>exact⟨by show(cJ s at' k).1.length<=_;omega,fun q=>absurd q z⟩
    ·have:=CE (aE s (cJ s at' k).2.1 16) k 16;refine⟨by rw[aL];omega,fun _=>?_⟩;show at'+16<=(cJ s at' k).2.1+16/\(cJ s at' k).2.1+16<=_;omega
   ·exact⟨by omega,fun _=>by omega⟩
end
section
open Go.RowKit Go
theorem IU (x j:Nat):x/2^j%2=(x.testBit j).toNat:=by
 rw[Nat.testBit_eq_decide_div_mod_eq];rcases Nat.mod_two_eq_zero_or_one (x/2^j) with h|h<;>rw[h]<;>rfl
theorem aD2 (x j:Nat):((x:Int)/2^j)%2=((x.testBit j).toNat:Int):=by
 have e:((2:Int)^j)=((2^j:Nat):Int):=by push_cast;rfl
 rw[e,<-aB8,<-IU];omega
theorem yG (x j:Nat):(x:Int)/2^j=((x/2^j:Nat):Int):=by
 have e:((2:Int)^j)=((2^j:Nat):Int):=by push_cast;rfl
 rw[e,<-aB8]
theorem yH (x j:Nat):((x:Int)/2^j).tmod 2=((x.testBit j).toNat:Int):=by
 rw[oJ (by rw[yG];exact Int.natCast_nonneg _),aD2]
theorem aD0:∀x:Fin 256,∀k:Fin 8,((x.val*2^k.val%256)&&&128)=if x.val.testBit (7-k.val) then 128 else 0:=by decide+kernel
theorem aD1 (x k:Nat) (d:x<256) (z:k<8):bits .and .u8 (pX.wrap ((x:Int)*2^k)) 128=if x.testBit (7-k) then 128 else 0:=by
 have e:((2:Int)^k)=((2^k:Nat):Int):=by push_cast;rfl
 have h:pX.wrap ((x:Int)*2^k)=((x*2^k%256:Nat):Int):=by
  rw[IntKind.wrap_u8',e,<-Int.natCast_mul];omega
 rw[h,show(128:Int)=((128:Nat):Int) from rfl,u8_and_nat _ _ (jQ _ (by decide)) (by decide),aD0 ⟨x,d⟩ ⟨k,z⟩];split<;>rfl
theorem IV (v:Nat) (b:Bool) (h:2*v<18446744073709551616):bits .or .u64 (fU.wrap ((v:Int)*2)) (b.toNat:Int)=((2*v+b.toNat:Nat):Int):=by
 have d:fU.wrap ((v:Int)*2)=((2*v:Nat):Int):=by rw[gF];omega
 have z:b.toNat<2:=by cases b<;>decide
 rw[d,u64_or_nat _ _ h (by omega),nat_join 1 (2*v) b.toNat (by omega) (by simpa using z)]
end
section
open Go.RowKit
def bI (l:List Bool):List Int:=l.map (fun b=>(b.toNat:Int))
theorem cN (l:List Bool):(bI l).length=l.length:=bJ ..
theorem gB (l m:List Bool):bI (l++m)=bI l++bI m:=fI ..
theorem aD4 {l:List Bool} {k:Nat} {b:Bool} (h:l[k]? =some b):(bI l)[k]? =some (b.toNat:Int):=by simp[bI,h]
theorem aD5 (l:List Bool) (k:Nat):(bI l).take k=bI (l.take k):=List.map_take.symm
theorem aD6 (s:List UInt8) (k:Nat) (h:k<8*s.length):(kW s).take (k+1)=(kW s).take k++[dI s k]:=by
 rw[cQ,sP,if_pos h];rfl
theorem PP (v n k:Nat) (h:k<n):(aY v n).take (k+1)=(aY v n).take k++[v.testBit (n-1-k)]:=by
 rw[cQ,ID _ _ _ h];rfl
theorem PQ (s:ByteArray) (i:Nat) (w:World) (hi:i<8*s.size) (E:s.size<=140737488355328):
  Calls Tryz.prog 118 #[.string s,.int .i64 (i:Int)] w fun e w'=>e=.returned (.int .i64 ((dI s.data.toList i).toNat:Int))/\w'=w:=by
 have d:i/8<s.size:=by omega
 have F:(i:Int).tdiv 8=((i/8:Nat):Int):=by rw[AJ (by omega)];omega
 have G:(i:Int).tmod 8=((i%8:Nat):Int):=by rw[oJ (by omega)];omega
 have H:aI.wrap (7-((i%8:Nat):Int))=((7-i%8:Nat):Int):=by rw[aM];omega
 have z:=eW s (i/8) d;have I:=yH s[i/8].toNat (7-i%8);have A:dI s.data.toList i=s[i/8].toNat.testBit (7-i%8):=by unfold dI;rw[aV,z];rfl
 rw[A];have J:=s[i/8].toNat_lt;go_enter Tryz.func118,Tryz.ntmps118;go_wp2_with fail;go_ret;exact⟨rfl,rfl⟩
theorem aD7 (s:ByteArray) (w:World) (U:s.size<=1000000):
  Calls Tryz.prog 106 #[.string s] w fun e w'=>∃v,e=.returned v/\OwI w' w.heap.size v (bI (kW s.data.toList))/\Below w.heap.size w w':=by
 have z:=hid (show s.data.toList.length=s.size by simp);go_enter Tryz.func106,Tryz.ntmps106;go_wp2_with fail
 go_loopg [3,4] (8*s.size) (fun g H I wr=>∃k:Nat,k<=8*s.size/\g=8*s.size-k/\I=.int .i64 k/\OwI wr w.heap.size H (bI ((kW s.data.toList).take k))/\Below w.heap.size w wr)
 case atStart=>exact⟨0,aU _,rfl,rfl,OwI.nil _ _,aB _ _⟩
 case round=>
  obtain⟨k,V,A,rfl,E,d⟩:=hrel;have J:=hid A;clear A;have Y:aI.wrap (8*(s.size:Int))=8*(s.size:Int):=by rw[aM];omega
  by_cases F:k<8*s.size
  ·have t1:decide ((k:Int)<8*(s.size:Int))=true:=decide_eq_true (by omega);have L:(bI ((kW s.data.toList).take k)).length=k:=by rw[cN,aX,xZ,z.out];omega
   have Z:=d.size;have M:=hid (aD6 s.data.toList k (by rw[z.out];exact F));go_wp2_with fail;refine(PQ s k _ F (by omega)).mono ?_;rintro e G ⟨rfl,rfl⟩;go_wp2_with (at_builtin;refine eN rfl _ _ rfl w.heap.size _ _ rfl (E.alloc _) G.heap.size ((dI s.data.toList k).toNat:Int) rfl ?_ ?_ ?_ ?_;(exact bS _ _ _);(rw[L];omega);(simp;omega);intro v' G O T a0);have A:=J.out
   go_roundg (8*s.size-(k+1))
   case measure=>omega
   case rel=>
    refine⟨k+1,by omega,rfl,by go_num,?_,(d.alloc d.size _).trans T⟩;rw[M.out,gB];exact O
  ·have t1:decide ((k:Int)<8*(s.size:Int))=false:=decide_eq_false (by omega);go_wp2_with fail;go_ret;refine⟨_,rfl,?_,d⟩;rw[cS (by rw[xZ,z.out];omega)] at E;exact E
theorem uF (v n:Nat) (w:World) (_hv:v<18446744073709551616) (Y:n<=64):
  Calls Tryz.prog 41 #[.int .u64 (v:Int),.int .i64 (n:Int)] w fun e w'=>∃u,e=.returned u/\OwI w' w.heap.size u (bI (aY v n))/\Below w.heap.size w w':=by
 go_enter Tryz.func41,Tryz.ntmps41;go_wp2_with fail;have Z:aI.wrap ((n:Int)-1)=(n:Int)-1:=by rw[aM];omega
 go_loopg [5,6] n (fun g G H wr=>∃k:Nat,k<=n/\g=n-k/\H=.int .i64 ((n:Int)-1-(k:Int))/\OwI wr w.heap.size G (bI ((aY v n).take k))/\Below w.heap.size w wr)
 case atStart=>exact⟨0,aU _,rfl,by go_num,OwI.nil _ _,aB _ _⟩
 case round=>
  obtain⟨k,hk,A,rfl,E,d⟩:=hrel;have I:=hid A;clear A
  by_cases J:k<n
  ·have t1:decide ((n:Int)-1-(k:Int)>=0)=true:=decide_eq_true (by omega);have L:decide (0<=(n:Int)-1-(k:Int))=true:=decide_eq_true (by omega);obtain⟨j,z⟩:∃j:Nat,j=n-1-k:=⟨_,rfl⟩;have F:(n:Int)-1-(k:Int)=(j:Int):=by omega
   have M:(bI ((aY v n).take k)).length=k:=by rw[cN,aX,cY];omega
   have a0:=d.size;have O:=hid (PP v n k J);have e4:=yH v j;have eb:((v.testBit j).toNat:Int)<2:=by cases v.testBit j<;>decide
   have e6:wrap64 ((v.testBit j).toNat:Int)=((v.testBit j).toNat:Int):=by unfold wrap64;omega
   rw[F];have e7:min j 64=j:=by omega
   have T:=hid z;clear z F;go_wp2_with (at_builtin;refine eN rfl _ _ rfl w.heap.size _ _ rfl (E.alloc _) wr.heap.size ((v.testBit j).toNat:Int) rfl ?_ ?_ ?_ ?_;(exact bS _ _ _);(rw[M];omega);(simp;omega);intro v' w1 U V a1);have A:=I.out
   go_roundg (n-(k+1))
   case measure=>omega
   case rel=>
    have z:=T.out;refine⟨k+1,by omega,rfl,by go_num,?_,(d.alloc d.size _).trans V⟩;rw[O.out,gB,<-z];exact U
  ·have t1:decide ((n:Int)-1-(k:Int)>=0)=false:=decide_eq_false (by omega);have L:decide (0<=(n:Int)-1-(k:Int))=false:=decide_eq_false (by omega);go_wp2_with fail;go_ret;refine⟨_,rfl,?_,d⟩;rw[cS (by rw[cY];omega)] at E;exact E
theorem PR {s:List UInt8} {a k:Nat} (h:a+k<8*s.length):seg s a (k+1)=seg s a k++[dI s (a+k)]:=by
 unfold seg;rw[cQ]
 congr 1
 rw[gR,sP,if_pos h];rfl
theorem PS (s:List UInt8) (a:Nat):seg s a 0=[]:=by simp[seg]
theorem oP (s:ByteArray) (p:Int) (n:Nat) (w:World) (hs:s.size<=1000000) (hn:n<=64) (a4: -9223372036854775808<=p) (a5:p<=9223372036854775807):
  Calls Tryz.prog 53 #[.string s,.int .i64 p,.int .i64 (n:Int)] w fun e w'=>e=.returned (.tuple #[.int .u64 (aE s.data.toList p n:Nat),.int .i64 (aO s.size p n)])/\w'=w:=by
 have E:s.data.toList.length=s.size:=by simp
 have n1:decide ((n:Int)<0)=false:=decide_eq_false (by omega);have n2:decide ((n:Int)>64)=false:=decide_eq_false (by omega);have n3:decide (64<(n:Int))=false:=decide_eq_false (by omega);have m1:aI.wrap (8*(s.size:Int))=8*(s.size:Int):=by rw[aM];omega
 have m2:aI.wrap (8*(s.size:Int)-(n:Int))=8*(s.size:Int)-(n:Int):=by rw[aM];omega
 by_cases G:p<0
 ·have z:aO s.size p n=1:=by unfold aO;rw[if_pos G]
  have A:aE s.data.toList p n=0:=by unfold aE;rw[E,z,if_neg (by decide)]
  rw[z,A];have t1:decide (p<0)=true:=decide_eq_true G;clear E z A;go_enter Tryz.func53,Tryz.ntmps53;go_wp2_with fail
  go_ret2
  exact⟨rfl,rfl⟩
 ·have t1:decide (p<0)=false:=decide_eq_false G
  by_cases F:8*(s.size:Int)-(n:Int)<p
  ·have z:aO s.size p n=2:=by unfold aO;rw[if_neg G,if_pos F]
   have A:aE s.data.toList p n=0:=by unfold aE;rw[E,z,if_neg (by decide)]
   rw[z,A];have t2:decide (8*(s.size:Int)-(n:Int)<p)=true:=decide_eq_true F;have t3:decide (p>8*(s.size:Int)-(n:Int))=true:=decide_eq_true F;clear E z A;go_enter Tryz.func53,Tryz.ntmps53;go_wp2_with fail
   go_ret2
   exact⟨rfl,rfl⟩
  ·have z:aO s.size p n=0:=by unfold aO;rw[if_neg G,if_neg F]
   obtain⟨a,rfl⟩:∃a:Nat,p=(a:Int):=⟨p.toNat,by omega⟩;have a6:a+n<=8*s.size:=by omega
   have A:aE s.data.toList (a:Int) n=bY (seg s.data.toList a n):=by unfold aE;rw[E,z,if_pos rfl,eG]
   rw[z,A];have t2:decide (8*(s.size:Int)-(n:Int)<(a:Int))=false:=decide_eq_false F;have t3:decide ((a:Int)>8*(s.size:Int)-(n:Int))=false:=decide_eq_false F;have M:=hid E;clear E z A F;go_enter Tryz.func53,Tryz.ntmps53;go_wp2_with fail
   go_loopg [8,9] n (fun g s8 s9 wr=>∃k v:Nat,k<=n/\g=n-k/\s9=.int .i64 (k:Int)/\s8=.int .u64 (v:Int)/\v=bY (seg s.data.toList a k)/\wr=w)
   case atStart=>exact⟨0,0,by omega,rfl,rfl,rfl,by rw[PS];rfl,rfl⟩
   case round=>
    obtain⟨k,v,hk,J,rfl,rfl,H,rfl⟩:=hrel;have HG:=hid J;clear J
    by_cases a7:k<n
    ·have t4:decide ((k:Int)<(n:Int))=true:=decide_eq_true (by omega);have O:=qE (seg s.data.toList a k);rw[vR (by rw[M.out];omega),<-H] at O;have T:2^k<=2^63:=jC (by decide) (by omega);have U:(2:Nat)^63=9223372036854775808:=by decide
     rw[U] at T;have a2:v<9223372036854775808:=by omega
     clear U T O;have V:=PR (s:=s.data.toList) (a:=a) (k:=k) (by rw[M.out];omega);obtain⟨q,Y⟩:∃q:Nat,q=a+k:=⟨_,rfl⟩;obtain⟨b,I⟩:∃b:Nat,b=(dI s.data.toList q).toNat:=⟨_,rfl⟩;have a8:b<2:=by rw[I];cases dI s.data.toList q<;>decide
     have L:=hid (show 2*v+b=bY (seg s.data.toList a (k+1)) by rw[V,rF,<-H,<-Y,<-I]);have hq8:q<8*s.size:=by omega
     have m3:aI.wrap ((a:Int)+(k:Int))=(q:Int):=by rw[aM];omega
     obtain⟨d,Z⟩:∃d:Nat,d=2*v:=⟨_,rfl⟩;have m4:fU.wrap (2*(v:Int))=(d:Int):=by rw[gF];omega
     have m5:fU.wrap (b:Int)=(b:Int):=by rw[gF];omega
     obtain⟨v2,a0⟩:∃v2:Nat,v2=d+b:=⟨_,rfl⟩;have m6:fU.wrap ((d:Int)+(b:Int))=(v2:Int):=by rw[gF];omega
     have a3:=hid (show v2=bY (seg s.data.toList a (k+1)) by rw[<-L.out,a0,Z]);have HB:=hid I;clear V H Y I Z a0 a2;go_wp2_with fail;refine(PQ s q _ hq8 (by omega)).mono ?_;rintro e w1 ⟨rfl,rfl⟩;rw[<-HB.out];go_wp2_with fail;have J:=HG.out
     go_roundg (n-(k+1))
     case measure=>omega
     case rel=>exact⟨k+1,v2,by omega,rfl,by go_num,rfl,a3.out,rfl⟩
    ·have t4:decide ((k:Int)<(n:Int))=false:=decide_eq_false (by omega);have a1:k=n:=by omega
     have L:=hid (show(v:Int)=((bY (seg s.data.toList a n):Nat):Int) by rw[H,a1]);clear H a1;go_wp2_with fail
     go_ret2
     exact⟨by rw[L.out];rfl,rfl⟩
def sS (b:Bool):Nat:=if b then 128 else 0
theorem IW (s:ByteArray) (i:Nat) (w:World) (hi:i<8*s.size) (L:s.size<=140737488355328):
  Calls Tryz.prog 73 #[.string s,.int .i64 (i:Int)] w fun e w'=>e=.returned (.int .u8 (sS (dI s.data.toList i):Nat))/\w'=w:=by
 have H:i/8<s.size:=by omega
 have M:(i:Int).tdiv 8=((i/8:Nat):Int):=by rw[AJ (by omega)];omega
 have I:(i:Int).tmod 8=((i%8:Nat):Int):=by rw[oJ (by omega)];omega
 have d:=eW s (i/8) H;have J:=s[i/8].toNat_lt;have z:i%8<8:=jQ _ (by decide);have A:=aD1 s[i/8].toNat (i%8) J z;have E:dI s.data.toList i=s[i/8].toNat.testBit (7-i%8):=by unfold dI;rw[aV,d];rfl
 have F:((sS (dI s.data.toList i):Nat):Int)=if s[i/8].toNat.testBit (7-i%8)=true then 128 else 0:=by rw[E];unfold sS;split<;>rfl
 rw[xQ,<-F] at A;clear E F d;generalize sS (dI s.data.toList i)=t at*
 obtain⟨k,G⟩:∃k,k=i%8:=⟨_,rfl⟩;rw[<-G] at I A z;clear G;have O:min k 8=k:=by omega
 go_enter Tryz.func73,Tryz.ntmps73;go_wp2_with fail;go_ret;exact⟨rfl,rfl⟩
theorem sT (s:ByteArray) (p:Int) (n:Nat) (w:World) (hs:s.size<=1000000) (hn:n<=64) (a4: -9223372036854775808<=p) (a5:p<=9223372036854775807):
  Calls Tryz.prog 23 #[.string s,.int .i64 p,.int .i64 (n:Int)] w fun e w'=>e=.returned (.tuple #[.int .u64 (aE s.data.toList p n:Nat),.int .i64 (aO s.size p n)])/\w'=w:=by
 have E:s.data.toList.length=s.size:=by simp
 have n1:decide ((n:Int)<0)=false:=decide_eq_false (by omega);have n2:decide ((n:Int)>64)=false:=decide_eq_false (by omega);have n3:decide (64<(n:Int))=false:=decide_eq_false (by omega);have m1:aI.wrap (8*(s.size:Int))=8*(s.size:Int):=by rw[aM];omega
 have m2:aI.wrap (8*(s.size:Int)-(n:Int))=8*(s.size:Int)-(n:Int):=by rw[aM];omega
 by_cases G:p<0
 ·have z:aO s.size p n=1:=by unfold aO;rw[if_pos G]
  have A:aE s.data.toList p n=0:=by unfold aE;rw[E,z,if_neg (by decide)]
  rw[z,A];have t1:decide (p<0)=true:=decide_eq_true G;clear E z A;go_enter Tryz.func23,Tryz.ntmps23;go_wp2_with fail
  go_ret2
  exact⟨rfl,rfl⟩
 ·have t1:decide (p<0)=false:=decide_eq_false G
  by_cases F:8*(s.size:Int)-(n:Int)<p
  ·have z:aO s.size p n=2:=by unfold aO;rw[if_neg G,if_pos F]
   have A:aE s.data.toList p n=0:=by unfold aE;rw[E,z,if_neg (by decide)]
   rw[z,A];have t2:decide (8*(s.size:Int)-(n:Int)<p)=true:=decide_eq_true F;have t3:decide (p>8*(s.size:Int)-(n:Int))=true:=decide_eq_true F;clear E z A;go_enter Tryz.func23,Tryz.ntmps23;go_wp2_with fail
   go_ret2
   exact⟨rfl,rfl⟩
  ·have z:aO s.size p n=0:=by unfold aO;rw[if_neg G,if_neg F]
   obtain⟨a,rfl⟩:∃a:Nat,p=(a:Int):=⟨p.toNat,by omega⟩;have a6:a+n<=8*s.size:=by omega
   have A:aE s.data.toList (a:Int) n=bY (seg s.data.toList a n):=by unfold aE;rw[E,z,if_pos rfl,eG]
   rw[z,A];have t2:decide (8*(s.size:Int)-(n:Int)<(a:Int))=false:=decide_eq_false F;have t3:decide ((a:Int)>8*(s.size:Int)-(n:Int))=false:=decide_eq_false F;have U:=hid E;clear E z A F;go_enter Tryz.func23,Tryz.ntmps23;go_wp2_with fail
   go_loopg [6,8,29] n (fun g s8 _s x9 wr=>∃k v:Nat,k<=n/\g=n-k/\x9=.int .i64 (k:Int)/\s8=.int .u64 (v:Int)/\v=bY (seg s.data.toList a k)/\wr=w)
   case atStart=>exact⟨0,0,by omega,rfl,rfl,rfl,by rw[PS];rfl,rfl⟩
   case round=>
    obtain⟨k,v,hk,J,rfl,rfl,H,rfl⟩:=hrel;have HG:=hid J;clear J
    by_cases a7:k<n
    ·have t4:decide ((k:Int)<(n:Int))=true:=decide_eq_true (by omega);have V:=qE (seg s.data.toList a k);rw[vR (by rw[U.out];omega),<-H] at V;have Y:2^k<=2^63:=jC (by decide) (by omega);have Z:(2:Nat)^63=9223372036854775808:=by decide
     rw[Z] at Y;have a2:v<9223372036854775808:=by omega
     clear Z Y V;have a0:=PR (s:=s.data.toList) (a:=a) (k:=k) (by rw[U.out];omega);obtain⟨q,hq⟩:∃q:Nat,q=a+k:=⟨_,rfl⟩;obtain⟨b,I⟩:∃b:Nat,b=(dI s.data.toList q).toNat:=⟨_,rfl⟩;have a8:b<2:=by rw[I];cases dI s.data.toList q<;>decide
     have L:=hid (show 2*v+b=bY (seg s.data.toList a (k+1)) by rw[a0,rF,<-H,<-hq,<-I]);have hq8:q<8*s.size:=by omega
     have m3:aI.wrap ((a:Int)+(k:Int))=(q:Int):=by rw[aM];omega
     obtain⟨d,M⟩:∃d:Nat,d=2*v:=⟨_,rfl⟩;have m4:fU.wrap ((v:Int)*2)=(d:Int):=by rw[gF];omega
     have m5:fU.wrap (b:Int)=(b:Int):=by rw[gF];omega
     obtain⟨t,O⟩:∃t:Nat,t=sS (dI s.data.toList q):=⟨_,rfl⟩;have m7:(t:Int)/128=(b:Int):=by rw[O,I];cases dI s.data.toList q<;>rfl
     have HT:=hid O;obtain⟨v2,T⟩:∃v2:Nat,v2=d+b:=⟨_,rfl⟩;have m6:bits .or .u64 (d:Int) (b:Int)=(v2:Int):=by
      have:=IV v (dI s.data.toList q) (by omega);rw[m4,<-I] at this;rw[this,T,M]
     have a3:=hid (show v2=bY (seg s.data.toList a (k+1)) by rw[<-L.out,T,M]);clear a0 H hq I M T a2 O;go_wp2_with fail;refine(IW s q _ hq8 (by omega)).mono ?_;rintro e w1 ⟨rfl,rfl⟩;rw[<-HT.out];go_wp2_with fail;have J:=HG.out
     go_roundg (n-(k+1))
     case measure=>omega
     case rel=>exact⟨k+1,v2,by omega,rfl,by go_num,rfl,a3.out,rfl⟩
    ·have t4:decide ((k:Int)<(n:Int))=false:=decide_eq_false (by omega);have a1:k=n:=by omega
     have L:=hid (show(v:Int)=((bY (seg s.data.toList a n):Nat):Int) by rw[H,a1]);clear H a1;go_wp2_with fail
     go_ret2
     exact⟨by rw[L.out];rfl,rfl⟩
def qG (l:List Bool):Nat->Nat
 |0=>0
 |k+1=>2*qG l k+(l.getD k false).toNat
theorem PT (l:List Bool):∀k,qG l k<2^k
 |0=>by simp[qG]
 |k+1=>by
  have:=PT l k;have d:(l.getD k false).toNat<2:=by cases l.getD k false<;>decide
  unfold qG;rw[nQ];omega
theorem aD8 (l:List Bool):qG l 8=tZ l:=rfl
theorem aD9 (l:List Bool) (j:Nat) (h:j<(l.length+7)/8):(aD l).take (j+1)=(aD l).take j++[uA (l.drop (8*j))]:=by
 rw[cQ]
 congr 1
 unfold aD;rw[List.getElem?_map,List.getElem?_range h];rfl
theorem IX {z:Array Oper} {rest:List Oper} {o:Oper} {a:Act} {Q:Exit->Act->World->Prop} {w:World} (A:o.guard=none) (s x:Operand)
  (E:o.op=.call {callee:=.builtin .append,args:=#[s,x],argTypes:=#[45,45]}) (base:Nat) (v:Value) (l:List UInt8) (hs:a.eval s=v) (hown:OwB w base v l)
  (g:Nat) (b:UInt8) (hx:a.eval x=.slice (some ⟨g,0,none⟩) 1 1) (hc:w.cell? ⟨g,0,none⟩=some (.int .u8 (b.toNat:Int))) (hroom:(l.length+1)*1<=140737488355328) (hbase:base<=w.heap.size)
  (h:∀d w',OwB w' base d (l++[b])->Below base w w'->w.grownBy w' v.ownBlock->wpList Tryz.prog z Q rest (a.put o.dst d) w'):wpList Tryz.prog z Q (o::rest) a w:=
 rD vQ A s x E base v _ hs hown g _ hx hc rfl (by simpa using hroom) hbase (fun d w' F G H=>h d w' (by unfold OwB;rw[IC];exact F) G H)
theorem mF:(Tryz.prog.info? 29).map (·.size)=some 2:=by kernel_rfl
theorem uG (v:Value) (l:List Bool) (w:World) (hr:RdI w v (bI l)) (hl:l.length<=1000000):
  Calls Tryz.prog 49 #[v] w fun e w'=>e=.returned (.agg #[.string (mkS (aD l)),.int .i64 (l.length:Int)])/\Below w.heap.size w w':=by
 obtain⟨a,ca,rfl,a6,a7,M⟩:=hr.open;rw[cN] at a6 M;simp only[cN];unfold maxLen at a7;clear hr;have HA:=hid M;clear M;go_enter Tryz.func49,Tryz.ntmps49;go_wp2_with fail;have hR:=Arr.new w 29 [.string {data:=#[]},.int .i64 0];have a8:Below w.heap.size w (w.alloc (.cells #[.string {data:=#[]},.int .i64 0] 29)):=bD (aB _ _) _;change Arr (w.alloc (.cells #[.string {data:=#[]},.int .i64 0] 29)) _ _ _ at hR;generalize w.alloc (.cells #[.string {data:=#[]},.int .i64 0] 29)=w0 at*
 go_loopg [3,4,5,6] ((l.length+7)/8) (fun g s3 s4 _s5 _s6 wr=>∃j i:Nat,i=8*j/\j<=(l.length+7)/8/\g=(l.length+7)/8-j/\s4=.int .i64 (i:Int)/\OwB wr (w.heap.size+1) s3 ((aD l).take j)/\Arr wr w.heap.size 29 [.string {data:=#[]},.int .i64 0]/\Below w.heap.size w wr)
 case atStart=>exact⟨0,0,rfl,aU _,rfl,rfl,Ow.nil _ _ _,hR,a8⟩
 case round=>
  obtain⟨j,i,hi,hj,O,rfl,T,z,F⟩:=hrel;have HG:=hid O;clear O;have b4:=F.size;have b5:=z.lt;have U:((aD l).take j).length=j:=by rw[aX,gY];omega
  have HS:=hid (aD9 l j);obtain⟨L,V⟩:∃L,L=l.drop i:=⟨_,rfl⟩;have Y:=hid V;have HI:=hid hi;have a9:=hid U
  by_cases b6:i<l.length
  ·have t1:decide ((i:Int)<(l.length:Int))=true:=decide_eq_true (by omega);clear V hi U;go_wp2_with fail
   go_loopg [5,6] 8 (fun g s5 s6 wx=>∃k n:Nat,n=qG L k/\k<=8/\g=8-k/\s6=.int .i64 (k:Int)/\s5=.int .i64 (n:Int)/\wx=wr)
   case atStart=>exact⟨0,0,rfl,by omega,rfl,rfl,rfl,rfl⟩
   case round=>
    obtain⟨k,n,Z,hk,G,rfl,rfl,rfl⟩:=hrel;have a0:=hid G;clear G;have a1:=PT L k;rw[<-Z] at a1;have hp:2^k<=256:=Nat.le_trans (jC (by decide) hk) (by decide);have b7:n<256:=by omega
    have HN:=hid Z;clear Z a1 hp
    by_cases b8:k<8
    ·have t2:decide ((k:Int)<8)=true:=decide_eq_true (by omega);obtain⟨d,H⟩:∃d:Nat,d=2*n:=⟨_,rfl⟩;obtain⟨q,I⟩:∃q:Nat,q=i+k:=⟨_,rfl⟩;have b9:q<2000000:=by omega
     have hs:=hid (show qG L (k+1)=2*qG L k+(L.getD k false).toNat from rfl)
     by_cases b0:q<l.length
     ·have t3:decide ((q:Int)<(l.length:Int))=true:=decide_eq_true (by omega);obtain⟨b1,o1,rfl,b2,a2⟩:=HA.out (by omega);have a3:(bI l)[q]? =some ((L.getD k false).toNat:Int):=by
       refine aD4 ?_;rw[Y.out,aV,gR,<-I,aN b0];rfl
      have c1:wr.cell? ⟨b1,o1+q,none⟩=some (.int .i64 ((L.getD k false).toNat:Int)):=by rw[F.cell (p:=⟨b1,o1+q,none⟩) b2];exact a2 _ _ a3
      obtain⟨A,J⟩:∃A:Nat,A=(L.getD k false).toNat:=⟨_,rfl⟩;have c0:A<2:=by rw[J];cases L.getD k false<;>decide
      rw[<-J] at c1;obtain⟨E,a4⟩:∃E:Nat,E=d+A:=⟨_,rfl⟩;have m1:aI.wrap (2*(n:Int))=(d:Int):=by rw[aM];omega
      have m2:aI.wrap ((i:Int)+(k:Int))=(q:Int):=by rw[aM];omega
      have m3:aI.wrap ((d:Int)+(A:Int))=(E:Int):=by rw[aM];omega
      have HE:=hid (show E=qG L (k+1) by rw[hs.out,<-HN.out,<-J,a4,H]);clear a2 a3 J a4 H I;go_wp2_with fail;have G:=a0.out
      go_roundg (8-(k+1))
      case measure=>omega
      case rel=>exact⟨k+1,E,HE.out,by omega,rfl,by go_num,rfl,rfl⟩
     ·have t3:decide ((q:Int)<(l.length:Int))=false:=decide_eq_false (by omega);have HE:=hid (show d=qG L (k+1) by
       rw[hs.out,<-HN.out,Y.out,aV,gR,<-I,dL (by omega),H];rfl)
      have m1:aI.wrap (2*(n:Int))=(d:Int):=by rw[aM];omega
      have m2:aI.wrap ((i:Int)+(k:Int))=(q:Int):=by rw[aM];omega
      clear H I;go_wp2_with fail;have G:=a0.out
      go_roundg (8-(k+1))
      case measure=>omega
      case rel=>exact⟨k+1,d,HE.out,by omega,rfl,by go_num,rfl,rfl⟩
    ·have t2:decide ((k:Int)<8)=false:=decide_eq_false (by omega);have m4:pX.wrap (n:Int)=(n:Int):=by rw[xQ];omega
     have hv:uA (l.drop (8*j))=eK n:=by
      unfold uA;rw[<-HI.out,<-Y.out,<-aD8,<-show k=8 by omega,<-HN.out]
     have e1:((eK n).toNat:Int)=(n:Int):=by rw[nP,kU (by omega)]
     have HV:=hid hv;clear hv;go_wp2_with (at_builtin;refine IX rfl _ _ rfl (w.heap.size+1) _ _ rfl (Ow.alloc T _) wr.heap.size (eK n) rfl ?_ ?_ ?_ ?_;(rw[e1];exact bS _ _ _);(rw[a9.out];omega);(simp;omega);intro v' w3 b3 hB c2);have O:=HG.out;have hi:=HI.out
     go_roundg ((l.length+7)/8-(j+1))
     case measure=>omega
     case rel=>
      refine⟨j+1,i+8,by omega,by omega,rfl,by go_num,?_,(z.alloc _).below hB (Nat.lt_succ_self _),(bD F _).trans (hB.mono (by omega))⟩;rw[HS.out (by omega),HV.out];exact b3
  ·have t1:decide ((i:Int)<(l.length:Int))=false:=decide_eq_false (by omega);have a5:(aD l).take j=aD l:=cS (by rw[gY];omega);rw[a5] at T;clear a5 U V hi;have c3:=lQ T.rd;have r0:=z.free 0;have r1:=z.free 1;have r2:=z.cell (i:=0) rfl;have r3:=z.cell (i:=1) rfl;go_wp2_with fail;refine gJ (results_cell_row rfl _ _ w.heap.size _ _ (0,0) _ rfl ((z.set 0 _).set 1 _) Tryz.underlying29 rfl mF) rfl ?_;exact⟨rfl,(F.setCell (p:=⟨w.heap.size,0,none⟩) (aA _) _).setCell (p:=⟨w.heap.size,1,none⟩) (aA _) _⟩
abbrev WrR (p g k:Nat) (v:Value) (n:Int) (w':World):Prop:=
 w'.cell? ⟨p,0,none⟩=some v/\w'.cell? ⟨p,1,none⟩=some (.int .i64 n)/\w'.frozen? ⟨g,k,none⟩=false
def WrS (w:World) (p B:Nat) (l:List Bool):Prop:=∃v,Arr w p 175 [v,.int .i64 (l.length:Int)]/\OwB w B v (aD l)
theorem OwB.open {w:World} {B:Nat} {v:Value} {l:List UInt8} (h:OwB w B v l):∃a c,v=.slice a l.length c/\l.length<=c/\c<=maxLen:=by
 have d:=h.rd;obtain⟨a,c,e,z,A,_⟩:=d;exact⟨a,c,e,z,A⟩
theorem OwB.at {w:World} {B c:Nat} {a:Option Addr} {l:List UInt8} (h:OwB w B (.slice a l.length c) l) {k:Nat} (G:k<l.length):∃g,a=some ⟨g,0,none⟩/\B<=g/\g<w.heap.size/\w.cell? ⟨g,k,none⟩=some (.int .u8 (l[k].toNat:Int))/\w.frozen? ⟨g,k,none⟩=false/\∀y:UInt8,OwB (w.setCell ⟨g,k,none⟩ (.int .u8 (y.toNat:Int))) B (.slice a l.length c) (l.set k y):=by
 have H:(eO l).length=l.length:=by simp[eO]
 rcases h.2 with⟨e,_⟩|⟨g,cap,d,e,A,z,E,I,J,F⟩
 ·injection e with _ e2 _;omega
 ·rw[H] at e E F
  injection e with e1 e2 e3
  subst e1;subst e3;have L:k<d.size:=by omega
  refine⟨g,rfl,A,(Array.getElem?_eq_some_iff.1 z).1,?_,frozen_of_row w g k d _ z,fun y=>?_⟩
  ·rw[cell_of_row w g k d _ (0,0) z];have:d.toList[k]? =(eO l)[k]? :=by
    rw[<-F,List.getElem?_take,if_pos (by omega)]
   rw[<-Array.getElem?_toList,this,BH (aN G)]
  ·refine⟨by simp[eO],.inr ⟨g,c,d.setIfInBounds k (.int .u8 (y.toNat:Int)),by simp[eO],A,?_,by simpa [eO] using E,I,by simpa using J,?_⟩⟩
   ·rw[heap_setCell_same w g k d _ _ z]
   ·rw[show(eO (l.set k y)).length=l.length by simp[eO],Array.toList_setIfInBounds,List.take_set,<-OR]
    congr 1
theorem OwB.setLow {w:World} {B:Nat} {v:Value} {l:List UInt8} (h:OwB w B v l) {p:Addr} (F:p.block<B) (x:Value):OwB (w.setCell p x) B v l:=by
 refine⟨h.1,?_⟩;rcases h.2 with d|⟨g,cap,z,rfl,A,E,rest⟩
 ·exact .inl d
 ·refine .inr ⟨g,cap,z,rfl,A,?_,rest⟩;rw[heap_setCell_other w p g x (fun e=>by omega)];exact E
def nU (w w':World):Prop:=∀(g:Nat) (cs:List Value),Arr w g 29 cs->Arr w' g 29 cs
theorem OwB.ne_arr {w:World} {B g:Nat} {v:Value} {l:List UInt8} {cs:List Value} (h:OwB w B v l) (d:Arr w g 29 cs):some g≠v.ownBlock:=by
 intro e;rcases h.2 with⟨z,_⟩|⟨E,cap,F,z,_,A,_⟩
 ·rw[z] at e;simp[Value.ownBlock] at e
 ·rw[z] at e;simp[Value.ownBlock] at e;subst e;unfold Arr at d;rw[A] at d
  injection d with d
  injection d with _ h2 _
  exact absurd h2 (by decide)
theorem Arr.ne_wr {w:World} {p g:Nat} {xs cs:List Value} (h:Arr w p 175 xs) (d:Arr w g 29 cs):p≠g:=by
 rintro rfl;unfold Arr at h d;rw[h] at d
 injection d with d
 injection d with _ h2 _
 exact absurd h2 (by decide)
theorem OwB.openN {w:World} {B:Nat} {v:Value} {l:List UInt8} (h:OwB w B v l):∃a n c,v=.slice a n c/\Hid (n=l.length)/\n<=c/\c<=maxLen:=by
 obtain⟨a,c,e,d,z⟩:=h.open;exact⟨a,l.length,c,e,hid rfl,d,z⟩
theorem aEa (p B:Nat) (l:List Bool) (b:Bool) (w:World) (h:WrS w p B l) (hp:p<B) (hB:B<=w.heap.size) (hl:l.length<=1000000) (h8:l.length%8=0):
  Calls Tryz.prog 129 #[.pointer (some ⟨p,0,none⟩),.bool b] w fun e w'=>e=.returned (.tuple #[])/\WrS w' p B (l++[b])/\Below p w w'/\nU w w':=by
 obtain⟨v,J,a1⟩:=h;obtain⟨a,c,rfl,c6,c7⟩:=a1.open;have c0:=J.cell (i:=0) rfl;have c1:=J.cell (i:=1) rfl;have f0:=J.free 0;have f1:=J.free 1;have e2:((l.length:Nat):Int).tmod 8=0:=by rw[oJ (by omega)];omega
 have a2:(aD l).length=l.length/8:=by rw[gY];omega
 have b2:=aDk h8 b;have b7:((aD l).length+1)*1<=140737488355328:=by omega
 have HS:=hid b2;have HP:=hid a2;clear b2 a2;go_enter Tryz.func129,Tryz.ntmps129;go_upto_region 2 with(at_builtin;refine IX rfl _ _ rfl B _ _ rfl (Ow.alloc a1 _) w.heap.size (0:UInt8) rfl ?_ ?_ ?_ ?_;(exact bS _ _ _);(exact b7);(simp;omega);intro v3 w3 a6 a7 b3;(have M:=(J.alloc _).below a7 hp);(have T:=M.cell (i:=0) rfl);(have U:=M.cell (i:=1) rfl);(have q0:=M.free 0);(have q1:=M.free 1);(obtain⟨L,z,G,rfl,b8,c8,c9⟩:=a6.openN));have O:nU w (w3.setCell ⟨p,0,none⟩ (.slice L z G)):=fun A E F=>
  (((F.alloc _).grown b3 (a1.ne_arr F)).other ⟨p,0,none⟩ (J.ne_wr F) _)
 have a4:=a6.setLow (p:=⟨p,0,none⟩) hp (.slice L z G);have H:=M.set 0 (.slice L z G);change Arr (w3.setCell ⟨p,0,none⟩ (.slice L z G)) p 175 [.slice L z G,.int .i64 (l.length:Int)] at H;have a8:Below p w (w3.setCell ⟨p,0,none⟩ (.slice L z G)):=(((aB p w).alloc (by omega) _).trans (a7.mono (by omega))).setCell (p:=⟨p,0,none⟩) (aA _) _;clear b3 a7 M T U q0 q1 a6 J a1 c0 c1 f0 f1;generalize w3.setCell ⟨p,0,none⟩ (.slice L z G)=I at*
 have T:=H.cell (i:=0) rfl;have U:=H.cell (i:=1) rfl;have q0:=H.free 0;have q1:=H.free 1;have a9:=b8.out;have hk:(aD l).length<(aD l++[0]).length:=by simp
 have b9:(aD l++[(0:UInt8)]).length=(aD l).length+1:=by simp
 have b0:=a4;rw[a9] at b0;obtain⟨g,c2,d0,d1,cg,V,b4⟩:=b0.at hk;have e0:(aD l++[(0:UInt8)])[(aD l).length]=0:=by simp
 rw[e0] at cg;have es:(aD l++[(0:UInt8)]).set (aD l).length 128=aD l++[128]:=by simp
 have a5:=b4 128;rw[es,<-a9] at a5;obtain⟨k,b1⟩:∃k,k=(aD l).length:=⟨_,rfl⟩;rw[<-b1] at cg V a5;have a2:=HP.out;have m1:aI.wrap ((z:Int)-1)=(k:Int):=by rw[aM];omega
 have m2:(0:Int)<=(k:Int):=by omega
 have m3:(k:Int)<(z:Int):=by omega
 have d2:k<z:=by omega
 have m4:¬g=p:=by omega
 have d3:¬p=g:=by omega
 have m5:bits .or .u8 0 128=128:=by decide
 have m6:aI.wrap ((l.length:Int)+1)=(l.length:Int)+1:=by rw[aM];omega
 have b5:((l++[b]).length:Int)=(l.length:Int)+1:=by simp
 subst c2;have b6:∀A E,Arr I A 29 E->g≠A:=fun A E F e=>a4.ne_arr F (by rw[e];rfl)
 have HK:=hid b1;clear b1 b9 hk a9 b0 b4 es e0 a2
 cases b with
 |true=>
  go_upto_region 3 with fail;refine vI (S:=(fun w'=>w'.cell? ⟨p,0,none⟩=some (.slice (some ⟨g,0,none⟩) z G)/\w'.cell? ⟨p,1,none⟩=some (.int .i64 (l.length:Int))/\w'.frozen? ⟨g,k,none⟩=false)) (by kernel_rfl) (show WrR p g k _ _ I.drew from⟨T,U,V⟩) (fun d4=>?_);refine aQ (i:=0) (oi:=?oia0) (v:=?va0) ?hia0 (by kernel_rfl) (by kernel_rfl) (by kernel_rfl) ?hqa0 ?hya0 (by assumption) ?_
  case hia0=>(simp only[aR,aP];rfl)
  case hqa0=>exact fun _ _ _ h=>h
  case hya0=>(refine aT ⟨by rfl,?_⟩;intro w' d;(try dsimp only at d);(try go_simp);try with_reducible rfl)
  try simp only[aJ,aK,aH,aG]
  refine aQ (i:=1) (oi:=?oia1) (v:=?va1) ?hia1 (by kernel_rfl) (by kernel_rfl) (by kernel_rfl) ?hqa1 ?hya1 (by assumption) ?_
  case hia1=>(simp only[aR,aS,aP];rfl)
  case hqa1=>exact fun _ _ _ h=>h
  case hya1=>(refine aT ⟨by rfl,?_⟩;intro w' d;(try dsimp only at d);(try go_simp);try with_reducible rfl)
  try simp only[aJ,aK,aH,aG]
  refine aQ (i:=2) (oi:=?oia2) (v:=?va2) ?hia2 (by kernel_rfl) (by kernel_rfl) (by kernel_rfl) ?hqa2 ?hya2 (by assumption) ?_
  case hia2=>(simp only[aR,aS,aP];rfl)
  case hqa2=>exact fun _ _ _ h=>h
  case hya2=>(refine aT ⟨by rfl,?_⟩;intro w' d;(try dsimp only at d);(try go_simp);try with_reducible rfl)
  try simp only[aJ,aK,aH,aG]
  refine aQ (i:=3) (oi:=?oia3) (v:=?va3) ?hia3 (by kernel_rfl) (by kernel_rfl) (by kernel_rfl) ?hqa3 ?hya3 (by assumption) ?_
  case hia3=>(simp only[aR,aS,aP];rfl)
  case hqa3=>exact fun _ _ _ h=>h
  case hya3=>(refine aT ⟨by rfl,?_⟩;intro w' d;(try dsimp only at d);(try go_simp);try with_reducible rfl)
  try simp only[aJ,aK,aH,aG]
  refine aQ (i:=4) (oi:=?oia4) (v:=?va4) ?hia4 (by kernel_rfl) (by kernel_rfl) (by kernel_rfl) ?hqa4 ?hya4 (by assumption) ?_
  case hia4=>(simp only[aR,aS,aP];rfl)
  case hqa4=>exact fun _ _ _ h=>h
  case hya4=>(refine aT ⟨by rfl,?_⟩;intro w' d;(try dsimp only at d);(try go_simp);try with_reducible rfl)
  try simp only[aJ,aK,aH,aG]
  refine aQ (i:=5) (oi:=?oia5) (v:=?va5) ?hia5 (by kernel_rfl) (by kernel_rfl) (by kernel_rfl) ?hqa5 ?hya5 (by assumption) ?_
  case hia5=>(simp only[aR,aS,aP];rfl)
  case hqa5=>exact fun _ _ _ h=>h
  case hya5=>(refine aT ⟨by rfl,?_⟩;intro w' d;(try dsimp only at d);(try go_simp);try with_reducible rfl)
  try simp only[aJ,aK,aH,aG]
  refine aQ (i:=6) (oi:=?oia6) (v:=?va6) ?hia6 (by kernel_rfl) (by kernel_rfl) (by kernel_rfl) ?hqa6 ?hya6 (by assumption) ?_
  case hia6=>(simp only[aR,aS,aP];rfl)
  case hqa6=>exact fun _ _ _ h=>h
  case hya6=>(refine aT ⟨by rfl,?_⟩;intro w' d;(try dsimp only at d);(try go_simp);try with_reducible rfl)
  try simp only[aJ,aK,aH,aG]
  refine aQ (i:=7) (oi:=?oia7) (v:=?va7) ?hia7 (by kernel_rfl) (by kernel_rfl) (by kernel_rfl) ?hqa7 ?hya7 (by assumption) ?_
  case hia7=>(simp only[aR,aS,aP];rfl)
  case hqa7=>exact fun _ _ _ h=>h
  case hya7=>(refine aT ⟨by rfl,?_⟩;intro w' d;(try dsimp only at d);(try go_simp);try with_reducible rfl)
  try simp only[aJ,aK,aH,aG]
  refine aQ (i:=8) (oi:=?oia8) (v:=?va8) ?hia8 (by kernel_rfl) (by kernel_rfl) (by kernel_rfl) ?hqa8 ?hya8 (by assumption) ?_
  case hia8=>(simp only[aR,aS,aP];rfl)
  case hqa8=>exact fun _ _ _ h=>h
  case hya8=>(refine aT ⟨by rfl,?_⟩;intro w' d;(try dsimp only at d);(try go_simp);try with_reducible rfl)
  try simp only[aJ,aK,aH,aG]
  refine aQ (i:=9) (oi:=?oia9) (v:=?va9) ?hia9 (by kernel_rfl) (by kernel_rfl) (by kernel_rfl) ?hqa9 ?hya9 (by assumption) ?_
  case hia9=>(simp only[aR,aS,aP];rfl)
  case hqa9=>exact fun _ _ _ h=>h
  case hya9=>(refine aT ⟨by rfl,?_⟩;intro w' d;(try dsimp only at d);(try go_simp);try with_reducible rfl)
  try simp only[aJ,aK,aH,aG]
  refine aQ (i:=10) (oi:=?oia10) (v:=?va10) ?hia10 (by kernel_rfl) (by kernel_rfl) (by kernel_rfl) ?hqa10 ?hya10 (by assumption) ?_
  case hia10=>(simp only[aR,aS,aP];rfl)
  case hqa10=>exact fun _ _ _ h=>h
  case hya10=>(refine aT ⟨by rfl,?_⟩;intro w' d;(try dsimp only at d);(try go_simp);try with_reducible rfl)
  try simp only[aJ,aK,aH,aG]
  refine aQ (i:=12) (oi:=?oia12) (v:=?va12) ?hia12 (by kernel_rfl) (by kernel_rfl) (by kernel_rfl) ?hqa12 ?hya12 (by assumption) ?_
  case hia12=>(simp only[aR,aS,aP];rfl)
  case hqa12=>exact fun _ _ _ h=>h
  case hya12=>(refine aT ⟨by rfl,?_⟩;intro w' d;(try dsimp only at d);(try go_simp);try with_reducible rfl)
  try simp only[aJ,aK,aH,aG]
  refine aQ (i:=13) (oi:=?oia13) (v:=?va13) ?hia13 (by kernel_rfl) (by kernel_rfl) (by kernel_rfl) ?hqa13 ?hya13 (by assumption) ?_
  case hia13=>(simp only[aR,aS,aP];rfl)
  case hqa13=>exact fun _ _ _ h=>h
  case hya13=>(refine aT ⟨by rfl,?_⟩;intro w' d;(try dsimp only at d);(try go_simp);try with_reducible rfl)
  try simp only[aJ,aK,aH,aG]
  refine aQ (i:=14) (oi:=?oia14) (v:=?va14) ?hia14 (by kernel_rfl) (by kernel_rfl) (by kernel_rfl) ?hqa14 ?hya14 (by assumption) ?_
  case hia14=>(simp only[aR,aS,aP];rfl)
  case hqa14=>exact fun _ _ _ h=>h
  case hya14=>(refine aT ⟨by rfl,?_⟩;intro w' d;(try dsimp only at d);(try go_simp);try with_reducible rfl)
  try simp only[aJ,aK,aH,aG]
  refine aQ (i:=15) (oi:=?oia15) (v:=?va15) ?hia15 (by kernel_rfl) (by kernel_rfl) (by kernel_rfl) ?hqa15 ?hya15 (by assumption) ?_
  case hia15=>(simp only[aR,aS,aP];rfl)
  case hqa15=>exact fun _ _ _ h=>h
  case hya15=>(refine aT ⟨by rfl,?_⟩;intro w' d;(try dsimp only at d);(try go_simp);try with_reducible rfl)
  try simp only[aJ,aK,aH,aG]
  refine aQ (i:=16) (oi:=?oia16) (v:=?va16) ?hia16 (by kernel_rfl) (by kernel_rfl) (by kernel_rfl) ?hqa16 ?hya16 (by assumption) ?_
  case hia16=>(simp only[aR,aS,aP];rfl)
  case hqa16=>exact fun _ _ _ h=>h
  case hya16=>(refine aT ⟨by rfl,?_⟩;intro w' d;(try dsimp only at d);(try go_simp);try with_reducible rfl)
  try simp only[aJ,aK,aH,aG]
  refine aQ (i:=17) (oi:=?oia17) (v:=?va17) ?hia17 (by kernel_rfl) (by kernel_rfl) (by kernel_rfl) ?hqa17 ?hya17 (by assumption) ?_
  case hia17=>(simp only[aR,aS,aP];rfl)
  case hqa17=>exact fun _ _ _ h=>h
  case hya17=>(refine aT ⟨by rfl,?_⟩;intro w' d;(try dsimp only at d);(try go_simp);try with_reducible rfl)
  try simp only[aJ,aK,aH,aG]
  refine fL (rs:=[11]) (by kernel_rfl) (by simp) ?_;refine fA rfl (fun K Y=>?_) ?_
  rotate_left
  ·exact fM
  have d5:I.drew.cell? ⟨g,k,none⟩=some (.int .u8 ((0:UInt8).toNat:Int)):=cg;go_simp;refine Y.out _ _ (show WrR p g k _ _ I.drew from⟨T,U,V⟩) (fun d6=>?_);clear Y K
  try simp only[aJ,aK,aH,aG]
  refine aQ (i:=18) (oi:=?oia18) (v:=?va18) ?hia18 (by kernel_rfl) (by kernel_rfl) (by kernel_rfl) ?hqa18 ?hya18 (by assumption) ?_
  case hia18=>(simp only[aR,aS,aP];rfl)
  case hqa18=>exact fun _ _ _ h=>h
  case hya18=>(refine aT ⟨by rfl,?_⟩;intro w' d;(try dsimp only at d);(try go_simp);try with_reducible rfl)
  try simp only[aJ,aK,aH,aG]
  refine aQ (i:=19) (oi:=?oia19) (v:=?va19) ?hia19 (by kernel_rfl) (by kernel_rfl) (by kernel_rfl) ?hqa19 ?hya19 (by assumption) ?_
  case hia19=>(simp only[aR,aS,aP];rfl)
  case hqa19=>exact fun _ _ _ h=>h
  case hya19=>(refine aT ⟨by rfl,?_⟩;intro w' d;(try dsimp only at d);(try go_simp);try with_reducible rfl)
  try simp only[aJ,aK,aH,aG]
  refine fL (rs:=[20]) (by kernel_rfl) (by simp) ?_;refine fA rfl (fun K Y=>?_) ?_
  rotate_left
  ·exact fM
  go_simp;have c4:OwB (I.setCell ⟨g,k,none⟩ (.int .u8 128)).drew B (.slice (some ⟨g,0,none⟩) z G) (aD l++[128]):=a5;have Z:Arr (I.setCell ⟨g,k,none⟩ (.int .u8 128)).drew p 175 [.slice (some ⟨g,0,none⟩) z G,.int .i64 (l.length:Int)]:=Arr.other (w:=I) H ⟨g,k,none⟩ m4 _;have c5:Below p w (I.setCell ⟨g,k,none⟩ (.int .u8 128)).drew:=(a8.setCell (p:=⟨g,k,none⟩) (by show p<=g;omega) _).drew;have j0:=Z.cell (i:=0) rfl;have j1:=Z.cell (i:=1) rfl;have j3:((I.setCell ⟨g,k,none⟩ (.int .u8 128)).drew).frozen? ⟨g,k,none⟩=false:=by simpa using V
  have d7:=Z.free 1;clear a5 a4 H a8 cg V T U q0 q1;have a0:=HS.out;rw[if_pos rfl] at a0;refine Y.out _ _ (show WrR p g k _ _ _ from⟨j0,j1,j3⟩) (fun d8=>?_);clear Y K;refine wpAnyH_done (by kernel_rfl) ?_ _;go_wp2_with fail
  go_end0
  refine⟨rfl,⟨.slice (some ⟨g,0,none⟩) z G,?_,?_⟩,c5.setCell (p:=⟨p,1,none⟩) (aA _) _,fun A E F=>((O A E F).other ⟨g,k,none⟩ (fun e=>b6 A E (O A E F) e) _).other ⟨p,1,none⟩ (Z.ne_wr ((O A E F).other ⟨g,k,none⟩ (fun e=>b6 A E (O A E F) e) _)) _⟩
  ·rw[b5];exact Z.set 1 _
  ·rw[a0];exact c4.setLow (p:=⟨p,1,none⟩) hp _
 |false=>
  have a0:=HS.out;rw[if_neg (by decide)] at a0;go_wp2_with fail
  go_end0
  refine⟨rfl,⟨.slice (some ⟨g,0,none⟩) z G,?_,?_⟩,a8.setCell (p:=⟨p,1,none⟩) (aA _) _,fun A E F=>(O A E F).other ⟨p,1,none⟩ (H.ne_wr (O A E F)) _⟩
  ·rw[b5];exact H.set 1 _
  ·rw[a0];exact a4.setLow (p:=⟨p,1,none⟩) hp _
end
section
open Go.RowKit Go
theorem aEb {l:List Bool} (h:l.length%8≠0):aD (l++[false])=aD l:=by
 have d:(aD l).length-1<(aD l).length:=by rw[gY];omega
 rw[OX h false,if_neg (by decide),Nat.or_zero,aV,aN d];simp
theorem aEc (p B:Nat) (l:List Bool) (b:Bool) (w:World) (h:WrS w p B l) (hp:p<B) (hl:l.length<=1000000) (L:l.length%8≠0):
  Calls Tryz.prog 129 #[.pointer (some ⟨p,0,none⟩),.bool b] w fun e w'=>e=.returned (.tuple #[])/\WrS w' p B (l++[b])/\Below p w w'/\nU w w':=by
 obtain⟨v,G,I⟩:=h;have a1:(aD l).length=l.length/8+1:=by rw[gY];omega
 obtain⟨k,M⟩:∃k,k=(aD l).length-1:=⟨_,rfl⟩;have a2:k<(aD l).length:=by omega
 obtain⟨a,c,rfl,a3,a4⟩:=I.open;obtain⟨g,rfl,b3,b4,cg,O,a0⟩:=I.at a2;obtain⟨r,hr⟩:∃r,r=l.length%8:=⟨_,rfl⟩;have b5:r<8:=by omega
 have e2:((l.length:Nat):Int).tmod 8=(r:Int):=by rw[oJ (by omega)];omega
 have t1:((r:Int)==0)=false:=beq_eq_false_iff_ne.2 (by omega);have t2:decide ((r:Int)=0)=false:=decide_eq_false (by omega);have e7:min r 8=r:=by omega
 have T:=G.cell (i:=0) rfl;have k1:=G.cell (i:=1) rfl;have q0:=G.free 0;have q1:=G.free 1;have m6:aI.wrap ((l.length:Int)+1)=(l.length:Int)+1:=by rw[aM];omega
 have a5:((l++[b]).length:Int)=(l.length:Int)+1:=by simp
 have b0:∀A E,Arr w A 29 E->g≠A:=fun A E F e=>I.ne_arr F (by rw[e];rfl)
 have a6:∀A E,Arr w A 29 E->p≠A:=fun A E F=>G.ne_wr F
 cases b with
 |false=>
  have H:=hid (aEb L);clear a0 M a1 a3 a4 hr L;go_enter Tryz.func129,Tryz.ntmps129;go_wp2_with fail
  go_end0
  refine⟨rfl,⟨.slice (some ⟨g,0,none⟩) (aD l).length c,?_,?_⟩,(aB p w).setCell (p:=⟨p,1,none⟩) (aA _) _,fun A E F=>F.other ⟨p,1,none⟩ (a6 A E F) _⟩
  ·rw[a5];exact G.set 1 _
  ·rw[H.out];exact I.setLow (p:=⟨p,1,none⟩) hp _
 |true=>
  have H:=OX L true;rw[if_pos rfl,<-M,<-hr,aV,aN a2,Option.getD_some] at H;obtain⟨x,hx⟩:∃x:Nat,x=(aD l)[k].toNat:=⟨_,rfl⟩;have a7:x<256:=by rw[hx];exact UInt8.toNat_lt _
  obtain⟨y,U⟩:∃y:Nat,y=128>>>r:=⟨_,rfl⟩;have a8:y<256:=by rw[U];exact xI (Nat.shiftRight_le _ _) (by decide)
  obtain⟨z,V⟩:∃z:Nat,z=x|||y:=⟨_,rfl⟩;have b6:z<256:=by rw[V];exact Nat.or_lt_two_pow (n:=8) a7 a8
  have m8:(128:Int)/2^r=(y:Int):=by
   have:=yG 128 r;rw[U,Nat.shiftRight_eq_div_pow];exact this
  have m9:bits .or .u8 (x:Int) (y:Int)=(z:Int):=by rw[u8_or_nat _ _ a7 a8,V]
  have a9:((eK z).toNat:Int)=(z:Int):=by rw[nP,kU (by omega)]
  rw[<-hx] at cg H;rw[<-U,<-V] at H;have Y:=a0 (eK z);rw[a9,<-H] at Y;obtain⟨n,hn⟩:∃n,n=(aD l).length:=⟨_,rfl⟩;have b7:k<n:=by omega
  rw[<-hn] at Y T G M;have m1:aI.wrap ((n:Int)-1)=(k:Int):=by rw[aM];omega
  have m2:(0:Int)<=(k:Int):=by omega
  have m3:(k:Int)<(n:Int):=by omega
  have m4:¬g=p:=by omega
  have b8:¬p=g:=by omega
  clear a0 M a1 a3 a4 hr L hx U V H a9 hn I;go_enter Tryz.func129,Tryz.ntmps129;go_upto_region 3 with fail;refine vI (S:=(fun w'=>w'.cell? ⟨p,0,none⟩=some (.slice (some ⟨g,0,none⟩) n c)/\w'.cell? ⟨p,1,none⟩=some (.int .i64 (l.length:Int))/\w'.frozen? ⟨g,k,none⟩=false)) (by kernel_rfl) (show WrR p g k _ _ w.drew from⟨T,k1,O⟩) (fun b9=>?_);refine aQ (i:=0) (oi:=?oia0) (v:=?va0) ?hia0 (by kernel_rfl) (by kernel_rfl) (by kernel_rfl) ?hqa0 ?hya0 (by assumption) ?_
  case hia0=>(simp only[aR,aP];rfl)
  case hqa0=>exact fun _ _ _ h=>h
  case hya0=>(refine aT ⟨by rfl,?_⟩;intro w' d;(try dsimp only at d);(try go_simp);try with_reducible rfl)
  try simp only[aJ,aK,aH,aG]
  refine aQ (i:=1) (oi:=?oia1) (v:=?va1) ?hia1 (by kernel_rfl) (by kernel_rfl) (by kernel_rfl) ?hqa1 ?hya1 (by assumption) ?_
  case hia1=>(simp only[aR,aS,aP];rfl)
  case hqa1=>exact fun _ _ _ h=>h
  case hya1=>(refine aT ⟨by rfl,?_⟩;intro w' d;(try dsimp only at d);(try go_simp);try with_reducible rfl)
  try simp only[aJ,aK,aH,aG]
  refine aQ (i:=2) (oi:=?oia2) (v:=?va2) ?hia2 (by kernel_rfl) (by kernel_rfl) (by kernel_rfl) ?hqa2 ?hya2 (by assumption) ?_
  case hia2=>(simp only[aR,aS,aP];rfl)
  case hqa2=>exact fun _ _ _ h=>h
  case hya2=>(refine aT ⟨by rfl,?_⟩;intro w' d;(try dsimp only at d);(try go_simp);try with_reducible rfl)
  try simp only[aJ,aK,aH,aG]
  refine aQ (i:=3) (oi:=?oia3) (v:=?va3) ?hia3 (by kernel_rfl) (by kernel_rfl) (by kernel_rfl) ?hqa3 ?hya3 (by assumption) ?_
  case hia3=>(simp only[aR,aS,aP];rfl)
  case hqa3=>exact fun _ _ _ h=>h
  case hya3=>(refine aT ⟨by rfl,?_⟩;intro w' d;(try dsimp only at d);(try go_simp);try with_reducible rfl)
  try simp only[aJ,aK,aH,aG]
  refine aQ (i:=4) (oi:=?oia4) (v:=?va4) ?hia4 (by kernel_rfl) (by kernel_rfl) (by kernel_rfl) ?hqa4 ?hya4 (by assumption) ?_
  case hia4=>(simp only[aR,aS,aP];rfl)
  case hqa4=>exact fun _ _ _ h=>h
  case hya4=>(refine aT ⟨by rfl,?_⟩;intro w' d;(try dsimp only at d);(try go_simp);try with_reducible rfl)
  try simp only[aJ,aK,aH,aG]
  refine aQ (i:=5) (oi:=?oia5) (v:=?va5) ?hia5 (by kernel_rfl) (by kernel_rfl) (by kernel_rfl) ?hqa5 ?hya5 (by assumption) ?_
  case hia5=>(simp only[aR,aS,aP];rfl)
  case hqa5=>exact fun _ _ _ h=>h
  case hya5=>(refine aT ⟨by rfl,?_⟩;intro w' d;(try dsimp only at d);(try go_simp);try with_reducible rfl)
  try simp only[aJ,aK,aH,aG]
  refine aQ (i:=6) (oi:=?oia6) (v:=?va6) ?hia6 (by kernel_rfl) (by kernel_rfl) (by kernel_rfl) ?hqa6 ?hya6 (by assumption) ?_
  case hia6=>(simp only[aR,aS,aP];rfl)
  case hqa6=>exact fun _ _ _ h=>h
  case hya6=>(refine aT ⟨by rfl,?_⟩;intro w' d;(try dsimp only at d);(try go_simp);try with_reducible rfl)
  try simp only[aJ,aK,aH,aG]
  refine aQ (i:=7) (oi:=?oia7) (v:=?va7) ?hia7 (by kernel_rfl) (by kernel_rfl) (by kernel_rfl) ?hqa7 ?hya7 (by assumption) ?_
  case hia7=>(simp only[aR,aS,aP];rfl)
  case hqa7=>exact fun _ _ _ h=>h
  case hya7=>(refine aT ⟨by rfl,?_⟩;intro w' d;(try dsimp only at d);(try go_simp);try with_reducible rfl)
  try simp only[aJ,aK,aH,aG]
  refine aQ (i:=8) (oi:=?oia8) (v:=?va8) ?hia8 (by kernel_rfl) (by kernel_rfl) (by kernel_rfl) ?hqa8 ?hya8 (by assumption) ?_
  case hia8=>(simp only[aR,aS,aP];rfl)
  case hqa8=>exact fun _ _ _ h=>h
  case hya8=>(refine aT ⟨by rfl,?_⟩;intro w' d;(try dsimp only at d);(try go_simp);try with_reducible rfl)
  try simp only[aJ,aK,aH,aG]
  refine aQ (i:=9) (oi:=?oia9) (v:=?va9) ?hia9 (by kernel_rfl) (by kernel_rfl) (by kernel_rfl) ?hqa9 ?hya9 (by assumption) ?_
  case hia9=>(simp only[aR,aS,aP];rfl)
  case hqa9=>exact fun _ _ _ h=>h
  case hya9=>(refine aT ⟨by rfl,?_⟩;intro w' d;(try dsimp only at d);(try go_simp);try with_reducible rfl)
  try simp only[aJ,aK,aH,aG]
  refine aQ (i:=10) (oi:=?oia10) (v:=?va10) ?hia10 (by kernel_rfl) (by kernel_rfl) (by kernel_rfl) ?hqa10 ?hya10 (by assumption) ?_
  case hia10=>(simp only[aR,aS,aP];rfl)
  case hqa10=>exact fun _ _ _ h=>h
  case hya10=>(refine aT ⟨by rfl,?_⟩;intro w' d;(try dsimp only at d);(try go_simp);try with_reducible rfl)
  try simp only[aJ,aK,aH,aG]
  refine aQ (i:=12) (oi:=?oia12) (v:=?va12) ?hia12 (by kernel_rfl) (by kernel_rfl) (by kernel_rfl) ?hqa12 ?hya12 (by assumption) ?_
  case hia12=>(simp only[aR,aS,aP];rfl)
  case hqa12=>exact fun _ _ _ h=>h
  case hya12=>(refine aT ⟨by rfl,?_⟩;intro w' d;(try dsimp only at d);(try go_simp);try with_reducible rfl)
  try simp only[aJ,aK,aH,aG]
  refine aQ (i:=13) (oi:=?oia13) (v:=?va13) ?hia13 (by kernel_rfl) (by kernel_rfl) (by kernel_rfl) ?hqa13 ?hya13 (by assumption) ?_
  case hia13=>(simp only[aR,aS,aP];rfl)
  case hqa13=>exact fun _ _ _ h=>h
  case hya13=>(refine aT ⟨by rfl,?_⟩;intro w' d;(try dsimp only at d);(try go_simp);try with_reducible rfl)
  try simp only[aJ,aK,aH,aG]
  refine aQ (i:=14) (oi:=?oia14) (v:=?va14) ?hia14 (by kernel_rfl) (by kernel_rfl) (by kernel_rfl) ?hqa14 ?hya14 (by assumption) ?_
  case hia14=>(simp only[aR,aS,aP];rfl)
  case hqa14=>exact fun _ _ _ h=>h
  case hya14=>(refine aT ⟨by rfl,?_⟩;intro w' d;(try dsimp only at d);(try go_simp);try with_reducible rfl)
  try simp only[aJ,aK,aH,aG]
  refine aQ (i:=15) (oi:=?oia15) (v:=?va15) ?hia15 (by kernel_rfl) (by kernel_rfl) (by kernel_rfl) ?hqa15 ?hya15 (by assumption) ?_
  case hia15=>(simp only[aR,aS,aP];rfl)
  case hqa15=>exact fun _ _ _ h=>h
  case hya15=>(refine aT ⟨by rfl,?_⟩;intro w' d;(try dsimp only at d);(try go_simp);try with_reducible rfl)
  try simp only[aJ,aK,aH,aG]
  refine aQ (i:=16) (oi:=?oia16) (v:=?va16) ?hia16 (by kernel_rfl) (by kernel_rfl) (by kernel_rfl) ?hqa16 ?hya16 (by assumption) ?_
  case hia16=>(simp only[aR,aS,aP];rfl)
  case hqa16=>exact fun _ _ _ h=>h
  case hya16=>(refine aT ⟨by rfl,?_⟩;intro w' d;(try dsimp only at d);(try go_simp);try with_reducible rfl)
  try simp only[aJ,aK,aH,aG]
  refine aQ (i:=17) (oi:=?oia17) (v:=?va17) ?hia17 (by kernel_rfl) (by kernel_rfl) (by kernel_rfl) ?hqa17 ?hya17 (by assumption) ?_
  case hia17=>(simp only[aR,aS,aP];rfl)
  case hqa17=>exact fun _ _ _ h=>h
  case hya17=>(refine aT ⟨by rfl,?_⟩;intro w' d;(try dsimp only at d);(try go_simp);try with_reducible rfl)
  try simp only[aJ,aK,aH,aG]
  refine fL (rs:=[11]) (by kernel_rfl) (by simp) ?_;refine fA rfl (fun K J=>?_) ?_
  rotate_left
  ·exact fM
  have c0:w.drew.cell? ⟨g,k,none⟩=some (.int .u8 (x:Int)):=cg;go_simp;refine J.out _ _ (show WrR p g k _ _ w.drew from⟨T,k1,O⟩) (fun c1=>?_);clear J K
  try simp only[aJ,aK,aH,aG]
  refine aQ (i:=18) (oi:=?oia18) (v:=?va18) ?hia18 (by kernel_rfl) (by kernel_rfl) (by kernel_rfl) ?hqa18 ?hya18 (by assumption) ?_
  case hia18=>(simp only[aR,aS,aP];rfl)
  case hqa18=>exact fun _ _ _ h=>h
  case hya18=>(refine aT ⟨by rfl,?_⟩;intro w' d;(try dsimp only at d);(try go_simp);try with_reducible rfl)
  try simp only[aJ,aK,aH,aG]
  refine aQ (i:=19) (oi:=?oia19) (v:=?va19) ?hia19 (by kernel_rfl) (by kernel_rfl) (by kernel_rfl) ?hqa19 ?hya19 (by assumption) ?_
  case hia19=>(simp only[aR,aS,aP];rfl)
  case hqa19=>exact fun _ _ _ h=>h
  case hya19=>(refine aT ⟨by rfl,?_⟩;intro w' d;(try dsimp only at d);(try go_simp);try with_reducible rfl)
  try simp only[aJ,aK,aH,aG]
  refine fL (rs:=[20]) (by kernel_rfl) (by simp) ?_;refine fA rfl (fun K J=>?_) ?_
  rotate_left
  ·exact fM
  go_simp;have b1:OwB (w.setCell ⟨g,k,none⟩ (.int .u8 (z:Int))).drew B (.slice (some ⟨g,0,none⟩) n c) (aD (l++[true])):=Y;have Z:Arr (w.setCell ⟨g,k,none⟩ (.int .u8 (z:Int))).drew p 175 [.slice (some ⟨g,0,none⟩) n c,.int .i64 (l.length:Int)]:=Arr.other (w:=w) G ⟨g,k,none⟩ m4 _;have b2:Below p w (w.setCell ⟨g,k,none⟩ (.int .u8 (z:Int))).drew:=((aB p w).setCell (p:=⟨g,k,none⟩) (by show p<=g;omega) _).drew;have j0:=Z.cell (i:=0) rfl;have j1:=Z.cell (i:=1) rfl;have j3:((w.setCell ⟨g,k,none⟩ (.int .u8 (z:Int))).drew).frozen? ⟨g,k,none⟩=false:=by simpa using O
  have c2:=Z.free 1;clear Y G cg O T k1 q0 q1;refine J.out _ _ (show WrR p g k _ _ _ from⟨j0,j1,j3⟩) (fun c3=>?_);clear J K;refine wpAnyH_done (by kernel_rfl) ?_ _;go_wp2_with fail
  go_end0
  refine⟨rfl,⟨.slice (some ⟨g,0,none⟩) n c,?_,?_⟩,b2.setCell (p:=⟨p,1,none⟩) (aA _) _,fun A E F=>(F.other ⟨g,k,none⟩ (b0 A E F) _).other ⟨p,1,none⟩ (a6 A E F) _⟩
  ·rw[a5];exact Z.set 1 _
  ·exact b1.setLow (p:=⟨p,1,none⟩) hp _
theorem PU (p B:Nat) (l:List Bool) (b:Bool) (w:World) (h:WrS w p B l) (d:p<B) (E:B<=w.heap.size) (z:l.length<=1000000):
  Calls Tryz.prog 129 #[.pointer (some ⟨p,0,none⟩),.bool b] w fun e w'=>e=.returned (.tuple #[])/\WrS w' p B (l++[b])/\Below p w w'/\nU w w':=by
 by_cases A:l.length%8=0
 ·exact aEa p B l b w h d E z A
 ·exact aEc p B l b w h d z A
theorem IY (v j:Nat) (d:v<18446744073709551616):bits .and .u64 ((v:Int)/2^j) 1=((v.testBit j).toNat:Int):=by
 rw[yG,show(1:Int)=((1:Nat):Int) from rfl,u64_and_nat _ _ (xI (Nat.div_le_self _ _) d) (by decide),nat_mask1,IU]
theorem aEd (p B:Nat) (l:List Bool) (v n:Nat) (w:World) (h:WrS w p B l) (hp:p<B) (hB:B<=w.heap.size) (hl:l.length+n<=1000000) (hv:v<18446744073709551616) (hn:n<=64):
  Calls Tryz.prog 142 #[.pointer (some ⟨p,0,none⟩),.int .u64 (v:Int),.int .i64 (n:Int)] w fun e w'=>e=.returned (.tuple #[])/\WrS w' p B (l++aY v n)/\Below p w w'/\nU w w':=by
 have n1:decide ((n:Int)<0)=false:=decide_eq_false (by omega);have n2:decide ((n:Int)>64)=false:=decide_eq_false (by omega);have n3:decide (64<(n:Int))=false:=decide_eq_false (by omega);have m1:aI.wrap ((n:Int)-1)=(n:Int)-1:=by rw[aM];omega
 go_enter Tryz.func142,Tryz.ntmps142;go_wp2_with fail
 go_loopg [6] n (fun g s6 wr=>∃k:Nat,k<=n/\g=n-k/\s6=.int .i64 ((n:Int)-1-(k:Int))/\WrS wr p B (l++(aY v n).take k)/\Below p w wr/\nU w wr)
 case atStart=>exact⟨0,aU _,rfl,by go_num,by rw[FX,eE];exact h,aB _ _,fun _ _ hx=>hx⟩
 case round=>
  obtain⟨k,hk,E,rfl,G,F,H⟩:=hrel;have T:=hid E;clear E
  by_cases a1:k<n
  ·obtain⟨j,d⟩:∃j:Nat,j=n-1-k:=⟨_,rfl⟩;have U:(n:Int)-1-(k:Int)=(j:Int):=by omega
   have t1:decide ((j:Int)>=0)=true:=decide_eq_true (by omega);have t2:decide (0<=(j:Int))=true:=decide_eq_true (by omega);have e7:min j 64=j:=by omega
   have a2:(l++(aY v n).take k).length<=1000000:=by rw[aL,aX,cY];omega
   have a3:=F.size;have V:=hid (PP v n k a1);have e4:=IY v j hv;rw[U];have Y:=hid d;clear d U;obtain⟨b,I⟩:∃b,b=v.testBit j:=⟨_,rfl⟩;have Z:=hid I;rw[<-I] at e4;clear I;have a0:=PU p B _ b wr G hp (by omega) a2
   cases b with
   |true=>
    go_wp2_with fail;refine a0.mono ?_;rintro e w1 ⟨rfl,J,L,M⟩;go_wp2_with fail;have E:=T.out;have d:=Y.out
    go_roundg (n-(k+1))
    case measure=>omega
    case rel=>exact⟨k+1,by omega,rfl,by go_num,by rw[V.out,<-cF,<-d,<-Z.out];exact J,F.trans L,fun z A O=>M z A (H z A O)⟩
   |false=>
    go_wp2_with fail;refine a0.mono ?_;rintro e w1 ⟨rfl,J,L,M⟩;go_wp2_with fail;have E:=T.out;have d:=Y.out
    go_roundg (n-(k+1))
    case measure=>omega
    case rel=>exact⟨k+1,by omega,rfl,by go_num,by rw[V.out,<-cF,<-d,<-Z.out];exact J,F.trans L,fun z A O=>M z A (H z A O)⟩
  ·have t1:decide ((n:Int)-1-(k:Int)>=0)=false:=decide_eq_false (by omega);have t2:decide (0<=(n:Int)-1-(k:Int))=false:=decide_eq_false (by omega);rw[cS (by rw[cY];omega)] at G;go_wp2_with fail
   go_end0
   exact⟨rfl,G,F,H⟩
theorem IZ {x:Int} (d: -9223372036854775808<=x) (z:x<=9223372036854775807):wrap64 x=x:=by unfold wrap64;omega
theorem JA {x:Int} (d: -9223372036854775808<=x) (z:x<=9223372036854775807):aI.wrap x=x:=by rw[aM];omega
theorem aEe (l:List Bool) (w:World) (T:l.length<=1000000):
  Calls Tryz.prog 80 #[.agg #[.string (mkS (aD l)),.int .i64 (l.length:Int)]] w fun e w'=>e=.returned (.bool true)/\Below w.heap.size w w':=by
 obtain⟨s,A⟩:∃s,s=mkS (aD l):=⟨_,rfl⟩;have J:s.size=(l.length+7)/8:=by rw[A,cP,gY]
 have L:s.data.toList=aD l:=by rw[A,fW]
 rw[<-A];clear A;have M:=hid (fun i (_:l.length<=i)=>show dI s.data.toList i=false by rw[L,sO,aV,dL (by omega)];rfl);clear L;obtain⟨n,O⟩:∃n,n=l.length:=⟨_,rfl⟩;rw[<-O] at T J M ⊢;clear O;obtain⟨q,U⟩:∃q,q=n/8:=⟨_,rfl⟩;obtain⟨r,V⟩:∃r,r=n%8:=⟨_,rfl⟩;obtain⟨m,Y⟩:∃m,m=min r 1:=⟨_,rfl⟩;have Z:q+m=s.size:=by omega
 have n1:decide ((n:Int)<0)=false:=decide_eq_false (by omega);have e1:(n:Int).tdiv 8=(q:Int):=by rw[AJ (by omega)];omega
 have e2:(n:Int).tmod 8=(r:Int):=by rw[oJ (by omega)];omega
 have e3:min (r:Int) 1=(m:Int):=by omega
 have a0:(if(1:Int)<(r:Int) then(1:Int) else(r:Int))=(m:Int):=by split<;>omega
 have a1:n<=8*s.size:=by omega
 have a5:s.size<=125001:=by omega
 have hq6:q<=125001:=by omega
 clear U V Y J;have F:(q:Int)+(m:Int)=(s.size:Int):=by omega
 have b2:(s.size:Int)<=125001:=by omega
 have b3:(q:Int)<=125001:=by omega
 have d:aI.wrap ((q:Int)+(m:Int))=(s.size:Int):=by rw[F];exact JA (by omega) (by omega)
 have E:aI.wrap (8*(s.size:Int))=8*(s.size:Int):=JA (by clear d;omega) (by clear d;omega);have G:wrap64 (q:Int)=(q:Int):=IZ (by clear d E;omega) (by clear d E;omega);have f2:wrap64 ((q:Int)+(m:Int))=(s.size:Int):=by rw[F];exact IZ (by clear d E G;omega) (by clear d E G;omega)
 clear F b2 b3 hq6;clear Z;go_enter Tryz.func80,Tryz.ntmps80;go_wp2_with fail;clear G f2 d e1 e2 e3 a0;have H:=Arr.new w 29 [.string s,.int .i64 (n:Int)];have a2:Below w.heap.size w (w.alloc (.cells #[.string s,.int .i64 (n:Int)] 29)):=bD (aB _ _) _;change Arr (w.alloc (.cells #[.string s,.int .i64 (n:Int)] 29)) _ _ _ at H;generalize w.alloc (.cells #[.string s,.int .i64 (n:Int)] 29)=w0 at*
 go_loopg [3] (8*s.size-n) (fun g s3 wr=>∃k:Nat,n<=k/\k<=8*s.size/\g=8*s.size-k/\s3=.int .i64 (k:Int)/\wr=w0)
 case atStart=>exact⟨n,by omega,a1,rfl,rfl,rfl⟩
 case round=>
  obtain⟨k,a3,hk,I,rfl,rfl⟩:=hrel;have HG:=hid I;clear I;have c0:=H.cell (i:=0) rfl;have c1:=H.cell (i:=1) rfl
  by_cases a4:k<8*s.size
  ·have t1:decide ((k:Int)<8*(s.size:Int))=true:=decide_eq_true (by omega);go_wp2_with fail;refine(IW s k _ a4 (by omega)).mono ?_;rintro e w1 ⟨rfl,rfl⟩;rw[M.out k a3];have z:((sS false:Nat):Int)=0:=rfl;rw[z];go_wp2_with fail;have I:=HG.out
   go_roundg (8*s.size-(k+1))
   case measure=>omega
   case rel=>exact⟨k+1,by omega,by omega,rfl,by go_num,rfl⟩
  ·have t1:decide ((k:Int)<8*(s.size:Int))=false:=decide_eq_false (by omega);go_wp2_with fail;go_ret;exact⟨rfl,a2⟩
theorem WrS.below {w w':World} {p B:Nat} {l:List Bool} (h:WrS w p B l) (d:Below w.heap.size w w'):WrS w' p B l:=by
 obtain⟨v,z,A⟩:=h;exact⟨v,z.below d z.lt,Ow.below A d (aA _)⟩
theorem WrS.alloc {w:World} {p B:Nat} {l:List Bool} (h:WrS w p B l) (o:Obj):WrS (w.alloc o) p B l:=by
 obtain⟨v,d,z⟩:=h;exact⟨v,d.alloc o,Ow.alloc z o⟩
theorem WrS.lt {w:World} {p B:Nat} {l:List Bool} (h:WrS w p B l):p<w.heap.size:=by
 obtain⟨v,d,_⟩:=h;exact d.lt
theorem PV (p B:Nat) (l m:List Bool) (w:World) (h:WrS w p B l) (hp:p<B) (hB:B<=w.heap.size) (hl:l.length+m.length<=1000000):
  Calls Tryz.prog 63 #[.pointer (some ⟨p,0,none⟩),.agg #[.string (mkS (aD m)),.int .i64 (m.length:Int)]] w fun e w'=>e=.returned (.tuple #[])/\WrS w' p B (l++m)/\Below p w w'/\nU w w':=by
 have a7:(mkS (aD m)).size=(m.length+7)/8:=by rw[cP,gY]
 have b3:=h.lt;go_enter Tryz.func63,Tryz.ntmps63;go_wp2_with fail;have G:=Arr.new w 29 [.string (mkS (aD m)),.int .i64 (m.length:Int)];have a0:Below w.heap.size w (w.alloc (.cells #[.string (mkS (aD m)),.int .i64 (m.length:Int)] 29)):=bD (aB _ _) _;have hW:=h.alloc (.cells #[.string (mkS (aD m)),.int .i64 (m.length:Int)] 29);change Arr (w.alloc (.cells #[.string (mkS (aD m)),.int .i64 (m.length:Int)] 29)) _ _ _ at G;generalize w.alloc (.cells #[.string (mkS (aD m)),.int .i64 (m.length:Int)] 29)=w0 at*
 refine(aEe m w0 (by omega)).mono ?_;rintro e w1 ⟨rfl,H⟩;have I:=G.below H G.lt;have a8:=hW.below H;have a1:=bV a0 H;have a9:nU w w1:=fun d A E=>E.below a1 E.lt
 have M:=I.cell (i:=0) rfl;have c1:=I.cell (i:=1) rfl;clear G hW a0 H h;have b0:m.length<=8*(mkS (aD m)).size:=by omega
 have a2:(mkS (aD m)).size<=140737488355328:=by omega
 have HB:=hid (fun k (hk:k<m.length)=>show dI (mkS (aD m)).data.toList k=m[k] by rw[fW,sO,aV,aN hk];rfl);obtain⟨s,hs⟩:∃s,s=mkS (aD m):=⟨_,rfl⟩;rw[<-hs] at M HB b0 a2 I ⊢;clear hs a7;go_wp2_with fail
 go_loopg [4,12] m.length (fun g _s4 b1 wr=>∃k:Nat,k<=m.length/\g=m.length-k/\b1=.int .i64 (k:Int)/\WrS wr p B (l++m.take k)/\Below p w wr/\nU w wr/\Arr wr w.heap.size 29 [.string s,.int .i64 (m.length:Int)])
 case atStart=>exact⟨0,aU _,rfl,rfl,by rw[FX,eE];exact a8,a1.mono (by omega),a9,I⟩
 case round=>
  obtain⟨k,hk,J,rfl,O,L,T,U⟩:=hrel;have HG:=hid J;clear J M c1;have M:=U.cell (i:=0) rfl
  by_cases a3:k<m.length
  ·have t1:decide ((k:Int)<(m.length:Int))=true:=decide_eq_true (by omega);have b4:=L.size;have b2:(l++m.take k).length<=1000000:=by rw[aL,aX];omega
   have HT:=hid (show m.take (k+1)=m.take k++[m[k]] by rw[cQ,aN a3];rfl);obtain⟨b,V⟩:∃b,b=m[k]:=⟨_,rfl⟩;have a4:=HB.out k a3;rw[<-V] at a4;have a5:=PU p B _ b wr O hp (by omega) b2;have a6:=hid V;have hq8:k<8*s.size:=by omega
   clear V;go_wp2_with fail;refine(IW s k _ hq8 a2).mono ?_;rintro e w2 ⟨rfl,rfl⟩;rw[a4]
   cases b with
   |true=>
    have z:((sS true:Nat):Int)=128:=rfl;rw[z];go_wp2_with fail;refine a5.mono ?_;rintro e w3 ⟨rfl,Y,Z,F⟩;go_wp2_with fail;have J:=HG.out
    go_roundg (m.length-(k+1))
    case measure=>omega
    case rel=>exact⟨k+1,by omega,rfl,by go_num,by rw[HT.out,<-cF,<-a6.out];exact Y,L.trans Z,fun d A E=>F d A (T d A E),F _ _ U⟩
   |false=>
    have z:((sS false:Nat):Int)=0:=rfl;rw[z];go_wp2_with fail;refine a5.mono ?_;rintro e w3 ⟨rfl,Y,Z,F⟩;go_wp2_with fail;have J:=HG.out
    go_roundg (m.length-(k+1))
    case measure=>omega
    case rel=>exact⟨k+1,by omega,rfl,by go_num,by rw[HT.out,<-cF,<-a6.out];exact Y,L.trans Z,fun d A E=>F d A (T d A E),F _ _ U⟩
  ·have t1:decide ((k:Int)<(m.length:Int))=false:=decide_eq_false (by omega);rw[cS (by omega)] at O;go_wp2_with fail
   go_end0
   exact⟨rfl,O,L,T⟩
end
section
open Go.RowKit Go Go.Shelf
def eL (l:List Bool):Value:=.agg #[.string (mkS (aD l)),.int .i64 (l.length:Int)]
theorem aEf {P:Program} {A:Func} {p q:Tmp} {z E:TypeId} (h:A.results=#[.cell p z,.cell q E]) (tmps:Array Value) (w:World) (g:Nat) (t:TypeId) (cs:Array Value) (F:Nat×Nat) (d:TypeDesc)
  (G:tmps.getD p undef=.pointer (some ⟨g,0,none⟩)) (H:w.heap[g]? =some (.cells cs t F))
  (I:P.underlying z=some d) (J:(match d with|.struct _|.array _ _=>true|_=>false)=true) (hi:(P.info? z).map (·.size)=some cs.size)
  (b:Addr) (v:Value) (L:tmps.getD q undef=.pointer (some b)) (M:(loadVar E b).run P w=.ok v w):
  (results A tmps).run P w=.ok (.tuple #[.agg cs,v]) w:=by
 have O:tmps[p]?.getD undef=.pointer (some ⟨g,0,none⟩):=by simpa using G
 have T:tmps[q]?.getD undef=.pointer (some b):=by simpa using L
 simp[results,h,O,T,asAddr,NT w g t z cs F d H I J hi,M,jB]
theorem qH {P:Program} {A:Func} {p u:Tmp} {z:TypeId} (h:A.results=#[.cell p z,.tmp u]) (tmps:Array Value) (w:World) (g:Nat) (t:TypeId) (cs:Array Value) (E:Nat×Nat) (d:TypeDesc)
  (F:tmps.getD p undef=.pointer (some ⟨g,0,none⟩)) (G:w.heap[g]? =some (.cells cs t E))
  (H:P.underlying z=some d) (I:(match d with|.struct _|.array _ _=>true|_=>false)=true) (hi:(P.info? z).map (·.size)=some cs.size):
  (results A tmps).run P w=.ok (.tuple #[.agg cs,tmps.getD u undef]) w:=by
 rw[results_cell_tmp h,F];simp[asAddr,jB,NT w g t z cs E d G H I hi]
theorem aEg (p q:Addr) (w:World):
  CallsD Tryz.prog 128 #[.pointer (some p),.pointer (some q)] .returning w fun e d w'=>e=.returned (.tuple #[])/\d=.returning/\w'=w:=by
 refine callsD_of_wpS Tryz.func128 rfl fun z cs A=>?_
 apply wpS_seq;apply wpS_region;simp[wpOpsS,go_sem,recoverD,A,Tryz.ntmps128,Exit.thenS];refine wpS_of_wp ?_;go_wp2
 cases z
 simp_all [bodyPostS,results,Tryz.f128]
def aEh (w0:World) (g:Nat) (z:Array Value) (l:List Bool):Prop:=
 ∀W p B,Below w0.heap.size w0 W->w0.heap.size<=p->p<B->B<=W.heap.size->WrS W p B []->
  Calls Tryz.prog g (#[.pointer (some ⟨p,0,none⟩)]++z) W fun e d=>e=.returned (.tuple #[])/\WrS d p B l/\Below p W d/\nU W d
theorem PW (g:Nat) (L:Array Value) (l:List Bool) (w:World) (M:Enters Tryz.prog g) (O:aEh w g L l) (_hl:l.length<=1000000):
  Calls Tryz.prog 61 #[.func (.func g) #[] L] w fun e w'=>e=.returned (.tuple #[eL l,.int .i64 0])/\Below w.heap.size w w':=by
 have a3:∀(T:Fn) (first cap:Array Value) (w:World),(vJ T first cap).run Tryz.prog w=.ok (.func T first cap) w:=fun _ _ _ _=>rfl
 have hE:∀args W,(callFunc g args).run Tryz.prog W=.ok (.enter g args) W:=M;have U:=hid O;clear O M
 go_enter_defers Tryz.func61,Tryz.ntmps61
 go_wp2_with fail;have V:Arr ((w.alloc (.cells #[.string ⟨#[]⟩,.int .i64 0] 29)).alloc (.cells #[.int .i64 0] 30)) w.heap.size 29 [.string ⟨#[]⟩,.int .i64 0]:=(Arr.new w 29 [.string ⟨#[]⟩,.int .i64 0]).alloc _;have Y:=Arr.new (w.alloc (.cells #[.string ⟨#[]⟩,.int .i64 0] 29)) 30 [.int .i64 0];have A:=Arr.new ((w.alloc (.cells #[.string ⟨#[]⟩,.int .i64 0] 29)).alloc (.cells #[.int .i64 0] 30)) 175 [.slice none 0 0,.int .i64 0];have G:Below w.heap.size w (((w.alloc (.cells #[.string ⟨#[]⟩,.int .i64 0] 29)).alloc (.cells #[.int .i64 0] 30)).alloc (.cells #[.slice none 0 0,.int .i64 0] 175)):=
  (((aB _ w).alloc (aA _) _).alloc (by simp) _).alloc (by simp;omega) _
 have a0:(((w.alloc (.cells #[.string ⟨#[]⟩,.int .i64 0] 29)).alloc (.cells #[.int .i64 0] 30)).alloc (.cells #[.slice none 0 0,.int .i64 0] 175)).heap.size=w.heap.size+1+1+1:=by simp
 have Z:=V.alloc (.cells #[.slice none 0 0,.int .i64 0] 175);have E:=Y.alloc (.cells #[.slice none 0 0,.int .i64 0] 175);rw[fV] at E;rw[fV,fV] at A;clear V Y;change Arr (((w.alloc (.cells #[.string ⟨#[]⟩,.int .i64 0] 29)).alloc (.cells #[.int .i64 0] 30)).alloc (.cells #[.slice none 0 0,.int .i64 0] 175)) _ _ _ at A;change Arr (((w.alloc (.cells #[.string ⟨#[]⟩,.int .i64 0] 29)).alloc (.cells #[.int .i64 0] 30)).alloc (.cells #[.slice none 0 0,.int .i64 0] 175)) _ _ _ at E
 generalize (((w.alloc (.cells #[.string ⟨#[]⟩,.int .i64 0] 29)).alloc (.cells #[.int .i64 0] 30)).alloc (.cells #[.slice none 0 0,.int .i64 0] 175))=w0 at*
 refine(U.out w0 (w.heap.size+1+1) (w.heap.size+1+1+1) G (by omega) (by omega) (by omega) ⟨_,A,Ow.nil _ _ _⟩).mono ?_;rintro e d ⟨rfl,⟨v,H,I⟩,F,_⟩;have z:=Z.below F (by omega);have J:=E.below F (by omega);have a1:=G.trans (F.mono (by omega));clear Z E A F G a0 U;obtain⟨a,n,c,rfl,HN,a4,a5⟩:=I.openN;have a6:(convert 45 9 (.slice a n c)).run Tryz.prog d=.ok (.string (mkS (aD l))) d:=lQ I.rd;have c0:=H.cell (i:=0) rfl;have c1:=H.cell (i:=1) rfl;have f0:=z.free 0;have f1:=z.free 1;have g0:=J.free 0;have d0:=z.cell (i:=0) rfl;have d1:=z.cell (i:=1) rfl;have d2:=J.cell (i:=0) rfl;clear I H
 go_wp2_with fail;refine leaves_cons (f:=128) (args:=#[.pointer (some ⟨w.heap.size,0,none⟩),.pointer (some ⟨w.heap.size+1,0,none⟩)]) (by simp) (by simp[go_sem]) ?_;refine(aEg ⟨w.heap.size,0,none⟩ ⟨w.heap.size+1,0,none⟩ _).mono ?_;rintro e u' a7 ⟨rfl,rfl,rfl⟩;have z0:Arr (((d.setCell ⟨w.heap.size,0,none⟩ (.string (mkS (aD l)))).setCell ⟨w.heap.size,1,none⟩ (.int .i64 (l.length:Int))).setCell ⟨w.heap.size+1,0,none⟩ (.int .i64 0)) w.heap.size 29 [.string (mkS (aD l)),.int .i64 (l.length:Int)]:=
  ((z.set 0 _).set 1 _).other ⟨w.heap.size+1,0,none⟩ (by simp) _
 have z1:Arr (((d.setCell ⟨w.heap.size,0,none⟩ (.string (mkS (aD l)))).setCell ⟨w.heap.size,1,none⟩ (.int .i64 (l.length:Int))).setCell ⟨w.heap.size+1,0,none⟩ (.int .i64 0)) (w.heap.size+1) 30 [.int .i64 0]:=
  ((J.other ⟨w.heap.size,0,none⟩ (by simp) _).other ⟨w.heap.size,1,none⟩ (by simp) _).set 0 _
 have a2:Below w.heap.size w (((d.setCell ⟨w.heap.size,0,none⟩ (.string (mkS (aD l)))).setCell ⟨w.heap.size,1,none⟩ (.int .i64 (l.length:Int))).setCell ⟨w.heap.size+1,0,none⟩ (.int .i64 0)):=
  ((a1.setCell (p:=⟨w.heap.size,0,none⟩) (aA _) _).setCell (p:=⟨w.heap.size,1,none⟩) (aA _) _).setCell (p:=⟨w.heap.size+1,0,none⟩) (Nat.le_succ _) _
 have z2:=z1.cell (i:=0) rfl;generalize ((d.setCell ⟨w.heap.size,0,none⟩ (.string (mkS (aD l)))).setCell ⟨w.heap.size,1,none⟩ (.int .i64 (l.length:Int))).setCell ⟨w.heap.size+1,0,none⟩ (.int .i64 0)=w2 at*
 refine⟨_,aEf rfl _ _ w.heap.size _ _ (0,0) _ rfl z0 Tryz.underlying29 rfl mF ⟨w.heap.size+1,0,none⟩ (.int .i64 0) rfl (by simp[go_sem,z2]),rfl,a2⟩
theorem aEi (E bv d:Nat) (l:List Bool) (v n:Nat) (W:World) (p B:Nat) (F:Arr W E 29 [.string (mkS (aD l)),.int .i64 (l.length:Int)]) (J:W.cell? ⟨bv,0,none⟩=some (.int .u64 (v:Int))) (L:W.cell? ⟨d,0,none⟩=some (.int .i64 (n:Int)))
  (M:bv<p) (O:d<p) (T:v<18446744073709551616) (U:n<=64) (hl:l.length<=900000) (G:p<B) (V:B<=W.heap.size) (H:WrS W p B []):
  Calls Tryz.prog 141 #[.pointer (some ⟨p,0,none⟩),.pointer (some ⟨E,0,none⟩),.pointer (some ⟨bv,0,none⟩),.pointer (some ⟨d,0,none⟩)] W fun e A=>e=.returned (.tuple #[])/\WrS A p B (l++aY v n)/\Below p W A/\nU W A:=by
 have c0:=F.cell (i:=0) rfl;have c1:=F.cell (i:=1) rfl;have I:=PV p B [] l W H G V (by simp;omega);rw[List.nil_append] at I;clear H;go_enter Tryz.func141,Tryz.ntmps141;go_wp2_with fail;refine I.mono ?_;rintro e Y ⟨rfl,Z,z,k3⟩;have c2:=(z.cell (p:=⟨bv,0,none⟩) M).trans J;have c3:=(z.cell (p:=⟨d,0,none⟩) O).trans L;have a0:=aEd p B l v n Y Z G (by have:=z.size;omega) (by omega) T U;go_wp2_with fail;refine a0.mono ?_;rintro e w2 ⟨rfl,j1,j2,j3⟩;go_wp2_with fail
 go_end0
 exact⟨rfl,j1,z.trans j2,fun g cs hg=>j3 g cs (k3 g cs hg)⟩
theorem uH (l:List Bool) (v n:Nat) (w:World) (M:v<18446744073709551616) (O:n<=64) (T:l.length<=900000):
  Calls Tryz.prog 75 #[eL l,.int .u64 (v:Int),.int .i64 (n:Int)] w fun e w'=>e=.returned (.tuple #[eL (l++aY v n),.int .i64 0])/\Below w.heap.size w w':=by
 have a1:∀(I:Fn) (first cap:Array Value) (w:World),(vJ I first cap).run Tryz.prog w=.ok (.func I first cap) w:=fun _ _ _ _=>rfl
 unfold eL;go_enter Tryz.func75,Tryz.ntmps75;go_wp2_with fail;have J:Below w.heap.size w ((((w.alloc (.cells #[.string (mkS (aD l)),.int .i64 (l.length:Int)] 29)).alloc (.cells #[.int .u64 (v:Int)] 54)).alloc (.cells #[.int .i64 (n:Int)] 3)).alloc (.cells #[.string ⟨#[]⟩,.int .i64 0] 29)):=
  ((((aB _ w).alloc (aA _) _).alloc (by simp) _).alloc (by simp;omega) _).alloc (by simp;omega) _
 have U:((((w.alloc (.cells #[.string (mkS (aD l)),.int .i64 (l.length:Int)] 29)).alloc (.cells #[.int .u64 (v:Int)] 54)).alloc (.cells #[.int .i64 (n:Int)] 3)).alloc (.cells #[.string ⟨#[]⟩,.int .i64 0] 29)).heap.size=w.heap.size+1+1+1+1:=by simp
 have F:=(((Arr.new w 29 [.string (mkS (aD l)),.int .i64 (l.length:Int)]).alloc (.cells #[.int .u64 (v:Int)] 54)).alloc (.cells #[.int .i64 (n:Int)] 3)).alloc (.cells #[.string ⟨#[]⟩,.int .i64 0] 29);have d:=((Arr.new (w.alloc (.cells #[.string (mkS (aD l)),.int .i64 (l.length:Int)] 29)) 54 [.int .u64 (v:Int)]).alloc (.cells #[.int .i64 (n:Int)] 3)).alloc (.cells #[.string ⟨#[]⟩,.int .i64 0] 29)
 have z:=(Arr.new ((w.alloc (.cells #[.string (mkS (aD l)),.int .i64 (l.length:Int)] 29)).alloc (.cells #[.int .u64 (v:Int)] 54)) 3 [.int .i64 (n:Int)]).alloc (.cells #[.string ⟨#[]⟩,.int .i64 0] 29);have A:=Arr.new (((w.alloc (.cells #[.string (mkS (aD l)),.int .i64 (l.length:Int)] 29)).alloc (.cells #[.int .u64 (v:Int)] 54)).alloc (.cells #[.int .i64 (n:Int)] 3)) 29 [.string ⟨#[]⟩,.int .i64 0];simp only[fV] at d z A
 change Arr ((((w.alloc (.cells #[.string (mkS (aD l)),.int .i64 (l.length:Int)] 29)).alloc (.cells #[.int .u64 (v:Int)] 54)).alloc (.cells #[.int .i64 (n:Int)] 3)).alloc (.cells #[.string ⟨#[]⟩,.int .i64 0] 29)) _ _ _ at F;change Arr ((((w.alloc (.cells #[.string (mkS (aD l)),.int .i64 (l.length:Int)] 29)).alloc (.cells #[.int .u64 (v:Int)] 54)).alloc (.cells #[.int .i64 (n:Int)] 3)).alloc (.cells #[.string ⟨#[]⟩,.int .i64 0] 29)) _ _ _ at d
 change Arr ((((w.alloc (.cells #[.string (mkS (aD l)),.int .i64 (l.length:Int)] 29)).alloc (.cells #[.int .u64 (v:Int)] 54)).alloc (.cells #[.int .i64 (n:Int)] 3)).alloc (.cells #[.string ⟨#[]⟩,.int .i64 0] 29)) _ _ _ at z;change Arr ((((w.alloc (.cells #[.string (mkS (aD l)),.int .i64 (l.length:Int)] 29)).alloc (.cells #[.int .u64 (v:Int)] 54)).alloc (.cells #[.int .i64 (n:Int)] 3)).alloc (.cells #[.string ⟨#[]⟩,.int .i64 0] 29)) _ _ _ at A
 generalize ((((w.alloc (.cells #[.string (mkS (aD l)),.int .i64 (l.length:Int)] 29)).alloc (.cells #[.int .u64 (v:Int)] 54)).alloc (.cells #[.int .i64 (n:Int)] 3)).alloc (.cells #[.string ⟨#[]⟩,.int .i64 0] 29))=w0 at*
 refine(PW 141 #[.pointer (some ⟨w.heap.size,0,none⟩),.pointer (some ⟨w.heap.size+1,0,none⟩),.pointer (some ⟨w.heap.size+1+1,0,none⟩)] (l++aY v n) w0 (enters_of Tryz.func141 (by kernel_rfl) rfl) ?_ (by rw[aL,cY];omega)).mono ?_
 ·intro W p B G hp V Y Z;exact aEi w.heap.size (w.heap.size+1) (w.heap.size+1+1) l v n W p B (F.below G F.lt) ((d.below G d.lt).cell (i:=0) rfl) ((z.below G z.lt).cell (i:=0) rfl) (by omega) (by omega) M O T V Y Z
 rintro e w1 ⟨rfl,H⟩;have E:=A.below H A.lt;have a0:=bV J H;have f0:=E.free 0;have f1:=E.free 1;have d0:=E.cell (i:=0) rfl;have d1:=E.cell (i:=1) rfl;clear F d z A H J U;unfold eL;generalize L:l++aY v n=m at*
 have HM:=hid L;clear L;go_wp2_with fail;have z0:Arr ((w1.setCell ⟨w.heap.size+1+1+1,0,none⟩ (.string (mkS (aD m)))).setCell ⟨w.heap.size+1+1+1,1,none⟩ (.int .i64 (m.length:Int))) (w.heap.size+1+1+1) 29 [.string (mkS (aD m)),.int .i64 (m.length:Int)]:=(E.set 0 _).set 1 _;exact gJ (qH rfl _ _ (w.heap.size+1+1+1) _ _ (0,0) _ rfl z0 Tryz.underlying29 rfl mF) rfl ⟨by rw[HM.out];rfl,(a0.setCell (p:=⟨w.heap.size+1+1+1,0,none⟩) (by show w.heap.size<=w.heap.size+1+1+1;omega) _).setCell (p:=⟨w.heap.size+1+1+1,1,none⟩) (by show w.heap.size<=w.heap.size+1+1+1;omega) _⟩
def qI (w:World) (v:Value) (d:List (List Bool)):Prop:=
 ∃a cap,v=.slice a d.length cap/\d.length<=cap/\cap<=maxLen/\
  (0<d.length->∃b off,a=some ⟨b,off,none⟩/\b<w.heap.size/\∀j l,d[j]? =some l->w.cell? ⟨b,off+j*2,none⟩=some (.string (mkS (aD l)))/\w.cell? ⟨b,off+j*2+1,none⟩=some (.int .i64 (l.length:Int)))
theorem qI.below {w w':World} {v:Value} {l:List (List Bool)} (h:qI w v l) (d:Below w.heap.size w w'):qI w' v l:=by
 obtain⟨a,cap,rfl,A,E,F⟩:=h;refine⟨a,cap,rfl,A,E,fun h=>?_⟩;obtain⟨b,off,rfl,z,G⟩:=F h;exact⟨b,off,rfl,dR z d.size,fun j p H=>by rw[(lP d).1 _ _ z,(lP d).1 _ _ z];exact G j p H⟩
theorem aEj (E:Nat) (v:Value) (d:List (List Bool)) (w0 W:World) (p B:Nat) (Y:qI w0 v d) (Z:W.cell? ⟨E,0,none⟩=some v) (J:Below w0.heap.size w0 W)
  (_hbs:E<p) (L:w0.heap.size<=p) (hl:d.flatten.length<=900000) (hp:p<B) (hB:B<=W.heap.size) (hw:WrS W p B []):
  Calls Tryz.prog 62 #[.pointer (some ⟨p,0,none⟩),.pointer (some ⟨E,0,none⟩)] W fun e F=>e=.returned (.tuple #[])/\WrS F p B d.flatten/\Below p W F/\nU W F:=by
 obtain⟨a,cap,rfl,a4,a0,M⟩:=Y;unfold maxLen at a0;go_enter Tryz.func62,Tryz.ntmps62;go_wp2_with fail
 go_loopg [7,4] d.length (fun g s7 _s4 wr=>∃k:Nat,k<=d.length/\g=d.length-k/\s7=.int .i64 (k:Int)/\WrS wr p B (d.take k).flatten/\Below p W wr/\nU W wr)
 case atStart=>exact⟨0,aU _,rfl,rfl,by simpa using hw,aB _ _,fun _ _ h=>h⟩
 case round=>
  obtain⟨k,hk,G,rfl,H,z,O⟩:=hrel;have HG:=hid G;clear G
  by_cases a1:k<d.length
  ·have t1:decide ((k:Int)<(d.length:Int))=true:=decide_eq_true (by omega);obtain⟨b,off,rfl,A,T⟩:=M (by omega);obtain⟨l,I⟩:∃l,d[k]? =some l:=⟨_,aN a1⟩;obtain⟨U,V⟩:=T k l I;have a5:=z.size;have c0:=(z.cell (p:=⟨b,off+k*2,none⟩) (dR A L)).trans ((J.cell (p:=⟨b,off+k*2,none⟩) A).trans U);have c1:=(z.cell (p:=⟨b,off+k*2+1,none⟩) (dR A L)).trans ((J.cell (p:=⟨b,off+k*2+1,none⟩) A).trans V);have HT:=hid (show(d.take (k+1)).flatten=(d.take k).flatten++l by rw[cQ,I];simp);have a6:(d.take k).flatten.length+l.length<=900000:=by
    have:d.flatten=(d.take (k+1)).flatten++(d.drop (k+1)).flatten:=by rw[<-List.flatten_append,jE]
    have h2:=congrArg List.length this;rw[HT.out,aL,aL] at h2;omega
   clear I T M U V Z;have a2:=PV p B (d.take k).flatten l (wr.alloc (.cells #[.string (mkS (aD l)),.int .i64 (l.length:Int)] 29)) (H.alloc _) hp (by simp;omega) (by omega);go_wp2_with fail;refine a2.mono ?_;rintro e w2 ⟨rfl,k1,k2,k3⟩;go_wp2_with fail;have G:=HG.out
   go_roundg (d.length-(k+1))
   case measure=>omega
   case rel=>exact⟨k+1,by omega,rfl,by go_num,by rw[HT.out];exact k1,(z.alloc (by omega) _).trans k2,fun g cs a3=>k3 g cs ((O g cs a3).alloc _)⟩
  ·have t1:decide ((k:Int)<(d.length:Int))=false:=decide_eq_false (by omega);rw[cS (by omega)] at H;go_wp2_with fail
   go_end0
   exact⟨rfl,H,z,O⟩
theorem CF (v:Value) (d:List (List Bool)) (w:World) (F:qI w v d) (T:d.flatten.length<=900000):
  Calls Tryz.prog 19 #[v] w fun e w'=>e=.returned (.tuple #[eL d.flatten,.int .i64 0])/\Below w.heap.size w w':=by
 have a4:∀(I:Fn) (first cap:Array Value) (w:World),(vJ I first cap).run Tryz.prog w=.ok (.func I first cap) w:=fun _ _ _ _=>rfl
 obtain⟨a,cap,rfl,U,V,J⟩:=F;have F:qI w (.slice a d.length cap) d:=⟨a,cap,rfl,U,V,J⟩;clear J;go_enter Tryz.func19,Tryz.ntmps19;go_wp2_with fail;have G:Below w.heap.size w ((w.alloc (.cells #[.slice a d.length cap] 67)).alloc (.cells #[.string ⟨#[]⟩,.int .i64 0] 29)):=((aB _ w).alloc (aA _) _).alloc (by simp) _;have Y:((w.alloc (.cells #[.slice a d.length cap] 67)).alloc (.cells #[.string ⟨#[]⟩,.int .i64 0] 29)).heap.size=w.heap.size+1+1:=by simp
 have E:=(Arr.new w 67 [.slice a d.length cap]).alloc (.cells #[.string ⟨#[]⟩,.int .i64 0] 29);have z:=Arr.new (w.alloc (.cells #[.slice a d.length cap] 67)) 29 [.string ⟨#[]⟩,.int .i64 0];simp only[fV] at z;change Arr ((w.alloc (.cells #[.slice a d.length cap] 67)).alloc (.cells #[.string ⟨#[]⟩,.int .i64 0] 29)) _ _ _ at E;change Arr ((w.alloc (.cells #[.slice a d.length cap] 67)).alloc (.cells #[.string ⟨#[]⟩,.int .i64 0] 29)) _ _ _ at z;have L:=F.below G;generalize ((w.alloc (.cells #[.slice a d.length cap] 67)).alloc (.cells #[.string ⟨#[]⟩,.int .i64 0] 29))=w0 at*
 refine(PW 62 #[.pointer (some ⟨w.heap.size,0,none⟩)] d.flatten w0 (enters_of Tryz.func62 (by kernel_rfl) rfl) ?_ (by omega)).mono ?_
 ·intro W p B M Z a0 a1 a2;exact aEj w.heap.size _ d w0 W p B L ((E.below M E.lt).cell (i:=0) rfl) M (by omega) Z T a0 a1 a2
 rintro e w1 ⟨rfl,H⟩;have A:=z.below H z.lt;have a3:=bV G H;have f0:=A.free 0;have f1:=A.free 1;have d0:=A.cell (i:=0) rfl;have d1:=A.cell (i:=1) rfl;clear E z H G Y L;unfold eL;generalize O:d.flatten=m at*
 have HM:=hid O;clear O;go_wp2_with fail;have z0:Arr ((w1.setCell ⟨w.heap.size+1,0,none⟩ (.string (mkS (aD m)))).setCell ⟨w.heap.size+1,1,none⟩ (.int .i64 (m.length:Int))) (w.heap.size+1) 29 [.string (mkS (aD m)),.int .i64 (m.length:Int)]:=(A.set 0 _).set 1 _;exact gJ (qH rfl _ _ (w.heap.size+1) _ _ (0,0) _ rfl z0 Tryz.underlying29 rfl mF) rfl ⟨by rw[HM.out];rfl,(a3.setCell (p:=⟨w.heap.size+1,0,none⟩) (by show w.heap.size<=w.heap.size+1;omega) _).setCell (p:=⟨w.heap.size+1,1,none⟩) (by show w.heap.size<=w.heap.size+1;omega) _⟩
end
end Go.Proofs.YtiifmcicleljjaaGreatDoor
