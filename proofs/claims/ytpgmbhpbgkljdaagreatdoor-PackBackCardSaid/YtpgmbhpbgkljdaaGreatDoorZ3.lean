/-
  Texts put together (part 3): the walks and the plain laws on which the statement stands.
-/
import Derived.Laws.BitsAllLaws
import Derived.Laws.Bits64
import Derived.Deep.CutBlock
import Derived.Deep.RegionHeld3
import Derived.Test.YtpgmbhpbgkljdaaGreatDoorZ1
set_option maxRecDepth 100000
set_option maxHeartbeats 12800000
open Decidable renaming not_not->dK
open Go renaming wpAnyH_ready->fL,wpAnyH_take->aQ,wp_region_held_drew->vI
open Go.Act renaming put->aJ
open Go.AllReadyH renaming cons->fA,nil->fM
open Go.IntKind renaming i64->aI,u64->fU,u8->pX,wrap_i64->aM,wrap_u64->gF
open Go.RowKit.Below renaming refl->aB
open Int renaming tmod_eq_emod_of_nonneg->oJ,toNat_natCast->eG
open List renaming any_eq_true->AH,append_assoc->cF,append_nil->eE,cons_append->gE,getD->fF,getD_eq_getElem?_getD->aV,getElem?_cons_succ->aS,getElem?_cons_zero->aP,getElem?_eq_getElem->aN,getElem?_toArray->aR,getElem_mem->gT,length_append->aL,length_cons->cR,mem_cons->kD,mem_filter->xN,mem_range->jF,range->dG,replicate->bB,setIfInBounds_toArray->aK,set_cons_succ->aG,set_cons_zero->aH,take_add_one->cQ,take_append_drop->jE
open List.Pairwise renaming imp_of_mem->aB5
open List.Perm renaming refl->xP
open Nat renaming eq_zero_or_pos->fJ,le_refl->aA,lt_of_le_of_lt->xI,mod_lt->jQ,mul_assoc->vH,mul_comm->oG,strongRecOn->FT
open Option.some renaming inj->bW
open Or renaming inl->aT
open UInt8 renaming ofNat->eK,toNat_ofNat'->nP
namespace Go.Proofs.YtpgmbhpbgkljdaaGreatDoor
section
def fP (p:Int->Bool):List Int->Int
 |[]=> -1
 |x::l=>if p x then 0 else if fP p l<0 then-1 else fP p l+1
theorem BQ (p:Int->Bool):∀l,-1<=fP p l/\fP p l<(l.length:Int)/\(fP p l<0↔∀x∈l,p x=false):=by
 intro l
 induction l with
 |nil=>simp[fP]
 |cons x l ih=>
  unfold fP;obtain⟨h1,h2,h3⟩:=ih
  by_cases hx:p x=true
  ·rw[if_pos hx];refine⟨by omega,by rw[cR];omega,?_⟩;constructor
   ·intro h;omega
   ·intro h;have:=h x (by simp);rw[hx] at this;exact Bool.noConfusion this
  ·rw[if_neg hx];have hx':p x=false:=by simpa using hx
   by_cases h:fP p l<0
   ·rw[if_pos h,cR];refine⟨by omega,by omega,?_⟩;constructor
    ·intro _ y hy;rcases kD.1 hy with rfl|hy
     ·exact hx'
     ·exact h3.1 h y hy
    ·intro _;omega
   ·rw[if_neg h,cR];refine⟨by omega,by omega,?_⟩;constructor
    ·intro _;omega
    ·intro h';have:∀y∈l,p y=false:=fun y hy=>h' y (List.mem_cons_of_mem _ hy)
     have:=h3.2 this;omega
theorem BR {p:Int->Bool}:∀{l:List Int} {k:Nat},(∀x∈l.take k,p x=false)->(hk:k<l.length)->p l[k]=true->fP p l=(k:Int):=by
 intro l
 induction l with
 |nil=>intro k _ hk;simp at hk
 |cons x l ih=>
  intro k h hk hp;unfold fP
  cases k with
  |zero=>rw[if_pos (by simpa using hp)];rfl
  |succ k=>
   have hx:=h x (by simp);rw[if_neg (by rw[hx];exact Bool.false_ne_true)];have e:=ih (k:=k) (fun y hy=>h y (by simp[hy])) (by simpa using hk) (by simpa using hp);rw[e,if_neg (by omega)];omega
theorem oN {p:Int->Bool} {l:List Int} (h:∀x∈l,p x=false):fP p l= -1:=by
 obtain⟨h1,_,h3⟩:=BQ p l;have:=h3.2 h;omega
def dB (s:List UInt8) (c:Nat):Bool:=s.any (fun b=>b.toNat==c)
theorem IJ (s:List UInt8) (b:UInt8):dB s b.toNat=true↔b∈s:=by
 unfold dB;rw[AH];constructor
 ·rintro⟨x,hx,h⟩;rw[beq_iff_eq,UInt8.toNat_inj] at h;rw[<-h];exact hx
 ·intro h;exact⟨b,h,by simp⟩
def jH (s:List UInt8) (m:Nat):List UInt8:=((dG m).filter (dB s)).map eK
def bK (s:List UInt8):List UInt8:=jH s 256
theorem IK (s:List UInt8) (m:Nat):jH s (m+1)=jH s m++if dB s m then[eK m] else[]:=by
 unfold jH;rw[List.range_succ,List.filter_append,List.map_append]
 congr 1
 by_cases h:dB s m=true
 ·simp[h]
 ·simp[h]
theorem PI (s:List UInt8) (m:Nat):(jH s m).length<=m:=by
 unfold jH;rw[List.length_map];have:=List.length_filter_le (dB s) (dG m)
 simpa using this
theorem yC (s:List UInt8) (b:UInt8):b∈bK s↔b∈s:=by
 unfold bK jH;rw[List.mem_map];constructor
 ·rintro⟨c,hc,rfl⟩;rw[xN,jF] at hc;have e:(eK c).toNat=c:=by rw[nP];omega
  rw[<-IJ,e];exact hc.2
 ·intro h;refine⟨b.toNat,?_,by simp⟩;rw[xN,jF];exact⟨b.toNat_lt,(IJ s b).2 h⟩
theorem BS (s:List UInt8):(bK s).Nodup:=by
 unfold bK jH List.Nodup;rw[List.pairwise_map];refine aB5 ?_ (List.pairwise_lt_range.sublist List.filter_sublist);intro a b ha hb hab e;have ha':=jF.1 (xN.1 ha).1;have hb':=jF.1 (xN.1 hb).1;have:=congrArg UInt8.toNat e;rw[nP,nP] at this;omega
theorem PJ {s t:List UInt8} (h:∀b,b∈s↔b∈t):bK s=bK t:=by
 have e:dB s=dB t:=by
  funext c
  unfold dB;rw[Bool.eq_iff_iff,AH,AH];exact⟨fun⟨x,h1,h2⟩=>⟨x,(h x).1 h1,h2⟩,fun⟨x,h1,h2⟩=>⟨x,(h x).2 h1,h2⟩⟩
 unfold bK jH;rw[e]
theorem PK (s:List UInt8):bK (bK s)=bK s:=PJ (fun b=>yC s b)
theorem BT {s:List UInt8} (h:s≠[]):bK s≠[]:=by
 cases s with
 |nil=>exact absurd rfl h
 |cons b s=>
  intro e;have:=(yC (b::s) b).2 (by simp);rw[e] at this;simp at this
def eF (a:List UInt8) (i:Nat):List UInt8:=(a.drop i).take 1++a.take i++a.drop (i+1)
theorem uE (a:List UInt8) (i:Nat):(eF a i).Perm a:=by
 unfold eF;have e:a=a.take i++((a.drop i).take 1++a.drop (i+1)):=by
  have h1:(a.drop i).drop 1=a.drop (i+1):=by rw[List.drop_drop]
  rw[<-h1,jE,jE]
 have h2:((a.drop i).take 1++a.take i++a.drop (i+1)).Perm (a.take i++((a.drop i).take 1++a.drop (i+1))):=by
  rw[<-cF];exact List.Perm.append_right _ List.perm_append_comm
 rw[<-e] at h2;exact h2
theorem vS (a:List UInt8) (i:Nat):(eF a i).length=a.length:=(uE a i).length_eq
def plc (a:List UInt8) (c:UInt8):Nat:=a.findIdx (fun b=>b==c)
theorem rG {a:List UInt8} {c:UInt8} (h:c∈a):plc a c<a.length:=List.findIdx_lt_length_of_exists ⟨c,h,by simp⟩
theorem BU {a:List UInt8} {c:UInt8} (h:c∈a):a[plc a c]? =some c:=by
 have hl:=rG h;have h2:=List.findIdx_getElem (p:=fun b=>b==c) (w:=hl);rw[aN hl];have h3:(a[plc a c]==c)=true:=h2;rw[beq_iff_eq] at h3;rw[h3]
theorem PL {a:List UInt8} {c:UInt8} {i:Nat} (h:i<plc a c) (hl:i<a.length):a[i]≠c:=by
 have:=List.not_of_lt_findIdx h;intro e;rw[e] at this;simp at this
theorem aDu {a:List UInt8} {c:UInt8} {i:Nat} (hi:i<a.length) (h:a[i]=c) (hm:∀j,(hj:j<i)->a[j]'(by omega)≠c):plc a c=i:=by
 have hmem:c∈a:=by rw[<-h];exact gT hi
 rcases Nat.lt_trichotomy (plc a c) i with p|p|p
 ·have:=BU hmem;have hl:=rG hmem;rw[aN hl] at this;exact absurd (bW this) (hm _ p)
 ·exact p
 ·exact absurd h (PL p hi)
theorem IL {a:List UInt8} (hn:a.Nodup) {i:Nat} (hi:i<a.length):plc a a[i]=i:=by
 refine aDu hi rfl (fun j hj e=>?_);exact List.pairwise_iff_getElem.1 hn j i (by omega) hi hj e
def cM:List UInt8->List UInt8->List Int
 |_,[]=>[]
 |a,c::s=>((plc a c:Nat):Int)::cM (eF a (plc a c)) s
def eB:List UInt8->List UInt8->List UInt8
 |a,[]=>a
 |a,c::s=>eB (eF a (plc a c)) s
theorem rH:∀(s a:List UInt8),(cM a s).length=s.length:=by
 intro s
 induction s with
 |nil=>intro a;rfl
 |cons c s ih=>intro a;simp[cM,ih]
theorem BV:∀(s a:List UInt8),(eB a s).Perm a:=by
 intro s
 induction s with
 |nil=>intro a;exact xP _
 |cons c s ih=>intro a;exact(ih _).trans (uE a _)
theorem BW (c:UInt8):∀(s a:List UInt8),cM a (s++[c])=cM a s++[((plc (eB a s) c:Nat):Int)]:=by
 intro s
 induction s with
 |nil=>intro a;rfl
 |cons d s ih=>intro a;simp only[gE,cM,eB,ih]
theorem IM (c:UInt8):∀(s a:List UInt8),eB a (s++[c])=eF (eB a s) (plc (eB a s) c):=by
 intro s
 induction s with
 |nil=>intro a;rfl
 |cons d s ih=>intro a;simp only[gE,eB,ih]
theorem vT:∀(s a:List UInt8),(∀b∈s,b∈a)->∀x∈cM a s,0<=x/\x<(a.length:Int):=by
 intro s
 induction s with
 |nil=>intro a _ x hx;simp[cM] at hx
 |cons c s ih=>
  intro a h x hx;rw[cM,kD] at hx;rcases hx with rfl|hx
  ·have:=rG (h c (by simp));omega
  ·have:=ih (eF a (plc a c)) (fun b hb=>(uE a _).mem_iff.2 (h b (by simp[hb]))) x hx;rwa[vS] at this
def unL:List UInt8->List Int->List UInt8
 |_,[]=>[]
 |a,i::l=>a.getD i.toNat 0::unL (eF a i.toNat) l
def unA:List UInt8->List Int->List UInt8
 |a,[]=>a
 |a,i::l=>unA (eF a i.toNat) l
theorem oO:∀(l:List Int) (a:List UInt8),(unL a l).length=l.length:=by
 intro l
 induction l with
 |nil=>intro a;rfl
 |cons c l ih=>intro a;simp[unL,ih]
theorem PM:∀(l:List Int) (a:List UInt8),(unA a l).Perm a:=by
 intro l
 induction l with
 |nil=>intro a;exact xP _
 |cons c l ih=>intro a;exact(ih _).trans (uE a _)
theorem IN (i:Int):∀(l:List Int) (a:List UInt8),unL a (l++[i])=unL a l++[(unA a l).getD i.toNat 0]:=by
 intro l
 induction l with
 |nil=>intro a;rfl
 |cons d l ih=>intro a;simp only[gE,unL,unA,ih]
theorem IP (i:Int):∀(l:List Int) (a:List UInt8),unA a (l++[i])=eF (unA a l) i.toNat:=by
 intro l
 induction l with
 |nil=>intro a;rfl
 |cons d l ih=>intro a;simp only[gE,unA,ih]
theorem PN:∀(s a:List UInt8),(∀b∈s,b∈a)->unL a (cM a s)=s:=by
 intro s
 induction s with
 |nil=>intro a _;rfl
 |cons c s ih=>
  intro a h;have hc:=BU (h c (by simp));simp only[cM,unL,eG];rw[fF,hc,ih _ (fun b hb=>(uE a _).mem_iff.2 (h b (by simp[hb])))];rfl
theorem IQ:∀(l:List Int) (a:List UInt8),(∀x∈l,0<=x/\x<(a.length:Int))->∀b∈unL a l,b∈a:=by
 intro l
 induction l with
 |nil=>intro a _ b hb;simp[unL] at hb
 |cons i l ih=>
  intro a h b hb;rw[unL,kD] at hb;rcases hb with rfl|hb
  ·have:=h i (by simp);rw[fF,aN (by omega)];exact gT _
  ·exact(uE a _).mem_iff.1 (ih _ (fun x hx=>by rw[vS];exact h x (by simp[hx])) b hb)
def sQ:Nat->Nat->List Int
 |0,_=>[]
 |f+1,n=>if n=0 then[] else(if n%2=1 then 0 else 1)::sQ f ((n-1)/2)
def dig (n:Nat):List Int:=sQ n n
theorem aDv:∀(f n g:Nat),n<=f->n<=g->sQ f n=sQ g n:=by
 intro f
 induction f with
 |zero=>
  intro n g h1 h2;have:n=0:=by omega
  subst this
  cases g with
  |zero=>rfl
  |succ g=>simp[sQ]
 |succ f ih=>
  intro n g h1 h2
  cases g with
  |zero=>
   have:n=0:=by omega
   subst this;simp[sQ]
  |succ g=>
   unfold sQ
   by_cases h0:n=0
   ·rw[if_pos h0,if_pos h0]
   ·rw[if_neg h0,if_neg h0,ih ((n-1)/2) g (by omega) (by omega)]
theorem qF:dig 0=[]:=rfl
theorem BY {n:Nat} (h:0<n):dig n=(if n%2=1 then 0 else 1)::dig ((n-1)/2):=by
 unfold dig;obtain⟨m,rfl⟩:∃m,n=m+1:=⟨n-1,by omega⟩;rw[sQ,if_neg (by omega),aDv m ((m+1-1)/2) ((m+1-1)/2) (by omega) (aA _)]
theorem BZ:∀(n:Nat),∀x∈dig n,x=0\/x=1:=by
 intro n
 induction n using FT with
 |ind n ih=>
  intro x hx;rcases fJ n with h|h
  ·subst h;simp[qF] at hx
  ·rw[BY h,kD] at hx;rcases hx with rfl|hx
   ·split
    ·exact .inl rfl
    ·exact .inr rfl
   ·exact ih _ (by omega) x hx
theorem CA:∀(n:Nat),(dig n).length<=n/\(0<n->0<(dig n).length):=by
 intro n
 induction n using FT with
 |ind n ih=>
  rcases fJ n with h|h
  ·subst h;simp[qF]
  ·rw[BY h,cR];have:=(ih ((n-1)/2) (by omega)).1;omega
def num:List Int->Nat
 |[]=>0
 |d::l=>(d.toNat+1)+2*num l
theorem PO:∀n,num (dig n)=n:=by
 intro n
 induction n using FT with
 |ind n ih=>
  rcases fJ n with h|h
  ·subst h;rfl
  ·rw[BY h,num,ih _ (by omega)];split
   ·simp;omega
   ·simp;omega
def cZ:Nat->List Int->List Int
 |k,[]=>dig k
 |k,x::l=>if x=0 then cZ (k+1) l else dig k++(x+1)::cZ 0 l
def zx:Nat->Nat->List Int->List Int
 |n,_,[]=>bB n 0
 |n,p,x::l=>if x<2 then zx (n+p*(x.toNat+1)) (2*p) l else bB n 0++(x-1)::zx 0 1 l
def dA (m:List Int):List Int:=zx 0 1 m
theorem IR:∀(r:List Int) (n p:Nat) (l:List Int),(∀x∈r,x<2)->zx n p (r++l)=zx (n+p*num r) (p*2^r.length) l:=by
 intro r
 induction r with
 |nil=>intro n p l _;simp[num]
 |cons d r ih=>
  intro n p l h;rw[gE,zx,if_pos (h d (by simp)),ih _ _ _ (fun x hx=>h x (by simp[hx])),num,cR,Nat.pow_succ];have e1:n+p*(d.toNat+1)+2*p*num r=n+p*(d.toNat+1+2*num r):=by
   rw[Nat.mul_add p (d.toNat+1),Nat.mul_left_comm p 2,vH 2 p];omega
  have e2:2*p*2^r.length=p*(2^r.length*2):=by
   rw[oG 2 p,vH,oG 2]
  rw[e1,e2]
theorem IS (n p:Nat):zx n p []=bB n 0:=rfl
theorem CB {n p:Nat} {x:Int} {l:List Int} (h:¬x<2):zx n p (x::l)=bB n 0++(x-1)::dA l:=by
 rw[zx,if_neg h];rfl
theorem aDw:∀(l:List Int) (k:Nat),(∀x∈l,0<=x)->dA (cZ k l)=bB k 0++l:=by
 intro l
 induction l with
 |nil=>
  intro k _;have:=IR (dig k) 0 1 [] (fun x hx=>by rcases BZ k x hx with h|h<;>omega);rw[eE] at this;rw[cZ,dA,this,IS,PO];simp
 |cons x l ih=>
  intro k h;rw[cZ]
  by_cases hx:x=0
  ·rw[if_pos hx,ih (k+1) (fun y hy=>h y (by simp[hy])),hx];rw[List.replicate_succ',cF];rfl
  ·have hx0:=h x (by simp);rw[if_neg hx,dA,IR _ _ _ _ (fun y hy=>by rcases BZ k y hy with h|h<;>omega),CB (by omega),ih 0 (fun y hy=>h y (by simp[hy])),PO];simp
theorem IT:∀(l:List Int) (k:Nat),(cZ k l).length<=k+l.length/\(0<k+l.length->0<(cZ k l).length):=by
 intro l
 induction l with
 |nil=>intro k;simpa [cZ] using CA k
 |cons x l ih=>
  intro k;rw[cZ]
  by_cases hx:x=0
  ·rw[if_pos hx];have:=ih (k+1);rw[cR];omega
  ·rw[if_neg hx,aL,cR,cR];have h1:=(CA k).1;have h2:=(ih 0).1;omega
theorem aDx:∀(l:List Int) (k:Nat),(∀x∈l,0<=x)->∀y∈cZ k l,y=0\/y=1\/∃x∈l,y=x+1/\x≠0:=by
 intro l
 induction l with
 |nil=>intro k _ y hy;rcases BZ k y hy with h|h;exact .inl h;exact .inr (.inl h)
 |cons x l ih=>
  intro k h y hy;rw[cZ] at hy;have lift:∀k,y∈cZ k l->y=0\/y=1\/∃z∈x::l,y=z+1/\z≠0:=by
   intro k hy;rcases ih k (fun z hz=>h z (by simp[hz])) y hy with q|q|⟨z,hz,q⟩
   ·exact .inl q
   ·exact .inr (.inl q)
   ·exact .inr (.inr ⟨z,by simp[hz],q⟩)
  by_cases hx:x=0
  ·rw[if_pos hx] at hy;exact lift _ hy
  ·rw[if_neg hx,List.mem_append,kD] at hy;rcases hy with hy|rfl|hy
   ·rcases BZ k y hy with h|h
    ·exact .inl h
    ·exact .inr (.inl h)
   ·exact .inr (.inr ⟨x,by simp,rfl,hx⟩)
   ·exact lift _ hy
def aO (n:Nat) (at':Int) (k:Nat):Int:=if at'<0 then 1 else if 8*(n:Int)-(k:Int)<at' then 2 else 0
def aE (s:List UInt8) (at':Int) (k:Nat):Nat:=if aO s.length at' k=0 then bY (seg s at'.toNat k) else 0
theorem fQ {n:Nat} {at':Int} {k:Nat} (h:aO n at' k=0):0<=at'/\at'.toNat+k<=8*n/\at'+(k:Int)<=8*(n:Int):=by
 unfold aO at h;split at h
 ·omega
 ·split at h
  ·omega
  ·omega
theorem aDz (n:Nat) (at':Int) (k:Nat):aO n at' k=0\/aO n at' k=1\/aO n at' k=2:=by
 unfold aO;split
 ·exact .inr (.inl rfl)
 ·split
  ·exact .inr (.inr rfl)
  ·exact .inl rfl
theorem iA (s:List UInt8) (at':Int) (k:Nat):aE s at' k<2^k:=by
 unfold aE;split
 ·next h=>
  have:=fQ h;have h2:=qE (seg s at'.toNat k);rwa[vR this.2.1] at h2
 ·exact Nat.pow_pos (by decide)
def eQ (s:List UInt8) (k:Nat):List Bool:=(dG 16).map (fun i=>dB s (16*k+i))
theorem sR (s:List UInt8) (k:Nat):(eQ s k).length=16:=by simp[eQ]
def iT (s:List UInt8) (k:Nat):Bool:=(eQ s k).any id
theorem yD (l:List Bool):bY l=0↔l.any id=false:=by
 refine yA (P:=fun l=>bY l=0↔l.any id=false) (by decide) (fun l b ih=>?_) l;rw[rF,List.any_append]
 cases b
 ·simp only[Bool.toNat_false,List.any_cons,List.any_nil,id,Bool.or_false];rw[<-ih];omega
 ·simp
def nB (s:List UInt8):List Bool:=(dG 16).map (iT s)
def eX (s:List UInt8):Nat->List Bool
 |0=>[]
 |k+1=>eX s k++if iT s k then eQ s k else[]
def fZ (s:List UInt8):List Bool:=nB s++eX s 16
theorem CC (s:List UInt8):∀k,(eX s k).length<=16*k
 |0=>by simp[eX]
 |k+1=>by
  have:=CC s k;unfold eX;rw[aL];split
  ·rw[sR];omega
  ·simp;omega
theorem CD (s:List UInt8):(fZ s).length<=272:=by
 have:=CC s 16;unfold fZ nB;simp;omega
def jS (v k:Nat):Nat->List UInt8
 |0=>[]
 |i+1=>jS v k i++if v.testBit (15-i) then[eK (16*k+i)] else[]
def cJ (s:List UInt8) (at':Int):Nat->List UInt8×Int×Bool×Int
 |0=>([],at'+16,aE s at' 16==0,aO s.length at' 16)
 |k+1=>
  let p:=cJ s at' k
  if p.2.2.2≠0 then p
  else if(aE s at' 16).testBit (15-k) then
   if aO s.length p.2.1 16≠0 then(p.1,p.2.1,p.2.2.1,aO s.length p.2.1 16)
   else(p.1++jS (aE s p.2.1 16) k 16,p.2.1+16,p.2.2.1||aE s p.2.1 16==0,0)
  else p
def cG (s:List UInt8) (at':Int):List UInt8×Int×Int:=
 let p:=cJ s at' 16
 if p.2.2.2≠0 then([],0,p.2.2.2) else if p.2.2.1 then([],0,3) else(p.1,p.2.1,0)
theorem CE (v k:Nat):∀i,(jS v k i).length<=i
 |0=>by simp[jS]
 |i+1=>by
  have:=CE v k i;unfold jS;rw[aL];split<;>simp<;>omega
theorem yE (s:List UInt8) (at':Int):∀k,(cJ s at' k).1.length<=16*k/\((cJ s at' k).2.2.2=0->at'+16<=(cJ s at' k).2.1/\(cJ s at' k).2.1<=at'+16+16*k)
 |0=>⟨by simp[cJ],fun _=>by simp[cJ]⟩
 |k+1=>by
  obtain⟨h1,h2⟩:=yE s at' k;unfold cJ;simp only
  split
  ·next h=>exact⟨by omega,fun q=>absurd q h⟩
  ·next h=>
   have h:=h2 (dK.1 h);split
   ·split
    ·next h3=>exact⟨by show(cJ s at' k).1.length<=_;omega,fun q=>absurd q h3⟩
    ·have:=CE (aE s (cJ s at' k).2.1 16) k 16;refine⟨by rw[aL];omega,fun _=>?_⟩;show at'+16<=(cJ s at' k).2.1+16/\(cJ s at' k).2.1+16<=_;omega
   ·exact⟨by omega,fun _=>by omega⟩
end
section
open Go.RowKit Go
theorem IU (x j:Nat):x/2^j%2=(x.testBit j).toNat:=by
 rw[Nat.testBit_eq_decide_div_mod_eq];rcases Nat.mod_two_eq_zero_or_one (x/2^j) with h|h<;>rw[h]<;>rfl
theorem yG (x j:Nat):(x:Int)/2^j=((x/2^j:Nat):Int):=by
 have e:((2:Int)^j)=((2^j:Nat):Int):=by push_cast;rfl
 rw[e,<-Int.natCast_ediv]
theorem aD0:∀x:Fin 256,∀k:Fin 8,((x.val*2^k.val%256)&&&128)=if x.val.testBit (7-k.val) then 128 else 0:=by decide+kernel
theorem aD1 (x k:Nat) (hx:x<256) (hk:k<8):bits .and .u8 (pX.wrap ((x:Int)*2^k)) 128=if x.testBit (7-k) then 128 else 0:=by
 have e:((2:Int)^k)=((2^k:Nat):Int):=by push_cast;rfl
 have h:pX.wrap ((x:Int)*2^k)=((x*2^k%256:Nat):Int):=by
  rw[IntKind.wrap_u8',e,<-Int.natCast_mul];omega
 rw[h,show(128:Int)=((128:Nat):Int) from rfl,u8_and_nat _ _ (jQ _ (by decide)) (by decide),aD0 ⟨x,hx⟩ ⟨k,hk⟩];split<;>rfl
theorem IV (v:Nat) (b:Bool) (h:2*v<18446744073709551616):bits .or .u64 (fU.wrap ((v:Int)*2)) (b.toNat:Int)=((2*v+b.toNat:Nat):Int):=by
 have h1:fU.wrap ((v:Int)*2)=((2*v:Nat):Int):=by rw[gF];omega
 have hb:b.toNat<2:=by cases b<;>decide
 rw[h1,u64_or_nat _ _ h (by omega),nat_join 1 (2*v) b.toNat (by omega) (by simpa using hb)]
end
section
open Go.RowKit
theorem PP (v n k:Nat) (h:k<n):(aY v n).take (k+1)=(aY v n).take k++[v.testBit (n-1-k)]:=by
 rw[cQ,ID _ _ _ h];rfl
theorem PR {s:List UInt8} {a k:Nat} (h:a+k<8*s.length):seg s a (k+1)=seg s a k++[dI s (a+k)]:=by
 unfold seg;rw[cQ]
 congr 1
 rw[List.getElem?_drop,sP,if_pos h];rfl
theorem PS (s:List UInt8) (a:Nat):seg s a 0=[]:=by simp[seg]
def sS (b:Bool):Nat:=if b then 128 else 0
theorem IW (s:ByteArray) (i:Nat) (w:World) (hi:i<8*s.size) (hs:s.size<=140737488355328):
  Calls Tryz.prog 52 #[.string s,.int .i64 (i:Int)] w fun e w'=>e=.returned (.int .u8 (sS (dI s.data.toList i):Nat))/\w'=w:=by
 have hk:i/8<s.size:=by omega
 have e1:(i:Int).tdiv 8=((i/8:Nat):Int):=by rw[Int.tdiv_eq_ediv_of_nonneg (by omega)];omega
 have e2:(i:Int).tmod 8=((i%8:Nat):Int):=by rw[oJ (by omega)];omega
 have eb:=eW s (i/8) hk;have hb:=s[i/8].toNat_lt;have hk8:i%8<8:=jQ _ (by decide);have e4:=aD1 s[i/8].toNat (i%8) hb hk8;have e5:dI s.data.toList i=s[i/8].toNat.testBit (7-i%8):=by unfold dI;rw[aV,eb];rfl
 have e6:((sS (dI s.data.toList i):Nat):Int)=if s[i/8].toNat.testBit (7-i%8)=true then 128 else 0:=by rw[e5];unfold sS;split<;>rfl
 rw[IntKind.wrap_u8,<-e6] at e4;clear e5 e6 eb;generalize sS (dI s.data.toList i)=t at*
 obtain⟨k,hkk⟩:∃k,k=i%8:=⟨_,rfl⟩;rw[<-hkk] at e2 e4 hk8;clear hkk;have e7:min k 8=k:=by omega
 go_enter Tryz.func52,Tryz.ntmps52;go_wp2_with fail;go_ret;exact⟨rfl,rfl⟩
theorem sT (s:ByteArray) (p:Int) (n:Nat) (w:World) (hs:s.size<=1000000) (hn:n<=64) (hp1: -9223372036854775808<=p) (hp2:p<=9223372036854775807):
  Calls Tryz.prog 25 #[.string s,.int .i64 p,.int .i64 (n:Int)] w fun e w'=>e=.returned (.tuple #[.int .u64 (aE s.data.toList p n:Nat),.int .i64 (aO s.size p n)])/\w'=w:=by
 have hL:s.data.toList.length=s.size:=by simp
 have n1:decide ((n:Int)<0)=false:=decide_eq_false (by omega);have n2:decide ((n:Int)>64)=false:=decide_eq_false (by omega);have n3:decide (64<(n:Int))=false:=decide_eq_false (by omega);have m1:aI.wrap (8*(s.size:Int))=8*(s.size:Int):=by rw[aM];omega
 have m2:aI.wrap (8*(s.size:Int)-(n:Int))=8*(s.size:Int)-(n:Int):=by rw[aM];omega
 by_cases h0:p<0
 ·have e1:aO s.size p n=1:=by unfold aO;rw[if_pos h0]
  have e2:aE s.data.toList p n=0:=by unfold aE;rw[hL,e1,if_neg (by decide)]
  rw[e1,e2];have t1:decide (p<0)=true:=decide_eq_true h0;clear hL e1 e2;go_enter Tryz.func25,Tryz.ntmps25;go_wp2_with fail
  go_ret2
  exact⟨rfl,rfl⟩
 ·have t1:decide (p<0)=false:=decide_eq_false h0
  by_cases h1:8*(s.size:Int)-(n:Int)<p
  ·have e1:aO s.size p n=2:=by unfold aO;rw[if_neg h0,if_pos h1]
   have e2:aE s.data.toList p n=0:=by unfold aE;rw[hL,e1,if_neg (by decide)]
   rw[e1,e2];have t2:decide (8*(s.size:Int)-(n:Int)<p)=true:=decide_eq_true h1;have t3:decide (p>8*(s.size:Int)-(n:Int))=true:=decide_eq_true h1;clear hL e1 e2;go_enter Tryz.func25,Tryz.ntmps25;go_wp2_with fail
   go_ret2
   exact⟨rfl,rfl⟩
  ·have e1:aO s.size p n=0:=by unfold aO;rw[if_neg h0,if_neg h1]
   obtain⟨a,rfl⟩:∃a:Nat,p=(a:Int):=⟨p.toNat,by omega⟩;have hin:a+n<=8*s.size:=by omega
   have e2:aE s.data.toList (a:Int) n=bY (seg s.data.toList a n):=by unfold aE;rw[hL,e1,if_pos rfl,eG]
   rw[e1,e2];have t2:decide (8*(s.size:Int)-(n:Int)<(a:Int))=false:=decide_eq_false h1;have t3:decide ((a:Int)>8*(s.size:Int)-(n:Int))=false:=decide_eq_false h1;have HL:=hid hL;clear hL e1 e2 h1;go_enter Tryz.func25,Tryz.ntmps25;go_wp2_with fail
   go_loopg [6,8,29] n (fun g s8 _s x9 wr=>∃k v:Nat,k<=n/\g=n-k/\x9=.int .i64 (k:Int)/\s8=.int .u64 (v:Int)/\v=bY (seg s.data.toList a k)/\wr=w)
   case atStart=>exact⟨0,0,by omega,rfl,rfl,rfl,by rw[PS];rfl,rfl⟩
   case round=>
    obtain⟨k,v,hk,hg,rfl,rfl,hv,rfl⟩:=hrel;have HG:=hid hg;clear hg
    by_cases hlt:k<n
    ·have t4:decide ((k:Int)<(n:Int))=true:=decide_eq_true (by omega);have hvl:=qE (seg s.data.toList a k);rw[vR (by rw[HL.out];omega),<-hv] at hvl;have h2:2^k<=2^63:=Nat.pow_le_pow_right (by decide) (by omega);have h63:(2:Nat)^63=9223372036854775808:=by decide
     rw[h63] at h2;have hv63:v<9223372036854775808:=by omega
     clear h63 h2 hvl;have hsg:=PR (s:=s.data.toList) (a:=a) (k:=k) (by rw[HL.out];omega);obtain⟨q,hq⟩:∃q:Nat,q=a+k:=⟨_,rfl⟩;obtain⟨b,hb⟩:∃b:Nat,b=(dI s.data.toList q).toNat:=⟨_,rfl⟩;have hb2:b<2:=by rw[hb];cases dI s.data.toList q<;>decide
     have HV:=hid (show 2*v+b=bY (seg s.data.toList a (k+1)) by rw[hsg,rF,<-hv,<-hq,<-hb]);have hq8:q<8*s.size:=by omega
     have m3:aI.wrap ((a:Int)+(k:Int))=(q:Int):=by rw[aM];omega
     obtain⟨d,hd⟩:∃d:Nat,d=2*v:=⟨_,rfl⟩;have m4:fU.wrap ((v:Int)*2)=(d:Int):=by rw[gF];omega
     have m5:fU.wrap (b:Int)=(b:Int):=by rw[gF];omega
     obtain⟨t,ht⟩:∃t:Nat,t=sS (dI s.data.toList q):=⟨_,rfl⟩;have m7:(t:Int)/128=(b:Int):=by rw[ht,hb];cases dI s.data.toList q<;>rfl
     have HT:=hid ht;obtain⟨v2,hv2⟩:∃v2:Nat,v2=d+b:=⟨_,rfl⟩;have m6:bits .or .u64 (d:Int) (b:Int)=(v2:Int):=by
      have:=IV v (dI s.data.toList q) (by omega);rw[m4,<-hb] at this;rw[this,hv2,hd]
     have HV2:=hid (show v2=bY (seg s.data.toList a (k+1)) by rw[<-HV.out,hv2,hd]);clear hsg hv hq hb hd hv2 hv63 ht;go_wp2_with fail;refine(IW s q _ hq8 (by omega)).mono ?_;rintro e w1 ⟨rfl,rfl⟩;rw[<-HT.out];go_wp2_with fail;have hg:=HG.out
     go_roundg (n-(k+1))
     case measure=>omega
     case rel=>exact⟨k+1,v2,by omega,rfl,by go_num,rfl,HV2.out,rfl⟩
    ·have t4:decide ((k:Int)<(n:Int))=false:=decide_eq_false (by omega);have hkn:k=n:=by omega
     have HV:=hid (show(v:Int)=((bY (seg s.data.toList a n):Nat):Int) by rw[hv,hkn]);clear hv hkn;go_wp2_with fail
     go_ret2
     exact⟨by rw[HV.out];rfl,rfl⟩
theorem IX {ops:Array Oper} {rest:List Oper} {o:Oper} {a:Act} {Q:Exit->Act->World->Prop} {w:World} (hgd:o.guard=none) (s x:Operand)
  (ho:o.op=.call {callee:=.builtin .append,args:=#[s,x],argTypes:=#[75,75]}) (base:Nat) (v:Value) (l:List UInt8) (hs:a.eval s=v) (hown:OwB w base v l)
  (g:Nat) (b:UInt8) (hx:a.eval x=.slice (some ⟨g,0,none⟩) 1 1) (hc:w.cell? ⟨g,0,none⟩=some (.int .u8 (b.toNat:Int))) (hroom:(l.length+1)*1<=140737488355328) (hbase:base<=w.heap.size)
  (h:∀v' w',OwB w' base v' (l++[b])->Below base w w'->w.grownBy w' v.ownBlock->wpList Tryz.prog ops Q rest (a.put o.dst v') w'):wpList Tryz.prog ops Q (o::rest) a w:=
 rD vQ hgd s x ho base v _ hs hown g _ hx hc rfl (by simpa using hroom) hbase (fun v' w' q1 q2 q3=>h v' w' (by unfold OwB;rw[IC];exact q1) q2 q3)
theorem mF:(Tryz.prog.info? 77).map (·.size)=some 2:=by kernel_rfl
abbrev WrR (p g k:Nat) (v:Value) (n:Int) (w':World):Prop:=
 w'.cell? ⟨p,0,none⟩=some v/\w'.cell? ⟨p,1,none⟩=some (.int .i64 n)/\w'.frozen? ⟨g,k,none⟩=false
def WrS (w:World) (p B:Nat) (l:List Bool):Prop:=∃v,Arr w p 184 [v,.int .i64 (l.length:Int)]/\OwB w B v (aD l)
theorem OwB.open {w:World} {B:Nat} {v:Value} {l:List UInt8} (h:OwB w B v l):∃a c,v=.slice a l.length c/\l.length<=c/\c<=maxLen:=by
 have h2:=h.rd;obtain⟨a,c,e,h1,h3,_⟩:=h2;exact⟨a,c,e,h1,h3⟩
theorem OwB.at {w:World} {B c:Nat} {a:Option Addr} {l:List UInt8} (h:OwB w B (.slice a l.length c) l) {k:Nat} (hk:k<l.length):∃g,a=some ⟨g,0,none⟩/\B<=g/\g<w.heap.size/\w.cell? ⟨g,k,none⟩=some (.int .u8 (l[k].toNat:Int))/\w.frozen? ⟨g,k,none⟩=false/\∀y:UInt8,OwB (w.setCell ⟨g,k,none⟩ (.int .u8 (y.toNat:Int))) B (.slice a l.length c) (l.set k y):=by
 have hbl:(eO l).length=l.length:=by simp[eO]
 rcases h.2 with⟨e,_⟩|⟨g,cap,cur,e,hB,hg,hnc,hcm,hcs,ht⟩
 ·injection e with _ e2 _;omega
 ·rw[hbl] at e hnc ht
  injection e with e1 e2 e3
  subst e1;subst e3;have hkc:k<cur.size:=by omega
  refine⟨g,rfl,hB,(Array.getElem?_eq_some_iff.1 hg).1,?_,frozen_of_row w g k cur _ hg,fun y=>?_⟩
  ·rw[cell_of_row w g k cur _ (0,0) hg];have:cur.toList[k]? =(eO l)[k]? :=by
    rw[<-ht,List.getElem?_take,if_pos (by omega)]
   rw[<-Array.getElem?_toList,this,BH (aN hk)]
  ·refine⟨by simp[eO],.inr ⟨g,c,cur.setIfInBounds k (.int .u8 (y.toNat:Int)),by simp[eO],hB,?_,by simpa [eO] using hnc,hcm,by simpa using hcs,?_⟩⟩
   ·rw[heap_setCell_same w g k cur _ _ hg]
   ·rw[show(eO (l.set k y)).length=l.length by simp[eO],Array.toList_setIfInBounds,List.take_set,<-OR]
    congr 1
theorem OwB.setLow {w:World} {B:Nat} {v:Value} {l:List UInt8} (h:OwB w B v l) {p:Addr} (hp:p.block<B) (x:Value):OwB (w.setCell p x) B v l:=by
 refine⟨h.1,?_⟩;rcases h.2 with hn|⟨g,cap,cur,rfl,h1,hg,rest⟩
 ·exact .inl hn
 ·refine .inr ⟨g,cap,cur,rfl,h1,?_,rest⟩;rw[heap_setCell_other w p g x (fun e=>by omega)];exact hg
def nU (w w':World):Prop:=∀(g:Nat) (cs:List Value),Arr w g 77 cs->Arr w' g 77 cs
theorem OwB.ne_arr {w:World} {B g:Nat} {v:Value} {l:List UInt8} {cs:List Value} (h:OwB w B v l) (hA:Arr w g 77 cs):some g≠v.ownBlock:=by
 intro e;rcases h.2 with⟨e2,_⟩|⟨g',cap,cur,e2,_,hg,_⟩
 ·rw[e2] at e;simp[Value.ownBlock] at e
 ·rw[e2] at e;simp[Value.ownBlock] at e;subst e;unfold Arr at hA;rw[hg] at hA
  injection hA with hA
  injection hA with _ h2 _
  exact absurd h2 (by decide)
theorem Arr.ne_wr {w:World} {p g:Nat} {xs cs:List Value} (h:Arr w p 184 xs) (hA:Arr w g 77 cs):p≠g:=by
 rintro rfl;unfold Arr at h hA;rw[h] at hA
 injection hA with hA
 injection hA with _ h2 _
 exact absurd h2 (by decide)
theorem OwB.openN {w:World} {B:Nat} {v:Value} {l:List UInt8} (h:OwB w B v l):∃a n c,v=.slice a n c/\Hid (n=l.length)/\n<=c/\c<=maxLen:=by
 obtain⟨a,c,e,h1,h2⟩:=h.open;exact⟨a,l.length,c,e,hid rfl,h1,h2⟩
theorem aEa (p B:Nat) (l:List Bool) (b:Bool) (w:World) (h:WrS w p B l) (hp:p<B) (hB:B<=w.heap.size) (hl:l.length<=1000000) (h8:l.length%8=0):
  Calls Tryz.prog 118 #[.pointer (some ⟨p,0,none⟩),.bool b] w fun e w'=>e=.returned (.tuple #[])/\WrS w' p B (l++[b])/\Below p w w'/\nU w w':=by
 obtain⟨v,hA,hown⟩:=h;obtain⟨a,c,rfl,hc1,hc2⟩:=hown.open;have c0:=hA.cell (i:=0) rfl;have c1:=hA.cell (i:=1) rfl;have f0:=hA.free 0;have f1:=hA.free 1;have e2:((l.length:Nat):Int).tmod 8=0:=by rw[oJ (by omega)];omega
 have hpl:(aD l).length=l.length/8:=by rw[gY];omega
 have hs8:=aDk h8 b;have hroom:((aD l).length+1)*1<=140737488355328:=by omega
 have HS:=hid hs8;have HP:=hid hpl;clear hs8 hpl;go_enter Tryz.func118,Tryz.ntmps118;go_upto_region 2 with(at_builtin;refine IX rfl _ _ rfl B _ _ rfl (Ow.alloc hown _) w.heap.size (0:UInt8) rfl ?_ ?_ ?_ ?_;(exact bS _ _ _);(exact hroom);(simp;omega);intro v3 w3 hown3 hB3 hgrow;(have hA3:=(hA.alloc _).below hB3 hp);(have k0:=hA3.cell (i:=0) rfl);(have k1:=hA3.cell (i:=1) rfl);(have q0:=hA3.free 0);(have q1:=hA3.free 1);(obtain⟨a3,n3,c3,rfl,HN3,hc31,hc32⟩:=hown3.openN));have hK3:nU w (w3.setCell ⟨p,0,none⟩ (.slice a3 n3 c3)):=fun g' cs' hg'=>
  (((hg'.alloc _).grown hgrow (hown.ne_arr hg')).other ⟨p,0,none⟩ (hA.ne_wr hg') _)
 have hown4:=hown3.setLow (p:=⟨p,0,none⟩) hp (.slice a3 n3 c3);have hA4:=hA3.set 0 (.slice a3 n3 c3);change Arr (w3.setCell ⟨p,0,none⟩ (.slice a3 n3 c3)) p 184 [.slice a3 n3 c3,.int .i64 (l.length:Int)] at hA4;have hB4:Below p w (w3.setCell ⟨p,0,none⟩ (.slice a3 n3 c3)):=(((aB p w).alloc (by omega) _).trans (hB3.mono (by omega))).setCell (p:=⟨p,0,none⟩) (aA _) _;clear hgrow hB3 hA3 k0 k1 q0 q1 hown3 hA hown c0 c1 f0 f1;generalize w3.setCell ⟨p,0,none⟩ (.slice a3 n3 c3)=w4 at*
 have k0:=hA4.cell (i:=0) rfl;have k1:=hA4.cell (i:=1) rfl;have q0:=hA4.free 0;have q1:=hA4.free 1;have hn3:=HN3.out;have hk:(aD l).length<(aD l++[0]).length:=by simp
 have hl1:(aD l++[(0:UInt8)]).length=(aD l).length+1:=by simp
 have hown5:=hown4;rw[hn3] at hown5;obtain⟨g,ha3,hBg,hgl,cg,fg,hset⟩:=hown5.at hk;have e0:(aD l++[(0:UInt8)])[(aD l).length]=0:=by simp
 rw[e0] at cg;have es:(aD l++[(0:UInt8)]).set (aD l).length 128=aD l++[128]:=by simp
 have hset':=hset 128;rw[es,<-hn3] at hset';obtain⟨k,hkk⟩:∃k,k=(aD l).length:=⟨_,rfl⟩;rw[<-hkk] at cg fg hset';have hpl:=HP.out;have m1:aI.wrap ((n3:Int)-1)=(k:Int):=by rw[aM];omega
 have m2:(0:Int)<=(k:Int):=by omega
 have m3:(k:Int)<(n3:Int):=by omega
 have m3':k<n3:=by omega
 have m4:¬g=p:=by omega
 have m4':¬p=g:=by omega
 have m5:bits .or .u8 0 128=128:=by decide
 have m6:aI.wrap ((l.length:Int)+1)=(l.length:Int)+1:=by rw[aM];omega
 have hlen:((l++[b]).length:Int)=(l.length:Int)+1:=by simp
 subst ha3;have hne:∀g' cs',Arr w4 g' 77 cs'->g≠g':=fun g' cs' hg' e=>hown4.ne_arr hg' (by rw[e];rfl)
 have HK:=hid hkk;clear hkk hl1 hk hn3 hown5 hset es e0 hpl
 cases b with
 |true=>
  go_upto_region 3 with fail;refine vI (S:=(fun w'=>w'.cell? ⟨p,0,none⟩=some (.slice (some ⟨g,0,none⟩) n3 c3)/\w'.cell? ⟨p,1,none⟩=some (.int .i64 (l.length:Int))/\w'.frozen? ⟨g,k,none⟩=false)) (by kernel_rfl) (show WrR p g k _ _ w4.drew from⟨k0,k1,fg⟩) (fun hHeld=>?_);refine aQ (i:=0) (oi:=?oia0) (v:=?va0) ?hia0 (by kernel_rfl) (by kernel_rfl) (by kernel_rfl) ?hqa0 ?hya0 (by assumption) ?_
  case hia0=>(simp only[aR,aP];rfl)
  case hqa0=>exact fun _ _ _ h=>h
  case hya0=>(refine aT ⟨by rfl,?_⟩;intro w' hSw;(try dsimp only at hSw);(try go_simp);try with_reducible rfl)
  try simp only[aJ,aK,aH,aG]
  refine aQ (i:=1) (oi:=?oia1) (v:=?va1) ?hia1 (by kernel_rfl) (by kernel_rfl) (by kernel_rfl) ?hqa1 ?hya1 (by assumption) ?_
  case hia1=>(simp only[aR,aS,aP];rfl)
  case hqa1=>exact fun _ _ _ h=>h
  case hya1=>(refine aT ⟨by rfl,?_⟩;intro w' hSw;(try dsimp only at hSw);(try go_simp);try with_reducible rfl)
  try simp only[aJ,aK,aH,aG]
  refine aQ (i:=2) (oi:=?oia2) (v:=?va2) ?hia2 (by kernel_rfl) (by kernel_rfl) (by kernel_rfl) ?hqa2 ?hya2 (by assumption) ?_
  case hia2=>(simp only[aR,aS,aP];rfl)
  case hqa2=>exact fun _ _ _ h=>h
  case hya2=>(refine aT ⟨by rfl,?_⟩;intro w' hSw;(try dsimp only at hSw);(try go_simp);try with_reducible rfl)
  try simp only[aJ,aK,aH,aG]
  refine aQ (i:=3) (oi:=?oia3) (v:=?va3) ?hia3 (by kernel_rfl) (by kernel_rfl) (by kernel_rfl) ?hqa3 ?hya3 (by assumption) ?_
  case hia3=>(simp only[aR,aS,aP];rfl)
  case hqa3=>exact fun _ _ _ h=>h
  case hya3=>(refine aT ⟨by rfl,?_⟩;intro w' hSw;(try dsimp only at hSw);(try go_simp);try with_reducible rfl)
  try simp only[aJ,aK,aH,aG]
  refine aQ (i:=4) (oi:=?oia4) (v:=?va4) ?hia4 (by kernel_rfl) (by kernel_rfl) (by kernel_rfl) ?hqa4 ?hya4 (by assumption) ?_
  case hia4=>(simp only[aR,aS,aP];rfl)
  case hqa4=>exact fun _ _ _ h=>h
  case hya4=>(refine aT ⟨by rfl,?_⟩;intro w' hSw;(try dsimp only at hSw);(try go_simp);try with_reducible rfl)
  try simp only[aJ,aK,aH,aG]
  refine aQ (i:=5) (oi:=?oia5) (v:=?va5) ?hia5 (by kernel_rfl) (by kernel_rfl) (by kernel_rfl) ?hqa5 ?hya5 (by assumption) ?_
  case hia5=>(simp only[aR,aS,aP];rfl)
  case hqa5=>exact fun _ _ _ h=>h
  case hya5=>(refine aT ⟨by rfl,?_⟩;intro w' hSw;(try dsimp only at hSw);(try go_simp);try with_reducible rfl)
  try simp only[aJ,aK,aH,aG]
  refine aQ (i:=6) (oi:=?oia6) (v:=?va6) ?hia6 (by kernel_rfl) (by kernel_rfl) (by kernel_rfl) ?hqa6 ?hya6 (by assumption) ?_
  case hia6=>(simp only[aR,aS,aP];rfl)
  case hqa6=>exact fun _ _ _ h=>h
  case hya6=>(refine aT ⟨by rfl,?_⟩;intro w' hSw;(try dsimp only at hSw);(try go_simp);try with_reducible rfl)
  try simp only[aJ,aK,aH,aG]
  refine aQ (i:=7) (oi:=?oia7) (v:=?va7) ?hia7 (by kernel_rfl) (by kernel_rfl) (by kernel_rfl) ?hqa7 ?hya7 (by assumption) ?_
  case hia7=>(simp only[aR,aS,aP];rfl)
  case hqa7=>exact fun _ _ _ h=>h
  case hya7=>(refine aT ⟨by rfl,?_⟩;intro w' hSw;(try dsimp only at hSw);(try go_simp);try with_reducible rfl)
  try simp only[aJ,aK,aH,aG]
  refine aQ (i:=8) (oi:=?oia8) (v:=?va8) ?hia8 (by kernel_rfl) (by kernel_rfl) (by kernel_rfl) ?hqa8 ?hya8 (by assumption) ?_
  case hia8=>(simp only[aR,aS,aP];rfl)
  case hqa8=>exact fun _ _ _ h=>h
  case hya8=>(refine aT ⟨by rfl,?_⟩;intro w' hSw;(try dsimp only at hSw);(try go_simp);try with_reducible rfl)
  try simp only[aJ,aK,aH,aG]
  refine aQ (i:=9) (oi:=?oia9) (v:=?va9) ?hia9 (by kernel_rfl) (by kernel_rfl) (by kernel_rfl) ?hqa9 ?hya9 (by assumption) ?_
  case hia9=>(simp only[aR,aS,aP];rfl)
  case hqa9=>exact fun _ _ _ h=>h
  case hya9=>(refine aT ⟨by rfl,?_⟩;intro w' hSw;(try dsimp only at hSw);(try go_simp);try with_reducible rfl)
  try simp only[aJ,aK,aH,aG]
  refine aQ (i:=10) (oi:=?oia10) (v:=?va10) ?hia10 (by kernel_rfl) (by kernel_rfl) (by kernel_rfl) ?hqa10 ?hya10 (by assumption) ?_
  case hia10=>(simp only[aR,aS,aP];rfl)
  case hqa10=>exact fun _ _ _ h=>h
  case hya10=>(refine aT ⟨by rfl,?_⟩;intro w' hSw;(try dsimp only at hSw);(try go_simp);try with_reducible rfl)
  try simp only[aJ,aK,aH,aG]
  refine aQ (i:=12) (oi:=?oia12) (v:=?va12) ?hia12 (by kernel_rfl) (by kernel_rfl) (by kernel_rfl) ?hqa12 ?hya12 (by assumption) ?_
  case hia12=>(simp only[aR,aS,aP];rfl)
  case hqa12=>exact fun _ _ _ h=>h
  case hya12=>(refine aT ⟨by rfl,?_⟩;intro w' hSw;(try dsimp only at hSw);(try go_simp);try with_reducible rfl)
  try simp only[aJ,aK,aH,aG]
  refine aQ (i:=13) (oi:=?oia13) (v:=?va13) ?hia13 (by kernel_rfl) (by kernel_rfl) (by kernel_rfl) ?hqa13 ?hya13 (by assumption) ?_
  case hia13=>(simp only[aR,aS,aP];rfl)
  case hqa13=>exact fun _ _ _ h=>h
  case hya13=>(refine aT ⟨by rfl,?_⟩;intro w' hSw;(try dsimp only at hSw);(try go_simp);try with_reducible rfl)
  try simp only[aJ,aK,aH,aG]
  refine aQ (i:=14) (oi:=?oia14) (v:=?va14) ?hia14 (by kernel_rfl) (by kernel_rfl) (by kernel_rfl) ?hqa14 ?hya14 (by assumption) ?_
  case hia14=>(simp only[aR,aS,aP];rfl)
  case hqa14=>exact fun _ _ _ h=>h
  case hya14=>(refine aT ⟨by rfl,?_⟩;intro w' hSw;(try dsimp only at hSw);(try go_simp);try with_reducible rfl)
  try simp only[aJ,aK,aH,aG]
  refine aQ (i:=15) (oi:=?oia15) (v:=?va15) ?hia15 (by kernel_rfl) (by kernel_rfl) (by kernel_rfl) ?hqa15 ?hya15 (by assumption) ?_
  case hia15=>(simp only[aR,aS,aP];rfl)
  case hqa15=>exact fun _ _ _ h=>h
  case hya15=>(refine aT ⟨by rfl,?_⟩;intro w' hSw;(try dsimp only at hSw);(try go_simp);try with_reducible rfl)
  try simp only[aJ,aK,aH,aG]
  refine aQ (i:=16) (oi:=?oia16) (v:=?va16) ?hia16 (by kernel_rfl) (by kernel_rfl) (by kernel_rfl) ?hqa16 ?hya16 (by assumption) ?_
  case hia16=>(simp only[aR,aS,aP];rfl)
  case hqa16=>exact fun _ _ _ h=>h
  case hya16=>(refine aT ⟨by rfl,?_⟩;intro w' hSw;(try dsimp only at hSw);(try go_simp);try with_reducible rfl)
  try simp only[aJ,aK,aH,aG]
  refine aQ (i:=17) (oi:=?oia17) (v:=?va17) ?hia17 (by kernel_rfl) (by kernel_rfl) (by kernel_rfl) ?hqa17 ?hya17 (by assumption) ?_
  case hia17=>(simp only[aR,aS,aP];rfl)
  case hqa17=>exact fun _ _ _ h=>h
  case hya17=>(refine aT ⟨by rfl,?_⟩;intro w' hSw;(try dsimp only at hSw);(try go_simp);try with_reducible rfl)
  try simp only[aJ,aK,aH,aG]
  refine fL (rs:=[11]) (by kernel_rfl) (by simp) ?_;refine fA rfl (fun K hK=>?_) ?_
  rotate_left
  ·exact fM
  have cg':w4.drew.cell? ⟨g,k,none⟩=some (.int .u8 ((0:UInt8).toNat:Int)):=cg;go_simp;refine hK.out _ _ (show WrR p g k _ _ w4.drew from⟨k0,k1,fg⟩) (fun hHeld1=>?_);clear hK K
  try simp only[aJ,aK,aH,aG]
  refine aQ (i:=18) (oi:=?oia18) (v:=?va18) ?hia18 (by kernel_rfl) (by kernel_rfl) (by kernel_rfl) ?hqa18 ?hya18 (by assumption) ?_
  case hia18=>(simp only[aR,aS,aP];rfl)
  case hqa18=>exact fun _ _ _ h=>h
  case hya18=>(refine aT ⟨by rfl,?_⟩;intro w' hSw;(try dsimp only at hSw);(try go_simp);try with_reducible rfl)
  try simp only[aJ,aK,aH,aG]
  refine aQ (i:=19) (oi:=?oia19) (v:=?va19) ?hia19 (by kernel_rfl) (by kernel_rfl) (by kernel_rfl) ?hqa19 ?hya19 (by assumption) ?_
  case hia19=>(simp only[aR,aS,aP];rfl)
  case hqa19=>exact fun _ _ _ h=>h
  case hya19=>(refine aT ⟨by rfl,?_⟩;intro w' hSw;(try dsimp only at hSw);(try go_simp);try with_reducible rfl)
  try simp only[aJ,aK,aH,aG]
  refine fL (rs:=[20]) (by kernel_rfl) (by simp) ?_;refine fA rfl (fun K hK=>?_) ?_
  rotate_left
  ·exact fM
  go_simp;have hset3:OwB (w4.setCell ⟨g,k,none⟩ (.int .u8 128)).drew B (.slice (some ⟨g,0,none⟩) n3 c3) (aD l++[128]):=hset';have hA5:Arr (w4.setCell ⟨g,k,none⟩ (.int .u8 128)).drew p 184 [.slice (some ⟨g,0,none⟩) n3 c3,.int .i64 (l.length:Int)]:=Arr.other (w:=w4) hA4 ⟨g,k,none⟩ m4 _;have hB5:Below p w (w4.setCell ⟨g,k,none⟩ (.int .u8 128)).drew:=(hB4.setCell (p:=⟨g,k,none⟩) (by show p<=g;omega) _).drew;have j0:=hA5.cell (i:=0) rfl;have j1:=hA5.cell (i:=1) rfl;have j3:((w4.setCell ⟨g,k,none⟩ (.int .u8 128)).drew).frozen? ⟨g,k,none⟩=false:=by simpa using fg
  have q1':=hA5.free 1;clear hset' hown4 hA4 hB4 cg fg k0 k1 q0 q1;have hHS:=HS.out;rw[if_pos rfl] at hHS;refine hK.out _ _ (show WrR p g k _ _ _ from⟨j0,j1,j3⟩) (fun hHeld2=>?_);clear hK K;refine wpAnyH_done (by kernel_rfl) ?_ _;go_wp2_with fail
  go_end0
  refine⟨rfl,⟨.slice (some ⟨g,0,none⟩) n3 c3,?_,?_⟩,hB5.setCell (p:=⟨p,1,none⟩) (aA _) _,fun g' cs' hg'=>((hK3 g' cs' hg').other ⟨g,k,none⟩ (fun e=>hne g' cs' (hK3 g' cs' hg') e) _).other ⟨p,1,none⟩ (hA5.ne_wr ((hK3 g' cs' hg').other ⟨g,k,none⟩ (fun e=>hne g' cs' (hK3 g' cs' hg') e) _)) _⟩
  ·rw[hlen];exact hA5.set 1 _
  ·rw[hHS];exact hset3.setLow (p:=⟨p,1,none⟩) hp _
 |false=>
  have hHS:=HS.out;rw[if_neg (by decide)] at hHS;go_wp2_with fail
  go_end0
  refine⟨rfl,⟨.slice (some ⟨g,0,none⟩) n3 c3,?_,?_⟩,hB4.setCell (p:=⟨p,1,none⟩) (aA _) _,fun g' cs' hg'=>(hK3 g' cs' hg').other ⟨p,1,none⟩ (hA4.ne_wr (hK3 g' cs' hg')) _⟩
  ·rw[hlen];exact hA4.set 1 _
  ·rw[hHS];exact hown4.setLow (p:=⟨p,1,none⟩) hp _
end
section
open Go.RowKit Go
theorem aEb {l:List Bool} (h:l.length%8≠0):aD (l++[false])=aD l:=by
 have hk:(aD l).length-1<(aD l).length:=by rw[gY];omega
 rw[OX h false,if_neg (by decide),Nat.or_zero,aV,aN hk];simp
theorem aEc (p B:Nat) (l:List Bool) (b:Bool) (w:World) (h:WrS w p B l) (hp:p<B) (hl:l.length<=1000000) (h8:l.length%8≠0):
  Calls Tryz.prog 118 #[.pointer (some ⟨p,0,none⟩),.bool b] w fun e w'=>e=.returned (.tuple #[])/\WrS w' p B (l++[b])/\Below p w w'/\nU w w':=by
 obtain⟨v,hA,hown⟩:=h;have hpl:(aD l).length=l.length/8+1:=by rw[gY];omega
 obtain⟨k,hk⟩:∃k,k=(aD l).length-1:=⟨_,rfl⟩;have hkl:k<(aD l).length:=by omega
 obtain⟨a,c,rfl,hc1,hc2⟩:=hown.open;obtain⟨g,rfl,hBg,hgl,cg,fg,hset⟩:=hown.at hkl;obtain⟨r,hr⟩:∃r,r=l.length%8:=⟨_,rfl⟩;have hr8:r<8:=by omega
 have e2:((l.length:Nat):Int).tmod 8=(r:Int):=by rw[oJ (by omega)];omega
 have t1:((r:Int)==0)=false:=beq_eq_false_iff_ne.2 (by omega);have t2:decide ((r:Int)=0)=false:=decide_eq_false (by omega);have e7:min r 8=r:=by omega
 have k0:=hA.cell (i:=0) rfl;have k1:=hA.cell (i:=1) rfl;have q0:=hA.free 0;have q1:=hA.free 1;have m6:aI.wrap ((l.length:Int)+1)=(l.length:Int)+1:=by rw[aM];omega
 have hlen:((l++[b]).length:Int)=(l.length:Int)+1:=by simp
 have hne:∀g' cs',Arr w g' 77 cs'->g≠g':=fun g' cs' hg' e=>hown.ne_arr hg' (by rw[e];rfl)
 have hnp:∀g' cs',Arr w g' 77 cs'->p≠g':=fun g' cs' hg'=>hA.ne_wr hg'
 cases b with
 |false=>
  have hHS:=hid (aEb h8);clear hset hk hpl hc1 hc2 hr h8;go_enter Tryz.func118,Tryz.ntmps118;go_wp2_with fail
  go_end0
  refine⟨rfl,⟨.slice (some ⟨g,0,none⟩) (aD l).length c,?_,?_⟩,(aB p w).setCell (p:=⟨p,1,none⟩) (aA _) _,fun g' cs' hg'=>hg'.other ⟨p,1,none⟩ (hnp g' cs' hg') _⟩
  ·rw[hlen];exact hA.set 1 _
  ·rw[hHS.out];exact hown.setLow (p:=⟨p,1,none⟩) hp _
 |true=>
  have hHS:=OX h8 true;rw[if_pos rfl,<-hk,<-hr,aV,aN hkl,Option.getD_some] at hHS;obtain⟨x,hx⟩:∃x:Nat,x=(aD l)[k].toNat:=⟨_,rfl⟩;have hx256:x<256:=by rw[hx];exact UInt8.toNat_lt _
  obtain⟨y,hy⟩:∃y:Nat,y=128>>>r:=⟨_,rfl⟩;have hy256:y<256:=by rw[hy];exact xI (Nat.shiftRight_le _ _) (by decide)
  obtain⟨z,hz⟩:∃z:Nat,z=x|||y:=⟨_,rfl⟩;have hz256:z<256:=by rw[hz];exact Nat.or_lt_two_pow (n:=8) hx256 hy256
  have m8:(128:Int)/2^r=(y:Int):=by
   have:=yG 128 r;rw[hy,Nat.shiftRight_eq_div_pow];exact this
  have m9:bits .or .u8 (x:Int) (y:Int)=(z:Int):=by rw[u8_or_nat _ _ hx256 hy256,hz]
  have hzu:((eK z).toNat:Int)=(z:Int):=by rw[nP,Nat.mod_eq_of_lt (by omega)]
  rw[<-hx] at cg hHS;rw[<-hy,<-hz] at hHS;have hset':=hset (eK z);rw[hzu,<-hHS] at hset';obtain⟨n,hn⟩:∃n,n=(aD l).length:=⟨_,rfl⟩;have hkn:k<n:=by omega
  rw[<-hn] at hset' k0 hA hk;have m1:aI.wrap ((n:Int)-1)=(k:Int):=by rw[aM];omega
  have m2:(0:Int)<=(k:Int):=by omega
  have m3:(k:Int)<(n:Int):=by omega
  have m4:¬g=p:=by omega
  have m4':¬p=g:=by omega
  clear hset hk hpl hc1 hc2 hr h8 hx hy hz hHS hzu hn hown;go_enter Tryz.func118,Tryz.ntmps118;go_upto_region 3 with fail;refine vI (S:=(fun w'=>w'.cell? ⟨p,0,none⟩=some (.slice (some ⟨g,0,none⟩) n c)/\w'.cell? ⟨p,1,none⟩=some (.int .i64 (l.length:Int))/\w'.frozen? ⟨g,k,none⟩=false)) (by kernel_rfl) (show WrR p g k _ _ w.drew from⟨k0,k1,fg⟩) (fun hHeld=>?_);refine aQ (i:=0) (oi:=?oia0) (v:=?va0) ?hia0 (by kernel_rfl) (by kernel_rfl) (by kernel_rfl) ?hqa0 ?hya0 (by assumption) ?_
  case hia0=>(simp only[aR,aP];rfl)
  case hqa0=>exact fun _ _ _ h=>h
  case hya0=>(refine aT ⟨by rfl,?_⟩;intro w' hSw;(try dsimp only at hSw);(try go_simp);try with_reducible rfl)
  try simp only[aJ,aK,aH,aG]
  refine aQ (i:=1) (oi:=?oia1) (v:=?va1) ?hia1 (by kernel_rfl) (by kernel_rfl) (by kernel_rfl) ?hqa1 ?hya1 (by assumption) ?_
  case hia1=>(simp only[aR,aS,aP];rfl)
  case hqa1=>exact fun _ _ _ h=>h
  case hya1=>(refine aT ⟨by rfl,?_⟩;intro w' hSw;(try dsimp only at hSw);(try go_simp);try with_reducible rfl)
  try simp only[aJ,aK,aH,aG]
  refine aQ (i:=2) (oi:=?oia2) (v:=?va2) ?hia2 (by kernel_rfl) (by kernel_rfl) (by kernel_rfl) ?hqa2 ?hya2 (by assumption) ?_
  case hia2=>(simp only[aR,aS,aP];rfl)
  case hqa2=>exact fun _ _ _ h=>h
  case hya2=>(refine aT ⟨by rfl,?_⟩;intro w' hSw;(try dsimp only at hSw);(try go_simp);try with_reducible rfl)
  try simp only[aJ,aK,aH,aG]
  refine aQ (i:=3) (oi:=?oia3) (v:=?va3) ?hia3 (by kernel_rfl) (by kernel_rfl) (by kernel_rfl) ?hqa3 ?hya3 (by assumption) ?_
  case hia3=>(simp only[aR,aS,aP];rfl)
  case hqa3=>exact fun _ _ _ h=>h
  case hya3=>(refine aT ⟨by rfl,?_⟩;intro w' hSw;(try dsimp only at hSw);(try go_simp);try with_reducible rfl)
  try simp only[aJ,aK,aH,aG]
  refine aQ (i:=4) (oi:=?oia4) (v:=?va4) ?hia4 (by kernel_rfl) (by kernel_rfl) (by kernel_rfl) ?hqa4 ?hya4 (by assumption) ?_
  case hia4=>(simp only[aR,aS,aP];rfl)
  case hqa4=>exact fun _ _ _ h=>h
  case hya4=>(refine aT ⟨by rfl,?_⟩;intro w' hSw;(try dsimp only at hSw);(try go_simp);try with_reducible rfl)
  try simp only[aJ,aK,aH,aG]
  refine aQ (i:=5) (oi:=?oia5) (v:=?va5) ?hia5 (by kernel_rfl) (by kernel_rfl) (by kernel_rfl) ?hqa5 ?hya5 (by assumption) ?_
  case hia5=>(simp only[aR,aS,aP];rfl)
  case hqa5=>exact fun _ _ _ h=>h
  case hya5=>(refine aT ⟨by rfl,?_⟩;intro w' hSw;(try dsimp only at hSw);(try go_simp);try with_reducible rfl)
  try simp only[aJ,aK,aH,aG]
  refine aQ (i:=6) (oi:=?oia6) (v:=?va6) ?hia6 (by kernel_rfl) (by kernel_rfl) (by kernel_rfl) ?hqa6 ?hya6 (by assumption) ?_
  case hia6=>(simp only[aR,aS,aP];rfl)
  case hqa6=>exact fun _ _ _ h=>h
  case hya6=>(refine aT ⟨by rfl,?_⟩;intro w' hSw;(try dsimp only at hSw);(try go_simp);try with_reducible rfl)
  try simp only[aJ,aK,aH,aG]
  refine aQ (i:=7) (oi:=?oia7) (v:=?va7) ?hia7 (by kernel_rfl) (by kernel_rfl) (by kernel_rfl) ?hqa7 ?hya7 (by assumption) ?_
  case hia7=>(simp only[aR,aS,aP];rfl)
  case hqa7=>exact fun _ _ _ h=>h
  case hya7=>(refine aT ⟨by rfl,?_⟩;intro w' hSw;(try dsimp only at hSw);(try go_simp);try with_reducible rfl)
  try simp only[aJ,aK,aH,aG]
  refine aQ (i:=8) (oi:=?oia8) (v:=?va8) ?hia8 (by kernel_rfl) (by kernel_rfl) (by kernel_rfl) ?hqa8 ?hya8 (by assumption) ?_
  case hia8=>(simp only[aR,aS,aP];rfl)
  case hqa8=>exact fun _ _ _ h=>h
  case hya8=>(refine aT ⟨by rfl,?_⟩;intro w' hSw;(try dsimp only at hSw);(try go_simp);try with_reducible rfl)
  try simp only[aJ,aK,aH,aG]
  refine aQ (i:=9) (oi:=?oia9) (v:=?va9) ?hia9 (by kernel_rfl) (by kernel_rfl) (by kernel_rfl) ?hqa9 ?hya9 (by assumption) ?_
  case hia9=>(simp only[aR,aS,aP];rfl)
  case hqa9=>exact fun _ _ _ h=>h
  case hya9=>(refine aT ⟨by rfl,?_⟩;intro w' hSw;(try dsimp only at hSw);(try go_simp);try with_reducible rfl)
  try simp only[aJ,aK,aH,aG]
  refine aQ (i:=10) (oi:=?oia10) (v:=?va10) ?hia10 (by kernel_rfl) (by kernel_rfl) (by kernel_rfl) ?hqa10 ?hya10 (by assumption) ?_
  case hia10=>(simp only[aR,aS,aP];rfl)
  case hqa10=>exact fun _ _ _ h=>h
  case hya10=>(refine aT ⟨by rfl,?_⟩;intro w' hSw;(try dsimp only at hSw);(try go_simp);try with_reducible rfl)
  try simp only[aJ,aK,aH,aG]
  refine aQ (i:=12) (oi:=?oia12) (v:=?va12) ?hia12 (by kernel_rfl) (by kernel_rfl) (by kernel_rfl) ?hqa12 ?hya12 (by assumption) ?_
  case hia12=>(simp only[aR,aS,aP];rfl)
  case hqa12=>exact fun _ _ _ h=>h
  case hya12=>(refine aT ⟨by rfl,?_⟩;intro w' hSw;(try dsimp only at hSw);(try go_simp);try with_reducible rfl)
  try simp only[aJ,aK,aH,aG]
  refine aQ (i:=13) (oi:=?oia13) (v:=?va13) ?hia13 (by kernel_rfl) (by kernel_rfl) (by kernel_rfl) ?hqa13 ?hya13 (by assumption) ?_
  case hia13=>(simp only[aR,aS,aP];rfl)
  case hqa13=>exact fun _ _ _ h=>h
  case hya13=>(refine aT ⟨by rfl,?_⟩;intro w' hSw;(try dsimp only at hSw);(try go_simp);try with_reducible rfl)
  try simp only[aJ,aK,aH,aG]
  refine aQ (i:=14) (oi:=?oia14) (v:=?va14) ?hia14 (by kernel_rfl) (by kernel_rfl) (by kernel_rfl) ?hqa14 ?hya14 (by assumption) ?_
  case hia14=>(simp only[aR,aS,aP];rfl)
  case hqa14=>exact fun _ _ _ h=>h
  case hya14=>(refine aT ⟨by rfl,?_⟩;intro w' hSw;(try dsimp only at hSw);(try go_simp);try with_reducible rfl)
  try simp only[aJ,aK,aH,aG]
  refine aQ (i:=15) (oi:=?oia15) (v:=?va15) ?hia15 (by kernel_rfl) (by kernel_rfl) (by kernel_rfl) ?hqa15 ?hya15 (by assumption) ?_
  case hia15=>(simp only[aR,aS,aP];rfl)
  case hqa15=>exact fun _ _ _ h=>h
  case hya15=>(refine aT ⟨by rfl,?_⟩;intro w' hSw;(try dsimp only at hSw);(try go_simp);try with_reducible rfl)
  try simp only[aJ,aK,aH,aG]
  refine aQ (i:=16) (oi:=?oia16) (v:=?va16) ?hia16 (by kernel_rfl) (by kernel_rfl) (by kernel_rfl) ?hqa16 ?hya16 (by assumption) ?_
  case hia16=>(simp only[aR,aS,aP];rfl)
  case hqa16=>exact fun _ _ _ h=>h
  case hya16=>(refine aT ⟨by rfl,?_⟩;intro w' hSw;(try dsimp only at hSw);(try go_simp);try with_reducible rfl)
  try simp only[aJ,aK,aH,aG]
  refine aQ (i:=17) (oi:=?oia17) (v:=?va17) ?hia17 (by kernel_rfl) (by kernel_rfl) (by kernel_rfl) ?hqa17 ?hya17 (by assumption) ?_
  case hia17=>(simp only[aR,aS,aP];rfl)
  case hqa17=>exact fun _ _ _ h=>h
  case hya17=>(refine aT ⟨by rfl,?_⟩;intro w' hSw;(try dsimp only at hSw);(try go_simp);try with_reducible rfl)
  try simp only[aJ,aK,aH,aG]
  refine fL (rs:=[11]) (by kernel_rfl) (by simp) ?_;refine fA rfl (fun K hK=>?_) ?_
  rotate_left
  ·exact fM
  have cg':w.drew.cell? ⟨g,k,none⟩=some (.int .u8 (x:Int)):=cg;go_simp;refine hK.out _ _ (show WrR p g k _ _ w.drew from⟨k0,k1,fg⟩) (fun hHeld1=>?_);clear hK K
  try simp only[aJ,aK,aH,aG]
  refine aQ (i:=18) (oi:=?oia18) (v:=?va18) ?hia18 (by kernel_rfl) (by kernel_rfl) (by kernel_rfl) ?hqa18 ?hya18 (by assumption) ?_
  case hia18=>(simp only[aR,aS,aP];rfl)
  case hqa18=>exact fun _ _ _ h=>h
  case hya18=>(refine aT ⟨by rfl,?_⟩;intro w' hSw;(try dsimp only at hSw);(try go_simp);try with_reducible rfl)
  try simp only[aJ,aK,aH,aG]
  refine aQ (i:=19) (oi:=?oia19) (v:=?va19) ?hia19 (by kernel_rfl) (by kernel_rfl) (by kernel_rfl) ?hqa19 ?hya19 (by assumption) ?_
  case hia19=>(simp only[aR,aS,aP];rfl)
  case hqa19=>exact fun _ _ _ h=>h
  case hya19=>(refine aT ⟨by rfl,?_⟩;intro w' hSw;(try dsimp only at hSw);(try go_simp);try with_reducible rfl)
  try simp only[aJ,aK,aH,aG]
  refine fL (rs:=[20]) (by kernel_rfl) (by simp) ?_;refine fA rfl (fun K hK=>?_) ?_
  rotate_left
  ·exact fM
  go_simp;have hset3:OwB (w.setCell ⟨g,k,none⟩ (.int .u8 (z:Int))).drew B (.slice (some ⟨g,0,none⟩) n c) (aD (l++[true])):=hset';have hA5:Arr (w.setCell ⟨g,k,none⟩ (.int .u8 (z:Int))).drew p 184 [.slice (some ⟨g,0,none⟩) n c,.int .i64 (l.length:Int)]:=Arr.other (w:=w) hA ⟨g,k,none⟩ m4 _;have hB5:Below p w (w.setCell ⟨g,k,none⟩ (.int .u8 (z:Int))).drew:=((aB p w).setCell (p:=⟨g,k,none⟩) (by show p<=g;omega) _).drew;have j0:=hA5.cell (i:=0) rfl;have j1:=hA5.cell (i:=1) rfl;have j3:((w.setCell ⟨g,k,none⟩ (.int .u8 (z:Int))).drew).frozen? ⟨g,k,none⟩=false:=by simpa using fg
  have q1':=hA5.free 1;clear hset' hA cg fg k0 k1 q0 q1;refine hK.out _ _ (show WrR p g k _ _ _ from⟨j0,j1,j3⟩) (fun hHeld2=>?_);clear hK K;refine wpAnyH_done (by kernel_rfl) ?_ _;go_wp2_with fail
  go_end0
  refine⟨rfl,⟨.slice (some ⟨g,0,none⟩) n c,?_,?_⟩,hB5.setCell (p:=⟨p,1,none⟩) (aA _) _,fun g' cs' hg'=>(hg'.other ⟨g,k,none⟩ (hne g' cs' hg') _).other ⟨p,1,none⟩ (hnp g' cs' hg') _⟩
  ·rw[hlen];exact hA5.set 1 _
  ·exact hset3.setLow (p:=⟨p,1,none⟩) hp _
theorem PU (p B:Nat) (l:List Bool) (b:Bool) (w:World) (h:WrS w p B l) (hp:p<B) (hB:B<=w.heap.size) (hl:l.length<=1000000):
  Calls Tryz.prog 118 #[.pointer (some ⟨p,0,none⟩),.bool b] w fun e w'=>e=.returned (.tuple #[])/\WrS w' p B (l++[b])/\Below p w w'/\nU w w':=by
 by_cases h8:l.length%8=0
 ·exact aEa p B l b w h hp hB hl h8
 ·exact aEc p B l b w h hp hl h8
theorem IY (v j:Nat) (hv:v<18446744073709551616):bits .and .u64 ((v:Int)/2^j) 1=((v.testBit j).toNat:Int):=by
 rw[yG,show(1:Int)=((1:Nat):Int) from rfl,u64_and_nat _ _ (xI (Nat.div_le_self _ _) hv) (by decide),nat_mask1,IU]
theorem aEd (p B:Nat) (l:List Bool) (v n:Nat) (w:World) (h:WrS w p B l) (hp:p<B) (hB:B<=w.heap.size) (hl:l.length+n<=1000000) (hv:v<18446744073709551616) (hn:n<=64):
  Calls Tryz.prog 80 #[.pointer (some ⟨p,0,none⟩),.int .u64 (v:Int),.int .i64 (n:Int)] w fun e w'=>e=.returned (.tuple #[])/\WrS w' p B (l++aY v n)/\Below p w w'/\nU w w':=by
 have n1:decide ((n:Int)<0)=false:=decide_eq_false (by omega);have n2:decide ((n:Int)>64)=false:=decide_eq_false (by omega);have n3:decide (64<(n:Int))=false:=decide_eq_false (by omega);have m1:aI.wrap ((n:Int)-1)=(n:Int)-1:=by rw[aM];omega
 go_enter Tryz.func80,Tryz.ntmps80;go_wp2_with fail
 go_loopg [6] n (fun g s6 wr=>∃k:Nat,k<=n/\g=n-k/\s6=.int .i64 ((n:Int)-1-(k:Int))/\WrS wr p B (l++(aY v n).take k)/\Below p w wr/\nU w wr)
 case atStart=>exact⟨0,Nat.zero_le _,rfl,by go_num,by rw[List.take_zero,eE];exact h,aB _ _,fun _ _ hx=>hx⟩
 case round=>
  obtain⟨k,hk,hg,rfl,hw,hbel,hkp⟩:=hrel;have HG:=hid hg;clear hg
  by_cases hlt:k<n
  ·obtain⟨j,hj⟩:∃j:Nat,j=n-1-k:=⟨_,rfl⟩;have ej:(n:Int)-1-(k:Int)=(j:Int):=by omega
   have t1:decide ((j:Int)>=0)=true:=decide_eq_true (by omega);have t2:decide (0<=(j:Int))=true:=decide_eq_true (by omega);have e7:min j 64=j:=by omega
   have hlen:(l++(aY v n).take k).length<=1000000:=by rw[aL,List.length_take,cY];omega
   have hbs:=hbel.size;have HS:=hid (PP v n k hlt);have e4:=IY v j hv;rw[ej];have HJ:=hid hj;clear hj ej;obtain⟨b,hb⟩:∃b,b=v.testBit j:=⟨_,rfl⟩;have HBt:=hid hb;rw[<-hb] at e4;clear hb;have hcall:=PU p B _ b wr hw hp (by omega) hlen
   cases b with
   |true=>
    go_wp2_with fail;refine hcall.mono ?_;rintro e w1 ⟨rfl,h1,h2,h3⟩;go_wp2_with fail;have hg:=HG.out;have hj:=HJ.out
    go_roundg (n-(k+1))
    case measure=>omega
    case rel=>exact⟨k+1,by omega,rfl,by go_num,by rw[HS.out,<-cF,<-hj,<-HBt.out];exact h1,hbel.trans h2,fun g' cs' hg'=>h3 g' cs' (hkp g' cs' hg')⟩
   |false=>
    go_wp2_with fail;refine hcall.mono ?_;rintro e w1 ⟨rfl,h1,h2,h3⟩;go_wp2_with fail;have hg:=HG.out;have hj:=HJ.out
    go_roundg (n-(k+1))
    case measure=>omega
    case rel=>exact⟨k+1,by omega,rfl,by go_num,by rw[HS.out,<-cF,<-hj,<-HBt.out];exact h1,hbel.trans h2,fun g' cs' hg'=>h3 g' cs' (hkp g' cs' hg')⟩
  ·have t1:decide ((n:Int)-1-(k:Int)>=0)=false:=decide_eq_false (by omega);have t2:decide (0<=(n:Int)-1-(k:Int))=false:=decide_eq_false (by omega);rw[List.take_of_length_le (by rw[cY];omega)] at hw;go_wp2_with fail
   go_end0
   exact⟨rfl,hw,hbel,hkp⟩
end
end Go.Proofs.YtpgmbhpbgkljdaaGreatDoor
