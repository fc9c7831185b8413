/- The walks and the plain laws, part 3. -/
import Derived.Shelf.Strings.Builder1
import Derived.Shelf.Strings.BuilderF
import Derived.Shelf.Strings.BuilderK
import Derived.Test.YtiifmcicleljjaaGreatDoorT2
set_option maxRecDepth 100000
set_option maxHeartbeats 12800000
set_option linter.unusedVariables false
open BitVec renaming toNat_shiftLeft->GP
open Decidable renaming not_not->dK
open Go.IntKind renaming u32->rA,wrap_u32'->aCs
open Go.Lib renaming OthersKept->GY,byteCells->nS
open Int renaming le_refl->lJ,toNat_natCast->eG
open List renaming append_assoc->cF,drop_append_of_le_length->aTb,ext_getElem?->jA,flatMap_append->pZ,flatten_cons->AS,getD_eq_getElem?_getD->aV,getElem?_append_left->gS,getElem?_drop->gR,getElem?_eq_getElem->aN,getElem?_eq_none->dL,getElem?_map->dY,getElem?_range->pF,getElem?_take->lW,getElem_mem->gT,length_append->aL,length_cons->cR,length_drop->cI,length_flatten->aCm,length_map->bJ,length_nil->cX,length_singleton->fK,length_take->aX,map_congr_left->qW,map_map->xJ,map_replicate->xV,mem_append->cU,mem_cons_of_mem->jD,mem_cons_self->lY,mem_map->dU,mem_of_getElem?->cH,mem_range->jF,mem_singleton->dC,range->dG,replicate->bB,replicate_succ->AE,sum_cons->pV,sum_replicate_nat->aCn,take_add_one->cQ,take_append_drop->jE,take_append_of_le_length->GO,take_length->kE,take_of_length_le->cS
open Nat renaming add_assoc->dZ,le_refl->aA,mul_comm->oG,shiftLeft_eq->GQ
open Prod renaming ext->gK
open UInt8 renaming ofNat->eK
namespace Go.Proofs.YtiifmcicleljjaaGreatDoor
section
def jU (d x:Int):List Bool:=(bB (x-d).toNat [true,false]).flatten++(bB (d-x).toNat [true,true]).flatten++[false]
def eI (d:Int):List Int->List Bool
 |[]=>[]
 |x::l=>jU d x++eI x l
theorem CY (x:Int):∀(l:List Int) (d:Int),eI d (l++[x])=eI d l++jU (l.getLastD d) x
 |[],d=>by simp[eI]
 |y::l,d=>by
  show jU d y++eI y (l++[x])=(jU d y++eI y l)++_;rw[CY x l y,cF]
  congr 3
  cases l<;>rfl
def dW (l:List Int):List Bool:=aY (l.getD 0 0).toNat 5++eI (l.getD 0 0) l
theorem aHk (d x:Int) (z:1<=d) (A:d<=20) (E:1<=x) (F:x<=20):(jU d x).length<=39:=by
 unfold jU;simp only[aL,aCm,xV,aCn,cR,cX];omega
theorem CZ:∀(l:List Int) (d:Int),1<=d->d<=20->(∀x∈l,1<=x/\x<=20)->(eI d l).length<=39*l.length
 |[],_,_,_,_=>by simp[eI]
 |x::l,d,A,E,h=>by
  have z:=h x (lY ..);have:=CZ l x z.1 z.2 (fun y F=>h y (jD _ F));have:=aHk d x A E z.1 z.2;unfold eI;rw[aL,cR];omega
def iB (s:List UInt8):Nat->Int->Int->Int×Int×Int
 |0,_,_=>(0,0,2)
 |f+1,at',n=>
  if aO s.length at' 1≠0 then(0,0,aO s.length at' 1)
  else if aE s at' 1=0 then(n,at'+1,0)
  else if aO s.length (at'+1) 1≠0 then(0,0,aO s.length (at'+1) 1)
  else
   let m:=if aE s (at'+1) 1=0 then n+1 else n-1
   if m<1\/20<m then(0,0,3) else iB s f (at'+2) m
def eD (s:List UInt8) (at' n:Int):Int×Int×Int:=iB s (8*s.length+2) at' n
theorem JX (s:List UInt8):∀(f g:Nat) (at' n:Int),0<=at'->8*(s.length:Int)+1-at'<=f->8*(s.length:Int)+1-at'<=g->1<=f->1<=g->iB s f at' n=iB s g at' n
 |0,_,_,_,_,_,_,h,_=>by omega
 |_,0,_,_,_,_,_,_,h=>by omega
 |f+1,g+1,at',n,E,F,G,_,_=>by
  unfold iB;split
  ·rfl
  ·next z=>
   have z:=fQ (dK.1 z);split
   ·rfl
   ·split
    ·rfl
    ·next A=>
     have A:=fQ (dK.1 A);simp only
     generalize (if aE s (at'+1) 1=0 then n+1 else n-1)=m
     by_cases d:m<1\/20<m
     ·rw[if_pos d,if_pos d]
     ·rw[if_neg d,if_neg d];exact JX s f g _ _ (by omega) (by omega) (by omega) (by omega) (by omega)
theorem wF (s:List UInt8) (at' n:Int) (E:0<=at'):eD s at' n=
  if aO s.length at' 1≠0 then(0,0,aO s.length at' 1)
  else if aE s at' 1=0 then(n,at'+1,0)
  else if aO s.length (at'+1) 1≠0 then(0,0,aO s.length (at'+1) 1)
  else if(if aE s (at'+1) 1=0 then n+1 else n-1)<1\/20<(if aE s (at'+1) 1=0 then n+1 else n-1) then(0,0,3)
  else eD s (at'+2) (if aE s (at'+1) 1=0 then n+1 else n-1):=by
 unfold eD
 conv=>lhs;unfold iB
 split
 ·rfl
 ·next z=>
  have z:=fQ (dK.1 z);split
  ·rfl
  ·split
   ·rfl
   ·next A=>
    have A:=fQ (dK.1 A);simp only
    generalize (if aE s (at'+1) 1=0 then n+1 else n-1)=m
    by_cases d:m<1\/20<m
    ·rw[if_pos d,if_pos d]
    ·rw[if_neg d,if_neg d];exact JX s _ _ _ _ (by omega) (by omega) (by omega) (by omega) (by omega)
theorem DA (s:List UInt8):∀(f:Nat) (at' n:Int),0<=at'->1<=n->n<=20->(iB s f at' n).2.2=0->1<=(iB s f at' n).1/\(iB s f at' n).1<=20/\at'<(iB s f at' n).2.1/\(iB s f at' n).2.1<=8*(s.length:Int)
 |0,_,_,_,_,_,h=>by unfold iB at h;simp at h
 |f+1,at',n,F,A,E,h=>by
  unfold iB at h ⊢;split at h
  ·next q=>exact absurd h q
  ·next q=>
   have G:=fQ (dK.1 q);rw[if_neg q];split at h
   ·next k=>
    rw[if_pos k];exact⟨A,E,by show at'<at'+1;omega,by show at'+1<=_;omega⟩
   ·next k=>
    rw[if_neg k];split at h
    ·next d=>exact absurd h d
    ·next d=>
     rw[if_neg d];simp only at h ⊢;generalize (if aE s (at'+1) 1=0 then n+1 else n-1)=m at h ⊢
     by_cases z:m<1\/20<m
     ·rw[if_pos z] at h;simp at h
     ·rw[if_neg z] at h ⊢;have:=DA s f (at'+2) m (by omega) (by omega) (by omega) h;omega
def aZ (s:List UInt8) (at':Int):Nat->List Int×Int×Int×Int
 |0=>([],(aE s at' 5:Int),at'+5,if aO s.length at' 5≠0 then aO s.length at' 5 else if(aE s at' 5:Int)<1\/20<(aE s at' 5:Int) then 3 else 0)
 |k+1=>
  let p:=aZ s at' k
  if p.2.2.2≠0 then p
  else let q:=eD s p.2.2.1 p.2.1
   if q.2.2≠0 then(p.1,p.2.1,p.2.2.1,q.2.2) else(p.1++[q.1],q.1,q.2.1,0)
def eJ (s:List UInt8) (at':Int) (n:Int):List Int×Int×Int:=
 if at'<0\/n<2\/258<n then([],0,1)
 else let p:=aZ s at' n.toNat
  if p.2.2.2≠0 then([],0,p.2.2.2) else(p.1,p.2.2.1,0)
theorem yR (s:List UInt8) (at':Int) (E:0<=at'):∀k,(aZ s at' k).2.2.2=0->(aZ s at' k).1.length=k/\(∀x∈(aZ s at' k).1,1<=x/\x<=20)/\(1<=(aZ s at' k).2.1/\(aZ s at' k).2.1<=20)/\at'<(aZ s at' k).2.2.1/\(aZ s at' k).2.2.1<=8*(s.length:Int)
 |0,h=>by
  unfold aZ at h ⊢;simp only at h ⊢;split at h
  ·next q=>exact absurd h q
  ·next q=>
   have H:=fQ (dK.1 q);split at h
   ·simp at h
   ·next z=>exact⟨rfl,fun x d=>by simp at d,by omega,by omega,by omega⟩
 |k+1,h=>by
  unfold aZ at h ⊢;simp only at h ⊢;split at h
  ·next q=>exact absurd h q
  ·next q=>
   obtain⟨F,G,A,I,J⟩:=yR s at' E k (dK.1 q);rw[if_neg q];split at h
   ·next z=>exact absurd h z
   ·next z=>
    rw[if_neg z];have:=DA s _ (aZ s at' k).2.2.1 (aZ s at' k).2.1 (by omega) A.1 A.2 (dK.1 z);refine⟨by simp[F],fun x d=>?_,⟨this.1,this.2.1⟩,by show at'<(eD _ _ _).2.1;unfold eD;omega,this.2.2.2⟩;rcases cU.1 d with d|d
    ·exact G x d
    ·obtain rfl:=dC.1 d;exact⟨this.1,this.2.1⟩
theorem SB {a c:List UInt8} {b:UInt8} (h:b∈a):plc (a++c) b=plc a b:=by
 unfold plc;rw[List.findIdx_append,if_pos (by
  have:=rG h;unfold plc at this;exact this)]
theorem SC {a c:List UInt8} {i:Nat} (h:i<a.length):eF (a++c) i=eF a i++c:=by
 unfold eF;rw[aTb (by omega),GO (by rw[cI];omega),GO (by omega),aTb (by omega)];simp[cF]
theorem aHl {a:List UInt8} {i:Nat} {b:UInt8}:b∈eF a i↔b∈a:=(uE a i).mem_iff
theorem JY:∀(s a c:List UInt8),(∀b∈s,b∈a)->cM (a++c) s=cM a s/\eB (a++c) s=eB a s++c
 |[],_,_,_=>⟨rfl,rfl⟩
 |b::s,a,c,h=>by
  have d:=h b (lY ..);have z:=JY s (eF a (plc a b)) c (fun x A=>aHl.2 (h x (jD _ A)));have e:eF (a++c) (plc (a++c) b)=eF a (plc a b)++c:=by rw[SB d,SC (rG d)]
  unfold cM eB;rw[e,SB d];exact⟨by rw[z.1],z.2⟩
theorem SD:∀(l:List Int) (a c:List UInt8),(∀x∈l,0<=x/\x<(a.length:Int))->unL (a++c) l=unL a l/\unA (a++c) l=unA a l++c
 |[],_,_,_=>⟨rfl,rfl⟩
 |x::l,a,c,h=>by
  have A:=h x (lY ..);have d:=SD l (eF a x.toNat) c (fun y z=>by rw[vS];exact h y (jD _ z));have e:eF (a++c) x.toNat=eF a x.toNat++c:=SC (by omega);unfold unL unA;rw[e];refine⟨?_,d.2⟩;rw[d.1]
  congr 1
  rw[aV,gS (by omega),aV]
def cC (n:Nat):List UInt8:=(dG n).map eK
theorem oR (n:Nat):(cC n).length=n:=by simp[cC]
theorem JZ {n:Nat} (h:n<=6):cC 6=cC n++(cC 6).drop n:=by
 have e:(cC 6).take n=cC n:=by
  unfold cC;rw[<-List.map_take,List.take_range,Nat.min_eq_left h]
 rw[<-e,jE]
theorem KA {n:Nat} (h:n<=6) (b:UInt8):b∈cC n↔b.toNat<n:=by
 unfold cC;rw[dU];constructor
 ·rintro⟨k,d,rfl⟩;rw[jF] at d;rw[UInt8.toNat_ofNat',Nat.mod_eq_of_lt (by omega)];exact d
 ·intro z;exact⟨b.toNat,jF.2 z,by simp⟩
def lF (p:Int):List Bool:=bB p.toNat true++[false]
def dE (l:List Int):List Bool:=l.flatMap lF
theorem KB (l:List Int) (p:Int):dE (l++[p])=dE l++lF p:=by unfold dE;simp[pZ]
def jK (s:List UInt8) (tables:Int):Nat->Int->Int->Int×Int×Int
 |0,_,_=>(0,0,2)
 |f+1,at',n=>
  if aO s.length at' 1≠0 then(0,0,aO s.length at' 1)
  else if aE s at' 1=0 then(n,at'+1,0)
  else if n+1=tables then(0,0,3)
  else jK s tables f (at'+1) (n+1)
def gV (s:List UInt8) (tables at' n:Int):Int×Int×Int:=jK s tables (8*s.length+2) at' n
theorem KC (s:List UInt8) (tables:Int):∀(f g:Nat) (at' n:Int),0<=at'->8*(s.length:Int)+1-at'<=f->8*(s.length:Int)+1-at'<=g->1<=f->1<=g->jK s tables f at' n=jK s tables g at' n
 |0,_,_,_,_,_,_,h,_=>by omega
 |_,0,_,_,_,_,_,_,h=>by omega
 |f+1,g+1,at',n,z,A,E,_,_=>by
  unfold jK;split
  ·rfl
  ·next d=>
   have d:=fQ (dK.1 d);split
   ·rfl
   ·split
    ·rfl
    ·exact KC s tables f g _ _ (by omega) (by omega) (by omega) (by omega) (by omega)
theorem DB (s:List UInt8) (tables at' n:Int) (z:0<=at'):gV s tables at' n=
  if aO s.length at' 1≠0 then(0,0,aO s.length at' 1)
  else if aE s at' 1=0 then(n,at'+1,0)
  else if n+1=tables then(0,0,3)
  else gV s tables (at'+1) (n+1):=by
 unfold gV
 conv=>lhs;unfold jK
 split
 ·rfl
 ·next d=>
  have d:=fQ (dK.1 d);split
  ·rfl
  ·split
   ·rfl
   ·exact KC s tables _ _ _ _ (by omega) (by omega) (by omega) (by omega) (by omega)
theorem DC (s:List UInt8) (tables:Int):∀(f:Nat) (at' n:Int),0<=at'->0<=n->n<tables->(jK s tables f at' n).2.2=0->0<=(jK s tables f at' n).1/\(jK s tables f at' n).1<tables/\at'<(jK s tables f at' n).2.1/\(jK s tables f at' n).2.1<=8*(s.length:Int)
 |0,_,_,_,_,_,h=>by unfold jK at h;simp at h
 |f+1,at',n,E,d,z,h=>by
  unfold jK at h ⊢;split at h
  ·next q=>exact absurd h q
  ·next q=>
   have F:=fQ (dK.1 q);rw[if_neg q];split at h
   ·next k=>
    rw[if_pos k];exact⟨d,z,by show at'<at'+1;omega,by show at'+1<=_;omega⟩
   ·next k=>
    rw[if_neg k];split at h
    ·simp at h
    ·next A=>
     rw[if_neg A];have:=DC s tables f (at'+1) (n+1) (by omega) (by omega) (by omega) h;omega
def cO (s:List UInt8) (tables at':Int):Nat->List Int×Int×Int
 |0=>([],at',0)
 |k+1=>
  let p:=cO s tables at' k
  if p.2.2≠0 then p
  else let q:=gV s tables p.2.1 0
   if q.2.2≠0 then(p.1,p.2.1,q.2.2) else(p.1++[q.1],q.2.1,0)
theorem wG (s:List UInt8) (tables at':Int) (E:0<=at') (A:0<tables):∀k,(cO s tables at' k).2.2=0->(cO s tables at' k).1.length=k/\(∀x∈(cO s tables at' k).1,0<=x/\x<tables)/\at'<=(cO s tables at' k).2.1/\((cO s tables at' k).2.1=at'\/(cO s tables at' k).2.1<=8*(s.length:Int))
 |0,_=>⟨rfl,fun x d=>by simp[cO] at d,lJ _,.inl rfl⟩
 |k+1,h=>by
  unfold cO at h ⊢;simp only at h ⊢;split at h
  ·next q=>exact absurd h q
  ·next q=>
   obtain⟨F,G,H,I⟩:=wG s tables at' E A k (dK.1 q);rw[if_neg q];split at h
   ·next z=>exact absurd h z
   ·next z=>
    rw[if_neg z];have:=DC s tables (8*s.length+2) (cO s tables at' k).2.1 0 (by omega) (by omega) A (dK.1 z);refine⟨by simp[F],fun x d=>?_,by show at'<=(gV _ _ _ _).2.1;unfold gV;omega,.inr this.2.2.2⟩;rcases cU.1 d with d|d
    ·exact G x d
    ·obtain rfl:=dC.1 d;exact⟨this.1,this.2.1⟩
def dD (s:List UInt8) (at' n tables:Int):List Int×Int×Int:=
 if tables<2\/6<tables\/at'<0\/n<0\/1048576<n then([],0,1)
 else let p:=cO s tables at' n.toNat
  if p.2.2≠0 then([],0,p.2.2) else((unL (cC tables.toNat) p.1).map (fun b=>(b.toNat:Int)),p.2.1,0)
def cK (m:List Int):List (List Int):=(dG ((m.length+9)/10)).map (fun i=>(m.drop (10*i)).take 10)
theorem iD (m:List Int):(cK m).length=(m.length+9)/10:=by simp[cK]
theorem wH (m:List Int) (i:Nat) (h:i<(m.length+9)/10):(cK m)[i]? =some ((m.drop (10*i)).take 10):=by simp[cK,h]
def KD (m:List Int) (n:Int):Bool:=m.any (fun s=>decide (s<0)||decide (n<=s))
theorem aHm {m:List Int} {n:Int} (h:∀x∈m,0<=x/\x<n):KD m n=false:=by
 unfold KD;rw[List.any_eq_false];intro x d;have:=h x d;simp;omega
def SE (d g:List Int):Int:=if bL d≠0 then bL d else if KD g d.length then 5 else 0
def lT (d:List Int) (g:List Int):Int:=g.foldl (fun n s=>n+d.getD s.toNat 0) 0
def nI (d g:List Int):Int:=if SE d g=0 then lT d g else 0
theorem SF (d g:List Int) (s:Int):lT d (g++[s])=lT d g+d.getD s.toNat 0:=by unfold lT;rw[List.foldl_append];rfl
theorem SG {d:List Int} (z:∀x∈d,1<=x/\x<=20) (g:List Int):0<=lT d g/\lT d g<=20*(g.length:Int):=by
 refine yA (P:=fun g=>0<=lT d g/\lT d g<=20*(g.length:Int)) (by simp[lT]) (fun g s A=>?_) g;rw[SF,aL,fK];have:0<=d.getD s.toNat 0/\d.getD s.toNat 0<=20:=by
  rw[aV]
  by_cases h:s.toNat<d.length
  ·rw[aN h];have:=z _ (gT h);simp only[Option.getD_some];omega
  ·rw[dL (by omega)];simp
 omega
def dJ (m:List Int) (n which:Nat):Nat->List Int
 |0=>bB n 0
 |k+1=>if k/10%2=which then(dJ m n which k).set (m.getD k 0).toNat ((dJ m n which k).getD (m.getD k 0).toNat 0+1) else dJ m n which k
theorem rP (m:List Int) (n which:Nat):∀k,(dJ m n which k).length=n
 |0=>by simp[dJ]
 |k+1=>by
  unfold dJ;split
  ·rw[List.length_set,rP m n which k]
  ·exact rP m n which k
theorem SH:∀(l:List Int) (i:Nat),i<l.length->(l.set i (l.getD i 0+1)).sum=l.sum+1
 |[],i,h=>by simp at h
 |x::l,0,_=>by simp[List.set_cons_zero];omega
 |x::l,i+1,h=>by
  have:=SH l i (by simpa using h);simp only[List.set_cons_succ,pV,List.getD_cons_succ];omega
theorem wI (m:List Int) (n which:Nat) (h:∀x∈m,0<=x/\x<(n:Int)):∀k,k<=m.length->0<=(dJ m n which k).sum/\(dJ m n which k).sum<=(k:Int)/\∀x∈dJ m n which k,0<=x/\x<=(k:Int)
 |0,_=>by
  refine⟨by simp[dJ],by simp[dJ],fun x d=>?_⟩;unfold dJ at d;have:=List.eq_of_mem_replicate d;omega
 |k+1,F=>by
  obtain⟨E,G,z⟩:=wI m n which h k (by omega);have d:=h m[k] (gT (by omega));have e:m.getD k 0=m[k]:=by rw[aV,aN (by omega)];rfl
  unfold dJ;split
  ·rw[e,SH _ _ (by rw[rP];omega)];refine⟨by omega,by omega,fun x A=>?_⟩;rcases List.mem_or_eq_of_mem_set A with q|q
   ·have:=z x q;omega
   ·have H:0<=(dJ m n which k).getD m[k].toNat 0/\(dJ m n which k).getD m[k].toNat 0<=(k:Int):=by
     rw[aV,aN (by rw[rP];omega)];exact z _ (gT _)
    rw[q];omega
  ·exact⟨E,by omega,fun x A=>by have:=z x A;omega⟩
def iK (m:List Int) (n which:Nat):List Int:=dJ m n which m.length
def nJ (ws:List Int):List Int:=kL (ws.map (fun w=>max w 1))
theorem DD (ws:List Int) (h:∀x∈ws,0<=x):(ws.map (fun w=>max w 1)).sum<=ws.sum+ws.length:=by
 induction ws with
 |nil=>decide
 |cons x l d=>
  have:=d (fun y z=>h y (jD _ z));have:=h x (lY ..);simp only[List.map_cons,pV,cR];omega
theorem KE {ws:List Int} (d:2<=ws.length) (z:ws.length<=258) (A:∀x∈ws,0<=x) (G:ws.sum<=20000):fY (nJ ws)/\(nJ ws).length=ws.length:=by
 have E:(ws.map (fun w=>max w 1)).length=ws.length:=bJ ..;have:=aGh (ws.map (fun w=>max w 1)) (by omega) (fun x F=>by
  obtain⟨y,_,rfl⟩:=dU.1 F;omega) (by have:=DD ws A;omega)
 unfold fY nJ;rw[this.1,E];exact⟨⟨d,z,this.2⟩,rfl⟩
def dN (m:List Int) (n which:Nat):List Int:=nJ (iK m n which)
theorem rQ {m:List Int} {n which:Nat} (E:2<=n) (F:n<=258) (h:∀x∈m,0<=x/\x<(n:Int)) (G:m.length<=20000):fY (dN m n which)/\(dN m n which).length=n:=by
 have d:=wI m n which h m.length (aA _);have z:=rP m n which m.length;have:=KE (ws:=iK m n which) (by unfold iK;omega) (by unfold iK;omega) (fun x A=>(d.2.2 x A).1) (by unfold iK;omega);exact⟨this.1,by rw[dN,this.2];exact z⟩
def nX (a b g:List Int):Int:=if nI b g<nI a g then 1 else 0
def cT (m:List Int) (n:Nat):List Int:=(cK m).map (nX (dN m n 0) (dN m n 1))
theorem wJ (m:List Int) (n:Nat):(cT m n).length=(m.length+9)/10:=by unfold cT;rw[bJ,iD]
theorem DE (m:List Int) (n:Nat):∀x∈cT m n,x=0\/x=1:=fun x d=>by
 obtain⟨g,_,rfl⟩:=dU.1 d;unfold nX;split
 ·exact .inr rfl
 ·exact .inl rfl
def eR (l d:List Int):List Bool:=d.flatMap (fun s=>aY (fO l s.toNat) (bG l s.toNat))
theorem SI (l d:List Int) (s:Int):eR l (d++[s])=eR l d++aY (fO l s.toNat) (bG l s.toNat):=by unfold eR;simp[pZ]
theorem rR {l:List Int} (h:fY l):∀d:List Int,(∀x∈d,0<=x/\x<(l.length:Int))->(eR l d).length<=20*d.length
 |[],_=>by simp[eR]
 |s::d,z=>by
  have A:=rR h d (fun x E=>z x (jD _ E));have F:=z s (lY ..);have:=(jG h (s:=s.toNat) (by omega)).2.1;unfold eR at A ⊢;rw[List.flatMap_cons,aL,cY,cR];omega
theorem KH:∀(t:HT) (d:Nat),d+t.high<=20->((t.deep d).map (fun q=>2^(20-q.2))).sum=2^(20-d)
 |.leaf _,d,_=>by simp[HT.deep]
 |.node _ l r,d,h=>by
  unfold HT.high at h;unfold HT.deep;rw[List.map_append,List.sum_append,KH l (d+1) (by omega),KH r (d+1) (by omega),show 20-d=(20-(d+1))+1 by omega,Nat.pow_succ];omega
theorem aIe {l m:List Nat} (h:l.Perm m):l.sum=m.sum:=by
 induction h with
 |nil=>rfl
 |cons x _ d=>simp only[pV];omega
 |swap x y l=>simp only[pV];omega
 |trans _ _ z A=>omega
theorem aIf (ws:List Int) (h:2<=ws.length) (I:∀x∈ws,1<=x) (Z:ws.sum<28657):jR (kL ws)=1048576:=by
 obtain⟨p,J,hr⟩:=CT ws h;have A:=jT.all ws (ws.length-1) (by omega);have E:=qM.all ws (ws.length-1) (by omega);obtain⟨F,H⟩:=rO.all ws I (ws.length-1) (by omega);rw[J] at A E F H;have z:p∈[p]:=dC.2 rfl;have hw:=HT.wt_high p.2 (F.even p z);have a0:=F.wt p z;have a1:p.1=ws.sum:=by simpa using H
 have hh:p.2.high<=20:=by
  rcases Nat.lt_or_ge 20 p.2.high with k|k
  ·have:=RN (show 21<=p.2.high from k);have e:kM 21=28657:=by decide
   omega
  ·exact k
 have L:p.2.leaves.Nodup:=HT.leaves_nodup _ (by have:=A.nodup;simpa using this);have M:p.2.leaves.Perm (dG ws.length):=by
  rw[List.perm_ext_iff_of_nodup L List.nodup_range];intro j;rw[jF];constructor
  ·intro d;rw[<-HT.deep_map p.2 0] at d;obtain⟨q,G,rfl⟩:=dU.1 d;exact(E.2 p z q G).1
  ·intro d;obtain⟨p',O,T⟩:=A.leaves j d;obtain rfl:=dC.1 O;exact T
 have U:(kL ws).length=ws.length:=rN _ _;have V:(kL ws).map (fun x=>2^(20-x.toNat))=(dG ws.length).map (fun j=>2^(20-((kL ws).getD j 0).toNat)):=by
  apply jA;intro j
  by_cases d:j<ws.length
  ·simp[d,U]
  ·rw[dL (by simp;omega),dL (by simp;omega)]
 unfold jR;rw[V,<-aIe (M.map _),<-HT.deep_map p.2 0,xJ];have Y:(p.2.deep 0).map ((fun j=>2^(20-((kL ws).getD j 0).toNat)) ∘ fun q=>q.1)=(p.2.deep 0).map (fun q=>2^(20-q.2)):=by
  apply qW;intro q G;have:=(E.2 p z q G).2;show 2^(20-((gO ws (ws.length-1)).getD q.1 0).toNat)=_;rw[this,eG]
 rw[Y,KH p.2 0 (by omega)]
theorem tB {m:List Int} {n which:Nat} (z:2<=n) (A:n<=258) (h:∀x∈m,0<=x/\x<(n:Int)) (E:m.length<=20000):bL (dN m n which)=0:=by
 have F:=wI m n which h m.length (aA _);have H:=rP m n which m.length;have G:=DD (iK m n which) (fun x d=>(F.2.2 x d).1);refine aDm (rQ z A h E).1 (Nat.le_of_eq ?_);refine aIf _ (by rw[bJ];unfold iK;omega) (fun x d=>?_) ?_
 ·obtain⟨y,_,rfl⟩:=dU.1 d;omega
 ·unfold iK at G ⊢;omega
def gP (t0 t1:List Int):List Int->List (List Int)->List Bool
 |c::cs,g::gs=>eR (if c=0 then t0 else t1) g++gP t0 t1 cs gs
 |_,_=>[]
theorem KL (t0 t1:List Int) (c:Int) (g:List Int):∀(cs:List Int) (gs:List (List Int)),cs.length=gs.length->gP t0 t1 (cs++[c]) (gs++[g])=gP t0 t1 cs gs++eR (if c=0 then t0 else t1) g
 |[],[],_=>by simp[gP]
 |[],_::_,h=>by simp at h
 |_::_,[],h=>by simp at h
 |z::cs,d::gs,h=>by
  show eR _ d++gP t0 t1 (cs++[c]) (gs++[g])=(eR _ d++gP t0 t1 cs gs)++_;rw[KL t0 t1 c g cs gs (by simpa using h),cF]
def dO (cs:List Int):List Int:=cM (cC 2) (cs.map (fun c=>eK c.toNat))
def rV (m:List Int) (n:Nat):List Bool:=
 aY 2 3++aY (cT m n).length 15++dE (dO (cT m n))++dW (dN m n 0)++dW (dN m n 1)++gP (dN m n 0) (dN m n 1) (cT m n) (cK m)
def yV (d z:Nat) (a:List UInt8) (m:List Int):List Bool:=
 aY 0x314159265359 48++aY d 32++aY z 16++fZ a++rV m (a.length+2)
def bF (s:List UInt8) (at' codes:Int):Nat->List (List Int)×Int×Int
 |0=>([],at',0)
 |k+1=>
  let p:=bF s at' codes k
  if p.2.2≠0 then p
  else let q:=eJ s p.2.1 codes
   if q.2.2≠0 then(p.1,p.2.1,q.2.2)
   else if bL q.1≠0 then(p.1,p.2.1,bL q.1)
   else(p.1++[q.1],q.2.1,0)
def bH (s:List UInt8) (at':Int) (t:List (List Int)) (d:List Int) (fin:Int):Nat->List Int×Int×Int×Bool
 |0=>([],at',0,false)
 |k+1=>
  let p:=bH s at' t d fin k
  if p.2.2.1≠0\/p.2.2.2=true then p
  else let q:=bZ (t.getD (d.getD (k/10) 0).toNat []) s p.2.1
   if q.2.2≠0 then(p.1,p.2.1,q.2.2,false)
   else if q.1=fin then
    if k/10+1<d.length then(p.1++[q.1],q.2.1,3,false) else(p.1++[q.1],q.2.1,0,true)
   else(p.1++[q.1],q.2.1,0,false)
def gX (s:List UInt8) (at':Int) (t:List (List Int)) (d:List Int) (fin:Int):List Int×Int×Int:=
 let p:=bH s at' t d fin (10*d.length)
 if p.2.2.1≠0 then([],0,p.2.2.1) else if p.2.2.2 then(p.1,p.2.1,0) else([],0,3)
def cV (s:List UInt8) (at':Int) (codes:Int):List Int×Int×Int:=
 if aO s.length at' 3≠0 then([],0,aO s.length at' 3)
 else if aE s at' 3<2\/6<aE s at' 3 then([],0,3)
 else if aO s.length (at'+3) 15≠0 then([],0,aO s.length (at'+3) 15)
 else if aE s (at'+3) 15=0 then([],0,3)
 else
  let c:=dD s (at'+18) (aE s (at'+3) 15) (aE s at' 3)
  if c.2.2≠0 then([],0,c.2.2)
  else
   let t:=bF s c.2.1 codes (aE s at' 3)
   if t.2.2≠0 then([],0,t.2.2) else gX s t.2.1 t.1 c.1 (codes-1)
theorem DM (s:List UInt8) (at' codes:Int):∀k,(bF s at' codes k).2.2=0->(bF s at' codes k).1.length=k/\∀l∈(bF s at' codes k).1,bL l=0/\(l.length:Int)=codes
 |0,_=>⟨rfl,fun l z=>by simp[bF] at z⟩
 |k+1,h=>by
  unfold bF at h ⊢;simp only at h ⊢;split at h
  ·next q=>exact absurd h q
  ·next q=>
   obtain⟨F,G⟩:=DM s at' codes k (dK.1 q);rw[if_neg q];split at h
   ·next d=>exact absurd h d
   ·next d=>
    rw[if_neg d];split at h
    ·next A=>exact absurd h A
    ·next A=>
     rw[if_neg A];refine⟨by simp[F],fun l z=>?_⟩;rcases cU.1 z with z|z
     ·exact G l z
     ·obtain rfl:=dC.1 z;refine⟨dK.1 A,?_⟩;have d:=dK.1 d;unfold eJ at d ⊢;split at d
      ·simp at d
      ·next H=>
       rw[if_neg H];simp only at d ⊢;split at d
       ·next E=>exact absurd d E
       ·next E=>
        rw[if_neg E];have:=yR s _ (by omega) codes.toNat (dK.1 E);show((aZ s (bF s at' codes k).2.1 codes.toNat).1.length:Int)=codes;omega
def fH (s:List UInt8) (a:Nat) (l:List Bool):Prop:=a+l.length<=8*s.length/\seg s a l.length=l
theorem jN {s:List UInt8} {a:Nat} {l m:List Bool} (h:fH s a (l++m)):fH s a l/\fH s (a+l.length) m:=by
 obtain⟨z,d⟩:=h;rw[aL] at z d;rw[PG] at d;have A:(seg s a l.length).length=l.length:=vR (by omega);obtain⟨E,F⟩:=List.append_inj d A;exact⟨⟨by omega,E⟩,⟨by omega,F⟩⟩
theorem uX {s:List UInt8} {a v n:Nat} (h:fH s a (aY v n)) (z:v<2^n):aO s.length (a:Int) n=0/\aE s (a:Int) n=v:=by
 obtain⟨A,d⟩:=h;rw[cY] at A d;have e:aO s.length (a:Int) n=0:=by unfold aO;rw[if_neg (by omega),if_neg (by omega)]
 refine⟨e,?_⟩;unfold aE;rw[if_pos e,eG,d,OY z]
theorem LA {s:List UInt8} {a:Nat} {l:List Bool} (h:fH s a l):aO s.length (a:Int) l.length=0/\aE s (a:Int) l.length=bY l:=by
 rw[<-yB l] at h;exact uX h (qE l)
theorem tE {s:List UInt8} {a:Nat} {b:Bool} {l:List Bool} (h:fH s a (b::l)):(aO s.length (a:Int) 1=0/\aE s (a:Int) 1=b.toNat)/\fH s (a+1) l:=by
 obtain⟨d,z⟩:=jN (l:=[b]) (m:=l) h;have:=LA d;refine⟨⟨this.1,?_⟩,z⟩;have e:=this.2;rw[show bY [b]=b.toNat by simp[bY]] at e;exact e
theorem UV {s:List UInt8}:∀(k:Nat) (a:Nat) (d:Int),1<=d->d+k<=20->fH s a ((bB k [true,false]).flatten++[false])->eD s (a:Int) d=(d+k,((a+(2*k+1):Nat):Int),0)
 |0,a,d,G,H,h=>by
  obtain⟨⟨z,A⟩,_⟩:=tE (b:=false) (l:=[]) h;rw[wF s _ _ (by omega),if_neg (by rw[z];simp),if_pos (by rw[A];rfl)];simp
 |k+1,a,d,G,H,h=>by
  rw[AE,AS,cF] at h;obtain⟨⟨z,A⟩,h⟩:=tE (b:=true) (l:=false::((bB k [true,false]).flatten++[false])) h;obtain⟨⟨E,F⟩,h⟩:=tE h;rw[show((a+1:Nat):Int)=(a:Int)+1 by omega] at E F;rw[wF s _ _ (by omega),if_neg (by rw[z];simp),if_neg (by rw[A];simp),if_neg (by rw[E];simp),show(if aE s ((a:Int)+1) 1=0 then d+1 else d-1)=d+1 from if_pos (by rw[F];rfl),if_neg (by omega)];have:=UV k (a+1+1) (d+1) (by omega) (by omega) h;rw[show((a+1+1:Nat):Int)=(a:Int)+2 by omega] at this;rw[this]
  refine gK (by show d+1+(k:Int)=d+((k+1:Nat):Int);omega) (gK (by show((a+1+1+(2*k+1):Nat):Int)=((a+(2*(k+1)+1):Nat):Int);omega) rfl)
theorem UW {s:List UInt8}:∀(k:Nat) (a:Nat) (d:Int),1<=d-k->d<=20->fH s a ((bB k [true,true]).flatten++[false])->eD s (a:Int) d=(d-k,((a+(2*k+1):Nat):Int),0)
 |0,a,d,G,H,h=>by
  obtain⟨⟨z,A⟩,_⟩:=tE (b:=false) (l:=[]) h;rw[wF s _ _ (by omega),if_neg (by rw[z];simp),if_pos (by rw[A];rfl)];simp
 |k+1,a,d,G,H,h=>by
  rw[AE,AS,cF] at h;obtain⟨⟨z,A⟩,h⟩:=tE (b:=true) (l:=true::((bB k [true,true]).flatten++[false])) h;obtain⟨⟨E,F⟩,h⟩:=tE h;rw[show((a+1:Nat):Int)=(a:Int)+1 by omega] at E F;rw[wF s _ _ (by omega),if_neg (by rw[z];simp),if_neg (by rw[A];simp),if_neg (by rw[E];simp),show(if aE s ((a:Int)+1) 1=0 then d+1 else d-1)=d-1 from if_neg (by rw[F];simp),if_neg (by omega)];have:=UW k (a+1+1) (d-1) (by omega) (by omega) h;rw[show((a+1+1:Nat):Int)=(a:Int)+2 by omega] at this;rw[this]
  refine gK (by show d-1-(k:Int)=d-((k+1:Nat):Int);omega) (gK (by show((a+1+1+(2*k+1):Nat):Int)=((a+(2*(k+1)+1):Nat):Int);omega) rfl)
theorem aJg {s:List UInt8} {a:Nat} {d x:Int} (z:1<=d) (A:d<=20) (E:1<=x) (F:x<=20) (h:fH s a (jU d x)):eD s (a:Int) d=(x,((a+(jU d x).length:Nat):Int),0):=by
 rcases Int.le_total d x with q|q
 ·obtain⟨k,rfl⟩:∃k:Nat,x=d+k:=⟨(x-d).toNat,by omega⟩;have e:jU d (d+k)=(bB k [true,false]).flatten++[false]:=by
   unfold jU;rw[show(d+(k:Int)-d).toNat=k by omega,show(d-(d+(k:Int))).toNat=0 by omega];simp
  rw[e] at h ⊢;rw[UV k a d z F h];simp[aCm,xV,aCn,oG]
 ·obtain⟨k,rfl⟩:∃k:Nat,x=d-k:=⟨(d-x).toNat,by omega⟩;have e:jU d (d-k)=(bB k [true,true]).flatten++[false]:=by
   unfold jU;rw[show(d-(k:Int)-d).toNat=0 by omega,show(d-(d-(k:Int))).toNat=k by omega];simp
  rw[e] at h ⊢;rw[UW k a d E A h];simp[aCm,xV,aCn,oG]
theorem aJh {s:List UInt8} {a:Nat} {l:List Int} (A:∀x∈l,1<=x/\x<=20) (F:0<l.length) (h:fH s a (dW l)):∀k,k<=l.length->
  aZ s (a:Int) k=(l.take k,(l.take k).getLastD (l.getD 0 0),((a+5+(eI (l.getD 0 0) (l.take k)).length:Nat):Int),0):=by
 have L:1<=l.getD 0 0/\l.getD 0 0<=20:=by
  rw[aV,aN F];exact A _ (gT F)
 obtain⟨M,E⟩:=jN h;obtain⟨O,T⟩:=uX M (by omega);rw[cY] at E;intro k
 induction k with
 |zero=>
  intro _;unfold aZ;rw[T,if_neg (by rw[O];simp),if_neg (by omega)];refine gK rfl (gK (by show(((l.getD 0 0).toNat:Nat):Int)=l.getD 0 0;omega) (gK (by simp[eI]) rfl))
 |succ k z=>
  intro hk;have z:=z (by omega);have G:=A l[k] (gT (by omega));have H:l.take (k+1)=l.take k++[l[k]]:=by rw[cQ,aN (by omega)];rfl
  have I:1<=(l.take k).getLastD (l.getD 0 0)/\(l.take k).getLastD (l.getD 0 0)<=20:=by
   rcases Nat.eq_zero_or_pos k with q|q
   ·subst q;exact L
   ·have U:l.take k≠[]:=by
     intro e;have:=congrArg List.length e;rw[aX,cX] at this;omega
    have:(l.take k).getLastD (l.getD 0 0)∈l.take k:=by
     cases V:l.take k with
     |nil=>exact absurd V U
     |cons y m=>exact List.getLast_mem (by simp)
    exact A _ (List.mem_of_mem_take this)
  have Y:fH s (a+5+(eI (l.getD 0 0) (l.take k)).length) (jU ((l.take k).getLastD (l.getD 0 0)) l[k]):=by
   have e:eI (l.getD 0 0) l=eI (l.getD 0 0) (l.take (k+1))++eI ((l.take (k+1)).getLastD (l.getD 0 0)) (l.drop (k+1)):=by
    have Z:∀(u v:List Int) (d:Int),eI d (u++v)=eI d u++eI (u.getLastD d) v:=fun u=>by
     induction u with
     |nil=>intro v d;rfl
     |cons y u z=>
      intro v d;show jU d y++eI y (u++v)=(jU d y++eI y u)++_;rw[z v y,cF]
      congr 3
      cases u<;>rfl
    rw[<-Z,jE]
   rw[e] at E;have J:=(jN E).1;rw[H,CY] at J;exact(jN J).2
  have a0:=aJg I.1 I.2 G.1 G.2 Y;unfold aZ;rw[z];simp only
  rw[if_neg (by simp),a0];simp only
  rw[if_neg (by simp),H,CY,aL];refine gK rfl (gK (by simp only[List.getLastD_concat]) (gK (by simp[dZ]) rfl))
theorem UX {s:List UInt8} {a:Nat} {l:List Int} (d:fY l) (h:fH s a (dW l)):eJ s (a:Int) (l.length:Int)=(l,((a+(dW l).length:Nat):Int),0):=by
 have z:=d.1;have A:=d.2.1;have:=aJh d.2.2 (by omega) h l.length (aA _);unfold eJ;rw[if_neg (by omega),eG,this];simp only
 rw[if_neg (by simp),kE];unfold dW;rw[aL,cY];refine gK rfl (gK (by simp[dZ]) rfl)
theorem UY {s:List UInt8} {tables:Int}:∀(k:Nat) (a:Nat) (n:Int),0<=n->n+k<tables->fH s a (bB k true++[false])->gV s tables (a:Int) n=(n+k,((a+(k+1):Nat):Int),0)
 |0,a,n,A,E,h=>by
  obtain⟨⟨d,z⟩,_⟩:=tE (b:=false) (l:=[]) h;rw[DB s _ _ _ (by omega),if_neg (by rw[d];simp),if_pos (by rw[z];rfl)];simp
 |k+1,a,n,A,E,h=>by
  rw[AE,List.cons_append] at h;obtain⟨⟨d,z⟩,h⟩:=tE h;rw[DB s _ _ _ (by omega),if_neg (by rw[d];simp),if_neg (by rw[z];simp),if_neg (show ¬n+1=tables by omega)];have:=UY (tables:=tables) k (a+1) (n+1) (by omega) (by omega) h;rw[show((a+1:Nat):Int)=(a:Int)+1 by omega] at this;rw[this];refine gK (by show n+1+(k:Int)=n+((k+1:Nat):Int);omega) (gK (by show((a+1+(k+1):Nat):Int)=((a+(k+1+1):Nat):Int);omega) rfl)
theorem aJi {s:List UInt8} {tables:Int} {a:Nat} {d:List Int} (E:∀x∈d,0<=x/\x<tables) (h:fH s a (dE d)):∀k,k<=d.length->
  cO s tables (a:Int) k=(d.take k,((a+(dE (d.take k)).length:Nat):Int),0):=by
 intro k
 induction k with
 |zero=>intro _;simp[cO,dE]
 |succ k z=>
  intro I;have z:=z (by omega);have J:=E d[k] (gT (by omega));have A:d.take (k+1)=d.take k++[d[k]]:=by rw[cQ,aN (by omega)];rfl
  have F:fH s (a+(dE (d.take k)).length) (lF d[k]):=by
   have e:dE d=dE (d.take (k+1))++dE (d.drop (k+1)):=by
    unfold dE;rw[<-pZ,jE]
   rw[e,A,KB] at h;exact(jN (jN h).1).2
  have G:=UY (tables:=tables) d[k].toNat _ 0 (by omega) (by omega) F;unfold cO;rw[z];simp only
  rw[if_neg (by simp),G];simp only
  rw[if_neg (by simp),A,KB,aL];have H:(lF d[k]).length=d[k].toNat+1:=by simp[lF]
  rw[H];refine gK (by show _++[0+(d[k].toNat:Int)]=_++[d[k]];congr 2;omega) (gK (by simp[dZ]) rfl)
theorem aJj {l:List Int} (d:bL l=0) {s:List UInt8} {a i:Nat} (hi:i<l.length) (h:fH s a (aY (fO l i) (bG l i))):bZ l s (a:Int)=((i:Int),((a+bG l i:Nat):Int),0):=by
 have E:=IG (eH d).1 (eH d).2 hi;obtain⟨z,A⟩:=h;rw[cY] at z A;have F:gZ l s a i:=⟨z,by rw[A,OY E]⟩;rw[uB d hi F];simp
theorem aJk (t:List UInt8) (k i:Nat) (h:i<16):(eQ t k).getD i false=dB t (16*k+i):=by
 unfold eQ;rw[aV,dY,pF h];rfl
theorem LB (t:List UInt8) (k:Nat):∀i,i<=16->jH t (16*k+i)=jH t (16*k)++jS (bY (eQ t k)) k i
 |0,_=>by simp[jS]
 |i+1,h=>by
  rw[<-dZ,IK,LB t k i (by omega)];have e:jS (bY (eQ t k)) k (i+1)=jS (bY (eQ t k)) k i++if(bY (eQ t k)).testBit (15-i) then[eK (16*k+i)] else[]:=rfl;rw[e,BJ _ _ (by rw[sR];omega),sR,show 16-1-(15-i)=i by omega,aJk t k i (by omega),cF]
theorem aJl (t:List UInt8) (k:Nat) (h:iT t k=false):jH t (16*(k+1))=jH t (16*k):=by
 rw[show 16*(k+1)=16*k+16 by omega,LB t k 16 (aA _)];have d:bY (eQ t k)=0:=(yD _).2 h;rw[d];have:∀i,jS 0 k i=[]:=fun i=>by
  induction i with
  |zero=>rfl
  |succ i z=>unfold jS;rw[z];simp
 rw[this,List.append_nil]
theorem DR (t:List UInt8):(nB t).length=16:=by simp[nB]
theorem UZ (t:List UInt8) (k:Nat):∀j,∃m,eX t (k+j)=eX t k++m
 |0=>⟨[],by simp⟩
 |j+1=>by
  obtain⟨m,d⟩:=UZ t k j;refine⟨m++if iT t (k+j) then eQ t (k+j) else[],?_⟩;rw[<-dZ];show eX t (k+j)++_=_;rw[d,cF]
theorem VA (t:List UInt8) (k:Nat) (d:k<=16):∃m,eX t 16=eX t k++m:=by
 have:=UZ t k (16-k);rwa[show k+(16-k)=16 by omega] at this
theorem aJm {s:List UInt8} {a:Nat} {t:List UInt8} (h:fH s a (fZ t)):∀k,k<=16->
  cJ s (a:Int) k=(jH t (16*k),((a+16+(eX t k).length:Nat):Int),bY (nB t)==0,0):=by
 obtain⟨G,A⟩:=jN h;have d:=LA G;rw[DR] at A d;intro k
 induction k with
 |zero=>
  intro _;unfold cJ;rw[d.1,d.2];refine gK (by simp[jH]) (gK (by simp[eX]) (gK rfl rfl))
 |succ k H=>
  intro I;unfold cJ;rw[H (by omega)];simp only
  rw[if_neg (by simp),d.2,BJ _ _ (by rw[DR];omega),DR,show 16-1-(15-k)=k by omega];have J:(nB t).getD k false=iT t k:=by
   unfold nB;rw[aV,dY,pF (by omega)];rfl
  rw[J]
  cases z:iT t k with
  |false=>
   simp only[if_neg (show ¬(false=true) by decide)];rw[aJl t k z];have e:eX t (k+1)=eX t k:=by
    show eX t k++(if iT t k then eQ t k else[])=_;rw[z];simp
   rw[e]
  |true=>
   rw[if_pos rfl];have e:eX t (k+1)=eX t k++eQ t k:=by
    show eX t k++(if iT t k then eQ t k else[])=_;rw[z];rfl
   have L:fH s (a+16+(eX t k).length) (eQ t k):=by
    obtain⟨m,M⟩:=VA t (k+1) I;rw[M,e] at A;exact(jN (jN A).1).2
   have E:=LA L;rw[sR] at E;rw[if_neg (by rw[E.1];simp),E.2,e,aL,sR];have O:bY (eQ t k)≠0:=fun q=>by
    rw[yD] at q;have F:(eQ t k).any id=true:=z;rw[q] at F;exact absurd F (by decide)
   refine gK ?_ (gK (by show((a+16+(eX t k).length:Nat):Int)+16=((a+16+((eX t k).length+16):Nat):Int);omega) (gK ?_ rfl))
   ·show jH t (16*k)++jS (bY (eQ t k)) k 16=_;rw[<-LB t k 16 (aA _)];rfl
   ·show(bY (nB t)==0||bY (eQ t k)==0)=_;rw[show(bY (eQ t k)==0)=false from beq_eq_false_iff_ne.2 O,Bool.or_false]
theorem VB {t:List UInt8} (h:t≠[]):bY (nB t)≠0:=fun q=>by
 rw[yD] at q
 cases t with
 |nil=>exact h rfl
 |cons b r=>
  have d:dB (b::r) b.toNat=true:=by unfold dB;simp
  have E:=b.toNat_lt;rw[List.any_eq_false] at q;have z:iT (b::r) (b.toNat/16)∈nB (b::r):=by
   unfold nB;exact dU.2 ⟨b.toNat/16,jF.2 (by omega),rfl⟩
  have A:iT (b::r) (b.toNat/16)=true:=by
   unfold iT;rw[List.any_eq_true];refine⟨true,?_,rfl⟩;unfold eQ;refine dU.2 ⟨b.toNat%16,jF.2 (by omega),?_⟩;rw[show 16*(b.toNat/16)+b.toNat%16=b.toNat by omega];exact d
  have:=q _ z;rw[A] at this;exact this rfl
theorem aJn {s:List UInt8} {a:Nat} {t:List UInt8} (d:t≠[]) (h:fH s a (fZ t)):cG s (a:Int)=(bK t,((a+(fZ t).length:Nat):Int),0):=by
 unfold cG;rw[aJm h 16 (aA _)];simp only
 rw[if_neg (by simp),show(bY (nB t)==0)=false from beq_eq_false_iff_ne.2 (VB d),if_neg (by decide)];refine gK rfl (gK ?_ rfl);unfold fZ;rw[aL,DR,dZ]
theorem aJs (s t:List UInt8) {i:Nat} (h:i<8*s.length):dI (s++t) i=dI s i:=by rw[OW,if_pos h]
theorem aJt (s t:List UInt8):(kW (s++t)).take (8*s.length)=kW s:=by
 apply jA;intro i;rw[lW,sP,sP]
 by_cases h:i<8*s.length
 ·rw[if_pos h,if_pos (by rw[aL];omega),if_pos h,aJs s t h]
 ·rw[if_neg h,if_neg h]
theorem VH (s t:List UInt8) {a n:Nat} (h:a+n<=8*s.length):seg (s++t) a n=seg s a n:=by
 unfold seg;rw[<-aJt s t];apply jA;intro i;rw[lW,lW,gR,gR,lW]
 by_cases hi:i<n
 ·rw[if_pos hi,if_pos hi,if_pos (by omega)]
 ·rw[if_neg hi,if_neg hi]
theorem oV (s t:List UInt8) (at':Int) (k:Nat):aO s.length at' k=2\/(aO (s++t).length at' k=aO s.length at' k/\aE (s++t) at' k=aE s at' k):=by
 rcases aDz s.length at' k with h|h|h
 ·right
  obtain⟨A,d,E⟩:=fQ h;have e:aO (s++t).length at' k=0:=by unfold aO;rw[aL,if_neg (by omega),if_neg (by omega)]
  refine⟨by rw[e,h],?_⟩;unfold aE;rw[if_pos e,if_pos h,VH s t d]
 ·right
  have z:at'<0:=by
   unfold aO at h;split at h
   ·assumption
   ·split at h<;>omega
  have e:aO (s++t).length at' k=1:=by unfold aO;rw[if_pos z]
  refine⟨by rw[e,h],?_⟩;unfold aE;rw[if_neg (by omega),if_neg (by omega)]
 ·exact .inl h
theorem uY {s:List UInt8} {at':Int} {k:Nat} (h:(cJ s at' k).2.2.2≠0):∀j,cJ s at' (k+j)=cJ s at' k
 |0=>rfl
 |j+1=>by
  rw[<-dZ];show(if(cJ s at' (k+j)).2.2.2≠0 then _ else _)=_;rw[uY h j,if_pos h]
theorem VI (s t:List UInt8) (at':Int):∀k,(cJ s at' k).2.2.2=2\/cJ (s++t) at' k=cJ s at' k
 |0=>by
  rcases oV s t at' 16 with h|⟨d,z⟩
  ·exact .inl h
  ·right
   unfold cJ;rw[d,z]
 |k+1=>by
  rcases VI s t at' k with h|h
  ·left
   rw[uY (k:=k) (by omega) 1,h]
  ·rcases oV s t at' 16 with q|⟨_,A⟩
   ·left
    have E:(cJ s at' 0).2.2.2=2:=q;have:=uY (s:=s) (at':=at') (k:=0) (by omega) (k+1);rw[Nat.zero_add] at this;rw[this,E]
   ·rcases oV s t (cJ s at' k).2.1 16 with r|⟨F,G⟩
    ·by_cases d:(cJ s at' k).2.2.2≠0
     ·right
      have H:=uY d 1;have I:=uY (s:=s++t) (at':=at') (k:=k) (by rw[h];exact d) 1;rw[H,I,h]
     ·by_cases z:(aE s at' 16).testBit (15-k)=true
      ·left
       unfold cJ;simp only
       rw[if_neg d,if_pos z,if_pos (by omega)];exact r
      ·right
       unfold cJ;simp only
       rw[h,A,if_neg d,if_neg z,if_neg d,if_neg z]
    ·right
     unfold cJ;simp only
     rw[h,A,F,G]
theorem aJu (s t:List UInt8) (at':Int):(cG s at').2.2=2\/cG (s++t) at'=cG s at':=by
 rcases VI s t at' 16 with h|h
 ·left
  unfold cG;simp only
  rw[if_pos (by omega)];exact h
 ·right
  unfold cG;simp only
  rw[h]
theorem VJ (s t:List UInt8):∀(f:Nat) (at' n:Int),(iB s f at' n).2.2=2\/iB (s++t) f at' n=iB s f at' n
 |0,_,_=>.inl rfl
 |f+1,at',n=>by
  rcases oV s t at' 1 with h|⟨F,G⟩
  ·left
   unfold iB;rw[if_pos (by omega)];exact h
  ·rcases oV s t (at'+1) 1 with r|⟨H,I⟩
   ·by_cases d:aO s.length at' 1≠0
    ·right
     unfold iB;rw[F,if_pos d,if_pos d]
    ·by_cases z:aE s at' 1=0
     ·right
      unfold iB;rw[F,G,if_neg d,if_neg d,if_pos z,if_pos z]
     ·left
      unfold iB;rw[if_neg d,if_neg z,if_pos (by omega)];exact r
   ·have J:=fun m=>VJ s t f (at'+2) m
    unfold iB;rw[F,G,H,I]
    by_cases d:aO s.length at' 1≠0
    ·right;rw[if_pos d,if_pos d]
    ·rw[if_neg d,if_neg d]
     by_cases z:aE s at' 1=0
     ·right;rw[if_pos z,if_pos z]
     ·rw[if_neg z,if_neg z]
      by_cases A:aO s.length (at'+1) 1≠0
      ·right;rw[if_pos A,if_pos A]
      ·rw[if_neg A,if_neg A];simp only
       generalize (if aE s (at'+1) 1=0 then n+1 else n-1)=m
       by_cases E:m<1\/20<m
       ·right;rw[if_pos E,if_pos E]
       ·rw[if_neg E,if_neg E];exact J m
theorem aJv (s t:List UInt8) (at' n:Int) (d:0<=at'):(eD s at' n).2.2=2\/eD (s++t) at' n=eD s at' n:=by
 have h:=VJ s t (8*(s++t).length+2) at' n;have e:eD s at' n=iB s (8*(s++t).length+2) at' n:=by
  unfold eD;rw[aL];exact JX s _ _ _ _ d (by omega) (by omega) (by omega) (by omega)
 rw[e];exact h
theorem DS {s:List UInt8} {at':Int} {k:Nat} (h:(aZ s at' k).2.2.2≠0):∀j,aZ s at' (k+j)=aZ s at' k
 |0=>rfl
 |j+1=>by
  rw[<-dZ];show(if(aZ s at' (k+j)).2.2.2≠0 then _ else _)=_;rw[DS h j,if_pos h]
theorem VK (s t:List UInt8) (at':Int) (z:0<=at'):∀k,(aZ s at' k).2.2.2=2\/aZ (s++t) at' k=aZ s at' k
 |0=>by
  rcases oV s t at' 5 with h|⟨d,A⟩
  ·left
   unfold aZ;simp only
   rw[if_pos (by omega)];exact h
  ·right
   unfold aZ;rw[d,A]
 |k+1=>by
  rcases VK s t at' z k with h|h
  ·left
   rw[DS (k:=k) (by omega) 1,h]
  ·by_cases d:(aZ s at' k).2.2.2≠0
   ·right
    have E:=DS d 1;have F:=DS (s:=s++t) (at':=at') (k:=k) (by rw[h];exact d) 1;rw[E,F,h]
   ·have G:=yR s at' z k (dK.1 d);rcases aJv s t (aZ s at' k).2.2.1 (aZ s at' k).2.1 (by omega) with r|r
    ·left
     unfold aZ;simp only
     rw[if_neg d,if_pos (by omega)];exact r
    ·right
     unfold aZ;simp only
     rw[h,r]
theorem aJw (s t:List UInt8) (at' n:Int):(eJ s at' n).2.2=2\/eJ (s++t) at' n=eJ s at' n:=by
 by_cases h:at'<0\/n<2\/258<n
 ·right
  unfold eJ;rw[if_pos h,if_pos h]
 ·rcases VK s t at' (by omega) n.toNat with r|r
  ·left
   unfold eJ;rw[if_neg h];simp only
   rw[if_pos (by omega)];exact r
  ·right
   unfold eJ;rw[if_neg h,if_neg h];simp only
   rw[r]
theorem aJx {s:List UInt8} {at' n:Int} (h:(eJ s at' n).2.2=0):0<=at'/\2<=n/\n<=258/\((eJ s at' n).1.length:Int)=n/\(∀x∈(eJ s at' n).1,1<=x/\x<=20)/\at'<(eJ s at' n).2.1/\(eJ s at' n).2.1<=8*(s.length:Int):=by
 unfold eJ at h ⊢;split at h
 ·simp at h
 ·next z=>
  rw[if_neg z];simp only at h ⊢;split at h
  ·next d=>exact absurd h d
  ·next d=>
   rw[if_neg d];have:=yR s at' (by omega) n.toNat (dK.1 d);exact⟨by omega,by omega,by omega,by show((aZ s at' n.toNat).1.length:Int)=n;omega,this.2.1,this.2.2.2.1,this.2.2.2.2⟩
theorem VL (s t:List UInt8) (tables:Int):∀(f:Nat) (at' n:Int),(jK s tables f at' n).2.2=2\/jK (s++t) tables f at' n=jK s tables f at' n
 |0,_,_=>.inl rfl
 |f+1,at',n=>by
  rcases oV s t at' 1 with h|⟨E,F⟩
  ·left
   unfold jK;rw[if_pos (by omega)];exact h
  ·have G:=VL s t tables f (at'+1) (n+1);unfold jK;rw[E,F]
   by_cases d:aO s.length at' 1≠0
   ·right;rw[if_pos d,if_pos d]
   ·rw[if_neg d,if_neg d]
    by_cases z:aE s at' 1=0
    ·right;rw[if_pos z,if_pos z]
    ·rw[if_neg z,if_neg z]
     by_cases A:n+1=tables
     ·right;rw[if_pos A,if_pos A]
     ·rw[if_neg A,if_neg A];exact G
theorem aJy (s t:List UInt8) (tables at' n:Int) (d:0<=at'):(gV s tables at' n).2.2=2\/gV (s++t) tables at' n=gV s tables at' n:=by
 have h:=VL s t tables (8*(s++t).length+2) at' n;have e:gV s tables at' n=jK s tables (8*(s++t).length+2) at' n:=by
  unfold gV;rw[aL];exact KC s tables _ _ _ _ d (by omega) (by omega) (by omega) (by omega)
 rw[e];exact h
theorem DT {s:List UInt8} {tables at':Int} {k:Nat} (h:(cO s tables at' k).2.2≠0):∀j,cO s tables at' (k+j)=cO s tables at' k
 |0=>rfl
 |j+1=>by
  rw[<-dZ];show(if(cO s tables at' (k+j)).2.2≠0 then _ else _)=_;rw[DT h j,if_pos h]
theorem VM (s t:List UInt8) (tables at':Int) (z:0<=at') (A:0<tables):∀k,(cO s tables at' k).2.2=2\/cO (s++t) tables at' k=cO s tables at' k
 |0=>.inr rfl
 |k+1=>by
  rcases VM s t tables at' z A k with h|h
  ·left
   rw[DT (k:=k) (by omega) 1,h]
  ·by_cases d:(cO s tables at' k).2.2≠0
   ·right
    have E:=DT d 1;have F:=DT (s:=s++t) (tables:=tables) (at':=at') (k:=k) (by rw[h];exact d) 1;rw[E,F,h]
   ·have G:=wG s tables at' z A k (dK.1 d);rcases aJy s t tables (cO s tables at' k).2.1 0 (by omega) with r|r
    ·left
     unfold cO;simp only
     rw[if_neg d,if_pos (by omega)];exact r
    ·right
     unfold cO;simp only
     rw[h,r]
theorem aJz (s t:List UInt8) (at' n tables:Int):(dD s at' n tables).2.2=2\/dD (s++t) at' n tables=dD s at' n tables:=by
 by_cases h:tables<2\/6<tables\/at'<0\/n<0\/1048576<n
 ·right
  unfold dD;rw[if_pos h,if_pos h]
 ·rcases VM s t tables at' (by omega) (by omega) n.toNat with r|r
  ·left
   unfold dD;rw[if_neg h];simp only
   rw[if_pos (by omega)];exact r
  ·right
   unfold dD;rw[if_neg h,if_neg h];simp only
   rw[r]
theorem aJ0 {s:List UInt8} {at' n tables:Int} (h:(dD s at' n tables).2.2=0):2<=tables/\tables<=6/\0<=at'/\0<=n/\((dD s at' n tables).1.length:Int)=n/\(∀x∈(dD s at' n tables).1,0<=x/\x<tables)/\at'<=(dD s at' n tables).2.1/\((dD s at' n tables).2.1=at'\/(dD s at' n tables).2.1<=8*(s.length:Int)):=by
 unfold dD at h ⊢;split at h
 ·simp at h
 ·next z=>
  rw[if_neg z];simp only at h ⊢;split at h
  ·next d=>exact absurd h d
  ·next d=>
   rw[if_neg d];obtain⟨A,E,F,G⟩:=wG s tables at' (by omega) (by omega) n.toNat (dK.1 d);refine⟨by omega,by omega,by omega,by omega,?_,?_,F,G⟩
   ·simp only[bJ,oO,A];omega
   ·intro x H;obtain⟨b,I,rfl⟩:=dU.1 H;have J:b∈cC tables.toNat:=IQ _ _ (by rw[oR];intro y L;have:=E y L;omega) b I;rw[KA (by omega)] at J;omega
theorem aJ1 (l:List Int):∀x∈l,x<=kF l:=by
 unfold kF;have z:∀(l:List Int) (m:Int),m<=l.foldl max m/\∀x∈l,x<=l.foldl max m:=fun l=>by
  induction l with
  |nil=>intro m;exact⟨lJ _,fun x d=>by simp at d⟩
  |cons y l A=>
   intro m;obtain⟨F,E⟩:=A (max m y);rw[List.foldl_cons];refine⟨by omega,fun x d=>?_⟩;rcases List.mem_cons.1 d with rfl|d
   ·omega
   ·exact E x d
 exact(z l 0).2
theorem VN (l:List Int) (s t:List UInt8) {a i:Nat} (h:a+bG l i<=8*s.length):gZ l (s++t) a i↔gZ l s a i:=by
 unfold gZ;rw[aL,VH s t h];constructor
 ·rintro⟨_,d⟩;exact⟨h,d⟩
 ·rintro⟨_,d⟩;exact⟨by omega,d⟩
theorem aJ2 (l:List Int) (s t:List UInt8) (at':Int):(bZ l s at').2.2=2\/bZ l (s++t) at'=bZ l s at':=by
 by_cases d:bL l≠0
 ·right
  unfold bZ;rw[if_pos d,if_pos d]
 ·by_cases A:at'<0
  ·right
   unfold bZ;rw[if_neg d,if_neg d,if_pos A,if_pos A]
  ·obtain⟨a,rfl⟩:∃a:Nat,at'=(a:Int):=⟨at'.toNat,by omega⟩;have d:=dK.1 d
   by_cases z:∃i,i<l.length/\gZ l s a i
   ·obtain⟨i,hi,z⟩:=z
    right
    rw[uB d hi z,uB d hi ((VN l s t z.1).2 z)]
   ·have E:∀i,i<l.length->¬gZ l s a i:=fun i hi k=>z ⟨i,hi,k⟩
    rw[uD d E]
    by_cases F:(a:Int)>8*(s.length:Int)-kF l
    ·left;rw[if_pos F]
    ·right
     rw[if_neg F,uD d (fun i hi k=>?_),if_neg (by rw[aL];omega)];have G:=jG (eH d).1 hi;have H:=aJ1 l _ (cH G.2.2);exact E i hi ((VN l s t (by omega)).1 k)
theorem aJ3 {l:List Int} {s:List UInt8} {at':Int} (h:(bZ l s at').2.2=0):bL l=0/\0<=at'/\0<=(bZ l s at').1/\(bZ l s at').1<(l.length:Int)/\at'<(bZ l s at').2.1/\(bZ l s at').2.1<=8*(s.length:Int):=by
 by_cases d:bL l≠0
 ·unfold bZ at h;rw[if_pos d] at h;exact absurd h d
 ·have d:=dK.1 d
  by_cases A:at'<0
  ·unfold bZ at h;rw[if_neg (fun k=>k d),if_pos A] at h;simp at h
  ·obtain⟨a,rfl⟩:∃a:Nat,at'=(a:Int):=⟨at'.toNat,by omega⟩
   by_cases z:∃i,i<l.length/\gZ l s a i
   ·obtain⟨i,hi,z⟩:=z;rw[uB d hi z];have E:=jG (eH d).1 hi;have:=z.1;refine⟨d,by omega,by show(0:Int)<=(i:Int);omega,by show(i:Int)<_;omega,by show(a:Int)<(a:Int)+(bG l i:Int);omega,by show(a:Int)+(bG l i:Int)<=_;omega⟩
   ·rw[uD d (fun i hi k=>z ⟨i,hi,k⟩)] at h;split at h<;>simp at h
theorem zD {s:List UInt8} {at' codes:Int} {k:Nat} (h:(bF s at' codes k).2.2≠0):∀j,bF s at' codes (k+j)=bF s at' codes k
 |0=>rfl
 |j+1=>by
  rw[<-dZ];show(if(bF s at' codes (k+j)).2.2≠0 then _ else _)=_;rw[zD h j,if_pos h]
theorem VO (s t:List UInt8) (at' codes:Int):∀k,(bF s at' codes k).2.2=2\/bF (s++t) at' codes k=bF s at' codes k
 |0=>.inr rfl
 |k+1=>by
  rcases VO s t at' codes k with h|h
  ·left
   rw[zD (k:=k) (by omega) 1,h]
  ·by_cases d:(bF s at' codes k).2.2≠0
   ·right
    have z:=zD d 1;have A:=zD (s:=s++t) (at':=at') (codes:=codes) (k:=k) (by rw[h];exact d) 1;rw[z,A,h]
   ·rcases aJw s t (bF s at' codes k).2.1 codes with r|r
    ·left
     unfold bF;simp only
     rw[if_neg d,if_pos (by omega)];exact r
    ·right
     unfold bF;simp only
     rw[h,r]
theorem VP (s:List UInt8) (at' codes:Int):∀k,(bF s at' codes k).2.2=0->at'<=(bF s at' codes k).2.1/\(0<k->(bF s at' codes k).2.1<=8*(s.length:Int))
 |0,_=>⟨lJ _,fun h=>absurd h (by omega)⟩
 |k+1,h=>by
  by_cases d:(bF s at' codes k).2.2≠0
  ·rw[zD d 1] at h;exact absurd h d
  ·have E:=VP s at' codes k (dK.1 d);unfold bF at h ⊢;simp only at h ⊢;rw[if_neg d] at h ⊢
   by_cases z:(eJ s (bF s at' codes k).2.1 codes).2.2≠0
   ·rw[if_pos z] at h;exact absurd h z
   ·rw[if_neg z] at h ⊢
    by_cases A:bL (eJ s (bF s at' codes k).2.1 codes).1≠0
    ·rw[if_pos A] at h;exact absurd h A
    ·rw[if_neg A];have:=aJx (dK.1 z);exact⟨by show at'<=(eJ _ _ _).2.1;omega,fun _=>this.2.2.2.2.2.2⟩
theorem zE {s:List UInt8} {at':Int} {t:List (List Int)} {cs:List Int} {fin:Int} {k:Nat} (h:(bH s at' t cs fin k).2.2.1≠0\/(bH s at' t cs fin k).2.2.2=true):∀j,bH s at' t cs fin (k+j)=bH s at' t cs fin k
 |0=>rfl
 |j+1=>by
  rw[<-dZ];show(if(bH s at' t cs fin (k+j)).2.2.1≠0\/(bH s at' t cs fin (k+j)).2.2.2=true then _ else _)=_;rw[zE h j,if_pos h]
theorem VQ (s u:List UInt8) (at':Int) (t:List (List Int)) (cs:List Int) (fin:Int):∀k,(bH s at' t cs fin k).2.2.1=2\/bH (s++u) at' t cs fin k=bH s at' t cs fin k
 |0=>.inr rfl
 |k+1=>by
  rcases VQ s u at' t cs fin k with h|h
  ·left
   rw[zE (k:=k) (.inl (by omega)) 1,h]
  ·by_cases d:(bH s at' t cs fin k).2.2.1≠0\/(bH s at' t cs fin k).2.2.2=true
   ·right
    have z:=zE d 1;have A:=zE (s:=s++u) (at':=at') (t:=t) (cs:=cs) (fin:=fin) (k:=k) (by rw[h];exact d) 1;rw[z,A,h]
   ·rcases aJ2 (t.getD (cs.getD (k/10) 0).toNat []) s u (bH s at' t cs fin k).2.1 with r|r
    ·left
     unfold bH;simp only
     rw[if_neg d,if_pos (by omega)];exact r
    ·right
     unfold bH;simp only
     rw[h,r]
theorem LE (s:List UInt8) (at':Int) (t:List (List Int)) (cs:List Int) (fin:Int):∀k,(bH s at' t cs fin k).2.2.1=0->at'<=(bH s at' t cs fin k).2.1/\((bH s at' t cs fin k).2.1<=8*(s.length:Int)\/((bH s at' t cs fin k).2.1=at'/\(bH s at' t cs fin k).1=[]))/\((bH s at' t cs fin k).1.length:Int)<=(bH s at' t cs fin k).2.1-at'/\∀x∈(bH s at' t cs fin k).1,0<=x/\∃l∈t,x<(l.length:Int)
 |0,_=>⟨lJ _,.inr ⟨rfl,rfl⟩,by simp[bH],fun x d=>by simp[bH] at d⟩
 |k+1,h=>by
  by_cases G:(bH s at' t cs fin k).2.2.1≠0\/(bH s at' t cs fin k).2.2.2=true
  ·rw[zE G 1] at h ⊢;have E:=LE s at' t cs fin k h;exact E
  ·have L:(bH s at' t cs fin k).2.2.1=0:=dK.1 (fun q=>G (.inl q));have E:=LE s at' t cs fin k L;unfold bH at h ⊢;simp only at h ⊢;rw[if_neg G] at h ⊢
   by_cases F:(bZ (t.getD (cs.getD (k/10) 0).toNat []) s (bH s at' t cs fin k).2.1).2.2≠0
   ·rw[if_pos F] at h;exact absurd h F
   ·rw[if_neg F] at h ⊢;have z:=aJ3 (dK.1 F);have H:∀x∈(bH s at' t cs fin k).1++[(bZ (t.getD (cs.getD (k/10) 0).toNat []) s (bH s at' t cs fin k).2.1).1],0<=x/\∃l∈t,x<(l.length:Int):=by
     intro x d;rcases cU.1 d with d|d
     ·exact E.2.2.2 x d
     ·obtain rfl:=dC.1 d;refine⟨z.2.2.1,t.getD (cs.getD (k/10) 0).toNat [],?_,z.2.2.2.1⟩;rw[aV]
      cases q:t[(cs.getD (k/10) 0).toNat]? with
      |some l=>exact cH q
      |none=>
       have:=z.2.2.2.1;have A:=z.2.2.1;rw[aV,q] at this A;simp only[Option.getD_none,cX] at this A;omega
    have I:(((bH s at' t cs fin k).1++[(bZ (t.getD (cs.getD (k/10) 0).toNat []) s (bH s at' t cs fin k).2.1).1]).length:Int)<=(bZ (t.getD (cs.getD (k/10) 0).toNat []) s (bH s at' t cs fin k).2.1).2.1-at':=by
     rw[aL,fK];have:=E.2.2.1;omega
    by_cases A:(bZ (t.getD (cs.getD (k/10) 0).toNat []) s (bH s at' t cs fin k).2.1).1=fin
    ·rw[if_pos A] at h ⊢
     by_cases J:k/10+1<cs.length
     ·rw[if_pos J] at h;simp at h
     ·rw[if_neg J];exact⟨by show at'<=(bZ _ _ _).2.1;omega,.inl z.2.2.2.2.2,I,H⟩
    ·rw[if_neg A];exact⟨by show at'<=(bZ _ _ _).2.1;omega,.inl z.2.2.2.2.2,I,H⟩
theorem aJ4 (s t:List UInt8) (at' codes:Int):(cV s at' codes).2.2=2\/cV (s++t) at' codes=cV s at' codes:=by
 rcases oV s t at' 3 with h|⟨H,I⟩
 ·left
  unfold cV;rw[if_pos (by omega)];exact h
 ·by_cases z:aO s.length at' 3≠0
  ·right
   unfold cV;rw[H,if_pos z,if_pos z]
  ·by_cases A:aE s at' 3<2\/6<aE s at' 3
   ·right
    unfold cV;rw[H,I,if_neg z,if_neg z,if_pos A,if_pos A]
   ·rcases oV s t (at'+3) 15 with r|⟨J,M⟩
    ·left
     unfold cV;rw[if_neg z,if_neg A,if_pos (by omega)];exact r
    ·by_cases E:aO s.length (at'+3) 15≠0
     ·right
      unfold cV;rw[H,I,J,if_neg z,if_neg z,if_neg A,if_neg A,if_pos E,if_pos E]
     ·by_cases F:aE s (at'+3) 15=0
      ·right
       unfold cV;rw[H,I,J,M,if_neg z,if_neg z,if_neg A,if_neg A,if_neg E,if_neg E,if_pos F,if_pos F]
      ·rcases aJz s t (at'+18) (aE s (at'+3) 15) (aE s at' 3) with c|c
       ·left
        unfold cV;rw[if_neg z,if_neg A,if_neg E,if_neg F];simp only
        rw[if_pos (by omega)];exact c
       ·by_cases G:(dD s (at'+18) (aE s (at'+3) 15) (aE s at' 3)).2.2≠0
        ·right
         unfold cV;rw[H,I,J,M,if_neg z,if_neg z,if_neg A,if_neg A,if_neg E,if_neg E,if_neg F,if_neg F];simp only
         rw[c,if_pos G,if_pos G]
        ·rcases VO s t (dD s (at'+18) (aE s (at'+3) 15) (aE s at' 3)).2.1 codes (aE s at' 3) with d|d
         ·left
          unfold cV;rw[if_neg z,if_neg A,if_neg E,if_neg F];simp only
          rw[if_neg G,if_pos (by omega)];exact d
         ·by_cases L:(bF s (dD s (at'+18) (aE s (at'+3) 15) (aE s at' 3)).2.1 codes (aE s at' 3)).2.2≠0
          ·right
           unfold cV;rw[H,I,J,M,if_neg z,if_neg z,if_neg A,if_neg A,if_neg E,if_neg E,if_neg F,if_neg F];simp only
           rw[c,if_neg G,if_neg G,d,if_pos L,if_pos L]
          ·rcases VQ s t (bF s (dD s (at'+18) (aE s (at'+3) 15) (aE s at' 3)).2.1 codes (aE s at' 3)).2.1 (bF s (dD s (at'+18) (aE s (at'+3) 15) (aE s at' 3)).2.1 codes (aE s at' 3)).1 (dD s (at'+18) (aE s (at'+3) 15) (aE s at' 3)).1 (codes-1) (10*(dD s (at'+18) (aE s (at'+3) 15) (aE s at' 3)).1.length) with e|e
           ·left
            unfold cV;rw[if_neg z,if_neg A,if_neg E,if_neg F];simp only
            rw[if_neg G,if_neg L];unfold gX;simp only
            rw[if_pos (by omega)];exact e
           ·right
            unfold cV;rw[H,I,J,M,if_neg z,if_neg z,if_neg A,if_neg A,if_neg E,if_neg E,if_neg F,if_neg F];simp only
            rw[c,if_neg G,if_neg G,d,if_neg L,if_neg L];unfold gX;simp only
            rw[e]
theorem LG {s:List UInt8} {at' codes:Int} (h:(cV s at' codes).2.2=0):0<=at'/\2<=codes/\codes<=258/\(∀x∈(cV s at' codes).1,0<=x/\x<codes)/\((cV s at' codes).1.length:Int)<=8*(s.length:Int)/\at'<(cV s at' codes).2.1/\(cV s at' codes).2.1<=8*(s.length:Int):=by
 unfold cV at h ⊢
 by_cases A:aO s.length at' 3≠0
 ·rw[if_pos A] at h;exact absurd h A
 ·rw[if_neg A] at h ⊢;have U:=fQ (dK.1 A)
  by_cases H:aE s at' 3<2\/6<aE s at' 3
  ·rw[if_pos H] at h;simp at h
  ·rw[if_neg H] at h ⊢
   by_cases G:aO s.length (at'+3) 15≠0
   ·rw[if_pos G] at h;exact absurd h G
   ·rw[if_neg G] at h ⊢;have a0:=iA s (at'+3) 15
    by_cases I:aE s (at'+3) 15=0
    ·rw[if_pos I] at h;simp at h
    ·rw[if_neg I] at h ⊢;simp only at h ⊢;generalize hn:aE s at' 3=n at*
     generalize hm:aE s (at'+3) 15=m at*
     by_cases E:(dD s (at'+18) m n).2.2≠0
     ·rw[if_pos E] at h;exact absurd h E
     ·rw[if_neg E] at h ⊢;have a1:=aJ0 (dK.1 E);generalize dD s (at'+18) m n=c at*
      by_cases z:(bF s c.2.1 codes n).2.2≠0
      ·rw[if_pos z] at h;exact absurd h z
      ·rw[if_neg z] at h ⊢;have J:=DM s c.2.1 codes n (dK.1 z);have L:=VP s c.2.1 codes n (dK.1 z);have M:2<=codes/\codes<=258:=by
        have V:0<(bF s c.2.1 codes n).1.length:=by omega
        have:=J.2 _ (gT V);have O:=(eH this.1).1;have h4:=O.1;have h5:=O.2.1;omega
       generalize bF s c.2.1 codes n=t at*
       unfold gX at h ⊢;simp only at h ⊢;have d:=LE s t.2.1 t.1 c.1 (codes-1) (10*c.1.length);generalize bH s t.2.1 t.1 c.1 (codes-1) (10*c.1.length)=p at*
       by_cases F:p.2.2.1≠0
       ·rw[if_pos F] at h;exact absurd h F
       ·rw[if_neg F] at h ⊢;have d:=d (dK.1 F)
        by_cases T:p.2.2.2=true
        ·rw[if_pos T];refine⟨U.1,M.1,M.2,fun x Y=>?_,?_,?_,?_⟩
         ·obtain⟨Z,l,k2,k3⟩:=d.2.2.2 x Y;have:=(J.2 l k2).2;exact⟨Z,by omega⟩
         ·show(p.1.length:Int)<=8*(s.length:Int);have:=d.2.2.1;have:=L.2 (by omega);rcases d.2.1 with k|k<;>omega
         ·show at'<p.2.1;omega
         ·show p.2.1<=_;have:=L.2 (by omega);rcases d.2.1 with k|k<;>omega
        ·rw[if_neg T] at h;simp at h
end
section
open Go.RowKit Go
theorem DW (a b:BitVec 32):bits .xor .u32 (a.toNat:Int) (b.toNat:Int)=((a^^^b).toNat:Int):=by
 rw[u32_xor_nat _ _ a.isLt b.isLt,BitVec.toNat_xor]
theorem WC (a:BitVec 32):rA.wrap ((a.toNat:Int)*2)=((a<<<1).toNat:Int):=by
 rw[aCs,GP,GQ];omega
theorem aKn (a:BitVec 32):rA.wrap ((a.toNat:Int)*256)=((a<<<8).toNat:Int):=by
 rw[aCs,GP,GQ];omega
theorem aKo (a:Nat) (_h:a<256):rA.wrap ((a:Int)*16777216)=((BitVec.ofNat 32 a<<<24).toNat:Int):=by
 rw[aCs,GP,GQ,BitVec.toNat_ofNat];omega
theorem aKp (a:BitVec 32):(a.toNat:Int)/16777216=((a>>>24).toNat:Int):=by
 rw[BitVec.toNat_ushiftRight,Nat.shiftRight_eq_div_pow];omega
theorem WD (a:BitVec 32):(a.toNat:Int)/2147483648=(a.msb.toNat:Int):=by
 rw[BitVec.msb_eq_decide];have:=a.isLt
 by_cases h:2^(32-1)<=a.toNat
 ·rw[decide_eq_true h];simp only[Bool.toNat_true];omega
 ·rw[decide_eq_false h];simp only[Bool.toNat_false];omega
theorem aKq (a:BitVec 32):bits .and .u32 (a.toNat:Int) 2147483648=if a.msb then 2147483648 else 0:=by
 rw[show(2147483648:Int)=((2147483648:Nat):Int) from rfl,u32_and_nat _ _ a.isLt (by decide),show(2147483648:Nat)=2^31 from rfl,Go.nat_bit 31 a.toNat];have h:=WD a;have d:a.toNat/2^31=a.msb.toNat:=by
  have:((a.toNat/2^31:Nat):Int)=(a.msb.toNat:Int):=by rw[<-h];omega
  exact Int.ofNat_inj.1 this
 rw[d]
 cases a.msb<;>rfl
theorem WG (a:BitVec 32):bits .xor .u32 (a.toNat:Int) 4294967295=((~~~ a).toNat:Int):=by
 have h:=DW a (0xffffffff#32);have e:(((0xffffffff#32:BitVec 32).toNat:Nat):Int)=4294967295:=by decide
 rw[e] at h;rw[h];have:a^^^(0xffffffff#32)= ~~~ a:=by
  have:=BitVec.xor_allOnes (x:=a);exact this
 rw[this]
theorem aKr (a:BitVec 32):rA.wrap (2*(a.toNat:Int))=((a<<<1).toNat:Int):=by rw[Int.mul_comm];exact WC a
theorem WE (a:BitVec 32):bits .xor .u32 (a.toNat:Int) 79764919=((a^^^79764919#32).toNat:Int):=by
 have h:=DW a (79764919#32);have e:(((79764919#32:BitVec 32).toNat:Nat):Int)=79764919:=by decide
 rwa[e] at h
theorem aKs (X:Nat) (x:BitVec 32) (z:X=x.toNat) (b:Bool) (w:World):
  Calls Tryz.prog 162 #[.int .u32 (X:Int),.int .u32 (b.toNat:Int)] w fun e w'=>e=.returned (.int .u32 ((rU x b).toNat:Int))/\w'=w:=by
 have L:=WD x;have I:=aKr x;obtain⟨y,A⟩:∃y,y=x<<<1:=⟨_,rfl⟩;have J:=WE y;rw[<-A] at I;have E:=hid (show rU x b=if x.msb != b then y^^^79764919#32 else y by rw[A];rfl);obtain⟨Y,d⟩:∃Y,Y=y.toNat:=⟨_,rfl⟩;obtain⟨Z,F⟩:∃Z,Z=(y^^^79764919#32).toNat:=⟨_,rfl⟩;obtain⟨m,G⟩:∃m,m=x.msb:=⟨_,rfl⟩;rw[<-z,<-G] at L;rw[<-z,<-d] at I;rw[<-d,<-F] at J;rw[<-G] at E;have M:=hid d;have O:=hid F;clear z A d F G
 by_cases h:m=b
 ·subst h;have t1:((m.toNat:Int) != (m.toNat:Int))=false:=by simp
  have T:((m.toNat:Int)==(m.toNat:Int))=true:=by simp
  clear J;go_enter Tryz.func162,Tryz.ntmps162;go_wp2_with fail;go_ret;exact⟨fX (by rw[E.out,M.out];cases m<;>rfl),rfl⟩
 ·have t1:((m.toNat:Int) != (b.toNat:Int))=true:=by cases m<;>cases b<;>simp_all
  have T:((m.toNat:Int)==(b.toNat:Int))=false:=by cases m<;>cases b<;>simp_all
  have H:=hid h;clear h;go_enter Tryz.func162,Tryz.ntmps162;go_wp2_with fail;go_ret;refine⟨fX ?_,rfl⟩;have h:=H.out;rw[E.out,O.out,if_pos (by cases m<;>cases b<;>simp_all)]
theorem WF (c:BitVec 32) (s:List UInt8) (k:Nat) (b:UInt8) (h:s[k]? =some b):kQ c (s.take (k+1))=nY (kQ c (s.take k)) b.toNat 8:=by
 rw[cQ,h,Option.toList_some,aIw]
theorem aKt (c:BitVec 32) (s:ByteArray) (w:World) (hs:s.size<=140737488355328):
  Calls Tryz.prog 105 #[.int .u32 (c.toNat:Int),.string s] w fun e w'=>e=.returned (.int .u32 ((~~~ kQ (~~~ c) s.data.toList).toNat:Int))/\w'=w:=by
 have HL:=hid (show s.data.toList.length=s.size by simp);have H:=WG c;obtain⟨C,hC⟩:∃C,C=c.toNat:=⟨_,rfl⟩;obtain⟨D,I⟩:∃D,D=(~~~ c).toNat:=⟨_,rfl⟩;rw[<-hC] at H ⊢;rw[<-I] at H;have HD:=hid I;obtain⟨d,a0⟩:∃d,d= ~~~ c:=⟨_,rfl⟩;rw[<-a0] at HD ⊢;clear hC I a0;go_enter Tryz.func105,Tryz.ntmps105;go_wp2_with fail
 go_loopg [5,6,7] s.size (fun g J s6 _s7 wr=>∃k X:Nat,k<=s.size/\g=s.size-k/\s6=.int .i64 (k:Int)/\J=.int .u32 (X:Int)/\Hid (X=(kQ d (s.data.toList.take k)).toNat)/\wr=w)
 case atStart=>exact⟨0,D,Nat.zero_le _,rfl,rfl,rfl,HD,rfl⟩
 case round=>
  obtain⟨k,X,hk,A,rfl,rfl,L,rfl⟩:=hrel;have M:=hid A;clear A H
  by_cases a2:k<s.size
  ·have t1:decide ((k:Int)<(s.size:Int))=true:=decide_eq_true (by omega);have hb:=s[k].toNat_lt;have HS:=hid (WF d s.data.toList k s[k] (eW s k a2));have a3:=M;obtain⟨x,E⟩:∃x,x=kQ d (s.data.toList.take k):=⟨_,rfl⟩;rw[<-E] at L HS;clear E;go_wp2_with fail
   go_loopg [5,7] 8 (fun g J s7 wx=>∃j Y:Nat,j<=8/\g=8-j/\s7=.int .i64 (7-(j:Int))/\J=.int .u32 (Y:Int)/\Hid (Y=(nY x s[k].toNat j).toNat)/\wx=wr)
   case atStart=>exact⟨0,X,by omega,rfl,by go_num,rfl,L,rfl⟩
   case round=>
    obtain⟨j,Y,hj,A,rfl,rfl,HY,rfl⟩:=hrel;have M:=hid A;clear A
    by_cases a4:j<8
    ·obtain⟨q,F⟩:∃q:Nat,q=7-j:=⟨_,rfl⟩;have G:(7:Int)-(j:Int)=(q:Int):=by omega
     have t2:decide ((q:Int)>=0)=true:=decide_eq_true (by omega);have t3:decide (0<=(q:Int))=true:=decide_eq_true (by omega);have e4:=yH s[k].toNat q;have e7:min q 8=q:=by omega
     rw[G];have HQ:=hid F;obtain⟨z,O⟩:∃z,z=s[k].toNat.testBit q:=⟨_,rfl⟩;rw[<-O] at e4;have e5:(z.toNat:Int)%4294967296=(z.toNat:Int):=by cases z<;>decide
     have a1:=fun W=>aKs Y (nY x s[k].toNat j) HY.out z W
     have HC:=hid (show nY x s[k].toNat (j+1)=rU (nY x s[k].toNat j) z by rw[O,F];rfl);obtain⟨V,T⟩:∃V,V=(rU (nY x s[k].toNat j) z).toNat:=⟨_,rfl⟩;rw[<-T] at a1;have HV:=hid T;clear F G O T;go_wp2_with fail;refine(a1 _).mono ?_;rintro e w1 ⟨rfl,rfl⟩;go_wp2_with fail;have A:=M.out;have F:=HQ.out
     go_roundg (8-(j+1))
     case measure=>omega
     case rel=>exact⟨j+1,V,by omega,rfl,by go_num,rfl,hid (by rw[HV.out,HC.out]),rfl⟩
    ·have t2:decide ((7:Int)-(j:Int)>=0)=false:=decide_eq_false (by omega);have t3:decide (0<=(7:Int)-(j:Int))=false:=decide_eq_false (by omega);have G:j=8:=by omega
     subst G;go_wp2_with fail;have A:=a3.out
     go_roundg (s.size-(k+1))
     case measure=>omega
     case rel=>exact⟨k+1,Y,by omega,rfl,by go_num,rfl,hid (by rw[HS.out];exact HY.out),rfl⟩
  ·have t1:decide ((k:Int)<(s.size:Int))=false:=decide_eq_false (by omega);obtain⟨x,E⟩:∃x,x=kQ d (s.data.toList.take k):=⟨_,rfl⟩;have U:=L.out;rw[<-E] at U;have x2:=WG x;rw[<-U] at x2;obtain⟨Z,hZ⟩:∃Z,Z=(~~~ x).toNat:=⟨_,rfl⟩;rw[<-hZ] at x2;have HF:=hid (show((Z:Nat):Int)=((~~~ kQ d s.data.toList).toNat:Int) by rw[hZ,E,cS (by rw[HL.out];omega)]);clear E U hZ;go_wp2_with fail;go_ret;exact⟨fX HF.out,rfl⟩
theorem WH (s:ByteArray) (w:World) (z:s.size<=140737488355328):
  Calls Tryz.prog 42 #[.string s] w fun e w'=>e=.returned (.int .u32 ((fG s.data.toList).toNat:Int))/\w'=w:=by
 have d:=aKt (0#32) s w z;have A:(((0#32:BitVec 32).toNat:Nat):Int)=0:=rfl;have E:(~~~ kQ (~~~ (0#32)) s.data.toList)=fG s.data.toList:=rfl;rw[A,E] at d;go_enter Tryz.func42,Tryz.ntmps42;go_wp2_with fail;refine d.mono ?_;rintro e F ⟨rfl,rfl⟩;go_wp2_with fail;go_ret;exact⟨rfl,rfl⟩
end
section
def mO (t0 t1 cs m:List Int):Nat->List Bool
 |0=>[]
 |k+1=>mO t0 t1 cs m k++aY (fO (if cs.getD (k/10) 0=0 then t0 else t1) (m.getD k 0).toNat) (bG (if cs.getD (k/10) 0=0 then t0 else t1) (m.getD k 0).toNat)
theorem XA (t0 t1 cs m:List Int) (i:Nat):∀j,j<=10->10*i+j<=m.length->mO t0 t1 cs m (10*i+j)=mO t0 t1 cs m (10*i)++eR (if cs.getD i 0=0 then t0 else t1) (((m.drop (10*i)).take 10).take j)
 |0,_,_=>by simp[eR]
 |j+1,h,d=>by
  have e:((m.drop (10*i)).take 10).take (j+1)=((m.drop (10*i)).take 10).take j++[m.getD (10*i+j) 0]:=by
   rw[cQ]
   congr 1
   rw[lW,if_pos (by omega),gR,aV,aN (by omega)];rfl
  rw[e,SI,<-cF,<-XA t0 t1 cs m i j (by omega) (by omega),<-dZ];show mO t0 t1 cs m (10*i+j)++_=_;rw[show(10*i+j)/10=i by omega]
theorem XB (t0 t1 cs m:List Int) (d:cs.length=(m.length+9)/10):∀i,i<=(m.length+9)/10->gP t0 t1 (cs.take i) ((cK m).take i)=mO t0 t1 cs m (min (10*i) m.length)
 |0,_=>by simp[gP,mO]
 |i+1,h=>by
  have z:cs.take (i+1)=cs.take i++[cs.getD i 0]:=by
   rw[cQ,aV,aN (by omega)];rfl
  have A:(cK m).take (i+1)=(cK m).take i++[(m.drop (10*i)).take 10]:=by
   rw[cQ,wH m i (by omega)];rfl
  rw[z,A,KL _ _ _ _ _ _ (by rw[aX,aX,iD];omega),XB t0 t1 cs m d i (by omega),show min (10*i) m.length=10*i by omega];have E:=XA t0 t1 cs m i (min 10 (m.length-10*i)) (by omega) (by omega);rw[show min (10*(i+1)) m.length=10*i+min 10 (m.length-10*i) by omega,E]
  congr 2
  rw[List.take_take]
  by_cases q:10<=m.length-10*i
  ·rw[show min (min 10 (m.length-10*i)) 10=10 by omega]
  ·rw[cS (by rw[cI];omega),cS (by rw[cI];omega)]
theorem XC (t0 t1 cs m:List Int) (d:cs.length=(m.length+9)/10):gP t0 t1 cs (cK m)=mO t0 t1 cs m m.length:=by
 have:=XB t0 t1 cs m d ((m.length+9)/10) (aA _);rw[cS (by omega),cS (by rw[iD];exact aA _),show min (10*((m.length+9)/10)) m.length=m.length by omega] at this;exact this
theorem XD (t0 t1 cs m:List Int) (k:Nat):∀j,∃r,mO t0 t1 cs m (k+j)=mO t0 t1 cs m k++r
 |0=>⟨[],by simp⟩
 |j+1=>by
  obtain⟨r,d⟩:=XD t0 t1 cs m k j;refine⟨r++aY (fO (if cs.getD ((k+j)/10) 0=0 then t0 else t1) (m.getD (k+j) 0).toNat) (bG (if cs.getD ((k+j)/10) 0=0 then t0 else t1) (m.getD (k+j) 0).toNat),?_⟩;rw[<-dZ,<-cF,<-d];rfl
theorem aMf {s:List UInt8} {a:Nat} {t0 t1 cs m:List Int} {n:Nat} (G:bL t0=0) (H:bL t1=0) (l0:t0.length=n) (I:t1.length=n) (J:cs.length=(m.length+9)/10) (L:∀x∈cs,x=0\/x=1)
  (M:∀x∈m,0<=x/\x<(n:Int)) (a2:0<m.length) (O:m[m.length-1]? =some ((n:Int)-1)) (T:∀x∈m.take (m.length-1),x<(n:Int)-1)
  (h:fH s a (gP t0 t1 cs (cK m))):∀k,k<=m.length->
   bH s (a:Int) [t0,t1] cs ((n:Int)-1) k=(m.take k,((a+(mO t0 t1 cs m k).length:Nat):Int),0,decide (k=m.length)):=by
 rw[XC t0 t1 cs m J] at h;intro k
 induction k with
 |zero=>
  intro _;unfold bH;rw[decide_eq_false (by omega)];simp[mO]
 |succ k d=>
  intro hk;have d:=d (by omega);rw[decide_eq_false (by omega)] at d;obtain⟨r,z⟩:=XD t0 t1 cs m (k+1) (m.length-(k+1));rw[show k+1+(m.length-(k+1))=m.length by omega] at z;rw[z] at h;have A:=(jN (jN h).1).2;have hx:=M m[k] (gT (by omega));have U:m.getD k 0=m[k]:=by rw[aV,aN (by omega)];rfl
  have V:m.take (k+1)=m.take k++[m[k]]:=by rw[cQ,aN (by omega)];rfl
  have Y:cs.getD (k/10) 0=0\/cs.getD (k/10) 0=1:=by
   rw[aV,aN (by omega)];exact L _ (gT _)
  have Z:[t0,t1].getD (cs.getD (k/10) 0).toNat []=if cs.getD (k/10) 0=0 then t0 else t1:=by
   rcases Y with q|q<;>rw[q]<;>rfl
  have a0:bL (if cs.getD (k/10) 0=0 then t0 else t1)=0:=by split;exact G;exact H
  have a3:(if cs.getD (k/10) 0=0 then t0 else t1).length=n:=by split;exact l0;exact I
  have hL:(mO t0 t1 cs m (k+1)).length=(mO t0 t1 cs m k).length+bG (if cs.getD (k/10) 0=0 then t0 else t1) (m.getD k 0).toNat:=by
   show(mO t0 t1 cs m k++aY _ _).length=_;rw[aL,cY]
  rw[hL];generalize (if cs.getD (k/10) 0=0 then t0 else t1)=tb at*
  rw[U] at A ⊢;have a1:=aJj a0 (i:=m[k].toNat) (by omega) A;unfold bH;rw[d];simp only
  rw[if_neg (by simp),Z,a1];simp only
  rw[if_neg (by simp)];have ei:((m[k].toNat:Nat):Int)=m[k]:=by omega
  rw[ei,V]
  by_cases E:k+1=m.length
  ·have F:m[k]=(n:Int)-1:=by
    have:m[m.length-1]? =some m[k]:=by rw[show m.length-1=k by omega,aN (by omega)]
    rw[O] at this
    injection this with this
    exact this.symm
   rw[if_pos F,if_neg (by omega),decide_eq_true E,dZ]
  ·have F:m[k]<(n:Int)-1:=T _ (by
    refine List.mem_iff_getElem.2 ⟨k,by rw[aX];omega,?_⟩;rw[List.getElem_take])
   rw[if_neg (by omega),decide_eq_false E,dZ]
theorem XE {s:List UInt8} {at':Int} {t:List (List Int)} {cs:List Int} {fin:Int} {k:Nat} (h:(bH s at' t cs fin k).2.2.2=true):∀j,bH s at' t cs fin (k+j)=bH s at' t cs fin k
 |0=>rfl
 |j+1=>by
  rw[<-dZ];show(if(bH s at' t cs fin (k+j)).2.2.1≠0\/(bH s at' t cs fin (k+j)).2.2.2=true then _ else _)=_;rw[XE h j,if_pos (.inr h)]
theorem aMg (cs:List Int) (z:∀x∈cs,x=0\/x=1):(∀x∈dO cs,0<=x/\x<2)/\(unL (cC 2) (dO cs)).map (fun b=>(b.toNat:Int))=cs:=by
 have A:∀b∈cs.map (fun c=>eK c.toNat),b∈cC 2:=fun b E=>by
  obtain⟨x,d,rfl⟩:=dU.1 E;rw[KA (by decide)];rcases z x d with rfl|rfl<;>decide
 constructor
 ·intro x d;have:=vT _ _ A x d;rw[oR] at this;exact this
 ·unfold dO;rw[PN _ _ A,xJ]
  conv=>rhs;rw[<-List.map_id cs]
  apply qW;intro x d;rcases z x d with rfl|rfl<;>rfl
theorem aMh {s:List UInt8} {a n:Nat} {m:List Int} (z:2<=n) (A:n<=258) (d:∀x∈m,0<=x/\x<(n:Int)) (E:m.length<=20000) (a1:0<m.length) (a2:m[m.length-1]? =some ((n:Int)-1)) (a3:∀x∈m.take (m.length-1),x<(n:Int)-1)
  (h:fH s a (rV m n)):cV s (a:Int) (n:Int)=(m,((a+(rV m n).length:Nat):Int),0):=by
 have M:=DE m n;have F:=wJ m n;obtain⟨a4,a5⟩:=aMg (cT m n) M;have O:=tB z A d E (which:=0);have T:=tB z A d E (which:=1);have G:=rQ z A d E (which:=0);have H:=rQ z A d E (which:=1);have a6:(rV m n).length=3+15+(dE (dO (cT m n))).length+(dW (dN m n 0)).length+(dW (dN m n 1)).length+(gP (dN m n 0) (dN m n 1) (cT m n) (cK m)).length:=by
  unfold rV;simp only[aL,cY]
 rw[a6];unfold rV at h;obtain⟨h,U⟩:=jN h;obtain⟨h,V⟩:=jN h;obtain⟨h,Y⟩:=jN h;obtain⟨h,Z⟩:=jN h;obtain⟨s1,s2⟩:=jN h;simp only[aL,cY] at s2 Z Y V U;obtain⟨e1,v1⟩:=uX s1 (by decide);obtain⟨e2,v2⟩:=uX s2 (by rw[F];omega);have a7:(dO (cT m n)).length=(cT m n).length:=by unfold dO;rw[rH,bJ]
 have e3:=aJi (tables:=2) a4 Z (dO (cT m n)).length (aA _);rw[kE,a7] at e3;have I:=UX G.1 Y;have J:=UX H.1 V;rw[G.2] at I;rw[H.2] at J;rw[show((a+3:Nat):Int)=(a:Int)+3 by omega] at e2 v2;have L:=aMf O T G.2 H.2 F M d a1 a2 a3 U m.length (aA _);rw[decide_eq_true rfl] at L;have a0:=XE (by rw[L]) (10*(cT m n).length-m.length);rw[show m.length+(10*(cT m n).length-m.length)=10*(cT m n).length by omega,L] at a0;generalize b0:cT m n=cs at*
 generalize dN m n 0=t0 at*
 generalize dN m n 1=t1 at*
 unfold cV;rw[if_neg (by rw[e1];simp),v1,if_neg (by omega),if_neg (by rw[e2];simp),v2,if_neg (by omega)];have a8:dD s ((a:Int)+18) ((cs.length:Nat):Int) ((2:Nat):Int)=(cs,((a+18+(dE (dO cs)).length:Nat):Int),0):=by
  unfold dD;rw[if_neg (by omega),eG,show(a:Int)+18=((a+(3+15):Nat):Int) by omega];have:cO s ((2:Nat):Int) ((a+(3+15):Nat):Int) cs.length=(dO cs,_,0):=e3;rw[this];simp only
  rw[if_neg (by simp),eG,a5]
 rw[a8];simp only
 rw[if_neg (by simp)];have a9:bF s ((a+18+(dE (dO cs)).length:Nat):Int) (n:Int) 2=([t0,t1],((a+18+(dE (dO cs)).length+(dW t0).length+(dW t1).length:Nat):Int),0):=by
  have ea:a+(3+15+(dE (dO cs)).length)=a+18+(dE (dO cs)).length:=by omega
  have eb:a+(3+15+(dE (dO cs)).length+(dW t0).length)=a+18+(dE (dO cs)).length+(dW t0).length:=by omega
  rw[ea] at I;rw[eb] at J;have f1:bF s ((a+18+(dE (dO cs)).length:Nat):Int) (n:Int) 1=([t0],((a+18+(dE (dO cs)).length+(dW t0).length:Nat):Int),0):=by
   simp only[bF,I,O,ne_eq,not_true,if_false,List.nil_append]
  unfold bF;rw[f1];simp only
  rw[if_neg (by simp),J];simp only
  rw[if_neg (by simp),if_neg (by rw[T];simp)];rfl
 rw[a9];simp only
 rw[if_neg (by simp)];unfold gX;have ec:a+18+(dE (dO cs)).length+(dW t0).length+(dW t1).length=a+(3+15+(dE (dO cs)).length+(dW t0).length+(dW t1).length):=by omega
 rw[ec,a0];simp only
 rw[if_neg (by simp),if_pos trivial,kE];rw[XC t0 t1 cs m F];refine gK rfl (gK ?_ rfl);show((a+(3+15+(dE (dO cs)).length+(dW t0).length+(dW t1).length)+(mO t0 t1 cs m m.length).length:Nat):Int)=_
 congr 1
 omega
theorem aOg (l:List Bool) (i:Nat) (h:i<l.length):(kW (aD l))[i]? =l[i]? :=by
 rw[sP,if_pos (by rw[gY];omega),sO,aV,aN h];rfl
theorem aOh (x l y:List Bool):seg (aD (x++l++y)) x.length l.length=l:=by
 apply jA;intro i;unfold seg;rw[lW,gR]
 by_cases hi:i<l.length
 ·rw[if_pos hi,aOg _ _ (by simp;omega),gS (by simp;omega),List.getElem?_append_right (by omega),show x.length+i-x.length=i by omega]
 ·rw[if_neg hi,dL (by omega)]
theorem YF (x l y:List Bool):fH (aD (x++l++y)) x.length l:=
 ⟨by rw[gY];simp;omega,aOh x l y⟩
theorem zP (l:List Bool):fH (aD l) 0 l:=by
 have:=YF [] l []
 simpa using this
end
section
open Go.Shelf Go.RowKit
def zV:Go.Shelf.Ren:=⟨fun|166=>70|167=>71|169=>72|170=>176|240=>140|276=>191|n=>n,fun|3=>3|4=>4|5=>5|9=>9|20=>20|37=>45|70=>110|72=>112|75=>114|80=>118|127=>193|164=>233|n=>n,fun|n=>n⟩
theorem aQq:Go.Proofs.Lays.n166 Tryz.prog zV:={
 mixed:=by kernel_rfl
 f166:=Tryz.func70.trans (congrArg some (by kernel_rfl))
 f240:=Tryz.func140.trans (congrArg some (by kernel_rfl))
 f276:=Tryz.func191.trans (congrArg some (by kernel_rfl))
 t0:=Tryz.underlying0
 a0:=Tryz.isAgg0
 z0:=Tryz.sizeOf0
 v0:=Tryz.zeroValue0
 t3:=Tryz.underlying3
 a3:=Tryz.isAgg3
 z3:=Tryz.sizeOf3
 v3:=Tryz.zeroValue3
 t4:=Tryz.underlying4
 a4:=Tryz.isAgg4
 z4:=Tryz.sizeOf4
 v4:=Tryz.zeroValue4
 t9:=Tryz.underlying9
 a9:=Tryz.isAgg9
 z9:=Tryz.sizeOf9
 v9:=Tryz.zeroValue9
 t20:=Tryz.underlying20
 a20:=Tryz.isAgg20
 z20:=Tryz.sizeOf20
 v20:=Tryz.zeroValue20
 t37:=Tryz.underlying45
 a37:=Tryz.isAgg45
 z37:=Tryz.sizeOf45
 v37:=Tryz.zeroValue45
 t70:=Tryz.underlying110
 a70:=Tryz.isAgg110
 z70:=Tryz.sizeOf110
 v70:=Tryz.zeroValue110
 t72:=Tryz.underlying112
 a72:=Tryz.isAgg112
 z72:=Tryz.sizeOf112
 v72:=Tryz.zeroValue112
 t75:=Tryz.underlying114
 a75:=Tryz.isAgg114
 z75:=Tryz.sizeOf114
 v75:=Tryz.zeroValue114
 t164:=Tryz.underlying233
 a164:=Tryz.isAgg233
 z164:=Tryz.sizeOf233
 v164:=Tryz.zeroValue233}
theorem aQr:Go.Proofs.Lays.n167 Tryz.prog zV:={
 mixed:=by kernel_rfl
 f167:=Tryz.func71.trans (congrArg some (by kernel_rfl))
 f240:=Tryz.func140.trans (congrArg some (by kernel_rfl))
 f276:=Tryz.func191.trans (congrArg some (by kernel_rfl))
 t0:=Tryz.underlying0
 a0:=Tryz.isAgg0
 z0:=Tryz.sizeOf0
 v0:=Tryz.zeroValue0
 t4:=Tryz.underlying4
 a4:=Tryz.isAgg4
 z4:=Tryz.sizeOf4
 v4:=Tryz.zeroValue4
 t5:=Tryz.underlying5
 a5:=Tryz.isAgg5
 z5:=Tryz.sizeOf5
 v5:=Tryz.zeroValue5
 t9:=Tryz.underlying9
 a9:=Tryz.isAgg9
 z9:=Tryz.sizeOf9
 v9:=Tryz.zeroValue9
 t20:=Tryz.underlying20
 a20:=Tryz.isAgg20
 z20:=Tryz.sizeOf20
 v20:=Tryz.zeroValue20
 t37:=Tryz.underlying45
 a37:=Tryz.isAgg45
 z37:=Tryz.sizeOf45
 v37:=Tryz.zeroValue45
 t70:=Tryz.underlying110
 a70:=Tryz.isAgg110
 z70:=Tryz.sizeOf110
 v70:=Tryz.zeroValue110
 t72:=Tryz.underlying112
 a72:=Tryz.isAgg112
 z72:=Tryz.sizeOf112
 v72:=Tryz.zeroValue112
 t75:=Tryz.underlying114
 a75:=Tryz.isAgg114
 z75:=Tryz.sizeOf114
 v75:=Tryz.zeroValue114
 t164:=Tryz.underlying233
 a164:=Tryz.isAgg233
 z164:=Tryz.sizeOf233
 v164:=Tryz.zeroValue233}
theorem aQs:Go.Proofs.Lays.n169 Tryz.prog zV:={
 mixed:=by kernel_rfl
 f169:=Tryz.func72.trans (congrArg some (by kernel_rfl))
 t0:=Tryz.underlying0
 a0:=Tryz.isAgg0
 z0:=Tryz.sizeOf0
 v0:=Tryz.zeroValue0
 t3:=Tryz.underlying3
 a3:=Tryz.isAgg3
 z3:=Tryz.sizeOf3
 v3:=Tryz.zeroValue3
 t9:=Tryz.underlying9
 a9:=Tryz.isAgg9
 z9:=Tryz.sizeOf9
 v9:=Tryz.zeroValue9
 t37:=Tryz.underlying45
 a37:=Tryz.isAgg45
 z37:=Tryz.sizeOf45
 v37:=Tryz.zeroValue45
 t70:=Tryz.underlying110
 a70:=Tryz.isAgg110
 z70:=Tryz.sizeOf110
 v70:=Tryz.zeroValue110
 t72:=Tryz.underlying112
 a72:=Tryz.isAgg112
 z72:=Tryz.sizeOf112
 v72:=Tryz.zeroValue112
 t127:=Tryz.underlying193
 a127:=Tryz.isAgg193
 z127:=Tryz.sizeOf193
 v127:=Tryz.zeroValue193}
theorem aQt:Go.Proofs.Lays.n170 Tryz.prog zV:={
 mixed:=by kernel_rfl
 f170:=Tryz.func176.trans (congrArg some (by kernel_rfl))
 t0:=Tryz.underlying0
 a0:=Tryz.isAgg0
 z0:=Tryz.sizeOf0
 v0:=Tryz.zeroValue0
 t3:=Tryz.underlying3
 a3:=Tryz.isAgg3
 z3:=Tryz.sizeOf3
 v3:=Tryz.zeroValue3
 t37:=Tryz.underlying45
 a37:=Tryz.isAgg45
 z37:=Tryz.sizeOf45
 v37:=Tryz.zeroValue45
 t70:=Tryz.underlying110
 a70:=Tryz.isAgg110
 z70:=Tryz.sizeOf110
 v70:=Tryz.zeroValue110
 t72:=Tryz.underlying112
 a72:=Tryz.isAgg112
 z72:=Tryz.sizeOf112
 v72:=Tryz.zeroValue112}
theorem MV:Builder.Extra Tryz.prog zV:={
 sizeBuilder:=by kernel_rfl
 liesBuilder:=by kernel_rfl
 t5:=Tryz.underlying5
 a5:=Tryz.isAgg5
 z5:=Tryz.sizeOf5
 v5:=Tryz.zeroValue5
 infoByte:=by kernel_rfl
 cellsByte:=by kernel_rfl
 sizeByte:=by kernel_rfl
 neB5:=by decide}
def Bld (w:World) (B b:Nat) (l:List UInt8):Prop:=Lib.IsBuilderF 112 5 B b (nS l) w
theorem aQu (B b:Nat) (l:List UInt8) (s:ByteArray) (w:World) (h:Bld w B b l) (d:l.length+s.size<=140737488355328) (z:B<=w.heap.size):
  Calls Tryz.prog 70 #[.pointer (some ⟨b,0,none⟩),.string s] w fun e w'=>e=.returned (.tuple #[.int .i64 (s.size:Int),.nilIface])/\Bld w' B b (l++s.data.toList)/\Below B w w'/\GY 5 (some b) w w':=by
 refine(Any.Builder_WriteString_k aQq MV B b (nS l) s w h (by simpa [nS] using d) z).mono ?_;rintro e w' ⟨rfl,A,E,F⟩;refine⟨rfl,.inr ?_,E,F⟩;have e:nS (l++s.data.toList)=nS l++Lib.strCells s:=by simp[nS,Lib.strCells]
 rw[e];exact A
theorem aAm (B b:Nat) (l:List UInt8) (c:UInt8) (w:World) (h:Bld w B b l) (d:l.length+1<=140737488355328) (z:B<=w.heap.size):
  Calls Tryz.prog 71 #[.pointer (some ⟨b,0,none⟩),.int .u8 (c.toNat:Int)] w fun e w'=>e=.returned .nilIface/\Bld w' B b (l++[c])/\Below B w w'/\GY 5 (some b) w w':=by
 refine(Any.Builder_WriteByte_k aQr MV B b (nS l) (c.toNat:Int) w h (by simpa [nS] using d) z).mono ?_;rintro e w' ⟨rfl,A,E,F⟩;refine⟨rfl,.inr ?_,E,F⟩;have e:nS (l++[c])=nS l++[Value.int .u8 (c.toNat:Int)]:=by simp[nS]
 rw[e];exact A
theorem aAn (B b:Nat) (l:List UInt8) (w:World) (h:Bld w B b l) (d:B<=w.heap.size):
  Calls Tryz.prog 72 #[.pointer (some ⟨b,0,none⟩)] w fun e w'=>e=.returned (.string (mkS l))/\Bld w' B b l/\Below B w w'/\GY 5 (some b) w w':=
 Any.Builder_String_any_k aQs MV B b l w h d
theorem EW (B b:Nat) (l:List UInt8) (w:World) (h:Bld w B b l):
  Calls Tryz.prog 176 #[.pointer (some ⟨b,0,none⟩)] w fun e w'=>e=.returned (.int .i64 (l.length:Int))/\w'=w:=by
 refine(Any.Builder_Len_f aQt B b (nS l) w h).mono ?_;rintro e w' ⟨rfl,rfl⟩;refine⟨?_,rfl⟩;simp[nS]
end
end Go.Proofs.YtiifmcicleljjaaGreatDoor
