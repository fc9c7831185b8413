/-
  Texts put together (part 5): the walks and the plain laws on which the statement stands.
-/
import Derived.Test.YtfckbfofgeilgaaGreatDoorZ3
import Derived.Test.YtfckbfofgeilgaaGreatDoorZ4
set_option maxRecDepth 100000
set_option maxHeartbeats 12800000
set_option linter.unusedVariables false
set_option linter.unusedSimpArgs false
open Go.Proofs.Tryz
open Go.Proofs.Tryz renaming prog->pG
open BitVec renaming toNat_shiftLeft->IR
open Decidable renaming not_not->eB
open Go.IntKind renaming u32->sH,wrap_u32'->aL4
open Int renaming le_refl->lV
open List renaming append_assoc->bU,ext_getElem?->lH,flatten_cons->kW,getD_eq_getElem?_getD->bV,getElem?_drop->jR,getElem?_eq_getElem->aN,getElem?_eq_none->fZ,getElem?_take->pD,getElem_mem->kK,length->nU,length_append->aL,length_cons->aU,length_flatten->aLz,length_map->aS,length_nil->aV,length_pos_iff->gG,length_take->aQ,map_congr_left->vH,map_map->yL,map_replicate->DM,mem_cons_of_mem->iQ,mem_cons_self->jK,mem_map->eK,mem_range->qM,range->eT,replicate->aX,replicate_succ->GX,sum_replicate_nat->aL0,take_add_one->cG,take_append_drop->kH,take_length->jS
open Nat renaming add_assoc->fU,le_refl->aD,mul_comm->pE,pow_succ->oP,shiftLeft_eq->IS,zero_le->aO
open Prod renaming ext->qN
open UInt8 renaming ofNat->eA
namespace Go.Proofs.YtfckbfofgeilgaaGreatDoor
section
def dA (m:List Int):List (List Int):=(eT ((m.length+9)/10)).map (fun i=>(m.drop (10*i)).take 10)
theorem kR (m:List Int):(dA m).length=(m.length+9)/10:=by simp[dA]
theorem BY (m:List Int) (i:Nat) (h:i<(m.length+9)/10):(dA m)[i]? =some ((m.drop (10*i)).take 10):=by simp[dA,h]
def RO (m:List Int) (n:Int):Bool:=m.any (fun s=>decide (s<0)||decide (n<=s))
theorem aTd {m:List Int} {n:Int} (h:∀x∈m,0<=x/\x<n):RO m n=false:=by grind [RO]
def aB8 (d g:List Int):Int:=if bM d≠0 then bM d else if RO g d.length then 5 else 0
def oV (d:List Int) (g:List Int):Int:=g.foldl (fun n s=>n+d.getD s.toNat 0) 0
def qW (d g:List Int):Int:=if aB8 d g=0 then oV d g else 0
theorem aB9 (d g:List Int) (s:Int):oV d (g++[s])=oV d g+d.getD s.toNat 0:=by simp[oV]
theorem aCa {d:List Int} (e:∀x∈d,1<=x/\x<=20) (g:List Int):0<=oV d g/\oV d g<=20*(g.length:Int):=by
 refine EM (P:=fun g=>0<=oV d g/\oV d g<=20*(g.length:Int)) (by simp[oV]) (fun g s A=>?_) g
 grind [aB9,aL,List.length_singleton,aN,kK,fZ,oV]
def eH (m:List Int) (n which:Nat):Nat->List Int
 |0=>aX n 0
 |k+1=>if k/10%2=which then(eH m n which k).set (m.getD k 0).toNat ((eH m n which k).getD (m.getD k 0).toNat 0+1) else eH m n which k
theorem xO (m:List Int) (n which:Nat):∀k,(eH m n which k).length=n
 |0=>by simp[eH]
 |k+1=>by
  unfold eH;split
  ·simp[xO,eH]
  ·simp[xO,eH]
theorem aCb:∀(l:List Int) (i:Nat),i<l.length->(l.set i (l.getD i 0+1)).sum=l.sum+1
 |[],i,h=>by simp at h
 |x::l,0,_=>by grind
 |x::l,i+1,h=>by
  have:=aCb l i (by simpa using h)
  grind
theorem BZ (m:List Int) (n which:Nat) (h:∀x∈m,0<=x/\x<(n:Int)):∀k,k<=m.length->0<=(eH m n which k).sum/\(eH m n which k).sum<=(k:Int)/\∀x∈eH m n which k,0<=x/\x<=(k:Int)
 |0,_=>by
  refine⟨by simp[eH],by simp[eH],fun x d=>?_⟩;unfold eH at d;have:=List.eq_of_mem_replicate d;omega
 |k+1,e=>by
  obtain⟨A,D,F⟩:=BZ m n which h k (by omega)
  grind [kK,aN,eH,aCb,xO,List.mem_or_eq_of_mem_set]
def mW (m:List Int) (n which:Nat):List Int:=eH m n which m.length
def qX (d:List Int):List Int:=nK (d.map (fun w=>max w 1))
theorem LB (d:List Int) (h:∀x∈d,0<=x):(d.map (fun w=>max w 1)).sum<=d.sum+d.length:=by
 induction d with
 |nil=>decide
 |cons x l e=>
  have:=e (fun y A=>h y (iQ _ A));have:=h x (jK ..);simp only[List.map_cons,List.sum_cons,aU];omega
theorem RP {d:List Int} (A:2<=d.length) (D:d.length<=258) (e:∀x∈d,0<=x) (F:d.sum<=20000):gM (qX d)/\(qX d).length=d.length:=by
 have G:(d.map (fun w=>max w 1)).length=d.length:=aS ..;have:=aTb (d.map (fun w=>max w 1)) (by omega) (fun x I=>by grind) (by have:=LB d e;omega)
 grind [gM,qX]
def eN (m:List Int) (n which:Nat):List Int:=qX (mW m n which)
theorem wF {m:List Int} {n which:Nat} (d:2<=n) (e:n<=258) (h:∀x∈m,0<=x/\x<(n:Int)) (A:m.length<=20000):gM (eN m n which)/\(eN m n which).length=n:=by
 have D:=BZ m n which h m.length (aD _)
 grind [xO,RP,mW,eN,gM]
def rO (a b g:List Int):Int:=if qW b g<qW a g then 1 else 0
def dS (m:List Int) (n:Nat):List Int:=(dA m).map (rO (eN m n 0) (eN m n 1))
theorem CA (m:List Int) (n:Nat):(dS m n).length=(m.length+9)/10:=by simp[dS,kR]
theorem LC (m:List Int) (n:Nat):∀x∈dS m n,x=0\/x=1:=by grind [rO,dS]
def gF (l d:List Int):List Bool:=d.flatMap (fun s=>aT (gZ l s.toNat) (bL l s.toNat))
theorem aCc (l d:List Int) (s:Int):gF l (d++[s])=gF l d++aT (gZ l s.toNat) (bL l s.toNat):=by simp[gF,aT,gZ,bL]
theorem wG {l:List Int} (h:gM l):∀d:List Int,(∀x∈d,0<=x/\x<(l.length:Int))->(gF l d).length<=20*d.length
 |[],_=>by simp[gF]
 |s::d,e=>by
  have D:=wG h d (fun x A=>e x (iQ _ A));have F:=e s (jK ..)
  grind [lX,gF,dV,gM]
def iB (d e:List Int):List Int->List (List Int)->List Bool
 |c::A,g::D=>gF (if c=0 then d else e) g++iB d e A D
 |_,_=>[]
theorem RV (A D:List Int) (c:Int) (g:List Int):∀(d:List Int) (e:List (List Int)),d.length=e.length->iB A D (d++[c]) (e++[g])=iB A D d e++gF (if c=0 then A else D) g
 |[],[],_=>by simp[iB]
 |[],_::_,h=>by simp at h
 |_::_,[],h=>by simp at h
 |G::d,F::e,h=>by
  show gF _ F++iB A D (d++[c]) (e++[g])=(gF _ F++iB A D d e)++_;rw[RV A D c g d e (by simpa using h),bU]
def fJ (d:List Int):List Int:=dL (cT 2) (d.map (fun c=>eA c.toNat))
def wJ (m:List Int) (n:Nat):List Bool:=
 aT 2 3++aT (dS m n).length 15++eW (fJ (dS m n))++fI (eN m n 0)++fI (eN m n 1)++iB (eN m n 0) (eN m n 1) (dS m n) (dA m)
def ER (sum d:Nat) (a:List UInt8) (m:List Int):List Bool:=
 aT 0x314159265359 48++aT sum 32++aT d 16++iL a++wJ m (a.length+2)
def bO (s:List UInt8) (at' codes:Int):Nat->List (List Int)×Int×Int
 |0=>([],at',0)
 |k+1=>
  let p:=bO s at' codes k
  if p.2.2≠0 then p
  else let q:=gS s p.2.1 codes
   if q.2.2≠0 then(p.1,p.2.1,q.2.2)
   else if bM q.1≠0 then(p.1,p.2.1,bM q.1)
   else(p.1++[q.1],q.2.1,0)
def bZ (s:List UInt8) (at':Int) (t:List (List Int)) (d:List Int) (fin:Int):Nat->List Int×Int×Int×Bool
 |0=>([],at',0,false)
 |k+1=>
  let p:=bZ s at' t d fin k
  if p.2.2.1≠0\/p.2.2.2=true then p
  else let q:=dE (t.getD (d.getD (k/10) 0).toNat []) s p.2.1
   if q.2.2≠0 then(p.1,p.2.1,q.2.2,false)
   else if q.1=fin then
    if k/10+1<d.length then(p.1++[q.1],q.2.1,3,false) else(p.1++[q.1],q.2.1,0,true)
   else(p.1++[q.1],q.2.1,0,false)
def jW (s:List UInt8) (at':Int) (t:List (List Int)) (d:List Int) (fin:Int):List Int×Int×Int:=
 let p:=bZ s at' t d fin (10*d.length)
 if p.2.2.1≠0 then([],0,p.2.2.1) else if p.2.2.2 then(p.1,p.2.1,0) else([],0,3)
def dW (s:List UInt8) (at':Int) (codes:Int):List Int×Int×Int:=
 if aP s.length at' 3≠0 then([],0,aP s.length at' 3)
 else if aK s at' 3<2\/6<aK s at' 3 then([],0,3)
 else if aP s.length (at'+3) 15≠0 then([],0,aP s.length (at'+3) 15)
 else if aK s (at'+3) 15=0 then([],0,3)
 else
  let c:=eD s (at'+18) (aK s (at'+3) 15) (aK s at' 3)
  if c.2.2≠0 then([],0,c.2.2)
  else
   let t:=bO s c.2.1 codes (aK s at' 3)
   if t.2.2≠0 then([],0,t.2.2) else jW s t.2.1 t.1 c.1 (codes-1)
theorem LE (s:List UInt8) (at' codes:Int):∀k,(bO s at' codes k).2.2=0->(bO s at' codes k).1.length=k/\∀l∈(bO s at' codes k).1,bM l=0/\(l.length:Int)=codes
 |0,_=>⟨rfl,fun l d=>by simp[bO] at d⟩
 |k+1,h=>by
  unfold bO at h ⊢;simp only at h ⊢;split at h
  ·grind
  ·next q=>
   obtain⟨e,A⟩:=LE s at' codes k (eB.1 q)
   grind [gS,EP,bC,bO,bM]
def cR (s:List UInt8) (a:Nat) (l:List Bool):Prop:=a+l.length<=8*s.length/\seg s a l.length=l
theorem gN {s:List UInt8} {a:Nat} {l m:List Bool} (h:cR s a (l++m)):cR s a l/\cR s (a+l.length) m:=by grind [aL,aB2,seg,BT,List.append_inj,cR]
theorem qY {s:List UInt8} {a v n:Nat} (h:cR s a (aT v n)) (d:v<2^n):aP s.length (a:Int) n=0/\aK s (a:Int) n=v:=by grind [dV,aP,aK,aBt,cR,aT]
theorem RW {s:List UInt8} {a:Nat} {l:List Bool} (h:cR s a l):aP s.length (a:Int) l.length=0/\aK s (a:Int) l.length=dG l:=by
 rw[<-RA l] at h;exact qY h (wC l)
theorem xQ {s:List UInt8} {a:Nat} {b:Bool} {l:List Bool} (h:cR s a (b::l)):(aP s.length (a:Int) 1=0/\aK s (a:Int) 1=b.toNat)/\cR s (a+1) l:=by
 obtain⟨d,e⟩:=gN (l:=[b]) (m:=l) h
 grind [RW,dG,cR,aP,aK]
theorem aCl {s:List UInt8}:∀(k:Nat) (a:Nat) (d:Int),1<=d->d+k<=20->cR s a ((aX k [true,false]).flatten++[false])->fS s (a:Int) d=(d+k,((a+(2*k+1):Nat):Int),0)
 |0,a,d,G,I,h=>by
  obtain⟨⟨e,A⟩,_⟩:=xQ (b:=false) (l:=[]) h;rw[BU s _ _ (by omega),aA (by rw[e];simp),aB (by rw[A];rfl)];simp
 |k+1,a,d,G,I,h=>by
  rw[GX,kW,bU] at h;obtain⟨⟨e,A⟩,h⟩:=xQ (b:=true) (l:=false::((aX k [true,false]).flatten++[false])) h;obtain⟨⟨D,F⟩,h⟩:=xQ h;rw[show((a+1:Nat):Int)=(a:Int)+1 by omega] at D F;rw[BU s _ _ (by omega),aA (by rw[e];simp),aA (by rw[A];simp),aA (by rw[D];simp),show(if aK s ((a:Int)+1) 1=0 then d+1 else d-1)=d+1 from aB (by rw[F];rfl),aA (by omega)];have:=aCl k (a+1+1) (d+1) (by omega) (by omega) h
  grind
theorem aCm {s:List UInt8}:∀(k:Nat) (a:Nat) (d:Int),1<=d-k->d<=20->cR s a ((aX k [true,true]).flatten++[false])->fS s (a:Int) d=(d-k,((a+(2*k+1):Nat):Int),0)
 |0,a,d,G,I,h=>by
  obtain⟨⟨e,A⟩,_⟩:=xQ (b:=false) (l:=[]) h;rw[BU s _ _ (by omega),aA (by rw[e];simp),aB (by rw[A];rfl)];simp
 |k+1,a,d,G,I,h=>by
  rw[GX,kW,bU] at h;obtain⟨⟨e,A⟩,h⟩:=xQ (b:=true) (l:=true::((aX k [true,true]).flatten++[false])) h;obtain⟨⟨D,F⟩,h⟩:=xQ h;rw[show((a+1:Nat):Int)=(a:Int)+1 by omega] at D F;rw[BU s _ _ (by omega),aA (by rw[e];simp),aA (by rw[A];simp),aA (by rw[D];simp),show(if aK s ((a:Int)+1) 1=0 then d+1 else d-1)=d-1 from aA (by rw[F];simp),aA (by omega)];have:=aCm k (a+1+1) (d-1) (by omega) (by omega) h
  grind
theorem aTr {s:List UInt8} {a:Nat} {d x:Int} (A:1<=d) (D:d<=20) (F:1<=x) (G:x<=20) (h:cR s a (mR d x)):fS s (a:Int) d=(x,((a+(mR d x).length:Nat):Int),0):=by
 rcases Int.le_total d x with q|q
 ·obtain⟨k,rfl⟩:∃k:Nat,x=d+k:=⟨(x-d).toNat,by omega⟩;have e:mR d (d+k)=(aX k [true,false]).flatten++[false]:=by
   unfold mR;rw[show(d+(k:Int)-d).toNat=k by omega,show(d-(d+(k:Int))).toNat=0 by omega];simp
  rw[e] at h ⊢;rw[aCl k a d A G h];simp[aLz,DM,aL0,pE]
 ·obtain⟨k,rfl⟩:∃k:Nat,x=d-k:=⟨(d-x).toNat,by omega⟩;have e:mR d (d-k)=(aX k [true,true]).flatten++[false]:=by
   unfold mR;rw[show(d-(k:Int)-d).toNat=0 by omega,show(d-(d-(k:Int))).toNat=k by omega];simp
  rw[e] at h ⊢;rw[aCm k a d F D h];simp[aLz,DM,aL0,pE]
theorem aTs {s:List UInt8} {a:Nat} {l:List Int} (L:∀x∈l,1<=x/\x<=20) (Z:0<l.length) (h:cR s a (fI l)):∀k,k<=l.length->
  bC s (a:Int) k=(l.take k,(l.take k).getLastD (l.getD 0 0),((a+5+(fR (l.getD 0 0) (l.take k)).length:Nat):Int),0):=by
 have hf:1<=l.getD 0 0/\l.getD 0 0<=20:=by grind [aN,kK,cR,fI,bC,fR]
 obtain⟨M,D⟩:=gN h;obtain⟨O,R⟩:=qY M (by omega);rw[dV] at D;intro k
 induction k with
 |zero=>
  intro _;unfold bC;rw[R,aA (by rw[O];simp),aA (by omega)];refine qN rfl (qN (by grind) (qN (by simp[fR]) rfl))
 |succ k A=>
  intro hk;have A:=A (by omega);have F:=L l[k] (kK (by omega));have G:l.take (k+1)=l.take k++[l[k]]:=by simp
  have I:1<=(l.take k).getLastD (l.getD 0 0)/\(l.take k).getLastD (l.getD 0 0)<=20:=by
   rcases Nat.eq_zero_or_pos k with q|q
   ·grind
   ·have a0:l.take k≠[]:=by
     intro e;have:=congrArg nU e;rw[aQ,aV] at this;omega
    have:(l.take k).getLastD (l.getD 0 0)∈l.take k:=by grind
    grind
  have U:cR s (a+5+(fR (l.getD 0 0) (l.take k)).length) (mR ((l.take k).getLastD (l.getD 0 0)) l[k]):=by
   have e:fR (l.getD 0 0) l=fR (l.getD 0 0) (l.take (k+1))++fR ((l.take (k+1)).getLastD (l.getD 0 0)) (l.drop (k+1)):=by
    have V:∀(u v:List Int) (d:Int),fR d (u++v)=fR d u++fR (u.getLastD d) v:=fun u=>by
     induction u with
     |nil=>intro v d;rfl
     |cons y u A=>
      intro v d;show mR d y++fR y (u++v)=(mR d y++fR y u)++_;rw[A v y,bU]
      congr 3
      cases u<;>rfl
    rw[<-V,kH]
   rw[e] at D;have J:=(gN D).1;rw[G,KU] at J;exact(gN J).2
  have Y:=aTr I.1 I.2 F.1 F.2 U;unfold bC;rw[A];simp only
  rw[aA (by simp),Y];simp only
  rw[aA (by simp),G,KU,aL];refine qN rfl (qN (by grind) (qN (by grind) rfl))
theorem aCn {s:List UInt8} {a:Nat} {l:List Int} (d:gM l) (h:cR s a (fI l)):gS s (a:Int) (l.length:Int)=(l,((a+(fI l).length:Nat):Int),0):=by
 have e:=d.1;have A:=d.2.1;have:=aTs d.2.2 (by omega) h l.length (aD _)
 grind [gS,fI,dV,gM,cR]
theorem aCo {s:List UInt8} {tables:Int}:∀(k:Nat) (a:Nat) (n:Int),0<=n->n+k<tables->cR s a (aX k true++[false])->kN s tables (a:Int) n=(n+k,((a+(k+1):Nat):Int),0)
 |0,a,n,A,D,h=>by
  obtain⟨⟨d,e⟩,_⟩:=xQ (b:=false) (l:=[]) h;rw[KX s _ _ _ (by omega),aA (by rw[d];simp),aB (by rw[e];rfl)];simp
 |k+1,a,n,A,D,h=>by
  rw[GX,List.cons_append] at h;obtain⟨⟨d,e⟩,h⟩:=xQ h;rw[KX s _ _ _ (by omega),aA (by rw[d];simp),aA (by rw[e];simp),aA (show ¬n+1=tables by omega)];have:=aCo (tables:=tables) k (a+1) (n+1) (by omega) (by omega) h
  grind
theorem aTt {s:List UInt8} {tables:Int} {a:Nat} {d:List Int} (F:∀x∈d,0<=x/\x<tables) (h:cR s a (eW d)):∀k,k<=d.length->
  dR s tables (a:Int) k=(d.take k,((a+(eW (d.take k)).length:Nat):Int),0):=by
 intro k
 induction k with
 |zero=>intro _;simp[dR,eW]
 |succ k A=>
  intro L;have A:=A (by omega);have M:=F d[k] (kK (by omega));have D:d.take (k+1)=d.take k++[d[k]]:=by simp
  have G:cR s (a+(eW (d.take k)).length) (oC d[k]):=by
   have e:eW d=eW (d.take (k+1))++eW (d.drop (k+1)):=by grind [eW,kH,cR,dR]
   rw[e,D,RJ] at h;exact(gN (gN h).1).2
  have I:=aCo (tables:=tables) d[k].toNat _ 0 (by omega) (by omega) G;unfold dR;rw[A];simp only
  rw[aA (by simp),I];simp only
  rw[aA (by simp),D,RJ,aL];have J:(oC d[k]).length=d[k].toNat+1:=by simp[oC]
  rw[J];refine qN (by grind) (qN (by grind) rfl)
theorem aTu {l:List Int} (d:bM l=0) {s:List UInt8} {a i:Nat} (e:i<l.length) (h:cR s a (aT (gZ l i) (bL l i))):dE l s (a:Int)=((i:Int),((a+bL l i:Nat):Int),0):=by grind [RD,gE,dV,lA,aBt,zH,bM,cR,aT,gZ,bL,dE]
theorem aTv (t:List UInt8) (k i:Nat) (h:i<16):(iK t k).getD i false=dZ t (16*k+i):=by grind [iK,dZ]
theorem RX (t:List UInt8) (k:Nat):∀i,i<=16->kL t (16*k+i)=kL t (16*k)++nJ (dG (iK t k)) k i
 |0,_=>by simp[nJ]
 |i+1,h=>by
  rw[<-fU,PD,RX t k i (by omega)]
  grind [nJ,dG,iK,KJ,zJ,aTv,kL]
theorem aTw (t:List UInt8) (k:Nat) (h:lP t k=false):kL t (16*(k+1))=kL t (16*k):=by
 rw[show 16*(k+1)=16*k+16 by omega,RX t k 16 (aD _)];have d:dG (iK t k)=0:=(EN _).2 h;rw[d];have:∀i,nJ 0 k i=[]:=fun i=>by
  induction i with
  |zero=>rfl
  |succ i e=>unfold nJ;rw[e];simp
 grind
theorem LH (t:List UInt8):(pO t).length=16:=by simp[pO]
theorem aCp (t:List UInt8) (k:Nat):∀j,∃m,iA t (k+j)=iA t k++m
 |0=>⟨[],by simp⟩
 |j+1=>by
  obtain⟨m,d⟩:=aCp t k j
  grind [lP,iK,iA]
theorem aCq (t:List UInt8) (k:Nat) (d:k<=16):∃m,iA t 16=iA t k++m:=by
 have:=aCp t k (16-k)
 grind
theorem aTx {s:List UInt8} {a:Nat} {t:List UInt8} (h:cR s a (iL t)):∀k,k<=16->
  dQ s (a:Int) k=(kL t (16*k),((a+16+(iA t k).length:Nat):Int),dG (pO t)==0,0):=by
 obtain⟨G,A⟩:=gN h;have d:=RW G;rw[LH] at A d;intro k
 induction k with
 |zero=>
  intro _;unfold dQ;rw[d.1,d.2];refine qN (by simp[kL]) (qN (by simp[iA]) (qN rfl rfl))
 |succ k I=>
  intro J;unfold dQ;rw[I (by omega)];simp only
  rw[aA (by simp),d.2,KJ _ _ (by rw[LH];omega),LH,show 16-1-(15-k)=k by omega];have L:(pO t).getD k false=lP t k:=by
   unfold pO
   grind
  rw[L]
  cases D:lP t k with
  |false=>
   simp only[aA (show ¬(false=true) by decide)];rw[aTw t k D];have e:iA t (k+1)=iA t k:=by grind [iA,lP,iK,cR,iL,dQ,kL,dG,pO]
   rw[e]
  |true=>
   rw[aB rfl];have e:iA t (k+1)=iA t k++iK t k:=by grind [iA,lP,iK,cR,iL,dQ,kL,dG,pO]
   have M:cR s (a+16+(iA t k).length) (iK t k):=by
    obtain⟨m,O⟩:=aCq t (k+1) J;rw[O,e] at A;exact(gN (gN A).1).2
   have F:=RW M;rw[zJ] at F;rw[aA (by grind),F.2,e,aL,zJ];have R:dG (iK t k)≠0:=fun q=>by
    rw[EN] at q;have U:(iK t k).any id=true:=D
    grind
   refine qN ?_ (qN (by grind) (qN ?_ rfl))
   ·grind [kL,nJ,dG,iK,RX,cR,iL,dQ,iA,pO]
   ·grind
theorem aCr {t:List UInt8} (h:t≠[]):dG (pO t)≠0:=fun q=>by
 rw[EN] at q
 cases t with
 |nil=>exact h rfl
 |cons b r=>
  have A:dZ (b::r) b.toNat=true:=by unfold dZ;simp
  have D:=b.toNat_lt;rw[List.any_eq_false] at q;have d:lP (b::r) (b.toNat/16)∈pO (b::r):=by grind [pO,dG]
  have e:lP (b::r) (b.toNat/16)=true:=by
   unfold lP;rw[List.any_eq_true];refine⟨true,?_,rfl⟩;unfold iK;refine eK.2 ⟨b.toNat%16,qM.2 (by omega),?_⟩
   grind
  have:=q _ d;rw[e] at this;exact this rfl
theorem aTy {s:List UInt8} {a:Nat} {t:List UInt8} (d:t≠[]) (h:cR s a (iL t)):dF s (a:Int)=(bY t,((a+(iL t).length:Nat):Int),0):=by
 unfold dF;rw[aTx h 16 (aD _)]
 grind [dG,pO,aCr,iL,LH,cR,dF,bY]
theorem CC {s:List UInt8} {at':Int} {k:Nat} (h:(dQ s at' k).2.2.2≠0):∀j,dQ s at' (k+j)=dQ s at' k
 |0=>rfl
 |j+1=>by
  rw[<-fU];show(if(dQ s at' (k+j)).2.2.2≠0 then _ else _)=_;rw[CC h j,aB h]
theorem aTz {s:List UInt8} {at' n:Int} (h:(gS s at' n).2.2=0):0<=at'/\2<=n/\n<=258/\((gS s at' n).1.length:Int)=n/\(∀x∈(gS s at' n).1,1<=x/\x<=20)/\at'<(gS s at' n).2.1/\(gS s at' n).2.1<=8*(s.length:Int):=by grind [gS,EP,bC]
theorem aT0 {s:List UInt8} {at' n tables:Int} (h:(eD s at' n tables).2.2=0):2<=tables/\tables<=6/\0<=at'/\0<=n/\((eD s at' n tables).1.length:Int)=n/\(∀x∈(eD s at' n tables).1,0<=x/\x<tables)/\at'<=(eD s at' n tables).2.1/\((eD s at' n tables).2.1=at'\/(eD s at' n tables).2.1<=8*(s.length:Int)):=by
 unfold eD at h ⊢;split at h
 ·simp at h
 ·next e=>
  rw[aA e];simp only at h ⊢;split at h
  ·grind
  ·next d=>
   rw[aA d];obtain⟨I,J,A,D⟩:=BV s tables at' (by omega) (by omega) n.toNat (eB.1 d);refine⟨by omega,by omega,by omega,by omega,?_,?_,A,D⟩
   ·grind [sL,eD]
   ·intro x F;obtain⟨b,G,rfl⟩:=eK.1 F;have L:b∈cT tables.toNat:=PJ _ _ (by grind [sT,eD]) b G
    grind [RI,eD]
theorem aT1 {l:List Int} {s:List UInt8} {at':Int} (h:(dE l s at').2.2=0):bM l=0/\0<=at'/\0<=(dE l s at').1/\(dE l s at').1<(l.length:Int)/\at'<(dE l s at').2.1/\(dE l s at').2.1<=8*(s.length:Int):=by
 by_cases d:bM l≠0
 ·grind [dE,bM]
 ·have d:=eB.1 d
  by_cases D:at'<0
  ·grind [dE,bM]
  ·obtain⟨a,rfl⟩:∃a:Nat,at'=(a:Int):=⟨at'.toNat,by omega⟩
   by_cases e:∃i,i<l.length/\lA l s a i
   ·obtain⟨i,A,e⟩:=e;rw[zH d A e];have F:=lX (gE d).1 A;have:=e.1
    grind
   grind [zI,dE,bM]
theorem LI {s:List UInt8} {at' codes:Int} {k:Nat} (h:(bO s at' codes k).2.2≠0):∀j,bO s at' codes (k+j)=bO s at' codes k
 |0=>rfl
 |j+1=>by
  rw[<-fU];show(if(bO s at' codes (k+j)).2.2≠0 then _ else _)=_;rw[LI h j,aB h]
theorem aCs (s:List UInt8) (at' codes:Int):∀k,(bO s at' codes k).2.2=0->at'<=(bO s at' codes k).2.1/\(0<k->(bO s at' codes k).2.1<=8*(s.length:Int))
 |0,_=>⟨lV _,fun h=>absurd h (by omega)⟩
 |k+1,h=>by
  by_cases d:(bO s at' codes k).2.2≠0
  ·grind [LI,bO]
  ·have D:=aCs s at' codes k (eB.1 d);unfold bO at h ⊢;simp only at h ⊢;rw[aA d] at h ⊢
   by_cases e:(gS s (bO s at' codes k).2.1 codes).2.2≠0
   ·grind
   ·rw[aA e] at h ⊢
    by_cases A:bM (gS s (bO s at' codes k).2.1 codes).1≠0
    ·grind
    ·rw[aA A];have:=aTz (eB.1 e)
     grind
theorem LJ {s:List UInt8} {at':Int} {t:List (List Int)} {d:List Int} {fin:Int} {k:Nat} (h:(bZ s at' t d fin k).2.2.1≠0\/(bZ s at' t d fin k).2.2.2=true):∀j,bZ s at' t d fin (k+j)=bZ s at' t d fin k
 |0=>rfl
 |j+1=>by
  rw[<-fU];show(if(bZ s at' t d fin (k+j)).2.2.1≠0\/(bZ s at' t d fin (k+j)).2.2.2=true then _ else _)=_;rw[LJ h j,aB h]
theorem RY (s:List UInt8) (at':Int) (t:List (List Int)) (d:List Int) (fin:Int):∀k,(bZ s at' t d fin k).2.2.1=0->at'<=(bZ s at' t d fin k).2.1/\((bZ s at' t d fin k).2.1<=8*(s.length:Int)\/((bZ s at' t d fin k).2.1=at'/\(bZ s at' t d fin k).1=[]))/\((bZ s at' t d fin k).1.length:Int)<=(bZ s at' t d fin k).2.1-at'/\∀x∈(bZ s at' t d fin k).1,0<=x/\∃l∈t,x<(l.length:Int)
 |0,_=>⟨lV _,.inr ⟨rfl,rfl⟩,by simp[bZ],fun x G=>by grind [bZ]⟩
 |k+1,h=>by
  by_cases e:(bZ s at' t d fin k).2.2.1≠0\/(bZ s at' t d fin k).2.2.2=true
  ·rw[LJ e 1] at h ⊢;have A:=RY s at' t d fin k h;exact A
  ·have F:(bZ s at' t d fin k).2.2.1=0:=eB.1 (fun q=>e (.inl q));have A:=RY s at' t d fin k F;unfold bZ at h ⊢;simp only at h ⊢;rw[aA e] at h ⊢
   by_cases D:(dE (t.getD (d.getD (k/10) 0).toNat []) s (bZ s at' t d fin k).2.1).2.2≠0
   ·grind
   ·rw[aA D] at h ⊢;have I:=aT1 (eB.1 D)
    grind
theorem RZ {s:List UInt8} {at' codes:Int} (h:(dW s at' codes).2.2=0):0<=at'/\2<=codes/\codes<=258/\(∀x∈(dW s at' codes).1,0<=x/\x<codes)/\((dW s at' codes).1.length:Int)<=8*(s.length:Int)/\at'<(dW s at' codes).2.1/\(dW s at' codes).2.1<=8*(s.length:Int):=by
 unfold dW at h ⊢
 by_cases F:aP s.length at' 3≠0
 ·grind
 ·rw[aA F] at h ⊢;have O:=iG (eB.1 F)
  by_cases R:aK s at' 3<2\/6<aK s at' 3
  ·grind
  ·rw[aA R] at h ⊢
   by_cases U:aP s.length (at'+3) 15≠0
   ·grind
   ·rw[aA U] at h ⊢;have a0:=jV s (at'+3) 15
    by_cases V:aK s (at'+3) 15=0
    ·grind
    ·rw[aA V] at h ⊢;simp only at h ⊢;generalize hn:aK s at' 3=n at*
     generalize hm:aK s (at'+3) 15=m at*
     by_cases A:(eD s (at'+18) m n).2.2≠0
     ·rw[aB A] at h;exact absurd h A
     ·rw[aA A] at h ⊢;have a1:=aT0 (eB.1 A);generalize eD s (at'+18) m n=c at*
      by_cases e:(bO s c.2.1 codes n).2.2≠0
      ·rw[aB e] at h;exact absurd h e
      ·rw[aA e] at h ⊢;have G:=LE s c.2.1 codes n (eB.1 e);have I:=aCs s c.2.1 codes n (eB.1 e);have J:2<=codes/\codes<=258:=by
        have Y:0<(bO s c.2.1 codes n).1.length:=by omega
        have:=G.2 _ (kK Y);have L:=(gE this.1).1;have h4:=L.1;have h5:=L.2.1;omega
       generalize bO s c.2.1 codes n=t at*
       unfold jW at h ⊢;simp only at h ⊢;have d:=RY s t.2.1 t.1 c.1 (codes-1) (10*c.1.length);generalize bZ s t.2.1 t.1 c.1 (codes-1) (10*c.1.length)=p at*
       by_cases D:p.2.2.1≠0
       ·rw[aB D] at h;exact absurd h D
       ·rw[aA D] at h ⊢;have d:=d (eB.1 D)
        by_cases M:p.2.2.2=true
        ·rw[aB M];refine⟨O.1,J.1,J.2,fun x Z=>?_,?_,?_,?_⟩
         ·obtain⟨k1,l,k2,k3⟩:=d.2.2.2 x Z;have:=(G.2 l k2).2;exact⟨k1,by omega⟩
         ·show(p.1.length:Int)<=8*(s.length:Int);have:=d.2.2.1;have:=I.2 (by omega);rcases d.2.1 with k|k<;>omega
         ·show at'<p.2.1;omega
         ·show p.2.1<=_;have:=I.2 (by omega);rcases d.2.1 with k|k<;>omega
        ·rw[aA M] at h;simp at h
theorem aUc (l:List Bool) (i:Nat) (h:i<l.length):(eR (aI l))[i]? =l[i]? :=by
 rw[wA,aB (by rw[iJ];omega),tR,bV,aN h];rfl
theorem aUd (x l y:List Bool):seg (aI (x++l++y)) x.length l.length=l:=by
 apply lH;intro i;unfold seg;rw[pD,jR]
 by_cases d:i<l.length
 ·rw[aB d,aUc _ _ (by simp;omega),List.getElem?_append_left (by simp;omega),List.getElem?_append_right (by omega),show x.length+i-x.length=i by omega]
 ·rw[aA d,fZ (by omega)]
theorem aUe (x l y:List Bool):cR (aI (x++l++y)) x.length l:=
 ⟨by rw[iJ];simp;omega,aUd x l y⟩
theorem ES (l:List Bool):cR (aI l) 0 l:=by
 have:=aUe [] l []
 simpa using this
theorem LK {s:List UInt8} {a:Nat} {l:List Bool} (h:cR s a l) {i:Nat} (d:i<l.length):dO s (a+i)=l.getD i false:=by
 obtain⟨D,A⟩:=h;have e:(seg s a l.length)[i]? =l[i]? :=by rw[A]
 unfold seg at e;rw[pD,aB d,jR,wA,aB (by omega),aN d] at e;rw[bV,aN d]
 injection e
theorem SD:∀(t:HT) (d:Nat),d+t.high<=20->((t.deep d).map (fun q=>2^(20-q.2))).sum=2^(20-d)
 |.leaf _,d,_=>by simp[HT.deep]
 |.node _ l r,d,h=>by
  unfold HT.high at h;unfold HT.deep;rw[List.map_append,List.sum_append,SD l (d+1) (by omega),SD r (d+1) (by omega),show 20-d=(20-(d+1))+1 by omega,oP];omega
theorem aUh {l m:List Nat} (h:l.Perm m):l.sum=m.sum:=by grind
theorem aUi (d:List Int) (h:2<=d.length) (L:∀x∈d,1<=x) (Z:d.sum<28657):kZ (nK d)=1048576:=by
 obtain⟨p,M,hr⟩:=LA d h;have F:=mT.all d (d.length-1) (by omega);have G:=tT.all d (d.length-1) (by omega);obtain⟨I,O⟩:=wE.all d L (d.length-1) (by omega);rw[M] at F G I O;have A:p∈[p]:=List.mem_singleton.2 rfl;have hw:=HT.wt_high p.2 (I.even p A);have a0:=I.wt p A;have a1:p.1=d.sum:=by grind
 have hh:p.2.high<=20:=by
  rcases Nat.lt_or_ge 20 p.2.high with k|k
  ·have:=aB7 (show 21<=p.2.high from k);have e:oE 21=28657:=by decide
   omega
  ·exact k
 have R:p.2.leaves.Nodup:=HT.leaves_nodup _ (by have:=F.nodup;simpa using this);have U:p.2.leaves.Perm (eT d.length):=by
  rw[List.perm_ext_iff_of_nodup R List.nodup_range];intro j;rw[qM];constructor
  ·intro D;rw[<-HT.deep_map p.2 0] at D;obtain⟨q,J,rfl⟩:=eK.1 D;exact(G.2 p A q J).1
  ·intro D;obtain⟨p',a2,a3⟩:=F.leaves j D
   grind
 have a4:(nK d).length=d.length:=wD _ _;have V:(nK d).map (fun x=>2^(20-x.toNat))=(eT d.length).map (fun j=>2^(20-((nK d).getD j 0).toNat)):=by
  apply lH
  grind
 unfold kZ;rw[V,<-aUh (U.map _),<-HT.deep_map p.2 0,yL];have Y:(p.2.deep 0).map ((fun j=>2^(20-((nK d).getD j 0).toNat)) ∘ fun q=>q.1)=(p.2.deep 0).map (fun q=>2^(20-q.2)):=by
  apply vH;intro q J;have:=(G.2 p A q J).2
  grind [jO,kZ,nK]
 rw[Y,SD p.2 0 (by omega)]
theorem xR {m:List Int} {n which:Nat} (e:2<=n) (A:n<=258) (h:∀x∈m,0<=x/\x<(n:Int)) (D:m.length<=20000):bM (eN m n which)=0:=by
 have F:=BZ m n which h m.length (aD _);have G:=xO m n which m.length;have I:=LB (mW m n which) (fun x d=>(F.2.2 x d).1);refine aSw (wF e A h D).1 (Nat.le_of_eq ?_);refine aUi _ (by grind [mW,bM,eN]) (fun x d=>?_) ?_
 ·grind
 grind [mW,bM,eN]
def mY (d e A m:List Int):Nat->List Bool
 |0=>[]
 |k+1=>mY d e A m k++aT (gZ (if A.getD (k/10) 0=0 then d else e) (m.getD k 0).toNat) (bL (if A.getD (k/10) 0=0 then d else e) (m.getD k 0).toNat)
theorem aC2 (d A D m:List Int) (i:Nat):∀j,j<=10->10*i+j<=m.length->mY d A D m (10*i+j)=mY d A D m (10*i)++gF (if D.getD i 0=0 then d else A) (((m.drop (10*i)).take 10).take j)
 |0,_,_=>by simp[gF]
 |j+1,h,F=>by
  have e:((m.drop (10*i)).take 10).take (j+1)=((m.drop (10*i)).take 10).take j++[m.getD (10*i+j) 0]:=by
   rw[cG]
   grind
  rw[e,aCc,<-bU,<-aC2 d A D m i j (by omega) (by omega),<-fU]
  grind [mY,gF]
theorem aC3 (e A d m:List Int) (D:d.length=(m.length+9)/10):∀i,i<=(m.length+9)/10->iB e A (d.take i) ((dA m).take i)=mY e A d m (min (10*i) m.length)
 |0,_=>by simp[iB,mY]
 |i+1,h=>by
  have F:d.take (i+1)=d.take i++[d.getD i 0]:=by grind [cG,aN,iB,dA,mY]
  have G:(dA m).take (i+1)=(dA m).take i++[(m.drop (10*i)).take 10]:=by
   rw[cG,BY m i (by omega)];rfl
  rw[F,G,RV _ _ _ _ _ _ (by grind [kR,iB,dA,mY]),aC3 e A d m D i (by omega),show min (10*i) m.length=10*i by omega];have I:=aC2 e A d m i (min 10 (m.length-10*i)) (by omega) (by omega)
  grind
theorem aC4 (e A d m:List Int) (D:d.length=(m.length+9)/10):iB e A d (dA m)=mY e A d m m.length:=by
 have:=aC3 e A d m D ((m.length+9)/10) (aD _)
 grind [kR,iB,dA,mY]
theorem aC5 (d e A m:List Int) (k:Nat):∀j,∃r,mY d e A m (k+j)=mY d e A m k++r
 |0=>⟨[],by simp⟩
 |j+1=>by
  obtain⟨r,D⟩:=aC5 d e A m k j
  grind [aT,gZ,bL,mY]
theorem aUj {s:List UInt8} {a:Nat} {e A d m:List Int} {n:Nat} (h0:bM e=0) (h1:bM A=0) (l0:e.length=n) (l1:A.length=n) (I:d.length=(m.length+9)/10) (hc:∀x∈d,x=0\/x=1)
  (J:∀x∈m,0<=x/\x<(n:Int)) (a0:0<m.length) (a1:m[m.length-1]? =some ((n:Int)-1)) (L:∀x∈m.take (m.length-1),x<(n:Int)-1)
  (h:cR s a (iB e A d (dA m))):∀k,k<=m.length->
   bZ s (a:Int) [e,A] d ((n:Int)-1) k=(m.take k,((a+(mY e A d m k).length:Nat):Int),0,decide (k=m.length)):=by
 rw[aC4 e A d m I] at h;intro k
 induction k with
 |zero=>
  intro _;unfold bZ;rw[aE (by omega)];simp[mY]
 |succ k D=>
  intro hk;have D:=D (by omega);rw[aE (by omega)] at D;obtain⟨r,F⟩:=aC5 e A d m (k+1) (m.length-(k+1));rw[show k+1+(m.length-(k+1))=m.length by omega] at F;rw[F] at h;have G:=(gN (gN h).1).2;have hx:=J m[k] (kK (by omega));have M:m.getD k 0=m[k]:=by grind
  have O:m.take (k+1)=m.take k++[m[k]]:=by simp
  have a2:d.getD (k/10) 0=0\/d.getD (k/10) 0=1:=by grind [aN,kK,bM,cR,iB,dA,bZ,mY]
  have R:[e,A].getD (d.getD (k/10) 0).toNat []=if d.getD (k/10) 0=0 then e else A:=by grind
  have U:bM (if d.getD (k/10) 0=0 then e else A)=0:=by grind
  have a3:(if d.getD (k/10) 0=0 then e else A).length=n:=by grind
  have V:(mY e A d m (k+1)).length=(mY e A d m k).length+bL (if d.getD (k/10) 0=0 then e else A) (m.getD k 0).toNat:=by simp[mY,aT,dV,bM,cR,iB,dA,bZ]
  rw[V];generalize (if d.getD (k/10) 0=0 then e else A)=tb at*
  rw[M] at G ⊢;have Y:=aTu U (i:=m[k].toNat) (by omega) G;unfold bZ;rw[D];simp only
  rw[aA (by simp),R,Y];simp only
  rw[aA (by simp)];have Z:((m[k].toNat:Nat):Int)=m[k]:=by omega
  rw[Z,O]
  by_cases a4:k+1=m.length
  ·grind
  ·have hl:m[k]<(n:Int)-1:=L _ (by
    refine List.mem_iff_getElem.2 ⟨k,by grind,?_⟩;simp)
   grind
theorem aC6 {s:List UInt8} {at':Int} {t:List (List Int)} {d:List Int} {fin:Int} {k:Nat} (h:(bZ s at' t d fin k).2.2.2=true):∀j,bZ s at' t d fin (k+j)=bZ s at' t d fin k
 |0=>rfl
 |j+1=>by
  rw[<-fU];show(if(bZ s at' t d fin (k+j)).2.2.1≠0\/(bZ s at' t d fin (k+j)).2.2.2=true then _ else _)=_;rw[aC6 h j,aB (.inr h)]
theorem aUk (d:List Int) (D:∀x∈d,x=0\/x=1):(∀x∈fJ d,0<=x/\x<2)/\(unL (cT 2) (fJ d)).map (fun b=>(b.toNat:Int))=d:=by
 have A:∀b∈d.map (fun c=>eA c.toNat),b∈cT 2:=fun b F=>by grind [RI,fJ,unL,cT]
 constructor
 ·intro x e;have:=BH _ _ A x e;rw[sT] at this;exact this
 ·unfold fJ;rw[YN _ _ A,yL]
  conv=>rhs;rw[<-List.map_id d]
  apply vH;intro x e;rcases D x e with rfl|rfl<;>rfl
theorem aUl {s:List UInt8} {a n:Nat} {m:List Int} (F:2<=n) (G:n<=258) (D:∀x∈m,0<=x/\x<(n:Int)) (I:m.length<=20000) (a1:0<m.length) (a2:m[m.length-1]? =some ((n:Int)-1)) (a3:∀x∈m.take (m.length-1),x<(n:Int)-1)
  (h:cR s a (wJ m n)):dW s (a:Int) (n:Int)=(m,((a+(wJ m n).length:Nat):Int),0):=by
 have R:=LC m n;have J:=CA m n;obtain⟨a4,a9⟩:=aUk (dS m n) R;have k0:=xR F G D I (which:=0);have k1:=xR F G D I (which:=1);have L:=wF F G D I (which:=0);have M:=wF F G D I (which:=1);have a5:(wJ m n).length=3+15+(eW (fJ (dS m n))).length+(fI (eN m n 0)).length+(fI (eN m n 1)).length+(iB (eN m n 0) (eN m n 1) (dS m n) (dA m)).length:=by grind [wJ,dV,cR,dW]
 rw[a5];unfold wJ at h;obtain⟨h,U⟩:=gN h;obtain⟨h,V⟩:=gN h;obtain⟨h,Y⟩:=gN h;obtain⟨h,Z⟩:=gN h;obtain⟨s1,s2⟩:=gN h;simp only[aL,dV] at s2 Z Y V U;obtain⟨e1,v1⟩:=qY s1 (by decide);obtain⟨e2,v2⟩:=qY s2 (by rw[J];omega);have a6:(fJ (dS m n)).length=(dS m n).length:=by unfold fJ;rw[vQ,aS]
 have e3:=aTt (tables:=2) a4 Z (fJ (dS m n)).length (aD _);rw[jS,a6] at e3;have e4:=aCn L.1 Y;have e5:=aCn M.1 V;rw[L.2] at e4;rw[M.2] at e5;rw[show((a+3:Nat):Int)=(a:Int)+3 by omega] at e2 v2;have O:=aUj k0 k1 L.2 M.2 J R D a1 a2 a3 U m.length (aD _);rw[aG rfl] at O;have a0:=aC6 (by rw[O]) (10*(dS m n).length-m.length);rw[show m.length+(10*(dS m n).length-m.length)=10*(dS m n).length by omega,O] at a0;generalize b0:dS m n=d at*
 generalize eN m n 0=e at*
 generalize eN m n 1=A at*
 unfold dW;rw[aA (by rw[e1];simp),v1,aA (by omega),aA (by rw[e2];simp),v2,aA (by omega)];have a7:eD s ((a:Int)+18) ((d.length:Nat):Int) ((2:Nat):Int)=(d,((a+18+(eW (fJ d)).length:Nat):Int),0):=by
  unfold eD
  grind
 rw[a7];simp only
 rw[aA (by simp)];have a8:bO s ((a+18+(eW (fJ d)).length:Nat):Int) (n:Int) 2=([e,A],((a+18+(eW (fJ d)).length+(fI e).length+(fI A).length:Nat):Int),0):=by grind [eW,fJ,fI,bO,cR,wJ,dW]
 rw[a8];simp only
 rw[aA (by simp)];unfold jW;have ec:a+18+(eW (fJ d)).length+(fI e).length+(fI A).length=a+(3+15+(eW (fJ d)).length+(fI e).length+(fI A).length):=by omega
 rw[ec,a0];simp only
 rw[aA (by simp),aB trivial,jS];rw[aC4 e A d m J];refine qN rfl (qN ?_ rfl);show((a+(3+15+(eW (fJ d)).length+(fI e).length+(fI A).length)+(mY e A d m m.length).length:Nat):Int)=_
 congr 1
 omega
end
section
open Go.RowKit Go
theorem CG (a b:BitVec 32):bits .xor .u32 (a.toNat:Int) (b.toNat:Int)=((a^^^b).toNat:Int):=by
 rw[u32_xor_nat _ _ a.isLt b.isLt,BitVec.toNat_xor]
theorem SZ (a:BitVec 32):sH.wrap ((a.toNat:Int)*2)=((a<<<1).toNat:Int):=by
 rw[aL4,IR,IS];omega
theorem aWk (a:BitVec 32):sH.wrap ((a.toNat:Int)*256)=((a<<<8).toNat:Int):=by
 rw[aL4,IR,IS];omega
theorem aWl (a:Nat) (_h:a<256):sH.wrap ((a:Int)*16777216)=((BitVec.ofNat 32 a<<<24).toNat:Int):=by
 rw[aL4,IR,IS,BitVec.toNat_ofNat];omega
theorem aWm (a:BitVec 32):(a.toNat:Int)/16777216=((a>>>24).toNat:Int):=by
 rw[BitVec.toNat_ushiftRight,Nat.shiftRight_eq_div_pow];omega
theorem aEl (a:BitVec 32):(a.toNat:Int)/2147483648=(a.msb.toNat:Int):=by
 rw[BitVec.msb_eq_decide];have:=a.isLt
 by_cases h:2^(32-1)<=a.toNat
 ·grind
 grind
theorem aWn (a:BitVec 32):bits .and .u32 (a.toNat:Int) 2147483648=if a.msb then 2147483648 else 0:=by
 rw[show(2147483648:Int)=((2147483648:Nat):Int) from rfl,u32_and_nat _ _ a.isLt (by decide),show(2147483648:Nat)=2^31 from rfl,Go.nat_bit 31 a.toNat]
 grind [aEl]
end
section
def bP (s:List UInt8):Nat:=s.foldl (fun v b=>v*256+b.toNat) 0
theorem VP:∀(s:List UInt8) (v:Nat),s.foldl (fun v b=>v*256+b.toNat) v=v*256^s.length+bP s
 |[],v=>by simp[bP]
 |b::s,v=>by
  have d:=VP s (v*256+b.toNat);have e:=VP s (0*256+b.toNat)
  grind [bP]
theorem NJ (b:UInt8) (s:List UInt8):bP (b::s)=b.toNat*256^s.length+bP s:=by grind [VP,bP]
theorem VQ:∀s:List UInt8,bP s<256^s.length
 |[]=>by simp[bP]
 |b::s=>by
  have d:=VQ s;have e:=b.toNat_lt;rw[NJ,aU,oP];have A:b.toNat*256^s.length+256^s.length<=256^s.length*256:=by
   rw[<-Nat.succ_mul,pE];exact Nat.mul_le_mul_left _ (by omega)
  omega
def qJ (s:List UInt8):Ent:=⟨bP (s.take 8),bP ((s.drop 8).take 2),bP ((s.drop 10).take 8),bP ((s.drop 18).take 4),bP ((s.drop 22).take 4)⟩
def jC:Nat->List UInt8->List Ent
 |0,_=>[]
 |n+1,s=>qJ s::jC n (s.drop 26)
theorem VT:∀(n:Nat) (s:List UInt8),(jC n s).length=n
 |0,_=>rfl
 |n+1,s=>by simp[jC,VT]
def dX (s:List UInt8):List Ent×Nat×Nat×Int:=
 if s.length<20 then([],0,0,2)
 else if s.take 4≠[80,77,105,49]\/9223372036854775808<=bP ((s.drop 4).take 8) then([],0,0,3)
 else if s.length<20+26*bP ((s.drop 16).take 4) then([],0,0,2)
 else if 20+26*bP ((s.drop 16).take 4)<s.length then([],0,0,3)
 else if ¬((∀x∈jC (bP ((s.drop 16).take 4)) (s.drop 20),x.a<9223372036854775808/\x.f<9223372036854775808)/\jA (jC (bP ((s.drop 16).take 4)) (s.drop 20))) then([],0,0,3)
 else(jC (bP ((s.drop 16).take 4)) (s.drop 20),bP ((s.drop 4).take 8),bP ((s.drop 12).take 4),0)
def ahd (a b:Int×Int):Prop:=a.1<b.1\/(a.1=b.1/\a.2<b.2)
instance (a b:Int×Int):Decidable (ahd a b):=inferInstanceAs (Decidable (_\/_))
def oG (l:List (Int×Int)):Prop:=∀j,0<j->j<l.length->¬ahd (l.getD j (0,0)) (l.getD ((j-1)/2) (0,0))
def pS (l:List (Int×Int)) (i:Nat):Prop:=(∀j,0<j->j<l.length->j≠i->¬ahd (l.getD j (0,0)) (l.getD ((j-1)/2) (0,0)))/\
 (0<i->∀j,0<j->j<l.length->(j-1)/2=i->¬ahd (l.getD j (0,0)) (l.getD ((i-1)/2) (0,0)))
theorem pS.top {l:List (Int×Int)} (h:pS l 0):oG l:=by grind [pS,oG]
def rT (r:cE):List (Int×Int):=r.map (fun p=>(p.1,(p.2.root:Int)))
def lnP (n:Nat):Nat:=if n<4 then n else 5
def lnL (s:List UInt8):Nat:=(bT s).length
theorem UQ:lnL []=0:=rfl
theorem UR {a b:Nat} (h:a<=b):lnP a<=lnP b:=by grind [lnP]
theorem MZ {s:List UInt8} (h:s≠[]):lnL s=lnP (bF s)+lnL (s.drop (bF s)):=by grind [mH,lnL,CB,RR,lnP,bF]
theorem bB2 {s:List UInt8} (h:s≠[]) {k:Nat} (e:1<=k) (A:k<=s.length):bF (s.take k)=min k (bF s):=by
 obtain⟨c,r,rfl⟩:=List.exists_cons_of_ne_nil h;have D:=mH (c::r) h;obtain⟨F,G⟩:=RU (s:=c::r) (c:=c) rfl;generalize I:bF (c::r)=n at*
 have J:∀j,j<n->(c::r)[j]? =some c:=fun j d=>by
  have:((c::r).take n)[j]? =some c:=by grind
  grind
 have L:((c::r).take k).length=k:=by grind
 have M:((c::r).take k)[0]? =some c:=by grind
 refine zL (by omega) (by omega) (fun j d=>?_) ?_
 ·grind
 grind [List.head?_drop,bF]
theorem AB {s:List UInt8} (h:s≠[]) {k:Nat} (d:k<=s.length):lnL (s.take k)=if k<=bF s then lnP k else lnP (bF s)+lnL ((s.drop (bF s)).take (k-bF s)):=by
 have G:=mH s h
 by_cases A:k=0
 ·subst A;rw[aB (aO _)];rfl
 ·have D:s.take k≠[]:=fun e=>by
   have:=congrArg nU e;have:=gG.2 h;rw[aQ,aV] at*
   omega
  have F:=bB2 h (by omega) d;rw[MZ D,F];split
  ·grind [bF,UQ,lnL,lnP]
  grind [bF,List.drop_take,lnL,lnP]
theorem aIr:∀(n:Nat) (s:List UInt8),s.length<=n->∀k,k+1<=s.length->lnL (s.take k)<=lnL (s.take (k+1))
 |0,s,F,k,A=>by omega
 |n+1,s,F,k,A=>by
  have d:s≠[]:=fun e=>by grind
  have I:=mH s d;rw[AB d (by omega),AB d A]
  by_cases D:k+1<=bF s
  ·rw[aB (by omega),aB D];exact UR (by omega)
  ·rw[aA D]
   by_cases G:k<=bF s
   ·grind
   ·rw[aA G,show k+1-bF s=(k-bF s)+1 by omega];have:=aIr n (s.drop (bF s)) (by grind) (k-bF s) (by grind);omega
theorem AC (s:List UInt8) (k:Nat):∀d,k+d<=s.length->lnL (s.take k)<=lnL (s.take (k+d))
 |0,_=>aD _
 |d+1,h=>Nat.le_trans (AC s k d (by omega)) (aIr s.length s (aD _) (k+d) (by omega))
def AD:Nat->List UInt8->Nat->Nat
 |0,_,_=>0
 |f+1,s,room=>
  if s=[] then 0
  else if lnP (bF s)<=room then bF s+AD f (s.drop (bF s)) (room-lnP (bF s))
  else min (min room 3) (bF s)
def cJ (s:List UInt8) (room:Nat):Nat:=AD s.length s room
def FY (s:List UInt8) (room k:Nat):Prop:=k<=s.length/\lnL (s.take k)<=room/\(k<s.length->room<lnL (s.take (k+1)))
theorem US:∀(f:Nat) (s:List UInt8) (room:Nat),s.length<=f->FY s room (AD f s room)
 |0,s,room,d=>by
  have:s=[]:=List.length_eq_zero_iff.1 (by omega);subst this;exact⟨aD _,aO _,fun h=>absurd h (by simp)⟩
 |f+1,s,room,d=>by
  unfold AD
  by_cases h:s=[]
  ·subst h;exact⟨aD _,aO _,fun h=>absurd h (by simp)⟩
  rw[aA h];have D:=mH s h
  by_cases q:lnP (bF s)<=room
  ·rw[aB q];obtain⟨e,F,A⟩:=US f (s.drop (bF s)) (room-lnP (bF s)) (by grind);rw[List.length_drop] at e A;generalize AD f (s.drop (bF s)) (room-lnP (bF s))=k at*
   grind [AB,bF,FY,AD]
  ·rw[aA q];have G:lnP (bF s)=if bF s<4 then bF s else 5:=rfl
   grind [bF,AB,lnP,FY,AD]
theorem pT (s:List UInt8) (room:Nat):FY s room (cJ s room):=US _ s room (aD _)
theorem AE {s:List UInt8} {room:Nat} (h:s≠[]) (A:1<=room):1<=cJ s room:=by
 have d:=pT s room;have D:=gG.2 h;refine Nat.pos_of_ne_zero fun e=>?_
 have:=d.2.2 (by omega)
 grind [AB,mH,lnP,cJ]
end
end Go.Proofs.YtfckbfofgeilgaaGreatDoor
