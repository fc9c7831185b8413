/-
  Texts put together (part 21): the walks and the plain laws on which the statement stands.
-/
import Derived.Test.YtfckbfofgeilgaaGreatDoorZ19
set_option maxRecDepth 100000
set_option maxHeartbeats 12800000
set_option linter.unusedVariables false
set_option linter.unusedSimpArgs false
open Go.Proofs.Tryz
open Go.Proofs.Tryz renaming prog->pG
open BitVec renaming ofInt->OQ
open Decidable renaming not_not->eB
open Int renaming le_refl->lV,le_trans->XE,toNat_natCast->fL
open List renaming append_assoc->bU,append_nil->dI,length_append->aL,length_pos_iff->gG,length_singleton->fQ,mem_append->dK,mem_cons_of_mem->iQ,mem_cons_self->jK,nil_append->eL,replicate->aX,take_add_one->cG,take_left'->rH
open Nat renaming add_assoc->fU,add_sub_cancel->oR,add_zero->pV,le_refl->aD,lt_or_ge->cF,mod_lt->kU
open UInt8 renaming ofNat->eA
namespace Go.Proofs.YtfckbfofgeilgaaGreatDoor
section
theorem aUm (s:List UInt8):∀j,j<s.length->∀i,i<j->(s.getD (nxt s i) 0).toNat<(s.getD (nxt s j) 0).toNat\/((s.getD (nxt s i) 0).toNat=(s.getD (nxt s j) 0).toNat/\nxt s i<nxt s j):=by
 intro j
 induction j with
 |zero=>intro _ i e;omega
 |succ j A=>
  intro D i e;obtain⟨F,d⟩:=aNu s j D;rcases cF i j with p|p
  ·rcases A (by omega) i p with q|⟨q,G⟩
   ·exact .inl (by omega)
   ·rcases cF (s.getD (nxt s j) 0).toNat (s.getD (nxt s (j+1)) 0).toNat with t|t
    ·exact .inl (by omega)
    ·have:=d (by omega);exact .inr ⟨by omega,by omega⟩
  ·have:i=j:=by omega
   subst this;rcases cF (s.getD (nxt s i) 0).toNat (s.getD (nxt s (i+1)) 0).toNat with t|t
   ·exact .inl t
   ·exact .inr ⟨by omega,d (by omega)⟩
theorem aC7 {c:Nat->Nat} {n:Nat} (d:Cyc c n) (e:0<n) {x y:Nat} (h:eqm c n x y) (t:Nat):c (x+t)=c (y+t):=
 (d.all e (m:=n+t+1) (by omega)).1.2 h t (by omega)
theorem aC8 {c:Nat->Nat} {n:Nat} (d:Cyc c n) (e:0<n) {x y:Nat} (h:eqm c n x y) (k:Nat):eqm c n (x+k) (y+k):=fun t _=>by
 rw[fU,fU];exact aC7 d e h _
theorem SE {c:Nat->Nat} {n:Nat} (d:Cyc c n) (x:Nat):eqm c n (x+n) x:=fun t _=>by
 rw[show x+n+t=x+t+n by omega,d]
section
variable {s:ByteArray} {o:Nat->Int}
theorem SF (_h:Ord (cQ s) s.size s.size o) {i:Nat} (d:i<s.size):((eM s o s.size).getD i 0).toNat=cQ s ((o i).toNat+(s.size-1)):=by
 obtain⟨b,e,A⟩:=aSd s o s.size d;rw[List.getD,e];exact A
theorem aUn (h:Ord (cQ s) s.size s.size o):∀i,i<s.size->eqm (cQ s) s.size ((o (nxt (eM s o s.size) i)).toNat+(s.size-1)) (o i).toNat:=by
 have F:=xI s;have V:=xJ s o s.size;have D:∀{i},i<s.size->nxt (eM s o s.size) i<s.size:=fun{i} d=>by have:=JR (eM s o s.size) i (by omega);omega
 intro i d;rw[<-F.eqm,Nat.mod_eq_of_lt (h.nat d).2];refine aSa (a:=fun i=>((o (nxt (eM s o s.size) i)).toNat+(s.size-1))%s.size) (b:=fun i=>(o i).toNat) (N:=s.size) ?_ (fun i j d A e=>h.inj d A e) ?_ ?_ ?_ (fun i j G A=>h.weak G A) i d
 ·intro i j d A e;have I:=aSb (h.nat (D d)).2 (h.nat (D A)).2 e;exact aNi _ i j (by omega) (by omega) (h.inj (D d) (D A) I)
 ·intro i d;obtain⟨x,L,e⟩:=aSc (k:=s.size-1) (h.nat d).2;obtain⟨j,A,M⟩:=h.onto L;have Y:=ZD (eM s o s.size) j (by omega);refine⟨kX (eM s o s.size) j,by omega,?_⟩;rw[aNh _ j (by omega),M,fL,e]
 ·intro i d;obtain⟨j,A,e⟩:=h.onto (y:=((o (nxt (eM s o s.size) i)).toNat+(s.size-1))%s.size) (kU _ (by omega));exact⟨j,A,by rw[e,fL]⟩
 ·intro i j G A;have O:0<s.size:=by omega
  have d:i<s.size:=by omega
  have v:=aUm (eM s o s.size) j (by omega) i G;rw[SF h (D d),SF h (D A)] at v;have Z:=h.nat (D d);have bj:=h.nat (D A);rw[F.ltm,<-(F.all O (m:=1+s.size) (by omega)).2,ZJ];rintro(⟨t,t1,_,R⟩|⟨t,J⟩)
  ·have:t=0:=by omega
   subst this;simp only[pV] at R;omega
  ·have I:=t 0 (by omega);simp only[pV] at I;rcases v with v|⟨_,v⟩
   ·omega
   ·rw[show(o (nxt (eM s o s.size) j)).toNat+(s.size-1)+1=(o (nxt (eM s o s.size) j)).toNat+s.size by omega,
     show(o (nxt (eM s o s.size) i)).toNat+(s.size-1)+1=(o (nxt (eM s o s.size) i)).toNat+s.size by omega] at J
    have U:=((SE F _).symm.ltm J).eqm (SE F _);exact h.weak v (D A) U
theorem aUo (h:Ord (cQ s) s.size s.size o) {i:Nat} (e:i<s.size):eqm (cQ s) s.size (o (nxt (eM s o s.size) i)).toNat ((o i).toNat+1):=by
 have d:=xI s;have A:0<s.size:=by omega
 have:=aC8 d A (aUn h i e) 1;rw[show(o (nxt (eM s o s.size) i)).toNat+(s.size-1)+1=(o (nxt (eM s o s.size) i)).toNat+s.size by omega] at this;exact(SE d _).symm.trans this
theorem aUp (h:Ord (cQ s) s.size s.size o) {k:Nat} (D:k<s.size):∀j,eqm (cQ s) s.size (o (nI (eM s o s.size) j k)).toNat ((o k).toNat+j):=by
 have d:=xI s;have e:0<s.size:=by omega
 have F:=xJ s o s.size;intro j
 induction j with
 |zero=>exact eqm.refl _ _
 |succ j A=>
  have G:=xG (eM s o s.size) k (by omega) j;exact(aUo h (by omega)).trans (aC8 d e A 1)
theorem aUq (h:Ord (cQ s) s.size s.size o) {k:Nat} (d:k<s.size):qR (eM s o s.size) k=rot s (o k).toNat:=by
 have e:=xJ s o s.size;have D:=(h.nat d).2;have F:0<s.size:=by omega
 refine aSe (by rw[JS,EE _ _ (by omega),e]) (fun i A=>?_);rw[JS,e] at A;obtain⟨b,G,I⟩:=EF s D A;refine⟨_,b,aNs _ _ _ (by omega),G,?_⟩;have J:=xG (eM s o s.size) k (by omega) (i+1);rw[SF h (by omega),I,aC7 (xI s) F (aUp h d (i+1)) (s.size-1),show(o k).toNat+(i+1)+(s.size-1)=(o k).toNat+i+s.size by omega,xI s]
end
end
section
open Go.RowKit
theorem aC9 {s:ByteArray} (d:0<s.size):s.data.toList≠[]:=fun e=>by
 have:s.data.toList.length=s.size:=by simp
 grind
theorem aUr {s:ByteArray} (d:0<s.size):1<=(bY s.data.toList).length:=by grind [JF,aC9,bY]
theorem ET {s:ByteArray} (d:0<s.size):sqA s=mkS (bY s.data.toList):=aA (by omega)
theorem LM {s:ByteArray} (d:0<s.size):sqO s=((gX (oOf s) s.size:Nat):Int):=aA (by omega)
theorem SG {s:ByteArray} (d:0<s.size):sqS s=dM 0 (dL (bY s.data.toList) (sR s))++[((bY s.data.toList).length:Int)+1]:=aA (by omega)
theorem aDa {s:ByteArray} (d:0<s.size):sqE s=0:=aA (by omega)
theorem aUs {s:ByteArray} (d:0<s.size):(sqA s).size=(bY s.data.toList).length:=by rw[ET d,cS]
theorem aDb {s:ByteArray} (d:0<s.size):(sqA s).data.toList≠[]/\bY (sqA s).data.toList=(sqA s).data.toList:=by grind [ET,dP,JF,aC9,YK,sqA,bY]
theorem aDc {s:ByteArray} (e:0<s.size) (d:iZ s):∀y∈dM 0 (dL (bY s.data.toList) (sR s)),0<=y/\y<((bY s.data.toList).length:Int)+1:=fun y A=>by
 have D:=aBm d
 grind [aUr,aMf,iZ,dM,dL,bY,sR]
theorem aDd {s:ByteArray} (d:0<s.size) (A:iZ s):jU (sqS s) (((sqA s).size:Int)+1):=by
 rw[SG d,aUs d];refine⟨by simp,by simp,fun x e=>?_⟩;rw[aL,fQ,oR,rH] at e
 ·exact aDc d A x e
 ·rfl
theorem aDe {s:ByteArray} (d:0<s.size) (e:iZ s):dD (sqS s)=dL (bY s.data.toList) (sR s):=by
 unfold dD;rw[SG d,aL,fQ,oR,rH rfl,aMe _ _ (fun x A=>(aBm e x A).1)];simp
theorem SH {s:ByteArray} (d:0<s.size) (e:iZ s):(dD (sqS s)).length=s.size:=by
 rw[aDe d e,vQ,aBk]
theorem aUt {s:ByteArray} (d:0<s.size) (e:iZ s):unL (sqA s).data.toList (dD (sqS s))=sR s:=by
 rw[aDe d e,ET d,dP];exact YN _ _ (aBl e)
theorem SI {s:ByteArray} (d:0<s.size) (e:iZ s):gX (oOf s) s.size<s.size/\oOf s (gX (oOf s) s.size)=0:=aP2 e d
theorem aUu {s:ByteArray} (d:0<s.size) (e:iZ s) {k:Nat} (A:k<s.size) {most:Int} (D:(s.size:Int)<=most):rest (sqA s) (k:Int) (sqS s) most=(mkS (rot s (oOf s k).toNat),0):=by grind [KE,aDb,aDd,SH,aUt,qR,sR,rot,oOf,aUq,iZ,rest,sqA,sqS,mkS]
theorem aUv (s:ByteArray):rot s 0=s.data.toList:=by
 unfold rot;simp
theorem aDf {s:ByteArray} (d:0<s.size) (e:iZ s) {most:Int} (A:(s.size:Int)<=most):rest (sqA s) (sqO s) (sqS s) most=(s,0):=by grind [SI,LM,aUu,aUv,qB,iZ,rest,sqA,sqO,sqS]
theorem aUw {s:ByteArray} (d:0<s.size) (e:iZ s) (o:Int) {most:Int} (A:most<(s.size:Int)):rest (sqA s) o (sqS s) most=(dN,4):=
 KC (aDb d) (aDd d e) (by rw[SH d e];omega)
def cO (s:List UInt8) (at' room:Int):ByteArray×Int×Int×Int:=
 if at'<0\/room<1\/360<room then(dN,0,0,1)
 else if aP s.length at' 48≠0 then(dN,0,0,aP s.length at' 48)
 else if aK s at' 48≠0x314159265359 then(dN,0,0,3)
 else if aP s.length (at'+48) 32≠0 then(dN,0,0,aP s.length (at'+48) 32)
 else if aP s.length (at'+80) 16≠0 then(dN,0,0,aP s.length (at'+80) 16)
 else
  let u:=dF s (at'+96)
  if u.2.2≠0 then(dN,0,0,u.2.2)
  else
   let c:=dW s u.2.1 ((u.1.length:Int)+2)
   if c.2.2≠0 then(dN,0,0,c.2.2)
   else
    let r:=rest (mkS u.1) (aK s (at'+80) 16) c.1 room
    if r.2≠0 then(dN,0,0,r.2)
    else
     let o:=jX r.1.data.toList (52*room)
     if o.2≠0 then(dN,0,0,o.2)
     else if(cH o.1).toNat≠aK s (at'+48) 32 then(dN,0,0,7)
     else(mkS o.1,(aK s (at'+48) 32:Int),c.2.1,0)
noncomputable def uN (t:ByteArray) (v:Nat):List Bool:=
 ER v (sqO (mkS (bT t.data.toList))).toNat (bY (bT t.data.toList)) (sqS (mkS (bT t.data.toList)))
noncomputable def eJ (t:ByteArray):List Bool:=uN t (cH t.data.toList).toNat
theorem aU8 (t:ByteArray) (v:Nat):(uN t v).length=48+32+16+(iL (bY (bT t.data.toList))).length+(wJ (sqS (mkS (bT t.data.toList))) ((bY (bT t.data.toList)).length+2)).length:=by
 unfold uN ER;simp only[aL,dV]
theorem aDi {p:ByteArray} (d:0<p.size) (e:iZ p):let n:=(bY p.data.toList).length+2
  (∀x∈sqS p,0<=x/\x<(n:Int))/\0<(sqS p).length/\(sqS p)[(sqS p).length-1]? =some ((n:Int)-1)/\(∀x∈(sqS p).take ((sqS p).length-1),x<(n:Int)-1):=by
 intro n;have D:=aDc d e;rw[SG d];refine⟨fun x A=>?_,by simp,?_,fun x A=>?_⟩
 ·grind
 ·grind
 ·grind
theorem aU9 {s:List UInt8} {a:Nat} {t:ByteArray} {v:Nat} {room:Int} (Y:v<2^32) (h0:0<t.size) (D:iZ (mkS (bT t.data.toList))) (a5:1<=room) (hr:room<=360) (a6:(bT t.data.toList).length<=8000) (h:cR s a (uN t v)):
  cO s (a:Int) room=if room<((bT t.data.toList).length:Int) then(dN,0,0,4) else if(cH t.data.toList).toNat=v then(t,(v:Int),((a+(uN t v).length:Nat):Int),0) else(dN,0,0,7):=by
 have a7:=mV t;have Z:t.data.toList≠[]:=fun e=>by grind
 have a0:=uM t.data.toList.length t.data.toList (aD _);have F:=a0.2.1 Z;have d:0<(mkS (bT t.data.toList)).size:=by rw[cS];exact gG.2 F
 have a8:(mkS (bT t.data.toList)).size=(bT t.data.toList).length:=cS _;obtain⟨G,f2,I,J⟩:=aDi d D;have a9:=(QY (mkS (bT t.data.toList))).1;have hor:=SI d D;have b0:=vX (bT t.data.toList);have a1:=JF F;have b1:=aCk t.data.toList.length t.data.toList (aD _);rw[dP] at G I J;have a2:(sqO (mkS (bT t.data.toList))).toNat<2^16:=by rw[LM d];omega
 have a3:(((sqO (mkS (bT t.data.toList))).toNat:Nat):Int)=sqO (mkS (bT t.data.toList)):=by rw[LM d];omega
 rw[aU8];unfold uN ER at h;obtain⟨h,L⟩:=gN h;obtain⟨h,M⟩:=gN h;obtain⟨h,O⟩:=gN h;obtain⟨s1,R⟩:=gN h;simp only[aL,dV] at R O M L;obtain⟨e1,v1⟩:=qY s1 (by decide);obtain⟨U,v2⟩:=qY R Y;obtain⟨V,v3⟩:=qY O a2;have A:=aTy a1 M;rw[YK] at A;have e5:=aUl (by omega) (by omega) G (by omega) f2 I J L;rw[show((a+48:Nat):Int)=(a:Int)+48 by omega] at U v2;rw[show((a+(48+32):Nat):Int)=(a:Int)+80 by omega] at V v3;rw[show((a+(48+32+16):Nat):Int)=(a:Int)+96 by omega] at A
 have a4:mkS (bY (bT t.data.toList))=sqA (mkS (bT t.data.toList)):=by rw[ET d,dP]
 unfold cO;rw[aA (by omega),aA (by rw[e1];simp),aA (by rw[v1];simp),aA (by rw[U];simp),aA (by rw[V];simp),A];simp only
 rw[aA (by simp)];have ea:a+(48+32+16)+(iL (bY (bT t.data.toList))).length=a+(48+32+16+(iL (bY (bT t.data.toList))).length):=by omega
 rw[ea,show((bY (bT t.data.toList)).length:Int)+2=(((bY (bT t.data.toList)).length+2:Nat):Int) by omega,e5];simp only
 rw[aA (by simp),v3,a3,a4]
 by_cases hp:room<((bT t.data.toList).length:Int)
 ·grind [aUw,iZ,mkS,bT,cR,uN,cO,dN,cH]
 ·grind [aDf,dP,jX,bT,SJ,cH,qB,iZ,mkS,cR,uN,cO,dN]
theorem aDj {s:List UInt8} {a:Nat} {t:ByteArray} {room:Int} (d:0<t.size) (A:iZ (mkS (bT t.data.toList))) (G:((bT t.data.toList).length:Int)<=room) (D:room<=360) (h:cR s a (eJ t)):
  cO s (a:Int) room=(t,((cH t.data.toList).toNat:Int),((a+(eJ t).length:Nat):Int),0):=by
 have I:=mV t;have F:=(uM t.data.toList.length t.data.toList (aD _)).2.1 (fun e=>by grind);have:=gG.2 F;rw[aU9 (cH t.data.toList).isLt d A (by omega) D (by omega) h,aA (by omega),aB rfl];rfl
structure SM (a:ByteArray) (l:List Int) (most:Int) (t:ByteArray):Prop where
 pos:0<t.size
 tm:(t.size:Int)<=most
 len:t.size=(dD l).length
 two:2<=l.length
 last:l[l.length-1]? =some ((a.size:Int)+1)
 sym:∀x∈l.take (l.length-1),0<=x/\x<(a.size:Int)+1
 asz:a.size<=256
 bY:mkS (bY (a++t).data.toList)=a
theorem aVa (a t:ByteArray):(a++t).data.toList=a.data.toList++t.data.toList:=by simp
theorem aVb {s:List UInt8} {o:Nat} (h:o<s.length):∀b∈qR s o,b∈s:=by grind [xG,qR]
theorem aVc (a:ByteArray) (o:Int) (l:List Int) (most:Int):
  (∃e,rest a o l most=(dN,e)/\e≠0)\/∃t,rest a o l most=(t,0)/\SM a l most t:=by
 by_cases d:a.data.toList≠[]/\Go.Proofs.YtfckbfofgeilgaaGreatDoor.bY a.data.toList=a.data.toList
 rotate_left
 ·exact .inl ⟨1,KB d,by decide⟩
 by_cases A:jU l ((a.size:Int)+1)
 rotate_left
 ·exact .inl ⟨3,QQ d A,by decide⟩
 by_cases D:((dD l).length:Int)<=most
 rotate_left
 ·exact .inl ⟨4,KC d A D,by decide⟩
 by_cases F:0<=o/\o<((dD l).length:Int)
 rotate_left
 ·exact .inl ⟨3,KD d A D F,by decide⟩
 refine .inr ⟨_,KE d A D F,?_⟩;have G:a.data.toList.length=a.size:=by rw[Array.length_toList];rfl
 have L:0<a.size:=by rw[<-G];exact gG.2 d.1
 have J:(unL a.data.toList (dD l)).length=(dD l).length:=sL _ _;have I:(qR (unL a.data.toList (dD l)) o.toNat).length=(dD l).length:=by rw[JS,J]
 have M:∀b∈qR (unL a.data.toList (dD l)) o.toNat,b∈a.data.toList:=fun b O=>
  PJ _ _ (by rw[G];exact QS A L) b (aVb (by rw[J];omega) b O)
 refine⟨by rw[cS,I];omega,by rw[cS,I];exact D,by rw[cS,I],?_,A.2.1,A.2.2,?_,?_⟩
 ·rcases cF l.length 2 with q|q
  ·have e:dD l=[]:=by
    unfold dD;rw[show l.length-1=0 by omega];rfl
   rw[e] at F;simp at F;omega
  ·exact q
 ·rw[<-G,<-d.2];exact vX _
 ·rw[aVa,dP,YJ (t:=a.data.toList),d.2,qB];intro b;rw[dK];exact⟨fun h=>h.elim id (M b),.inl⟩
theorem SM.dec {a t:ByteArray} {l:List Int} {most:Int} (h:SM a l most t):rM (l.take (l.length-1)) most=0/\(sQ (l.take (l.length-1)) most).length=t.size:=by
 have e:((dT (l.take (l.length-1))).length:Int)<=most:=by
  have:=h.tm;rw[h.len] at this;exact this
 unfold rM sQ;rw[aB e,aB e];exact⟨rfl,h.len.symm⟩
theorem SM.own {a t:ByteArray} {l:List Int} {most:Int} (h:SM a l most t) (d:iZ t):sqE t=0/\rest (sqA t) (sqO t) (sqS t) (t.size:Int)=(t,0):=
 ⟨aDa h.pos,aDf h.pos d (lV _)⟩
theorem CD {s:List UInt8} {at' room:Int} (h:(cO s at' room).2.2.2=0):0<=at'/\1<=room/\room<=360/\1<=(cO s at' room).1.size/\((cO s at' room).1.size:Int)<=52*room/\(cO s at' room).2.1=((cH (cO s at' room).1.data.toList).toNat:Int)/\at'+96<(cO s at' room).2.2.1/\(cO s at' room).2.2.1<=8*(s.length:Int)/\
  aK s at' 48=0x314159265359:=by
 unfold cO at h ⊢
 by_cases U:at'<0\/room<1\/360<room
 ·rw[aB U] at h;simp at h
 rw[aA U] at h ⊢
 by_cases L:aP s.length at' 48≠0
 ·rw[aB L] at h;exact absurd h L
 rw[aA L] at h ⊢
 by_cases M:aK s at' 48≠0x314159265359
 ·rw[aB M] at h;simp at h
 rw[aA M] at h ⊢
 by_cases O:aP s.length (at'+48) 32≠0
 ·rw[aB O] at h;exact absurd h O
 rw[aA O] at h ⊢
 by_cases R:aP s.length (at'+80) 16≠0
 ·rw[aB R] at h;exact absurd h R
 rw[aA R] at h ⊢;simp only at h ⊢;have V:(dF s (at'+96)).2.2=0->at'+96<(dF s (at'+96)).2.1:=by
  intro e;have hb:=EO s (at'+96) 16;unfold dF at e ⊢;simp only at e ⊢
  by_cases F:(dQ s (at'+96) 16).2.2.2≠0
  ·rw[aB F] at e;exact absurd e F
  ·rw[aA F] at e ⊢
   by_cases Y:(dQ s (at'+96) 16).2.2.1=true
   ·rw[aB Y] at e;simp at e
   ·rw[aA Y];have:=(hb.2 (eB.1 F)).1;show at'+96<(dQ s (at'+96) 16).2.1;omega
 by_cases G:(dF s (at'+96)).2.2≠0
 ·rw[aB G] at h;exact absurd h G
 rw[aA G] at h ⊢;have V:=V (eB.1 G);generalize dF s (at'+96)=u at*
 by_cases I:(dW s u.2.1 ((u.1.length:Int)+2)).2.2≠0
 ·rw[aB I] at h;exact absurd h I
 rw[aA I] at h ⊢;have hc:=RZ (eB.1 I);generalize dW s u.2.1 ((u.1.length:Int)+2)=c at*
 have d:=aVc (mkS u.1) (aK s (at'+80) 16) c.1 room
 by_cases A:(rest (mkS u.1) (aK s (at'+80) 16) c.1 room).2≠0
 ·rw[aB A] at h;exact absurd h A
 rw[aA A] at h ⊢;rcases d with⟨e,d,he⟩|⟨p,d,a1⟩
 ·rw[d] at A;exact absurd he A
 rw[d] at h ⊢;simp only at h ⊢;have a2:p.data.toList≠[]:=fun e=>by
  have Z:=mV p;have h2:=a1.pos;rw[e] at Z;simp at Z;omega
 by_cases J:(jX p.data.toList (52*room)).2≠0
 ·rw[aB J] at h;exact absurd h J
 rw[aA J] at h ⊢;have a0:=aU2 a2 (eB.1 J);generalize jX p.data.toList (52*room)=o at*
 by_cases D:(cH o.1).toNat≠aK s (at'+48) 32
 ·rw[aB D] at h;simp at h
 rw[aA D];have D:=eB.1 D;have a3:=gG.2 a0.1;refine⟨by omega,by omega,by omega,by rw[cS];omega,by rw[cS];exact a0.2,by rw[dP,D],by show at'+96<c.2.1;omega,hc.2.2.2.2.2.2,eB.1 M⟩
end
section
open Go.RowKit Go Go.Shelf
def zM (x b:BitVec 32):BitVec 32:=(x<<<1|||x>>>31)^^^b
def iM (l:List (BitVec 32)):BitVec 32:=l.foldl zM 0#32
structure Prt where
 t:ByteArray
 y:Int
 a:Int
 z:Int
 r:Int
def sU (l:List Prt):BitVec 32:=iM (l.map (fun p=>OQ 32 p.y))
def fX (s:List UInt8) (k:Nat):Int×Int:=
 if s.length<k+4 then(0,2)
 else if(s.drop k).take 3≠[80,77,107]\/(s.getD (k+3) 0).toNat<49\/57<(s.getD (k+3) 0).toNat then(0,3)
 else(40*(((s.getD (k+3) 0).toNat:Int)-48),0)
def jP (a:Nat):Nat:=(8-a%8)%8
def kS (s:List UInt8) (a:Int) (v:BitVec 32):Int×Int:=
 if aP s.length (a+48) 32≠0 then(0,aP s.length (a+48) 32)
 else if aK s (a+48) 32≠v.toNat then(0,7)
 else if aK s (a+80) (jP (a+80).toNat)≠0 then(0,3)
 else(a+80+(jP (a+80).toNat:Int),0)
def eE (s:List UInt8) (r:Int):Nat->Int->List Prt->List Prt×Int×Int
 |0,a,acc=>(acc,a,2)
 |f+1,a,acc=>
  if aP s.length a 48≠0 then(acc,a,aP s.length a 48)
  else if aK s a 48=0x177245385090 then(acc,(kS s a (sU acc)).1,(kS s a (sU acc)).2)
  else if aK s a 48≠0x314159265359 then(acc,a,3)
  else if(cO s a r).2.2.2≠0 then(acc,a,(cO s a r).2.2.2)
  else eE s r f (cO s a r).2.2.1 (acc++[⟨(cO s a r).1,(cO s a r).2.1,a,(cO s a r).2.2.1,r⟩])
def cU (s:List UInt8) (a:Int):List Prt×Int×Int:=
 if(fX s (a/8).toNat).2≠0 then([],a,(fX s (a/8).toNat).2)
 else eE s (fX s (a/8).toNat).1 (8*s.length+1) (a+32) []
def gT (s:List UInt8):Nat->Int->List Prt->List Prt×Int
 |0,_,acc=>(acc,2)
 |f+1,a,acc=>
  if 8*(s.length:Int)<=a then(acc,0)
  else if(cU s a).2.2≠0 then(acc++(cU s a).1,(cU s a).2.2)
  else gT s f (cU s a).2.1 (acc++(cU s a).1)
def cI (s:List UInt8):List Prt×Int:=if s=[] then([],3) else gT s (8*s.length+1) 0 []
def okT (r:Int) (t:ByteArray):Prop:=0<t.size/\iZ (mkS (bT t.data.toList))/\((bT t.data.toList).length:Int)<=r
noncomputable def fN (l:List ByteArray):List Bool:=(l.map eJ).flatten
def EV (l:List ByteArray):BitVec 32:=iM (l.map (fun t=>cH t.data.toList))
def iN (n:Nat):List UInt8:=[80,77,107,eA (48+n)]
noncomputable def cM (n:Nat) (l:List ByteArray):List Bool:=eR (iN n)++(fN l++(aT 0x177245385090 48++aT (EV l).toNat 32))
def iD (l:List Bool):List Bool:=l++aX (jP l.length) false
noncomputable def dH (l:List (Nat×List ByteArray)):List Bool:=(l.map (fun p=>iD (cM p.1 p.2))).flatten
noncomputable def lB (r:Int):Nat->List ByteArray->List Prt
 |_,[]=>[]
 |a,t::l=>⟨t,((cH t.data.toList).toNat:Int),(a:Int),((a+(eJ t).length:Nat):Int),r⟩::lB r (a+(eJ t).length) l
noncomputable def kT:Nat->List (Nat×List ByteArray)->List Prt
 |_,[]=>[]
 |a,p::q=>lB (40*(p.1:Int)) (a+32) p.2++kT (a+(iD (cM p.1 p.2)).length) q
theorem aDk (a:Nat):jP a<8:=kU _ (by decide)
theorem zN (a:Nat):(a+jP a)%8=0:=by unfold jP;omega
theorem zO (l:List Bool):(iD l).length=l.length+jP l.length:=by unfold iD;simp
theorem aVe (n:Nat):aT 0 n=aX n false:=by
 apply List.ext_getElem?
 grind [KI,dV,aT]
theorem aDl (l:List Bool):aI (iD l)=aI l:=by grind [zN,aDk,BS,iJ,zO,tR,iD,aI]
theorem aVf {x y:List Bool} (h:x.length%8=0):aI (x++y)=aI x++aI y:=by
 refine BS ?_ (fun i _=>?_)
 ·grind [iJ,aI]
 grind [EL,tR,iJ,aI]
theorem aVg (s:List UInt8) (k i:Nat):dO (s.drop k) i=dO s (8*k+i):=by grind [dO]
theorem aVh {s:List UInt8} {n i:Nat} (h:i<8*n):dO (s.take n) i=dO s i:=by grind [dO]
theorem aDm {s h:List UInt8} {k:Nat} (e:cR s (8*k) (eR h)):(s.drop k).take h.length=h:=by
 have D:=e.1;rw[qU] at D;have A:((s.drop k).take h.length).length=h.length:=by grind
 refine BS A (fun i d=>?_);rw[A] at d;rw[aVh d,aVg,LK e (by rw[qU];exact d),List.getD_eq_getElem?_getD,wA,aB d];rfl
theorem aVi {s:List UInt8} {k n:Nat} (F:1<=n) (G:n<=9) (e:cR s (8*k) (eR (iN n))):fX s k=(40*(n:Int),0):=by
 have d:=aDm e;have A:=e.1;rw[qU] at A;have D:(iN n).length=4:=rfl;rw[D] at A d;have I:(s.drop k).take 3=[80,77,107]:=by
  have:((s.drop k).take 4).take 3=(iN n).take 3:=by rw[d]
  grind [cR,eR,iN,fX]
 have J:(s.getD (k+3) 0).toNat=48+n:=by
  have:((s.drop k).take 4)[3]? =(iN n)[3]? :=by rw[d]
  grind [eA,UInt8.toNat_ofNat',cR,eR,iN,fX]
 unfold fX
 grind
theorem SN (t:ByteArray):∃R,eJ t=aT 0x314159265359 48++R:=by simp[eJ,uN,ER,aT]
theorem aDn (t:ByteArray):48<=(eJ t).length:=by
 obtain⟨R,d⟩:=SN t
 grind [dV,eJ]
theorem aVj (v:BitVec 32):OQ 32 ((v.toNat:Nat):Int)=v:=by simp
theorem aDo (r:Int):∀(l:List ByteArray) (a:Nat),(lB r a l).map (fun p=>OQ 32 p.y)=l.map (fun t=>cH t.data.toList)
 |[],_=>rfl
 |t::l,a=>by
  show OQ 32 (((cH t.data.toList).toNat:Nat):Int)::_=_;rw[aVj,aDo r l];rfl
theorem aDp {s:List UInt8} {r:Int} (G:r<=360) {v:Nat}:∀(l:List ByteArray) (f a:Nat) (acc:List Prt),(∀t∈l,okT r t)->l.length<f->
  cR s a (fN l++(aT 0x177245385090 48++(aT v 32++aX (jP (a+(fN l).length+80)) false)))->v=(sU (acc++lB r a l)).toNat->
  eE s r f (a:Int) acc=(acc++lB r a l,((a+(fN l).length+80+jP (a+(fN l).length+80):Nat):Int),0)
 |[],0,_,_,_,e,_,_=>absurd e (by simp)
 |[],f+1,a,acc,_,_,h,I=>by
  have D:fN []=[]:=rfl;rw[D] at h ⊢;simp only[eL,List.length_nil,pV] at h ⊢;obtain⟨A,d⟩:=gN h;rw[dV] at d;obtain⟨M,F⟩:=gN d;rw[dV] at F;have O:=qY A (by decide);have U:v<2^32:=by omega
  have g2:=qY M U;rw[<-aVe] at F;have g3:=qY F (Nat.pow_pos (by decide))
  grind [lB,eE,kS,okT,cR,fN,aT,jP,sU]
 |t::l,0,_,_,_,e,_,_=>absurd e (by simp)
 |t::l,f+1,a,acc,J,e,h,I=>by
  have D:fN (t::l)=eJ t++fN l:=rfl;rw[D,bU] at h;obtain⟨A,d⟩:=gN h;obtain⟨R,V⟩:=SN t;have L:=A;rw[V] at L;have O:=qY (gN L).1 (by decide);obtain⟨Y,Z,o3⟩:=J t (jK ..);have a1:=aDj Y Z o3 G A;have a0:a+(eJ t++fN l).length=a+(eJ t).length+(fN l).length:=by grind
  rw[a0] at d;have ih:=aDp G l f (a+(eJ t).length) (acc++[⟨t,((cH t.data.toList).toNat:Int),(a:Int),((a+(eJ t).length:Nat):Int),r⟩]) (fun x hx=>J x (iQ _ hx)) (by grind) d (by rw[I,bU];rfl)
  grind [eE,okT,cR,fN,aT,jP,sU,lB]
theorem xT (n:Nat) (l:List ByteArray):(cM n l).length=32+(fN l).length+80:=by
 unfold cM;simp only[aL,dV,qU];show 8*4+_=_;omega
theorem aDq:∀l:List ByteArray,l.length<=(fN l).length
 |[]=>aD _
 |t::l=>by
  have:=aDq l
  grind [aDn,eJ,fN]
theorem SO {s:List UInt8} {k n:Nat} {l:List ByteArray} (D:1<=n) (F:n<=9) (G:∀t∈l,okT (40*(n:Int)) t) (h:cR s (8*k) (iD (cM n l))):
  cU s ((8*k:Nat):Int)=(lB (40*(n:Int)) (8*k+32) l,((8*k+(iD (cM n l)).length:Nat):Int),0):=by
 have V:=h.1;have e:=xT n l;have A:=zO (cM n l);have Y:=aDq l;unfold iD at h;have I:cM n l++aX (jP (cM n l).length) false=eR (iN n)++(fN l++(aT 0x177245385090 48++(aT (EV l).toNat 32++aX (jP (cM n l).length) false))):=by
  unfold cM;simp
 rw[I] at h;obtain⟨J,d⟩:=gN h;rw[qU,show(iN n).length=4 from rfl] at d;have L:=aVi D F J;have M:(((8*k:Nat):Int)/8).toNat=k:=by omega
 unfold cU;rw[M,L,aA (fun k=>k rfl)];have O:jP (cM n l).length=jP (8*k+8*4+(fN l).length+80):=by rw[e];unfold jP;omega
 rw[O] at d A;have R:=aDp (s:=s) (r:=40*(n:Int)) (by omega) l (8*s.length+1) (8*k+8*4) [] G (by omega) d (by rw[eL];unfold sU EV;rw[aDo]);have U:((8*k:Nat):Int)+32=((8*k+8*4:Nat):Int):=by omega
 rw[U,R];simp only[eL];rw[A,e]
 congr 3
 omega
theorem aDr {s:List UInt8}:∀(l:List (Nat×List ByteArray)) (f k:Nat) (acc:List Prt),(∀p∈l,1<=p.1/\p.1<=9/\∀t∈p.2,okT (40*(p.1:Int)) t)->l.length<f->cR s (8*k) (dH l)->8*k+(dH l).length=8*s.length->
  gT s f ((8*k:Nat):Int) acc=(acc++kT (8*k) l,0)
 |[],0,_,_,_,d,_,_=>absurd d (by simp)
 |[],f+1,k,acc,_,_,_,A=>by grind [dH,gT,okT,cR,kT]
 |p::l,0,_,_,_,d,_,_=>absurd d (by simp)
 |p::l,f+1,k,acc,D,d,h,A=>by
  have I:dH (p::l)=iD (cM p.1 p.2)++dH l:=rfl;rw[I] at h A;rw[aL] at A;obtain⟨J,F⟩:=gN h;obtain⟨L,M,O⟩:=D p (jK ..);have G:=SO L M O J;have V:=zO (cM p.1 p.2);have Y:=zN (cM p.1 p.2).length;have Z:=xT p.1 p.2;obtain⟨m,hm⟩:∃m,(iD (cM p.1 p.2)).length=8*m:=⟨(iD (cM p.1 p.2)).length/8,by omega⟩;have e:8*k+(iD (cM p.1 p.2)).length=8*(k+m):=by omega
  rw[e] at F G;have R:=aDr l f (k+m) (acc++lB (40*(p.1:Int)) (8*k+32) p.2) (fun x U=>D x (iQ _ U)) (by grind) F (by omega);unfold gT;rw[aA (by omega),G];simp only
  rw[aA (fun k=>k rfl),R,bU];show _=(acc++(lB (40*(p.1:Int)) (8*k+32) p.2++kT (8*k+(iD (cM p.1 p.2)).length) l),(0:Int));rw[e]
theorem EW (l:List (Nat×List ByteArray)):(dH l).length%8=0/\l.length<=(dH l).length:=by
 induction l with
 |nil=>exact⟨rfl,aD _⟩
 |cons p l e=>
  have d:dH (p::l)=iD (cM p.1 p.2)++dH l:=rfl;have A:=zO (cM p.1 p.2);have D:=zN (cM p.1 p.2).length;have F:=xT p.1 p.2;rw[d,aL,List.length_cons];omega
theorem aVk {l:List (Nat×List ByteArray)} (d:l≠[]) (A:∀p∈l,1<=p.1/\p.1<=9/\∀t∈p.2,okT (40*(p.1:Int)) t):cI (aI (dH l))=(kT 0 l,0):=by
 obtain⟨F,G⟩:=EW l;have I:=iJ (dH l);have J:=gG.2 d;have D:aI (dH l)≠[]:=fun e=>by grind
 unfold cI;rw[aA D];have:=aDr (s:=aI (dH l)) l (8*(aI (dH l)).length+1) 0 [] A (by omega) (ES _) (by omega)
 grind
theorem aDs (n:Nat) (l:List ByteArray):dH [(n,l)]=iD (cM n l):=by simp[dH,iD,cM]
theorem tU (n:Nat) (l:List ByteArray):aI (cM n l)=aI (dH [(n,l)]):=by
 rw[aDs,aDl]
theorem aDt (x y:List (Nat×List ByteArray)):dH (x++y)=dH x++dH y:=by unfold dH;simp
theorem aDu (x y:List (Nat×List ByteArray)):aI (dH x)++aI (dH y)=aI (dH (x++y)):=by
 rw[aDt,aVf (EW x).1]
def Prt.up (d:Nat) (p:Prt):Prt:=⟨p.t,p.y,p.a+(d:Int),p.z+(d:Int),p.r⟩
theorem aDv (r:Int):∀(l:List ByteArray) (a:Nat),(lB r a l).map Prt.t=l
 |[],_=>rfl
 |t::l,a=>by simp[lB,eJ,aDv]
theorem SP:∀(l:List (Nat×List ByteArray)) (a:Nat),(kT a l).map Prt.t=(l.map (fun p=>p.2)).flatten
 |[],_=>rfl
 |p::l,a=>by simp[kT,aDv,SP]
theorem aVn {s:List UInt8} {a:Int} {v:BitVec 32} (h:(kS s a v).2=0):0<=a+48/\a+80<=(kS s a v).1/\(kS s a v).1<=8*(s.length:Int):=by grind [kS,aP,iG,aK,jP]
theorem LO {s:List UInt8} {r:Int}:∀(f:Nat) (a:Int) (acc:List Prt),(eE s r f a acc).2.2=0->a+80<=(eE s r f a acc).2.1/\(eE s r f a acc).2.1<=8*(s.length:Int)
 |0,_,_,h=>absurd h (by simp[eE])
 |f+1,a,acc,h=>by
  unfold eE at h ⊢
  by_cases A:aP s.length a 48≠0
  ·grind
  rw[aA A] at h ⊢
  by_cases d:aK s a 48=0x177245385090
  ·rw[aB d] at h ⊢;have:=aVn h
   grind
  rw[aA d] at h ⊢
  by_cases D:aK s a 48≠0x314159265359
  ·grind
  rw[aA D] at h ⊢
  by_cases e:(cO s a r).2.2.2≠0
  ·grind
  rw[aA e] at h ⊢;have F:=CD (eB.1 e);have G:=LO f _ _ h;omega
theorem EZ {s:List UInt8} {a:Int} (h:(cU s a).2.2=0):a+112<=(cU s a).2.1/\(cU s a).2.1<=8*(s.length:Int):=by
 unfold cU at h ⊢
 by_cases q:(fX s (a/8).toNat).2≠0
 ·grind
 rw[aA q] at h ⊢;have:=LO _ _ _ h;omega
theorem LP (l:List (Nat×List ByteArray)):8*(aI (dH l)).length=(dH l).length:=by
 have:=(EW l).1;rw[iJ];omega
def zP (s:List UInt8) (p:Prt):Prop:=cO s p.a p.r=(p.t,p.y,p.z,0)/\40<=p.r/\p.r<=360/\p.r%40=0
def qZ (s:List UInt8):Int->List Prt->Int->Prop
 |d,[],e=>d<=e
 |d,p::l,e=>d<=p.a/\zP s p/\qZ s p.z l e
theorem zP.facts {s:List UInt8} {p:Prt} (h:zP s p):p.y=((cH p.t.data.toList).toNat:Int)/\1<=p.t.size/\(p.t.size:Int)<=52*p.r/\0<=p.a/\p.a+96<p.z/\p.z<=8*(s.length:Int):=by
 have d:=CD (s:=s) (at':=p.a) (room:=p.r) (by rw[h.1])
 grind [zP,cH]
theorem aD1 {s:List UInt8} {d e A:Int} (h:e<=d):∀{l:List Prt},qZ s d l A->qZ s e l A
 |[],k=>XE h k
 |_::_,k=>⟨XE h k.1,k.2⟩
theorem SS {s:List UInt8} {d e:Int} {m:List Prt} (A:qZ s d m e):∀{l:List Prt} {D:Int},qZ s D l d->qZ s D (l++m) e
 |[],_,k=>aD1 k A
 |_::_,_,k=>⟨k.1,k.2.1,SS A k.2.2⟩
theorem aD2 {s:List UInt8} {k:Nat} (h:(fX s k).2=0):40<=(fX s k).1/\(fX s k).1<=360/\(fX s k).1%40=0:=by grind [fX]
theorem aD3 {s:List UInt8} {r:Int} (A:40<=r) (D:r<=360) (F:r%40=0):∀(f:Nat) (a:Int) (acc:List Prt),(eE s r f a acc).2.2=0->∃m,(eE s r f a acc).1=acc++m/\qZ s a m (eE s r f a acc).2.1
 |0,_,_,h=>absurd h (by simp[eE,qZ])
 |f+1,a,acc,h=>by
  have d:=LO (f+1) a acc h;unfold eE at h d ⊢
  by_cases I:aP s.length a 48≠0
  ·grind
  rw[aA I] at h d ⊢
  by_cases G:aK s a 48=0x177245385090
  ·rw[aB G] at h d ⊢;exact⟨[],(dI _).symm,by show a<=_;omega⟩
  rw[aA G] at h d ⊢
  by_cases J:aK s a 48≠0x314159265359
  ·grind
  rw[aA J] at h d ⊢
  by_cases e:(cO s a r).2.2.2≠0
  ·grind
  rw[aA e] at h d ⊢;obtain⟨m,L,M⟩:=aD3 A D F f _ _ h;refine⟨_::m,by rw[L,bU];rfl,lV _,⟨?_,A,D,F⟩,M⟩;have e:=eB.1 e;show cO s a r=((cO s a r).1,(cO s a r).2.1,(cO s a r).2.2.1,0);rw[<-e]
theorem aD4 {s:List UInt8} {a:Int} (h:(cU s a).2.2=0):qZ s (a+32) (cU s a).1 (cU s a).2.1:=by
 unfold cU at h ⊢
 by_cases q:(fX s (a/8).toNat).2≠0
 ·grind
 rw[aA q] at h ⊢;obtain⟨d,e,A⟩:=aD2 (eB.1 q)
 grind [aD3,cU,qZ]
theorem aD5 {s:List UInt8}:∀(f:Nat) (a:Int) (acc:List Prt),a<=8*(s.length:Int)->(gT s f a acc).2=0->∃m,(gT s f a acc).1=acc++m/\qZ s a m (8*(s.length:Int))
 |0,_,_,_,h=>absurd h (by simp[gT,qZ])
 |f+1,a,acc,A,h=>by
  unfold gT at h ⊢
  by_cases e:8*(s.length:Int)<=a
  ·rw[aB e];exact⟨[],(dI _).symm,A⟩
  rw[aA e] at h ⊢
  by_cases d:(cU s a).2.2≠0
  ·grind
  rw[aA d] at h ⊢;have d:=eB.1 d;obtain⟨m,F,D⟩:=aD5 f _ _ (EZ d).2 h;exact⟨(cU s a).1++m,by grind,SS D (aD1 (by omega) (aD4 d))⟩
theorem ST {s:List UInt8} (h:(cI s).2=0):qZ s 32 (cI s).1 (8*(s.length:Int)):=by
 unfold cI at h ⊢
 by_cases q:s=[]
 ·grind
 rw[aA q] at h ⊢;have e:=gG.2 q;unfold gT at h ⊢;rw[aA (by omega)] at h ⊢
 by_cases d:(cU s 0).2.2≠0
 ·grind
 rw[aA d] at h ⊢;have d:=eB.1 d;obtain⟨m,A,D⟩:=aD5 (8*s.length) _ _ (EZ d).2 h
 grind [SS,aD4,cI,qZ]
def uO:Prt:=⟨dN,0,0,0,0⟩
def okP (l:List Prt):List (Prt×Int):=l.map (fun p=>(p,0))
theorem LQ (l m:List Prt):okP (l++m)=okP l++okP m:=List.map_append
theorem aVt (p:Prt):okP [p]=[(p,0)]:=rfl
def jY (s:List UInt8):List (Prt×Int):=okP (cI s).1++if(cI s).2=0 then[] else[(uO,(cI s).2)]
theorem aD6 {s:List UInt8} {r:Int}:∀(f:Nat) (a:Int) (acc:List Prt),∃m,(eE s r f a acc).1=acc++m
 |0,a,acc=>⟨[],by simp[eE]⟩
 |f+1,a,acc=>by
  unfold eE;split
  ·simp
  split
  ·simp
  split
  ·simp
  split
  ·simp
  ·obtain⟨m,d⟩:=aD6 (s:=s) (r:=r) f (cO s a r).2.2.1 (acc++[⟨(cO s a r).1,(cO s a r).2.1,a,(cO s a r).2.2.1,r⟩])
   grind
theorem aD7 {s:List UInt8}:∀(f:Nat) (a:Int) (acc:List Prt),∃m,(gT s f a acc).1=acc++m
 |0,a,acc=>⟨[],by simp[gT]⟩
 |f+1,a,acc=>by
  unfold gT;split
  ·simp
  split
  ·simp
  ·obtain⟨m,d⟩:=aD7 (s:=s) f (cU s a).2.1 (acc++(cU s a).1)
   grind
structure InT (s:List UInt8) (a:Int) (pre T:List (Prt×Int)):Prop where
 part:∀acc p m,(cU s a).1=acc++p::m->∃r,T=(pre++okP acc)++(p,0)::r
 bad:(cU s a).2.2≠0->T=(pre++okP (cU s a).1)++[(uO,(cU s a).2.2)]
theorem aVu {s:List UInt8} {f:Nat} {a:Int} {acc:List Prt} (h:cI s=gT s (f+1) a acc) (e:a<8*(s.length:Int)):InT s a (okP acc) (jY s):=by
 have d:gT s (f+1) a acc=if 8*(s.length:Int)<=a then(acc,0) else if(cU s a).2.2≠0 then(acc++(cU s a).1,(cU s a).2.2) else gT s f (cU s a).2.1 (acc++(cU s a).1):=rfl;rw[d,aA (by omega)] at h;refine⟨fun A p m D=>?_,fun F=>?_⟩
 ·have:∃r,(cI s).1=acc++(cU s a).1++r:=by
   rw[h];split
   ·simp
   ·exact aD7 f _ _
  obtain⟨r,G⟩:=this
  grind [jY,LQ,okP,cI,uO,gT]
 grind [jY,LQ,cI,gT,okP]
theorem aVv {s:List UInt8} {f:Nat} {a:Int} {acc:List Prt} (h:cI s=gT s (f+1) a acc) (d:a<8*(s.length:Int)) (e:(cU s a).2.2=0):cI s=gT s f (cU s a).2.1 (acc++(cU s a).1):=by grind [cU,gT,cI]
theorem aVw {s:List UInt8} {f:Nat} {a:Int} {acc:List Prt} (h:cI s=gT s (f+1) a acc) (d:8*(s.length:Int)<=a):jY s=okP acc/\(cI s).2=0:=by grind [cI,cU,gT,jY,okP]
theorem aVx:jY []=[(uO,3)]:=by
 have:cI []=([],3):=rfl;unfold jY;rw[this];rfl
theorem aD8 {s:List UInt8} {r:Int}:∀(f:Nat) (a:Int) (acc:List Prt),0<=a->a<=8*(s.length:Int)->96*((eE s r f a acc).1.length:Int)+a<=96*(acc.length:Int)+8*(s.length:Int)
 |0,a,acc,_,h=>by show 96*(acc.length:Int)+a<=_;omega
 |f+1,a,acc,e,h=>by
  unfold eE;split
  ·grind
  split
  ·grind
  split
  ·grind
  split
  ·grind
  ·next q=>
   have d:=CD (eB.1 q);have A:=aD8 (s:=s) (r:=r) f (cO s a r).2.2.1 (acc++[⟨(cO s a r).1,(cO s a r).2.1,a,(cO s a r).2.2.1,r⟩]) (by omega) d.2.2.2.2.2.2.2.1
   grind
theorem aD9 {s:List UInt8} {r:Int}:∀(f:Nat) (a:Int) (acc:List Prt),0<=a->(eE s r f a acc).2.2=0->(eE s r f a acc).2.1%8=0
 |0,_,_,_,h=>absurd h (by simp[eE])
 |f+1,a,acc,F,h=>by
  unfold eE at h ⊢
  by_cases e:aP s.length a 48≠0
  ·grind
  rw[aA e] at h ⊢
  by_cases A:aK s a 48=0x177245385090
  ·grind [kS,aP,aK,sU,jP,zN,eE]
  rw[aA A] at h ⊢
  by_cases D:aK s a 48≠0x314159265359
  ·grind
  rw[aA D] at h ⊢
  by_cases d:(cO s a r).2.2.2≠0
  ·grind
  rw[aA d] at h ⊢;have G:=CD (eB.1 d);exact aD9 f _ _ (by omega) h
theorem aVy {s:List UInt8} {a:Int} (d:0<=a) (h:(cU s a).2.2=0):(cU s a).2.1%8=0:=by grind [cU,fX,aD9]
theorem aVz {s:List UInt8} {e r:List (Prt×Int)} {x:Prt×Int} (h:jY s=e++x::r) (A:x.2≠0):x=(uO,(cI s).2)/\(cI s).2≠0:=by
 have d:x∈jY s:=by rw[h];simp
 unfold jY at d;rcases dK.1 d with d|d
 ·obtain⟨p,_,rfl⟩:=List.mem_map.1 d
  grind
 grind
theorem aV0 {s:List UInt8} (h:∀x∈jY s,x.2=0):(cI s).2=0/\jY s=okP (cI s).1:=by
 by_cases q:(cI s).2=0
 ·grind [jY,cI,okP]
 ·exfalso;refine q (h (uO,(cI s).2) ?_);unfold jY
  grind
theorem aI2 {s:List UInt8} {r:Int}:∀(f:Nat) (a:Int) (acc:List Prt),(eE s r f a acc).2.2=0->96*((eE s r f a acc).1.length:Int)+a+80<=96*(acc.length:Int)+(eE s r f a acc).2.1
 |0,_,_,h=>absurd h (by simp[eE])
 |f+1,a,acc,h=>by
  have d:=LO (s:=s) (r:=r) (f+1) a acc h;unfold eE at h d ⊢
  by_cases D:aP s.length a 48≠0
  ·grind
  rw[aA D] at h d ⊢
  by_cases F:aK s a 48=0x177245385090
  ·grind
  rw[aA F] at h d ⊢
  by_cases G:aK s a 48≠0x314159265359
  ·grind
  rw[aA G] at h d ⊢
  by_cases e:(cO s a r).2.2.2≠0
  ·grind
  rw[aA e] at h d ⊢;have I:=CD (eB.1 e);have A:=aI2 f _ _ h;rw[aL,fQ] at A;push_cast at A;omega
theorem bCz {s:List UInt8} {a:Int} (_h0:0<=a) (h:(cU s a).2.2=0):96*((cU s a).1.length:Int)+a<=(cU s a).2.1:=by
 unfold cU at h ⊢
 by_cases q:(fX s (a/8).toNat).2≠0
 ·grind
 rw[aA q] at h ⊢;have:=aI2 _ _ _ h
 grind
theorem bC0 {s:List UInt8} {a:Int} (d:0<=a) (h:a<=8*(s.length:Int)):96*((cU s a).1.length:Int)+a<=8*(s.length:Int)+32:=by
 unfold cU;split
 ·grind
 ·next q=>
  by_cases k:a+32<=8*(s.length:Int)
  ·have:=aD8 (s:=s) (r:=(fX s (a/8).toNat).1) (8*s.length+1) (a+32) [] (by omega) k
   grind
  grind [eE,fX,aP,cU]
theorem aI3 {s:List UInt8}:∀(f:Nat) (a:Int) (acc:List Prt),0<=a->a<=8*(s.length:Int)->96*((gT s f a acc).1.length:Int)+a<=96*(acc.length:Int)+8*(s.length:Int)+32
 |0,a,acc,_,h=>by show 96*(acc.length:Int)+a<=_;omega
 |f+1,a,acc,d,h=>by
  unfold gT;have A:=bC0 (s:=s) d h;split
  ·grind
  split
  ·grind
  ·next q=>
   have e:=EZ (eB.1 q);have D:=bCz (s:=s) (a:=a) d (eB.1 q);have F:=aI3 (s:=s) f (cU s a).2.1 (acc++(cU s a).1) (by omega) e.2
   grind
theorem aI4 (s:ByteArray) {T:List (Prt×Int)} (h:T=jY s.data.toList):T.length<=8*s.size+2:=by
 have d:=mV s;have:((cI s.data.toList).1.length:Int)*96<=8*(s.size:Int)+32:=by
  unfold cI;split
  ·simp;omega
  ·have:=aI3 (s:=s.data.toList) (8*s.data.toList.length+1) 0 [] (by decide) (by omega)
   grind
 grind [jY,okP]
def gU:Int->List Prt->List Ent
 |_,[]=>[]
 |d,p::l=>⟨p.a,p.r,d,(p.t.size:Int),p.y⟩::gU (d+(p.t.size:Int)) l
def vE (l:List Prt):Nat:=(l.map (fun p=>p.t.size)).sum
theorem bEn (p:Prt) (l:List Prt):vE (p::l)=p.t.size+vE l:=by unfold vE;simp
theorem NK:∀(l:List Prt) (d:Int),(gU d l).length=l.length
 |[],_=>rfl
 |p::l,d=>by simp[gU,NK]
theorem aKo:∀(l m:List Prt) (d:Int),gU d (l++m)=gU d l++gU (d+(vE l:Int)) m
 |[],m,d=>by
  show gU d m=gU (d+((0:Nat):Int)) m;rw[Int.natCast_zero,Int.add_zero]
 |p::l,m,d=>by
  show _::gU _ (l++m)=_::(gU _ l++_);rw[aKo l m,bEn]
  grind
theorem bEo {l:List Prt} {k:Nat} {p:Prt} (h:l[k]? =some p):gU 0 (l.take (k+1))=gU 0 (l.take k)++[⟨p.a,p.r,(vE (l.take k):Int),(p.t.size:Int),p.y⟩]:=by
 rw[cG,h]
 grind [gU,aKo,vE]
theorem bEp {l:List Prt} {k:Nat} {p:Prt} (h:l[k]? =some p):vE (l.take (k+1))=vE (l.take k)+p.t.size:=by grind [cG,vE]
theorem MV (t:ByteArray) (l:List ByteArray):fN (t::l)=eJ t++fN l:=rfl
theorem bBs (x y:List ByteArray):fN (x++y)=fN x++fN y:=by unfold fN;simp
theorem bBt {l:List ByteArray} {i:Nat} {t:ByteArray} (h:l[i]? =some t):fN (l.take (i+1))=fN (l.take i)++eJ t:=by grind [cG,fN,bBs,MV,eJ]
end
end Go.Proofs.YtfckbfofgeilgaaGreatDoor
