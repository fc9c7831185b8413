/-
  Texts put together (part 29): the walks and the plain laws on which the statement stands.
-/
import Derived.Test.YtihbnmlinkbnkaaGreatDoorZ26
set_option maxRecDepth 100000
set_option maxHeartbeats 12800000
set_option linter.unusedVariables false
set_option linter.unusedSimpArgs false
open Go.Proofs.Tryz
open Go.Proofs.Tryz renaming prog->pG
open BitVec renaming ofInt->OQ
open Decidable renaming not_not->eB
open Int renaming le_refl->lV,le_trans->XE
open List renaming append_assoc->bU,append_nil->dI,flatMap_cons->yR,length_append->aL,length_pos_iff->gG,length_singleton->fQ,mem_append->dK,mem_cons_of_mem->iQ,mem_cons_self->jK,mem_map->eK,nil_append->eL,replicate->aX,take_left'->rH
open Nat renaming add_sub_cancel->oR,le_refl->aD
open UInt8 renaming ofNat->eA
namespace Go.Proofs.YtihbnmlinkbnkaaGreatDoor
section
open Go.RowKit
theorem aC9 {s:ByteArray} (d:0<s.size):s.data.toList≠[]:=fun e=>by
 have:s.data.toList.length=s.size:=by simp
 grind
theorem aUr {s:ByteArray} (d:0<s.size):1<=(bY s.data.toList).length:=by grind [JF,aC9,bY]
theorem ET {s:ByteArray} (d:0<s.size):sqA s=mkS (bY s.data.toList):=aA (by omega)
theorem LM {s:ByteArray} (d:0<s.size):sqO s=((gX (oOf s) s.size:Nat):Int):=aA (by omega)
theorem SG {s:ByteArray} (d:0<s.size):sqS s=dM 0 (dL (bY s.data.toList) (sR s))++[((bY s.data.toList).length:Int)+1]:=aA (by omega)
theorem aDa {s:ByteArray} (d:0<s.size):sqE s=0:=aA (by omega)
theorem aUs {s:ByteArray} (d:0<s.size):(sqA s).size=(bY s.data.toList).length:=by rw[ET d,cS]
theorem aDb {s:ByteArray} (d:0<s.size):(sqA s).data.toList≠[]/\bY (sqA s).data.toList=(sqA s).data.toList:=by grind [ET,dP,JF,aC9,YK,sqA,bY]
theorem aDc {s:ByteArray} (A:0<s.size) (d:iZ s):∀y∈dM 0 (dL (bY s.data.toList) (sR s)),0<=y/\y<((bY s.data.toList).length:Int)+1:=fun y F=>by
 have G:=aBm d
 grind [aUr,aMf,iZ,dM,dL,bY,sR]
theorem aDd {s:ByteArray} (d:0<s.size) (F:iZ s):jU (sqS s) (((sqA s).size:Int)+1):=by
 rw[SG d,aUs d];refine⟨by simp,by simp,fun x A=>?_⟩;rw[aL,fQ,oR,rH] at A
 ·exact aDc d F x A
 ·rfl
theorem aDe {s:ByteArray} (d:0<s.size) (A:iZ s):dD (sqS s)=dL (bY s.data.toList) (sR s):=by
 unfold dD;rw[SG d,aL,fQ,oR,rH rfl,aMe _ _ (fun x F=>(aBm A x F).1)];simp
theorem SH {s:ByteArray} (d:0<s.size) (A:iZ s):(dD (sqS s)).length=s.size:=by
 rw[aDe d A,vQ,aBk]
theorem aUt {s:ByteArray} (d:0<s.size) (A:iZ s):unL (sqA s).data.toList (dD (sqS s))=sR s:=by
 rw[aDe d A,ET d,dP];exact YN _ _ (aBl A)
theorem SI {s:ByteArray} (d:0<s.size) (A:iZ s):gX (oOf s) s.size<s.size/\oOf s (gX (oOf s) s.size)=0:=aP2 A d
theorem aUu {s:ByteArray} (d:0<s.size) (A:iZ s) {k:Nat} (F:k<s.size) {most:Int} (G:(s.size:Int)<=most):rest (sqA s) (k:Int) (sqS s) most=(mkS (rot s (oOf s k).toNat),0):=by grind [KE,aDb,aDd,SH,aUt,qR,sR,rot,oOf,aUq,iZ,rest,sqA,sqS,mkS]
theorem aUv (s:ByteArray):rot s 0=s.data.toList:=by
 unfold rot;simp
theorem aDf {s:ByteArray} (d:0<s.size) (A:iZ s) {most:Int} (F:(s.size:Int)<=most):rest (sqA s) (sqO s) (sqS s) most=(s,0):=by grind [SI,LM,aUu,aUv,qB,iZ,rest,sqA,sqO,sqS]
theorem aUw {s:ByteArray} (d:0<s.size) (A:iZ s) (o:Int) {most:Int} (F:most<(s.size:Int)):rest (sqA s) o (sqS s) most=(dN,4):=
 KC (aDb d) (aDd d A) (by rw[SH d A];omega)
def cO (s:List UInt8) (at' room:Int):ByteArray×Int×Int×Int:=
 if at'<0\/room<1\/360<room then(dN,0,0,1)
 else if aP s.length at' 48≠0 then(dN,0,0,aP s.length at' 48)
 else if aK s at' 48≠0x314159265359 then(dN,0,0,3)
 else if aP s.length (at'+48) 32≠0 then(dN,0,0,aP s.length (at'+48) 32)
 else if aP s.length (at'+80) 16≠0 then(dN,0,0,aP s.length (at'+80) 16)
 else
  let u:=dF s (at'+96)
  if u.2.2≠0 then(dN,0,0,u.2.2)
  else
   let c:=dW s u.2.1 ((u.1.length:Int)+2)
   if c.2.2≠0 then(dN,0,0,c.2.2)
   else
    let r:=rest (mkS u.1) (aK s (at'+80) 16) c.1 room
    if r.2≠0 then(dN,0,0,r.2)
    else
     let o:=jX r.1.data.toList (52*room)
     if o.2≠0 then(dN,0,0,o.2)
     else if(cH o.1).toNat≠aK s (at'+48) 32 then(dN,0,0,7)
     else(mkS o.1,(aK s (at'+48) 32:Int),c.2.1,0)
noncomputable def uN (t:ByteArray) (v:Nat):List Bool:=
 ER v (sqO (mkS (bT t.data.toList))).toNat (bY (bT t.data.toList)) (sqS (mkS (bT t.data.toList)))
noncomputable def eJ (t:ByteArray):List Bool:=uN t (cH t.data.toList).toNat
theorem aU8 (t:ByteArray) (v:Nat):(uN t v).length=48+32+16+(iL (bY (bT t.data.toList))).length+(wJ (sqS (mkS (bT t.data.toList))) ((bY (bT t.data.toList)).length+2)).length:=by
 unfold uN ER;simp only[aL,dV]
theorem aDi {p:ByteArray} (d:0<p.size) (A:iZ p):let n:=(bY p.data.toList).length+2
  (∀x∈sqS p,0<=x/\x<(n:Int))/\0<(sqS p).length/\(sqS p)[(sqS p).length-1]? =some ((n:Int)-1)/\(∀x∈(sqS p).take ((sqS p).length-1),x<(n:Int)-1):=by
 intro n;have G:=aDc d A;rw[SG d];refine⟨fun x F=>?_,by simp,?_,fun x F=>?_⟩
 ·grind
 ·grind
 ·grind
theorem aU9 {s:List UInt8} {a:Nat} {t:ByteArray} {v:Nat} {room:Int} (hv:v<2^32) (h0:0<t.size) (F:iZ (mkS (bT t.data.toList))) (a6:1<=room) (hr:room<=360) (a7:(bT t.data.toList).length<=8000) (h:cR s a (uN t v)):
  cO s (a:Int) room=if room<((bT t.data.toList).length:Int) then(dN,0,0,4) else if(cH t.data.toList).toNat=v then(t,(v:Int),((a+(uN t v).length:Nat):Int),0) else(dN,0,0,7):=by
 have a8:t.data.toList.length=t.size:=by simp
 have a0:t.data.toList≠[]:=fun e=>by grind
 have a1:=uM t.data.toList.length t.data.toList (aD _);have G:=a1.2.1 a0;have d:0<(mkS (bT t.data.toList)).size:=by rw[cS];exact gG.2 G
 have a9:(mkS (bT t.data.toList)).size=(bT t.data.toList).length:=cS _;obtain⟨H,f2,I,J⟩:=aDi d F;have b0:=(QY (mkS (bT t.data.toList))).1;have hor:=SI d F;have b1:=vX (bT t.data.toList);have a2:=JF G;have b2:=aCk t.data.toList.length t.data.toList (aD _);rw[dP] at H I J;have a3:(sqO (mkS (bT t.data.toList))).toNat<2^16:=by rw[LM d];omega
 have a4:(((sqO (mkS (bT t.data.toList))).toNat:Nat):Int)=sqO (mkS (bT t.data.toList)):=by rw[LM d];omega
 rw[aU8];unfold uN ER at h;obtain⟨h,L⟩:=gN h;obtain⟨h,M⟩:=gN h;obtain⟨h,O⟩:=gN h;obtain⟨s1,U⟩:=gN h;simp only[aL,dV] at U O M L;obtain⟨e1,v1⟩:=qY s1 (by decide);obtain⟨V,v2⟩:=qY U hv;obtain⟨Z,v3⟩:=qY O a3;have A:=aTy a2 M;rw[YK] at A;have e5:=aUl (by omega) (by omega) H (by omega) f2 I J L;rw[show((a+48:Nat):Int)=(a:Int)+48 by omega] at V v2;rw[show((a+(48+32):Nat):Int)=(a:Int)+80 by omega] at Z v3;rw[show((a+(48+32+16):Nat):Int)=(a:Int)+96 by omega] at A
 have a5:mkS (bY (bT t.data.toList))=sqA (mkS (bT t.data.toList)):=by rw[ET d,dP]
 unfold cO;rw[aA (by omega),aA (by rw[e1];simp),aA (by rw[v1];simp),aA (by rw[V];simp),aA (by rw[Z];simp),A];simp only
 rw[aA (by simp)];have ea:a+(48+32+16)+(iL (bY (bT t.data.toList))).length=a+(48+32+16+(iL (bY (bT t.data.toList))).length):=by omega
 rw[ea,show((bY (bT t.data.toList)).length:Int)+2=(((bY (bT t.data.toList)).length+2:Nat):Int) by omega,e5];simp only
 rw[aA (by simp),v3,a4,a5]
 by_cases hp:room<((bT t.data.toList).length:Int)
 ·grind [aUw,iZ,mkS,bT,cR,uN,cO,dN,cH]
 ·grind [aDf,dP,jX,bT,SJ,cH,qB,iZ,mkS,cR,uN,cO,dN]
theorem aDj {s:List UInt8} {a:Nat} {t:ByteArray} {room:Int} (d:0<t.size) (A:iZ (mkS (bT t.data.toList))) (H:((bT t.data.toList).length:Int)<=room) (F:room<=360) (h:cR s a (eJ t)):
  cO s (a:Int) room=(t,((cH t.data.toList).toNat:Int),((a+(eJ t).length:Nat):Int),0):=by
 have I:t.data.toList.length=t.size:=by simp
 have G:=(uM t.data.toList.length t.data.toList (aD _)).2.1 (fun e=>by grind);have:=gG.2 G;rw[aU9 (cH t.data.toList).isLt d A (by omega) F (by omega) h,aA (by omega),aB rfl];rfl
structure SM (a:ByteArray) (l:List Int) (most:Int) (t:ByteArray):Prop where
 pos:0<t.size
 tm:(t.size:Int)<=most
 len:t.size=(dD l).length
 two:2<=l.length
 last:l[l.length-1]? =some ((a.size:Int)+1)
 sym:∀x∈l.take (l.length-1),0<=x/\x<(a.size:Int)+1
 asz:a.size<=256
 bY:mkS (bY (a++t).data.toList)=a
theorem aVa (a t:ByteArray):(a++t).data.toList=a.data.toList++t.data.toList:=by simp
theorem aVb {s:List UInt8} {o:Nat} (h:o<s.length):∀b∈qR s o,b∈s:=by grind [xG,qR]
theorem aVc (a:ByteArray) (o:Int) (l:List Int) (most:Int):
  (∃e,rest a o l most=(dN,e)/\e≠0)\/∃t,rest a o l most=(t,0)/\SM a l most t:=by
 by_cases d:a.data.toList≠[]/\Go.Proofs.YtihbnmlinkbnkaaGreatDoor.bY a.data.toList=a.data.toList
 rotate_left
 ·exact .inl ⟨1,KB d,by decide⟩
 by_cases A:jU l ((a.size:Int)+1)
 rotate_left
 ·exact .inl ⟨3,QQ d A,by decide⟩
 by_cases F:((dD l).length:Int)<=most
 rotate_left
 ·exact .inl ⟨4,KC d A F,by decide⟩
 by_cases G:0<=o/\o<((dD l).length:Int)
 rotate_left
 ·exact .inl ⟨3,KD d A F G,by decide⟩
 refine .inr ⟨_,KE d A F G,?_⟩;have H:a.data.toList.length=a.size:=by rw[Array.length_toList];rfl
 have L:0<a.size:=by rw[<-H];exact gG.2 d.1
 have J:(unL a.data.toList (dD l)).length=(dD l).length:=sL _ _;have I:(qR (unL a.data.toList (dD l)) o.toNat).length=(dD l).length:=by rw[JS,J]
 have M:∀b∈qR (unL a.data.toList (dD l)) o.toNat,b∈a.data.toList:=fun b O=>
  PJ _ _ (by rw[H];exact QS A L) b (aVb (by rw[J];omega) b O)
 refine⟨by rw[cS,I];omega,by rw[cS,I];exact F,by rw[cS,I],?_,A.2.1,A.2.2,?_,?_⟩
 ·rcases Nat.lt_or_ge l.length 2 with q|q
  ·have e:dD l=[]:=by
    unfold dD;rw[show l.length-1=0 by omega];rfl
   rw[e] at G;simp at G;omega
  ·exact q
 ·rw[<-H,<-d.2];exact vX _
 ·rw[aVa,dP,YJ (t:=a.data.toList),d.2,qB];intro b;rw[dK];exact⟨fun h=>h.elim id (M b),.inl⟩
theorem SM.own {a t:ByteArray} {l:List Int} {most:Int} (h:SM a l most t) (d:iZ t):sqE t=0/\rest (sqA t) (sqO t) (sqS t) (t.size:Int)=(t,0):=
 ⟨aDa h.pos,aDf h.pos d (lV _)⟩
theorem CD {s:List UInt8} {at' room:Int} (h:(cO s at' room).2.2.2=0):0<=at'/\1<=room/\room<=360/\1<=(cO s at' room).1.size/\((cO s at' room).1.size:Int)<=52*room/\(cO s at' room).2.1=((cH (cO s at' room).1.data.toList).toNat:Int)/\at'+96<(cO s at' room).2.2.1/\(cO s at' room).2.2.1<=8*(s.length:Int)/\
  aK s at' 48=0x314159265359:=by
 unfold cO at h ⊢
 by_cases V:at'<0\/room<1\/360<room
 ·rw[aB V] at h;simp at h
 rw[aA V] at h ⊢
 by_cases L:aP s.length at' 48≠0
 ·rw[aB L] at h;exact absurd h L
 rw[aA L] at h ⊢
 by_cases M:aK s at' 48≠0x314159265359
 ·rw[aB M] at h;simp at h
 rw[aA M] at h ⊢
 by_cases O:aP s.length (at'+48) 32≠0
 ·rw[aB O] at h;exact absurd h O
 rw[aA O] at h ⊢
 by_cases U:aP s.length (at'+80) 16≠0
 ·rw[aB U] at h;exact absurd h U
 rw[aA U] at h ⊢;simp only at h ⊢;have Z:(dF s (at'+96)).2.2=0->at'+96<(dF s (at'+96)).2.1:=by
  intro e;have hb:=EO s (at'+96) 16;unfold dF at e ⊢;simp only at e ⊢
  by_cases G:(dQ s (at'+96) 16).2.2.2≠0
  ·rw[aB G] at e;exact absurd e G
  ·rw[aA G] at e ⊢
   by_cases k2:(dQ s (at'+96) 16).2.2.1=true
   ·rw[aB k2] at e;simp at e
   ·rw[aA k2];have:=(hb.2 (eB.1 G)).1;show at'+96<(dQ s (at'+96) 16).2.1;omega
 by_cases H:(dF s (at'+96)).2.2≠0
 ·rw[aB H] at h;exact absurd h H
 rw[aA H] at h ⊢;have Z:=Z (eB.1 H);generalize dF s (at'+96)=u at*
 by_cases I:(dW s u.2.1 ((u.1.length:Int)+2)).2.2≠0
 ·rw[aB I] at h;exact absurd h I
 rw[aA I] at h ⊢;have hc:=RZ (eB.1 I);generalize dW s u.2.1 ((u.1.length:Int)+2)=c at*
 have d:=aVc (mkS u.1) (aK s (at'+80) 16) c.1 room
 by_cases A:(rest (mkS u.1) (aK s (at'+80) 16) c.1 room).2≠0
 ·rw[aB A] at h;exact absurd h A
 rw[aA A] at h ⊢;rcases d with⟨e,d,he⟩|⟨p,d,a1⟩
 ·rw[d] at A;exact absurd he A
 rw[d] at h ⊢;simp only at h ⊢;have a2:p.data.toList≠[]:=fun e=>by
  have h1:p.data.toList.length=p.size:=by simp
  have h2:=a1.pos;rw[e] at h1;simp at h1;omega
 by_cases J:(jX p.data.toList (52*room)).2≠0
 ·rw[aB J] at h;exact absurd h J
 rw[aA J] at h ⊢;have a0:=aU2 a2 (eB.1 J);generalize jX p.data.toList (52*room)=o at*
 by_cases F:(cH o.1).toNat≠aK s (at'+48) 32
 ·rw[aB F] at h;simp at h
 rw[aA F];have F:=eB.1 F;have a3:=gG.2 a0.1;refine⟨by omega,by omega,by omega,by rw[cS];omega,by rw[cS];exact a0.2,by rw[dP,F],by show at'+96<c.2.1;omega,hc.2.2.2.2.2.2,eB.1 M⟩
end
section
open Go.RowKit Go Go.Shelf
def zM (x b:BitVec 32):BitVec 32:=(x<<<1|||x>>>31)^^^b
def iM (l:List (BitVec 32)):BitVec 32:=l.foldl zM 0#32
structure Prt where
 t:ByteArray
 y:Int
 a:Int
 z:Int
 r:Int
def sU (l:List Prt):BitVec 32:=iM (l.map (fun p=>OQ 32 p.y))
def fX (s:List UInt8) (k:Nat):Int×Int:=
 if s.length<k+4 then(0,2)
 else if(s.drop k).take 3≠[80,77,107]\/(s.getD (k+3) 0).toNat<49\/57<(s.getD (k+3) 0).toNat then(0,3)
 else(40*(((s.getD (k+3) 0).toNat:Int)-48),0)
def jP (a:Nat):Nat:=(8-a%8)%8
def kS (s:List UInt8) (a:Int) (v:BitVec 32):Int×Int:=
 if aP s.length (a+48) 32≠0 then(0,aP s.length (a+48) 32)
 else if aK s (a+48) 32≠v.toNat then(0,7)
 else if aK s (a+80) (jP (a+80).toNat)≠0 then(0,3)
 else(a+80+(jP (a+80).toNat:Int),0)
def eE (s:List UInt8) (r:Int):Nat->Int->List Prt->List Prt×Int×Int
 |0,a,acc=>(acc,a,2)
 |f+1,a,acc=>
  if aP s.length a 48≠0 then(acc,a,aP s.length a 48)
  else if aK s a 48=0x177245385090 then(acc,(kS s a (sU acc)).1,(kS s a (sU acc)).2)
  else if aK s a 48≠0x314159265359 then(acc,a,3)
  else if(cO s a r).2.2.2≠0 then(acc,a,(cO s a r).2.2.2)
  else eE s r f (cO s a r).2.2.1 (acc++[⟨(cO s a r).1,(cO s a r).2.1,a,(cO s a r).2.2.1,r⟩])
def cU (s:List UInt8) (a:Int):List Prt×Int×Int:=
 if(fX s (a/8).toNat).2≠0 then([],a,(fX s (a/8).toNat).2)
 else eE s (fX s (a/8).toNat).1 (8*s.length+1) (a+32) []
def gT (s:List UInt8):Nat->Int->List Prt->List Prt×Int
 |0,_,acc=>(acc,2)
 |f+1,a,acc=>
  if 8*(s.length:Int)<=a then(acc,0)
  else if(cU s a).2.2≠0 then(acc++(cU s a).1,(cU s a).2.2)
  else gT s f (cU s a).2.1 (acc++(cU s a).1)
def cI (s:List UInt8):List Prt×Int:=if s=[] then([],3) else gT s (8*s.length+1) 0 []
def okT (r:Int) (t:ByteArray):Prop:=0<t.size/\iZ (mkS (bT t.data.toList))/\((bT t.data.toList).length:Int)<=r
noncomputable def fN (l:List ByteArray):List Bool:=(l.map eJ).flatten
def EV (l:List ByteArray):BitVec 32:=iM (l.map (fun t=>cH t.data.toList))
def iN (n:Nat):List UInt8:=[80,77,107,eA (48+n)]
noncomputable def cM (n:Nat) (l:List ByteArray):List Bool:=eR (iN n)++(fN l++(aT 0x177245385090 48++aT (EV l).toNat 32))
def iD (l:List Bool):List Bool:=l++aX (jP l.length) false
noncomputable def dH (l:List (Nat×List ByteArray)):List Bool:=(l.map (fun p=>iD (cM p.1 p.2))).flatten
noncomputable def lB (r:Int):Nat->List ByteArray->List Prt
 |_,[]=>[]
 |a,t::l=>⟨t,((cH t.data.toList).toNat:Int),(a:Int),((a+(eJ t).length:Nat):Int),r⟩::lB r (a+(eJ t).length) l
noncomputable def kT:Nat->List (Nat×List ByteArray)->List Prt
 |_,[]=>[]
 |a,p::q=>lB (40*(p.1:Int)) (a+32) p.2++kT (a+(iD (cM p.1 p.2)).length) q
theorem aDk (a:Nat):jP a<8:=Nat.mod_lt _ (by decide)
theorem zN (a:Nat):(a+jP a)%8=0:=by unfold jP;omega
theorem zO (l:List Bool):(iD l).length=l.length+jP l.length:=by unfold iD;simp
theorem aVe (n:Nat):aT 0 n=aX n false:=by
 apply List.ext_getElem?
 grind [KI,dV,aT]
theorem aDl (l:List Bool):aI (iD l)=aI l:=by grind [zN,aDk,BS,iJ,zO,tR,iD,aI]
theorem aVf {x y:List Bool} (h:x.length%8=0):aI (x++y)=aI x++aI y:=by
 refine BS ?_ (fun i _=>?_)
 ·grind [iJ,aI]
 grind [EL,tR,iJ,aI]
theorem aVg (s:List UInt8) (k i:Nat):dO (s.drop k) i=dO s (8*k+i):=by grind [dO]
theorem aVh {s:List UInt8} {n i:Nat} (h:i<8*n):dO (s.take n) i=dO s i:=by grind [dO]
theorem aDm {s h:List UInt8} {k:Nat} (d:cR s (8*k) (eR h)):(s.drop k).take h.length=h:=by
 have F:=d.1;rw[qU] at F;have A:((s.drop k).take h.length).length=h.length:=by grind
 refine BS A (fun i hi=>?_);rw[A] at hi;rw[aVh hi,aVg,LK d (by rw[qU];exact hi),List.getD_eq_getElem?_getD,wA,aB hi];rfl
theorem aVi {s:List UInt8} {k n:Nat} (H:1<=n) (I:n<=9) (A:cR s (8*k) (eR (iN n))):fX s k=(40*(n:Int),0):=by
 have d:=aDm A;have F:=A.1;rw[qU] at F;have G:(iN n).length=4:=rfl;rw[G] at F d;have J:(s.drop k).take 3=[80,77,107]:=by
  have:((s.drop k).take 4).take 3=(iN n).take 3:=by rw[d]
  grind [cR,eR,iN,fX]
 have L:(s.getD (k+3) 0).toNat=48+n:=by
  have:((s.drop k).take 4)[3]? =(iN n)[3]? :=by rw[d]
  grind [eA,UInt8.toNat_ofNat',cR,eR,iN,fX]
 unfold fX
 grind
theorem SN (t:ByteArray):∃R,eJ t=aT 0x314159265359 48++R:=by simp[eJ,uN,ER,aT]
theorem aDn (t:ByteArray):48<=(eJ t).length:=by
 obtain⟨R,d⟩:=SN t
 grind [dV,eJ]
theorem aVj (v:BitVec 32):OQ 32 ((v.toNat:Nat):Int)=v:=by simp
theorem aDo (r:Int):∀(l:List ByteArray) (a:Nat),(lB r a l).map (fun p=>OQ 32 p.y)=l.map (fun t=>cH t.data.toList)
 |[],_=>rfl
 |t::l,a=>by
  show OQ 32 (((cH t.data.toList).toNat:Nat):Int)::_=_;rw[aVj,aDo r l];rfl
theorem aDp {s:List UInt8} {r:Int} (I:r<=360) {v:Nat}:∀(l:List ByteArray) (f a:Nat) (acc:List Prt),(∀t∈l,okT r t)->l.length<f->
  cR s a (fN l++(aT 0x177245385090 48++(aT v 32++aX (jP (a+(fN l).length+80)) false)))->v=(sU (acc++lB r a l)).toNat->
  eE s r f (a:Int) acc=(acc++lB r a l,((a+(fN l).length+80+jP (a+(fN l).length+80):Nat):Int),0)
 |[],0,_,_,_,A,_,_=>absurd A (by simp)
 |[],f+1,a,acc,_,_,h,J=>by
  have G:fN []=[]:=rfl;rw[G] at h ⊢;simp only[eL,List.length_nil,Nat.add_zero] at h ⊢;obtain⟨F,d⟩:=gN h;rw[dV] at d;obtain⟨O,H⟩:=gN d;rw[dV] at H;have U:=qY F (by decide);have V:v<2^32:=by omega
  have g2:=qY O V;rw[<-aVe] at H;have g3:=qY H (Nat.pow_pos (by decide))
  grind [lB,eE,kS,okT,cR,fN,aT,jP,sU]
 |t::l,0,_,_,_,A,_,_=>absurd A (by simp)
 |t::l,f+1,a,acc,L,A,h,J=>by
  have G:fN (t::l)=eJ t++fN l:=rfl;rw[G,bU] at h;obtain⟨F,d⟩:=gN h;obtain⟨R,Z⟩:=SN t;have M:=F;rw[Z] at M;have U:=qY (gN M).1 (by decide);obtain⟨o1,o2,o3⟩:=L t (jK ..);have a1:=aDj o1 o2 o3 I F;have a0:a+(eJ t++fN l).length=a+(eJ t).length+(fN l).length:=by grind
  rw[a0] at d;have ih:=aDp I l f (a+(eJ t).length) (acc++[⟨t,((cH t.data.toList).toNat:Int),(a:Int),((a+(eJ t).length:Nat):Int),r⟩]) (fun x hx=>L x (iQ _ hx)) (by grind) d (by rw[J,bU];rfl)
  grind [eE,okT,cR,fN,aT,jP,sU,lB]
theorem xT (n:Nat) (l:List ByteArray):(cM n l).length=32+(fN l).length+80:=by
 unfold cM;simp only[aL,dV,qU];show 8*4+_=_;omega
theorem aDq:∀l:List ByteArray,l.length<=(fN l).length
 |[]=>aD _
 |t::l=>by
  have:=aDq l
  grind [aDn,eJ,fN]
theorem SO {s:List UInt8} {k n:Nat} {l:List ByteArray} (G:1<=n) (H:n<=9) (I:∀t∈l,okT (40*(n:Int)) t) (h:cR s (8*k) (iD (cM n l))):
  cU s ((8*k:Nat):Int)=(lB (40*(n:Int)) (8*k+32) l,((8*k+(iD (cM n l)).length:Nat):Int),0):=by
 have a0:=h.1;have A:=xT n l;have F:=zO (cM n l);have a3:=aDq l;unfold iD at h;have J:cM n l++aX (jP (cM n l).length) false=eR (iN n)++(fN l++(aT 0x177245385090 48++(aT (EV l).toNat 32++aX (jP (cM n l).length) false))):=by
  unfold cM;simp
 rw[J] at h;obtain⟨L,d⟩:=gN h;rw[qU,show(iN n).length=4 from rfl] at d;have M:=aVi G H L;have O:(((8*k:Nat):Int)/8).toNat=k:=by omega
 unfold cU;rw[O,M,aA (fun k=>k rfl)];have U:jP (cM n l).length=jP (8*k+8*4+(fN l).length+80):=by rw[A];unfold jP;omega
 rw[U] at d F;have V:=aDp (s:=s) (r:=40*(n:Int)) (by omega) l (8*s.length+1) (8*k+8*4) [] I (by omega) d (by rw[eL];unfold sU EV;rw[aDo]);have Z:((8*k:Nat):Int)+32=((8*k+8*4:Nat):Int):=by omega
 rw[Z,V];simp only[eL];rw[F,A]
 congr 3
 omega
theorem aDr {s:List UInt8}:∀(l:List (Nat×List ByteArray)) (f k:Nat) (acc:List Prt),(∀p∈l,1<=p.1/\p.1<=9/\∀t∈p.2,okT (40*(p.1:Int)) t)->l.length<f->cR s (8*k) (dH l)->8*k+(dH l).length=8*s.length->
  gT s f ((8*k:Nat):Int) acc=(acc++kT (8*k) l,0)
 |[],0,_,_,_,d,_,_=>absurd d (by simp)
 |[],f+1,k,acc,_,_,_,A=>by grind [dH,gT,okT,cR,kT]
 |p::l,0,_,_,_,d,_,_=>absurd d (by simp)
 |p::l,f+1,k,acc,F,d,h,A=>by
  have I:dH (p::l)=iD (cM p.1 p.2)++dH l:=rfl;rw[I] at h A;rw[aL] at A;obtain⟨J,G⟩:=gN h;obtain⟨L,M,O⟩:=F p (jK ..);have H:=SO L M O J;have Z:=zO (cM p.1 p.2);have a0:=zN (cM p.1 p.2).length;have a1:=xT p.1 p.2;obtain⟨m,hm⟩:∃m,(iD (cM p.1 p.2)).length=8*m:=⟨(iD (cM p.1 p.2)).length/8,by omega⟩;have e:8*k+(iD (cM p.1 p.2)).length=8*(k+m):=by omega
  rw[e] at G H;have U:=aDr l f (k+m) (acc++lB (40*(p.1:Int)) (8*k+32) p.2) (fun x V=>F x (iQ _ V)) (by grind) G (by omega);unfold gT;rw[aA (by omega),H];simp only
  rw[aA (fun k=>k rfl),U,bU];show _=(acc++(lB (40*(p.1:Int)) (8*k+32) p.2++kT (8*k+(iD (cM p.1 p.2)).length) l),(0:Int));rw[e]
theorem EW (l:List (Nat×List ByteArray)):(dH l).length%8=0/\l.length<=(dH l).length:=by
 induction l with
 |nil=>exact⟨rfl,aD _⟩
 |cons p l A=>
  have d:dH (p::l)=iD (cM p.1 p.2)++dH l:=rfl;have F:=zO (cM p.1 p.2);have G:=zN (cM p.1 p.2).length;have H:=xT p.1 p.2;rw[d,aL,List.length_cons];omega
theorem aVk {l:List (Nat×List ByteArray)} (d:l≠[]) (A:∀p∈l,1<=p.1/\p.1<=9/\∀t∈p.2,okT (40*(p.1:Int)) t):cI (aI (dH l))=(kT 0 l,0):=by
 obtain⟨G,H⟩:=EW l;have I:=iJ (dH l);have J:=gG.2 d;have F:aI (dH l)≠[]:=fun e=>by grind
 unfold cI;rw[aA F];have:=aDr (s:=aI (dH l)) l (8*(aI (dH l)).length+1) 0 [] A (by omega) (ES _) (by omega)
 grind
theorem aDs (n:Nat) (l:List ByteArray):dH [(n,l)]=iD (cM n l):=by simp[dH,iD,cM]
theorem tU (n:Nat) (l:List ByteArray):aI (cM n l)=aI (dH [(n,l)]):=by
 rw[aDs,aDl]
theorem aDt (x y:List (Nat×List ByteArray)):dH (x++y)=dH x++dH y:=by unfold dH;simp
theorem aDu (x y:List (Nat×List ByteArray)):aI (dH x)++aI (dH y)=aI (dH (x++y)):=by
 rw[aDt,aVf (EW x).1]
theorem aDv (r:Int):∀(l:List ByteArray) (a:Nat),(lB r a l).map Prt.t=l
 |[],_=>rfl
 |t::l,a=>by simp[lB,eJ,aDv]
theorem SP:∀(l:List (Nat×List ByteArray)) (a:Nat),(kT a l).map Prt.t=(l.map (fun p=>p.2)).flatten
 |[],_=>rfl
 |p::l,a=>by simp[kT,aDv,SP]
theorem aVn {s:List UInt8} {a:Int} {v:BitVec 32} (h:(kS s a v).2=0):0<=a+48/\a+80<=(kS s a v).1/\(kS s a v).1<=8*(s.length:Int):=by grind [kS,aP,iG,aK,jP]
theorem LO {s:List UInt8} {r:Int}:∀(f:Nat) (a:Int) (acc:List Prt),(eE s r f a acc).2.2=0->a+80<=(eE s r f a acc).2.1/\(eE s r f a acc).2.1<=8*(s.length:Int)
 |0,_,_,h=>absurd h (by simp[eE])
 |f+1,a,acc,h=>by
  unfold eE at h ⊢
  by_cases F:aP s.length a 48≠0
  ·grind
  rw[aA F] at h ⊢
  by_cases d:aK s a 48=0x177245385090
  ·rw[aB d] at h ⊢;have:=aVn h
   grind
  rw[aA d] at h ⊢
  by_cases G:aK s a 48≠0x314159265359
  ·grind
  rw[aA G] at h ⊢
  by_cases A:(cO s a r).2.2.2≠0
  ·grind
  rw[aA A] at h ⊢;have H:=CD (eB.1 A);have I:=LO f _ _ h;omega
theorem EZ {s:List UInt8} {a:Int} (h:(cU s a).2.2=0):a+112<=(cU s a).2.1/\(cU s a).2.1<=8*(s.length:Int):=by
 unfold cU at h ⊢
 by_cases q:(fX s (a/8).toNat).2≠0
 ·grind
 rw[aA q] at h ⊢;have:=LO _ _ _ h;omega
theorem LP (l:List (Nat×List ByteArray)):8*(aI (dH l)).length=(dH l).length:=by
 have:=(EW l).1;rw[iJ];omega
def zP (s:List UInt8) (p:Prt):Prop:=cO s p.a p.r=(p.t,p.y,p.z,0)/\40<=p.r/\p.r<=360/\p.r%40=0
def qZ (s:List UInt8):Int->List Prt->Int->Prop
 |lo,[],hi=>lo<=hi
 |lo,p::l,hi=>lo<=p.a/\zP s p/\qZ s p.z l hi
theorem zP.facts {s:List UInt8} {p:Prt} (h:zP s p):p.y=((cH p.t.data.toList).toNat:Int)/\1<=p.t.size/\(p.t.size:Int)<=52*p.r/\0<=p.a/\p.a+96<p.z/\p.z<=8*(s.length:Int):=by
 have d:=CD (s:=s) (at':=p.a) (room:=p.r) (by rw[h.1])
 grind [zP,cH]
theorem aD1 {s:List UInt8} {lo d hi:Int} (h:d<=lo):∀{l:List Prt},qZ s lo l hi->qZ s d l hi
 |[],k=>XE h k
 |_::_,k=>⟨XE h k.1,k.2⟩
theorem SS {s:List UInt8} {d hi:Int} {m:List Prt} (A:qZ s d m hi):∀{l:List Prt} {lo:Int},qZ s lo l d->qZ s lo (l++m) hi
 |[],_,k=>aD1 k A
 |_::_,_,k=>⟨k.1,k.2.1,SS A k.2.2⟩
theorem aD2 {s:List UInt8} {k:Nat} (h:(fX s k).2=0):40<=(fX s k).1/\(fX s k).1<=360/\(fX s k).1%40=0:=by grind [fX]
theorem aD3 {s:List UInt8} {r:Int} (F:40<=r) (G:r<=360) (H:r%40=0):∀(f:Nat) (a:Int) (acc:List Prt),(eE s r f a acc).2.2=0->∃m,(eE s r f a acc).1=acc++m/\qZ s a m (eE s r f a acc).2.1
 |0,_,_,h=>absurd h (by simp[eE,qZ])
 |f+1,a,acc,h=>by
  have d:=LO (f+1) a acc h;unfold eE at h d ⊢
  by_cases J:aP s.length a 48≠0
  ·grind
  rw[aA J] at h d ⊢
  by_cases I:aK s a 48=0x177245385090
  ·rw[aB I] at h d ⊢;exact⟨[],(dI _).symm,by show a<=_;omega⟩
  rw[aA I] at h d ⊢
  by_cases L:aK s a 48≠0x314159265359
  ·grind
  rw[aA L] at h d ⊢
  by_cases A:(cO s a r).2.2.2≠0
  ·grind
  rw[aA A] at h d ⊢;obtain⟨m,M,O⟩:=aD3 F G H f _ _ h;refine⟨_::m,by rw[M,bU];rfl,lV _,⟨?_,F,G,H⟩,O⟩;have A:=eB.1 A;show cO s a r=((cO s a r).1,(cO s a r).2.1,(cO s a r).2.2.1,0);rw[<-A]
theorem aD4 {s:List UInt8} {a:Int} (h:(cU s a).2.2=0):qZ s (a+32) (cU s a).1 (cU s a).2.1:=by
 unfold cU at h ⊢
 by_cases q:(fX s (a/8).toNat).2≠0
 ·grind
 rw[aA q] at h ⊢;obtain⟨d,A,F⟩:=aD2 (eB.1 q)
 grind [aD3,cU,qZ]
theorem aD5 {s:List UInt8}:∀(f:Nat) (a:Int) (acc:List Prt),a<=8*(s.length:Int)->(gT s f a acc).2=0->∃m,(gT s f a acc).1=acc++m/\qZ s a m (8*(s.length:Int))
 |0,_,_,_,h=>absurd h (by simp[gT,qZ])
 |f+1,a,acc,F,h=>by
  unfold gT at h ⊢
  by_cases A:8*(s.length:Int)<=a
  ·rw[aB A];exact⟨[],(dI _).symm,F⟩
  rw[aA A] at h ⊢
  by_cases d:(cU s a).2.2≠0
  ·grind
  rw[aA d] at h ⊢;have d:=eB.1 d;obtain⟨m,H,G⟩:=aD5 f _ _ (EZ d).2 h;exact⟨(cU s a).1++m,by grind,SS G (aD1 (by omega) (aD4 d))⟩
theorem ST {s:List UInt8} (h:(cI s).2=0):qZ s 32 (cI s).1 (8*(s.length:Int)):=by
 unfold cI at h ⊢
 by_cases q:s=[]
 ·grind
 rw[aA q] at h ⊢;have A:=gG.2 q;unfold gT at h ⊢;rw[aA (by omega)] at h ⊢
 by_cases d:(cU s 0).2.2≠0
 ·grind
 rw[aA d] at h ⊢;have d:=eB.1 d;obtain⟨m,F,G⟩:=aD5 (8*s.length) _ _ (EZ d).2 h
 grind [SS,aD4,cI,qZ]
theorem aHp {s:List UInt8} {a:Int} {t:List (List Int)} {ch:List Int} {fin:Int} {k:Nat} (h:(bZ s a t ch fin k).2.2.1=0) (d:(bZ s a t ch fin k).2.2.2=false):bZ s a t ch fin (k+1)=
  if(dE (t.getD (ch.getD (k/10) 0).toNat []) s (bZ s a t ch fin k).2.1).2.2≠0 then((bZ s a t ch fin k).1,(bZ s a t ch fin k).2.1,(dE (t.getD (ch.getD (k/10) 0).toNat []) s (bZ s a t ch fin k).2.1).2.2,false)
  else if(dE (t.getD (ch.getD (k/10) 0).toNat []) s (bZ s a t ch fin k).2.1).1=fin then
   if k/10+1<ch.length then((bZ s a t ch fin k).1++[(dE (t.getD (ch.getD (k/10) 0).toNat []) s (bZ s a t ch fin k).2.1).1],(dE (t.getD (ch.getD (k/10) 0).toNat []) s (bZ s a t ch fin k).2.1).2.1,3,false)
   else((bZ s a t ch fin k).1++[(dE (t.getD (ch.getD (k/10) 0).toNat []) s (bZ s a t ch fin k).2.1).1],(dE (t.getD (ch.getD (k/10) 0).toNat []) s (bZ s a t ch fin k).2.1).2.1,0,true)
  else((bZ s a t ch fin k).1++[(dE (t.getD (ch.getD (k/10) 0).toNat []) s (bZ s a t ch fin k).2.1).1],(dE (t.getD (ch.getD (k/10) 0).toNat []) s (bZ s a t ch fin k).2.1).2.1,0,false):=by grind [bZ,dE]
theorem aHq {s:List UInt8} {a:Int} {t:List (List Int)} {ch:List Int} {fin:Int} {k:Nat} (h:(bZ s a t ch fin k).2.2.1≠0\/(bZ s a t ch fin k).2.2.2=true):∀j,bZ s a t ch fin (k+j)=bZ s a t ch fin k
 |0=>rfl
 |j+1=>by
  have d:=aHq h j
  grind [bZ]
theorem UE (s:List UInt8) (a:Int) (t:List (List Int)) (ch:List Int) (fin:Int):∀k,(bZ s a t ch fin k).1.length<=k
 |0=>aD _
 |k+1=>by
  have d:=UE s a t ch fin k
  grind [bZ]
theorem aHr {s:List UInt8} {a:Int} {t:List (List Int)} {ch:List Int} {fin:Int} {k:Nat} {r:List Int} {p E:Int} {b:Bool} (A:k<=10*ch.length) (h:bZ s a t ch fin k=(r,p,E,b)) (d:E≠0\/b=true):
  jW s a t ch fin=if E≠0 then([],0,E) else(r,p,0):=by
 have:=aHq (s:=s) (a:=a) (t:=t) (ch:=ch) (fin:=fin) (k:=k) (by rw[h];exact d) (10*ch.length-k)
 grind [jW,bZ]
theorem aHs {l:List Int} {s:List UInt8} {a:Nat} (h:(dE l s (a:Int)).2.2=0):(a:Int)<=(dE l s (a:Int)).2.1/\(dE l s (a:Int)).2.1<=8*(s.length:Int)/\0<=(dE l s (a:Int)).1/\(dE l s (a:Int)).1<(l.length:Int):=by grind [bM,dE,lA,zH,zI]
theorem aHt (s:List UInt8) (a c:Int):dW s a c=
  if aP s.length a 3≠0 then([],0,aP s.length a 3)
  else if aK s a 3<2\/6<aK s a 3 then([],0,3)
  else if aP s.length (a+3) 15≠0 then([],0,aP s.length (a+3) 15)
  else if aK s (a+3) 15=0 then([],0,3)
  else if(eD s (a+18) (aK s (a+3) 15) (aK s a 3)).2.2≠0 then([],0,(eD s (a+18) (aK s (a+3) 15) (aK s a 3)).2.2)
  else if(bO s (eD s (a+18) (aK s (a+3) 15) (aK s a 3)).2.1 c (aK s a 3)).2.2≠0 then([],0,(bO s (eD s (a+18) (aK s (a+3) 15) (aK s a 3)).2.1 c (aK s a 3)).2.2)
  else jW s (bO s (eD s (a+18) (aK s (a+3) 15) (aK s a 3)).2.1 c (aK s a 3)).2.1 (bO s (eD s (a+18) (aK s (a+3) 15) (aK s a 3)).2.1 c (aK s a 3)).1 (eD s (a+18) (aK s (a+3) 15) (aK s a 3)).1 (c-1):=rfl
theorem aHu {s:List UInt8} {a n t:Nat} (A:2<=t) (d:t<=6) (F:n<=1048576) (h:(eD s (a:Int) (n:Int) (t:Int)).2.2=0):
  (eD s (a:Int) (n:Int) (t:Int)).1.length=n/\(∀x∈(eD s (a:Int) (n:Int) (t:Int)).1,0<=x/\x<(t:Int))/\(a:Int)<=(eD s (a:Int) (n:Int) (t:Int)).2.1/\((eD s (a:Int) (n:Int) (t:Int)).2.1=(a:Int)\/(eD s (a:Int) (n:Int) (t:Int)).2.1<=8*(s.length:Int)):=by
 rw[MB s a n t A d F] at h ⊢;split at h
 ·grind
 ·next q=>
  rw[aA q];obtain⟨L,M,G,H⟩:=BV s (t:Int) (a:Int) (by omega) (by omega) n (eB.1 q);refine⟨by grind [sL,eD],fun x I=>?_,G,H⟩;obtain⟨b,J,rfl⟩:=eK.1 I;have:=(RI d b).1 (PJ _ _ (fun y O=>by grind [sT,eD]) b J);omega
def CP (a:Int) (D:ByteArray×Int×Int×Int):Value:=.agg #[.string D.1,.int .u32 D.2.1,.int .i64 (if D.2.2.2=0 then a else 0),.int .i64 D.2.2.1]
theorem bA5 (a:Int) (x:ByteArray) (y z E:Int) (h:E≠0):CP a (x,y,z,E)=.agg #[.string x,.int .u32 y,.int .i64 0,.int .i64 z]:=by unfold CP;rw[aA h]
theorem aH1 (a:Int) (x:ByteArray) (y z:Int):CP a (x,y,z,0)=.agg #[.string x,.int .u32 y,.int .i64 a,.int .i64 z]:=by simp[CP]
theorem aH2:(pG.info? 46).map (·.size)=some 4:=by kernel_rfl
theorem tA {w W:World} {z:Nat} {H I J L:Value} (M:Arr W z 46 [H,I,J,L]) (O:Below z w W) (d A F G:Value):
  Arr ((((W.setCell ⟨z,0,none⟩ d).setCell ⟨z,1,none⟩ A).setCell ⟨z,2,none⟩ F).setCell ⟨z,3,none⟩ G) z 46 [d,A,F,G]/\
  Below z w ((((W.setCell ⟨z,0,none⟩ d).setCell ⟨z,1,none⟩ A).setCell ⟨z,2,none⟩ F).setCell ⟨z,3,none⟩ G):=
 ⟨(((M.set 0 _).set 1 _).set 2 _).set 3 _,(((O.setCell (p:=⟨z,0,none⟩) (aD _) _).setCell (p:=⟨z,1,none⟩) (aD _) _).setCell (p:=⟨z,2,none⟩) (aD _) _).setCell (p:=⟨z,3,none⟩) (aD _) _⟩
theorem UJ (s:List UInt8) (a room:Int):cO s a room=
  if a<0\/room<1\/360<room then(dN,0,0,1)
  else if aP s.length a 48≠0 then(dN,0,0,aP s.length a 48)
  else if aK s a 48≠0x314159265359 then(dN,0,0,3)
  else if aP s.length (a+48) 32≠0 then(dN,0,0,aP s.length (a+48) 32)
  else if aP s.length (a+80) 16≠0 then(dN,0,0,aP s.length (a+80) 16)
  else if(dF s (a+96)).2.2≠0 then(dN,0,0,(dF s (a+96)).2.2)
  else if(dW s (dF s (a+96)).2.1 (((dF s (a+96)).1.length:Int)+2)).2.2≠0 then(dN,0,0,(dW s (dF s (a+96)).2.1 (((dF s (a+96)).1.length:Int)+2)).2.2)
  else if(rest (mkS (dF s (a+96)).1) (aK s (a+80) 16) (dW s (dF s (a+96)).2.1 (((dF s (a+96)).1.length:Int)+2)).1 room).2≠0 then(dN,0,0,(rest (mkS (dF s (a+96)).1) (aK s (a+80) 16) (dW s (dF s (a+96)).2.1 (((dF s (a+96)).1.length:Int)+2)).1 room).2)
  else if(jX (rest (mkS (dF s (a+96)).1) (aK s (a+80) 16) (dW s (dF s (a+96)).2.1 (((dF s (a+96)).1.length:Int)+2)).1 room).1.data.toList (52*room)).2≠0 then(dN,0,0,(jX (rest (mkS (dF s (a+96)).1) (aK s (a+80) 16) (dW s (dF s (a+96)).2.1 (((dF s (a+96)).1.length:Int)+2)).1 room).1.data.toList (52*room)).2)
  else if(cH (jX (rest (mkS (dF s (a+96)).1) (aK s (a+80) 16) (dW s (dF s (a+96)).2.1 (((dF s (a+96)).1.length:Int)+2)).1 room).1.data.toList (52*room)).1).toNat≠aK s (a+48) 32 then(dN,0,0,7)
  else(mkS (jX (rest (mkS (dF s (a+96)).1) (aK s (a+80) 16) (dW s (dF s (a+96)).2.1 (((dF s (a+96)).1.length:Int)+2)).1 room).1.data.toList (52*room)).1,(aK s (a+48) 32:Int),(dW s (dF s (a+96)).2.1 (((dF s (a+96)).1.length:Int)+2)).2.1,0):=rfl
theorem aH3 (a:ByteArray) (o:Int) (l:List Int) (most:Int) (h:(rest a o l most).2=0):((rest a o l most).1.size:Int)<=most:=by grind [rest,cS,JS,sL]
theorem aH4 {s:List UInt8} {a:Int} (h:(dF s a).2.2=0):(dF s a).1.length<=256/\a+16<=(dF s a).2.1/\(dF s a).2.1<=a+272:=by grind [EO,dF,dQ]
structure BIn (t:ByteArray) (P a:List UInt8) (m:List Int) (o n:Nat):Prop where
 hP:P=bT t.data.toList
 ha:a=bY P
 hm:m=sqS (mkS P)
 ho:(o:Int)=sqO (mkS P)
 hn:n=a.length+2
 hA:sqA (mkS P)=mkS a
 hE:sqE (mkS P)=0
 o16:o<65536
 an:a≠[]
 a256:a.length<=256
 n2:3<=n
 n258:n<=258
 m0:0<m.length
 m361:m.length<=9000
 rng:∀x∈m,0<=x/\x<(n:Int)
 c0:bM (eN m n 0)=0
 c1:bM (eN m n 1)=0
 l0:(eN m n 0).length=n
 l1:(eN m n 1).length=n
theorem BIn.of {t:ByteArray} (V:0<t.size) (Z:(bT t.data.toList).length<=8000) (A:iZ (mkS (bT t.data.toList))):∃P a m o n,BIn t P a m o n:=by
 have a0:t.data.toList.length=t.size:=by simp
 have I:t.data.toList≠[]:=fun e=>by grind
 have J:=uM t.data.toList.length t.data.toList (aD _);have L:=J.2.1 I;have d:0<(mkS (bT t.data.toList)).size:=by grind [cS,bT,iZ,mkS]
 have a1:(mkS (bT t.data.toList)).size=(bT t.data.toList).length:=cS _;obtain⟨F,M,f3,f4⟩:=aDi d A;have a2:=(QY (mkS (bT t.data.toList))).1;have hor:=SI d A;have O:=vX (bT t.data.toList);have G:=JF L;have U:=LM d;have H:=ET d;rw[dP] at F H;have a3:=gG.2 G;refine⟨_,_,_,gX (oOf (mkS (bT t.data.toList))) (mkS (bT t.data.toList)).size,_,rfl,rfl,rfl,U.symm,rfl,H,aDa d,by omega,G,O,by omega,by omega,M,by omega,F,?_,?_,?_,?_⟩
 ·grind [xR,bT,iZ,mkS]
 ·grind [xR,bT,iZ,mkS]
 ·grind [wF,bT,iZ,mkS]
 ·grind [wF,bT,iZ,mkS]
theorem BIn.blk {t:ByteArray} {P a:List UInt8} {m:List Int} {o n:Nat} (h:BIn t P a m o n):eJ t=aT 0x314159265359 48++aT (cH t.data.toList).toNat 32++aT o 16++iL a++(aT 2 3++aT (dS m n).length 15++eW (fJ (dS m n))++fI (eN m n 0)++fI (eN m n 1)++iB (eN m n 0) (eN m n 1) (dS m n) (dA m)):=by
 have e:(sqO (mkS (bT t.data.toList))).toNat=o:=by have:=h.ho;rw[h.hP] at this;omega
 unfold eJ uN ER wJ;rw[e,<-h.hP,<-h.ha,<-h.hm,<-h.hn]
theorem aH5 {l g:List Int} (h:gM l) (d:∀x∈g,0<=x/\x<(l.length:Int)) (A:0<g.length):0<(gF l g).length:=by
 cases g with
 |nil=>simp at A
 |cons x g=>
  have F:=d x (jK ..);have:=(lX h (s:=x.toNat) (by omega)).1;unfold gF;rw[yR,aL,dV];omega
theorem bA6 (s:List UInt8):0<(iL s).length:=by grind [iL,pO]
theorem aH6 (l:List Int):0<(fI l).length:=by grind [fI,dV]
theorem CQ {l:List Int} (h:gM l):(fI l).length<=5+39*258:=by grind [KV,fI,dV,gM]
theorem aH7 {l:List Int} (h:0<l.length):0<(eW l).length:=by
 cases l with
 |nil=>simp at h
 |cons x l=>
  unfold eW oC;rw[yR,aL,aL];simp;omega
def jZ (t:ByteArray) (room:Int):Int:=if t.size=0\/room<1\/360<room then 1 else if room<((bT t.data.toList).length:Int) then 4 else 0
noncomputable def tB (t:ByteArray) (room:Int):List Bool:=if jZ t room=0 then eJ t else[]
def FV (w w':World) (t:ByteArray) (room:Int) (e:Ending):Prop:=e=.returned (.tuple #[fT (tB t room),.int .i64 (jZ t room)])/\Below w.heap.size w w'/\(jZ t room=0->iZ (mkS (bT t.data.toList)))
theorem bA7:fT []=.agg #[.string ⟨#[]⟩,.int .i64 0]:=rfl
theorem zZ {w w':World} {t:ByteArray} {room E:Int} (h:jZ t room=E) (d:E≠0) (A:Below w.heap.size w w'):FV w w' t room (.returned (.tuple #[.agg #[.string ⟨#[]⟩,.int .i64 0],.int .i64 E])):=by grind [tB,bA7,jZ,FV]
theorem rdQ {d A F:Prop} {B:Nat} {w0 w':World} {v:Value} {m:List Int} (e:RdI w0 v m) (G:w0.heap.size=B) (h:d/\A/\F/\Below B w0 w'/\B<=w'.heap.size):RdI w' v m:=e.below (G▸h.2.2.2.1)
theorem bA8 {m:List Int} {n j:Nat} {g:List Int} (h:(dA m)[j]? =some g):(dS m n)[j]? =some (rO (eN m n 0) (eN m n 1) g):=by grind [dS,dA,rO,eN]
theorem UK {t0 t1 d:List Int} {gs:List (List Int)} {k:Nat} {c:Int} {g:List Int} (A:d[k]? =some c) (F:gs[k]? =some g):iB t0 t1 (d.take (k+1)) (gs.take (k+1))=iB t0 t1 (d.take k) (gs.take k)++gF (if c=0 then t0 else t1) g:=by grind [List.getElem?_eq_some_iff,List.take_add_one,RV,List.length_take,iB,gF]
def uO:Prt:=⟨dN,0,0,0,0⟩
def okP (l:List Prt):List (Prt×Int):=l.map (fun p=>(p,0))
theorem LQ (l m:List Prt):okP (l++m)=okP l++okP m:=List.map_append
theorem aVt (p:Prt):okP [p]=[(p,0)]:=rfl
def jY (s:List UInt8):List (Prt×Int):=okP (cI s).1++if(cI s).2=0 then[] else[(uO,(cI s).2)]
theorem aD6 {s:List UInt8} {r:Int}:∀(f:Nat) (a:Int) (acc:List Prt),∃m,(eE s r f a acc).1=acc++m
 |0,a,acc=>⟨[],by simp[eE]⟩
 |f+1,a,acc=>by
  unfold eE;split
  ·simp
  split
  ·simp
  split
  ·simp
  split
  ·simp
  ·obtain⟨m,d⟩:=aD6 (s:=s) (r:=r) f (cO s a r).2.2.1 (acc++[⟨(cO s a r).1,(cO s a r).2.1,a,(cO s a r).2.2.1,r⟩])
   grind
theorem aD7 {s:List UInt8}:∀(f:Nat) (a:Int) (acc:List Prt),∃m,(gT s f a acc).1=acc++m
 |0,a,acc=>⟨[],by simp[gT]⟩
 |f+1,a,acc=>by
  unfold gT;split
  ·simp
  split
  ·simp
  ·obtain⟨m,d⟩:=aD7 (s:=s) f (cU s a).2.1 (acc++(cU s a).1)
   grind
structure InT (s:List UInt8) (a:Int) (pre T:List (Prt×Int)):Prop where
 part:∀acc p m,(cU s a).1=acc++p::m->∃r,T=(pre++okP acc)++(p,0)::r
 bad:(cU s a).2.2≠0->T=(pre++okP (cU s a).1)++[(uO,(cU s a).2.2)]
theorem aVu {s:List UInt8} {f:Nat} {a:Int} {acc:List Prt} (h:cI s=gT s (f+1) a acc) (A:a<8*(s.length:Int)):InT s a (okP acc) (jY s):=by
 have d:gT s (f+1) a acc=if 8*(s.length:Int)<=a then(acc,0) else if(cU s a).2.2≠0 then(acc++(cU s a).1,(cU s a).2.2) else gT s f (cU s a).2.1 (acc++(cU s a).1):=rfl;rw[d,aA (by omega)] at h;refine⟨fun F p m G=>?_,fun H=>?_⟩
 ·have:∃r,(cI s).1=acc++(cU s a).1++r:=by
   rw[h];split
   ·simp
   ·exact aD7 f _ _
  obtain⟨r,I⟩:=this
  grind [jY,LQ,okP,cI,uO,gT]
 grind [jY,LQ,cI,gT,okP]
theorem aVv {s:List UInt8} {f:Nat} {a:Int} {acc:List Prt} (h:cI s=gT s (f+1) a acc) (d:a<8*(s.length:Int)) (A:(cU s a).2.2=0):cI s=gT s f (cU s a).2.1 (acc++(cU s a).1):=by grind [cU,gT,cI]
theorem aVw {s:List UInt8} {f:Nat} {a:Int} {acc:List Prt} (h:cI s=gT s (f+1) a acc) (d:8*(s.length:Int)<=a):jY s=okP acc/\(cI s).2=0:=by grind [cI,cU,gT,jY,okP]
theorem aVx:jY []=[(uO,3)]:=by
 have:cI []=([],3):=rfl;unfold jY;rw[this];rfl
theorem aD8 {s:List UInt8} {r:Int}:∀(f:Nat) (a:Int) (acc:List Prt),0<=a->a<=8*(s.length:Int)->96*((eE s r f a acc).1.length:Int)+a<=96*(acc.length:Int)+8*(s.length:Int)
 |0,a,acc,_,h=>by show 96*(acc.length:Int)+a<=_;omega
 |f+1,a,acc,A,h=>by
  unfold eE;split
  ·grind
  split
  ·grind
  split
  ·grind
  split
  ·grind
  ·next q=>
   have d:=CD (eB.1 q);have F:=aD8 (s:=s) (r:=r) f (cO s a r).2.2.1 (acc++[⟨(cO s a r).1,(cO s a r).2.1,a,(cO s a r).2.2.1,r⟩]) (by omega) d.2.2.2.2.2.2.2.1
   grind
theorem aD9 {s:List UInt8} {r:Int}:∀(f:Nat) (a:Int) (acc:List Prt),0<=a->(eE s r f a acc).2.2=0->(eE s r f a acc).2.1%8=0
 |0,_,_,_,h=>absurd h (by simp[eE])
 |f+1,a,acc,H,h=>by
  unfold eE at h ⊢
  by_cases A:aP s.length a 48≠0
  ·grind
  rw[aA A] at h ⊢
  by_cases F:aK s a 48=0x177245385090
  ·grind [kS,aP,aK,sU,jP,zN,eE]
  rw[aA F] at h ⊢
  by_cases G:aK s a 48≠0x314159265359
  ·grind
  rw[aA G] at h ⊢
  by_cases d:(cO s a r).2.2.2≠0
  ·grind
  rw[aA d] at h ⊢;have I:=CD (eB.1 d);exact aD9 f _ _ (by omega) h
theorem aVy {s:List UInt8} {a:Int} (d:0<=a) (h:(cU s a).2.2=0):(cU s a).2.1%8=0:=by grind [cU,fX,aD9]
theorem aVz {s:List UInt8} {pre r:List (Prt×Int)} {x:Prt×Int} (h:jY s=pre++x::r) (A:x.2≠0):x=(uO,(cI s).2)/\(cI s).2≠0:=by
 have d:x∈jY s:=by rw[h];simp
 unfold jY at d;rcases dK.1 d with d|d
 ·obtain⟨p,_,rfl⟩:=eK.1 d
  grind
 grind
theorem aV0 {s:List UInt8} (h:∀x∈jY s,x.2=0):(cI s).2=0/\jY s=okP (cI s).1:=by
 by_cases q:(cI s).2=0
 ·grind [jY,cI,okP]
 ·exfalso;refine q (h (uO,(cI s).2) ?_);unfold jY
  grind
def FZ (w w':World) (s:List UInt8) (a room:Int) (e:Ending):Prop:=
 e=.returned (.tuple #[CP a (cO s a room),.int .i64 (cO s a room).2.2.2])/\Below w.heap.size w w'
theorem qI {w w':World} {s:List UInt8} {a room E:Int} (h:cO s a room=(dN,0,0,E)) (d:E≠0) (A:Below w.heap.size w w'):FZ w w' s a room (.returned (.tuple #[.agg #[.string dN,.int .u32 0,.int .i64 0,.int .i64 0],.int .i64 E])):=
 ⟨by rw[h,bA5 a _ _ _ _ d],A⟩
theorem aIx {p:List UInt8} {most:Int} (h:(jX p most).2=0):((jX p most).1.length:Int)<=most:=by grind [jX,eX]
end
end Go.Proofs.YtihbnmlinkbnkaaGreatDoor
