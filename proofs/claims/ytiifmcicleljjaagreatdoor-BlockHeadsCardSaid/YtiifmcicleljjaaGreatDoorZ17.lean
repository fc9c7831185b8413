/-
  Texts put together (part 17): the walks and the plain laws on which the statement stands.
-/
import Derived.Deep.RegionLawGrows
import Derived.Test.YtiifmcicleljjaaGreatDoorZ15
import Derived.Test.YtiifmcicleljjaaGreatDoorZ16
set_option maxRecDepth 100000
set_option maxHeartbeats 12800000
open Array renaming getElem?_eq_some_iff->gQ
open Decidable renaming not_not->dK
open Go renaming callsD_of_wpS->FY,wpAnyH_ready->fL
open Go.Act renaming eval->qC,put->aJ
open Go.AllReadyH renaming cons->fA,nil->fM
open Go.Builtin renaming append_->tT
open Go.Exit renaming thenS->GA
open Go.Instr renaming typeAssert->BA
open Go.IntKind renaming i64->aI,wrap_i64->aM
open Go.Oper renaming wp->lX
open Go.Region renaming wanted->nR
open Go.RowKit renaming ownsRow_setCell_below->aCj
open Go.RowKit.Below renaming refl->aB
open Go.Value renaming slice->lK
open Go.World renaming cell?_setCell_other->iQ,size_alloc->fV
open Int renaming tmod_eq_emod_of_nonneg->oJ,toNat_natCast->eG
open List renaming append_assoc->cF,getD_eq_getElem?_getD->aV,getElem?_cons_zero->aP,getElem?_eq_getElem->aN,getElem?_toArray->aR,getElem_mem->gT,length_append->aL,length_drop->cI,length_map->bJ,length_pos_iff->kV,length_singleton->fK,length_take->aX,map_cons->pG,map_nil->xS,mem_singleton->dC,nil_append->iG,setIfInBounds_toArray->aK,set_cons_succ->aG,set_cons_zero->aH,take_add_one->cQ,take_length->kE,take_of_length_le->cS
open Nat renaming add_assoc->dZ,add_sub_cancel->jZ,le_refl->aA,le_succ->pI,le_trans->aW
open Option.some renaming inj->bW,injEq->iP
open Prod renaming ext->gK
namespace Go.Proofs.YtiifmcicleljjaaGreatDoor
section
def mO (t0 t1 cs m:List Int):Nat->List Bool
 |0=>[]
 |k+1=>mO t0 t1 cs m k++aY (fO (if cs.getD (k/10) 0=0 then t0 else t1) (m.getD k 0).toNat) (bG (if cs.getD (k/10) 0=0 then t0 else t1) (m.getD k 0).toNat)
theorem XA (t0 t1 cs m:List Int) (i:Nat):∀j,j<=10->10*i+j<=m.length->mO t0 t1 cs m (10*i+j)=mO t0 t1 cs m (10*i)++eR (if cs.getD i 0=0 then t0 else t1) (((m.drop (10*i)).take 10).take j)
 |0,_,_=>by simp[eR]
 |j+1,h,hm=>by
  have e:((m.drop (10*i)).take 10).take (j+1)=((m.drop (10*i)).take 10).take j++[m.getD (10*i+j) 0]:=by
   rw[cQ]
   congr 1
   rw[List.getElem?_take,if_pos (by omega),List.getElem?_drop,aV,aN (by omega)];rfl
  rw[e,SI,<-cF,<-XA t0 t1 cs m i j (by omega) (by omega),<-dZ];show mO t0 t1 cs m (10*i+j)++_=_;rw[show(10*i+j)/10=i by omega]
theorem XB (t0 t1 cs m:List Int) (hcs:cs.length=(m.length+9)/10):∀i,i<=(m.length+9)/10->gP t0 t1 (cs.take i) ((cK m).take i)=mO t0 t1 cs m (min (10*i) m.length)
 |0,_=>by simp[gP,mO]
 |i+1,h=>by
  have e1:cs.take (i+1)=cs.take i++[cs.getD i 0]:=by
   rw[cQ,aV,aN (by omega)];rfl
  have e2:(cK m).take (i+1)=(cK m).take i++[(m.drop (10*i)).take 10]:=by
   rw[cQ,wH m i (by omega)];rfl
  rw[e1,e2,KL _ _ _ _ _ _ (by rw[aX,aX,iD];omega),XB t0 t1 cs m hcs i (by omega),show min (10*i) m.length=10*i by omega];have hg:=XA t0 t1 cs m i (min 10 (m.length-10*i)) (by omega) (by omega);rw[show min (10*(i+1)) m.length=10*i+min 10 (m.length-10*i) by omega,hg]
  congr 2
  rw[List.take_take]
  by_cases q:10<=m.length-10*i
  ·rw[show min (min 10 (m.length-10*i)) 10=10 by omega]
  ·rw[cS (by rw[cI];omega),cS (by rw[cI];omega)]
theorem XC (t0 t1 cs m:List Int) (hcs:cs.length=(m.length+9)/10):gP t0 t1 cs (cK m)=mO t0 t1 cs m m.length:=by
 have:=XB t0 t1 cs m hcs ((m.length+9)/10) (aA _);rw[cS (by omega),cS (by rw[iD];exact aA _),show min (10*((m.length+9)/10)) m.length=m.length by omega] at this;exact this
theorem XD (t0 t1 cs m:List Int) (k:Nat):∀j,∃r,mO t0 t1 cs m (k+j)=mO t0 t1 cs m k++r
 |0=>⟨[],by simp⟩
 |j+1=>by
  obtain⟨r,hr⟩:=XD t0 t1 cs m k j;refine⟨r++aY (fO (if cs.getD ((k+j)/10) 0=0 then t0 else t1) (m.getD (k+j) 0).toNat) (bG (if cs.getD ((k+j)/10) 0=0 then t0 else t1) (m.getD (k+j) 0).toNat),?_⟩;rw[<-dZ,<-cF,<-hr];rfl
theorem aMf {s:List UInt8} {a:Nat} {t0 t1 cs m:List Int} {n:Nat} (h0:bL t0=0) (h1:bL t1=0) (l0:t0.length=n) (l1:t1.length=n) (hcs:cs.length=(m.length+9)/10) (hc:∀x∈cs,x=0\/x=1)
  (hm:∀x∈m,0<=x/\x<(n:Int)) (hmp:0<m.length) (hlast:m[m.length-1]? =some ((n:Int)-1)) (hnot:∀x∈m.take (m.length-1),x<(n:Int)-1)
  (h:fH s a (gP t0 t1 cs (cK m))):∀k,k<=m.length->
   bH s (a:Int) [t0,t1] cs ((n:Int)-1) k=(m.take k,((a+(mO t0 t1 cs m k).length:Nat):Int),0,decide (k=m.length)):=by
 rw[XC t0 t1 cs m hcs] at h;intro k
 induction k with
 |zero=>
  intro _;unfold bH;rw[decide_eq_false (by omega)];simp[mO]
 |succ k ih=>
  intro hk;have ih:=ih (by omega);rw[decide_eq_false (by omega)] at ih;obtain⟨r,hr⟩:=XD t0 t1 cs m (k+1) (m.length-(k+1));rw[show k+1+(m.length-(k+1))=m.length by omega] at hr;rw[hr] at h;have hst:=(jN (jN h).1).2;have hx:=hm m[k] (gT (by omega));have ex:m.getD k 0=m[k]:=by rw[aV,aN (by omega)];rfl
  have ht:m.take (k+1)=m.take k++[m[k]]:=by rw[cQ,aN (by omega)];rfl
  have hcg:cs.getD (k/10) 0=0\/cs.getD (k/10) 0=1:=by
   rw[aV,aN (by omega)];exact hc _ (gT _)
  have htab:[t0,t1].getD (cs.getD (k/10) 0).toNat []=if cs.getD (k/10) 0=0 then t0 else t1:=by
   rcases hcg with q|q<;>rw[q]<;>rfl
  have hck:bL (if cs.getD (k/10) 0=0 then t0 else t1)=0:=by split;exact h0;exact h1
  have hlk:(if cs.getD (k/10) 0=0 then t0 else t1).length=n:=by split;exact l0;exact l1
  have hL:(mO t0 t1 cs m (k+1)).length=(mO t0 t1 cs m k).length+bG (if cs.getD (k/10) 0=0 then t0 else t1) (m.getD k 0).toNat:=by
   show(mO t0 t1 cs m k++aY _ _).length=_;rw[aL,cY]
  rw[hL];generalize (if cs.getD (k/10) 0=0 then t0 else t1)=tb at*
  rw[ex] at hst ⊢;have hsym:=aJj hck (i:=m[k].toNat) (by omega) hst;unfold bH;rw[ih];simp only
  rw[if_neg (by simp),htab,hsym];simp only
  rw[if_neg (by simp)];have ei:((m[k].toNat:Nat):Int)=m[k]:=by omega
  rw[ei,ht]
  by_cases hkl:k+1=m.length
  ·have hl:m[k]=(n:Int)-1:=by
    have:m[m.length-1]? =some m[k]:=by rw[show m.length-1=k by omega,aN (by omega)]
    rw[hlast] at this
    injection this with this
    exact this.symm
   rw[if_pos hl,if_neg (by omega),decide_eq_true hkl,dZ]
  ·have hl:m[k]<(n:Int)-1:=hnot _ (by
    refine List.mem_iff_getElem.2 ⟨k,by rw[aX];omega,?_⟩;rw[List.getElem_take])
   rw[if_neg (by omega),decide_eq_false hkl,dZ]
theorem XE {s:List UInt8} {at':Int} {t:List (List Int)} {cs:List Int} {fin:Int} {k:Nat} (h:(bH s at' t cs fin k).2.2.2=true):∀j,bH s at' t cs fin (k+j)=bH s at' t cs fin k
 |0=>rfl
 |j+1=>by
  rw[<-dZ];show(if(bH s at' t cs fin (k+j)).2.2.1≠0\/(bH s at' t cs fin (k+j)).2.2.2=true then _ else _)=_;rw[XE h j,if_pos (.inr h)]
theorem aMg (cs:List Int) (hc:∀x∈cs,x=0\/x=1):(∀x∈dO cs,0<=x/\x<2)/\(unL (cC 2) (dO cs)).map (fun b=>(b.toNat:Int))=cs:=by
 have hmem:∀b∈cs.map (fun c=>UInt8.ofNat c.toNat),b∈cC 2:=fun b hb=>by
  obtain⟨x,hx,rfl⟩:=List.mem_map.1 hb;rw[KA (by decide)];rcases hc x hx with rfl|rfl<;>decide
 constructor
 ·intro x hx;have:=vT _ _ hmem x hx;rw[oR] at this;exact this
 ·unfold dO;rw[PN _ _ hmem,List.map_map]
  conv=>rhs;rw[<-List.map_id cs]
  apply List.map_congr_left;intro x hx;rcases hc x hx with rfl|rfl<;>rfl
theorem aMh {s:List UInt8} {a n:Nat} {m:List Int} (h2:2<=n) (h258:n<=258) (hm:∀x∈m,0<=x/\x<(n:Int)) (hml:m.length<=20000) (hmp:0<m.length) (hlast:m[m.length-1]? =some ((n:Int)-1)) (hnot:∀x∈m.take (m.length-1),x<(n:Int)-1)
  (h:fH s a (rV m n)):cV s (a:Int) (n:Int)=(m,((a+(rV m n).length:Nat):Int),0):=by
 have hc:=DE m n;have hcl:=wJ m n;obtain⟨hp1,hp2⟩:=aMg (cT m n) hc;have k0:=tB h2 h258 hm hml (which:=0);have k1:=tB h2 h258 hm hml (which:=1);have o0:=rQ h2 h258 hm hml (which:=0);have o1:=rQ h2 h258 hm hml (which:=1);have hlen:(rV m n).length=3+15+(dE (dO (cT m n))).length+(dW (dN m n 0)).length+(dW (dN m n 1)).length+(gP (dN m n 0) (dN m n 1) (cT m n) (cK m)).length:=by
  unfold rV;simp only[aL,cY]
 rw[hlen];unfold rV at h;obtain⟨h,s6⟩:=jN h;obtain⟨h,s5⟩:=jN h;obtain⟨h,s4⟩:=jN h;obtain⟨h,s3⟩:=jN h;obtain⟨s1,s2⟩:=jN h;simp only[aL,cY] at s2 s3 s4 s5 s6;obtain⟨e1,v1⟩:=uX s1 (by decide);obtain⟨e2,v2⟩:=uX s2 (by rw[hcl];omega);have hplen:(dO (cT m n)).length=(cT m n).length:=by unfold dO;rw[rH,bJ]
 have e3:=aJi (tables:=2) hp1 s3 (dO (cT m n)).length (aA _);rw[kE,hplen] at e3;have e4:=UX o0.1 s4;have e5:=UX o1.1 s5;rw[o0.2] at e4;rw[o1.2] at e5;rw[show((a+3:Nat):Int)=(a:Int)+3 by omega] at e2 v2;have es:=aMf k0 k1 o0.2 o1.2 hcl hc hm hmp hlast hnot s6 m.length (aA _);rw[decide_eq_true rfl] at es;have es2:=XE (by rw[es]) (10*(cT m n).length-m.length);rw[show m.length+(10*(cT m n).length-m.length)=10*(cT m n).length by omega,es] at es2;generalize hcs:cT m n=cs at*
 generalize dN m n 0=t0 at*
 generalize dN m n 1=t1 at*
 unfold cV;rw[if_neg (by rw[e1];simp),v1,if_neg (by omega),if_neg (by rw[e2];simp),v2,if_neg (by omega)];have esel:dD s ((a:Int)+18) ((cs.length:Nat):Int) ((2:Nat):Int)=(cs,((a+18+(dE (dO cs)).length:Nat):Int),0):=by
  unfold dD;rw[if_neg (by omega),eG,show(a:Int)+18=((a+(3+15):Nat):Int) by omega];have:cO s ((2:Nat):Int) ((a+(3+15):Nat):Int) cs.length=(dO cs,_,0):=e3;rw[this];simp only
  rw[if_neg (by simp),eG,hp2]
 rw[esel];simp only
 rw[if_neg (by simp)];have etab:bF s ((a+18+(dE (dO cs)).length:Nat):Int) (n:Int) 2=([t0,t1],((a+18+(dE (dO cs)).length+(dW t0).length+(dW t1).length:Nat):Int),0):=by
  have ea:a+(3+15+(dE (dO cs)).length)=a+18+(dE (dO cs)).length:=by omega
  have eb:a+(3+15+(dE (dO cs)).length+(dW t0).length)=a+18+(dE (dO cs)).length+(dW t0).length:=by omega
  rw[ea] at e4;rw[eb] at e5;have f1:bF s ((a+18+(dE (dO cs)).length:Nat):Int) (n:Int) 1=([t0],((a+18+(dE (dO cs)).length+(dW t0).length:Nat):Int),0):=by
   simp only[bF,e4,k0,ne_eq,not_true,if_false,iG]
  unfold bF;rw[f1];simp only
  rw[if_neg (by simp),e5];simp only
  rw[if_neg (by simp),if_neg (by rw[k1];simp)];rfl
 rw[etab];simp only
 rw[if_neg (by simp)];unfold gX;have ec:a+18+(dE (dO cs)).length+(dW t0).length+(dW t1).length=a+(3+15+(dE (dO cs)).length+(dW t0).length+(dW t1).length):=by omega
 rw[ec,es2];simp only
 rw[if_neg (by simp),if_pos trivial,kE];rw[XC t0 t1 cs m hcl];refine gK rfl (gK ?_ rfl);show((a+(3+15+(dE (dO cs)).length+(dW t0).length+(dW t1).length)+(mO t0 t1 cs m m.length).length:Nat):Int)=_
 congr 1
 omega
end
section
open Go.RowKit
def cL (s:List UInt8) (at' room:Int):ByteArray×Int×Int×Int:=
 if at'<0\/room<1\/360<room then(cW,0,0,1)
 else if aO s.length at' 48≠0 then(cW,0,0,aO s.length at' 48)
 else if aE s at' 48≠0x314159265359 then(cW,0,0,3)
 else if aO s.length (at'+48) 32≠0 then(cW,0,0,aO s.length (at'+48) 32)
 else if aO s.length (at'+80) 16≠0 then(cW,0,0,aO s.length (at'+80) 16)
 else
  let u:=cG s (at'+96)
  if u.2.2≠0 then(cW,0,0,u.2.2)
  else
   let c:=cV s u.2.1 ((u.1.length:Int)+2)
   if c.2.2≠0 then(cW,0,0,c.2.2)
   else
    let r:=rest (mkS u.1) (aE s (at'+80) 16) c.1 room
    if r.2≠0 then(cW,0,0,r.2)
    else
     let o:=fR r.1.data.toList (52*room)
     if o.2≠0 then(cW,0,0,o.2)
     else if(fG o.1).toNat≠aE s (at'+48) 32 then(cW,0,0,7)
     else(mkS o.1,(aE s (at'+48) 32:Int),c.2.1,0)
noncomputable def oB (t:ByteArray) (v:Nat):List Bool:=
 yV v (sqO (mkS (bC t.data.toList))).toNat (bK (bC t.data.toList)) (sqS (mkS (bC t.data.toList)))
noncomputable def cB (t:ByteArray):List Bool:=oB t (fG t.data.toList).toNat
theorem aOl (t:ByteArray) (v:Nat):(oB t v).length=48+32+16+(fZ (bK (bC t.data.toList))).length+(rV (sqS (mkS (bC t.data.toList))) ((bK (bC t.data.toList)).length+2)).length:=by
 unfold oB yV;simp only[aL,cY]
theorem YJ {p:ByteArray} (h0:0<p.size) (hO:fS p):let n:=(bK p.data.toList).length+2
  (∀x∈sqS p,0<=x/\x<(n:Int))/\0<(sqS p).length/\(sqS p)[(sqS p).length-1]? =some ((n:Int)-1)/\(∀x∈(sqS p).take ((sqS p).length-1),x<(n:Int)-1):=by
 intro n;have he:=YB h0 hO;rw[MA h0];refine⟨fun x hx=>?_,by simp,?_,fun x hx=>?_⟩
 ·rcases List.mem_append.1 hx with hx|hx
  ·have:=he x hx;omega
  ·obtain rfl:=dC.1 hx;omega
 ·rw[aL,fK,jZ,List.getElem?_append_right (aA _),Nat.sub_self,aP]
  congr 1;omega
 ·rw[aL,fK,jZ,List.take_left' rfl] at hx;have:=he x hx;omega
theorem ME {s:List UInt8} {a:Nat} {t:ByteArray} {v:Nat} {room:Int} (hv:v<2^32) (h0:0<t.size) (hO:fS (mkS (bC t.data.toList))) (hr1:1<=room) (hr:room<=360) (hp8:(bC t.data.toList).length<=8000) (h:fH s a (oB t v)):
  cL s (a:Int) room=if room<((bC t.data.toList).length:Int) then(cW,0,0,4) else if(fG t.data.toList).toNat=v then(t,(v:Int),((a+(oB t v).length:Nat):Int),0) else(cW,0,0,7):=by
 have htl:t.data.toList.length=t.size:=by simp
 have hne:t.data.toList≠[]:=fun e=>by rw[e] at htl;simp at htl;omega
 have hpl:=oS t.data.toList.length t.data.toList (aA _);have hpn:=hpl.2.1 hne;have hp0:0<(mkS (bC t.data.toList)).size:=by rw[cP];exact kV.2 hpn
 have hpsz:(mkS (bC t.data.toList)).size=(bC t.data.toList).length:=cP _;obtain⟨f1,f2,f3,f4⟩:=YJ hp0 hO;have hsl:=(LW (mkS (bC t.data.toList))).1;have hor:=MC hp0 hO;have hal:=rX (bC t.data.toList);have han:=BT hpn;have hun:=UA t.data.toList.length t.data.toList (aA _);rw[fW] at f1 f3 f4;have hob:(sqO (mkS (bC t.data.toList))).toNat<2^16:=by rw[EF hp0];omega
 have hoe:(((sqO (mkS (bC t.data.toList))).toNat:Nat):Int)=sqO (mkS (bC t.data.toList)):=by rw[EF hp0];omega
 rw[aOl];unfold oB yV at h;obtain⟨h,s5⟩:=jN h;obtain⟨h,s4⟩:=jN h;obtain⟨h,s3⟩:=jN h;obtain⟨s1,s2⟩:=jN h;simp only[aL,cY] at s2 s3 s4 s5;obtain⟨e1,v1⟩:=uX s1 (by decide);obtain⟨e2,v2⟩:=uX s2 hv;obtain⟨e3,v3⟩:=uX s3 hob;have e4:=aJn han s4;rw[PK] at e4;have e5:=aMh (by omega) (by omega) f1 (by omega) f2 f3 f4 s5;rw[show((a+48:Nat):Int)=(a:Int)+48 by omega] at e2 v2;rw[show((a+(48+32):Nat):Int)=(a:Int)+80 by omega] at e3 v3
 rw[show((a+(48+32+16):Nat):Int)=(a:Int)+96 by omega] at e4;have hsA:mkS (bK (bC t.data.toList))=sqA (mkS (bC t.data.toList)):=by rw[zO hp0,fW]
 unfold cL;rw[if_neg (by omega),if_neg (by rw[e1];simp),if_neg (by rw[v1];simp),if_neg (by rw[e2];simp),if_neg (by rw[e3];simp),e4];simp only
 rw[if_neg (by simp)];have ea:a+(48+32+16)+(fZ (bK (bC t.data.toList))).length=a+(48+32+16+(fZ (bK (bC t.data.toList))).length):=by omega
 rw[ea,show((bK (bC t.data.toList)).length:Int)+2=(((bK (bC t.data.toList)).length+2:Nat):Int) by omega,e5];simp only
 rw[if_neg (by simp),v3,hoe,hsA]
 by_cases hp:room<((bC t.data.toList).length:Int)
 ·rw[aOf hp0 hO _ (by rw[hpsz];exact hp),if_pos hp];simp only
  rw[if_pos (by decide)]
 ·rw[YE hp0 hO (most:=room) (by rw[hpsz];omega),if_neg hp];simp only
  rw[if_neg (by simp),fW];have hu:fR (bC t.data.toList) (52*room)=(t.data.toList,0):=by
   rw[LI hun,if_neg (by omega)]
  rw[hu];simp only
  rw[if_neg (by simp),v2]
  by_cases hc:(fG t.data.toList).toNat=v
  ·rw[if_neg (fun k=>k hc),if_pos hc,pL];refine gK rfl (gK rfl (gK ?_ rfl));refine congrArg (fun k:Nat=>(k:Int)) ?_;omega
  ·rw[if_pos hc,if_neg hc]
theorem EI {s:List UInt8} {a:Nat} {t:ByteArray} {room:Int} (h0:0<t.size) (hO:fS (mkS (bC t.data.toList))) (hp:((bC t.data.toList).length:Int)<=room) (hr:room<=360) (h:fH s a (cB t)):
  cL s (a:Int) room=(t,((fG t.data.toList).toNat:Int),((a+(cB t).length:Nat):Int),0):=by
 have htl:t.data.toList.length=t.size:=by simp
 have hpn:=(oS t.data.toList.length t.data.toList (aA _)).2.1 (fun e=>by rw[e] at htl;simp at htl;omega);have:=kV.2 hpn;rw[ME (fG t.data.toList).isLt h0 hO (by omega) hr (by omega) h,if_neg (by omega),if_pos rfl];rfl
theorem aOp (s t:List UInt8) (at' room:Int):(cL s at' room).2.2.2=2\/cL (s++t) at' room=cL s at' room:=by
 by_cases q0:at'<0\/room<1\/360<room
 ·right
  unfold cL;rw[if_pos q0,if_pos q0]
 ·rcases oV s t at' 48 with h|⟨h1,h2⟩
  ·left
   unfold cL;rw[if_neg q0,if_pos (by omega)];exact h
  ·by_cases q1:aO s.length at' 48≠0
   ·right
    unfold cL;rw[h1,if_neg q0,if_neg q0,if_pos q1,if_pos q1]
   ·by_cases q2:aE s at' 48≠0x314159265359
    ·right
     unfold cL;rw[h1,h2,if_neg q0,if_neg q0,if_neg q1,if_neg q1,if_pos q2,if_pos q2]
    ·rcases oV s t (at'+48) 32 with r|⟨r1,r2⟩
     ·left
      unfold cL;rw[if_neg q0,if_neg q1,if_neg q2,if_pos (by omega)];exact r
     ·by_cases q3:aO s.length (at'+48) 32≠0
      ·right
       unfold cL;rw[h1,h2,r1,if_neg q0,if_neg q0,if_neg q1,if_neg q1,if_neg q2,if_neg q2,if_pos q3,if_pos q3]
      ·rcases oV s t (at'+80) 16 with o|⟨o1,o2⟩
       ·left
        unfold cL;rw[if_neg q0,if_neg q1,if_neg q2,if_neg q3,if_pos (by omega)];exact o
       ·by_cases q4:aO s.length (at'+80) 16≠0
        ·right
         unfold cL;rw[h1,h2,r1,o1,if_neg q0,if_neg q0,if_neg q1,if_neg q1,if_neg q2,if_neg q2,if_neg q3,if_neg q3,if_pos q4,if_pos q4]
        ·rcases aJu s t (at'+96) with u|u
         ·left
          unfold cL;rw[if_neg q0,if_neg q1,if_neg q2,if_neg q3,if_neg q4];simp only
          rw[if_pos (by omega)];exact u
         ·by_cases q5:(cG s (at'+96)).2.2≠0
          ·right
           unfold cL;rw[h1,h2,r1,o1,if_neg q0,if_neg q0,if_neg q1,if_neg q1,if_neg q2,if_neg q2,if_neg q3,if_neg q3,if_neg q4,if_neg q4];simp only
           rw[u,if_pos q5,if_pos q5]
          ·rcases aJ4 s t (cG s (at'+96)).2.1 (((cG s (at'+96)).1.length:Int)+2) with c|c
           ·left
            unfold cL;rw[if_neg q0,if_neg q1,if_neg q2,if_neg q3,if_neg q4];simp only
            rw[if_neg q5,if_pos (by omega)];exact c
           ·right
            unfold cL;rw[h1,h2,r1,r2,o1,o2,if_neg q0,if_neg q0,if_neg q1,if_neg q1,if_neg q2,if_neg q2,if_neg q3,if_neg q3,if_neg q4,if_neg q4];simp only
            rw[u,if_neg q5,if_neg q5,c]
theorem aOq {a:ByteArray} {o:Int} {l:List Int} {most more:Int} (h:(rest a o l most).2=0) (hm:most<=more):rest a o l more=rest a o l most:=by
 by_cases h1:a.data.toList≠[]/\Go.Proofs.YtiifmcicleljjaaGreatDoor.bK a.data.toList=a.data.toList
 rotate_left
 ·rw[wQ h1,wQ h1]
 by_cases h2:gW l ((a.size:Int)+1)
 rotate_left
 ·rw[zK h1 h2,zK h1 h2]
 by_cases h3:((cE l).length:Int)<=most
 rotate_left
 ·rw[zL h1 h2 h3] at h;simp at h
 by_cases h4:0<=o/\o<((cE l).length:Int)
 rotate_left
 ·rw[zM h1 h2 h3 h4] at h;simp at h
 rw[wR h1 h2 h3 h4,wR h1 h2 (by omega) h4]
theorem aTr {s:List UInt8} {at' room more:Int} (h:(cL s at' room).2.2.2=0) (hm:room<=more) (h360:more<=360):cL s at' more=cL s at' room:=by
 unfold cL at h ⊢
 by_cases q0:at'<0\/room<1\/360<room
 ·rw[if_pos q0] at h;simp at h
 ·rw[if_neg q0] at h;rw[if_neg q0,if_neg (by omega)]
  by_cases q1:aO s.length at' 48≠0
  ·rw[if_pos q1,if_pos q1]
  rw[if_neg q1] at h;rw[if_neg q1,if_neg q1]
  by_cases q2:aE s at' 48≠0x314159265359
  ·rw[if_pos q2,if_pos q2]
  rw[if_neg q2] at h;rw[if_neg q2,if_neg q2]
  by_cases q3:aO s.length (at'+48) 32≠0
  ·rw[if_pos q3,if_pos q3]
  rw[if_neg q3] at h;rw[if_neg q3,if_neg q3]
  by_cases q4:aO s.length (at'+80) 16≠0
  ·rw[if_pos q4,if_pos q4]
  rw[if_neg q4] at h;rw[if_neg q4,if_neg q4];simp only at h ⊢
  by_cases q5:(cG s (at'+96)).2.2≠0
  ·rw[if_pos q5,if_pos q5]
  rw[if_neg q5] at h;rw[if_neg q5,if_neg q5];generalize cG s (at'+96)=u at*
  by_cases q6:(cV s u.2.1 ((u.1.length:Int)+2)).2.2≠0
  ·rw[if_pos q6,if_pos q6]
  rw[if_neg q6] at h;rw[if_neg q6,if_neg q6];generalize cV s u.2.1 ((u.1.length:Int)+2)=c at*
  by_cases q7:(rest (mkS u.1) (aE s (at'+80) 16) c.1 room).2≠0
  ·rw[if_pos q7] at h;exact absurd h q7
  rw[if_neg q7] at h;rw[aOq (dK.1 q7) hm];generalize rest (mkS u.1) (aE s (at'+80) 16) c.1 room=r at*
  rw[if_neg q7,if_neg q7]
  by_cases q8:(fR r.1.data.toList (52*room)).2≠0
  ·rw[if_pos q8] at h;exact absurd h q8
  rw[aKc (dK.1 q8) (show 52*room<=52*more by omega)]
theorem YK {s:List UInt8} {at' room:Int} (h:(cL s at' room).2.2.2=0):0<=at'/\1<=room/\room<=360/\1<=(cL s at' room).1.size/\((cL s at' room).1.size:Int)<=52*room/\(cL s at' room).2.1=((fG (cL s at' room).1.data.toList).toNat:Int)/\at'+96<(cL s at' room).2.2.1/\(cL s at' room).2.2.1<=8*(s.length:Int)/\
  aE s at' 48=0x314159265359:=by
 unfold cL at h ⊢
 by_cases q0:at'<0\/room<1\/360<room
 ·rw[if_pos q0] at h;simp at h
 rw[if_neg q0] at h ⊢
 by_cases q1:aO s.length at' 48≠0
 ·rw[if_pos q1] at h;exact absurd h q1
 rw[if_neg q1] at h ⊢
 by_cases q2:aE s at' 48≠0x314159265359
 ·rw[if_pos q2] at h;simp at h
 rw[if_neg q2] at h ⊢
 by_cases q3:aO s.length (at'+48) 32≠0
 ·rw[if_pos q3] at h;exact absurd h q3
 rw[if_neg q3] at h ⊢
 by_cases q4:aO s.length (at'+80) 16≠0
 ·rw[if_pos q4] at h;exact absurd h q4
 rw[if_neg q4] at h ⊢;simp only at h ⊢;have hu:(cG s (at'+96)).2.2=0->at'+96<(cG s (at'+96)).2.1:=by
  intro e;have hb:=yE s (at'+96) 16;unfold cG at e ⊢;simp only at e ⊢
  by_cases k1:(cJ s (at'+96) 16).2.2.2≠0
  ·rw[if_pos k1] at e;exact absurd e k1
  ·rw[if_neg k1] at e ⊢
   by_cases k2:(cJ s (at'+96) 16).2.2.1=true
   ·rw[if_pos k2] at e;simp at e
   ·rw[if_neg k2];have:=(hb.2 (dK.1 k1)).1;show at'+96<(cJ s (at'+96) 16).2.1;omega
 by_cases q5:(cG s (at'+96)).2.2≠0
 ·rw[if_pos q5] at h;exact absurd h q5
 rw[if_neg q5] at h ⊢;have hu:=hu (dK.1 q5);generalize cG s (at'+96)=u at*
 by_cases q6:(cV s u.2.1 ((u.1.length:Int)+2)).2.2≠0
 ·rw[if_pos q6] at h;exact absurd h q6
 rw[if_neg q6] at h ⊢;have hc:=LG (dK.1 q6);generalize cV s u.2.1 ((u.1.length:Int)+2)=c at*
 have hk:=aOo (mkS u.1) (aE s (at'+80) 16) c.1 room
 by_cases q7:(rest (mkS u.1) (aE s (at'+80) 16) c.1 room).2≠0
 ·rw[if_pos q7] at h;exact absurd h q7
 rw[if_neg q7] at h ⊢;rcases hk with⟨e,hk,he⟩|⟨p,hk,hkp⟩
 ·rw[hk] at q7;exact absurd he q7
 rw[hk] at h ⊢;simp only at h ⊢;have hpne:p.data.toList≠[]:=fun e=>by
  have h1:p.data.toList.length=p.size:=by simp
  have h2:=hkp.pos;rw[e] at h1;simp at h1;omega
 by_cases q8:(fR p.data.toList (52*room)).2≠0
 ·rw[if_pos q8] at h;exact absurd h q8
 rw[if_neg q8] at h ⊢;have hun:=aKb hpne (dK.1 q8);generalize fR p.data.toList (52*room)=o at*
 by_cases q9:(fG o.1).toNat≠aE s (at'+48) 32
 ·rw[if_pos q9] at h;simp at h
 rw[if_neg q9];have q9:=dK.1 q9;have hpos:=kV.2 hun.1;refine⟨by omega,by omega,by omega,by rw[cP];omega,by rw[cP];exact hun.2,by rw[fW,q9],by show at'+96<c.2.1;omega,hc.2.2.2.2.2.2,dK.1 q2⟩
theorem YL {t:ByteArray} {room:Int} (h0:0<t.size) (hO:fS (mkS (bC t.data.toList))) (hp:((bC t.data.toList).length:Int)<=room) (hr:room<=360) {k:Nat} (hk:8*k<(cB t).length):
  (cL ((aD (cB t)).take k) 0 room).2.2.2=2:=by
 rcases aOp ((aD (cB t)).take k) ((aD (cB t)).drop k) 0 room with h|h
 ·exact h
 ·rw[List.take_append_drop] at h;have hb:=EI (s:=aD (cB t)) (a:=0) h0 hO hp hr (zP _);rw[show((0:Nat):Int)=0 from rfl] at hb;rw[hb] at h;have hok:=YK (s:=(aD (cB t)).take k) (at':=0) (room:=room) (by rw[<-h]);rw[<-h] at hok;have h8:=hok.2.2.2.2.2.2.2.1;rw[aX] at h8;have h9:((0+(cB t).length:Nat):Int)<=8*(min k (aD (cB t)).length:Nat):=h8;omega
end
section
open Go.RowKit Go Go.Shelf
theorem aPm (p q r:Addr) (w:World):
  CallsD Tryz.prog 202 #[.pointer (some p),.pointer (some q),.pointer (some r)] .returning w fun e u' w'=>e=.returned (.tuple #[])/\u'=.returning/\w'=w:=by
 refine FY Tryz.func202 rfl fun c₀ cs hu=>?_
 apply wpS_seq;apply wpS_region;simp[wpOpsS,go_sem,recoverD,hu,Tryz.ntmps202,GA];refine wpS_of_wp ?_;go_wp2
 cases c₀
 simp_all [bodyPostS,results,Tryz.f202]
theorem tH {b c o p:Nat} (h:b≠c):(⟨b,o,none⟩:Addr)≠⟨c,p,none⟩:=fun e=>h (congrArg Addr.block e)
theorem aPn (v:Value) (xT:TypeId) (w:World):(BA (.iface 253 v) xT 253 true).run Tryz.prog w=.ok (.tuple #[v,.bool true]) w:=by
 simp[BA,run_underlying Tryz.underlying253]
theorem aPo (z:Nat) (E:Int) (older:List PanicEntry) (w:World) (x6 x7 x8:Value) (g6:Arr w z 27 [x6]) (g7:Arr w (z+1) 3 [x7]) (g8:Arr w (z+1+1) 30 [x8]):
  CallsD Tryz.prog 202 #[.pointer (some ⟨z,0,none⟩),.pointer (some ⟨z+1,0,none⟩),.pointer (some ⟨z+1+1,0,none⟩)] (.panicking ({v:=.iface 253 (.agg #[.int .i64 E]),recovered:=false}::older)) w fun e u' w'=>
   e=.returned (.tuple #[])/\u'=.panicking ({v:=.iface 253 (.agg #[.int .i64 E]),recovered:=true}::older)/\Arr w' z 27 [.slice none 0 0]/\Arr w' (z+1) 3 [.int .i64 0]/\Arr w' (z+1+1) 30 [.int .i64 E]/\Below z w w':=by
 have e6:=g6.cell (i:=0) rfl;have e7:=g7.cell (i:=0) rfl;have e8:=g8.cell (i:=0) rfl;have f6:=g6.free 0;have f7:=g7.free 0;have f8:=g8.free 0;refine FY Tryz.func202 rfl fun c₀ cs hu=>?_
 apply wpS_seq;apply wpS_region;simp[wpOpsS,go_sem,recoverD,hu,Tryz.ntmps202,GA];refine wpS_of_wp ?_;simp only[Array.replicate_succ,Array.replicate_zero,List.push_toArray,List.append_toArray,iG,List.cons_append,aK,aH,aG];have hta:=aPn (.agg #[.int .i64 E]);go_wp2_with fail;have g6':=g6.alloc (.cells #[.int .i64 E] 253);have g7':=g7.alloc (.cells #[.int .i64 E] 253);have g8':=g8.alloc (.cells #[.int .i64 E] 253);have hc0:=bS w (.int .i64 E) 253;have hzl:=g8.lt
 have hBz:Below z w (w.alloc (.cells #[.int .i64 E] 253)):=(aB z w).alloc (by omega) _;generalize w.alloc (.cells #[.int .i64 E] 253)=w1 at*
 obtain⟨sb,hsb⟩:∃sb,sb=w.heap.size:=⟨_,rfl⟩;rw[<-hsb] at hc0 hzl ⊢;clear e6 e7 e8 f6 f7 f8 hsb g6 g7 g8;have hBd:=hBz.drew;have h6:Arr w1.drew z 27 [x6]:=g6';have h7:Arr w1.drew (z+1) 3 [x7]:=g7';have h8:Arr w1.drew (z+1+1) 30 [x8]:=g8';have hS0:w1.drew.cell? ⟨sb,0,none⟩=some (.int .i64 E):=hc0;refine wp_region_held_drew (S:=fun w'=>w'.cell? ⟨sb,0,none⟩=some (.int .i64 E)) (by kernel_rfl) hc0 (fun hHeld=>?_);generalize w1.drew=w2 at*
 have k7:=h7.other ⟨z,0,none⟩ (by show _≠_;simp only[ne_eq];omega) (.slice none 0 0);have k8:=(h8.other ⟨z,0,none⟩ (by show _≠_;simp only[ne_eq];omega) (.slice none 0 0)).other ⟨z+1,0,none⟩ (by show _≠_;simp only[ne_eq];omega) (.int .i64 0);have e6:=h6.cell (i:=0) rfl;have e7:=k7.cell (i:=0) rfl;have e8:=k8.cell (i:=0) rfl;have f6:=h6.free 0;have f7:=k7.free 0;have f8:=k8.free 0;have hS1:(w2.setCell ⟨z,0,none⟩ (.slice none 0 0)).cell? ⟨sb,0,none⟩=some (.int .i64 E):=by rw[iQ _ _ _ _ (tH (by omega))];exact hS0
 have hS2:((w2.setCell ⟨z,0,none⟩ (.slice none 0 0)).setCell ⟨z+1,0,none⟩ (.int .i64 0)).cell? ⟨sb,0,none⟩=some (.int .i64 E):=by rw[iQ _ _ _ _ (tH (by omega))];exact hS1
 have hS3:(((w2.setCell ⟨z,0,none⟩ (.slice none 0 0)).setCell ⟨z+1,0,none⟩ (.int .i64 0)).setCell ⟨z+1+1,0,none⟩ (.int .i64 E)).cell? ⟨sb,0,none⟩=some (.int .i64 E):=by rw[iQ _ _ _ _ (tH (by omega))];exact hS2
 have q6:Arr (((w2.setCell ⟨z,0,none⟩ (.slice none 0 0)).setCell ⟨z+1,0,none⟩ (.int .i64 0)).setCell ⟨z+1+1,0,none⟩ (.int .i64 E)) z 27 [.slice none 0 0]:=((h6.set 0 _).other _ (by show _≠_;simp only[ne_eq];omega) _).other _ (by show _≠_;simp only[ne_eq];omega) _;have q7:Arr (((w2.setCell ⟨z,0,none⟩ (.slice none 0 0)).setCell ⟨z+1,0,none⟩ (.int .i64 0)).setCell ⟨z+1+1,0,none⟩ (.int .i64 E)) (z+1) 3 [.int .i64 0]:=(k7.set 0 _).other _ (by show _≠_;simp only[ne_eq];omega) _
 have q8:Arr (((w2.setCell ⟨z,0,none⟩ (.slice none 0 0)).setCell ⟨z+1,0,none⟩ (.int .i64 0)).setCell ⟨z+1+1,0,none⟩ (.int .i64 E)) (z+1+1) 30 [.int .i64 E]:=k8.set 0 _;have hBf:Below z w (((w2.setCell ⟨z,0,none⟩ (.slice none 0 0)).setCell ⟨z+1,0,none⟩ (.int .i64 0)).setCell ⟨z+1+1,0,none⟩ (.int .i64 E)):=((hBd.setCell (p:=⟨z,0,none⟩) (aA _) _).setCell (p:=⟨z+1,0,none⟩) (pI _) _).setCell (p:=⟨z+1+1,0,none⟩) (by show z<=z+1+1;omega) _;refine wpAnyH_take (i:=0) (oi:=?oi0) (v:=?v0) ?hi0 (by kernel_rfl) (by kernel_rfl) (by kernel_rfl) ?hq0 ?hy0 (by assumption) ?_
 case hi0=>(simp only[aR,aP];rfl)
 case hq0=>exact fun _ _ _ h=>h
 case hy0=>(refine Or.inl ⟨by rfl,?_⟩;intro w' hSw;(try dsimp only at hSw);(try go_simp);try with_reducible rfl)
 try simp only[aJ,aK,aH,aG]
 refine wpAnyH_take (i:=1) (oi:=?oi1) (v:=?v1) ?hi1 (by kernel_rfl) (by kernel_rfl) (by kernel_rfl) ?hq1 ?hy1 (by assumption) ?_
 case hi1=>(simp only[aR,List.getElem?_cons_succ,aP];rfl)
 case hq1=>exact fun _ _ _ h=>h
 case hy1=>(refine Or.inl ⟨by rfl,?_⟩;intro w' hSw;(try dsimp only at hSw);(try go_simp);try with_reducible rfl)
 try simp only[aJ,aK,aH,aG]
 refine fL (rs:=[2]) (by kernel_rfl) (by simp) ?_;refine fA rfl (fun K hK=>?_) fM;go_simp;refine hK.out _ _ ?_ (fun _=>?_)
 ·first|exact hS1|exact hS2|exact hS3
 try simp only[aJ,aK,aH,aG]
 refine fL (rs:=[3]) (by kernel_rfl) (by simp) ?_;refine fA rfl (fun K hK=>?_) fM;go_simp;refine hK.out _ _ ?_ (fun _=>?_)
 ·first|exact hS1|exact hS2|exact hS3
 try simp only[aJ,aK,aH,aG]
 refine fL (rs:=[4]) (by kernel_rfl) (by simp) ?_;refine fA rfl (fun K hK=>?_) fM;go_simp;refine hK.out _ _ ?_ (fun _=>?_)
 ·first|exact hS1|exact hS2|exact hS3
 try simp only[aJ,aK,aH,aG]
 refine wpAnyH_done (by kernel_rfl) ?_ _;go_wp2_with fail;refine⟨rfl,.panicking ({v:=.iface 253 (.agg #[.int .i64 E]),recovered:=true}::older),?_,.tuple #[],?_,rfl,rfl,q6,q7,q8,hBf⟩
 ·first|rfl|(cases c₀;simp_all)
 ·simp[results,Tryz.f202]
theorem ZS {P:Program} {fn:Func} {p q r:Tmp} {tx ty tz:TypeId} (h:fn.results=#[.cell p tx,.cell q ty,.cell r tz]) (tmps:Array Value) (w:World) (ax ay az:Addr) (vx vy vz:Value)
  (hp:tmps.getD p undef=.pointer (some ax)) (hq:tmps.getD q undef=.pointer (some ay)) (hr:tmps.getD r undef=.pointer (some az))
  (hx:(loadVar tx ax).run P w=.ok vx w) (hy:(loadVar ty ay).run P w=.ok vy w) (hz:(loadVar tz az).run P w=.ok vz w):
  (results fn tmps).run P w=.ok (.tuple #[vx,vy,vz]) w:=by
 have hp':tmps[p]?.getD undef=.pointer (some ax):=by simpa using hp
 have hq':tmps[q]?.getD undef=.pointer (some ay):=by simpa using hq
 have hr':tmps[r]?.getD undef=.pointer (some az):=by simpa using hr
 simp[results,h,hp',hq',hr',asAddr,hx,hy,hz,Result.andThen]
theorem MM {w W:World} {s:List UInt8} {a n z:Nat} {E:Int} {tmps:Array Value} {x6 x7 x8:Value} (h:eJ s (a:Int) (n:Int)=([],0,E)) (hz:w.heap.size=z)
  (g6:Arr W z 27 [x6]) (g7:Arr W (z+1) 3 [x7]) (g8:Arr W (z+1+1) 30 [x8]) (hb:Below z w W)
  (t6:tmps.getD 6 undef=.pointer (some ⟨z,0,none⟩)) (t7:tmps.getD 7 undef=.pointer (some ⟨z+1,0,none⟩)) (t8:tmps.getD 8 undef=.pointer (some ⟨z+1+1,0,none⟩)):
  Leaves Tryz.prog Tryz.f164 tmps (fun e w'=>wM w w' s a n e) [{target:=.fn (.func 202) #[.pointer (some ⟨z,0,none⟩),.pointer (some ⟨z+1,0,none⟩),.pointer (some ⟨z+1+1,0,none⟩)],args:=#[]}] (.panicking (ER E)) W:=by
 refine leaves_cons (f:=202) (args:=#[.pointer (some ⟨z,0,none⟩),.pointer (some ⟨z+1,0,none⟩),.pointer (some ⟨z+1+1,0,none⟩)]) (by simp) (by simp[go_sem]) ?_;refine(aPo z E [] W x6 x7 x8 g6 g7 g8).mono ?_;rintro e u' w' ⟨rfl,rfl,h6,h7,h8,hb'⟩;have c6:=h6.cell (i:=0) rfl;have c7:=h7.cell (i:=0) rfl;have c8:=h8.cell (i:=0) rfl;refine⟨_,ZS rfl tmps w' _ _ _ (.slice none 0 0) (.int .i64 0) (.int .i64 E) t6 t7 t8 (by simp[go_sem,c6]) (by simp[go_sem,c7]) (by simp[go_sem,c8]),?_⟩;exact yY h (hz▸hb.trans hb')
theorem aPp (w:World) (t1 t2 t3:TypeId) (v1 v2 v3:Value):∀W,W=((w.alloc (.cells #[v1] t1)).alloc (.cells #[v2] t2)).alloc (.cells #[v3] t3)->
  (Arr W w.heap.size t1 [v1]/\Arr W (w.heap.size+1) t2 [v2]/\Arr W (w.heap.size+1+1) t3 [v3])/\Below w.heap.size w W/\W.heap.size=w.heap.size+1+1+1:=by
 rintro W rfl;have a1:=Arr.new w t1 [v1];have a2:=Arr.new (w.alloc (.cells #[v1] t1)) t2 [v2];have a3:=Arr.new ((w.alloc (.cells #[v1] t1)).alloc (.cells #[v2] t2)) t3 [v3];have e:∀(W:World) (o:Obj),(W.alloc o).heap.size=W.heap.size+1:=fun W o=>by simp
 rw[e] at a2;rw[e,e] at a3;refine⟨⟨(a1.alloc _).alloc _,a2.alloc _,a3⟩,?_,by simp⟩;exact(((aB _ w).alloc (aA _) _).alloc (by simp) _).alloc (by simp;omega) _
theorem aPq (s:ByteArray) (a n:Nat) (w:World) (hs:s.size<=1000000) (ha:a<=90000000) (hn1:2<=n) (hn2:n<=258):
  Calls Tryz.prog 164 #[.string s,.int .i64 (a:Int),.int .i64 (n:Int)] w fun e w'=>wM w w' s.data.toList a n e:=by
 have HL:=hid (show s.data.toList.length=s.size by simp);have t1:decide ((a:Int)<0)=false:=decide_eq_false (by omega);have hmf:∀(fn:Fn) (first cap:Array Value) (w:World),(Instr.makeFunc fn first cap).run Tryz.prog w=.ok (.func fn first cap) w:=fun _ _ _ _=>rfl
 have HERR:=hid (fun k hk=>UF (s:=s.data.toList) (a:=a) (k:=k) hn1 hn2 hk);have HEQ:=hid (KO s.data.toList a n hn1 hn2);have h0:=UG s.data.toList (a:Int);rw[HL.out] at h0;have H0:=hid h0;clear h0;have hVb:=iA s.data.toList (a:Int) 5;have hok:=fQ (n:=s.size) (at':=(a:Int)) (k:=5);have hVb:aE s.data.toList (a:Int) 5<32:=hVb
 go_enter_defers Tryz.func164,Tryz.ntmps164
 go_wp2_with fail;refine(ZL n _ hn1 hn2).mono ?_;rintro e w' ⟨rfl,rfl⟩;obtain⟨⟨g6,g7,g8⟩,hB0,hz0⟩:=aPp w 27 3 30 (.slice none 0 0) (.int .i64 0) (.int .i64 0) _ rfl;generalize ((w.alloc (.cells #[.slice none 0 0] 27)).alloc (.cells #[.int .i64 0] 3)).alloc (.cells #[.int .i64 0] 30)=w0 at*
 obtain⟨z,hz⟩:∃z,w.heap.size=z:=⟨_,rfl⟩;rw[hz] at g6 g7 g8 hB0 hz0 ⊢;have HZ:=hid hz;clear hz;go_wp2_with fail;have hA0:DRd (w0.alloc (.cells #[.string s,.int .i64 (a:Int)] 256)) w0.heap.size s a:=Arr.new w0 256 [.string s,.int .i64 (a:Int)];have g6:=g6.alloc (.cells #[.string s,.int .i64 (a:Int)] 256);have g7:=g7.alloc (.cells #[.string s,.int .i64 (a:Int)] 256);have g8:=g8.alloc (.cells #[.string s,.int .i64 (a:Int)] 256);have hB1:=hB0.alloc (o:=.cells #[.string s,.int .i64 (a:Int)] 256) (by omega)
 have hz1:(w0.alloc (.cells #[.string s,.int .i64 (a:Int)] 256)).heap.size=z+1+1+1+1:=by simp[hz0]
 rw[hz0] at hA0;generalize w0.alloc (.cells #[.string s,.int .i64 (a:Int)] 256)=w1 at*
 clear hB0 hz0;refine(MK (z+1+1+1) s a 5 w1 hA0 hs (by decide) (by omega)).mono ?_;rintro e w2 (⟨h1,rfl,hA2,hg2⟩|⟨h1,rfl,hg2⟩)
 rotate_left
 ·have g6:=g6.grown hg2 (by simp only[ne_eq,iP];omega);have g7:=g7.grown hg2 (by simp only[ne_eq,iP];omega);have g8:=g8.grown hg2 (by simp only[ne_eq,iP];omega);have hB2:=hB1.grown hg2 (by omega) (fun k hk=>by obtain rfl:=bW hk;omega);have H:=H0.out;rw[if_pos h1] at H;have HF:=HERR.out 0 (by omega) (by rw[H];exact h1);rw[H] at HF;go_wp2_with fail;exact MM HF HZ.out g6 g7 g8 hB2 rfl rfl rfl
 have hok:=hok h1;have H:=H0.out;rw[if_neg (fun k=>k h1)] at H;obtain⟨V,hV⟩:∃V,V=aE s.data.toList (a:Int) 5:=⟨_,rfl⟩;rw[<-hV] at H hVb ⊢;clear hV h1;have g6:=g6.grown hg2 (by simp only[ne_eq,iP];omega);have g7:=g7.grown hg2 (by simp only[ne_eq,iP];omega);have g8:=g8.grown hg2 (by simp only[ne_eq,iP];omega);have hB2:=hB1.grown hg2 (by omega) (fun k hk=>by obtain rfl:=bW hk;omega);have hz2:z+1+1+1+1<=w2.heap.size:=by have:=hg2.size;omega
 clear hB1 hz1 hg2 hA0;go_wp2_with fail;refine(ML (z+1+1+1) (V:Int) w2).mono ?_;rintro e w3 (⟨h2,rfl,rfl⟩|⟨h2,rfl,rfl⟩)
 rotate_left
 ·rw[if_pos (by omega)] at H;have HF:=HERR.out 0 (by omega) (by rw[H];exact(by decide:(3:Int)≠0));rw[H] at HF;go_wp2_with fail;exact MM HF HZ.out g6 g7 g8 hB2 rfl rfl rfl
 rw[if_neg (by omega)] at H;have H0:=hid H;clear H;go_wp2_with fail
 go_loopg [10,28] n (fun g s10 s28 wr=>∃(k p:Nat) (m:Int) (v:Value),k<=n/\g=n-k/\s28=.int .i64 (k:Int)/\s10=.int .i64 m/\1<=m/\m<=20/\p<=90000005/\Hid ((aZ s.data.toList (a:Int) k).2.2.2=0/\(aZ s.data.toList (a:Int) k).2.1=m/\(aZ s.data.toList (a:Int) k).2.2.1=(p:Int)/\(aZ s.data.toList (a:Int) k).1.length=k)/\
  Arr wr z 27 [v]/\Arr wr (z+1) 3 [.int .i64 0]/\Arr wr (z+1+1) 30 [.int .i64 0]/\DRd wr (z+1+1+1) s p/\OwI wr (z+1+1+1+1) v (aZ s.data.toList (a:Int) k).1/\Below z w wr/\z+1+1+1+1<=wr.heap.size)
 case atStart=>exact⟨0,a+5,(V:Int),_,Nat.zero_le _,rfl,rfl,rfl,by omega,by omega,by omega,hid ⟨by rw[H0.out],by rw[H0.out],by rw[H0.out];push_cast;rfl,by rw[H0.out];rfl⟩,g6,g7,g8,hA2,by rw[H0.out];exact OwI.nil _ _,hB2,hz2⟩
 case round=>
  clear g6 g7 g8 hA2 hB2 hz2;obtain⟨k,p,m,v,hk,hg,rfl,rfl,hm1,hm2,hpb,HK,g6,g7,g8,hA,ho,hbel,hsz⟩:=hrel;have HG:=hid hg;clear hg
  by_cases hlt:k<n
  ·have v1:decide ((k:Int)<(n:Int))=true:=decide_eq_true (by omega);have hst:=UH HK.out.1;rw[HK.out.2.1,HK.out.2.2.1] at hst;have hcall:=aPl (z+1+1+1) s p m wr hA hs (by omega) hm1 hm2;have hAok:=DA s.data.toList (8*s.data.toList.length+2) (p:Int) m (by omega) hm1 hm2;rw[HL.out] at hAok;rw[show iB s.data.toList (8*s.size+2) (p:Int) m=eD s.data.toList (p:Int) m by unfold eD;rw[HL.out]] at hAok;obtain⟨q1,q2,q3,hq⟩:∃q1 q2 q3,eD s.data.toList (p:Int) m=(q1,q2,q3):=⟨_,_,_,rfl⟩;rw[hq] at hst hcall hAok;simp only at hst hcall hAok;clear hq;go_wp2_with fail
   refine hcall.mono ?_;rintro e w3 (⟨hq3,rfl,⟨p',hp',hA3⟩,hg3⟩|⟨hq3,rfl,hg3⟩)
   rotate_left
   ·rw[if_pos hq3] at hst;have HF:=HERR.out (k+1) (by omega) (by rw[hst];exact hq3);rw[hst] at HF;have g6:=g6.grown hg3 (by simp only[ne_eq,iP];omega);have g7:=g7.grown hg3 (by simp only[ne_eq,iP];omega);have g8:=g8.grown hg3 (by simp only[ne_eq,iP];omega);have hB3:=hbel.grown hg3 (by omega) (fun k hk=>by obtain rfl:=bW hk;omega);go_wp2_with fail;exact MM HF HZ.out g6 g7 g8 hB3 rfl rfl rfl
   subst hq3;subst hp';rw[if_neg (fun k=>k rfl)] at hst;obtain⟨a1,a2,a3,a4⟩:=hAok rfl;have HS:=hid hst;clear hst;have hol:(aZ s.data.toList (a:Int) k).1.length<=258:=by rw[HK.out.2.2.2];omega
   have g6:=g6.grown hg3 (by simp only[ne_eq,iP];omega);have g7:=g7.grown hg3 (by simp only[ne_eq,iP];omega);have g8:=g8.grown hg3 (by simp only[ne_eq,iP];omega);have hsz3:z+1+1+1+1<=w3.heap.size:=by have:=hg3.size;omega
   have ho3:OwI w3 (z+1+1+1+1) v (aZ s.data.toList (a:Int) k).1:=Ow.kept ho hg3 (by
    rcases hob:v.ownBlock with _|kb
    ·exact .inl rfl
    ·have:=(Ow.lt ho kb hob).1;refine .inr (fun e=>?_);have:=bW e;omega)
   have hB3:=hbel.grown hg3 (by omega) (fun k hk=>by obtain rfl:=bW hk;omega);have c6:=g6.cell (i:=0) rfl;clear ho hbel;have hzb:z<z+1+1+1+1:=by omega
   have hzb1:z+1<z+1+1+1+1:=by omega
   have hzb2:z+1+1<z+1+1+1+1:=by omega
   have hzb3:z+1+1+1<z+1+1+1+1:=by omega
   clear hcall hAok hok;go_wp2_with (at_builtin;refine eN rfl _ _ rfl (z+1+1+1+1) _ _ rfl (OwI.alloc ho3 _) _ q1 rfl (bS _ _ _) ?_ ?_ ?_;(omega);(simp;omega);intro v4 w4 r1 r2 r3;obtain⟨ad4,ca4,rfl,_,_,_⟩:=(OwI.rd r1).open;have f6:=((g6.alloc (.cells #[.int .i64 q1] 3)).below r2 hzb).free 0;have e6:=((g6.alloc (.cells #[.int .i64 q1] 3)).below r2 hzb).cell (i:=0) rfl);have k6:=((g6.alloc (.cells #[.int .i64 q1] 3)).below r2 hzb).set 0 (.slice ad4 ((aZ s.data.toList (a:Int) k).1.length+1) ca4)
   have k7:=((g7.alloc (.cells #[.int .i64 q1] 3)).below r2 hzb1).other ⟨z,0,none⟩ (by show _≠_;simp only[ne_eq];omega) (.slice ad4 ((aZ s.data.toList (a:Int) k).1.length+1) ca4);have k8:=((g8.alloc (.cells #[.int .i64 q1] 3)).below r2 hzb2).other ⟨z,0,none⟩ (by show _≠_;simp only[ne_eq];omega) (.slice ad4 ((aZ s.data.toList (a:Int) k).1.length+1) ca4);have kA:=((Arr.alloc hA3 (.cells #[.int .i64 q1] 3)).below r2 hzb3).other ⟨z,0,none⟩ (by show _≠_;simp only[ne_eq];omega) (.slice ad4 ((aZ s.data.toList (a:Int) k).1.length+1) ca4)
   have kB:=((hB3.alloc (o:=.cells #[.int .i64 q1] 3) (by omega)).trans (r2.mono (by omega))).setCell (p:=⟨z,0,none⟩) (aA _) (.slice ad4 ((aZ s.data.toList (a:Int) k).1.length+1) ca4);have hg:=HG.out
   go_roundg (n-(k+1))
   case measure=>omega
   case rel=>
    refine⟨k+1,p',q1,_,by omega,rfl,by go_num,rfl,a1,a2,by omega,hid ⟨by rw[HS.out],by rw[HS.out],by rw[HS.out],by rw[HS.out,aL,HK.out.2.2.2];rfl⟩,k6,k7,k8,kA,?_,kB,?_⟩
    ·rw[HS.out];rw[aL] at r1;refine Ow.kept r1 (gbS w4 z 0 _) ?_;rcases hob:(lK ad4 ((aZ s.data.toList (a:Int) k).1.length+[q1].length) ca4).ownBlock with _|kb
     ·exact .inl rfl
     ·have:=(Ow.lt r1 kb hob).1;refine .inr (fun e=>?_);have:=bW e;omega
    ·have:=r2.size;simp only[fV] at this;simp only[World.size_setCell];omega
  ·have v1:decide ((k:Int)<(n:Int))=false:=decide_eq_false (by omega);have hke:k=n:=by omega
   subst hke;have hEQ:=HEQ.out;rw[if_neg (fun q=>q HK.out.1),HK.out.2.2.1] at hEQ;have HF:=hid hEQ;obtain⟨adv,cav,rfl,_,_,_⟩:=(OwI.rd ho).open;have c6:=g6.cell (i:=0) rfl;have c7:=g7.cell (i:=0) rfl;have c8:=g8.cell (i:=0) rfl;have f6:=g6.free 0;have f7:=g7.free 0;have f8:=g8.free 0;have d0:=Arr.cell hA (i:=0) rfl;have d1:=Arr.cell hA (i:=1) rfl;clear hEQ hok;go_wp2_with fail
   go_region
   go_wp2_with fail;refine leaves_cons (f:=202) (args:=#[.pointer (some ⟨z,0,none⟩),.pointer (some ⟨z+1,0,none⟩),.pointer (some ⟨z+1+1,0,none⟩)]) (by simp) (by simp[go_sem]) ?_;refine(aPm ⟨z,0,none⟩ ⟨z+1,0,none⟩ ⟨z+1+1,0,none⟩ _).mono ?_;rintro e u' w'' ⟨rfl,rfl,rfl⟩;have hb3:=HZ.out;have k6:=((g6.set 0 (.slice adv (aZ s.data.toList (a:Int) k).1.length cav)).other ⟨z+1,0,none⟩ (by show _≠_;simp only[ne_eq];omega) (.int .i64 (p:Int))).other ⟨z+1+1,0,none⟩ (by show _≠_;simp only[ne_eq];omega) (.int .i64 0)
   have k7:=((g7.other ⟨z,0,none⟩ (by show _≠_;simp only[ne_eq];omega) (.slice adv (aZ s.data.toList (a:Int) k).1.length cav)).set 0 (.int .i64 (p:Int))).other ⟨z+1+1,0,none⟩ (by show _≠_;simp only[ne_eq];omega) (.int .i64 0);have k8:=((g8.other ⟨z,0,none⟩ (by show _≠_;simp only[ne_eq];omega) (.slice adv (aZ s.data.toList (a:Int) k).1.length cav)).other ⟨z+1,0,none⟩ (by show _≠_;simp only[ne_eq];omega) (.int .i64 (p:Int))).set 0 (.int .i64 0)
   have kB:=((hbel.setCell (p:=⟨z,0,none⟩) (aA _) (.slice adv (aZ s.data.toList (a:Int) k).1.length cav)).setCell (p:=⟨z+1,0,none⟩) (pI _) (.int .i64 (p:Int))).setCell (p:=⟨z+1+1,0,none⟩) (by show z<=z+1+1;omega) (.int .i64 0);have kv:∀(q:Nat) (V:Value) (W:World),q<z+1+1+1+1->OwI W (z+1+1+1+1) (lK adv (aZ s.data.toList (a:Int) k).1.length cav) (aZ s.data.toList (a:Int) k).1->OwI (W.setCell ⟨q,0,none⟩ V) (z+1+1+1+1) (lK adv (aZ s.data.toList (a:Int) k).1.length cav) (aZ s.data.toList (a:Int) k).1:=fun q V W hq h=>by
    refine Ow.kept h (gbS W q 0 V) ?_;rcases hob:(lK adv (aZ s.data.toList (a:Int) k).1.length cav).ownBlock with _|kb
    ·exact .inl rfl
    ·have:=(Ow.lt h kb hob).1;refine .inr (fun e=>?_);have:=bW e;omega
   have kO:=kv (z+1+1) (.int .i64 0) _ (by omega) (kv (z+1) (.int .i64 (p:Int)) _ (by omega) (kv z (.slice adv (aZ s.data.toList (a:Int) k).1.length cav) _ (by omega) ho));generalize ((wr.setCell ⟨z,0,none⟩ (.slice adv (aZ s.data.toList (a:Int) k).1.length cav)).setCell ⟨z+1,0,none⟩ (.int .i64 (p:Int))).setCell ⟨z+1+1,0,none⟩ (.int .i64 0)=w5 at*
   have k6:Arr w5.drew z 27 [.slice adv (aZ s.data.toList (a:Int) k).1.length cav]:=k6;have k7:Arr w5.drew (z+1) 3 [.int .i64 (p:Int)]:=k7;have k8:Arr w5.drew (z+1+1) 30 [.int .i64 0]:=k8;have kO:OwI w5.drew (z+1+1+1+1) (.slice adv (aZ s.data.toList (a:Int) k).1.length cav) (aZ s.data.toList (a:Int) k).1:=kO;have kB:=kB.drew;generalize w5.drew=w6 at*
   have c6:=k6.cell (i:=0) rfl;have c7:=k7.cell (i:=0) rfl;have c8:=k8.cell (i:=0) rfl;refine⟨_,ZS rfl _ w6 ⟨z,0,none⟩ ⟨z+1,0,none⟩ ⟨z+1+1,0,none⟩ (.slice adv (aZ s.data.toList (a:Int) k).1.length cav) (.int .i64 (p:Int)) (.int .i64 0) rfl rfl rfl (by simp[go_sem,c6]) (by simp[go_sem,c7]) (by simp[go_sem,c8]),?_⟩;exact⟨_,by rw[HF.out],by rw[HF.out];exact Ow.base kO (by omega),by rw[hb3];exact kB⟩
theorem ZT (c n:Int) (w:World) (h1: -9223372036854775808<=c) (h2:c<=9223372036854775807) (h3:1<=n) (h4:n<=1000000000):
  Calls Tryz.prog 11 #[.int .i64 c,.int .i64 n] w fun e w'=>e=.returned (.int .i64 (gA c n))/\w=w':=by
 by_cases hc:c<0
 ·have hfin:=hid (show gA c n=(-(c+1))%n from by simp[gA,hc]);go_enter Tryz.func11,Tryz.ntmps11;go_wp2;go_ret;exact⟨fX (by rw[hfin.out];rw[<-Int.neg_tmod,oJ (by omega)]),rfl⟩
 ·have hfin:=hid (show gA c n=c%n from by simp[gA,hc]);have hc':0<=c:=by omega
  go_enter Tryz.func11,Tryz.ntmps11;go_wp2;go_ret;exact⟨fX (by rw[hfin.out]),rfl⟩
theorem aPr (c n:Int) (w:World) (h1: -9223372036854775808<=c) (h2:c<=9223372036854775807) (h3:1<=n) (h4:n<=1000000000):
  Calls Tryz.prog 60 #[.int .i64 c,.int .i64 n] w fun e w'=>e=.returned (.int .i64 (gA c n))/\w=w':=by
 by_cases hc:c<0
 ·have hfin:=hid (show gA c n=(-(c+1))%n from by simp[gA,hc]);go_enter Tryz.func60,Tryz.ntmps60;go_wp2;go_ret;exact⟨fX (by rw[hfin.out];rw[<-Int.neg_tmod,oJ (by omega)]),rfl⟩
 ·have hfin:=hid (show gA c n=c%n from by simp[gA,hc]);have hc':0<=c:=by omega
  go_enter Tryz.func60,Tryz.ntmps60;go_wp2;go_ret;exact⟨fX (by rw[hfin.out]),rfl⟩
def jO (raw:List Int):List Bool:=raw.map (fun x=>decide (gA x 2=1))
theorem aPs (x:Int):((decide (gA x 2=1)).toNat:Int)=gA x 2:=by
 obtain⟨h1,h2⟩:=vU x 2 (by decide)
 by_cases h:gA x 2=1
 ·rw[h];rfl
 ·rw[decide_eq_false h];show(0:Int)=_;omega
theorem aPt {l:List Int} {k:Nat} {x:Int} (h:l[k]? =some x):bI (jO (l.take (k+1)))=bI (jO (l.take k))++[gA x 2]:=by
 rw[cQ,h];unfold jO bI;simp only[List.map_append,Option.toList_some,pG,xS];rw[aPs]
theorem aPu (l:List Int) (k:Nat) (h:k<=l.length):(bI (jO (l.take k))).length=k:=by
 rw[cN];unfold jO;rw[bJ,aX];omega
theorem ZU (n:Int) (W:World):Calls Tryz.prog 28 #[.int .i64 n] W fun e w'=>e=.returned (.bool (decide (1<=n)&&decide (n<=360)))/\w'=W:=by
 by_cases h:1<=n
 ·have u1:decide (1<=n)=true:=decide_eq_true h;have u2:decide (n>=1)=true:=decide_eq_true h;rw[u1];go_enter Tryz.func28,Tryz.ntmps28;go_wp2_with fail;go_ret;exact⟨rfl,rfl⟩
 ·have u1:decide (1<=n)=false:=decide_eq_false h;have u2:decide (n>=1)=false:=decide_eq_false h;rw[u1];go_enter Tryz.func28,Tryz.ntmps28;go_wp2_with fail;go_ret;exact⟨rfl,rfl⟩
def oC (E:Int):List PanicEntry:=[{v:=.iface 81 (.agg #[.int .i64 E]),recovered:=false}]
theorem vC (E:Int) (W:World):Calls Tryz.prog 116 #[.int .i64 E] W fun e w'=>
  (E=0/\e=.returned (.tuple #[])/\w'=W)\/(E≠0/\e=.panicked (oC E)/\w'=W):=by
 by_cases h:E=0
 ·subst h;go_enter Tryz.func116,Tryz.ntmps116;go_wp2_with fail
  go_end0
  exact .inl ⟨trivial,rfl,rfl⟩
 ·have u1:(E != 0)=true:=by simpa using h
  go_enter Tryz.func116,Tryz.ntmps116;go_wp2_with fail;exact⟨rfl,.inr ⟨h,rfl,rfl⟩⟩
theorem pU (b:Bool) (E:Int) (W:World) (hE:E≠0):Calls Tryz.prog 52 #[.bool b,.int .i64 E] W fun e w'=>
  (b=true/\e=.returned (.tuple #[])/\w'=W)\/(b=false/\e=.panicked (oC E)/\w'=W):=by
 have hor:=(vC E W).mono (fun e w' h=>show e=.panicked (oC E)/\w'=W from by
  rcases h with h|h
  ·exact absurd h.1 hE
  ·exact h.2)
 cases b with
 |true=>
  go_enter Tryz.func52,Tryz.ntmps52;go_wp2_with fail
  go_end0
  exact .inl ⟨trivial,rfl,rfl⟩
 |false=>
  go_enter Tryz.func52,Tryz.ntmps52;go_wp2_with fail;refine hor.mono ?_;rintro e w' ⟨rfl,rfl⟩;go_wp2_with fail;exact⟨rfl,.inr ⟨trivial,rfl,rfl⟩⟩
def BRd (w:World) (b:Nat) (s:ByteArray) (a:Nat) (tb ch co:Value):Prop:=Arr w b 85 [.string s,.int .i64 (a:Int),tb,ch,co]
theorem zT (b:Nat) (s:ByteArray) (a k:Nat) (tb ch co:Value) (W:World) (hA:BRd W b s a tb ch co) (hs:s.size<=1000000) (hk:k<=48) (ha:a<=100000000):
  Calls Tryz.prog 110 #[.pointer (some ⟨b,0,none⟩),.int .i64 (k:Int)] W fun e w'=>
   (aO s.size (a:Int) k=0/\e=.returned (.int .i64 (aE s.data.toList (a:Int) k:Int))/\BRd w' b s (a+k) tb ch co/\W.grownBy w' (some b))\/(aO s.size (a:Int) k≠0/\e=.panicked (oC (aO s.size (a:Int) k))/\W.grownBy w' (some b)):=by
 have hget:=fun W=>sT s (a:Int) k W hs (by omega) (by omega) (by omega)
 have hVb:=iA s.data.toList (a:Int) k;have hVb2:aE s.data.toList (a:Int) k<281474976710656:=Nat.lt_of_lt_of_le hVb (aW (Nat.pow_le_pow_right (by decide) hk) (by decide));obtain⟨E,hE⟩:∃E,E=aO s.size (a:Int) k:=⟨_,rfl⟩;obtain⟨V,hV⟩:∃V,V=aE s.data.toList (a:Int) k:=⟨_,rfl⟩;rw[<-hE,<-hV];rw[<-hE,<-hV] at hget;rw[<-hV] at hVb2;have HE:=hid hE;clear hE hV hVb;have c0:=Arr.cell hA (i:=0) rfl;have c1:=Arr.cell hA (i:=1) rfl;have m1:aI.wrap (V:Int)=(V:Int):=by rw[aM];omega
 have m2:aI.wrap ((a:Int)+(k:Int))=(a:Int)+(k:Int):=by rw[aM];omega
 have hor:=fun W=>vC E W
 go_enter Tryz.func110,Tryz.ntmps110;go_wp2_with fail
 go_quiet (first|(go_at_call 23;exact Calls.quiet_of_same (hget _)))
 generalize hWn:W.drewN nq=W1 at*
 have hA1:BRd W1 b s a tb ch co:=by rw[<-hWn];exact hA
 have hg1:W.grownBy W1 (some b):=by rw[<-hWn];exact⟨rfl,rfl,rfl,aA _,fun _ _ _=>rfl⟩
 have d1:=Arr.cell hA1 (i:=1) rfl;have g1:=Arr.free hA1 1;clear hWn;go_wp2_with fail;refine(hor _).mono ?_;rintro e w2 (⟨rfl,rfl,rfl⟩|⟨h0,rfl,rfl⟩)
 ·go_wp2_with fail;go_ret;exact⟨rfl,by have:=Arr.set hA1 1 (.int .i64 ((a:Int)+(k:Int)));unfold BRd;push_cast;exact this,gbT hg1 (gbS _ _ _ _)⟩
 ·go_wp2_with fail;exact⟨rfl,.inr ⟨h0,rfl,hg1⟩⟩
theorem ES (b:Nat) (s:ByteArray) (a:Nat) (q E:Int) (tb ch co:Value) (W:World) (hA:BRd W b s a tb ch co):
  Calls Tryz.prog 112 #[.pointer (some ⟨b,0,none⟩),.int .i64 q,.int .i64 E] W fun e w'=>
   (E=0/\e=.returned (.tuple #[])/\Arr w' b 85 [.string s,.int .i64 q,tb,ch,co]/\W.grownBy w' (some b))\/(E≠0/\e=.panicked (oC E)/\w'=W):=by
 have d1:=Arr.cell hA (i:=1) rfl;have g1:=Arr.free hA 1;have hor:=vC E W;go_enter Tryz.func112,Tryz.ntmps112;go_wp2_with fail;refine hor.mono ?_;rintro e w2 (⟨rfl,rfl,rfl⟩|⟨h0,rfl,rfl⟩)
 ·go_wp2_with fail
  go_end0
  exact⟨rfl,Arr.set hA 1 _,gbS _ _ _ _⟩
 ·go_wp2_with fail;exact⟨rfl,.inr ⟨h0,rfl,rfl⟩⟩
theorem aAi {w:World} (ty:TypeId) (base:Nat) (v:Value) (ls:List (List Bool)) (l:List Bool) (hown:gG w base v ls) (g:Nat) (hc:Arr w g 29 (kH l)) (hroom:(ls.length+1)*24<=140737488355328) (hbase:base<=w.heap.size):
  ∃v' w',(tT #[67,67] ty #[v,.slice (some ⟨g,0,none⟩) 1 1]).run Tryz.prog w=.ok v' w'/\gG w' base v' (ls++[l])/\Below base w w'/\w.grownBy w' v.ownBlock:=by
 obtain⟨i,hi,hz,h2,h3⟩:=info_parts JB;obtain⟨v',w',q1,q2,q3,_⟩:=run_append_own (P:=Tryz.prog) w base 67 ty 29 i _ 2 24 Tryz.underlying67 hi hz h2 h3 rfl (by decide) v ls.length (ls.flatMap kH) hown ⟨g,0,none⟩ 1 1 (kH l) rfl (fun j u' hj=>by
  rw[show(⟨g,0,none⟩:Addr).add j=⟨g,j,none⟩ by unfold Addr.add;split<;>simp_all];exact hc.cell hj) (fun u' hu=>by
  unfold kH at hu;rcases List.mem_cons.1 hu with rfl|hu
  ·rfl
  ·obtain rfl:=dC.1 hu;rfl) (by simp only[maxLen];omega) hroom hbase
 refine⟨v',w',q1,?_,rC hown q3 hbase,q3⟩;unfold gG;rw[aL,List.flatMap_append,List.flatMap_singleton];exact q2
theorem xC {P:Program} {ops:Array Oper} {o:Oper} {a:Act} {w:World} {K:Act->World->Prop} {Q:Exit->Act->World->Prop} {E:Prop} (hg:o.guard=none) (s x:Operand) (t:TypeId)
  (ho:o.op=.call {callee:=.builtin .append,args:=#[s,x],argTypes:=#[t,t]}) (v u v':Value) (w':World) (hs:a.eval s=v) (hx:a.eval x=u)
  (hr:(tT #[t,t] o.type #[v,u]).run P w=.ok v' w') (h:K (a.put o.dst v') w'):if nR o (yielded ops a.tmps)=true then lX P o a w K Q else E:=by
 have hw:nR o (yielded ops a.tmps)=true:=by simp[nR,hg]
 rw[if_pos hw];unfold lX execOp;simp only[ho,resolve,invoke,builtin,Sem.run_bind,Sem.run_pure,Result.andThen_ok,List.map_toArray,pG,xS,hs,hx,hr];exact h
def WrL (w:World) (p B:Nat) (ls:List (List Bool)):Prop:=∃v,Arr w p 69 [v]/\gG w B v ls
def KT (e p:Nat) (w w':World):Prop:=w.heap.size<=w'.heap.size/\∀k o,w.heap[k]? =some o->k≠p->(∀c fz,o≠.cells c e fz)->w'.heap[k]? =some o
theorem KT.trans {e p:Nat} {a b c:World} (h:KT e p a b) (k:KT e p b c):KT e p a c:=⟨aW h.1 k.1,fun i o hi hne ht=>k.2 i o (h.2 i o hi hne ht) hne ht⟩
theorem KT.below {e p:Nat} {w w':World} (h:Below w.heap.size w w'):KT e p w w':=⟨h.size,fun k _ hk _ _=>(h.block k (gQ.1 hk).1).trans hk⟩
theorem KT.app {e p B z n:Nat} {w w':World} {v:Value} {xs:List Value} (ho:w.ownsRow B e z v n xs) (h:w.grownBy w' v.ownBlock):KT e p w w':=⟨h.size,fun k o hk _ ht=>by
 refine(h.block k (gQ.1 hk).1 (fun e=>?_)).trans hk;rcases ho.2 with⟨rfl,_⟩|⟨g,cap,cur,rfl,_,hg,_⟩
 ·cases e
 ·obtain rfl:=bW e;rw[hk] at hg;exact ht _ _ (bW hg)⟩
theorem KT.box {e p i:Nat} {w:World} (v:Value):KT e p w (w.setCell ⟨p,i,none⟩ v):=⟨by simp,fun k o hk hne _=>by rw[heap_setCell_other w ⟨p,i,none⟩ k v hne];exact hk⟩
theorem KT.ow {e p B e':Nat} {w w':World} {v:Value} {xs:List Value} (h:KT e p w w') (ho:Ow w B e' v xs) (hp:p<B) (he:e'≠e):Ow w' B e' v xs:=by
 refine⟨ho.1,?_⟩;rcases ho.2 with hn|⟨g,cap,cur,e1,hb,hg,rest⟩
 ·exact .inl hn
 ·exact .inr ⟨g,cap,cur,e1,hb,h.2 g _ hg (by omega) (fun c fz q=>by injection q with _ q2;exact he q2),rest⟩
theorem xF (p B:Nat) (ls:List (List Bool)) (l:List Bool) (E:Int) (w:World) (h:WrL w p B ls) (hp:p<B) (hB:B<=w.heap.size) (hl:ls.length<=1000000):
  Calls Tryz.prog 32 #[.pointer (some ⟨p,0,none⟩),.agg #[.string (mkS (aD l)),.int .i64 (l.length:Int)],.int .i64 E] w fun e w'=>e=.returned (.tuple #[])/\WrL w' p B (ls++[l])/\Below p w w'/\KT 29 p w w':=by
 obtain⟨v,hA,hown⟩:=h;obtain⟨S,hS⟩:∃S,S=mkS (aD l):=⟨_,rfl⟩;obtain⟨L,hL⟩:∃L,L=(l.length:Int):=⟨_,rfl⟩;rw[<-hS,<-hL];have hcs:kH l=[.string S,.int .i64 L]:=by rw[hS,hL];rfl
 have hBx:=Arr.new w 29 [.string S,.int .i64 L];have hA1:Arr (w.alloc (.cells #[.string S,.int .i64 L] 29)).drew p 69 [v]:=hA.alloc _;have ho1:gG (w.alloc (.cells #[.string S,.int .i64 L] 29)).drew B v ls:=hown.alloc _;have hs1:(w.alloc (.cells #[.string S,.int .i64 L] 29)).drew.heap.size=w.heap.size+1:=by simp
 have hB1:Below p w (w.alloc (.cells #[.string S,.int .i64 L] 29)).drew:=((aB p w).alloc (by omega) _).drew;have hnew:Arr ((w.alloc (.cells #[.string S,.int .i64 L] 29)).drew.alloc (.cells #[.string S,.int .i64 L] 29)) (w.heap.size+1) 29 (kH l):=by
  rw[hcs,<-hs1];exact Arr.new _ _ _
 have hA2:=hA1.alloc (.cells #[.string S,.int .i64 L] 29);obtain⟨v3,w3,hr,ho3,hb3,hg3⟩:=aAi (w:=(w.alloc (.cells #[.string S,.int .i64 L] 29)).drew.alloc (.cells #[.string S,.int .i64 L] 29)) 67 B v ls l (ho1.alloc _) (w.heap.size+1) hnew (by omega) (by rw[fV,hs1];omega);have hA3:=hA2.below hb3 hp;have hK3:KT 29 p w w3:=(KT.below (((bD (aB _ w) (.cells #[.string S,.int .i64 L] 29)).drew.alloc (by rw[hs1];omega) (.cells #[.string S,.int .i64 L] 29)))).trans (KT.app (ho1.alloc _) hg3);have hB3:Below p w w3:=(hB1.alloc (by omega) _).trans (hb3.mono (by omega))
 obtain⟨a3,c3,e3,-⟩:=ho3.rd;obtain⟨n3,hn3⟩:∃n,n=(ls++[l]).length:=⟨_,rfl⟩;rw[<-hn3] at e3;subst e3;obtain⟨a,c,e1,-⟩:=hown.rd;obtain⟨n,hn⟩:∃n,n=ls.length:=⟨_,rfl⟩;rw[<-hn] at e1;subst e1;have hr2:(tT #[67,67] 67 #[.slice a n c,.slice (some ⟨w.heap.size+1,0,none⟩) 1 1]).run Tryz.prog ((w.alloc (.cells #[.string S,.int .i64 L] 29)).alloc (.cells #[.string S,.int .i64 L] 29)).drew=.ok (.slice a3 n3 c3) w3:=hr;have c0:=hA.cell (i:=0) rfl;have c1:=hA1.cell (i:=0) rfl;have c2:=hA2.cell (i:=0) rfl
 have ca:(w.alloc (.cells #[.string S,.int .i64 L] 29)).cell? ⟨p,0,none⟩=some (.slice a n c):=c1;have cb:((w.alloc (.cells #[.string S,.int .i64 L] 29)).alloc (.cells #[.string S,.int .i64 L] 29)).cell? ⟨p,0,none⟩=some (.slice a n c):=c2;have c3':=hA3.cell (i:=0) rfl;have f3:=hA3.free 0;have b0:=hBx.cell (i:=0) rfl;have b1:=hBx.cell (i:=1) rfl;have HO:=hid (aCj ho3 (a:=⟨p,0,none⟩) hp (.slice a3 n3 c3));have HA:=hid (hA3.set 0 (.slice a3 n3 c3));have HB:=hid (hB3.setCell (p:=⟨p,0,none⟩) (aA _) (.slice a3 n3 c3))
 have HK:=hid (hK3.trans (KT.box (i:=0) (.slice a3 n3 c3)));clear hn3 hn hcs hK3 hg3 ho3 ho1 hb3 hB3 hB1 hnew hA3 hA2 hA1 hA hown hBx hl hS hL;go_enter Tryz.func32,Tryz.ntmps32;go_wp2_with fail
 go_region_law (refine xC rfl (.tmp 10) (.tmp 12) 67 rfl (.slice a n c) (.slice (some ⟨w.heap.size+1,0,none⟩) 1 1) (.slice a3 n3 c3) w3 (by simp[qC]) (by simp[qC]) hr2 ?_)
 all_goals
  go_wp2_with fail
  go_end0
  exact⟨rfl,⟨_,HA.out,HO.out⟩,HB.out,HK.out⟩
theorem aQ9 (p B:Nat) (ls:List (List Bool)) (l:List Bool) (w:World) (h:WrL w p B ls) (hp:p<B) (hB:B<=w.heap.size) (hl:ls.length<=1000000) (S:ByteArray) (hS:S=mkS (aD l)) (L:Int) (hL:L=(l.length:Int)):
  ∃(a:Option Addr) (n c:Nat) (a3:Option Addr) (n3 c3:Nat) (w3:World),
   (tT #[67,67] 67 #[.slice a n c,.slice (some ⟨w.heap.size+1,0,none⟩) 1 1]).run Tryz.prog ((w.alloc (.cells #[.string S,.int .i64 L] 29)).alloc (.cells #[.string S,.int .i64 L] 29)).drew=.ok (.slice a3 n3 c3) w3/\
   w.cell? ⟨p,0,none⟩=some (.slice a n c)/\(w.alloc (.cells #[.string S,.int .i64 L] 29)).cell? ⟨p,0,none⟩=some (.slice a n c)/\
   ((w.alloc (.cells #[.string S,.int .i64 L] 29)).alloc (.cells #[.string S,.int .i64 L] 29)).cell? ⟨p,0,none⟩=some (.slice a n c)/\
   w3.cell? ⟨p,0,none⟩=some (.slice a n c)/\w3.frozen? ⟨p,0,none⟩=false/\
   WrL (w3.setCell ⟨p,0,none⟩ (.slice a3 n3 c3)) p B (ls++[l])/\Below p w (w3.setCell ⟨p,0,none⟩ (.slice a3 n3 c3)):=by
 obtain⟨v,hA,hown⟩:=h;have hcs:kH l=[.string S,.int .i64 L]:=by rw[hS,hL];rfl
 have hA1:Arr (w.alloc (.cells #[.string S,.int .i64 L] 29)).drew p 69 [v]:=hA.alloc _;have ho1:gG (w.alloc (.cells #[.string S,.int .i64 L] 29)).drew B v ls:=hown.alloc _;have hs1:(w.alloc (.cells #[.string S,.int .i64 L] 29)).drew.heap.size=w.heap.size+1:=by simp
 have hB1:Below p w (w.alloc (.cells #[.string S,.int .i64 L] 29)).drew:=((aB p w).alloc (by omega) _).drew;have hnew:Arr ((w.alloc (.cells #[.string S,.int .i64 L] 29)).drew.alloc (.cells #[.string S,.int .i64 L] 29)) (w.heap.size+1) 29 (kH l):=by
  rw[hcs,<-hs1];exact Arr.new _ _ _
 have hA2:=hA1.alloc (.cells #[.string S,.int .i64 L] 29);obtain⟨v3,w3,hr,ho3,hb3,-⟩:=aAi (w:=(w.alloc (.cells #[.string S,.int .i64 L] 29)).drew.alloc (.cells #[.string S,.int .i64 L] 29)) 67 B v ls l (ho1.alloc _) (w.heap.size+1) hnew (by omega) (by rw[fV,hs1];omega);have hA3:=hA2.below hb3 hp;have hB3:Below p w w3:=(hB1.alloc (by omega) _).trans (hb3.mono (by omega));obtain⟨a3,c3,rfl,-⟩:=ho3.rd;obtain⟨a,c,rfl,-⟩:=hown.rd
 exact⟨a,_,c,a3,_,c3,w3,hr,hA.cell (i:=0) rfl,hA1.cell (i:=0) rfl,hA2.cell (i:=0) rfl,hA3.cell (i:=0) rfl,hA3.free 0,⟨_,hA3.set 0 _,aCj ho3 (a:=⟨p,0,none⟩) hp _⟩,hB3.setCell (p:=⟨p,0,none⟩) (aA _) _⟩
theorem zW (p B:Nat) (ls:List (List Bool)) (v n:Nat) (w:World) (h:WrL w p B ls) (hp:p<B) (hB:B<=w.heap.size) (hl:ls.length<=1000000) (hv:v<18446744073709551616) (hn:n<=64):
  Calls Tryz.prog 31 #[.pointer (some ⟨p,0,none⟩),.int .u64 (v:Int),.int .i64 (n:Int)] w fun e w'=>e=.returned (.tuple #[])/\WrL w' p B (ls++[aY v n])/\Below p w w':=by
 obtain⟨l,hl'⟩:∃l,l=aY v n:=⟨_,rfl⟩;rw[<-hl'];obtain⟨S,hS⟩:∃S,S=mkS (aD l):=⟨_,rfl⟩;obtain⟨L,hL⟩:∃L,L=(l.length:Int):=⟨_,rfl⟩;have hput:∀W,Calls Tryz.prog 75 #[.agg #[.string ⟨#[]⟩,.int .i64 0],.int .u64 (v:Int),.int .i64 (n:Int)] W fun e w'=>e=.returned (.tuple #[.agg #[.string S,.int .i64 L],.int .i64 0])/\Below W.heap.size W w':=fun W=>by
  have:=uH [] v n W hv hn (by simp);rw[iG,<-hl'] at this;rw[hS,hL];exact this
 have hH:∀W,Below w.heap.size w W->WrL W p B ls/\B<=W.heap.size:=fun W hb=>by
  obtain⟨u,h1,h2⟩:=h;exact⟨⟨u,h1.below hb (by omega),h2.below hb (aA _)⟩,by have:=hb.size;omega⟩
 have HF:=fun W (hb:Below w.heap.size w W)=>aQ9 p B ls l W (hH W hb).1 hp (hH W hb).2 hl S hS L hL
 have hpw:p<w.heap.size:=by omega
 clear hH h hS hL hl' hl hB;go_enter Tryz.func31,Tryz.ntmps31;go_wp2_with fail;refine(hput _).mono ?_;rintro e w1 ⟨rfl,hb1⟩;obtain⟨a,n1,c,a3,n3,c3,w3,hr2,c0,ca,cb,c3',f3,HO,HB⟩:=HF w1 hb1;have HBB:=hid ((hb1.mono (Nat.le_of_lt hpw)).trans HB);have HOO:=hid HO;have b0:=(Arr.new w1 29 [.string S,.int .i64 L]).cell (i:=0) rfl;have b1:=(Arr.new w1 29 [.string S,.int .i64 L]).cell (i:=1) rfl;clear HF hput HB HO;go_wp2_with fail
 go_region_law (refine xC rfl (.tmp 19) (.tmp 21) 67 rfl (.slice a n1 c) (.slice (some ⟨w1.heap.size+1,0,none⟩) 1 1) (.slice a3 n3 c3) w3 (by simp[qC]) (by simp[qC]) hr2 ?_)
 all_goals
  go_wp2_with fail
  go_end0
  exact⟨rfl,HOO.out,HBB.out⟩
end
end Go.Proofs.YtiifmcicleljjaaGreatDoor
