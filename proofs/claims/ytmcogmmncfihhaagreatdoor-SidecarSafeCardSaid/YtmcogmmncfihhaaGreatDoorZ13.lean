/-
  Texts put together (part 13): the walks and the plain laws on which the statement stands.
-/
import Derived.Test.YtmcogmmncfihhaaGreatDoorZ7
set_option maxRecDepth 100000
set_option maxHeartbeats 12800000
set_option linter.unusedVariables false
set_option linter.unusedSimpArgs false
open Bool renaming or_false->xK
open Decidable renaming not_not->dK
open Go.Calls renaming quiet_of_same->OM
open Go.IntKind renaming i64->aI,wrap_i64->aM
open Go.RowKit.Below renaming refl->aB
open Int renaming le_refl->lJ,toNat_natCast->eG
open List renaming any_eq_true->AH,append_assoc->cF,append_nil->eE,flatten_cons->AS,getD_eq_getElem?_getD->aV,getElem?_drop->gR,getElem?_eq_getElem->aN,getElem?_map->dY,getElem?_range->pF,getElem?_take->lW,getElem_mem->gT,length_append->aL,length_drop->cI,length_flatten->aCm,length_map->bJ,length_nil->cX,length_take->aX,map_append->fI,map_replicate->xV,mem_map->dU,mem_range->jF,range->dG,range_succ->sF,replicate->bB,replicate_succ->AE,sum_replicate_nat->aCn,take_add_one->cQ,take_append_drop->jE,take_length->kE,take_of_length_le->cS
open Nat renaming add_assoc->dZ,le_refl->aA,le_trans->aW,lt_of_lt_of_le->dR,mul_comm->oG
open Prod renaming ext->gK
open UInt8 renaming ofNat->eK
namespace Go.Proofs.YtmcogmmncfihhaaGreatDoor
section
def fH (s:List UInt8) (a:Nat) (l:List Bool):Prop:=a+l.length<=8*s.length/\seg s a l.length=l
theorem jN {s:List UInt8} {a:Nat} {l m:List Bool} (h:fH s a (l++m)):fH s a l/\fH s (a+l.length) m:=by
 obtain⟨h1,h2⟩:=h;rw[aL] at h1 h2;rw[PG] at h2;have hl:(seg s a l.length).length=l.length:=vR (by omega);obtain⟨e1,e2⟩:=List.append_inj h2 hl;exact⟨⟨by omega,e1⟩,⟨by omega,e2⟩⟩
theorem uX {s:List UInt8} {a v n:Nat} (h:fH s a (aY v n)) (hv:v<2^n):aO s.length (a:Int) n=0/\aE s (a:Int) n=v:=by
 obtain⟨h1,h2⟩:=h;rw[cY] at h1 h2;have e:aO s.length (a:Int) n=0:=by unfold aO;rw[if_neg (by omega),if_neg (by omega)]
 refine⟨e,?_⟩;unfold aE;rw[if_pos e,eG,h2,OY hv]
theorem LA {s:List UInt8} {a:Nat} {l:List Bool} (h:fH s a l):aO s.length (a:Int) l.length=0/\aE s (a:Int) l.length=bY l:=by
 rw[<-yB l] at h;exact uX h (qE l)
theorem tE {s:List UInt8} {a:Nat} {b:Bool} {l:List Bool} (h:fH s a (b::l)):(aO s.length (a:Int) 1=0/\aE s (a:Int) 1=b.toNat)/\fH s (a+1) l:=by
 obtain⟨h1,h2⟩:=jN (l:=[b]) (m:=l) h;have:=LA h1;refine⟨⟨this.1,?_⟩,h2⟩;have e:=this.2;rw[show bY [b]=b.toNat by simp[bY]] at e;exact e
theorem UV {s:List UInt8}:∀(k:Nat) (a:Nat) (now:Int),1<=now->now+k<=20->fH s a ((bB k [true,false]).flatten++[false])->eD s (a:Int) now=(now+k,((a+(2*k+1):Nat):Int),0)
 |0,a,now,h1,h2,h=>by
  obtain⟨⟨e1,e2⟩,_⟩:=tE (b:=false) (l:=[]) h;rw[wF s _ _ (by omega),if_neg (by rw[e1];simp),if_pos (by rw[e2];rfl)];simp
 |k+1,a,now,h1,h2,h=>by
  rw[AE,AS,cF] at h;obtain⟨⟨e1,e2⟩,h⟩:=tE (b:=true) (l:=false::((bB k [true,false]).flatten++[false])) h;obtain⟨⟨e3,e4⟩,h⟩:=tE h;rw[show((a+1:Nat):Int)=(a:Int)+1 by omega] at e3 e4;rw[wF s _ _ (by omega),if_neg (by rw[e1];simp),if_neg (by rw[e2];simp),if_neg (by rw[e3];simp),show(if aE s ((a:Int)+1) 1=0 then now+1 else now-1)=now+1 from if_pos (by rw[e4];rfl),if_neg (by omega)];have:=UV k (a+1+1) (now+1) (by omega) (by omega) h;rw[show((a+1+1:Nat):Int)=(a:Int)+2 by omega] at this;rw[this]
  refine gK (by show now+1+(k:Int)=now+((k+1:Nat):Int);omega) (gK (by show((a+1+1+(2*k+1):Nat):Int)=((a+(2*(k+1)+1):Nat):Int);omega) rfl)
theorem UW {s:List UInt8}:∀(k:Nat) (a:Nat) (now:Int),1<=now-k->now<=20->fH s a ((bB k [true,true]).flatten++[false])->eD s (a:Int) now=(now-k,((a+(2*k+1):Nat):Int),0)
 |0,a,now,h1,h2,h=>by
  obtain⟨⟨e1,e2⟩,_⟩:=tE (b:=false) (l:=[]) h;rw[wF s _ _ (by omega),if_neg (by rw[e1];simp),if_pos (by rw[e2];rfl)];simp
 |k+1,a,now,h1,h2,h=>by
  rw[AE,AS,cF] at h;obtain⟨⟨e1,e2⟩,h⟩:=tE (b:=true) (l:=true::((bB k [true,true]).flatten++[false])) h;obtain⟨⟨e3,e4⟩,h⟩:=tE h;rw[show((a+1:Nat):Int)=(a:Int)+1 by omega] at e3 e4;rw[wF s _ _ (by omega),if_neg (by rw[e1];simp),if_neg (by rw[e2];simp),if_neg (by rw[e3];simp),show(if aE s ((a:Int)+1) 1=0 then now+1 else now-1)=now-1 from if_neg (by rw[e4];simp),if_neg (by omega)];have:=UW k (a+1+1) (now-1) (by omega) (by omega) h;rw[show((a+1+1:Nat):Int)=(a:Int)+2 by omega] at this;rw[this]
  refine gK (by show now-1-(k:Int)=now-((k+1:Nat):Int);omega) (gK (by show((a+1+1+(2*k+1):Nat):Int)=((a+(2*(k+1)+1):Nat):Int);omega) rfl)
theorem aJg {s:List UInt8} {a:Nat} {now x:Int} (h1:1<=now) (h2:now<=20) (h3:1<=x) (h4:x<=20) (h:fH s a (jU now x)):eD s (a:Int) now=(x,((a+(jU now x).length:Nat):Int),0):=by
 rcases Int.le_total now x with q|q
 ·obtain⟨k,rfl⟩:∃k:Nat,x=now+k:=⟨(x-now).toNat,by omega⟩;have e:jU now (now+k)=(bB k [true,false]).flatten++[false]:=by
   unfold jU;rw[show(now+(k:Int)-now).toNat=k by omega,show(now-(now+(k:Int))).toNat=0 by omega];simp
  rw[e] at h ⊢;rw[UV k a now h1 h4 h];simp[aCm,xV,aCn,oG]
 ·obtain⟨k,rfl⟩:∃k:Nat,x=now-k:=⟨(now-x).toNat,by omega⟩;have e:jU now (now-k)=(bB k [true,true]).flatten++[false]:=by
   unfold jU;rw[show(now-(k:Int)-now).toNat=0 by omega,show(now-(now-(k:Int))).toNat=k by omega];simp
  rw[e] at h ⊢;rw[UW k a now h3 h2 h];simp[aCm,xV,aCn,oG]
theorem aJh {s:List UInt8} {a:Nat} {l:List Int} (hl:∀x∈l,1<=x/\x<=20) (h0:0<l.length) (h:fH s a (dW l)):∀k,k<=l.length->
  aZ s (a:Int) k=(l.take k,(l.take k).getLastD (l.getD 0 0),((a+5+(eI (l.getD 0 0) (l.take k)).length:Nat):Int),0):=by
 have hf:1<=l.getD 0 0/\l.getD 0 0<=20:=by
  rw[aV,aN h0];exact hl _ (gT h0)
 obtain⟨hn,hg⟩:=jN h;obtain⟨e1,e2⟩:=uX hn (by omega);rw[cY] at hg;intro k
 induction k with
 |zero=>
  intro _;unfold aZ;rw[e2,if_neg (by rw[e1];simp),if_neg (by omega)];refine gK rfl (gK (by show(((l.getD 0 0).toNat:Nat):Int)=l.getD 0 0;omega) (gK (by simp[eI]) rfl))
 |succ k ih=>
  intro hk;have ih:=ih (by omega);have hx:=hl l[k] (gT (by omega));have ht:l.take (k+1)=l.take k++[l[k]]:=by rw[cQ,aN (by omega)];rfl
  have hlast:1<=(l.take k).getLastD (l.getD 0 0)/\(l.take k).getLastD (l.getD 0 0)<=20:=by
   rcases Nat.eq_zero_or_pos k with q|q
   ·subst q;exact hf
   ·have hne:l.take k≠[]:=by
     intro e;have:=congrArg List.length e;rw[aX,cX] at this;omega
    have:(l.take k).getLastD (l.getD 0 0)∈l.take k:=by
     cases hc:l.take k with
     |nil=>exact absurd hc hne
     |cons y m=>exact List.getLast_mem (by simp)
    exact hl _ (List.mem_of_mem_take this)
  have hst:fH s (a+5+(eI (l.getD 0 0) (l.take k)).length) (jU ((l.take k).getLastD (l.getD 0 0)) l[k]):=by
   have e:eI (l.getD 0 0) l=eI (l.getD 0 0) (l.take (k+1))++eI ((l.take (k+1)).getLastD (l.getD 0 0)) (l.drop (k+1)):=by
    have gen:∀(u v:List Int) (now:Int),eI now (u++v)=eI now u++eI (u.getLastD now) v:=fun u=>by
     induction u with
     |nil=>intro v now;rfl
     |cons y u ih=>
      intro v now;show jU now y++eI y (u++v)=(jU now y++eI y u)++_;rw[ih v y,cF]
      congr 3
      cases u<;>rfl
    rw[<-gen,jE]
   rw[e] at hg;have hg1:=(jN hg).1;rw[ht,CY] at hg1;exact(jN hg1).2
  have hone:=aJg hlast.1 hlast.2 hx.1 hx.2 hst;unfold aZ;rw[ih];simp only
  rw[if_neg (by simp),hone];simp only
  rw[if_neg (by simp),ht,CY,aL];refine gK rfl (gK (by simp only[List.getLastD_concat]) (gK (by simp[dZ]) rfl))
theorem UX {s:List UInt8} {a:Nat} {l:List Int} (hl:fY l) (h:fH s a (dW l)):eJ s (a:Int) (l.length:Int)=(l,((a+(dW l).length:Nat):Int),0):=by
 have h0:=hl.1;have h1:=hl.2.1;have:=aJh hl.2.2 (by omega) h l.length (aA _);unfold eJ;rw[if_neg (by omega),eG,this];simp only
 rw[if_neg (by simp),kE];unfold dW;rw[aL,cY];refine gK rfl (gK (by simp[dZ]) rfl)
theorem UY {s:List UInt8} {tables:Int}:∀(k:Nat) (a:Nat) (n:Int),0<=n->n+k<tables->fH s a (bB k true++[false])->gV s tables (a:Int) n=(n+k,((a+(k+1):Nat):Int),0)
 |0,a,n,h0,h1,h=>by
  obtain⟨⟨e1,e2⟩,_⟩:=tE (b:=false) (l:=[]) h;rw[DB s _ _ _ (by omega),if_neg (by rw[e1];simp),if_pos (by rw[e2];rfl)];simp
 |k+1,a,n,h0,h1,h=>by
  rw[AE,List.cons_append] at h;obtain⟨⟨e1,e2⟩,h⟩:=tE h;rw[DB s _ _ _ (by omega),if_neg (by rw[e1];simp),if_neg (by rw[e2];simp),if_neg (show ¬n+1=tables by omega)];have:=UY (tables:=tables) k (a+1) (n+1) (by omega) (by omega) h;rw[show((a+1:Nat):Int)=(a:Int)+1 by omega] at this;rw[this];refine gK (by show n+1+(k:Int)=n+((k+1:Nat):Int);omega) (gK (by show((a+1+(k+1):Nat):Int)=((a+(k+1+1):Nat):Int);omega) rfl)
theorem aJi {s:List UInt8} {tables:Int} {a:Nat} {ps:List Int} (hp:∀x∈ps,0<=x/\x<tables) (h:fH s a (dE ps)):∀k,k<=ps.length->
  cO s tables (a:Int) k=(ps.take k,((a+(dE (ps.take k)).length:Nat):Int),0):=by
 intro k
 induction k with
 |zero=>intro _;simp[cO,dE]
 |succ k ih=>
  intro hk;have ih:=ih (by omega);have hx:=hp ps[k] (gT (by omega));have ht:ps.take (k+1)=ps.take k++[ps[k]]:=by rw[cQ,aN (by omega)];rfl
  have hst:fH s (a+(dE (ps.take k)).length) (lF ps[k]):=by
   have e:dE ps=dE (ps.take (k+1))++dE (ps.drop (k+1)):=by
    unfold dE;rw[<-List.flatMap_append,jE]
   rw[e,ht,KB] at h;exact(jN (jN h).1).2
  have hone:=UY (tables:=tables) ps[k].toNat _ 0 (by omega) (by omega) hst;unfold cO;rw[ih];simp only
  rw[if_neg (by simp),hone];simp only
  rw[if_neg (by simp),ht,KB,aL];have e2:(lF ps[k]).length=ps[k].toNat+1:=by simp[lF]
  rw[e2];refine gK (by show _++[0+(ps[k].toNat:Int)]=_++[ps[k]];congr 2;omega) (gK (by simp[dZ]) rfl)
theorem aJj {l:List Int} (hc:bL l=0) {s:List UInt8} {a i:Nat} (hi:i<l.length) (h:fH s a (aY (fO l i) (bG l i))):bZ l s (a:Int)=((i:Int),((a+bG l i:Nat):Int),0):=by
 have hw:=IG (eH hc).1 (eH hc).2 hi;obtain⟨h1,h2⟩:=h;rw[cY] at h1 h2;have hf:gZ l s a i:=⟨h1,by rw[h2,OY hw]⟩;rw[uB hc hi hf];simp
theorem aJk (t:List UInt8) (k i:Nat) (h:i<16):(eQ t k).getD i false=dB t (16*k+i):=by
 unfold eQ;rw[aV,dY,pF h];rfl
theorem LB (t:List UInt8) (k:Nat):∀i,i<=16->jH t (16*k+i)=jH t (16*k)++jS (bY (eQ t k)) k i
 |0,_=>by simp[jS]
 |i+1,h=>by
  rw[<-dZ,IK,LB t k i (by omega)];have e:jS (bY (eQ t k)) k (i+1)=jS (bY (eQ t k)) k i++if(bY (eQ t k)).testBit (15-i) then[eK (16*k+i)] else[]:=rfl;rw[e,BJ _ _ (by rw[sR];omega),sR,show 16-1-(15-i)=i by omega,aJk t k i (by omega),cF]
theorem aJl (t:List UInt8) (k:Nat) (h:iT t k=false):jH t (16*(k+1))=jH t (16*k):=by
 rw[show 16*(k+1)=16*k+16 by omega,LB t k 16 (aA _)];have hv:bY (eQ t k)=0:=(yD _).2 h;rw[hv];have:∀i,jS 0 k i=[]:=fun i=>by
  induction i with
  |zero=>rfl
  |succ i ih=>unfold jS;rw[ih];simp
 rw[this,eE]
theorem DR (t:List UInt8):(nB t).length=16:=by simp[nB]
theorem UZ (t:List UInt8) (k:Nat):∀j,∃m,eX t (k+j)=eX t k++m
 |0=>⟨[],by simp⟩
 |j+1=>by
  obtain⟨m,hm⟩:=UZ t k j;refine⟨m++if iT t (k+j) then eQ t (k+j) else[],?_⟩;rw[<-dZ];show eX t (k+j)++_=_;rw[hm,cF]
theorem VA (t:List UInt8) (k:Nat) (hk:k<=16):∃m,eX t 16=eX t k++m:=by
 have:=UZ t k (16-k);rwa[show k+(16-k)=16 by omega] at this
theorem aJm {s:List UInt8} {a:Nat} {t:List UInt8} (h:fH s a (fZ t)):∀k,k<=16->
  cJ s (a:Int) k=(jH t (16*k),((a+16+(eX t k).length:Nat):Int),bY (nB t)==0,0):=by
 obtain⟨hf,hr⟩:=jN h;have hf2:=LA hf;rw[DR] at hr hf2;intro k
 induction k with
 |zero=>
  intro _;unfold cJ;rw[hf2.1,hf2.2];refine gK (by simp[jH]) (gK (by simp[eX]) (gK rfl rfl))
 |succ k ih=>
  intro hk;unfold cJ;rw[ih (by omega)];simp only
  rw[if_neg (by simp),hf2.2,BJ _ _ (by rw[DR];omega),DR,show 16-1-(15-k)=k by omega];have hg:(nB t).getD k false=iT t k:=by
   unfold nB;rw[aV,dY,pF (by omega)];rfl
  rw[hg]
  cases hs:iT t k with
  |false=>
   simp only[if_neg (show ¬(false=true) by decide)];rw[aJl t k hs];have e:eX t (k+1)=eX t k:=by
    show eX t k++(if iT t k then eQ t k else[])=_;rw[hs];simp
   rw[e]
  |true=>
   rw[if_pos rfl];have e:eX t (k+1)=eX t k++eQ t k:=by
    show eX t k++(if iT t k then eQ t k else[])=_;rw[hs];rfl
   have hst:fH s (a+16+(eX t k).length) (eQ t k):=by
    obtain⟨m,hm⟩:=VA t (k+1) hk;rw[hm,e] at hr;exact(jN (jN hr).1).2
   have hst2:=LA hst;rw[sR] at hst2;rw[if_neg (by rw[hst2.1];simp),hst2.2,e,aL,sR];have hne:bY (eQ t k)≠0:=fun q=>by
    rw[yD] at q;have hs':(eQ t k).any id=true:=hs;rw[q] at hs';exact absurd hs' (by decide)
   refine gK ?_ (gK (by show((a+16+(eX t k).length:Nat):Int)+16=((a+16+((eX t k).length+16):Nat):Int);omega) (gK ?_ rfl))
   ·show jH t (16*k)++jS (bY (eQ t k)) k 16=_;rw[<-LB t k 16 (aA _)];rfl
   ·show(bY (nB t)==0||bY (eQ t k)==0)=_;rw[show(bY (eQ t k)==0)=false from beq_eq_false_iff_ne.2 hne,xK]
theorem VB {t:List UInt8} (h:t≠[]):bY (nB t)≠0:=fun q=>by
 rw[yD] at q
 cases t with
 |nil=>exact h rfl
 |cons b r=>
  have hb:dB (b::r) b.toNat=true:=by unfold dB;simp
  have hb256:=b.toNat_lt;rw[List.any_eq_false] at q;have hm:iT (b::r) (b.toNat/16)∈nB (b::r):=by
   unfold nB;exact dU.2 ⟨b.toNat/16,jF.2 (by omega),rfl⟩
  have hs:iT (b::r) (b.toNat/16)=true:=by
   unfold iT;rw[AH];refine⟨true,?_,rfl⟩;unfold eQ;refine dU.2 ⟨b.toNat%16,jF.2 (by omega),?_⟩;rw[show 16*(b.toNat/16)+b.toNat%16=b.toNat by omega];exact hb
  have:=q _ hm;rw[hs] at this;exact this rfl
theorem aJn {s:List UInt8} {a:Nat} {t:List UInt8} (ht:t≠[]) (h:fH s a (fZ t)):cG s (a:Int)=(bK t,((a+(fZ t).length:Nat):Int),0):=by
 unfold cG;rw[aJm h 16 (aA _)];simp only
 rw[if_neg (by simp),show(bY (nB t)==0)=false from beq_eq_false_iff_ne.2 (VB ht),if_neg (by decide)];refine gK rfl (gK ?_ rfl);unfold fZ;rw[aL,DR,dZ]
theorem uY {s:List UInt8} {at':Int} {k:Nat} (h:(cJ s at' k).2.2.2≠0):∀j,cJ s at' (k+j)=cJ s at' k
 |0=>rfl
 |j+1=>by
  rw[<-dZ];show(if(cJ s at' (k+j)).2.2.2≠0 then _ else _)=_;rw[uY h j,if_pos h]
theorem aJx {s:List UInt8} {at' n:Int} (h:(eJ s at' n).2.2=0):0<=at'/\2<=n/\n<=258/\((eJ s at' n).1.length:Int)=n/\(∀x∈(eJ s at' n).1,1<=x/\x<=20)/\at'<(eJ s at' n).2.1/\(eJ s at' n).2.1<=8*(s.length:Int):=by
 unfold eJ at h ⊢;split at h
 ·simp at h
 ·next k1=>
  rw[if_neg k1];simp only at h ⊢;split at h
  ·next k2=>exact absurd h k2
  ·next k2=>
   rw[if_neg k2];have:=yR s at' (by omega) n.toNat (dK.1 k2);exact⟨by omega,by omega,by omega,by show((aZ s at' n.toNat).1.length:Int)=n;omega,this.2.1,this.2.2.2.1,this.2.2.2.2⟩
theorem aJ0 {s:List UInt8} {at' n tables:Int} (h:(dD s at' n tables).2.2=0):2<=tables/\tables<=6/\0<=at'/\0<=n/\((dD s at' n tables).1.length:Int)=n/\(∀x∈(dD s at' n tables).1,0<=x/\x<tables)/\at'<=(dD s at' n tables).2.1/\((dD s at' n tables).2.1=at'\/(dD s at' n tables).2.1<=8*(s.length:Int)):=by
 unfold dD at h ⊢;split at h
 ·simp at h
 ·next k1=>
  rw[if_neg k1];simp only at h ⊢;split at h
  ·next k2=>exact absurd h k2
  ·next k2=>
   rw[if_neg k2];obtain⟨q1,q2,q3,q4⟩:=wG s tables at' (by omega) (by omega) n.toNat (dK.1 k2);refine⟨by omega,by omega,by omega,by omega,?_,?_,q3,q4⟩
   ·simp only[bJ,oO,q1];omega
   ·intro x hx;obtain⟨b,hb,rfl⟩:=dU.1 hx;have hm:b∈cC tables.toNat:=IQ _ _ (by rw[oR];intro y hy;have:=q2 y hy;omega) b hb;rw[KA (by omega)] at hm;omega
theorem aJ3 {l:List Int} {s:List UInt8} {at':Int} (h:(bZ l s at').2.2=0):bL l=0/\0<=at'/\0<=(bZ l s at').1/\(bZ l s at').1<(l.length:Int)/\at'<(bZ l s at').2.1/\(bZ l s at').2.1<=8*(s.length:Int):=by
 by_cases hc:bL l≠0
 ·unfold bZ at h;rw[if_pos hc] at h;exact absurd h hc
 ·have hc:=dK.1 hc
  by_cases hn:at'<0
  ·unfold bZ at h;rw[if_neg (fun k=>k hc),if_pos hn] at h;simp at h
  ·obtain⟨a,rfl⟩:∃a:Nat,at'=(a:Int):=⟨at'.toNat,by omega⟩
   by_cases hf:∃i,i<l.length/\gZ l s a i
   ·obtain⟨i,hi,hf⟩:=hf;rw[uB hc hi hf];have hb:=jG (eH hc).1 hi;have:=hf.1;refine⟨hc,by omega,by show(0:Int)<=(i:Int);omega,by show(i:Int)<_;omega,by show(a:Int)<(a:Int)+(bG l i:Int);omega,by show(a:Int)+(bG l i:Int)<=_;omega⟩
   ·rw[uD hc (fun i hi k=>hf ⟨i,hi,k⟩)] at h;split at h<;>simp at h
theorem zD {s:List UInt8} {at' codes:Int} {k:Nat} (h:(bF s at' codes k).2.2≠0):∀j,bF s at' codes (k+j)=bF s at' codes k
 |0=>rfl
 |j+1=>by
  rw[<-dZ];show(if(bF s at' codes (k+j)).2.2≠0 then _ else _)=_;rw[zD h j,if_pos h]
theorem VP (s:List UInt8) (at' codes:Int):∀k,(bF s at' codes k).2.2=0->at'<=(bF s at' codes k).2.1/\(0<k->(bF s at' codes k).2.1<=8*(s.length:Int))
 |0,_=>⟨lJ _,fun h=>absurd h (by omega)⟩
 |k+1,h=>by
  by_cases h1:(bF s at' codes k).2.2≠0
  ·rw[zD h1 1] at h;exact absurd h h1
  ·have ih:=VP s at' codes k (dK.1 h1);unfold bF at h ⊢;simp only at h ⊢;rw[if_neg h1] at h ⊢
   by_cases h2:(eJ s (bF s at' codes k).2.1 codes).2.2≠0
   ·rw[if_pos h2] at h;exact absurd h h2
   ·rw[if_neg h2] at h ⊢
    by_cases h3:bL (eJ s (bF s at' codes k).2.1 codes).1≠0
    ·rw[if_pos h3] at h;exact absurd h h3
    ·rw[if_neg h3];have:=aJx (dK.1 h2);exact⟨by show at'<=(eJ _ _ _).2.1;omega,fun _=>this.2.2.2.2.2.2⟩
theorem zE {s:List UInt8} {at':Int} {t:List (List Int)} {cs:List Int} {fin:Int} {k:Nat} (h:(bH s at' t cs fin k).2.2.1≠0\/(bH s at' t cs fin k).2.2.2=true):∀j,bH s at' t cs fin (k+j)=bH s at' t cs fin k
 |0=>rfl
 |j+1=>by
  rw[<-dZ];show(if(bH s at' t cs fin (k+j)).2.2.1≠0\/(bH s at' t cs fin (k+j)).2.2.2=true then _ else _)=_;rw[zE h j,if_pos h]
theorem LE (s:List UInt8) (at':Int) (t:List (List Int)) (cs:List Int) (fin:Int):∀k,(bH s at' t cs fin k).2.2.1=0->at'<=(bH s at' t cs fin k).2.1/\((bH s at' t cs fin k).2.1<=8*(s.length:Int)\/((bH s at' t cs fin k).2.1=at'/\(bH s at' t cs fin k).1=[]))/\((bH s at' t cs fin k).1.length:Int)<=(bH s at' t cs fin k).2.1-at'/\∀x∈(bH s at' t cs fin k).1,0<=x/\∃l∈t,x<(l.length:Int)
 |0,_=>⟨lJ _,.inr ⟨rfl,rfl⟩,by simp[bH],fun x hx=>by simp[bH] at hx⟩
 |k+1,h=>by
  by_cases h1:(bH s at' t cs fin k).2.2.1≠0\/(bH s at' t cs fin k).2.2.2=true
  ·rw[zE h1 1] at h ⊢;have ih:=LE s at' t cs fin k h;exact ih
  ·have h0:(bH s at' t cs fin k).2.2.1=0:=dK.1 (fun q=>h1 (.inl q));have ih:=LE s at' t cs fin k h0;unfold bH at h ⊢;simp only at h ⊢;rw[if_neg h1] at h ⊢
   by_cases h2:(bZ (t.getD (cs.getD (k/10) 0).toNat []) s (bH s at' t cs fin k).2.1).2.2≠0
   ·rw[if_pos h2] at h;exact absurd h h2
   ·rw[if_neg h2] at h ⊢;have hs:=aJ3 (dK.1 h2);have hmem:∀x∈(bH s at' t cs fin k).1++[(bZ (t.getD (cs.getD (k/10) 0).toNat []) s (bH s at' t cs fin k).2.1).1],0<=x/\∃l∈t,x<(l.length:Int):=by
     intro x hx;rcases List.mem_append.1 hx with hx|hx
     ·exact ih.2.2.2 x hx
     ·obtain rfl:=List.mem_singleton.1 hx;refine⟨hs.2.2.1,t.getD (cs.getD (k/10) 0).toNat [],?_,hs.2.2.2.1⟩;rw[aV]
      cases q:t[(cs.getD (k/10) 0).toNat]? with
      |some l=>exact List.mem_of_getElem? q
      |none=>
       have:=hs.2.2.2.1;have h3:=hs.2.2.1;rw[aV,q] at this h3;simp only[Option.getD_none,cX] at this h3;omega
    have hl:(((bH s at' t cs fin k).1++[(bZ (t.getD (cs.getD (k/10) 0).toNat []) s (bH s at' t cs fin k).2.1).1]).length:Int)<=(bZ (t.getD (cs.getD (k/10) 0).toNat []) s (bH s at' t cs fin k).2.1).2.1-at':=by
     rw[aL,List.length_singleton];have:=ih.2.2.1;omega
    by_cases h3:(bZ (t.getD (cs.getD (k/10) 0).toNat []) s (bH s at' t cs fin k).2.1).1=fin
    ·rw[if_pos h3] at h ⊢
     by_cases h4:k/10+1<cs.length
     ·rw[if_pos h4] at h;simp at h
     ·rw[if_neg h4];exact⟨by show at'<=(bZ _ _ _).2.1;omega,.inl hs.2.2.2.2.2,hl,hmem⟩
    ·rw[if_neg h3];exact⟨by show at'<=(bZ _ _ _).2.1;omega,.inl hs.2.2.2.2.2,hl,hmem⟩
theorem LG {s:List UInt8} {at' codes:Int} (h:(cV s at' codes).2.2=0):0<=at'/\2<=codes/\codes<=258/\(∀x∈(cV s at' codes).1,0<=x/\x<codes)/\((cV s at' codes).1.length:Int)<=8*(s.length:Int)/\at'<(cV s at' codes).2.1/\(cV s at' codes).2.1<=8*(s.length:Int):=by
 unfold cV at h ⊢
 by_cases q1:aO s.length at' 3≠0
 ·rw[if_pos q1] at h;exact absurd h q1
 ·rw[if_neg q1] at h ⊢;have hg:=fQ (dK.1 q1)
  by_cases q2:aE s at' 3<2\/6<aE s at' 3
  ·rw[if_pos q2] at h;simp at h
  ·rw[if_neg q2] at h ⊢
   by_cases q3:aO s.length (at'+3) 15≠0
   ·rw[if_pos q3] at h;exact absurd h q3
   ·rw[if_neg q3] at h ⊢;have hv15:=iA s (at'+3) 15
    by_cases q4:aE s (at'+3) 15=0
    ·rw[if_pos q4] at h;simp at h
    ·rw[if_neg q4] at h ⊢;simp only at h ⊢;generalize hn:aE s at' 3=n at*
     generalize hm:aE s (at'+3) 15=m at*
     by_cases q5:(dD s (at'+18) m n).2.2≠0
     ·rw[if_pos q5] at h;exact absurd h q5
     ·rw[if_neg q5] at h ⊢;have hsel:=aJ0 (dK.1 q5);generalize dD s (at'+18) m n=c at*
      by_cases q6:(bF s c.2.1 codes n).2.2≠0
      ·rw[if_pos q6] at h;exact absurd h q6
      ·rw[if_neg q6] at h ⊢;have ht:=DM s c.2.1 codes n (dK.1 q6);have htn:=VP s c.2.1 codes n (dK.1 q6);have ht2:2<=codes/\codes<=258:=by
        have hne:0<(bF s c.2.1 codes n).1.length:=by omega
        have:=ht.2 _ (gT hne);have h3:=(eH this.1).1;have h4:=h3.1;have h5:=h3.2.1;omega
       generalize bF s c.2.1 codes n=t at*
       unfold gX at h ⊢;simp only at h ⊢;have hnx:=LE s t.2.1 t.1 c.1 (codes-1) (10*c.1.length);generalize bH s t.2.1 t.1 c.1 (codes-1) (10*c.1.length)=p at*
       by_cases q7:p.2.2.1≠0
       ·rw[if_pos q7] at h;exact absurd h q7
       ·rw[if_neg q7] at h ⊢;have hnx:=hnx (dK.1 q7)
        by_cases q8:p.2.2.2=true
        ·rw[if_pos q8];refine⟨hg.1,ht2.1,ht2.2,fun x hx=>?_,?_,?_,?_⟩
         ·obtain⟨k1,l,k2,k3⟩:=hnx.2.2.2 x hx;have:=(ht.2 l k2).2;exact⟨k1,by omega⟩
         ·show(p.1.length:Int)<=8*(s.length:Int);have:=hnx.2.2.1;have:=htn.2 (by omega);rcases hnx.2.1 with k|k<;>omega
         ·show at'<p.2.1;omega
         ·show p.2.1<=_;have:=htn.2 (by omega);rcases hnx.2.1 with k|k<;>omega
        ·rw[if_neg q8] at h;simp at h
theorem aOg (l:List Bool) (i:Nat) (h:i<l.length):(kW (aD l))[i]? =l[i]? :=by
 rw[sP,if_pos (by rw[gY];omega),sO,aV,aN h];rfl
theorem aOh (x l y:List Bool):seg (aD (x++l++y)) x.length l.length=l:=by
 apply List.ext_getElem?;intro i;unfold seg;rw[lW,gR]
 by_cases hi:i<l.length
 ·rw[if_pos hi,aOg _ _ (by simp;omega),List.getElem?_append_left (by simp;omega),List.getElem?_append_right (by omega),show x.length+i-x.length=i by omega]
 ·rw[if_neg hi,List.getElem?_eq_none (by omega)]
theorem YF (x l y:List Bool):fH (aD (x++l++y)) x.length l:=
 ⟨by rw[gY];simp;omega,aOh x l y⟩
theorem zP (l:List Bool):fH (aD l) 0 l:=by
 have:=YF [] l []
 simpa using this
theorem MD {s:List UInt8} {a:Nat} {l:List Bool} (h:fH s a l) {i:Nat} (hi:i<l.length):dI s (a+i)=l.getD i false:=by
 obtain⟨h1,h2⟩:=h;have e:(seg s a l.length)[i]? =l[i]? :=by rw[h2]
 unfold seg at e;rw[lW,if_pos hi,gR,sP,if_pos (by omega),aN hi] at e;rw[aV,aN hi]
 injection e
def mO (t0 t1 cs m:List Int):Nat->List Bool
 |0=>[]
 |k+1=>mO t0 t1 cs m k++aY (fO (if cs.getD (k/10) 0=0 then t0 else t1) (m.getD k 0).toNat) (bG (if cs.getD (k/10) 0=0 then t0 else t1) (m.getD k 0).toNat)
theorem XA (t0 t1 cs m:List Int) (i:Nat):∀j,j<=10->10*i+j<=m.length->mO t0 t1 cs m (10*i+j)=mO t0 t1 cs m (10*i)++eR (if cs.getD i 0=0 then t0 else t1) (((m.drop (10*i)).take 10).take j)
 |0,_,_=>by simp[eR]
 |j+1,h,hm=>by
  have e:((m.drop (10*i)).take 10).take (j+1)=((m.drop (10*i)).take 10).take j++[m.getD (10*i+j) 0]:=by
   rw[cQ]
   congr 1
   rw[lW,if_pos (by omega),gR,aV,aN (by omega)];rfl
  rw[e,SI,<-cF,<-XA t0 t1 cs m i j (by omega) (by omega),<-dZ];show mO t0 t1 cs m (10*i+j)++_=_;rw[show(10*i+j)/10=i by omega]
theorem XB (t0 t1 cs m:List Int) (hcs:cs.length=(m.length+9)/10):∀i,i<=(m.length+9)/10->gP t0 t1 (cs.take i) ((cK m).take i)=mO t0 t1 cs m (min (10*i) m.length)
 |0,_=>by simp[gP,mO]
 |i+1,h=>by
  have e1:cs.take (i+1)=cs.take i++[cs.getD i 0]:=by
   rw[cQ,aV,aN (by omega)];rfl
  have e2:(cK m).take (i+1)=(cK m).take i++[(m.drop (10*i)).take 10]:=by
   rw[cQ,wH m i (by omega)];rfl
  rw[e1,e2,KL _ _ _ _ _ _ (by rw[aX,aX,iD];omega),XB t0 t1 cs m hcs i (by omega),show min (10*i) m.length=10*i by omega];have hg:=XA t0 t1 cs m i (min 10 (m.length-10*i)) (by omega) (by omega);rw[show min (10*(i+1)) m.length=10*i+min 10 (m.length-10*i) by omega,hg]
  congr 2
  rw[List.take_take]
  by_cases q:10<=m.length-10*i
  ·rw[show min (min 10 (m.length-10*i)) 10=10 by omega]
  ·rw[cS (by rw[cI];omega),cS (by rw[cI];omega)]
theorem XC (t0 t1 cs m:List Int) (hcs:cs.length=(m.length+9)/10):gP t0 t1 cs (cK m)=mO t0 t1 cs m m.length:=by
 have:=XB t0 t1 cs m hcs ((m.length+9)/10) (aA _);rw[cS (by omega),cS (by rw[iD];exact aA _),show min (10*((m.length+9)/10)) m.length=m.length by omega] at this;exact this
theorem XD (t0 t1 cs m:List Int) (k:Nat):∀j,∃r,mO t0 t1 cs m (k+j)=mO t0 t1 cs m k++r
 |0=>⟨[],by simp⟩
 |j+1=>by
  obtain⟨r,hr⟩:=XD t0 t1 cs m k j;refine⟨r++aY (fO (if cs.getD ((k+j)/10) 0=0 then t0 else t1) (m.getD (k+j) 0).toNat) (bG (if cs.getD ((k+j)/10) 0=0 then t0 else t1) (m.getD (k+j) 0).toNat),?_⟩;rw[<-dZ,<-cF,<-hr];rfl
theorem aMf {s:List UInt8} {a:Nat} {t0 t1 cs m:List Int} {n:Nat} (h0:bL t0=0) (h1:bL t1=0) (l0:t0.length=n) (l1:t1.length=n) (hcs:cs.length=(m.length+9)/10) (hc:∀x∈cs,x=0\/x=1)
  (hm:∀x∈m,0<=x/\x<(n:Int)) (hmp:0<m.length) (hlast:m[m.length-1]? =some ((n:Int)-1)) (hnot:∀x∈m.take (m.length-1),x<(n:Int)-1)
  (h:fH s a (gP t0 t1 cs (cK m))):∀k,k<=m.length->
   bH s (a:Int) [t0,t1] cs ((n:Int)-1) k=(m.take k,((a+(mO t0 t1 cs m k).length:Nat):Int),0,decide (k=m.length)):=by
 rw[XC t0 t1 cs m hcs] at h;intro k
 induction k with
 |zero=>
  intro _;unfold bH;rw[decide_eq_false (by omega)];simp[mO]
 |succ k ih=>
  intro hk;have ih:=ih (by omega);rw[decide_eq_false (by omega)] at ih;obtain⟨r,hr⟩:=XD t0 t1 cs m (k+1) (m.length-(k+1));rw[show k+1+(m.length-(k+1))=m.length by omega] at hr;rw[hr] at h;have hst:=(jN (jN h).1).2;have hx:=hm m[k] (gT (by omega));have ex:m.getD k 0=m[k]:=by rw[aV,aN (by omega)];rfl
  have ht:m.take (k+1)=m.take k++[m[k]]:=by rw[cQ,aN (by omega)];rfl
  have hcg:cs.getD (k/10) 0=0\/cs.getD (k/10) 0=1:=by
   rw[aV,aN (by omega)];exact hc _ (gT _)
  have htab:[t0,t1].getD (cs.getD (k/10) 0).toNat []=if cs.getD (k/10) 0=0 then t0 else t1:=by
   rcases hcg with q|q<;>rw[q]<;>rfl
  have hck:bL (if cs.getD (k/10) 0=0 then t0 else t1)=0:=by split;exact h0;exact h1
  have hlk:(if cs.getD (k/10) 0=0 then t0 else t1).length=n:=by split;exact l0;exact l1
  have hL:(mO t0 t1 cs m (k+1)).length=(mO t0 t1 cs m k).length+bG (if cs.getD (k/10) 0=0 then t0 else t1) (m.getD k 0).toNat:=by
   show(mO t0 t1 cs m k++aY _ _).length=_;rw[aL,cY]
  rw[hL];generalize (if cs.getD (k/10) 0=0 then t0 else t1)=tb at*
  rw[ex] at hst ⊢;have hsym:=aJj hck (i:=m[k].toNat) (by omega) hst;unfold bH;rw[ih];simp only
  rw[if_neg (by simp),htab,hsym];simp only
  rw[if_neg (by simp)];have ei:((m[k].toNat:Nat):Int)=m[k]:=by omega
  rw[ei,ht]
  by_cases hkl:k+1=m.length
  ·have hl:m[k]=(n:Int)-1:=by
    have:m[m.length-1]? =some m[k]:=by rw[show m.length-1=k by omega,aN (by omega)]
    rw[hlast] at this
    injection this with this
    exact this.symm
   rw[if_pos hl,if_neg (by omega),decide_eq_true hkl,dZ]
  ·have hl:m[k]<(n:Int)-1:=hnot _ (by
    refine List.mem_iff_getElem.2 ⟨k,by rw[aX];omega,?_⟩;rw[List.getElem_take])
   rw[if_neg (by omega),decide_eq_false hkl,dZ]
theorem XE {s:List UInt8} {at':Int} {t:List (List Int)} {cs:List Int} {fin:Int} {k:Nat} (h:(bH s at' t cs fin k).2.2.2=true):∀j,bH s at' t cs fin (k+j)=bH s at' t cs fin k
 |0=>rfl
 |j+1=>by
  rw[<-dZ];show(if(bH s at' t cs fin (k+j)).2.2.1≠0\/(bH s at' t cs fin (k+j)).2.2.2=true then _ else _)=_;rw[XE h j,if_pos (.inr h)]
theorem aMg (cs:List Int) (hc:∀x∈cs,x=0\/x=1):(∀x∈dO cs,0<=x/\x<2)/\(unL (cC 2) (dO cs)).map (fun b=>(b.toNat:Int))=cs:=by
 have hmem:∀b∈cs.map (fun c=>eK c.toNat),b∈cC 2:=fun b hb=>by
  obtain⟨x,hx,rfl⟩:=dU.1 hb;rw[KA (by decide)];rcases hc x hx with rfl|rfl<;>decide
 constructor
 ·intro x hx;have:=vT _ _ hmem x hx;rw[oR] at this;exact this
 ·unfold dO;rw[PN _ _ hmem,List.map_map]
  conv=>rhs;rw[<-List.map_id cs]
  apply List.map_congr_left;intro x hx;rcases hc x hx with rfl|rfl<;>rfl
theorem aMh {s:List UInt8} {a n:Nat} {m:List Int} (h2:2<=n) (h258:n<=258) (hm:∀x∈m,0<=x/\x<(n:Int)) (hml:m.length<=20000) (hmp:0<m.length) (hlast:m[m.length-1]? =some ((n:Int)-1)) (hnot:∀x∈m.take (m.length-1),x<(n:Int)-1)
  (h:fH s a (rV m n)):cV s (a:Int) (n:Int)=(m,((a+(rV m n).length:Nat):Int),0):=by
 have hc:=DE m n;have hcl:=wJ m n;obtain⟨hp1,hp2⟩:=aMg (cT m n) hc;have k0:=tB h2 h258 hm hml (which:=0);have k1:=tB h2 h258 hm hml (which:=1);have o0:=rQ h2 h258 hm hml (which:=0);have o1:=rQ h2 h258 hm hml (which:=1);have hlen:(rV m n).length=3+15+(dE (dO (cT m n))).length+(dW (dN m n 0)).length+(dW (dN m n 1)).length+(gP (dN m n 0) (dN m n 1) (cT m n) (cK m)).length:=by
  unfold rV;simp only[aL,cY]
 rw[hlen];unfold rV at h;obtain⟨h,s6⟩:=jN h;obtain⟨h,s5⟩:=jN h;obtain⟨h,s4⟩:=jN h;obtain⟨h,s3⟩:=jN h;obtain⟨s1,s2⟩:=jN h;simp only[aL,cY] at s2 s3 s4 s5 s6;obtain⟨e1,v1⟩:=uX s1 (by decide);obtain⟨e2,v2⟩:=uX s2 (by rw[hcl];omega);have hplen:(dO (cT m n)).length=(cT m n).length:=by unfold dO;rw[rH,bJ]
 have e3:=aJi (tables:=2) hp1 s3 (dO (cT m n)).length (aA _);rw[kE,hplen] at e3;have e4:=UX o0.1 s4;have e5:=UX o1.1 s5;rw[o0.2] at e4;rw[o1.2] at e5;rw[show((a+3:Nat):Int)=(a:Int)+3 by omega] at e2 v2;have es:=aMf k0 k1 o0.2 o1.2 hcl hc hm hmp hlast hnot s6 m.length (aA _);rw[decide_eq_true rfl] at es;have es2:=XE (by rw[es]) (10*(cT m n).length-m.length);rw[show m.length+(10*(cT m n).length-m.length)=10*(cT m n).length by omega,es] at es2;generalize hcs:cT m n=cs at*
 generalize dN m n 0=t0 at*
 generalize dN m n 1=t1 at*
 unfold cV;rw[if_neg (by rw[e1];simp),v1,if_neg (by omega),if_neg (by rw[e2];simp),v2,if_neg (by omega)];have esel:dD s ((a:Int)+18) ((cs.length:Nat):Int) ((2:Nat):Int)=(cs,((a+18+(dE (dO cs)).length:Nat):Int),0):=by
  unfold dD;rw[if_neg (by omega),eG,show(a:Int)+18=((a+(3+15):Nat):Int) by omega];have:cO s ((2:Nat):Int) ((a+(3+15):Nat):Int) cs.length=(dO cs,_,0):=e3;rw[this];simp only
  rw[if_neg (by simp),eG,hp2]
 rw[esel];simp only
 rw[if_neg (by simp)];have etab:bF s ((a+18+(dE (dO cs)).length:Nat):Int) (n:Int) 2=([t0,t1],((a+18+(dE (dO cs)).length+(dW t0).length+(dW t1).length:Nat):Int),0):=by
  have ea:a+(3+15+(dE (dO cs)).length)=a+18+(dE (dO cs)).length:=by omega
  have eb:a+(3+15+(dE (dO cs)).length+(dW t0).length)=a+18+(dE (dO cs)).length+(dW t0).length:=by omega
  rw[ea] at e4;rw[eb] at e5;have f1:bF s ((a+18+(dE (dO cs)).length:Nat):Int) (n:Int) 1=([t0],((a+18+(dE (dO cs)).length+(dW t0).length:Nat):Int),0):=by
   simp only[bF,e4,k0,ne_eq,not_true,if_false,List.nil_append]
  unfold bF;rw[f1];simp only
  rw[if_neg (by simp),e5];simp only
  rw[if_neg (by simp),if_neg (by rw[k1];simp)];rfl
 rw[etab];simp only
 rw[if_neg (by simp)];unfold gX;have ec:a+18+(dE (dO cs)).length+(dW t0).length+(dW t1).length=a+(3+15+(dE (dO cs)).length+(dW t0).length+(dW t1).length):=by omega
 rw[ec,es2];simp only
 rw[if_neg (by simp),if_pos trivial,kE];rw[XC t0 t1 cs m hcl];refine gK rfl (gK ?_ rfl);show((a+(3+15+(dE (dO cs)).length+(dW t0).length+(dW t1).length)+(mO t0 t1 cs m m.length).length:Nat):Int)=_
 congr 1
 omega
end
section
open Go.RowKit Go Go.Shelf
def oU (s:List UInt8) (k j:Nat):List Bool:=(dG j).map (fun i=>dB s (16*k+i))
theorem VC (s:List UInt8) (k j:Nat):oU s k (j+1)=oU s k j++[dB s (16*k+j)]:=by unfold oU;rw[sF,fI];rfl
theorem VD (s:List UInt8) (k j:Nat):(oU s k j).length=j:=by simp[oU]
theorem LC (s:List UInt8) (k:Nat):oU s k 16=eQ s k:=rfl
theorem VE (l:List Bool) (b:Bool):(l++[b]).any id=(l.any id||b):=by simp
theorem aJo (s:ByteArray) (k:Nat) (w:World) (hs:s.size<=140737488355328) (hk:k<16):
  Calls Tryz.prog 75 #[.string s,.int .i64 (k:Int)] w fun e w'=>∃v,e=.returned (.tuple #[v,.bool (iT s.data.toList k)])/\OwI w' w.heap.size v (bI (eQ s.data.toList k))/\Below w.heap.size w w':=by
 obtain⟨q,hq⟩:∃q,q=16*k:=⟨_,rfl⟩;have m1:aI.wrap (16*(k:Int))=(q:Int):=by rw[aM];omega
 have m1':16*(k:Int)=(q:Int):=by omega
 obtain⟨q2,hq2⟩:∃q2,q2=q+16:=⟨_,rfl⟩;have m2:aI.wrap ((q:Int)+16)=(q2:Int):=by rw[aM];omega
 have m2':(q:Int)+16=(q2:Int):=by omega
 have HQ:=hid hq;have HQ2:=hid hq2;have hq256:q2<=256:=by omega
 have hqq:q2=q+16:=hq2;have HQQ:=hid hqq;clear hq hq2 hqq;go_enter Tryz.func75,Tryz.ntmps75;go_wp2_with fail
 go_loopg [6,7,8,9] 16 (fun g s6 s7 s8 _s9 wr=>∃(j c:Nat) (T:Bool),j<=16/\g=16-j/\s8=.int .i64 (c:Int)/\s7=.bool T/\Hid (c=q+j)/\Hid (T=(oU s.data.toList k j).any id)/\OwI wr w.heap.size s6 (bI (oU s.data.toList k j))/\Below w.heap.size w wr)
 case atStart=>exact⟨0,q,false,by omega,rfl,rfl,rfl,hid rfl,hid rfl,OwI.nil _ _,aB _ _⟩
 case round=>
  obtain⟨j,c,T,hj,hg,rfl,rfl,HC,HT,hown,hbel⟩:=hrel;have HG:=hid hg;clear hg;have hc:=HC.out;have hqq:=HQQ.out
  by_cases hlt:j<16
  ·have t1:decide ((c:Int)<(q2:Int))=true:=decide_eq_true (by omega);have t2:decide (c<q2)=true:=decide_eq_true (by omega);have hc256:c<256:=by omega
   have hlen:(bI (oU s.data.toList k j)).length=j:=by rw[cN,VD]
   have hcall:=fun W=>UU s c W hs hc256
   have hbs:=hbel.size;have HS:=hid (VC s.data.toList k j);obtain⟨h,hh⟩:∃h,h=dB s.data.toList c:=⟨_,rfl⟩;rw[<-hh] at hcall;have HH:=hid (show dB s.data.toList (16*k+j)=h by rw[hh,hc,HQ.out]);have hcc:aI.wrap ((c:Int)+1)=((c+1:Nat):Int):=by rw[aM];omega
   clear hh hc hqq;go_wp2_with fail;refine(hcall _).mono ?_;rintro e w1 ⟨rfl,rfl⟩
   cases h with
   |true=>
    go_wp2_with (at_builtin;refine eN rfl _ _ rfl w.heap.size _ _ rfl (hown.alloc _) w1.heap.size (1:Int) rfl ?_ ?_ ?_ ?_;(exact bS _ _ _);(rw[hlen];omega);(simp;omega);intro v' w2 hown' hB hgrow);have hg:=HG.out
    go_roundg (16-(j+1))
    case measure=>omega
    case rel=>exact⟨j+1,c+1,true,by omega,rfl,by go_num,rfl,hid (by have:=HC.out;omega),hid (by rw[HS.out,HH.out,VE,Bool.or_true]),by rw[HS.out,HH.out,gB];exact hown',(hbel.alloc hbs _).trans hB⟩
   |false=>
    go_wp2_with (at_builtin;refine eN rfl _ _ rfl w.heap.size _ _ rfl (hown.alloc _) w1.heap.size (0:Int) rfl ?_ ?_ ?_ ?_;(exact bS _ _ _);(rw[hlen];omega);(simp;omega);intro v' w2 hown' hB hgrow);have hg:=HG.out
    go_roundg (16-(j+1))
    case measure=>omega
    case rel=>exact⟨j+1,c+1,T,by omega,rfl,by go_num,rfl,hid (by have:=HC.out;omega),hid (by rw[HS.out,HH.out,VE,xK];exact HT.out),by rw[HS.out,HH.out,gB];exact hown',(hbel.alloc hbs _).trans hB⟩
  ·have t1:decide ((c:Int)<(q2:Int))=false:=decide_eq_false (by omega);have t2:decide (c<q2)=false:=decide_eq_false (by omega);have hje:j=16:=by omega
   subst hje;rw[LC] at hown;have HF:=hid (show T=iT s.data.toList k by rw[HT.out,LC];rfl);clear hc hqq;go_wp2_with fail
   go_ret2
   exact⟨_,by rw[HF.out];rfl,hown,hbel⟩
def pT (a b:Value):Prop:=a.ownBlock=none\/b.ownBlock=none\/a.ownBlock≠b.ownBlock
theorem pT.symm {a b:Value} (h:pT a b):pT b a:=by
 rcases h with h|h|h
 ·exact .inr (.inl h)
 ·exact .inl h
 ·exact .inr (.inr (fun e=>h e.symm))
theorem pT.keeps {a b:Value} (h:pT a b):b.ownBlock=none\/b.ownBlock≠a.ownBlock:=by
 rcases h with h|h|h
 ·cases hb:b.ownBlock with
  |none=>exact .inl rfl
  |some k=>right;rw[h];simp
 ·exact .inl h
 ·exact .inr (fun e=>h e.symm)
theorem pT.left {w:World} {B:Nat} {a a' b:Value} {l:List Int} (h:pT a b) (hb:OwI w B b l) (ha:a'.ownBlock=a.ownBlock\/a'.ownBlock=some w.heap.size):pT a' b:=by
 rcases ha with e|e
 ·unfold pT at h ⊢;rw[e];exact h
 ·right
  cases hk:b.ownBlock with
  |none=>exact .inl rfl
  |some k=>
   right
   rw[e];have:=(Ow.lt hb k hk).2;intro e2
   injection e2 with e2
   omega
def lU (s:List UInt8) (k:Nat):List Bool:=(dG k).map (iT s)
theorem VF (s:List UInt8) (k:Nat):lU s (k+1)=lU s k++[iT s k]:=by unfold lU;rw[sF,fI];rfl
theorem zC (s:List UInt8) (k:Nat):(lU s k).length=k:=by simp[lU]
theorem LD (s:List UInt8) (k:Nat):eX s (k+1)=eX s k++if iT s k then eQ s k else[]:=rfl
theorem aJp {s:List UInt8} (h:s≠[]):0<(eX s 16).length:=by
 have h1:=VB h;rw[Ne,yD,Bool.not_eq_false,AH] at h1;obtain⟨b,hb,hbt⟩:=h1;unfold nB at hb;obtain⟨k,hk,rfl⟩:=dU.1 hb;rw[jF] at hk;obtain⟨m,hm⟩:=VA s (k+1) (by omega);have hbt:iT s k=true:=hbt;rw[hm,LD,hbt,if_pos rfl];simp only[aL,sR];omega
theorem aJq {w w':World} {B:Nat} {a v:Value} {l m:List Int} (h:OwI w B a l) (hv:OwI w' w.heap.size v m):pT a v:=by
 cases ha:a.ownBlock with
 |none=>exact .inl ha
 |some k=>
  cases hb:v.ownBlock with
  |none=>exact .inr (.inl hb)
  |some j=>
   right;right
   rw[ha,hb];have h1:=(Ow.lt h k ha).2;have h2:=(Ow.lt hv j hb).1;intro e
   injection e with e
   omega
theorem VG (w:World) (x:Int):RdI (w.alloc (.cells #[.int .i64 x] 3)) (.slice (some ⟨w.heap.size,0,none⟩) 1 1) [x]:=xY w 3 [.int .i64 x] 1 rfl (by decide)
theorem aJr (s:ByteArray) (w:World) (hs:s.size<=1000000) (h0:s.data.toList≠[]):
  Calls Tryz.prog 56 #[.string s] w fun e w'=>e=.returned (eL (fZ s.data.toList))/\Below w.heap.size w w':=by
 have H0:=hid (aJp h0);have HRL:=hid (fun k=>CC s.data.toList k);clear h0;go_enter Tryz.func56,Tryz.ntmps56;go_wp2_with fail;have hA0:=Arr.new w 82 [.string ⟨#[]⟩,.int .i64 0];change Arr (w.alloc (.cells #[.string ⟨#[]⟩,.int .i64 0] 82)) _ _ _ at hA0;have hs0:(w.alloc (.cells #[.string ⟨#[]⟩,.int .i64 0] 82)).heap.size=w.heap.size+1:=by simp
 have hb0:Below w.heap.size w (w.alloc (.cells #[.string ⟨#[]⟩,.int .i64 0] 82)):=bD (aB _ _) _;generalize w.alloc (.cells #[.string ⟨#[]⟩,.int .i64 0] 82)=w0 at*
 go_loopg [3,4,5,6,7] 16 (fun g s3 s4 s5 _s6 _s7 wr=>∃k:Nat,k<=16/\g=16-k/\s5=.int .i64 (k:Int)/\OwI wr (w.heap.size+1) s3 (bI (lU s.data.toList k))/\OwI wr (w.heap.size+1) s4 (bI (eX s.data.toList k))/\pT s3 s4/\Below (w.heap.size+1) w0 wr)
 case atStart=>exact⟨0,by omega,rfl,rfl,OwI.nil _ _,OwI.nil _ _,.inl rfl,aB _ _⟩
 case round=>
  obtain⟨k,hk,hg,rfl,ho3,ho4,hap,hbel⟩:=hrel;have HG:=hid hg;clear hg;have hsz:=hbel.size
  by_cases hlt:k<16
  ·have t1:decide ((k:Int)<16)=true:=decide_eq_true (by omega);have hcall:=fun W=>aJo s k W (by omega) hlt
   have hl3:(bI (lU s.data.toList k)).length=k:=by rw[cN,zC]
   have hl4:(bI (eX s.data.toList k)).length<=16*k:=by rw[cN];exact HRL.out k
   have hlr:(bI (eQ s.data.toList k)).length=16:=by rw[cN,sR]
   have HF:=hid (VF s.data.toList k);have HR:=hid (LD s.data.toList k);obtain⟨T,hT⟩:∃T,T=iT s.data.toList k:=⟨_,rfl⟩;rw[<-hT] at hcall HF HR;clear hT;go_wp2_with fail;refine(hcall _).mono ?_;rintro e w1 ⟨v,rfl,hov,hb1⟩;have ho3':=OwI.below ho3 hb1 (aA _);have ho4':=OwI.below ho4 hb1 (aA _);have hb1s:=hb1.size;have hbel1:=hbel.trans (hb1.mono (by omega));have hav:=aJq ho3 hov;clear ho3 ho4
   cases T with
   |true=>
    go_wp2_with (first
     |(at_builtin;refine kG rfl _ _ rfl (w.heap.size+1) _ _ [1] rfl (OwI.alloc ho3' _) _ rfl (VG w1 1) (by decide) ?_ ?_ ?_;(rw[hl3];show(k+1)*8<=_;omega);(simp;omega);intro v3 w3 p1 p2 p3 p4;(have ho4'':=Ow.kept (OwI.alloc ho4' (.cells #[.int .i64 1] 3)) p3 hap.keeps);(have hov3:=(Ow.kept (OwI.alloc hov (.cells #[.int .i64 1] 3)) p3 hav.keeps));(have hap3:=hap.left (OwI.alloc ho4' (.cells #[.int .i64 1] 3)) p4);(have hs3:=p2.size))
     |(at_builtin;refine kG rfl _ _ rfl (w.heap.size+1) _ _ (bI (eQ s.data.toList k)) rfl ho4'' v rfl (OwI.rd hov3) ?_ ?_ ?_ ?_;(rw[hlr];decide);(rw[hlr];omega);(simp at hs3;omega);intro v4 w4 r1 r2 r3 r4))
    have hg:=HG.out
    go_roundg (16-(k+1))
    case measure=>omega
    case rel=>exact⟨k+1,by omega,rfl,by go_num,by rw[HF.out,gB];exact Ow.kept p1 r3 hap3.symm.keeps,by rw[HR.out,if_pos trivial,gB];exact r1,(hap3.symm.left p1 r4).symm,((hbel1.alloc (by omega) _).trans p2).trans r2⟩
   |false=>
    go_wp2_with (at_builtin;refine kG rfl _ _ rfl (w.heap.size+1) _ _ [0] rfl (OwI.alloc ho3' _) _ rfl (VG w1 0) (by decide) ?_ ?_ ?_;(rw[hl3];show(k+1)*8<=_;omega);(simp;omega);intro v3 w3 p1 p2 p3 p4);have hg:=HG.out
    go_roundg (16-(k+1))
    case measure=>omega
    case rel=>exact⟨k+1,by omega,rfl,by go_num,by rw[HF.out,gB];exact p1,by rw[HR.out,if_neg (by decide),eE];exact Ow.kept (OwI.alloc ho4' (.cells #[.int .i64 0] 3)) p3 hap.keeps,hap.left (OwI.alloc ho4' (.cells #[.int .i64 0] 3)) p4,(hbel1.alloc (by omega) _).trans p2⟩
  ·have t1:decide ((k:Int)<16)=false:=decide_eq_false (by omega);have hke:k=16:=by omega
   subst hke;have hl3:(bI (lU s.data.toList 16)).length=16:=by rw[cN,zC]
   have hl4:(bI (eX s.data.toList 16)).length<=16*16:=by rw[cN];exact HRL.out 16
   have hl5:0<(bI (eX s.data.toList 16)).length:=by rw[cN];exact H0.out
   have hr4:=OwI.rd ho4;go_wp2_with (at_builtin;refine kG rfl _ _ rfl (w.heap.size+1) _ _ (bI (eX s.data.toList 16)) rfl ho3 _ rfl hr4 hl5 ?_ ?_ ?_;(rw[hl3];omega);(omega);intro v5 w5 p1 p2 p3 p4);have hm:bI (lU s.data.toList 16)++bI (eX s.data.toList 16)=bI (fZ s.data.toList):=by rw[<-gB];rfl
   rw[hm] at p1;have hml:=CD s.data.toList;refine(uG v5 (fZ s.data.toList) w5 (OwI.rd p1) (by omega)).mono ?_;rintro e w6 ⟨rfl,hb6⟩;have hA6:=((hA0.below hbel (by omega)).below p2 (by omega)).below hb6 (by have:=p2.size;omega);have hB6:Below w.heap.size w w6:=((hb0.trans (hbel.mono (by omega))).trans (p2.mono (by omega))).trans (hb6.mono (by have:=p2.size;omega));have d0:=hA6.cell (i:=0) rfl;have d1:=hA6.cell (i:=1) rfl;have f0:=hA6.free 0;have f1:=hA6.free 1;clear hA0 hm hb6 p1 p2 p3 p4 ho3 ho4 hr4 hbel hb0;generalize hmm:fZ s.data.toList=m at*
   have HM:=hid hmm;clear hmm;go_wp2_with fail;have z0:Arr ((w6.setCell ⟨w.heap.size,0,none⟩ (.string (mkS (aD m)))).setCell ⟨w.heap.size,1,none⟩ (.int .i64 (m.length:Int))) w.heap.size 82 [.string (mkS (aD m)),.int .i64 (m.length:Int)]:=(hA6.set 0 _).set 1 _;refine bodyPost_ret (results_cell_row rfl _ _ w.heap.size _ _ (0,0) _ rfl z0 Tryz.underlying82 rfl mF) rfl ?_;exact⟨by rw[HM.out];rfl,(hB6.setCell (p:=⟨w.heap.size,0,none⟩) (aA _) _).setCell (p:=⟨w.heap.size,1,none⟩) (aA _) _⟩
theorem gbB {W W':World} {g:Option Nat} (h:Below W.heap.size W W'):W.grownBy W' g:=⟨h.os,h.tape,h.output,h.size,fun k hk _=>h.block k hk⟩
theorem gbT {A B C:World} {g:Option Nat} (h:A.grownBy B g) (k:B.grownBy C g):A.grownBy C g:=
 ⟨k.os.trans h.os,k.tape.trans h.tape,k.output.trans h.output,aW h.size k.size,fun i hi hne=>(k.block i (dR hi h.size) hne).trans (h.block i hi hne)⟩
theorem gbS (W:World) (g i:Nat) (v:Value):W.grownBy (W.setCell ⟨g,i,none⟩ v) (some g):=
 ⟨rfl,rfl,rfl,by simp,fun k _ hne=>heap_setCell_other W ⟨g,i,none⟩ k v (fun e=>hne (by rw[e]))⟩
def ER (E:Int):List PanicEntry:=[{v:=.iface 234 (.agg #[.int .i64 E]),recovered:=false}]
def DRd (w:World) (b:Nat) (s:ByteArray) (a:Nat):Prop:=Arr w b 237 [.string s,.int .i64 (a:Int)]
theorem MK (b:Nat) (s:ByteArray) (a k:Nat) (W:World) (hA:DRd W b s a) (hs:s.size<=1000000) (hk:k<=40) (ha:a<=100000000):
  Calls Tryz.prog 142 #[.pointer (some ⟨b,0,none⟩),.int .i64 (k:Int)] W fun e w'=>
   (aO s.size (a:Int) k=0/\e=.returned (.int .i64 (aE s.data.toList (a:Int) k:Int))/\DRd w' b s (a+k)/\W.grownBy w' (some b))\/(aO s.size (a:Int) k≠0/\e=.panicked (ER (aO s.size (a:Int) k))/\W.grownBy w' (some b)):=by
 have hget:=fun W=>sT s (a:Int) k W hs (by omega) (by omega) (by omega)
 have hVb:=iA s.data.toList (a:Int) k;have hVb2:aE s.data.toList (a:Int) k<1099511627776:=dR hVb (aW (Nat.pow_le_pow_right (by decide) hk) (by decide));obtain⟨E,hE⟩:∃E,E=aO s.size (a:Int) k:=⟨_,rfl⟩;obtain⟨V,hV⟩:∃V,V=aE s.data.toList (a:Int) k:=⟨_,rfl⟩;rw[<-hE,<-hV];rw[<-hE,<-hV] at hget;rw[<-hV] at hVb2;have HE:=hid hE;clear hE hV hVb;have c0:=Arr.cell hA (i:=0) rfl;have c1:=Arr.cell hA (i:=1) rfl;have f1:=Arr.free hA 1;have m1:aI.wrap (V:Int)=(V:Int):=by rw[aM];omega
 have m2:aI.wrap ((a:Int)+(k:Int))=(a:Int)+(k:Int):=by rw[aM];omega
 go_enter Tryz.func142,Tryz.ntmps142
 by_cases h0:E=0
 ·subst h0;go_wp2_with fail
  go_quiet (first|(go_at_call 92;exact OM (hget _)))
  generalize hWn:W.drewN nq=W1 at*
  have hA1:DRd W1 b s a:=by rw[<-hWn];exact hA
  have hg1:W.grownBy W1 (some b):=by rw[<-hWn];exact⟨rfl,rfl,rfl,aA _,fun _ _ _=>rfl⟩
  have d1:=Arr.cell hA1 (i:=1) rfl;have g1:=Arr.free hA1 1;clear hWn;go_wp2_with fail;go_ret;exact⟨rfl,by have:=Arr.set hA1 1 (.int .i64 ((a:Int)+(k:Int)));unfold DRd;push_cast;exact this,gbT hg1 (gbS _ _ _ _)⟩
 ·have u1:(E != 0)=true:=by simpa using h0
  go_wp2_with fail
  go_quiet (first|(go_at_call 92;exact OM (hget _)))
  generalize hWn:W.drewN nq=W1 at*
  have hg1:W.grownBy W1 (some b):=by rw[<-hWn];exact⟨rfl,rfl,rfl,aA _,fun _ _ _=>rfl⟩
  clear hWn;go_wp2_with fail;exact⟨rfl,.inr ⟨h0,rfl,hg1⟩⟩
theorem ML (b:Nat) (n:Int) (W:World):Calls Tryz.prog 141 #[.pointer (some ⟨b,0,none⟩),.int .i64 n] W fun e w'=>
  ((1<=n/\n<=20)/\e=.returned (.int .i64 n)/\w'=W)\/(¬(1<=n/\n<=20)/\e=.panicked (ER 3)/\w'=W):=by
 have hmay:=ZM n
 by_cases h:1<=n/\n<=20
 ·have e1:(decide (1<=n)&&decide (n<=20))=true:=by simp[h.1,h.2]
  rw[e1] at hmay;have HH:=hid h;clear h e1;go_enter Tryz.func141,Tryz.ntmps141;go_wp2_with fail;refine(hmay _).mono ?_;rintro e w' ⟨rfl,rfl⟩;go_wp2_with fail;go_ret;exact .inl ⟨HH.out,rfl,rfl⟩
 ·have e1:(decide (1<=n)&&decide (n<=20))=false:=by
   rw[Bool.and_eq_false_iff];rcases Classical.em (1<=n) with q|q
   ·exact .inr (decide_eq_false (fun k=>h ⟨q,k⟩))
   ·exact .inl (decide_eq_false q)
  rw[e1] at hmay;have HH:=hid h;clear h e1;go_enter Tryz.func141,Tryz.ntmps141;go_wp2_with fail;refine(hmay _).mono ?_;rintro e w' ⟨rfl,rfl⟩;go_wp2_with fail;exact⟨rfl,.inr ⟨HH.out,rfl,rfl⟩⟩
theorem aPl (b:Nat) (s:ByteArray) (a:Nat) (n:Int) (W:World) (hA:DRd W b s a) (hs:s.size<=1000000) (ha:a<=90000010) (hn1:1<=n) (hn2:n<=20):
  Calls Tryz.prog 143 #[.pointer (some ⟨b,0,none⟩),.int .i64 n] W fun e w'=>
   ((eD s.data.toList (a:Int) n).2.2=0/\e=.returned (.int .i64 (eD s.data.toList (a:Int) n).1)/\(∃p:Nat,(eD s.data.toList (a:Int) n).2.1=(p:Int)/\DRd w' b s p)/\W.grownBy w' (some b))\/((eD s.data.toList (a:Int) n).2.2≠0/\e=.panicked (ER (eD s.data.toList (a:Int) n).2.2)/\W.grownBy w' (some b)):=by
 have HL:=hid (show s.data.toList.length=s.size by simp);obtain⟨R,hR⟩:∃R,R=eD s.data.toList (a:Int) n:=⟨_,rfl⟩;rw[<-hR];have HR:=hid hR.symm;clear hR;have hcf:∀(args:Array Value) (w:World),(callFunc 142 args).run Tryz.prog w=.ok (.enter 142 args) w:=enters_of Tryz.func142 (by kernel_rfl) rfl;go_enter Tryz.func143,Tryz.ntmps143;go_wp2_with fail
 go_loopg [1] (8*s.size+2-a) (fun g s1 wr=>∃(p:Nat) (m:Int),p<=90000012/\1<=m/\m<=20/\g=8*s.size+2-p/\s1=.int .i64 m/\Hid (eD s.data.toList (p:Int) m=R)/\DRd wr b s p/\W.grownBy wr (some b))
 case atStart=>exact⟨a,n,by omega,hn1,hn2,rfl,rfl,HR,hA,⟨rfl,rfl,rfl,aA _,fun _ _ _=>rfl⟩⟩
 case round=>
  obtain⟨p,m,hp,hm1,hm2,hg,rfl,HP,hAr,hgr⟩:=hrel;have HG:=hid hg;clear hg;have hst:=wF s.data.toList (p:Int) m (by omega);rw[HP.out,HL.out] at hst;have hn1':=MK b s p 1 wr hAr hs (by decide) (by omega);have hok1:=fQ (n:=s.size) (at':=(p:Int)) (k:=1);have hok2:=fQ (n:=s.size) (at':=((p:Int)+1)) (k:=1);have hv1:=iA s.data.toList (p:Int) 1;have hv2:=iA s.data.toList ((p:Int)+1) 1;have hnum2:=fun W1 (h:DRd W1 b s (p+1))=>MK b s (p+1) 1 W1 h hs (by decide) (by omega)
  push_cast at hnum2;obtain⟨E1,hE1⟩:∃E1,E1=aO s.size (p:Int) 1:=⟨_,rfl⟩;obtain⟨V1,hV1⟩:∃V1,V1=aE s.data.toList (p:Int) 1:=⟨_,rfl⟩;obtain⟨E2,hE2⟩:∃E2,E2=aO s.size ((p:Int)+1) 1:=⟨_,rfl⟩;obtain⟨V2,hV2⟩:∃V2,V2=aE s.data.toList ((p:Int)+1) 1:=⟨_,rfl⟩;rw[<-hE1,<-hV1,<-hE2,<-hV2] at hst;rw[<-hE1,<-hV1] at hn1';rw[<-hE1] at hok1;rw[<-hE2] at hok2;rw[<-hV1] at hv1;rw[<-hV2] at hv2;simp only[<-hE2,<-hV2] at hnum2;have hv1:V1<2:=hv1;have hv2:V2<2:=hv2;have HN2:=hid hnum2;clear hE1 hV1 hE2 hV2 hnum2;go_wp2_with fail;refine hn1'.mono ?_;rintro e w1 (⟨h1,rfl,hA1,hg1⟩|⟨h1,rfl,hg1⟩)
  ·subst h1;rw[if_neg (fun k=>k rfl)] at hst;have hok1:=hok1 rfl
   by_cases h2:V1=0
   ·subst h2;rw[if_pos rfl] at hst;have HS:=hid hst;clear hst;go_wp2_with fail;go_ret;exact .inl ⟨by rw[HS.out],by rw[HS.out];rfl,⟨p+1,by rw[HS.out];push_cast;rfl,hA1⟩,gbT hgr hg1⟩
   ·obtain rfl:V1=1:=by omega
    rw[if_neg h2] at hst;clear h2;have hm6:aI.wrap (m+1)=m+1:=by rw[aM];omega
    go_wp2_with fail;refine(HN2.out w1 hA1).mono ?_;rintro e w2 (⟨h3,rfl,hA2,hg2⟩|⟨h3,rfl,hg2⟩)
    ·subst h3;rw[if_neg (fun k=>k rfl)] at hst;have hok2:=hok2 rfl;have hgW:=gbT (gbT hgr hg1) hg2
     by_cases h4:V2=0
     ·subst h4;rw[if_pos rfl] at hst;have HST:=hid hst;have hfit:=ML b (m+1);clear hst hn1';go_wp2_with fail;refine(hfit _).mono ?_;rintro e w3 (⟨h5,rfl,rfl⟩|⟨h5,rfl,rfl⟩)
      ·have HS:=hid (show eD s.data.toList ((p:Int)+2) (m+1)=R by rw[HST.out,if_neg (by omega)]);go_wp2_with fail;have hg:=HG.out
       go_roundg (8*s.size+2-(p+2))
       case measure=>omega
       case rel=>exact⟨p+2,m+1,by omega,by omega,by omega,rfl,rfl,by have:=HS;push_cast;exact this,hA2,hgW⟩
      ·have HS:=hid (show R=(0,0,3) by rw[HST.out,if_pos (by omega)]);exact⟨rfl,.inr ⟨by rw[HS.out];exact(by decide:(3:Int)≠0),by rw[HS.out],hgW⟩⟩
     ·obtain rfl:V2=1:=by omega
      rw[if_neg h4] at hst;have HST:=hid hst;have hfit:=ML b (m-1);have hm7:aI.wrap (m+1-2)=m-1:=by rw[aM];omega
      have hm8:m+1-2=m-1:=by omega
      have hm9:aI.wrap (m-1)=m-1:=by rw[aM];omega
      clear hst hn1' h4;go_wp2_with fail;refine(hfit _).mono ?_;rintro e w3 (⟨h5,rfl,rfl⟩|⟨h5,rfl,rfl⟩)
      ·have HS:=hid (show eD s.data.toList ((p:Int)+2) (m-1)=R by rw[HST.out,if_neg (by omega)]);go_wp2_with fail;have hg:=HG.out
       go_roundg (8*s.size+2-(p+2))
       case measure=>omega
       case rel=>exact⟨p+2,m-1,by omega,by omega,by omega,rfl,rfl,by have:=HS;push_cast;exact this,hA2,hgW⟩
      ·have HS:=hid (show R=(0,0,3) by rw[HST.out,if_pos (by omega)]);exact⟨rfl,.inr ⟨by rw[HS.out];exact(by decide:(3:Int)≠0),by rw[HS.out],hgW⟩⟩
    ·rw[if_pos h3] at hst;have HS:=hid hst;exact⟨rfl,.inr ⟨by rw[HS.out];exact h3,by rw[HS.out],gbT (gbT hgr hg1) hg2⟩⟩
  ·rw[if_pos h1] at hst;have HS:=hid hst;exact⟨rfl,.inr ⟨by rw[HS.out];exact h1,by rw[HS.out],gbT hgr hg1⟩⟩
theorem LH {s:List UInt8} {at':Int} {k:Nat} {e:Int} (he:e≠0) (hk:k<=16) (h:(cJ s at' k).2.2.2=e):cG s at'=([],0,e):=by
 have h2:=uY (s:=s) (at':=at') (k:=k) (by rw[h];exact he) (16-k);rw[show k+(16-k)=16 by omega] at h2;unfold cG;simp only
 rw[h2,if_pos (by rw[h];exact he),h]
theorem VR (s:List UInt8) (at':Int):cJ s at' 0=([],at'+16,aE s at' 16==0,aO s.length at' 16):=rfl
theorem VS {s:List UInt8} {at':Int} {k:Nat} {o:List UInt8} {nx:Int} {bad:Bool} (h:cJ s at' k=(o,nx,bad,0)) (hb:(aE s at' 16).testBit (15-k)=false):cJ s at' (k+1)=(o,nx,bad,0):=by
 unfold cJ;simp only
 rw[h,if_neg (by simp),hb,if_neg (by decide)]
theorem VT {s:List UInt8} {at':Int} {k:Nat} {o:List UInt8} {nx:Int} {bad:Bool} (h:cJ s at' k=(o,nx,bad,0)) (hb:(aE s at' 16).testBit (15-k)=true) (he:aO s.length nx 16≠0):(cJ s at' (k+1)).2.2.2=aO s.length nx 16:=by
 unfold cJ;simp only
 rw[h,if_neg (by simp),hb,if_pos rfl,if_pos he]
theorem VU {s:List UInt8} {at':Int} {k:Nat} {o:List UInt8} {nx:Int} {bad:Bool} (h:cJ s at' k=(o,nx,bad,0)) (hb:(aE s at' 16).testBit (15-k)=true) (he:aO s.length nx 16=0):
  cJ s at' (k+1)=(o++jS (aE s nx 16) k 16,nx+16,bad||aE s nx 16==0,0):=by
 unfold cJ;simp only
 rw[h,if_neg (by simp),hb,if_pos rfl,if_neg (by rw[he];simp)]
theorem VW {s:List UInt8} {at':Int} {o:List UInt8} {nx:Int} {bad:Bool} (h:cJ s at' 16=(o,nx,bad,0)):cG s at'=if bad then([],0,3) else(o,nx,0):=by
 unfold cG;simp only
 rw[h,if_neg (by simp)]
theorem VX (v k i:Nat):jS v k (i+1)=jS v k i++if v.testBit (15-i) then[eK (16*k+i)] else[]:=rfl
theorem aQp (s:ByteArray) (p:Int) (w:World) (hs:s.size<=1000000) (hp1: -9223372036854775808<=p) (hp2:p<=9223372036854775807):
  Calls Tryz.prog 110 #[.string s,.int .i64 p] w fun e w'=>e=.returned (.tuple #[.string (mkS (cG s.data.toList p).1),.int .i64 (cG s.data.toList p).2.1,.int .i64 (cG s.data.toList p).2.2])/\Below w.heap.size w w':=by
 have hL:s.data.toList.length=s.size:=by simp
 have hz:=VR s.data.toList p;have hget:=fun W=>sT s p 16 W hs (by decide) hp1 hp2
 have hlt16:=iA s.data.toList p 16;rw[hL] at hz;obtain⟨E0,hE0⟩:∃E,E=aO s.size p 16:=⟨_,rfl⟩;obtain⟨F,hF⟩:∃F,F=aE s.data.toList p 16:=⟨_,rfl⟩;rw[<-hF,<-hE0] at hz hget;rw[<-hF] at hlt16;have hF64:F<18446744073709551616:=by omega
 have hpb:E0=0->0<=p/\p<=8000000:=fun h=>by
  have:=fQ (n:=s.size) (at':=p) (k:=16) (by rw[<-hE0];exact h);omega
 obtain⟨T0,hT0⟩:∃T0:Bool,T0=(F==0):=⟨_,rfl⟩;have t0:((F:Int)==0)=T0:=by
  rw[hT0]
  by_cases h:F=0
  ·rw[h];rfl
  ·rw[beq_eq_false_iff_ne.2 h,beq_eq_false_iff_ne];omega
 obtain⟨P16,hP16⟩:∃q:Int,q=aI.wrap (p+16):=⟨_,rfl⟩;have hPw:E0=0->P16=p+16:=fun h=>by
  have:=hpb h;rw[hP16,aM];omega
 have HF:=hid hF;have HL:=hid hL;have HST:=hid (show(E0=0/\cJ s.data.toList p 0=([],P16,T0||false,0))\/(E0≠0/\(cJ s.data.toList p 0).2.2.2=E0) by
  by_cases h:E0=0
  ·left;exact⟨h,by rw[hz,hPw h,<-hT0,h,xK]⟩
  ·right;exact⟨h,by rw[hz]⟩)
 have HPB:=hid hpb;have m0:=hP16.symm;clear hF hz hL hT0 hPw hpb hP16 hE0;go_enter Tryz.func110,Tryz.ntmps110;go_wp2_with fail;refine(hget _).mono ?_;rintro e w1 ⟨rfl,rfl⟩;go_wp2_with fail
 go_loopg [1,6,7,8,10] 16 (fun g s1 s6 s7 s8 s10 wr=>∃(k:Nat) (o:List UInt8) (nx:Int) (emp:Bool) (E:Int),k<=16/\g=16-k/\s10=.int .i64 (k:Int)/\s1=.int .i64 nx/\s8=.bool emp/\s6=.int .i64 E/\Hid ((E=0/\cJ s.data.toList p k=(o,nx,T0||emp,0))\/(E≠0/\(cJ s.data.toList p k).2.2.2=E))/\o.length<=16*k/\OwB wr w1.heap.size s7 o/\Below w1.heap.size w1 wr)
 case atStart=>exact⟨0,[],P16,false,E0,by omega,rfl,rfl,rfl,rfl,rfl,HST,by simp,Ow.nil _ _ _,aB _ _⟩
 case round=>
  obtain⟨k,o,nx,emp,E,hk,hg,rfl,rfl,rfl,rfl,HU,hol,hown,hbel⟩:=hrel;have HG:=hid hg;clear hg m0;have hbs:=hbel.size
  by_cases hE:E=0
  rotate_left
  ·have t2:(E==0)=false:=by rw[beq_eq_false_iff_ne];exact hE
   have t3:(E != 0)=true:=by rw[bne_iff_ne];exact hE
   have hU:cG s.data.toList p=([],0,E):=by
    rcases HU.out with⟨h,_⟩|⟨_,h⟩
    ·exact absurd h hE
    ·exact LH hE hk h
   have HUU:=hid hU;clear hU hE
   by_cases hlt:k<16
   ·have t1:decide ((k:Int)<16)=true:=decide_eq_true (by omega);go_wp2_with fail
    go_ret3
    exact⟨by rw[HUU.out];rfl,hbel⟩
   ·have t1:decide ((k:Int)<16)=false:=decide_eq_false (by omega);go_wp2_with fail
    go_ret3
    exact⟨by rw[HUU.out];rfl,hbel⟩
  ·subst hE;have hU:cJ s.data.toList p k=(o,nx,T0||emp,0):=by
    rcases HU.out with⟨_,h⟩|⟨h,_⟩
    ·exact h
    ·exact absurd rfl h
   have hp0:0<=p/\p<=8000000:=by
    apply HPB.out
    by_cases h:E0=0
    ·exact h
    ·have h0:(cJ s.data.toList p 0).2.2.2=E0:=by
      rcases HST.out with⟨h1,_⟩|⟨_,h1⟩
      ·exact absurd h1 h
      ·exact h1
     have h2:=uY (s:=s.data.toList) (at':=p) (k:=0) (by rw[h0];exact h) k;rw[Nat.zero_add] at h2;rw[h2] at hU;rw[hU] at h0;exact h0.symm
   have hbd:=yE s.data.toList p k;rw[hU] at hbd;have hnx:=hbd.2 rfl;simp only at hnx;clear hbd
   by_cases hlt:k<16
   ·have t1:decide ((k:Int)<16)=true:=decide_eq_true (by omega);obtain⟨q,hq⟩:∃q,q=15-k:=⟨_,rfl⟩;have m1:aI.wrap (15-(k:Int))=(q:Int):=by rw[aM];omega
    have m1':(15:Int)-(k:Int)=(q:Int):=by omega
    have m2:min q 64=q:=by omega
    have e4:=IY F q hF64;obtain⟨b,hb⟩:∃b,b=F.testBit q:=⟨_,rfl⟩;rw[<-hb] at e4;have HB:=hid (show(aE s.data.toList p 16).testBit (15-k)=b by rw[<-HF.out,<-hq,hb]);clear hq hb
    cases b with
    |false=>
     have HS:=hid (VS hU HB.out);have e5:((false.toNat:Nat):Int)=0:=rfl;rw[e5] at e4;clear hU;go_wp2_with fail;have hg:=HG.out
     go_roundg (16-(k+1))
     case measure=>omega
     case rel=>exact⟨k+1,o,nx,emp,0,by omega,rfl,by go_num,rfl,rfl,rfl,hid (.inl ⟨rfl,HS.out⟩),by omega,hown,hbel⟩
    |true=>
     have e5:((true.toNat:Nat):Int)=1:=rfl;rw[e5] at e4;have hget2:=fun W=>sT s nx 16 W hs (by decide) (by omega) (by omega)
     have hV:=iA s.data.toList nx 16;have hrl:=CE (aE s.data.toList nx 16) k;obtain⟨nx2,hnx2⟩:∃q:Int,q=nx+16:=⟨_,rfl⟩;have m3:aI.wrap (nx+16)=nx2:=by rw[aM];omega
     have hST:(aO s.size nx 16=0/\cJ s.data.toList p (k+1)=(o++jS (aE s.data.toList nx 16) k 16,nx2,T0||(emp||aE s.data.toList nx 16==0),0))\/(aO s.size nx 16≠0/\(cJ s.data.toList p (k+1)).2.2.2=aO s.size nx 16):=by
      by_cases h:aO s.size nx 16=0
      ·left
       have:=VU hU HB.out (by rw[HL.out];exact h);rw[Bool.or_assoc] at this;exact⟨h,by rw[this,hnx2]⟩
      ·right
       have:=VT hU HB.out (by rw[HL.out];exact h);rw[HL.out] at this;exact⟨h,this⟩
     obtain⟨V,hVV⟩:∃V,V=aE s.data.toList nx 16:=⟨_,rfl⟩;obtain⟨E2,hE2⟩:∃E,E=aO s.size nx 16:=⟨_,rfl⟩;rw[<-hVV,<-hE2] at hget2 hST;rw[<-hVV] at hV hrl;have hV64:V<18446744073709551616:=by omega
     obtain⟨T1,hT1⟩:∃T1:Bool,T1=(V==0):=⟨_,rfl⟩;have u1:((V:Int)==0)=T1:=by
      rw[hT1]
      by_cases h:V=0
      ·rw[h];rfl
      ·rw[beq_eq_false_iff_ne.2 h,beq_eq_false_iff_ne];omega
     rw[<-hT1] at hST;have HST2:=hid hST;obtain⟨kk,hkk⟩:∃kk,kk=16*k:=⟨_,rfl⟩;have m4:aI.wrap ((k:Int)*16)=(kk:Int):=by rw[aM];omega
     have m5:(k:Int)*16=(kk:Int):=by omega
     have HKK:=hid hkk;have hkk240:kk<=240:=by omega
     have HRL:=hid hrl;clear hkk hT1 hnx2 hVV hrl hST hU hE2;go_wp2_with fail;refine(hget2 _).mono ?_;rintro e w2 ⟨rfl,rfl⟩;go_upto_region 12 with fail
     go_cut [8] (fun c8 wx=>c8=.bool (emp||T1)/\wx=w2)
     case first=>
      cases emp with
      |true=>go_wp2_with fail;go_meet;exact⟨rfl,rfl⟩
      |false=>go_wp2_with fail;go_meet;exact⟨rfl,rfl⟩
     case rest=>
      obtain⟨rfl,rfl⟩:=hcut;go_wp2_with fail
      go_loopg [7,48] 16 (fun g s7 s48 wx=>∃i:Nat,i<=16/\g=16-i/\s48=.int .i64 (i:Int)/\OwB wx w1.heap.size s7 (o++jS V k i)/\Below w1.heap.size w1 wx)
      case atStart=>exact⟨0,by omega,rfl,rfl,by rw[show jS V k 0=[] from rfl,eE];exact hown,hbel⟩
      case round=>
       obtain⟨i,hi,hg,rfl,hown2,hbel2⟩:=hrel;have HG2:=hid hg;clear hg e4
       by_cases hil:i<16
       ·have u2:decide ((i:Int)<16)=true:=decide_eq_true (by omega);obtain⟨q2,hq2⟩:∃q,q=15-i:=⟨_,rfl⟩;have m6:aI.wrap (15-(i:Int))=(q2:Int):=by rw[aM];omega
        have m6':(15:Int)-(i:Int)=(q2:Int):=by omega
        have m7:min q2 64=q2:=by omega
        have e6:=IY V q2 hV64;have HRS:=hid (VX V k i);rw[<-hq2] at HRS;have hlen:=HRL.out i
        cases hb2:V.testBit q2 with
        |false=>
         rw[hb2,show((false.toNat:Nat):Int)=0 from rfl] at e6;rw[hb2] at HRS;clear hb2 hq2;go_wp2_with fail;have hg:=HG2.out
         go_roundg (16-(i+1))
         case measure=>omega
         case rel=>exact⟨i+1,by omega,rfl,by go_num,by rw[HRS.out,if_neg (by decide),eE];exact hown2,hbel2⟩
        |true=>
         rw[hb2,show((true.toNat:Nat):Int)=1 from rfl] at e6;rw[hb2] at HRS;obtain⟨c,hc⟩:∃c:Nat,c=kk+i:=⟨_,rfl⟩;have m8:aI.wrap ((kk:Int)+(i:Int))=(c:Int):=by rw[aM];omega
         have m8':(kk:Int)+(i:Int)=(c:Int):=by omega
         obtain⟨b,hb⟩:∃b:UInt8,b=eK c:=⟨_,rfl⟩;have hbt:b.toNat=c:=by rw[hb,UInt8.toNat_ofNat'];omega
         have m9:IntKind.u8.wrap (c:Int)=(b.toNat:Int):=by rw[hbt,IntKind.wrap_u8];omega
         have m9':(c:Int)%256=(b.toNat:Int):=by rw[hbt];omega
         have HBB:=hid (show eK (16*k+i)=b by rw[hb,hc,HKK.out]);have hsz2:=hbel2.size;clear hb2 hq2 hc hb hbt;go_wp2_with (at_builtin;refine yZ rfl _ _ rfl w1.heap.size _ _ rfl (Ow.alloc hown2 _) wr.heap.size b rfl ?_ ?_ ?_ ?_;(exact bS _ _ _);(rw[aL];omega);(simp;omega);intro v' w3 hown' hB hgrow);have hg:=HG2.out
         go_roundg (16-(i+1))
         case measure=>omega
         case rel=>exact⟨i+1,by omega,rfl,by go_num,by rw[HRS.out,if_pos trivial,HBB.out,<-cF];exact hown',(hbel2.alloc hsz2 _).trans hB⟩
       ·have u2:decide ((i:Int)<16)=false:=decide_eq_false (by omega);have hie:i=16:=by omega
        subst hie;have hr16:=HRL.out 16;go_wp2_with fail;have hg:=HG.out
        go_roundg (16-(k+1))
        case measure=>omega
        case rel=>exact⟨k+1,_,nx2,emp||T1,E2,by omega,rfl,by go_num,rfl,rfl,rfl,HST2,by rw[aL];omega,hown2,hbel2⟩
   ·have t1:decide ((k:Int)<16)=false:=decide_eq_false (by omega);have hke:k=16:=by omega
    subst hke;have hfin:=VW hU
    cases emp with
    |true=>
     rw[Bool.or_true,if_pos rfl] at hfin;have HFN:=hid hfin;clear hfin hU;go_wp2_with fail
     go_ret3
     exact⟨by rw[HFN.out];rfl,hbel⟩
    |false=>
     cases T0 with
     |true=>
      rw[xK,if_pos rfl] at hfin;have HFN:=hid hfin;clear hfin hU;go_wp2_with fail
      go_ret3
      exact⟨by rw[HFN.out];rfl,hbel⟩
     |false=>
      rw[xK,if_neg (by decide)] at hfin;have HFN:=hid hfin;clear hfin hU;obtain⟨a,n,c,rfl,HN,hc1,hc2⟩:=hown.openN;have hcv:(convert 47 9 (.slice a n c)).run Tryz.prog wr=.ok (.string (mkS o)) wr:=lQ hown.rd;go_wp2_with fail
      go_ret3
      exact⟨by rw[HFN.out];rfl,hbel⟩
end
end Go.Proofs.YtmcogmmncfihhaaGreatDoor
