/-
  Texts put together (part 9): the walks and the plain laws on which the statement stands.
-/
import Derived.Test.YtpgmbhpbgkljdaaGreatDoorZ8
set_option maxRecDepth 100000
set_option maxHeartbeats 12800000
open Decidable renaming not_not->dK
open Go renaming wp_load_row->AR
open Go.IntKind renaming i64->aI,u64->fU,wrap_i64->aM,wrap_u64->gF
open Go.RowKit.Below renaming refl->aB
open Int renaming le_refl->lJ,toNat_natCast->eG
open List renaming append_assoc->cF,append_nil->eE,ext_getElem?->jA,flatten_cons->AS,getD_eq_getElem?_getD->aV,getElem?_drop->gR,getElem?_eq_getElem->aN,getElem?_eq_none->dL,getElem?_map->dY,getElem?_range->pF,getElem?_take->lW,getElem_mem->gT,length_append->aL,length_flatten->aCm,length_nil->cX,map_append->fI,map_replicate->xV,mem_append->cU,mem_map->dU,mem_of_getElem?->cH,mem_range->jF,mem_singleton->dC,range->dG,range_succ->sF,replicate->bB,replicate_succ->AE,sum_replicate_nat->aCn,take_add_one->cQ,take_append_drop->jE
open Nat renaming add_assoc->dZ,le_refl->aA,mul_comm->oG,pow_le_pow_right->jC
open Prod renaming ext->gK
open UInt8 renaming ofNat->eK
namespace Go.Proofs.YtpgmbhpbgkljdaaGreatDoor
section
def gP (t0 t1:List Int):List Int->List (List Int)->List Bool
 |c::cs,g::gs=>eR (if c=0 then t0 else t1) g++gP t0 t1 cs gs
 |_,_=>[]
theorem KL (t0 t1:List Int) (c:Int) (g:List Int):∀(cs:List Int) (gs:List (List Int)),cs.length=gs.length->gP t0 t1 (cs++[c]) (gs++[g])=gP t0 t1 cs gs++eR (if c=0 then t0 else t1) g
 |[],[],_=>by simp[gP]
 |[],_::_,h=>by simp at h
 |_::_,[],h=>by simp at h
 |c'::cs,g'::gs,h=>by
  show eR _ g'++gP t0 t1 (cs++[c]) (gs++[g])=(eR _ g'++gP t0 t1 cs gs)++_;rw[KL t0 t1 c g cs gs (by simpa using h),cF]
def dO (cs:List Int):List Int:=cM (cC 2) (cs.map (fun c=>eK c.toNat))
def rV (m:List Int) (n:Nat):List Bool:=
 aY 2 3++aY (cT m n).length 15++dE (dO (cT m n))++dW (dN m n 0)++dW (dN m n 1)++gP (dN m n 0) (dN m n 1) (cT m n) (cK m)
def yV (sum origin:Nat) (a:List UInt8) (m:List Int):List Bool:=
 aY 0x314159265359 48++aY sum 32++aY origin 16++fZ a++rV m (a.length+2)
def bF (s:List UInt8) (at' codes:Int):Nat->List (List Int)×Int×Int
 |0=>([],at',0)
 |k+1=>
  let p:=bF s at' codes k
  if p.2.2≠0 then p
  else let q:=eJ s p.2.1 codes
   if q.2.2≠0 then(p.1,p.2.1,q.2.2)
   else if bL q.1≠0 then(p.1,p.2.1,bL q.1)
   else(p.1++[q.1],q.2.1,0)
def bH (s:List UInt8) (at':Int) (t:List (List Int)) (chosen:List Int) (fin:Int):Nat->List Int×Int×Int×Bool
 |0=>([],at',0,false)
 |k+1=>
  let p:=bH s at' t chosen fin k
  if p.2.2.1≠0\/p.2.2.2=true then p
  else let q:=bZ (t.getD (chosen.getD (k/10) 0).toNat []) s p.2.1
   if q.2.2≠0 then(p.1,p.2.1,q.2.2,false)
   else if q.1=fin then
    if k/10+1<chosen.length then(p.1++[q.1],q.2.1,3,false) else(p.1++[q.1],q.2.1,0,true)
   else(p.1++[q.1],q.2.1,0,false)
def gX (s:List UInt8) (at':Int) (t:List (List Int)) (chosen:List Int) (fin:Int):List Int×Int×Int:=
 let p:=bH s at' t chosen fin (10*chosen.length)
 if p.2.2.1≠0 then([],0,p.2.2.1) else if p.2.2.2 then(p.1,p.2.1,0) else([],0,3)
def cV (s:List UInt8) (at':Int) (codes:Int):List Int×Int×Int:=
 if aO s.length at' 3≠0 then([],0,aO s.length at' 3)
 else if aE s at' 3<2\/6<aE s at' 3 then([],0,3)
 else if aO s.length (at'+3) 15≠0 then([],0,aO s.length (at'+3) 15)
 else if aE s (at'+3) 15=0 then([],0,3)
 else
  let c:=dD s (at'+18) (aE s (at'+3) 15) (aE s at' 3)
  if c.2.2≠0 then([],0,c.2.2)
  else
   let t:=bF s c.2.1 codes (aE s at' 3)
   if t.2.2≠0 then([],0,t.2.2) else gX s t.2.1 t.1 c.1 (codes-1)
theorem DM (s:List UInt8) (at' codes:Int):∀k,(bF s at' codes k).2.2=0->(bF s at' codes k).1.length=k/\∀l∈(bF s at' codes k).1,bL l=0/\(l.length:Int)=codes
 |0,_=>⟨rfl,fun l hl=>by simp[bF] at hl⟩
 |k+1,h=>by
  unfold bF at h ⊢;simp only at h ⊢;split at h
  ·next q=>exact absurd h q
  ·next q=>
   obtain⟨h1,h2⟩:=DM s at' codes k (dK.1 q);rw[if_neg q];split at h
   ·next q2=>exact absurd h q2
   ·next q2=>
    rw[if_neg q2];split at h
    ·next q3=>exact absurd h q3
    ·next q3=>
     rw[if_neg q3];refine⟨by simp[h1],fun l hl=>?_⟩;rcases cU.1 hl with hl|hl
     ·exact h2 l hl
     ·obtain rfl:=dC.1 hl;refine⟨dK.1 q3,?_⟩;have q2:=dK.1 q2;unfold eJ at q2 ⊢;split at q2
      ·simp at q2
      ·next k1=>
       rw[if_neg k1];simp only at q2 ⊢;split at q2
       ·next k2=>exact absurd q2 k2
       ·next k2=>
        rw[if_neg k2];have:=yR s _ (by omega) codes.toNat (dK.1 k2);show((aZ s (bF s at' codes k).2.1 codes.toNat).1.length:Int)=codes;omega
def fH (s:List UInt8) (a:Nat) (l:List Bool):Prop:=a+l.length<=8*s.length/\seg s a l.length=l
theorem jN {s:List UInt8} {a:Nat} {l m:List Bool} (h:fH s a (l++m)):fH s a l/\fH s (a+l.length) m:=by
 obtain⟨h1,h2⟩:=h;rw[aL] at h1 h2;rw[PG] at h2;have hl:(seg s a l.length).length=l.length:=vR (by omega);obtain⟨e1,e2⟩:=List.append_inj h2 hl;exact⟨⟨by omega,e1⟩,⟨by omega,e2⟩⟩
theorem uX {s:List UInt8} {a v n:Nat} (h:fH s a (aY v n)) (hv:v<2^n):aO s.length (a:Int) n=0/\aE s (a:Int) n=v:=by
 obtain⟨h1,h2⟩:=h;rw[cY] at h1 h2;have e:aO s.length (a:Int) n=0:=by unfold aO;rw[if_neg (by omega),if_neg (by omega)]
 refine⟨e,?_⟩;unfold aE;rw[if_pos e,eG,h2,OY hv]
theorem LA {s:List UInt8} {a:Nat} {l:List Bool} (h:fH s a l):aO s.length (a:Int) l.length=0/\aE s (a:Int) l.length=bY l:=by
 rw[<-yB l] at h;exact uX h (qE l)
theorem tE {s:List UInt8} {a:Nat} {b:Bool} {l:List Bool} (h:fH s a (b::l)):(aO s.length (a:Int) 1=0/\aE s (a:Int) 1=b.toNat)/\fH s (a+1) l:=by
 obtain⟨h1,h2⟩:=jN (l:=[b]) (m:=l) h;have:=LA h1;refine⟨⟨this.1,?_⟩,h2⟩;have e:=this.2;rw[show bY [b]=b.toNat by simp[bY]] at e;exact e
theorem UV {s:List UInt8}:∀(k:Nat) (a:Nat) (now:Int),1<=now->now+k<=20->fH s a ((bB k [true,false]).flatten++[false])->eD s (a:Int) now=(now+k,((a+(2*k+1):Nat):Int),0)
 |0,a,now,h1,h2,h=>by
  obtain⟨⟨e1,e2⟩,_⟩:=tE (b:=false) (l:=[]) h;rw[wF s _ _ (by omega),if_neg (by rw[e1];simp),if_pos (by rw[e2];rfl)];simp
 |k+1,a,now,h1,h2,h=>by
  rw[AE,AS,cF] at h;obtain⟨⟨e1,e2⟩,h⟩:=tE (b:=true) (l:=false::((bB k [true,false]).flatten++[false])) h;obtain⟨⟨e3,e4⟩,h⟩:=tE h;rw[show((a+1:Nat):Int)=(a:Int)+1 by omega] at e3 e4;rw[wF s _ _ (by omega),if_neg (by rw[e1];simp),if_neg (by rw[e2];simp),if_neg (by rw[e3];simp),show(if aE s ((a:Int)+1) 1=0 then now+1 else now-1)=now+1 from if_pos (by rw[e4];rfl),if_neg (by omega)];have:=UV k (a+1+1) (now+1) (by omega) (by omega) h;rw[show((a+1+1:Nat):Int)=(a:Int)+2 by omega] at this;rw[this]
  refine gK (by show now+1+(k:Int)=now+((k+1:Nat):Int);omega) (gK (by show((a+1+1+(2*k+1):Nat):Int)=((a+(2*(k+1)+1):Nat):Int);omega) rfl)
theorem UW {s:List UInt8}:∀(k:Nat) (a:Nat) (now:Int),1<=now-k->now<=20->fH s a ((bB k [true,true]).flatten++[false])->eD s (a:Int) now=(now-k,((a+(2*k+1):Nat):Int),0)
 |0,a,now,h1,h2,h=>by
  obtain⟨⟨e1,e2⟩,_⟩:=tE (b:=false) (l:=[]) h;rw[wF s _ _ (by omega),if_neg (by rw[e1];simp),if_pos (by rw[e2];rfl)];simp
 |k+1,a,now,h1,h2,h=>by
  rw[AE,AS,cF] at h;obtain⟨⟨e1,e2⟩,h⟩:=tE (b:=true) (l:=true::((bB k [true,true]).flatten++[false])) h;obtain⟨⟨e3,e4⟩,h⟩:=tE h;rw[show((a+1:Nat):Int)=(a:Int)+1 by omega] at e3 e4;rw[wF s _ _ (by omega),if_neg (by rw[e1];simp),if_neg (by rw[e2];simp),if_neg (by rw[e3];simp),show(if aE s ((a:Int)+1) 1=0 then now+1 else now-1)=now-1 from if_neg (by rw[e4];simp),if_neg (by omega)];have:=UW k (a+1+1) (now-1) (by omega) (by omega) h;rw[show((a+1+1:Nat):Int)=(a:Int)+2 by omega] at this;rw[this]
  refine gK (by show now-1-(k:Int)=now-((k+1:Nat):Int);omega) (gK (by show((a+1+1+(2*k+1):Nat):Int)=((a+(2*(k+1)+1):Nat):Int);omega) rfl)
theorem aJg {s:List UInt8} {a:Nat} {now x:Int} (h1:1<=now) (h2:now<=20) (h3:1<=x) (h4:x<=20) (h:fH s a (jU now x)):eD s (a:Int) now=(x,((a+(jU now x).length:Nat):Int),0):=by
 rcases Int.le_total now x with q|q
 ·obtain⟨k,rfl⟩:∃k:Nat,x=now+k:=⟨(x-now).toNat,by omega⟩;have e:jU now (now+k)=(bB k [true,false]).flatten++[false]:=by
   unfold jU;rw[show(now+(k:Int)-now).toNat=k by omega,show(now-(now+(k:Int))).toNat=0 by omega];simp
  rw[e] at h ⊢;rw[UV k a now h1 h4 h];simp[aCm,xV,aCn,oG]
 ·obtain⟨k,rfl⟩:∃k:Nat,x=now-k:=⟨(now-x).toNat,by omega⟩;have e:jU now (now-k)=(bB k [true,true]).flatten++[false]:=by
   unfold jU;rw[show(now-(k:Int)-now).toNat=0 by omega,show(now-(now-(k:Int))).toNat=k by omega];simp
  rw[e] at h ⊢;rw[UW k a now h3 h2 h];simp[aCm,xV,aCn,oG]
theorem aJh {s:List UInt8} {a:Nat} {l:List Int} (hl:∀x∈l,1<=x/\x<=20) (h0:0<l.length) (h:fH s a (dW l)):∀k,k<=l.length->
  aZ s (a:Int) k=(l.take k,(l.take k).getLastD (l.getD 0 0),((a+5+(eI (l.getD 0 0) (l.take k)).length:Nat):Int),0):=by
 have hf:1<=l.getD 0 0/\l.getD 0 0<=20:=by
  rw[aV,aN h0];exact hl _ (gT h0)
 obtain⟨hn,hg⟩:=jN h;obtain⟨e1,e2⟩:=uX hn (by omega);rw[cY] at hg;intro k
 induction k with
 |zero=>
  intro _;unfold aZ;rw[e2,if_neg (by rw[e1];simp),if_neg (by omega)];refine gK rfl (gK (by show(((l.getD 0 0).toNat:Nat):Int)=l.getD 0 0;omega) (gK (by simp[eI]) rfl))
 |succ k ih=>
  intro hk;have ih:=ih (by omega);have hx:=hl l[k] (gT (by omega));have ht:l.take (k+1)=l.take k++[l[k]]:=by rw[cQ,aN (by omega)];rfl
  have hlast:1<=(l.take k).getLastD (l.getD 0 0)/\(l.take k).getLastD (l.getD 0 0)<=20:=by
   rcases Nat.eq_zero_or_pos k with q|q
   ·subst q;exact hf
   ·have hne:l.take k≠[]:=by
     intro e;have:=congrArg List.length e;rw[List.length_take,cX] at this;omega
    have:(l.take k).getLastD (l.getD 0 0)∈l.take k:=by
     cases hc:l.take k with
     |nil=>exact absurd hc hne
     |cons y m=>exact List.getLast_mem (by simp)
    exact hl _ (List.mem_of_mem_take this)
  have hst:fH s (a+5+(eI (l.getD 0 0) (l.take k)).length) (jU ((l.take k).getLastD (l.getD 0 0)) l[k]):=by
   have e:eI (l.getD 0 0) l=eI (l.getD 0 0) (l.take (k+1))++eI ((l.take (k+1)).getLastD (l.getD 0 0)) (l.drop (k+1)):=by
    have gen:∀(u v:List Int) (now:Int),eI now (u++v)=eI now u++eI (u.getLastD now) v:=fun u=>by
     induction u with
     |nil=>intro v now;rfl
     |cons y u ih=>
      intro v now;show jU now y++eI y (u++v)=(jU now y++eI y u)++_;rw[ih v y,cF]
      congr 3
      cases u<;>rfl
    rw[<-gen,jE]
   rw[e] at hg;have hg1:=(jN hg).1;rw[ht,CY] at hg1;exact(jN hg1).2
  have hone:=aJg hlast.1 hlast.2 hx.1 hx.2 hst;unfold aZ;rw[ih];simp only
  rw[if_neg (by simp),hone];simp only
  rw[if_neg (by simp),ht,CY,aL];refine gK rfl (gK (by simp only[List.getLastD_concat]) (gK (by simp[dZ]) rfl))
theorem UX {s:List UInt8} {a:Nat} {l:List Int} (hl:fY l) (h:fH s a (dW l)):eJ s (a:Int) (l.length:Int)=(l,((a+(dW l).length:Nat):Int),0):=by
 have h0:=hl.1;have h1:=hl.2.1;have:=aJh hl.2.2 (by omega) h l.length (aA _);unfold eJ;rw[if_neg (by omega),eG,this];simp only
 rw[if_neg (by simp),List.take_length];unfold dW;rw[aL,cY];refine gK rfl (gK (by simp[dZ]) rfl)
theorem UY {s:List UInt8} {tables:Int}:∀(k:Nat) (a:Nat) (n:Int),0<=n->n+k<tables->fH s a (bB k true++[false])->gV s tables (a:Int) n=(n+k,((a+(k+1):Nat):Int),0)
 |0,a,n,h0,h1,h=>by
  obtain⟨⟨e1,e2⟩,_⟩:=tE (b:=false) (l:=[]) h;rw[DB s _ _ _ (by omega),if_neg (by rw[e1];simp),if_pos (by rw[e2];rfl)];simp
 |k+1,a,n,h0,h1,h=>by
  rw[AE,List.cons_append] at h;obtain⟨⟨e1,e2⟩,h⟩:=tE h;rw[DB s _ _ _ (by omega),if_neg (by rw[e1];simp),if_neg (by rw[e2];simp),if_neg (show ¬n+1=tables by omega)];have:=UY (tables:=tables) k (a+1) (n+1) (by omega) (by omega) h;rw[show((a+1:Nat):Int)=(a:Int)+1 by omega] at this;rw[this];refine gK (by show n+1+(k:Int)=n+((k+1:Nat):Int);omega) (gK (by show((a+1+(k+1):Nat):Int)=((a+(k+1+1):Nat):Int);omega) rfl)
theorem aJi {s:List UInt8} {tables:Int} {a:Nat} {ps:List Int} (hp:∀x∈ps,0<=x/\x<tables) (h:fH s a (dE ps)):∀k,k<=ps.length->
  cO s tables (a:Int) k=(ps.take k,((a+(dE (ps.take k)).length:Nat):Int),0):=by
 intro k
 induction k with
 |zero=>intro _;simp[cO,dE]
 |succ k ih=>
  intro hk;have ih:=ih (by omega);have hx:=hp ps[k] (gT (by omega));have ht:ps.take (k+1)=ps.take k++[ps[k]]:=by rw[cQ,aN (by omega)];rfl
  have hst:fH s (a+(dE (ps.take k)).length) (lF ps[k]):=by
   have e:dE ps=dE (ps.take (k+1))++dE (ps.drop (k+1)):=by
    unfold dE;rw[<-List.flatMap_append,jE]
   rw[e,ht,KB] at h;exact(jN (jN h).1).2
  have hone:=UY (tables:=tables) ps[k].toNat _ 0 (by omega) (by omega) hst;unfold cO;rw[ih];simp only
  rw[if_neg (by simp),hone];simp only
  rw[if_neg (by simp),ht,KB,aL];have e2:(lF ps[k]).length=ps[k].toNat+1:=by simp[lF]
  rw[e2];refine gK (by show _++[0+(ps[k].toNat:Int)]=_++[ps[k]];congr 2;omega) (gK (by simp[dZ]) rfl)
theorem aJj {l:List Int} (hc:bL l=0) {s:List UInt8} {a i:Nat} (hi:i<l.length) (h:fH s a (aY (fO l i) (bG l i))):bZ l s (a:Int)=((i:Int),((a+bG l i:Nat):Int),0):=by
 have hw:=IG (eH hc).1 (eH hc).2 hi;obtain⟨h1,h2⟩:=h;rw[cY] at h1 h2;have hf:gZ l s a i:=⟨h1,by rw[h2,OY hw]⟩;rw[uB hc hi hf];simp
theorem aJk (t:List UInt8) (k i:Nat) (h:i<16):(eQ t k).getD i false=dB t (16*k+i):=by
 unfold eQ;rw[aV,dY,pF h];rfl
theorem LB (t:List UInt8) (k:Nat):∀i,i<=16->jH t (16*k+i)=jH t (16*k)++jS (bY (eQ t k)) k i
 |0,_=>by simp[jS]
 |i+1,h=>by
  rw[<-dZ,IK,LB t k i (by omega)];have e:jS (bY (eQ t k)) k (i+1)=jS (bY (eQ t k)) k i++if(bY (eQ t k)).testBit (15-i) then[eK (16*k+i)] else[]:=rfl;rw[e,BJ _ _ (by rw[sR];omega),sR,show 16-1-(15-i)=i by omega,aJk t k i (by omega),cF]
theorem aJl (t:List UInt8) (k:Nat) (h:iT t k=false):jH t (16*(k+1))=jH t (16*k):=by
 rw[show 16*(k+1)=16*k+16 by omega,LB t k 16 (aA _)];have hv:bY (eQ t k)=0:=(yD _).2 h;rw[hv];have:∀i,jS 0 k i=[]:=fun i=>by
  induction i with
  |zero=>rfl
  |succ i ih=>unfold jS;rw[ih];simp
 rw[this,eE]
theorem DR (t:List UInt8):(nB t).length=16:=by simp[nB]
theorem UZ (t:List UInt8) (k:Nat):∀j,∃m,eX t (k+j)=eX t k++m
 |0=>⟨[],by simp⟩
 |j+1=>by
  obtain⟨m,hm⟩:=UZ t k j;refine⟨m++if iT t (k+j) then eQ t (k+j) else[],?_⟩;rw[<-dZ];show eX t (k+j)++_=_;rw[hm,cF]
theorem VA (t:List UInt8) (k:Nat) (hk:k<=16):∃m,eX t 16=eX t k++m:=by
 have:=UZ t k (16-k);rwa[show k+(16-k)=16 by omega] at this
theorem aJm {s:List UInt8} {a:Nat} {t:List UInt8} (h:fH s a (fZ t)):∀k,k<=16->
  cJ s (a:Int) k=(jH t (16*k),((a+16+(eX t k).length:Nat):Int),bY (nB t)==0,0):=by
 obtain⟨hf,hr⟩:=jN h;have hf2:=LA hf;rw[DR] at hr hf2;intro k
 induction k with
 |zero=>
  intro _;unfold cJ;rw[hf2.1,hf2.2];refine gK (by simp[jH]) (gK (by simp[eX]) (gK rfl rfl))
 |succ k ih=>
  intro hk;unfold cJ;rw[ih (by omega)];simp only
  rw[if_neg (by simp),hf2.2,BJ _ _ (by rw[DR];omega),DR,show 16-1-(15-k)=k by omega];have hg:(nB t).getD k false=iT t k:=by
   unfold nB;rw[aV,dY,pF (by omega)];rfl
  rw[hg]
  cases hs:iT t k with
  |false=>
   simp only[if_neg (show ¬(false=true) by decide)];rw[aJl t k hs];have e:eX t (k+1)=eX t k:=by
    show eX t k++(if iT t k then eQ t k else[])=_;rw[hs];simp
   rw[e]
  |true=>
   rw[if_pos rfl];have e:eX t (k+1)=eX t k++eQ t k:=by
    show eX t k++(if iT t k then eQ t k else[])=_;rw[hs];rfl
   have hst:fH s (a+16+(eX t k).length) (eQ t k):=by
    obtain⟨m,hm⟩:=VA t (k+1) hk;rw[hm,e] at hr;exact(jN (jN hr).1).2
   have hst2:=LA hst;rw[sR] at hst2;rw[if_neg (by rw[hst2.1];simp),hst2.2,e,aL,sR];have hne:bY (eQ t k)≠0:=fun q=>by
    rw[yD] at q;have hs':(eQ t k).any id=true:=hs;rw[q] at hs';exact absurd hs' (by decide)
   refine gK ?_ (gK (by show((a+16+(eX t k).length:Nat):Int)+16=((a+16+((eX t k).length+16):Nat):Int);omega) (gK ?_ rfl))
   ·show jH t (16*k)++jS (bY (eQ t k)) k 16=_;rw[<-LB t k 16 (aA _)];rfl
   ·show(bY (nB t)==0||bY (eQ t k)==0)=_;rw[show(bY (eQ t k)==0)=false from beq_eq_false_iff_ne.2 hne,Bool.or_false]
theorem VB {t:List UInt8} (h:t≠[]):bY (nB t)≠0:=fun q=>by
 rw[yD] at q
 cases t with
 |nil=>exact h rfl
 |cons b r=>
  have hb:dB (b::r) b.toNat=true:=by unfold dB;simp
  have hb256:=b.toNat_lt;rw[List.any_eq_false] at q;have hm:iT (b::r) (b.toNat/16)∈nB (b::r):=by
   unfold nB;exact dU.2 ⟨b.toNat/16,jF.2 (by omega),rfl⟩
  have hs:iT (b::r) (b.toNat/16)=true:=by
   unfold iT;rw[List.any_eq_true];refine⟨true,?_,rfl⟩;unfold eQ;refine dU.2 ⟨b.toNat%16,jF.2 (by omega),?_⟩;rw[show 16*(b.toNat/16)+b.toNat%16=b.toNat by omega];exact hb
  have:=q _ hm;rw[hs] at this;exact this rfl
theorem aJn {s:List UInt8} {a:Nat} {t:List UInt8} (ht:t≠[]) (h:fH s a (fZ t)):cG s (a:Int)=(bK t,((a+(fZ t).length:Nat):Int),0):=by
 unfold cG;rw[aJm h 16 (aA _)];simp only
 rw[if_neg (by simp),show(bY (nB t)==0)=false from beq_eq_false_iff_ne.2 (VB ht),if_neg (by decide)];refine gK rfl (gK ?_ rfl);unfold fZ;rw[aL,DR,dZ]
theorem aJs (s t:List UInt8) {i:Nat} (h:i<8*s.length):dI (s++t) i=dI s i:=by rw[OW,if_pos h]
theorem aJt (s t:List UInt8):(kW (s++t)).take (8*s.length)=kW s:=by
 apply jA;intro i;rw[lW,sP,sP]
 by_cases h:i<8*s.length
 ·rw[if_pos h,if_pos (by rw[aL];omega),if_pos h,aJs s t h]
 ·rw[if_neg h,if_neg h]
theorem VH (s t:List UInt8) {a n:Nat} (h:a+n<=8*s.length):seg (s++t) a n=seg s a n:=by
 unfold seg;rw[<-aJt s t];apply jA;intro i;rw[lW,lW,gR,gR,lW]
 by_cases hi:i<n
 ·rw[if_pos hi,if_pos hi,if_pos (by omega)]
 ·rw[if_neg hi,if_neg hi]
theorem oV (s t:List UInt8) (at':Int) (k:Nat):aO s.length at' k=2\/(aO (s++t).length at' k=aO s.length at' k/\aE (s++t) at' k=aE s at' k):=by
 rcases aDz s.length at' k with h|h|h
 ·right
  obtain⟨h0,h1,h2⟩:=fQ h;have e:aO (s++t).length at' k=0:=by unfold aO;rw[aL,if_neg (by omega),if_neg (by omega)]
  refine⟨by rw[e,h],?_⟩;unfold aE;rw[if_pos e,if_pos h,VH s t h1]
 ·right
  have hn:at'<0:=by
   unfold aO at h;split at h
   ·assumption
   ·split at h<;>omega
  have e:aO (s++t).length at' k=1:=by unfold aO;rw[if_pos hn]
  refine⟨by rw[e,h],?_⟩;unfold aE;rw[if_neg (by omega),if_neg (by omega)]
 ·exact .inl h
theorem uY {s:List UInt8} {at':Int} {k:Nat} (h:(cJ s at' k).2.2.2≠0):∀j,cJ s at' (k+j)=cJ s at' k
 |0=>rfl
 |j+1=>by
  rw[<-dZ];show(if(cJ s at' (k+j)).2.2.2≠0 then _ else _)=_;rw[uY h j,if_pos h]
theorem VI (s t:List UInt8) (at':Int):∀k,(cJ s at' k).2.2.2=2\/cJ (s++t) at' k=cJ s at' k
 |0=>by
  rcases oV s t at' 16 with h|⟨h1,h2⟩
  ·exact .inl h
  ·right
   unfold cJ;rw[h1,h2]
 |k+1=>by
  rcases VI s t at' k with h|h
  ·left
   rw[uY (k:=k) (by omega) 1,h]
  ·rcases oV s t at' 16 with q|⟨_,q2⟩
   ·left
    have e0:(cJ s at' 0).2.2.2=2:=q;have:=uY (s:=s) (at':=at') (k:=0) (by omega) (k+1);rw[Nat.zero_add] at this;rw[this,e0]
   ·rcases oV s t (cJ s at' k).2.1 16 with r|⟨r1,r2⟩
    ·by_cases h1:(cJ s at' k).2.2.2≠0
     ·right
      have e1:=uY h1 1;have e2:=uY (s:=s++t) (at':=at') (k:=k) (by rw[h];exact h1) 1;rw[e1,e2,h]
     ·by_cases h2:(aE s at' 16).testBit (15-k)=true
      ·left
       unfold cJ;simp only
       rw[if_neg h1,if_pos h2,if_pos (by omega)];exact r
      ·right
       unfold cJ;simp only
       rw[h,q2,if_neg h1,if_neg h2,if_neg h1,if_neg h2]
    ·right
     unfold cJ;simp only
     rw[h,q2,r1,r2]
theorem aJu (s t:List UInt8) (at':Int):(cG s at').2.2=2\/cG (s++t) at'=cG s at':=by
 rcases VI s t at' 16 with h|h
 ·left
  unfold cG;simp only
  rw[if_pos (by omega)];exact h
 ·right
  unfold cG;simp only
  rw[h]
theorem VJ (s t:List UInt8):∀(f:Nat) (at' n:Int),(iB s f at' n).2.2=2\/iB (s++t) f at' n=iB s f at' n
 |0,_,_=>.inl rfl
 |f+1,at',n=>by
  rcases oV s t at' 1 with h|⟨h1,h2⟩
  ·left
   unfold iB;rw[if_pos (by omega)];exact h
  ·rcases oV s t (at'+1) 1 with r|⟨r1,r2⟩
   ·by_cases q1:aO s.length at' 1≠0
    ·right
     unfold iB;rw[h1,if_pos q1,if_pos q1]
    ·by_cases q2:aE s at' 1=0
     ·right
      unfold iB;rw[h1,h2,if_neg q1,if_neg q1,if_pos q2,if_pos q2]
     ·left
      unfold iB;rw[if_neg q1,if_neg q2,if_pos (by omega)];exact r
   ·have ih:=fun m=>VJ s t f (at'+2) m
    unfold iB;rw[h1,h2,r1,r2]
    by_cases q1:aO s.length at' 1≠0
    ·right;rw[if_pos q1,if_pos q1]
    ·rw[if_neg q1,if_neg q1]
     by_cases q2:aE s at' 1=0
     ·right;rw[if_pos q2,if_pos q2]
     ·rw[if_neg q2,if_neg q2]
      by_cases q3:aO s.length (at'+1) 1≠0
      ·right;rw[if_pos q3,if_pos q3]
      ·rw[if_neg q3,if_neg q3];simp only
       generalize (if aE s (at'+1) 1=0 then n+1 else n-1)=m
       by_cases q4:m<1\/20<m
       ·right;rw[if_pos q4,if_pos q4]
       ·rw[if_neg q4,if_neg q4];exact ih m
theorem aJv (s t:List UInt8) (at' n:Int) (h0:0<=at'):(eD s at' n).2.2=2\/eD (s++t) at' n=eD s at' n:=by
 have h:=VJ s t (8*(s++t).length+2) at' n;have e:eD s at' n=iB s (8*(s++t).length+2) at' n:=by
  unfold eD;rw[aL];exact JX s _ _ _ _ h0 (by omega) (by omega) (by omega) (by omega)
 rw[e];exact h
theorem DS {s:List UInt8} {at':Int} {k:Nat} (h:(aZ s at' k).2.2.2≠0):∀j,aZ s at' (k+j)=aZ s at' k
 |0=>rfl
 |j+1=>by
  rw[<-dZ];show(if(aZ s at' (k+j)).2.2.2≠0 then _ else _)=_;rw[DS h j,if_pos h]
theorem VK (s t:List UInt8) (at':Int) (h0:0<=at'):∀k,(aZ s at' k).2.2.2=2\/aZ (s++t) at' k=aZ s at' k
 |0=>by
  rcases oV s t at' 5 with h|⟨h1,h2⟩
  ·left
   unfold aZ;simp only
   rw[if_pos (by omega)];exact h
  ·right
   unfold aZ;rw[h1,h2]
 |k+1=>by
  rcases VK s t at' h0 k with h|h
  ·left
   rw[DS (k:=k) (by omega) 1,h]
  ·by_cases h1:(aZ s at' k).2.2.2≠0
   ·right
    have e1:=DS h1 1;have e2:=DS (s:=s++t) (at':=at') (k:=k) (by rw[h];exact h1) 1;rw[e1,e2,h]
   ·have hok:=yR s at' h0 k (dK.1 h1);rcases aJv s t (aZ s at' k).2.2.1 (aZ s at' k).2.1 (by omega) with r|r
    ·left
     unfold aZ;simp only
     rw[if_neg h1,if_pos (by omega)];exact r
    ·right
     unfold aZ;simp only
     rw[h,r]
theorem aJw (s t:List UInt8) (at' n:Int):(eJ s at' n).2.2=2\/eJ (s++t) at' n=eJ s at' n:=by
 by_cases h:at'<0\/n<2\/258<n
 ·right
  unfold eJ;rw[if_pos h,if_pos h]
 ·rcases VK s t at' (by omega) n.toNat with r|r
  ·left
   unfold eJ;rw[if_neg h];simp only
   rw[if_pos (by omega)];exact r
  ·right
   unfold eJ;rw[if_neg h,if_neg h];simp only
   rw[r]
theorem aJx {s:List UInt8} {at' n:Int} (h:(eJ s at' n).2.2=0):0<=at'/\2<=n/\n<=258/\((eJ s at' n).1.length:Int)=n/\(∀x∈(eJ s at' n).1,1<=x/\x<=20)/\at'<(eJ s at' n).2.1/\(eJ s at' n).2.1<=8*(s.length:Int):=by
 unfold eJ at h ⊢;split at h
 ·simp at h
 ·next k1=>
  rw[if_neg k1];simp only at h ⊢;split at h
  ·next k2=>exact absurd h k2
  ·next k2=>
   rw[if_neg k2];have:=yR s at' (by omega) n.toNat (dK.1 k2);exact⟨by omega,by omega,by omega,by show((aZ s at' n.toNat).1.length:Int)=n;omega,this.2.1,this.2.2.2.1,this.2.2.2.2⟩
theorem VL (s t:List UInt8) (tables:Int):∀(f:Nat) (at' n:Int),(jK s tables f at' n).2.2=2\/jK (s++t) tables f at' n=jK s tables f at' n
 |0,_,_=>.inl rfl
 |f+1,at',n=>by
  rcases oV s t at' 1 with h|⟨h1,h2⟩
  ·left
   unfold jK;rw[if_pos (by omega)];exact h
  ·have ih:=VL s t tables f (at'+1) (n+1);unfold jK;rw[h1,h2]
   by_cases q1:aO s.length at' 1≠0
   ·right;rw[if_pos q1,if_pos q1]
   ·rw[if_neg q1,if_neg q1]
    by_cases q2:aE s at' 1=0
    ·right;rw[if_pos q2,if_pos q2]
    ·rw[if_neg q2,if_neg q2]
     by_cases q3:n+1=tables
     ·right;rw[if_pos q3,if_pos q3]
     ·rw[if_neg q3,if_neg q3];exact ih
theorem aJy (s t:List UInt8) (tables at' n:Int) (h0:0<=at'):(gV s tables at' n).2.2=2\/gV (s++t) tables at' n=gV s tables at' n:=by
 have h:=VL s t tables (8*(s++t).length+2) at' n;have e:gV s tables at' n=jK s tables (8*(s++t).length+2) at' n:=by
  unfold gV;rw[aL];exact KC s tables _ _ _ _ h0 (by omega) (by omega) (by omega) (by omega)
 rw[e];exact h
theorem DT {s:List UInt8} {tables at':Int} {k:Nat} (h:(cO s tables at' k).2.2≠0):∀j,cO s tables at' (k+j)=cO s tables at' k
 |0=>rfl
 |j+1=>by
  rw[<-dZ];show(if(cO s tables at' (k+j)).2.2≠0 then _ else _)=_;rw[DT h j,if_pos h]
theorem VM (s t:List UInt8) (tables at':Int) (h0:0<=at') (ht:0<tables):∀k,(cO s tables at' k).2.2=2\/cO (s++t) tables at' k=cO s tables at' k
 |0=>.inr rfl
 |k+1=>by
  rcases VM s t tables at' h0 ht k with h|h
  ·left
   rw[DT (k:=k) (by omega) 1,h]
  ·by_cases h1:(cO s tables at' k).2.2≠0
   ·right
    have e1:=DT h1 1;have e2:=DT (s:=s++t) (tables:=tables) (at':=at') (k:=k) (by rw[h];exact h1) 1;rw[e1,e2,h]
   ·have hok:=wG s tables at' h0 ht k (dK.1 h1);rcases aJy s t tables (cO s tables at' k).2.1 0 (by omega) with r|r
    ·left
     unfold cO;simp only
     rw[if_neg h1,if_pos (by omega)];exact r
    ·right
     unfold cO;simp only
     rw[h,r]
theorem aJz (s t:List UInt8) (at' n tables:Int):(dD s at' n tables).2.2=2\/dD (s++t) at' n tables=dD s at' n tables:=by
 by_cases h:tables<2\/6<tables\/at'<0\/n<0\/1048576<n
 ·right
  unfold dD;rw[if_pos h,if_pos h]
 ·rcases VM s t tables at' (by omega) (by omega) n.toNat with r|r
  ·left
   unfold dD;rw[if_neg h];simp only
   rw[if_pos (by omega)];exact r
  ·right
   unfold dD;rw[if_neg h,if_neg h];simp only
   rw[r]
theorem aJ0 {s:List UInt8} {at' n tables:Int} (h:(dD s at' n tables).2.2=0):2<=tables/\tables<=6/\0<=at'/\0<=n/\((dD s at' n tables).1.length:Int)=n/\(∀x∈(dD s at' n tables).1,0<=x/\x<tables)/\at'<=(dD s at' n tables).2.1/\((dD s at' n tables).2.1=at'\/(dD s at' n tables).2.1<=8*(s.length:Int)):=by
 unfold dD at h ⊢;split at h
 ·simp at h
 ·next k1=>
  rw[if_neg k1];simp only at h ⊢;split at h
  ·next k2=>exact absurd h k2
  ·next k2=>
   rw[if_neg k2];obtain⟨q1,q2,q3,q4⟩:=wG s tables at' (by omega) (by omega) n.toNat (dK.1 k2);refine⟨by omega,by omega,by omega,by omega,?_,?_,q3,q4⟩
   ·simp only[List.length_map,oO,q1];omega
   ·intro x hx;obtain⟨b,hb,rfl⟩:=dU.1 hx;have hm:b∈cC tables.toNat:=IQ _ _ (by rw[oR];intro y hy;have:=q2 y hy;omega) b hb;rw[KA (by omega)] at hm;omega
theorem aJ1 (l:List Int):∀x∈l,x<=kF l:=by
 unfold kF;have gen:∀(l:List Int) (m:Int),m<=l.foldl max m/\∀x∈l,x<=l.foldl max m:=fun l=>by
  induction l with
  |nil=>intro m;exact⟨lJ _,fun x hx=>by simp at hx⟩
  |cons y l ih=>
   intro m;obtain⟨h1,h2⟩:=ih (max m y);rw[List.foldl_cons];refine⟨by omega,fun x hx=>?_⟩;rcases List.mem_cons.1 hx with rfl|hx
   ·omega
   ·exact h2 x hx
 exact(gen l 0).2
theorem VN (l:List Int) (s t:List UInt8) {a i:Nat} (h:a+bG l i<=8*s.length):gZ l (s++t) a i↔gZ l s a i:=by
 unfold gZ;rw[aL,VH s t h];constructor
 ·rintro⟨_,h2⟩;exact⟨h,h2⟩
 ·rintro⟨_,h2⟩;exact⟨by omega,h2⟩
theorem aJ2 (l:List Int) (s t:List UInt8) (at':Int):(bZ l s at').2.2=2\/bZ l (s++t) at'=bZ l s at':=by
 by_cases hc:bL l≠0
 ·right
  unfold bZ;rw[if_pos hc,if_pos hc]
 ·by_cases hn:at'<0
  ·right
   unfold bZ;rw[if_neg hc,if_neg hc,if_pos hn,if_pos hn]
  ·obtain⟨a,rfl⟩:∃a:Nat,at'=(a:Int):=⟨at'.toNat,by omega⟩;have hc:=dK.1 hc
   by_cases hf:∃i,i<l.length/\gZ l s a i
   ·obtain⟨i,hi,hf⟩:=hf
    right
    rw[uB hc hi hf,uB hc hi ((VN l s t hf.1).2 hf)]
   ·have hno:∀i,i<l.length->¬gZ l s a i:=fun i hi k=>hf ⟨i,hi,k⟩
    rw[uD hc hno]
    by_cases hq:(a:Int)>8*(s.length:Int)-kF l
    ·left;rw[if_pos hq]
    ·right
     rw[if_neg hq,uD hc (fun i hi k=>?_),if_neg (by rw[aL];omega)];have hb:=jG (eH hc).1 hi;have hm:=aJ1 l _ (cH hb.2.2);exact hno i hi ((VN l s t (by omega)).1 k)
theorem aJ3 {l:List Int} {s:List UInt8} {at':Int} (h:(bZ l s at').2.2=0):bL l=0/\0<=at'/\0<=(bZ l s at').1/\(bZ l s at').1<(l.length:Int)/\at'<(bZ l s at').2.1/\(bZ l s at').2.1<=8*(s.length:Int):=by
 by_cases hc:bL l≠0
 ·unfold bZ at h;rw[if_pos hc] at h;exact absurd h hc
 ·have hc:=dK.1 hc
  by_cases hn:at'<0
  ·unfold bZ at h;rw[if_neg (fun k=>k hc),if_pos hn] at h;simp at h
  ·obtain⟨a,rfl⟩:∃a:Nat,at'=(a:Int):=⟨at'.toNat,by omega⟩
   by_cases hf:∃i,i<l.length/\gZ l s a i
   ·obtain⟨i,hi,hf⟩:=hf;rw[uB hc hi hf];have hb:=jG (eH hc).1 hi;have:=hf.1;refine⟨hc,by omega,by show(0:Int)<=(i:Int);omega,by show(i:Int)<_;omega,by show(a:Int)<(a:Int)+(bG l i:Int);omega,by show(a:Int)+(bG l i:Int)<=_;omega⟩
   ·rw[uD hc (fun i hi k=>hf ⟨i,hi,k⟩)] at h;split at h<;>simp at h
theorem zD {s:List UInt8} {at' codes:Int} {k:Nat} (h:(bF s at' codes k).2.2≠0):∀j,bF s at' codes (k+j)=bF s at' codes k
 |0=>rfl
 |j+1=>by
  rw[<-dZ];show(if(bF s at' codes (k+j)).2.2≠0 then _ else _)=_;rw[zD h j,if_pos h]
theorem VO (s t:List UInt8) (at' codes:Int):∀k,(bF s at' codes k).2.2=2\/bF (s++t) at' codes k=bF s at' codes k
 |0=>.inr rfl
 |k+1=>by
  rcases VO s t at' codes k with h|h
  ·left
   rw[zD (k:=k) (by omega) 1,h]
  ·by_cases h1:(bF s at' codes k).2.2≠0
   ·right
    have e1:=zD h1 1;have e2:=zD (s:=s++t) (at':=at') (codes:=codes) (k:=k) (by rw[h];exact h1) 1;rw[e1,e2,h]
   ·rcases aJw s t (bF s at' codes k).2.1 codes with r|r
    ·left
     unfold bF;simp only
     rw[if_neg h1,if_pos (by omega)];exact r
    ·right
     unfold bF;simp only
     rw[h,r]
theorem VP (s:List UInt8) (at' codes:Int):∀k,(bF s at' codes k).2.2=0->at'<=(bF s at' codes k).2.1/\(0<k->(bF s at' codes k).2.1<=8*(s.length:Int))
 |0,_=>⟨lJ _,fun h=>absurd h (by omega)⟩
 |k+1,h=>by
  by_cases h1:(bF s at' codes k).2.2≠0
  ·rw[zD h1 1] at h;exact absurd h h1
  ·have ih:=VP s at' codes k (dK.1 h1);unfold bF at h ⊢;simp only at h ⊢;rw[if_neg h1] at h ⊢
   by_cases h2:(eJ s (bF s at' codes k).2.1 codes).2.2≠0
   ·rw[if_pos h2] at h;exact absurd h h2
   ·rw[if_neg h2] at h ⊢
    by_cases h3:bL (eJ s (bF s at' codes k).2.1 codes).1≠0
    ·rw[if_pos h3] at h;exact absurd h h3
    ·rw[if_neg h3];have:=aJx (dK.1 h2);exact⟨by show at'<=(eJ _ _ _).2.1;omega,fun _=>this.2.2.2.2.2.2⟩
theorem zE {s:List UInt8} {at':Int} {t:List (List Int)} {cs:List Int} {fin:Int} {k:Nat} (h:(bH s at' t cs fin k).2.2.1≠0\/(bH s at' t cs fin k).2.2.2=true):∀j,bH s at' t cs fin (k+j)=bH s at' t cs fin k
 |0=>rfl
 |j+1=>by
  rw[<-dZ];show(if(bH s at' t cs fin (k+j)).2.2.1≠0\/(bH s at' t cs fin (k+j)).2.2.2=true then _ else _)=_;rw[zE h j,if_pos h]
theorem VQ (s u:List UInt8) (at':Int) (t:List (List Int)) (cs:List Int) (fin:Int):∀k,(bH s at' t cs fin k).2.2.1=2\/bH (s++u) at' t cs fin k=bH s at' t cs fin k
 |0=>.inr rfl
 |k+1=>by
  rcases VQ s u at' t cs fin k with h|h
  ·left
   rw[zE (k:=k) (.inl (by omega)) 1,h]
  ·by_cases h1:(bH s at' t cs fin k).2.2.1≠0\/(bH s at' t cs fin k).2.2.2=true
   ·right
    have e1:=zE h1 1;have e2:=zE (s:=s++u) (at':=at') (t:=t) (cs:=cs) (fin:=fin) (k:=k) (by rw[h];exact h1) 1;rw[e1,e2,h]
   ·rcases aJ2 (t.getD (cs.getD (k/10) 0).toNat []) s u (bH s at' t cs fin k).2.1 with r|r
    ·left
     unfold bH;simp only
     rw[if_neg h1,if_pos (by omega)];exact r
    ·right
     unfold bH;simp only
     rw[h,r]
theorem LE (s:List UInt8) (at':Int) (t:List (List Int)) (cs:List Int) (fin:Int):∀k,(bH s at' t cs fin k).2.2.1=0->at'<=(bH s at' t cs fin k).2.1/\((bH s at' t cs fin k).2.1<=8*(s.length:Int)\/((bH s at' t cs fin k).2.1=at'/\(bH s at' t cs fin k).1=[]))/\((bH s at' t cs fin k).1.length:Int)<=(bH s at' t cs fin k).2.1-at'/\∀x∈(bH s at' t cs fin k).1,0<=x/\∃l∈t,x<(l.length:Int)
 |0,_=>⟨lJ _,.inr ⟨rfl,rfl⟩,by simp[bH],fun x hx=>by simp[bH] at hx⟩
 |k+1,h=>by
  by_cases h1:(bH s at' t cs fin k).2.2.1≠0\/(bH s at' t cs fin k).2.2.2=true
  ·rw[zE h1 1] at h ⊢;have ih:=LE s at' t cs fin k h;exact ih
  ·have h0:(bH s at' t cs fin k).2.2.1=0:=dK.1 (fun q=>h1 (.inl q));have ih:=LE s at' t cs fin k h0;unfold bH at h ⊢;simp only at h ⊢;rw[if_neg h1] at h ⊢
   by_cases h2:(bZ (t.getD (cs.getD (k/10) 0).toNat []) s (bH s at' t cs fin k).2.1).2.2≠0
   ·rw[if_pos h2] at h;exact absurd h h2
   ·rw[if_neg h2] at h ⊢;have hs:=aJ3 (dK.1 h2);have hmem:∀x∈(bH s at' t cs fin k).1++[(bZ (t.getD (cs.getD (k/10) 0).toNat []) s (bH s at' t cs fin k).2.1).1],0<=x/\∃l∈t,x<(l.length:Int):=by
     intro x hx;rcases cU.1 hx with hx|hx
     ·exact ih.2.2.2 x hx
     ·obtain rfl:=dC.1 hx;refine⟨hs.2.2.1,t.getD (cs.getD (k/10) 0).toNat [],?_,hs.2.2.2.1⟩;rw[aV]
      cases q:t[(cs.getD (k/10) 0).toNat]? with
      |some l=>exact cH q
      |none=>
       have:=hs.2.2.2.1;have h3:=hs.2.2.1;rw[aV,q] at this h3;simp only[Option.getD_none,cX] at this h3;omega
    have hl:(((bH s at' t cs fin k).1++[(bZ (t.getD (cs.getD (k/10) 0).toNat []) s (bH s at' t cs fin k).2.1).1]).length:Int)<=(bZ (t.getD (cs.getD (k/10) 0).toNat []) s (bH s at' t cs fin k).2.1).2.1-at':=by
     rw[aL,List.length_singleton];have:=ih.2.2.1;omega
    by_cases h3:(bZ (t.getD (cs.getD (k/10) 0).toNat []) s (bH s at' t cs fin k).2.1).1=fin
    ·rw[if_pos h3] at h ⊢
     by_cases h4:k/10+1<cs.length
     ·rw[if_pos h4] at h;simp at h
     ·rw[if_neg h4];exact⟨by show at'<=(bZ _ _ _).2.1;omega,.inl hs.2.2.2.2.2,hl,hmem⟩
    ·rw[if_neg h3];exact⟨by show at'<=(bZ _ _ _).2.1;omega,.inl hs.2.2.2.2.2,hl,hmem⟩
theorem aJ4 (s t:List UInt8) (at' codes:Int):(cV s at' codes).2.2=2\/cV (s++t) at' codes=cV s at' codes:=by
 rcases oV s t at' 3 with h|⟨h1,h2⟩
 ·left
  unfold cV;rw[if_pos (by omega)];exact h
 ·by_cases q1:aO s.length at' 3≠0
  ·right
   unfold cV;rw[h1,if_pos q1,if_pos q1]
  ·by_cases q2:aE s at' 3<2\/6<aE s at' 3
   ·right
    unfold cV;rw[h1,h2,if_neg q1,if_neg q1,if_pos q2,if_pos q2]
   ·rcases oV s t (at'+3) 15 with r|⟨r1,r2⟩
    ·left
     unfold cV;rw[if_neg q1,if_neg q2,if_pos (by omega)];exact r
    ·by_cases q3:aO s.length (at'+3) 15≠0
     ·right
      unfold cV;rw[h1,h2,r1,if_neg q1,if_neg q1,if_neg q2,if_neg q2,if_pos q3,if_pos q3]
     ·by_cases q4:aE s (at'+3) 15=0
      ·right
       unfold cV;rw[h1,h2,r1,r2,if_neg q1,if_neg q1,if_neg q2,if_neg q2,if_neg q3,if_neg q3,if_pos q4,if_pos q4]
      ·rcases aJz s t (at'+18) (aE s (at'+3) 15) (aE s at' 3) with c|c
       ·left
        unfold cV;rw[if_neg q1,if_neg q2,if_neg q3,if_neg q4];simp only
        rw[if_pos (by omega)];exact c
       ·by_cases q5:(dD s (at'+18) (aE s (at'+3) 15) (aE s at' 3)).2.2≠0
        ·right
         unfold cV;rw[h1,h2,r1,r2,if_neg q1,if_neg q1,if_neg q2,if_neg q2,if_neg q3,if_neg q3,if_neg q4,if_neg q4];simp only
         rw[c,if_pos q5,if_pos q5]
        ·rcases VO s t (dD s (at'+18) (aE s (at'+3) 15) (aE s at' 3)).2.1 codes (aE s at' 3) with d|d
         ·left
          unfold cV;rw[if_neg q1,if_neg q2,if_neg q3,if_neg q4];simp only
          rw[if_neg q5,if_pos (by omega)];exact d
         ·by_cases q6:(bF s (dD s (at'+18) (aE s (at'+3) 15) (aE s at' 3)).2.1 codes (aE s at' 3)).2.2≠0
          ·right
           unfold cV;rw[h1,h2,r1,r2,if_neg q1,if_neg q1,if_neg q2,if_neg q2,if_neg q3,if_neg q3,if_neg q4,if_neg q4];simp only
           rw[c,if_neg q5,if_neg q5,d,if_pos q6,if_pos q6]
          ·rcases VQ s t (bF s (dD s (at'+18) (aE s (at'+3) 15) (aE s at' 3)).2.1 codes (aE s at' 3)).2.1 (bF s (dD s (at'+18) (aE s (at'+3) 15) (aE s at' 3)).2.1 codes (aE s at' 3)).1 (dD s (at'+18) (aE s (at'+3) 15) (aE s at' 3)).1 (codes-1) (10*(dD s (at'+18) (aE s (at'+3) 15) (aE s at' 3)).1.length) with e|e
           ·left
            unfold cV;rw[if_neg q1,if_neg q2,if_neg q3,if_neg q4];simp only
            rw[if_neg q5,if_neg q6];unfold gX;simp only
            rw[if_pos (by omega)];exact e
           ·right
            unfold cV;rw[h1,h2,r1,r2,if_neg q1,if_neg q1,if_neg q2,if_neg q2,if_neg q3,if_neg q3,if_neg q4,if_neg q4];simp only
            rw[c,if_neg q5,if_neg q5,d,if_neg q6,if_neg q6];unfold gX;simp only
            rw[e]
theorem LG {s:List UInt8} {at' codes:Int} (h:(cV s at' codes).2.2=0):0<=at'/\2<=codes/\codes<=258/\(∀x∈(cV s at' codes).1,0<=x/\x<codes)/\((cV s at' codes).1.length:Int)<=8*(s.length:Int)/\at'<(cV s at' codes).2.1/\(cV s at' codes).2.1<=8*(s.length:Int):=by
 unfold cV at h ⊢
 by_cases q1:aO s.length at' 3≠0
 ·rw[if_pos q1] at h;exact absurd h q1
 ·rw[if_neg q1] at h ⊢;have hg:=fQ (dK.1 q1)
  by_cases q2:aE s at' 3<2\/6<aE s at' 3
  ·rw[if_pos q2] at h;simp at h
  ·rw[if_neg q2] at h ⊢
   by_cases q3:aO s.length (at'+3) 15≠0
   ·rw[if_pos q3] at h;exact absurd h q3
   ·rw[if_neg q3] at h ⊢;have hv15:=iA s (at'+3) 15
    by_cases q4:aE s (at'+3) 15=0
    ·rw[if_pos q4] at h;simp at h
    ·rw[if_neg q4] at h ⊢;simp only at h ⊢;generalize hn:aE s at' 3=n at*
     generalize hm:aE s (at'+3) 15=m at*
     by_cases q5:(dD s (at'+18) m n).2.2≠0
     ·rw[if_pos q5] at h;exact absurd h q5
     ·rw[if_neg q5] at h ⊢;have hsel:=aJ0 (dK.1 q5);generalize dD s (at'+18) m n=c at*
      by_cases q6:(bF s c.2.1 codes n).2.2≠0
      ·rw[if_pos q6] at h;exact absurd h q6
      ·rw[if_neg q6] at h ⊢;have ht:=DM s c.2.1 codes n (dK.1 q6);have htn:=VP s c.2.1 codes n (dK.1 q6);have ht2:2<=codes/\codes<=258:=by
        have hne:0<(bF s c.2.1 codes n).1.length:=by omega
        have:=ht.2 _ (gT hne);have h3:=(eH this.1).1;have h4:=h3.1;have h5:=h3.2.1;omega
       generalize bF s c.2.1 codes n=t at*
       unfold gX at h ⊢;simp only at h ⊢;have hnx:=LE s t.2.1 t.1 c.1 (codes-1) (10*c.1.length);generalize bH s t.2.1 t.1 c.1 (codes-1) (10*c.1.length)=p at*
       by_cases q7:p.2.2.1≠0
       ·rw[if_pos q7] at h;exact absurd h q7
       ·rw[if_neg q7] at h ⊢;have hnx:=hnx (dK.1 q7)
        by_cases q8:p.2.2.2=true
        ·rw[if_pos q8];refine⟨hg.1,ht2.1,ht2.2,fun x hx=>?_,?_,?_,?_⟩
         ·obtain⟨k1,l,k2,k3⟩:=hnx.2.2.2 x hx;have:=(ht.2 l k2).2;exact⟨k1,by omega⟩
         ·show(p.1.length:Int)<=8*(s.length:Int);have:=hnx.2.2.1;have:=htn.2 (by omega);rcases hnx.2.1 with k|k<;>omega
         ·show at'<p.2.1;omega
         ·show p.2.1<=_;have:=htn.2 (by omega);rcases hnx.2.1 with k|k<;>omega
        ·rw[if_neg q8] at h;simp at h
theorem aOg (l:List Bool) (i:Nat) (h:i<l.length):(kW (aD l))[i]? =l[i]? :=by
 rw[sP,if_pos (by rw[gY];omega),sO,aV,aN h];rfl
theorem aOh (x l y:List Bool):seg (aD (x++l++y)) x.length l.length=l:=by
 apply jA;intro i;unfold seg;rw[lW,gR]
 by_cases hi:i<l.length
 ·rw[if_pos hi,aOg _ _ (by simp;omega),List.getElem?_append_left (by simp;omega),List.getElem?_append_right (by omega),show x.length+i-x.length=i by omega]
 ·rw[if_neg hi,dL (by omega)]
theorem YF (x l y:List Bool):fH (aD (x++l++y)) x.length l:=
 ⟨by rw[gY];simp;omega,aOh x l y⟩
theorem zP (l:List Bool):fH (aD l) 0 l:=by
 have:=YF [] l []
 simpa using this
theorem MD {s:List UInt8} {a:Nat} {l:List Bool} (h:fH s a l) {i:Nat} (hi:i<l.length):dI s (a+i)=l.getD i false:=by
 obtain⟨h1,h2⟩:=h;have e:(seg s a l.length)[i]? =l[i]? :=by rw[h2]
 unfold seg at e;rw[lW,if_pos hi,gR,sP,if_pos (by omega),aN hi] at e;rw[aV,aN hi]
 injection e
theorem aOi {s:List UInt8} {a:Nat} {l:List Bool} (h1:a+l.length<=8*s.length) (h2:∀i,i<l.length->dI s (a+i)=l.getD i false):fH s a l:=by
 refine⟨h1,?_⟩;apply jA;intro i;unfold seg;rw[lW,gR]
 by_cases hi:i<l.length
 ·rw[if_pos hi,sP,if_pos (by omega),h2 i hi,aV,aN hi];rfl
 ·rw[if_neg hi,dL (by omega)]
end
section
open Go.RowKit Go Go.Shelf
def oU (s:List UInt8) (k j:Nat):List Bool:=(dG j).map (fun i=>dB s (16*k+i))
theorem VC (s:List UInt8) (k j:Nat):oU s k (j+1)=oU s k j++[dB s (16*k+j)]:=by unfold oU;rw[sF,fI];rfl
theorem VD (s:List UInt8) (k j:Nat):(oU s k j).length=j:=by simp[oU]
theorem LC (s:List UInt8) (k:Nat):oU s k 16=eQ s k:=rfl
def pT (a b:Value):Prop:=a.ownBlock=none\/b.ownBlock=none\/a.ownBlock≠b.ownBlock
theorem pT.symm {a b:Value} (h:pT a b):pT b a:=by
 rcases h with h|h|h
 ·exact .inr (.inl h)
 ·exact .inl h
 ·exact .inr (.inr (fun e=>h e.symm))
def lU (s:List UInt8) (k:Nat):List Bool:=(dG k).map (iT s)
theorem VF (s:List UInt8) (k:Nat):lU s (k+1)=lU s k++[iT s k]:=by unfold lU;rw[sF,fI];rfl
theorem zC (s:List UInt8) (k:Nat):(lU s k).length=k:=by simp[lU]
theorem LD (s:List UInt8) (k:Nat):eX s (k+1)=eX s k++if iT s k then eQ s k else[]:=rfl
theorem LH {s:List UInt8} {at':Int} {k:Nat} {e:Int} (he:e≠0) (hk:k<=16) (h:(cJ s at' k).2.2.2=e):cG s at'=([],0,e):=by
 have h2:=uY (s:=s) (at':=at') (k:=k) (by rw[h];exact he) (16-k);rw[show k+(16-k)=16 by omega] at h2;unfold cG;simp only
 rw[h2,if_pos (by rw[h];exact he),h]
theorem VR (s:List UInt8) (at':Int):cJ s at' 0=([],at'+16,aE s at' 16==0,aO s.length at' 16):=rfl
theorem VS {s:List UInt8} {at':Int} {k:Nat} {o:List UInt8} {nx:Int} {bad:Bool} (h:cJ s at' k=(o,nx,bad,0)) (hb:(aE s at' 16).testBit (15-k)=false):cJ s at' (k+1)=(o,nx,bad,0):=by
 unfold cJ;simp only
 rw[h,if_neg (by simp),hb,if_neg (by decide)]
theorem VT {s:List UInt8} {at':Int} {k:Nat} {o:List UInt8} {nx:Int} {bad:Bool} (h:cJ s at' k=(o,nx,bad,0)) (hb:(aE s at' 16).testBit (15-k)=true) (he:aO s.length nx 16≠0):(cJ s at' (k+1)).2.2.2=aO s.length nx 16:=by
 unfold cJ;simp only
 rw[h,if_neg (by simp),hb,if_pos rfl,if_pos he]
theorem VU {s:List UInt8} {at':Int} {k:Nat} {o:List UInt8} {nx:Int} {bad:Bool} (h:cJ s at' k=(o,nx,bad,0)) (hb:(aE s at' 16).testBit (15-k)=true) (he:aO s.length nx 16=0):
  cJ s at' (k+1)=(o++jS (aE s nx 16) k 16,nx+16,bad||aE s nx 16==0,0):=by
 unfold cJ;simp only
 rw[h,if_neg (by simp),hb,if_pos rfl,if_neg (by rw[he];simp)]
theorem VW {s:List UInt8} {at':Int} {o:List UInt8} {nx:Int} {bad:Bool} (h:cJ s at' 16=(o,nx,bad,0)):cG s at'=if bad then([],0,3) else(o,nx,0):=by
 unfold cG;simp only
 rw[h,if_neg (by simp)]
theorem VX (v k i:Nat):jS v k (i+1)=jS v k i++if v.testBit (15-i) then[eK (16*k+i)] else[]:=rfl
theorem ZO (s:List UInt8) (k:Nat) (w:World) (hk:k<16):
  Calls Tryz.prog 103 #[.agg (eS (dB s)).toArray,.int .i64 (k:Int)] w fun e w'=>e=.returned (.int .u64 (bY (eQ s k):Int))/\Below w.heap.size w w':=by
 obtain⟨kk,hkk⟩:∃kk,kk=16*k:=⟨_,rfl⟩;have m4:aI.wrap ((k:Int)*16)=(kk:Int):=by rw[aM];omega
 have m5:(k:Int)*16=(kk:Int):=by omega
 have hkk240:kk<=240:=by omega
 have HKK:=hid hkk;clear hkk;have hA0:=Arr.new w 162 (eS (dB s));have hB0:Below w.heap.size w (w.alloc (.cells (eS (dB s)).toArray 162)):=bD (aB _ _) _;obtain⟨A,hA⟩:∃A,A=(eS (dB s)).toArray:=⟨_,rfl⟩;rw[<-hA] at hA0 hB0 ⊢;have hAs:A.size=256:=by rw[hA];exact KX _
 clear hA;go_enter Tryz.func103,Tryz.ntmps103;go_wp2_with fail;generalize w.alloc (.cells A 162)=w0 at*
 go_loopg [4,5,6] 16 (fun g s4 _s5 s6 wr=>∃j V:Nat,j<=16/\g=16-j/\s6=.int .i64 (j:Int)/\s4=.int .u64 (V:Int)/\Hid (V=bY (oU s k j))/\wr=w0)
 case atStart=>exact⟨0,0,by omega,rfl,rfl,rfl,hid rfl,rfl⟩
 case round=>
  obtain⟨j,V,hj,hg,rfl,rfl,HV,rfl⟩:=hrel;have HG:=hid hg;clear hg
  by_cases hlt:j<16
  ·have t1:decide ((j:Int)<16)=true:=decide_eq_true (by omega);have hVl:=qE (oU s k j);rw[<-HV.out,VD] at hVl;have h2:2^j<=2^16:=jC (by decide) (by omega);have hV16:V<65536:=by
     have:(2:Nat)^16=65536:=by decide
     omega
   clear h2 hVl;obtain⟨c,hc⟩:∃c:Nat,c=kk+j:=⟨_,rfl⟩;have m8:aI.wrap ((kk:Int)+(j:Int))=(c:Int):=by rw[aM];omega
   have m8':(kk:Int)+(j:Int)=(c:Int):=by omega
   have hc256:c<256:=by omega
   have hc256':(c:Int)<256:=by omega
   have c1:=hA0.cell (zA (dB s) c hc256);obtain⟨d,hd⟩:∃d:Nat,d=2*V:=⟨_,rfl⟩;have m6:fU.wrap ((V:Int)*2)=(d:Int):=by rw[gF];omega
   have m6':(V:Int)*2%18446744073709551616=(d:Int):=by omega
   have e1:=IV V true (by omega);rw[m6] at e1;obtain⟨d1,hd1⟩:∃d1:Nat,d1=2*V+1:=⟨_,rfl⟩;have e2:bits .or .u64 (d:Int) 1=(d1:Int):=by rw[hd1];exact e1
   have HS:=hid (show bY (oU s k (j+1))=2*V+(dB s c).toNat by rw[VC,rF,<-HV.out,hc,HKK.out]);have HD:=hid hd;have HD1:=hid hd1;clear hd hd1 hc e1
   cases hb:dB s c with
   |true=>
    rw[hb] at c1 HS;clear hb;go_wp2_with fail;have hg:=HG.out
    go_roundg (16-(j+1))
    case measure=>omega
    case rel=>exact⟨j+1,d1,by omega,rfl,by go_num,rfl,hid (by rw[HS.out,HD1.out];rfl),rfl⟩
   |false=>
    rw[hb] at c1 HS;clear hb;go_wp2_with fail;have hg:=HG.out
    go_roundg (16-(j+1))
    case measure=>omega
    case rel=>exact⟨j+1,d,by omega,rfl,by go_num,rfl,hid (by rw[HS.out,HD.out];rfl),rfl⟩
  ·have t1:decide ((j:Int)<16)=false:=decide_eq_false (by omega);have hje:j=16:=by omega
   subst hje;have HF:=hid (show V=bY (eQ s k) by rw[HV.out,LC]);go_wp2_with fail;go_ret;exact⟨fX (by rw[HF.out]),hB0⟩
theorem gbB {W W':World} {g:Option Nat} (h:Below W.heap.size W W'):W.grownBy W' g:=⟨h.os,h.tape,h.output,h.size,fun k hk _=>h.block k hk⟩
theorem gbT {A B C:World} {g:Option Nat} (h:A.grownBy B g) (k:B.grownBy C g):A.grownBy C g:=
 ⟨k.os.trans h.os,k.tape.trans h.tape,k.output.trans h.output,Nat.le_trans h.size k.size,fun i hi hne=>(k.block i (Nat.lt_of_lt_of_le hi h.size) hne).trans (h.block i hi hne)⟩
theorem gbS (W:World) (g i:Nat) (v:Value):W.grownBy (W.setCell ⟨g,i,none⟩ v) (some g):=
 ⟨rfl,rfl,rfl,by simp,fun k _ hne=>heap_setCell_other W ⟨g,i,none⟩ k v (fun e=>hne (by rw[e]))⟩
theorem ZP (g:Nat) (l:List Bool) (v:Nat) (W:World) (h:Arr W g 77 (kH l)) (hv:v<65536) (hl:l.length<=10000):
  Calls Tryz.prog 101 #[.int .u64 (v:Int),.pointer (some ⟨g,0,none⟩)] W fun e W'=>e=.returned (.tuple #[])/\Arr W' g 77 (kH (l++aY v 16))/\W.grownBy W' (some g):=by
 have c0:=h.cell (i:=0) rfl;have c1:=h.cell (i:=1) rfl;have hcall:=uH l v 16 W (by omega) (by decide) (by omega);unfold eL at hcall;go_enter Tryz.func101,Tryz.ntmps101;go_wp2_with fail;refine hcall.mono ?_;rintro e w1 ⟨rfl,hb⟩;have h1:=h.below hb h.lt;have d0:=h1.cell (i:=0) rfl;have d1:=h1.cell (i:=1) rfl;have f0:=h1.free 0;have f1:=h1.free 1;generalize hm:l++aY v 16=m at*
 have HM:=hid hm;clear hm c0 c1 hcall;go_wp2_with fail
 go_end0
 exact⟨rfl,by rw[HM.out];exact(h1.set 0 _).set 1 _,gbT (gbT (gbB hb) (gbS _ _ _ _)) (gbS _ _ _ _)⟩
theorem Arr.gb {W W':World} {g b:Nat} {e:TypeId} {l:List Value} (h:Arr W b e l) (hg:W.grownBy W' (some g)) (hne:b≠g):Arr W' b e l:=h.grown hg (fun q=>hne (by injection q))
theorem ZQ {B g:Nat} {a W W':World} (h:Below B a W) (hg:W.grownBy W' (some g)) (hB:B<=g) (hs:B<=W.heap.size):Below B a W':=
 h.grown hg hs (fun k e=>by injection e with e;omega)
theorem ZR (s:List UInt8) (k:Nat):(bY (eQ s k)=0↔iT s k=false):=yD _
theorem aPk (s:ByteArray) (w:World) (hs:s.size<=140737488355328):
  Calls Tryz.prog 72 #[.string s] w fun e w'=>e=.returned (eL (fZ s.data.toList))/\Below w.heap.size w w':=by
 have hmf:∀(fn:Fn) (first cap:Array Value) (w:World),(Instr.makeFunc fn first cap).run Tryz.prog w=.ok (.func fn first cap) w:=fun _ _ _ _=>rfl
 have hE:∀args W,(callFunc 101 args).run Tryz.prog W=.ok (.enter 101 args) W:=enters_of Tryz.func101 (by kernel_rfl) rfl;have HRL:=hid (fun k=>CC s.data.toList k);go_enter Tryz.func72,Tryz.ntmps72;go_wp2_with fail;have hA0:=Arr.new w 77 [.string ⟨#[]⟩,.int .i64 0];change Arr (w.alloc (.cells #[.string ⟨#[]⟩,.int .i64 0] 77)) _ _ _ at hA0;have hs0:(w.alloc (.cells #[.string ⟨#[]⟩,.int .i64 0] 77)).heap.size=w.heap.size+1:=by simp
 have hb0:Below w.heap.size w (w.alloc (.cells #[.string ⟨#[]⟩,.int .i64 0] 77)):=bD (aB _ _) _;generalize w.alloc (.cells #[.string ⟨#[]⟩,.int .i64 0] 77)=w0 at*
 refine(US s _ hs).mono ?_;rintro e w1 ⟨rfl,hb1⟩;have ha:Arr (w1.alloc (.cells Tryz.zeroCells162 162)) w1.heap.size 162 (eS (fun _=>false)):=by rw[UQ];exact Arr.new w1 _ _
 have hst:=UR ha (by simp[eS]) (dB s.data.toList);have ha2:Arr ((w1.alloc (.cells Tryz.zeroCells162 162)).setRow w1.heap.size (eS (dB s.data.toList)).toArray) w1.heap.size 162 (eS (dB s.data.toList)):=setRow_heap (w1.alloc (.cells Tryz.zeroCells162 162)) w1.heap.size _ _ 162 (0,0) ha;have hb1s:=hb1.size;have hb2:Below w0.heap.size w0 ((w1.alloc (.cells Tryz.zeroCells162 162)).setRow w1.heap.size (eS (dB s.data.toList)).toArray):=zB (hb1.alloc hb1.size _) _ hb1.size _;go_wp2_with fail
 generalize (w1.alloc (.cells Tryz.zeroCells162 162)).setRow w1.heap.size (eS (dB s.data.toList)).toArray=w2 at*
 have hA2:=hA0.below hb2 hA0.lt;have hB2:=hb0.trans (hb2.mono (by omega));clear hst ha hA0 hb0 hb1 hb2;have hne:w1.heap.size≠w.heap.size:=by omega
 go_wp2_with fail
 go_loopg [5,6,12] 16 (fun g s5 _s6 s12 wr=>∃k V:Nat,k<=16/\g=16-k/\s12=.int .i64 (k:Int)/\s5=.int .u64 (V:Int)/\Hid (V=bY (lU s.data.toList k))/\Arr wr w.heap.size 77 [.string ⟨#[]⟩,.int .i64 0]/\Arr wr w1.heap.size 162 (eS (dB s.data.toList))/\Below w.heap.size w wr)
 case atStart=>exact⟨0,0,by omega,rfl,rfl,rfl,hid rfl,hA2,ha2,hB2⟩
 case round=>
  obtain⟨k,V,hk,hg,rfl,rfl,HV,hA,haS,hbel⟩:=hrel;have HG:=hid hg;clear hg hA2 ha2 hB2;have hsz:=hbel.size;have hVl:=qE (lU s.data.toList k);rw[<-HV.out,zC] at hVl;have h2:2^k<=2^16:=jC (by decide) hk;have hV16:V<=65535:=by
    have:(2:Nat)^16=65536:=by decide
    omega
  clear h2 hVl
  by_cases hlt:k<16
  ·have t1:decide ((k:Int)<16)=true:=decide_eq_true (by omega);obtain⟨d,hd⟩:∃d:Nat,d=2*V:=⟨_,rfl⟩;have m6:fU.wrap ((V:Int)*2)=(d:Int):=by rw[gF];omega
   have m6':(V:Int)*2%18446744073709551616=(d:Int):=by omega
   have e1:=IV V true (by omega);rw[m6] at e1;obtain⟨d1,hd1⟩:∃d1:Nat,d1=2*V+1:=⟨_,rfl⟩;have e2:bits .or .u64 (d:Int) 1=(d1:Int):=by rw[hd1];exact e1
   have HS:=hid (show bY (lU s.data.toList (k+1))=2*V+(iT s.data.toList k).toNat by rw[VF,rF,<-HV.out]);have HD:=hid hd;have HD1:=hid hd1;have hcall:=fun W=>ZO s.data.toList k W hlt
   have hz:=ZR s.data.toList k;obtain⟨X,hX⟩:∃X,X=bY (eQ s.data.toList k):=⟨_,rfl⟩;rw[<-hX] at hcall hz;clear hd hd1 e1 hX
   cases hT:iT s.data.toList k with
   |true=>
    rw[hT] at HS hz;have u1:((X:Int) != 0)=true:=by rw[bne_iff_ne];intro h;have:=hz.1 (by omega);simp at this
    have u2:((X:Int)==0)=false:=by rw[beq_eq_false_iff_ne];intro h;have:=hz.1 (by omega);simp at this
    clear hT hz;go_wp2_with fail;refine AR 162 (.tmp 4) rfl w1.heap.size rfl _ _ (0,0) (.array 256 4) haS uW rfl (wN _) ?_;go_wp2_with fail;refine(hcall _).mono ?_;rintro e w3 ⟨rfl,hb3⟩;go_wp2_with fail;have hg:=HG.out
    go_roundg (16-(k+1))
    case measure=>omega
    case rel=>exact⟨k+1,d1,by omega,rfl,by go_num,rfl,hid (by rw[HS.out,HD1.out];rfl),hA.below hb3 hA.lt,haS.below hb3 haS.lt,hbel.trans (hb3.mono hsz)⟩
   |false=>
    rw[hT] at HS hz;have hX0:X=0:=hz.2 rfl;have u1:((X:Int) != 0)=false:=by rw[hX0];rfl
    have u2:((X:Int)==0)=true:=by rw[hX0];rfl
    clear hT hz hX0;go_wp2_with fail;refine AR 162 (.tmp 4) rfl w1.heap.size rfl _ _ (0,0) (.array 256 4) haS uW rfl (wN _) ?_;go_wp2_with fail;refine(hcall _).mono ?_;rintro e w3 ⟨rfl,hb3⟩;go_wp2_with fail;have hg:=HG.out
    go_roundg (16-(k+1))
    case measure=>omega
    case rel=>exact⟨k+1,d,by omega,rfl,by go_num,rfl,hid (by rw[HS.out,HD.out];rfl),hA.below hb3 hA.lt,haS.below hb3 haS.lt,hbel.trans (hb3.mono hsz)⟩
  ·have t1:decide ((k:Int)<16)=false:=decide_eq_false (by omega);have hke:k=16:=by omega
   subst hke;have hcall:=ZP w.heap.size [] V wr hA (by omega) (by decide);have hnl:[]++aY V 16=lU s.data.toList 16:=by
    rw[List.nil_append,HV.out];have:=yB (lU s.data.toList 16);rwa[zC] at this
   rw[hnl] at hcall;clear hnl;go_wp2_with fail;refine hcall.mono ?_;rintro e w3 ⟨rfl,hA3,hg3⟩;have haS3:=haS.gb hg3 hne;have hB3:=ZQ hbel hg3 (aA _) hsz;clear hA haS hbel hg3 hcall hsz;go_wp2_with fail
   go_loopg [7,8,27] 16 (fun g _s7 _s8 s27 wx=>∃k:Nat,k<=16/\g=16-k/\s27=.int .i64 (k:Int)/\Arr wx w.heap.size 77 (kH (lU s.data.toList 16++eX s.data.toList k))/\Arr wx w1.heap.size 162 (eS (dB s.data.toList))/\Below w.heap.size w wx)
   case atStart=>exact⟨0,by omega,rfl,rfl,by rw[show eX s.data.toList 0=[] from rfl,eE];exact hA3,haS3,hB3⟩
   case round=>
    obtain⟨k,hk,hg,rfl,hA,haS,hbel⟩:=hrel;have HG:=hid hg;clear hg hA3 haS3 hB3;have hsz:=hbel.size
    by_cases hlt:k<16
    ·have t1:decide ((k:Int)<16)=true:=decide_eq_true (by omega);have hcall:=fun W=>ZO s.data.toList k W hlt
     have hz:=ZR s.data.toList k;have hXl:=qE (eQ s.data.toList k);have hnl:=yB (eQ s.data.toList k);have hrl:=HRL.out k;have HR:=hid (LD s.data.toList k);rw[sR] at hXl hnl;obtain⟨X,hX⟩:∃X,X=bY (eQ s.data.toList k):=⟨_,rfl⟩;rw[<-hX] at hcall hz hXl hnl;have HN:=hid hnl;clear hX hnl
     cases hT:iT s.data.toList k with
     |true=>
      rw[hT] at HR hz;have u1:((X:Int) != 0)=true:=by rw[bne_iff_ne];intro h;have:=hz.1 (by omega);simp at this
      have u2:((X:Int)==0)=false:=by rw[beq_eq_false_iff_ne];intro h;have:=hz.1 (by omega);simp at this
      clear hT hz;go_wp2_with fail;refine AR 162 (.tmp 4) rfl w1.heap.size rfl _ _ (0,0) (.array 256 4) haS uW rfl (wN _) ?_;go_wp2_with fail;refine(hcall _).mono ?_;rintro e w4 ⟨rfl,hb4⟩;have hcall2:=ZP w.heap.size _ X w4 (hA.below hb4 hA.lt) (by omega) (by rw[aL,zC];omega);go_wp2_with fail;refine hcall2.mono ?_;rintro e w5 ⟨rfl,hA5,hg5⟩;go_wp2_with fail;have hg:=HG.out
      go_roundg (16-(k+1))
      case measure=>omega
      case rel=>exact⟨k+1,by omega,rfl,by go_num,by rw[HR.out,if_pos trivial,<-cF];rw[HN.out] at hA5;exact hA5,(haS.below hb4 haS.lt).gb hg5 hne,ZQ (hbel.trans (hb4.mono hsz)) hg5 (aA _) (by have:=hb4.size;omega)⟩
     |false=>
      rw[hT] at HR hz;have hX0:X=0:=hz.2 rfl;have u1:((X:Int) != 0)=false:=by rw[hX0];rfl
      have u2:((X:Int)==0)=true:=by rw[hX0];rfl
      clear hT hz hX0;go_wp2_with fail;refine AR 162 (.tmp 4) rfl w1.heap.size rfl _ _ (0,0) (.array 256 4) haS uW rfl (wN _) ?_;go_wp2_with fail;refine(hcall _).mono ?_;rintro e w4 ⟨rfl,hb4⟩;go_wp2_with fail;have hg:=HG.out
      go_roundg (16-(k+1))
      case measure=>omega
      case rel=>exact⟨k+1,by omega,rfl,by go_num,by rw[HR.out,if_neg (by decide),eE];exact hA.below hb4 hA.lt,haS.below hb4 haS.lt,hbel.trans (hb4.mono hsz)⟩
    ·have t1:decide ((k:Int)<16)=false:=decide_eq_false (by omega);have hke:k=16:=by omega
     subst hke;have hmm:lU s.data.toList 16++eX s.data.toList 16=fZ s.data.toList:=rfl;rw[hmm] at hA;clear hmm;unfold kH at hA;generalize hmm:fZ s.data.toList=m at*
     have HM:=hid hmm;clear hmm;have c0:=hA.cell (i:=0) rfl;have c1:=hA.cell (i:=1) rfl;have f0:=hA.free 0;have f1:=hA.free 1;go_wp2_with fail;have z0:Arr ((wr.setCell ⟨w.heap.size,0,none⟩ (.string (mkS (aD m)))).setCell ⟨w.heap.size,1,none⟩ (.int .i64 (m.length:Int))) w.heap.size 77 [.string (mkS (aD m)),.int .i64 (m.length:Int)]:=(hA.set 0 _).set 1 _;refine bodyPost_ret (results_cell_row rfl _ _ w.heap.size _ _ (0,0) _ rfl z0 Tryz.underlying77 rfl mF) rfl ?_
     exact⟨by rw[HM.out];rfl,(hbel.setCell (p:=⟨w.heap.size,0,none⟩) (aA _) _).setCell (p:=⟨w.heap.size,1,none⟩) (aA _) _⟩
end
end Go.Proofs.YtpgmbhpbgkljdaaGreatDoor
