/-
  Texts put together (part 5): the walks and the plain laws on which the statement stands.
-/
import Derived.Test.YtjkjeamepgjicaaGreatDoorZ4
set_option maxRecDepth 100000
set_option maxHeartbeats 12800000
set_option linter.unusedVariables false
set_option linter.unusedSimpArgs false
open Decidable renaming not_not->dK
open Go.IntKind renaming i64->aI,wrap_i64->aM
open Go.Lib renaming IsBuilderF->aTu,byteCells->nS
open Go.RowKit.Below renaming refl->aB
open Int renaming le_refl->lJ
open List renaming append_assoc->cF,append_nil->eE,getD_eq_getElem?_getD->aV,length_append->aL,length_cons->cR,length_drop->cI,length_eq_zero_iff->mV,length_singleton->fK,length_take->aX,mem_append->cU,mem_singleton->dC,replicate->bB,take_append_of_le_length->GO,take_of_length_le->cS
open Nat renaming add_assoc->dZ,le_refl->aA,zero_le->aU
open UInt8 renaming ofNat->eK
namespace Go.Proofs.YtjkjeamepgjicaaGreatDoor
section
def jM (c:UInt8):Nat->List UInt8->Nat
 |0,_=>0
 |_+1,[]=>0
 |n+1,b::s=>if b=c then jM c n s+1 else 0
theorem TT (c:UInt8):∀n s,jM c n s<=n/\jM c n s<=s.length
 |0,_=>by simp[jM]
 |n+1,[]=>by simp[jM]
 |n+1,b::s=>by
  have:=TT c n s;unfold jM;split<;>simp<;>omega
def dX (s:List UInt8):Nat:=match s with
 |[]=>0
 |c::r=>jM c 255 (c::r)
theorem pS (s:List UInt8) (h:s≠[]):1<=dX s/\dX s<=255/\dX s<=s.length:=by
 cases s with
 |nil=>exact absurd rfl h
 |cons c r=>
  have:=TT c 255 (c::r);refine⟨?_,this.1,this.2⟩;show 1<=jM c 255 (c::r);unfold jM;rw[if_pos rfl];omega
def mN (s:List UInt8) (n:Nat):List UInt8:=s.take (min n 4)++if 4<=n then[eK (n-4)] else[]
def uT:Nat->List UInt8->List UInt8
 |0,_=>[]
 |_+1,[]=>[]
 |f+1,c::r=>mN (c::r) (dX (c::r))++uT f ((c::r).drop (dX (c::r)))
theorem TX:∀f g s,s.length<=f->s.length<=g->uT f s=uT g s
 |0,g,s,hf,hg=>by
  have:s=[]:=mV.1 (by omega);subst this
  cases g<;>rfl
 |f+1,0,s,hf,hg=>by
  have:s=[]:=mV.1 (by omega);subst this;rfl
 |f+1,g+1,[],_,_=>rfl
 |f+1,g+1,c::r,hf,hg=>by
  unfold uT;have:=pS (c::r) (by simp);rw[TX f g _ (by rw[cI];simp only[cR] at*;omega) (by rw[cI];simp only[cR] at*;omega)]
def bC (s:List UInt8):List UInt8:=uT s.length s
theorem DL:bC []=[]:=rfl
theorem yU (s:List UInt8) (h:s≠[]):bC s=mN s (dX s)++bC (s.drop (dX s)):=by
 cases s with
 |nil=>exact absurd rfl h
 |cons c r=>
  have:=pS (c::r) h;show uT (r.length+1) (c::r)=_;unfold uT bC;rw[TX r.length ((c::r).drop (dX (c::r))).length _ (by rw[cI];simp only[cR] at*;omega) (aA _)]
theorem TY (s:List UInt8) (n:Nat) (h:n<=s.length):(mN s n).length=if n<4 then n else 5:=by
 unfold mN;rw[aL,aX]
 by_cases h4:4<=n
 ·rw[if_pos h4,if_neg (by omega)];simp;omega
 ·rw[if_neg h4,if_pos (by omega)];simp;omega
def unS:Nat->UInt8->List UInt8->Option (List UInt8)
 |r,_,[]=>if r=4 then none else some []
 |r,c,b::s=>if r=4 then(unS 0 c s).map (bB b.toNat c++·)
  else if 0<r/\b=c then(unS (r+1) c s).map (b::·)
  else(unS 1 b s).map (b::·)
def dT (s:List UInt8):Option (List UInt8):=unS 0 0 s
theorem oS:∀(n:Nat) (s:List UInt8),s.length<=n->(bC s).length<=2*s.length/\(s≠[]->bC s≠[])/\s.length<=52*(bC s).length
 |0,s,h=>by
  have:s=[]:=mV.1 (by omega);subst this;exact⟨by simp[DL],fun q=>absurd rfl q,by simp⟩
 |n+1,s,h=>by
  by_cases hne:s=[]
  ·subst hne;exact⟨by simp[DL],fun q=>absurd rfl q,by simp⟩
  ·have hb:=pS s hne;obtain⟨i1,_,i3⟩:=oS n (s.drop (dX s)) (by rw[cI];omega);have hl:=congrArg List.length (yU s hne);rw[aL,TY s _ hb.2.2] at hl;rw[cI] at i1 i3;refine⟨?_,fun _ e=>?_,?_⟩
   ·split at hl<;>omega
   ·rw[e] at hl;simp at hl;split at hl<;>omega
   ·split at hl<;>omega
def bF (s:List UInt8) (at' codes:Int):Nat->List (List Int)×Int×Int
 |0=>([],at',0)
 |k+1=>
  let p:=bF s at' codes k
  if p.2.2≠0 then p
  else let q:=eJ s p.2.1 codes
   if q.2.2≠0 then(p.1,p.2.1,q.2.2)
   else if bL q.1≠0 then(p.1,p.2.1,bL q.1)
   else(p.1++[q.1],q.2.1,0)
def bH (s:List UInt8) (at':Int) (t:List (List Int)) (chosen:List Int) (fin:Int):Nat->List Int×Int×Int×Bool
 |0=>([],at',0,false)
 |k+1=>
  let p:=bH s at' t chosen fin k
  if p.2.2.1≠0\/p.2.2.2=true then p
  else let q:=bZ (t.getD (chosen.getD (k/10) 0).toNat []) s p.2.1
   if q.2.2≠0 then(p.1,p.2.1,q.2.2,false)
   else if q.1=fin then
    if k/10+1<chosen.length then(p.1++[q.1],q.2.1,3,false) else(p.1++[q.1],q.2.1,0,true)
   else(p.1++[q.1],q.2.1,0,false)
def gX (s:List UInt8) (at':Int) (t:List (List Int)) (chosen:List Int) (fin:Int):List Int×Int×Int:=
 let p:=bH s at' t chosen fin (10*chosen.length)
 if p.2.2.1≠0 then([],0,p.2.2.1) else if p.2.2.2 then(p.1,p.2.1,0) else([],0,3)
def cV (s:List UInt8) (at':Int) (codes:Int):List Int×Int×Int:=
 if aO s.length at' 3≠0 then([],0,aO s.length at' 3)
 else if aE s at' 3<2\/6<aE s at' 3 then([],0,3)
 else if aO s.length (at'+3) 15≠0 then([],0,aO s.length (at'+3) 15)
 else if aE s (at'+3) 15=0 then([],0,3)
 else
  let c:=dD s (at'+18) (aE s (at'+3) 15) (aE s at' 3)
  if c.2.2≠0 then([],0,c.2.2)
  else
   let t:=bF s c.2.1 codes (aE s at' 3)
   if t.2.2≠0 then([],0,t.2.2) else gX s t.2.1 t.1 c.1 (codes-1)
theorem DM (s:List UInt8) (at' codes:Int):∀k,(bF s at' codes k).2.2=0->(bF s at' codes k).1.length=k/\∀l∈(bF s at' codes k).1,bL l=0/\(l.length:Int)=codes
 |0,_=>⟨rfl,fun l hl=>by simp[bF] at hl⟩
 |k+1,h=>by
  unfold bF at h ⊢;simp only at h ⊢;split at h
  ·next q=>exact absurd h q
  ·next q=>
   obtain⟨h1,h2⟩:=DM s at' codes k (dK.1 q);rw[if_neg q];split at h
   ·next q2=>exact absurd h q2
   ·next q2=>
    rw[if_neg q2];split at h
    ·next q3=>exact absurd h q3
    ·next q3=>
     rw[if_neg q3];refine⟨by simp[h1],fun l hl=>?_⟩;rcases cU.1 hl with hl|hl
     ·exact h2 l hl
     ·obtain rfl:=dC.1 hl;refine⟨dK.1 q3,?_⟩;have q2:=dK.1 q2;unfold eJ at q2 ⊢;split at q2
      ·simp at q2
      ·next k1=>
       rw[if_neg k1];simp only at q2 ⊢;split at q2
       ·next k2=>exact absurd q2 k2
       ·next k2=>
        rw[if_neg k2];have:=yR s _ (by omega) codes.toNat (dK.1 k2);show((aZ s (bF s at' codes k).2.1 codes.toNat).1.length:Int)=codes;omega
theorem uY {s:List UInt8} {at':Int} {k:Nat} (h:(cJ s at' k).2.2.2≠0):∀j,cJ s at' (k+j)=cJ s at' k
 |0=>rfl
 |j+1=>by
  rw[<-dZ];show(if(cJ s at' (k+j)).2.2.2≠0 then _ else _)=_;rw[uY h j,if_pos h]
theorem aJx {s:List UInt8} {at' n:Int} (h:(eJ s at' n).2.2=0):0<=at'/\2<=n/\n<=258/\((eJ s at' n).1.length:Int)=n/\(∀x∈(eJ s at' n).1,1<=x/\x<=20)/\at'<(eJ s at' n).2.1/\(eJ s at' n).2.1<=8*(s.length:Int):=by
 unfold eJ at h ⊢;split at h
 ·simp at h
 ·next k1=>
  rw[if_neg k1];simp only at h ⊢;split at h
  ·next k2=>exact absurd h k2
  ·next k2=>
   rw[if_neg k2];have:=yR s at' (by omega) n.toNat (dK.1 k2);exact⟨by omega,by omega,by omega,by show((aZ s at' n.toNat).1.length:Int)=n;omega,this.2.1,this.2.2.2.1,this.2.2.2.2⟩
theorem aJ0 {s:List UInt8} {at' n tables:Int} (h:(dD s at' n tables).2.2=0):2<=tables/\tables<=6/\0<=at'/\0<=n/\((dD s at' n tables).1.length:Int)=n/\(∀x∈(dD s at' n tables).1,0<=x/\x<tables)/\at'<=(dD s at' n tables).2.1/\((dD s at' n tables).2.1=at'\/(dD s at' n tables).2.1<=8*(s.length:Int)):=by
 unfold dD at h ⊢;split at h
 ·simp at h
 ·next k1=>
  rw[if_neg k1];simp only at h ⊢;split at h
  ·next k2=>exact absurd h k2
  ·next k2=>
   rw[if_neg k2];obtain⟨q1,q2,q3,q4⟩:=wG s tables at' (by omega) (by omega) n.toNat (dK.1 k2);refine⟨by omega,by omega,by omega,by omega,?_,?_,q3,q4⟩
   ·simp only[List.length_map,oO,q1];omega
   ·intro x hx;obtain⟨b,hb,rfl⟩:=List.mem_map.1 hx;have hm:b∈cC tables.toNat:=IQ _ _ (by rw[oR];intro y hy;have:=q2 y hy;omega) b hb;rw[KA (by omega)] at hm;omega
theorem aJ3 {l:List Int} {s:List UInt8} {at':Int} (h:(bZ l s at').2.2=0):bL l=0/\0<=at'/\0<=(bZ l s at').1/\(bZ l s at').1<(l.length:Int)/\at'<(bZ l s at').2.1/\(bZ l s at').2.1<=8*(s.length:Int):=by
 by_cases hc:bL l≠0
 ·unfold bZ at h;rw[if_pos hc] at h;exact absurd h hc
 ·have hc:=dK.1 hc
  by_cases hn:at'<0
  ·unfold bZ at h;rw[if_neg (fun k=>k hc),if_pos hn] at h;simp at h
  ·obtain⟨a,rfl⟩:∃a:Nat,at'=(a:Int):=⟨at'.toNat,by omega⟩
   by_cases hf:∃i,i<l.length/\gZ l s a i
   ·obtain⟨i,hi,hf⟩:=hf;rw[uB hc hi hf];have hb:=jG (eH hc).1 hi;have:=hf.1;refine⟨hc,by omega,by show(0:Int)<=(i:Int);omega,by show(i:Int)<_;omega,by show(a:Int)<(a:Int)+(bG l i:Int);omega,by show(a:Int)+(bG l i:Int)<=_;omega⟩
   ·rw[uD hc (fun i hi k=>hf ⟨i,hi,k⟩)] at h;split at h<;>simp at h
theorem zD {s:List UInt8} {at' codes:Int} {k:Nat} (h:(bF s at' codes k).2.2≠0):∀j,bF s at' codes (k+j)=bF s at' codes k
 |0=>rfl
 |j+1=>by
  rw[<-dZ];show(if(bF s at' codes (k+j)).2.2≠0 then _ else _)=_;rw[zD h j,if_pos h]
theorem VP (s:List UInt8) (at' codes:Int):∀k,(bF s at' codes k).2.2=0->at'<=(bF s at' codes k).2.1/\(0<k->(bF s at' codes k).2.1<=8*(s.length:Int))
 |0,_=>⟨lJ _,fun h=>absurd h (by omega)⟩
 |k+1,h=>by
  by_cases h1:(bF s at' codes k).2.2≠0
  ·rw[zD h1 1] at h;exact absurd h h1
  ·have ih:=VP s at' codes k (dK.1 h1);unfold bF at h ⊢;simp only at h ⊢;rw[if_neg h1] at h ⊢
   by_cases h2:(eJ s (bF s at' codes k).2.1 codes).2.2≠0
   ·rw[if_pos h2] at h;exact absurd h h2
   ·rw[if_neg h2] at h ⊢
    by_cases h3:bL (eJ s (bF s at' codes k).2.1 codes).1≠0
    ·rw[if_pos h3] at h;exact absurd h h3
    ·rw[if_neg h3];have:=aJx (dK.1 h2);exact⟨by show at'<=(eJ _ _ _).2.1;omega,fun _=>this.2.2.2.2.2.2⟩
theorem zE {s:List UInt8} {at':Int} {t:List (List Int)} {cs:List Int} {fin:Int} {k:Nat} (h:(bH s at' t cs fin k).2.2.1≠0\/(bH s at' t cs fin k).2.2.2=true):∀j,bH s at' t cs fin (k+j)=bH s at' t cs fin k
 |0=>rfl
 |j+1=>by
  rw[<-dZ];show(if(bH s at' t cs fin (k+j)).2.2.1≠0\/(bH s at' t cs fin (k+j)).2.2.2=true then _ else _)=_;rw[zE h j,if_pos h]
theorem LE (s:List UInt8) (at':Int) (t:List (List Int)) (cs:List Int) (fin:Int):∀k,(bH s at' t cs fin k).2.2.1=0->at'<=(bH s at' t cs fin k).2.1/\((bH s at' t cs fin k).2.1<=8*(s.length:Int)\/((bH s at' t cs fin k).2.1=at'/\(bH s at' t cs fin k).1=[]))/\((bH s at' t cs fin k).1.length:Int)<=(bH s at' t cs fin k).2.1-at'/\∀x∈(bH s at' t cs fin k).1,0<=x/\∃l∈t,x<(l.length:Int)
 |0,_=>⟨lJ _,.inr ⟨rfl,rfl⟩,by simp[bH],fun x hx=>by simp[bH] at hx⟩
 |k+1,h=>by
  by_cases h1:(bH s at' t cs fin k).2.2.1≠0\/(bH s at' t cs fin k).2.2.2=true
  ·rw[zE h1 1] at h ⊢;have ih:=LE s at' t cs fin k h;exact ih
  ·have h0:(bH s at' t cs fin k).2.2.1=0:=dK.1 (fun q=>h1 (.inl q));have ih:=LE s at' t cs fin k h0;unfold bH at h ⊢;simp only at h ⊢;rw[if_neg h1] at h ⊢
   by_cases h2:(bZ (t.getD (cs.getD (k/10) 0).toNat []) s (bH s at' t cs fin k).2.1).2.2≠0
   ·rw[if_pos h2] at h;exact absurd h h2
   ·rw[if_neg h2] at h ⊢;have hs:=aJ3 (dK.1 h2);have hmem:∀x∈(bH s at' t cs fin k).1++[(bZ (t.getD (cs.getD (k/10) 0).toNat []) s (bH s at' t cs fin k).2.1).1],0<=x/\∃l∈t,x<(l.length:Int):=by
     intro x hx;rcases cU.1 hx with hx|hx
     ·exact ih.2.2.2 x hx
     ·obtain rfl:=dC.1 hx;refine⟨hs.2.2.1,t.getD (cs.getD (k/10) 0).toNat [],?_,hs.2.2.2.1⟩;rw[aV]
      cases q:t[(cs.getD (k/10) 0).toNat]? with
      |some l=>exact List.mem_of_getElem? q
      |none=>
       have:=hs.2.2.2.1;have h3:=hs.2.2.1;rw[aV,q] at this h3;simp only[Option.getD_none,List.length_nil] at this h3;omega
    have hl:(((bH s at' t cs fin k).1++[(bZ (t.getD (cs.getD (k/10) 0).toNat []) s (bH s at' t cs fin k).2.1).1]).length:Int)<=(bZ (t.getD (cs.getD (k/10) 0).toNat []) s (bH s at' t cs fin k).2.1).2.1-at':=by
     rw[aL,fK];have:=ih.2.2.1;omega
    by_cases h3:(bZ (t.getD (cs.getD (k/10) 0).toNat []) s (bH s at' t cs fin k).2.1).1=fin
    ·rw[if_pos h3] at h ⊢
     by_cases h4:k/10+1<cs.length
     ·rw[if_pos h4] at h;simp at h
     ·rw[if_neg h4];exact⟨by show at'<=(bZ _ _ _).2.1;omega,.inl hs.2.2.2.2.2,hl,hmem⟩
    ·rw[if_neg h3];exact⟨by show at'<=(bZ _ _ _).2.1;omega,.inl hs.2.2.2.2.2,hl,hmem⟩
theorem LG {s:List UInt8} {at' codes:Int} (h:(cV s at' codes).2.2=0):0<=at'/\2<=codes/\codes<=258/\(∀x∈(cV s at' codes).1,0<=x/\x<codes)/\((cV s at' codes).1.length:Int)<=8*(s.length:Int)/\at'<(cV s at' codes).2.1/\(cV s at' codes).2.1<=8*(s.length:Int):=by
 unfold cV at h ⊢
 by_cases q1:aO s.length at' 3≠0
 ·rw[if_pos q1] at h;exact absurd h q1
 ·rw[if_neg q1] at h ⊢;have hg:=fQ (dK.1 q1)
  by_cases q2:aE s at' 3<2\/6<aE s at' 3
  ·rw[if_pos q2] at h;simp at h
  ·rw[if_neg q2] at h ⊢
   by_cases q3:aO s.length (at'+3) 15≠0
   ·rw[if_pos q3] at h;exact absurd h q3
   ·rw[if_neg q3] at h ⊢;have hv15:=iA s (at'+3) 15
    by_cases q4:aE s (at'+3) 15=0
    ·rw[if_pos q4] at h;simp at h
    ·rw[if_neg q4] at h ⊢;simp only at h ⊢;generalize hn:aE s at' 3=n at*
     generalize hm:aE s (at'+3) 15=m at*
     by_cases q5:(dD s (at'+18) m n).2.2≠0
     ·rw[if_pos q5] at h;exact absurd h q5
     ·rw[if_neg q5] at h ⊢;have hsel:=aJ0 (dK.1 q5);generalize dD s (at'+18) m n=c at*
      by_cases q6:(bF s c.2.1 codes n).2.2≠0
      ·rw[if_pos q6] at h;exact absurd h q6
      ·rw[if_neg q6] at h ⊢;have ht:=DM s c.2.1 codes n (dK.1 q6);have htn:=VP s c.2.1 codes n (dK.1 q6);have ht2:2<=codes/\codes<=258:=by
        have hne:0<(bF s c.2.1 codes n).1.length:=by omega
        have:=ht.2 _ (List.getElem_mem hne);have h3:=(eH this.1).1;have h4:=h3.1;have h5:=h3.2.1;omega
       generalize bF s c.2.1 codes n=t at*
       unfold gX at h ⊢;simp only at h ⊢;have hnx:=LE s t.2.1 t.1 c.1 (codes-1) (10*c.1.length);generalize bH s t.2.1 t.1 c.1 (codes-1) (10*c.1.length)=p at*
       by_cases q7:p.2.2.1≠0
       ·rw[if_pos q7] at h;exact absurd h q7
       ·rw[if_neg q7] at h ⊢;have hnx:=hnx (dK.1 q7)
        by_cases q8:p.2.2.2=true
        ·rw[if_pos q8];refine⟨hg.1,ht2.1,ht2.2,fun x hx=>?_,?_,?_,?_⟩
         ·obtain⟨k1,l,k2,k3⟩:=hnx.2.2.2 x hx;have:=(ht.2 l k2).2;exact⟨k1,by omega⟩
         ·show(p.1.length:Int)<=8*(s.length:Int);have:=hnx.2.2.1;have:=htn.2 (by omega);rcases hnx.2.1 with k|k<;>omega
         ·show at'<p.2.1;omega
         ·show p.2.1<=_;have:=htn.2 (by omega);rcases hnx.2.1 with k|k<;>omega
        ·rw[if_neg q8] at h;simp at h
theorem aJ6 (all:List UInt8):dT all=(unS 0 0 all).map ([]++·):=by
 unfold dT
 cases unS 0 0 all<;>rfl
theorem zF {o m:List UInt8} (x:Option (List UInt8)):(x.map (m++·)).map (o++·)=x.map ((o++m)++·):=by
 cases x with
 |none=>rfl
 |some y=>simp
theorem aJ7 {all o s:List UInt8} {c b:UInt8} (h:dT all=(unS 4 c (b::s)).map (o++·)):dT all=(unS 0 c s).map ((o++bB b.toNat c)++·):=by
 rw[h]
 conv=>lhs;unfold unS
 rw[if_pos rfl,zF]
theorem aJ8 {all o s:List UInt8} {r:Nat} {c:UInt8} (h:dT all=(unS r c (c::s)).map (o++·)) (h0:0<r) (h4:r≠4):dT all=(unS (r+1) c s).map ((o++[c])++·):=by
 rw[h]
 conv=>lhs;unfold unS
 rw[if_neg h4,if_pos ⟨h0,rfl⟩];exact zF (m:=[c]) _
theorem VY {all o s:List UInt8} {r:Nat} {c b:UInt8} (h:dT all=(unS r c (b::s)).map (o++·)) (h4:r≠4) (hn:¬(0<r/\b=c)):dT all=(unS 1 b s).map ((o++[b])++·):=by
 rw[h]
 conv=>lhs;unfold unS
 rw[if_neg h4,if_neg hn];exact zF (m:=[b]) _
theorem aJ9 {all o:List UInt8} {r:Nat} {c:UInt8} (h:dT all=(unS r c []).map (o++·)):dT all=if r=4 then none else some o:=by
 rw[h];unfold unS
 by_cases h4:r=4
 ·rw[if_pos h4,if_pos h4];rfl
 ·rw[if_neg h4,if_neg h4];simp
theorem DU {α:Type} (o l:List α) (k:Nat):(o.take k++l).take k=(o++l).take k:=by
 rcases Nat.le_total k o.length with h|h
 ·rw[GO (by rw[aX];omega),List.take_take,Nat.min_self,GO h]
 ·rw[cS h]
def fR (p:List UInt8) (most:Int):List UInt8×Int:=match dT p with
 |none=>([],3)
 |some o=>if most<(o.length:Int) then([],4) else(o,0)
theorem VZ {p:List UInt8} {most:Int} (h:dT p=none):fR p most=([],3):=by unfold fR;rw[h]
theorem LI {p o:List UInt8} {most:Int} (h:dT p=some o):fR p most=if most<(o.length:Int) then([],4) else(o,0):=by unfold fR;rw[h]
theorem aKa:∀(s:List UInt8) (r:Nat) (c:UInt8) (o:List UInt8),unS r c s=some o->s≠[]->r≠4->o≠[]
 |[],_,_,_,_,h,_=>absurd rfl h
 |b::s,r,c,o,h,_,h4=>by
  unfold unS at h;rw[if_neg h4] at h;split at h
  ·cases q:unS (r+1) c s with
   |none=>rw[q] at h;simp at h
   |some y=>rw[q] at h;simp at h;rw[<-h];simp
  ·cases q:unS 1 b s with
   |none=>rw[q] at h;simp at h
   |some y=>rw[q] at h;simp at h;rw[<-h];simp
theorem aKb {p:List UInt8} {most:Int} (hp:p≠[]) (h:(fR p most).2=0):(fR p most).1≠[]/\((fR p most).1.length:Int)<=most:=by
 unfold fR at h ⊢
 cases q:dT p with
 |none=>rw[q] at h;simp at h
 |some o=>
  rw[q] at h;simp only at h ⊢
  by_cases hm:most<(o.length:Int)
  ·rw[if_pos hm] at h;simp at h
  ·rw[if_neg hm];exact⟨aKa p 0 0 o q hp (by decide),by show(o.length:Int)<=most;omega⟩
theorem aKd {α:Type} {X Y:List α} {c:α} {k n M:Nat} (hk:k<=n) (hY:Y=(X++bB k c).take (M+1)) (hf:M<Y.length):(X++bB n c).take (M+1)=Y:=by
 have h1:M+1<=(X++bB k c).length:=by
  rw[hY,aX] at hf;omega
 have e:bB n c=bB k c++bB (n-k) c:=by rw[List.replicate_append_replicate,show k+(n-k)=n by omega]
 rw[e,<-cF,GO h1,hY]
theorem aKe {α:Type} {X Y:List α} {c:α} {k M:Nat} (hY:Y=(X++bB k c).take (M+1)) (hf:Y.length<=M):Y++[c]=(X++bB (k+1) c).take (M+1):=by
 have h1:(X++bB k c).length<=M:=by
  rw[hY,aX] at hf;omega
 rw[cS (by omega)] at hY;rw[List.replicate_succ',<-cF,<-hY,cS (by rw[aL,fK];omega)]
end
section
open Go.RowKit Go Go.Shelf
def pT (a b:Value):Prop:=a.ownBlock=none\/b.ownBlock=none\/a.ownBlock≠b.ownBlock
theorem pT.symm {a b:Value} (h:pT a b):pT b a:=by
 rcases h with h|h|h
 ·exact .inr (.inl h)
 ·exact .inl h
 ·exact .inr (.inr (fun e=>h e.symm))
theorem gbB {W W':World} {g:Option Nat} (h:Below W.heap.size W W'):W.grownBy W' g:=⟨h.os,h.tape,h.output,h.size,fun k hk _=>h.block k hk⟩
theorem gbT {A B C:World} {g:Option Nat} (h:A.grownBy B g) (k:B.grownBy C g):A.grownBy C g:=
 ⟨k.os.trans h.os,k.tape.trans h.tape,k.output.trans h.output,Nat.le_trans h.size k.size,fun i hi hne=>(k.block i (Nat.lt_of_lt_of_le hi h.size) hne).trans (h.block i hi hne)⟩
theorem gbS (W:World) (g i:Nat) (v:Value):W.grownBy (W.setCell ⟨g,i,none⟩ v) (some g):=
 ⟨rfl,rfl,rfl,by simp,fun k _ hne=>heap_setCell_other W ⟨g,i,none⟩ k v (fun e=>hne (by rw[e]))⟩
theorem LH {s:List UInt8} {at':Int} {k:Nat} {e:Int} (he:e≠0) (hk:k<=16) (h:(cJ s at' k).2.2.2=e):cG s at'=([],0,e):=by
 have h2:=uY (s:=s) (at':=at') (k:=k) (by rw[h];exact he) (16-k);rw[show k+(16-k)=16 by omega] at h2;unfold cG;simp only
 rw[h2,if_pos (by rw[h];exact he),h]
theorem VR (s:List UInt8) (at':Int):cJ s at' 0=([],at'+16,aE s at' 16==0,aO s.length at' 16):=rfl
theorem VS {s:List UInt8} {at':Int} {k:Nat} {o:List UInt8} {nx:Int} {bad:Bool} (h:cJ s at' k=(o,nx,bad,0)) (hb:(aE s at' 16).testBit (15-k)=false):cJ s at' (k+1)=(o,nx,bad,0):=by
 unfold cJ;simp only
 rw[h,if_neg (by simp),hb,if_neg (by decide)]
theorem VT {s:List UInt8} {at':Int} {k:Nat} {o:List UInt8} {nx:Int} {bad:Bool} (h:cJ s at' k=(o,nx,bad,0)) (hb:(aE s at' 16).testBit (15-k)=true) (he:aO s.length nx 16≠0):(cJ s at' (k+1)).2.2.2=aO s.length nx 16:=by
 unfold cJ;simp only
 rw[h,if_neg (by simp),hb,if_pos rfl,if_pos he]
theorem VU {s:List UInt8} {at':Int} {k:Nat} {o:List UInt8} {nx:Int} {bad:Bool} (h:cJ s at' k=(o,nx,bad,0)) (hb:(aE s at' 16).testBit (15-k)=true) (he:aO s.length nx 16=0):
  cJ s at' (k+1)=(o++jS (aE s nx 16) k 16,nx+16,bad||aE s nx 16==0,0):=by
 unfold cJ;simp only
 rw[h,if_neg (by simp),hb,if_pos rfl,if_neg (by rw[he];simp)]
theorem VW {s:List UInt8} {at':Int} {o:List UInt8} {nx:Int} {bad:Bool} (h:cJ s at' 16=(o,nx,bad,0)):cG s at'=if bad then([],0,3) else(o,nx,0):=by
 unfold cG;simp only
 rw[h,if_neg (by simp)]
theorem VX (v k i:Nat):jS v k (i+1)=jS v k i++if v.testBit (15-i) then[eK (16*k+i)] else[]:=rfl
theorem aQp (s:ByteArray) (p:Int) (w:World) (hs:s.size<=1000000) (hp1: -9223372036854775808<=p) (hp2:p<=9223372036854775807):
  Calls Tryz.prog 46 #[.string s,.int .i64 p] w fun e w'=>e=.returned (.tuple #[.string (mkS (cG s.data.toList p).1),.int .i64 (cG s.data.toList p).2.1,.int .i64 (cG s.data.toList p).2.2])/\Below w.heap.size w w':=by
 have hL:s.data.toList.length=s.size:=by simp
 have hz:=VR s.data.toList p;have hget:=fun W=>sT s p 16 W hs (by decide) hp1 hp2
 have hlt16:=iA s.data.toList p 16;rw[hL] at hz;obtain⟨E0,hE0⟩:∃E,E=aO s.size p 16:=⟨_,rfl⟩;obtain⟨F,hF⟩:∃F,F=aE s.data.toList p 16:=⟨_,rfl⟩;rw[<-hF,<-hE0] at hz hget;rw[<-hF] at hlt16;have hF64:F<18446744073709551616:=by omega
 have hpb:E0=0->0<=p/\p<=8000000:=fun h=>by
  have:=fQ (n:=s.size) (at':=p) (k:=16) (by rw[<-hE0];exact h);omega
 obtain⟨T0,hT0⟩:∃T0:Bool,T0=(F==0):=⟨_,rfl⟩;have t0:((F:Int)==0)=T0:=by
  rw[hT0]
  by_cases h:F=0
  ·rw[h];rfl
  ·rw[beq_eq_false_iff_ne.2 h,beq_eq_false_iff_ne];omega
 obtain⟨P16,hP16⟩:∃q:Int,q=aI.wrap (p+16):=⟨_,rfl⟩;have hPw:E0=0->P16=p+16:=fun h=>by
  have:=hpb h;rw[hP16,aM];omega
 have HF:=hid hF;have HL:=hid hL;have HST:=hid (show(E0=0/\cJ s.data.toList p 0=([],P16,T0||false,0))\/(E0≠0/\(cJ s.data.toList p 0).2.2.2=E0) by
  by_cases h:E0=0
  ·left;exact⟨h,by rw[hz,hPw h,<-hT0,h,Bool.or_false]⟩
  ·right;exact⟨h,by rw[hz]⟩)
 have HPB:=hid hpb;have m0:=hP16.symm;clear hF hz hL hT0 hPw hpb hP16 hE0;go_enter Tryz.func46,Tryz.ntmps46;go_wp2_with fail;refine(hget _).mono ?_;rintro e w1 ⟨rfl,rfl⟩;go_wp2_with fail
 go_loopg [1,6,7,8,10] 16 (fun g s1 s6 s7 s8 s10 wr=>∃(k:Nat) (o:List UInt8) (nx:Int) (emp:Bool) (E:Int),k<=16/\g=16-k/\s10=.int .i64 (k:Int)/\s1=.int .i64 nx/\s8=.bool emp/\s6=.int .i64 E/\Hid ((E=0/\cJ s.data.toList p k=(o,nx,T0||emp,0))\/(E≠0/\(cJ s.data.toList p k).2.2.2=E))/\o.length<=16*k/\OwB wr w1.heap.size s7 o/\Below w1.heap.size w1 wr)
 case atStart=>exact⟨0,[],P16,false,E0,by omega,rfl,rfl,rfl,rfl,rfl,HST,by simp,Ow.nil _ _ _,aB _ _⟩
 case round=>
  obtain⟨k,o,nx,emp,E,hk,hg,rfl,rfl,rfl,rfl,HU,hol,hown,hbel⟩:=hrel;have HG:=hid hg;clear hg m0;have hbs:=hbel.size
  by_cases hE:E=0
  rotate_left
  ·have t2:(E==0)=false:=by rw[beq_eq_false_iff_ne];exact hE
   have t3:(E != 0)=true:=by rw[bne_iff_ne];exact hE
   have hU:cG s.data.toList p=([],0,E):=by
    rcases HU.out with⟨h,_⟩|⟨_,h⟩
    ·exact absurd h hE
    ·exact LH hE hk h
   have HUU:=hid hU;clear hU hE
   by_cases hlt:k<16
   ·have t1:decide ((k:Int)<16)=true:=decide_eq_true (by omega);go_wp2_with fail
    go_ret3
    exact⟨by rw[HUU.out];rfl,hbel⟩
   ·have t1:decide ((k:Int)<16)=false:=decide_eq_false (by omega);go_wp2_with fail
    go_ret3
    exact⟨by rw[HUU.out];rfl,hbel⟩
  ·subst hE;have hU:cJ s.data.toList p k=(o,nx,T0||emp,0):=by
    rcases HU.out with⟨_,h⟩|⟨h,_⟩
    ·exact h
    ·exact absurd rfl h
   have hp0:0<=p/\p<=8000000:=by
    apply HPB.out
    by_cases h:E0=0
    ·exact h
    ·have h0:(cJ s.data.toList p 0).2.2.2=E0:=by
      rcases HST.out with⟨h1,_⟩|⟨_,h1⟩
      ·exact absurd h1 h
      ·exact h1
     have h2:=uY (s:=s.data.toList) (at':=p) (k:=0) (by rw[h0];exact h) k;rw[Nat.zero_add] at h2;rw[h2] at hU;rw[hU] at h0;exact h0.symm
   have hbd:=yE s.data.toList p k;rw[hU] at hbd;have hnx:=hbd.2 rfl;simp only at hnx;clear hbd
   by_cases hlt:k<16
   ·have t1:decide ((k:Int)<16)=true:=decide_eq_true (by omega);obtain⟨q,hq⟩:∃q,q=15-k:=⟨_,rfl⟩;have m1:aI.wrap (15-(k:Int))=(q:Int):=by rw[aM];omega
    have m1':(15:Int)-(k:Int)=(q:Int):=by omega
    have m2:min q 64=q:=by omega
    have e4:=IY F q hF64;obtain⟨b,hb⟩:∃b,b=F.testBit q:=⟨_,rfl⟩;rw[<-hb] at e4;have HB:=hid (show(aE s.data.toList p 16).testBit (15-k)=b by rw[<-HF.out,<-hq,hb]);clear hq hb
    cases b with
    |false=>
     have HS:=hid (VS hU HB.out);have e5:((false.toNat:Nat):Int)=0:=rfl;rw[e5] at e4;clear hU;go_wp2_with fail;have hg:=HG.out
     go_roundg (16-(k+1))
     case measure=>omega
     case rel=>exact⟨k+1,o,nx,emp,0,by omega,rfl,by go_num,rfl,rfl,rfl,hid (.inl ⟨rfl,HS.out⟩),by omega,hown,hbel⟩
    |true=>
     have e5:((true.toNat:Nat):Int)=1:=rfl;rw[e5] at e4;have hget2:=fun W=>sT s nx 16 W hs (by decide) (by omega) (by omega)
     have hV:=iA s.data.toList nx 16;have hrl:=CE (aE s.data.toList nx 16) k;obtain⟨nx2,hnx2⟩:∃q:Int,q=nx+16:=⟨_,rfl⟩;have m3:aI.wrap (nx+16)=nx2:=by rw[aM];omega
     have hST:(aO s.size nx 16=0/\cJ s.data.toList p (k+1)=(o++jS (aE s.data.toList nx 16) k 16,nx2,T0||(emp||aE s.data.toList nx 16==0),0))\/(aO s.size nx 16≠0/\(cJ s.data.toList p (k+1)).2.2.2=aO s.size nx 16):=by
      by_cases h:aO s.size nx 16=0
      ·left
       have:=VU hU HB.out (by rw[HL.out];exact h);rw[Bool.or_assoc] at this;exact⟨h,by rw[this,hnx2]⟩
      ·right
       have:=VT hU HB.out (by rw[HL.out];exact h);rw[HL.out] at this;exact⟨h,this⟩
     obtain⟨V,hVV⟩:∃V,V=aE s.data.toList nx 16:=⟨_,rfl⟩;obtain⟨E2,hE2⟩:∃E,E=aO s.size nx 16:=⟨_,rfl⟩;rw[<-hVV,<-hE2] at hget2 hST;rw[<-hVV] at hV hrl;have hV64:V<18446744073709551616:=by omega
     obtain⟨T1,hT1⟩:∃T1:Bool,T1=(V==0):=⟨_,rfl⟩;have u1:((V:Int)==0)=T1:=by
      rw[hT1]
      by_cases h:V=0
      ·rw[h];rfl
      ·rw[beq_eq_false_iff_ne.2 h,beq_eq_false_iff_ne];omega
     rw[<-hT1] at hST;have HST2:=hid hST;obtain⟨kk,hkk⟩:∃kk,kk=16*k:=⟨_,rfl⟩;have m4:aI.wrap ((k:Int)*16)=(kk:Int):=by rw[aM];omega
     have m5:(k:Int)*16=(kk:Int):=by omega
     have HKK:=hid hkk;have hkk240:kk<=240:=by omega
     have HRL:=hid hrl;clear hkk hT1 hnx2 hVV hrl hST hU hE2;go_wp2_with fail;refine(hget2 _).mono ?_;rintro e w2 ⟨rfl,rfl⟩;go_upto_region 12 with fail
     go_cut [8] (fun c8 wx=>c8=.bool (emp||T1)/\wx=w2)
     case first=>
      cases emp with
      |true=>go_wp2_with fail;go_meet;exact⟨rfl,rfl⟩
      |false=>go_wp2_with fail;go_meet;exact⟨rfl,rfl⟩
     case rest=>
      obtain⟨rfl,rfl⟩:=hcut;go_wp2_with fail
      go_loopg [7,48] 16 (fun g s7 s48 wx=>∃i:Nat,i<=16/\g=16-i/\s48=.int .i64 (i:Int)/\OwB wx w1.heap.size s7 (o++jS V k i)/\Below w1.heap.size w1 wx)
      case atStart=>exact⟨0,by omega,rfl,rfl,by rw[show jS V k 0=[] from rfl,eE];exact hown,hbel⟩
      case round=>
       obtain⟨i,hi,hg,rfl,hown2,hbel2⟩:=hrel;have HG2:=hid hg;clear hg e4
       by_cases hil:i<16
       ·have u2:decide ((i:Int)<16)=true:=decide_eq_true (by omega);obtain⟨q2,hq2⟩:∃q,q=15-i:=⟨_,rfl⟩;have m6:aI.wrap (15-(i:Int))=(q2:Int):=by rw[aM];omega
        have m6':(15:Int)-(i:Int)=(q2:Int):=by omega
        have m7:min q2 64=q2:=by omega
        have e6:=IY V q2 hV64;have HRS:=hid (VX V k i);rw[<-hq2] at HRS;have hlen:=HRL.out i
        cases hb2:V.testBit q2 with
        |false=>
         rw[hb2,show((false.toNat:Nat):Int)=0 from rfl] at e6;rw[hb2] at HRS;clear hb2 hq2;go_wp2_with fail;have hg:=HG2.out
         go_roundg (16-(i+1))
         case measure=>omega
         case rel=>exact⟨i+1,by omega,rfl,by go_num,by rw[HRS.out,if_neg (by decide),eE];exact hown2,hbel2⟩
        |true=>
         rw[hb2,show((true.toNat:Nat):Int)=1 from rfl] at e6;rw[hb2] at HRS;obtain⟨c,hc⟩:∃c:Nat,c=kk+i:=⟨_,rfl⟩;have m8:aI.wrap ((kk:Int)+(i:Int))=(c:Int):=by rw[aM];omega
         have m8':(kk:Int)+(i:Int)=(c:Int):=by omega
         obtain⟨b,hb⟩:∃b:UInt8,b=eK c:=⟨_,rfl⟩;have hbt:b.toNat=c:=by rw[hb,UInt8.toNat_ofNat'];omega
         have m9:IntKind.u8.wrap (c:Int)=(b.toNat:Int):=by rw[hbt,IntKind.wrap_u8];omega
         have m9':(c:Int)%256=(b.toNat:Int):=by rw[hbt];omega
         have HBB:=hid (show eK (16*k+i)=b by rw[hb,hc,HKK.out]);have hsz2:=hbel2.size;clear hb2 hq2 hc hb hbt;go_wp2_with (at_builtin;refine yZ rfl _ _ rfl w1.heap.size _ _ rfl (Ow.alloc hown2 _) wr.heap.size b rfl ?_ ?_ ?_ ?_;(exact bS _ _ _);(rw[aL];omega);(simp;omega);intro v' w3 hown' hB hgrow);have hg:=HG2.out
         go_roundg (16-(i+1))
         case measure=>omega
         case rel=>exact⟨i+1,by omega,rfl,by go_num,by rw[HRS.out,if_pos trivial,HBB.out,<-cF];exact hown',(hbel2.alloc hsz2 _).trans hB⟩
       ·have u2:decide ((i:Int)<16)=false:=decide_eq_false (by omega);have hie:i=16:=by omega
        subst hie;have hr16:=HRL.out 16;go_wp2_with fail;have hg:=HG.out
        go_roundg (16-(k+1))
        case measure=>omega
        case rel=>exact⟨k+1,_,nx2,emp||T1,E2,by omega,rfl,by go_num,rfl,rfl,rfl,HST2,by rw[aL];omega,hown2,hbel2⟩
   ·have t1:decide ((k:Int)<16)=false:=decide_eq_false (by omega);have hke:k=16:=by omega
    subst hke;have hfin:=VW hU
    cases emp with
    |true=>
     rw[Bool.or_true,if_pos rfl] at hfin;have HFN:=hid hfin;clear hfin hU;go_wp2_with fail
     go_ret3
     exact⟨by rw[HFN.out];rfl,hbel⟩
    |false=>
     cases T0 with
     |true=>
      rw[Bool.or_false,if_pos rfl] at hfin;have HFN:=hid hfin;clear hfin hU;go_wp2_with fail
      go_ret3
      exact⟨by rw[HFN.out];rfl,hbel⟩
     |false=>
      rw[Bool.or_false,if_neg (by decide)] at hfin;have HFN:=hid hfin;clear hfin hU;obtain⟨a,n,c,rfl,HN,hc1,hc2⟩:=hown.openN;have hcv:(convert 40 9 (.slice a n c)).run Tryz.prog wr=.ok (.string (mkS o)) wr:=lQ hown.rd;go_wp2_with fail
      go_ret3
      exact⟨by rw[HFN.out];rfl,hbel⟩
end
section
open Go.Shelf Go.RowKit
def zV:Go.Shelf.Ren:=⟨fun|166=>999983|167=>70|169=>71|170=>69|240=>94|276=>108|n=>n,fun|3=>3|4=>4|5=>5|9=>9|20=>20|37=>40|70=>154|72=>156|75=>45|80=>160|127=>197|164=>187|n=>n,fun|n=>n⟩
theorem aQr:Go.Proofs.Lays.n167 Tryz.prog zV:={
 mixed:=by kernel_rfl
 f167:=Tryz.func70.trans (congrArg some (by kernel_rfl))
 f240:=Tryz.func94.trans (congrArg some (by kernel_rfl))
 f276:=Tryz.func108.trans (congrArg some (by kernel_rfl))
 t0:=Tryz.underlying0
 a0:=Tryz.isAgg0
 z0:=Tryz.sizeOf0
 v0:=Tryz.zeroValue0
 t4:=Tryz.underlying4
 a4:=Tryz.isAgg4
 z4:=Tryz.sizeOf4
 v4:=Tryz.zeroValue4
 t5:=Tryz.underlying5
 a5:=Tryz.isAgg5
 z5:=Tryz.sizeOf5
 v5:=Tryz.zeroValue5
 t9:=Tryz.underlying9
 a9:=Tryz.isAgg9
 z9:=Tryz.sizeOf9
 v9:=Tryz.zeroValue9
 t20:=Tryz.underlying20
 a20:=Tryz.isAgg20
 z20:=Tryz.sizeOf20
 v20:=Tryz.zeroValue20
 t37:=Tryz.underlying40
 a37:=Tryz.isAgg40
 z37:=Tryz.sizeOf40
 v37:=Tryz.zeroValue40
 t70:=Tryz.underlying154
 a70:=Tryz.isAgg154
 z70:=Tryz.sizeOf154
 v70:=Tryz.zeroValue154
 t72:=Tryz.underlying156
 a72:=Tryz.isAgg156
 z72:=Tryz.sizeOf156
 v72:=Tryz.zeroValue156
 t75:=Tryz.underlying45
 a75:=Tryz.isAgg45
 z75:=Tryz.sizeOf45
 v75:=Tryz.zeroValue45
 t164:=Tryz.underlying187
 a164:=Tryz.isAgg187
 z164:=Tryz.sizeOf187
 v164:=Tryz.zeroValue187}
theorem aQs:Go.Proofs.Lays.n169 Tryz.prog zV:={
 mixed:=by kernel_rfl
 f169:=Tryz.func71.trans (congrArg some (by kernel_rfl))
 t0:=Tryz.underlying0
 a0:=Tryz.isAgg0
 z0:=Tryz.sizeOf0
 v0:=Tryz.zeroValue0
 t3:=Tryz.underlying3
 a3:=Tryz.isAgg3
 z3:=Tryz.sizeOf3
 v3:=Tryz.zeroValue3
 t9:=Tryz.underlying9
 a9:=Tryz.isAgg9
 z9:=Tryz.sizeOf9
 v9:=Tryz.zeroValue9
 t37:=Tryz.underlying40
 a37:=Tryz.isAgg40
 z37:=Tryz.sizeOf40
 v37:=Tryz.zeroValue40
 t70:=Tryz.underlying154
 a70:=Tryz.isAgg154
 z70:=Tryz.sizeOf154
 v70:=Tryz.zeroValue154
 t72:=Tryz.underlying156
 a72:=Tryz.isAgg156
 z72:=Tryz.sizeOf156
 v72:=Tryz.zeroValue156
 t127:=Tryz.underlying197
 a127:=Tryz.isAgg197
 z127:=Tryz.sizeOf197
 v127:=Tryz.zeroValue197}
theorem aQt:Go.Proofs.Lays.n170 Tryz.prog zV:={
 mixed:=by kernel_rfl
 f170:=Tryz.func69.trans (congrArg some (by kernel_rfl))
 t0:=Tryz.underlying0
 a0:=Tryz.isAgg0
 z0:=Tryz.sizeOf0
 v0:=Tryz.zeroValue0
 t3:=Tryz.underlying3
 a3:=Tryz.isAgg3
 z3:=Tryz.sizeOf3
 v3:=Tryz.zeroValue3
 t37:=Tryz.underlying40
 a37:=Tryz.isAgg40
 z37:=Tryz.sizeOf40
 v37:=Tryz.zeroValue40
 t70:=Tryz.underlying154
 a70:=Tryz.isAgg154
 z70:=Tryz.sizeOf154
 v70:=Tryz.zeroValue154
 t72:=Tryz.underlying156
 a72:=Tryz.isAgg156
 z72:=Tryz.sizeOf156
 v72:=Tryz.zeroValue156}
theorem MV:Builder.Extra Tryz.prog zV:={
 sizeBuilder:=by kernel_rfl
 liesBuilder:=by kernel_rfl
 t5:=Tryz.underlying5
 a5:=Tryz.isAgg5
 z5:=Tryz.sizeOf5
 v5:=Tryz.zeroValue5
 infoByte:=by kernel_rfl
 cellsByte:=by kernel_rfl
 sizeByte:=by kernel_rfl
 neB5:=by decide}
def Bld (w:World) (B b:Nat) (l:List UInt8):Prop:=aTu 156 5 B b (nS l) w
theorem aAm (B b:Nat) (l:List UInt8) (c:UInt8) (w:World) (h:Bld w B b l) (hlen:l.length+1<=140737488355328) (hB:B<=w.heap.size):
  Calls Tryz.prog 70 #[.pointer (some ⟨b,0,none⟩),.int .u8 (c.toNat:Int)] w fun e w'=>e=.returned .nilIface/\Bld w' B b (l++[c])/\Below B w w'/\Lib.OthersKept 5 (some b) w w':=by
 refine(Any.Builder_WriteByte_k aQr MV B b (nS l) (c.toNat:Int) w h (by simpa [nS] using hlen) hB).mono ?_;rintro e w' ⟨rfl,h1,h2,h3⟩;refine⟨rfl,.inr ?_,h2,h3⟩;have e:nS (l++[c])=nS l++[Value.int .u8 (c.toNat:Int)]:=by simp[nS]
 rw[e];exact h1
theorem aAn (B b:Nat) (l:List UInt8) (w:World) (h:Bld w B b l) (hB:B<=w.heap.size):
  Calls Tryz.prog 71 #[.pointer (some ⟨b,0,none⟩)] w fun e w'=>e=.returned (.string (mkS l))/\Bld w' B b l/\Below B w w'/\Lib.OthersKept 5 (some b) w w':=
 Any.Builder_String_any_k aQs MV B b l w h hB
theorem EW (B b:Nat) (l:List UInt8) (w:World) (h:Bld w B b l):
  Calls Tryz.prog 69 #[.pointer (some ⟨b,0,none⟩)] w fun e w'=>e=.returned (.int .i64 (l.length:Int))/\w'=w:=by
 refine(Any.Builder_Len_f aQt B b (nS l) w h).mono ?_;rintro e w' ⟨rfl,rfl⟩;refine⟨?_,rfl⟩;simp[nS]
end
section
open Go.RowKit Go Go.Shelf
theorem Bld.drew {w:World} {B b:Nat} {l:List UInt8} (h:Bld w B b l):Bld w.drew B b l:=h
theorem Bld.drewN {w:World} {B b:Nat} {l:List UInt8} (h:Bld w B b l) (n:Nat):Bld (w.drewN n) B b l:=h
theorem aAo (b mb:Nat) (c:UInt8) (n M:Nat) (X:List UInt8) (w:World) (h:Bld w b b X) (hm:w.cell? ⟨mb,0,none⟩=some (.int .i64 (M:Int))) (hmb:mb<b) (hbw:b<w.heap.size) (hM:M<=1000000) (hX:X.length<=M+1) (hn:n<=255):
  Calls Tryz.prog 68 #[.int .u8 (c.toNat:Int),.int .i64 (n:Int),.pointer (some ⟨b,0,none⟩),.pointer (some ⟨mb,0,none⟩)] w fun e w'=>e=.returned (.tuple #[])/\Bld w' b b ((X++bB n c).take (M+1))/\Below b w w':=by
 go_enter Tryz.func68,Tryz.ntmps68;go_wp2_with fail
 go_loopg [7] n (fun g s7 wr=>∃(k:Nat) (Y:List UInt8),k<=n/\g=n-k/\s7=.int .i64 (k:Int)/\Hid (Y=(X++bB k c).take (M+1))/\Bld wr b b Y/\Below b w wr)
 case atStart=>exact⟨0,X,aU _,rfl,rfl,hid (by rw[List.replicate_zero,eE,cS hX]),h,aB _ _⟩
 case round=>
  obtain⟨k,Y,hk,hg,rfl,HY,hB,hbel⟩:=hrel;have HG:=hid hg;clear hg
  by_cases hlt:k<n
  ·have t1:decide ((k:Int)<(n:Int))=true:=decide_eq_true (by omega);have c1:=(hbel.cell (p:=⟨mb,0,none⟩) hmb).trans hm;have hmx:max (M:Int) 0=(M:Int):=by omega
   have hBd:=hB.drew;have hsz:=hbel.size;go_wp2_with fail
   by_cases hful:M<Y.length
   ·have t2:decide ((M:Int)<(Y.length:Int))=true:=decide_eq_true (by omega);have t3:decide ((Y.length:Int)>(M:Int))=true:=decide_eq_true (by omega)
    go_region_with (go_at_call 69;refine(EW b b Y _ (by assumption)).mono ?_;rintro e w1 ⟨rfl,rfl⟩)
    all_goals
     go_wp2_with fail
     first|go_end0|refine bodyPost_ret (results_none rfl _ _ _) rfl ?_
     exact⟨rfl,by rw[aKd hk HY.out hful];exact hB,hbel.drew⟩
   ·have t2:decide ((M:Int)<(Y.length:Int))=false:=decide_eq_false (by omega);have t3:decide ((Y.length:Int)>(M:Int))=false:=decide_eq_false (by omega);have hcall:=aAm b b Y c wr.drew hBd (by omega) (by show b<=wr.heap.size;omega)
    go_region_with (go_at_call 69;refine(EW b b Y _ (by assumption)).mono ?_;rintro e w1 ⟨rfl,rfl⟩)
    all_goals
     go_wp2_with fail;refine hcall.mono ?_;rintro e w2 ⟨rfl,h2,b2,_⟩;go_wp2_with fail;have hg:=HG.out
     go_roundg (n-(k+1))
     case measure=>omega
     case rel=>exact⟨k+1,Y++[c],by omega,rfl,by go_num,hid (aKe HY.out (by omega)),h2,hbel.drew.trans b2⟩
  ·have t1:decide ((k:Int)<(n:Int))=false:=decide_eq_false (by omega);have hke:k=n:=by omega
   subst hke;go_wp2_with fail
   go_end0
   exact⟨rfl,by rw[<-HY.out];exact hB,hbel⟩
theorem aAp (w:World):Bld (w.alloc (.cells #[.pointer none,.slice none 0 0] 156)) w.heap.size w.heap.size []:=aTu.of (Lib.fresh_isBuilder 156 5 w)
theorem aQv (s:ByteArray) (M:Nat) (w:World) (hs:s.size<=1000000) (hM:M<=1000000):
  Calls Tryz.prog 53 #[.string s,.int .i64 (M:Int)] w fun e w'=>e=.returned (.tuple #[.string (mkS (fR s.data.toList M).1),.int .i64 (fR s.data.toList M).2])/\Below w.heap.size w w':=by
 have HL:=hid (show s.data.toList.length=s.size by simp);have hmf:∀(fn:Fn) (first cap:Array Value) (w:World),(Instr.makeFunc fn first cap).run Tryz.prog w=.ok (.func fn first cap) w:=fun _ _ _ _=>rfl
 have hE:∀args W,(callFunc 68 args).run Tryz.prog W=.ok (.enter 68 args) W:=enters_of Tryz.func68 (by kernel_rfl) rfl;go_enter Tryz.func53,Tryz.ntmps53;go_wp2_with fail;have hB0:=aAp (w.alloc (.cells #[.int .i64 (M:Int)] 3));rw[World.size_alloc] at hB0;have hm0:((w.alloc (.cells #[.int .i64 (M:Int)] 3)).alloc (.cells #[.pointer none,.slice none 0 0] 156)).cell? ⟨w.heap.size,0,none⟩=some (.int .i64 (M:Int)):=((Arr.new w 3 [.int .i64 (M:Int)]).alloc _).cell (i:=0) rfl
 have hs0:((w.alloc (.cells #[.int .i64 (M:Int)] 3)).alloc (.cells #[.pointer none,.slice none 0 0] 156)).heap.size=w.heap.size+1+1:=by simp
 have hb0:Below w.heap.size w ((w.alloc (.cells #[.int .i64 (M:Int)] 3)).alloc (.cells #[.pointer none,.slice none 0 0] 156)):=((aB _ w).alloc (aA _) _).alloc (by simp) _;generalize (w.alloc (.cells #[.int .i64 (M:Int)] 3)).alloc (.cells #[.pointer none,.slice none 0 0] 156)=w0 at*
 go_loopg [8,9,10,14] s.size (fun g s8 s9 _s10 s14 wr=>∃(k r:Nat) (c:UInt8) (o:List UInt8),k<=s.size/\g=s.size-k/\s14=.int .i64 (k:Int)/\s8=.int .i64 (r:Int)/\s9=.int .u8 (c.toNat:Int)/\r<=4/\Hid (dT s.data.toList=(unS r c (s.data.toList.drop k)).map (o++·))/\Bld wr (w.heap.size+1) (w.heap.size+1) (o.take (M+1))/\Below (w.heap.size+1) w0 wr)
 case atStart=>exact⟨0,0,0,[],aU _,rfl,rfl,rfl,rfl,by omega,hid (aJ6 _),hB0,aB _ _⟩
 case round=>
  obtain⟨k,r,c,o,hk,hg,rfl,rfl,rfl,hr4,HO,hB,hbel⟩:=hrel;have HG:=hid hg;clear hg;have hm1:=(hbel.cell (p:=⟨w.heap.size,0,none⟩) (by show w.heap.size<w.heap.size+1;omega)).trans hm0;have hsz:=hbel.size;have hXl:(o.take (M+1)).length<=M+1:=by rw[aX];omega
  by_cases hlt:k<s.size
  ·have t1:decide ((k:Int)<(s.size:Int))=true:=decide_eq_true (by omega);have hb:=s[k].toNat_lt;have hdk:s.data.toList.drop k=s[k]::s.data.toList.drop (k+1):=by
    obtain⟨h1,h2⟩:=List.getElem?_eq_some_iff.1 (eW s k hlt);rw[List.drop_eq_getElem_cons h1,h2]
   have HO1:=HO.out;rw[hdk] at HO1
   by_cases h4:r=4
   ·subst h4;have t2:decide (((4:Nat):Int)=4)=true:=by decide
    have HS:=hid (aJ7 HO1);have hcall:=fun(n:Nat) hn=>aAo (w.heap.size+1) w.heap.size c n M (o.take (M+1)) wr hB hm1 (by omega) (by omega) hM hXl hn
    have hcall1:=hcall s[k].toNat (by omega);rw[DU] at hcall1;clear hcall hdk HO1;go_wp2_with fail;refine hcall1.mono ?_;rintro e w2 ⟨rfl,h2,b2⟩;go_wp2_with fail;have hg:=HG.out
    go_roundg (s.size-(k+1))
    case measure=>omega
    case rel=>exact⟨k+1,0,c,_,by omega,rfl,by go_num,rfl,rfl,by omega,HS,h2,hbel.trans b2⟩
   ·have t2:decide ((r:Int)=4)=false:=decide_eq_false (by omega);have t2':((r:Int)==4)=false:=by rw[beq_eq_false_iff_ne];omega
    have hcall:=fun(d:UInt8)=>aAo (w.heap.size+1) w.heap.size d 1 M (o.take (M+1)) wr hB hm1 (by omega) (by omega) hM hXl (by omega)
    by_cases h0:0<r
    ·have t3:decide ((0:Int)<(r:Int))=true:=decide_eq_true (by omega);have t3':decide ((r:Int)>0)=true:=decide_eq_true (by omega)
     by_cases hc:s[k]=c
     ·have t4:((s[k].toNat:Int)==(c.toNat:Int))=true:=by rw[hc];simp
      have t4':decide ((s[k].toNat:Int)=(c.toNat:Int))=true:=decide_eq_true (by rw[hc]);rw[hc] at HO1;have HS:=hid (aJ8 HO1 h0 h4);have hcall1:=hcall c;rw[DU] at hcall1;have m1:aI.wrap ((r:Int)+1)=((r+1:Nat):Int):=by rw[aM];omega
      clear hcall hdk HO1 hc;go_wp2_with fail;refine hcall1.mono ?_;rintro e w2 ⟨rfl,h2,b2⟩;go_wp2_with fail;have hg:=HG.out
      go_roundg (s.size-(k+1))
      case measure=>omega
      case rel=>exact⟨k+1,r+1,c,_,by omega,rfl,by go_num,by go_num,rfl,by omega,HS,h2,hbel.trans b2⟩
     ·have hne:(s[k].toNat:Int)≠(c.toNat:Int):=fun e=>hc (UInt8.toNat_inj.1 (by omega))
      have t4:((s[k].toNat:Int)==(c.toNat:Int))=false:=by rw[beq_eq_false_iff_ne];exact hne
      have t4':decide ((s[k].toNat:Int)=(c.toNat:Int))=false:=decide_eq_false hne;have HS:=hid (VY HO1 h4 (by rintro⟨_,h⟩;exact hc h));have hcall1:=hcall s[k];rw[DU] at hcall1;clear hcall hdk HO1 hc hne;go_wp2_with fail;refine hcall1.mono ?_;rintro e w2 ⟨rfl,h2,b2⟩;go_wp2_with fail;have hg:=HG.out
      go_roundg (s.size-(k+1))
      case measure=>omega
      case rel=>exact⟨k+1,1,s[k],_,by omega,rfl,by go_num,rfl,rfl,by omega,HS,h2,hbel.trans b2⟩
    ·have t3:decide ((0:Int)<(r:Int))=false:=decide_eq_false (by omega);have t3':decide ((r:Int)>0)=false:=decide_eq_false (by omega);have HS:=hid (VY HO1 h4 (by rintro⟨h,_⟩;exact h0 h));have hcall1:=hcall s[k];rw[DU] at hcall1;clear hcall hdk HO1;go_wp2_with fail;refine hcall1.mono ?_;rintro e w2 ⟨rfl,h2,b2⟩;go_wp2_with fail;have hg:=HG.out
     go_roundg (s.size-(k+1))
     case measure=>omega
     case rel=>exact⟨k+1,1,s[k],_,by omega,rfl,by go_num,rfl,rfl,by omega,HS,h2,hbel.trans b2⟩
  ·have t1:decide ((k:Int)<(s.size:Int))=false:=decide_eq_false (by omega);have hend:=HO.out;rw[List.drop_eq_nil_of_le (by rw[HL.out];omega)] at hend;have hend:=aJ9 hend
   by_cases h4:r=4
   ·subst h4;have t2:decide (((4:Nat):Int)=4)=true:=by decide
    rw[if_pos rfl] at hend;have HE:=hid (VZ (most:=(M:Int)) hend);clear hend;go_wp2_with fail
    go_ret2
    exact⟨by rw[HE.out];rfl,hb0.trans (hbel.mono (by omega))⟩
   ·have t2:decide ((r:Int)=4)=false:=decide_eq_false (by omega);have t2':((r:Int)==4)=false:=by rw[beq_eq_false_iff_ne];omega
    rw[if_neg h4] at hend;have hE2:=LI (most:=(M:Int)) hend;clear hend;have hBN:∀n,Bld (wr.drewN n) (w.heap.size+1) (w.heap.size+1) (o.take (M+1)):=fun n=>hB.drewN n
    by_cases hlong:M<o.length
    ·rw[if_pos (by omega)] at hE2;have HE:=hid hE2;clear hE2;have hlen:(o.take (M+1)).length=M+1:=by rw[aX];omega
     have t5:decide ((M:Int)<((M+1:Nat):Int))=true:=decide_eq_true (by omega);have t6:decide (((M+1:Nat):Int)>(M:Int))=true:=decide_eq_true (by omega);have hBd:=hB.drew;have HLn:=hid hlen;clear hlen;go_wp2_with fail
     go_region_with (go_at_call 69;refine(EW (w.heap.size+1) (w.heap.size+1) (o.take (M+1)) _ (by assumption)).mono ?_;rintro e w1 ⟨rfl,rfl⟩;rw[HLn.out])
     all_goals
      go_wp2_with fail
      go_ret2
      exact⟨by rw[HE.out];rfl,hb0.trans ((hbel.mono (by omega)).drew)⟩
    ·rw[if_neg (by omega)] at hE2;have HE:=hid hE2;clear hE2;rw[cS (by omega)] at hB hBN;have t5:decide ((M:Int)<(o.length:Int))=false:=decide_eq_false (by omega);have t6:decide ((o.length:Int)>(M:Int))=false:=decide_eq_false (by omega);have hBd:=hB.drew;have hcall:=aAn (w.heap.size+1) (w.heap.size+1) o wr.drew hBd (by show w.heap.size+1<=wr.heap.size;omega);go_wp2_with fail
     go_region_with (go_at_call 69;refine(EW (w.heap.size+1) (w.heap.size+1) o _ (by assumption)).mono ?_;rintro e w1 ⟨rfl,rfl⟩)
     all_goals
      go_wp2_with fail;refine hcall.mono ?_;rintro e w2 ⟨rfl,_,b2,_⟩;go_wp2_with fail
      go_ret2
      exact⟨by rw[HE.out];rfl,hb0.trans (((hbel.drew).trans b2).mono (by omega))⟩
end
end Go.Proofs.YtjkjeamepgjicaaGreatDoor
