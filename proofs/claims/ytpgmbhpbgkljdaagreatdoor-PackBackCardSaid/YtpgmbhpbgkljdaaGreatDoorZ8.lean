/-
  Texts put together (part 8): the walks and the plain laws on which the statement stands.
-/
import Derived.Defers
import Derived.Recover
import Derived.Laws.ResultCell
import Derived.Maps.AppendAt
import Derived.Test.YtpgmbhpbgkljdaaGreatDoorZ6
set_option maxRecDepth 100000
set_option maxHeartbeats 12800000
open Array renaming getElem?_eq_some_iff->gQ
open Decidable renaming not_not->dK
open Go renaming Operand->iM,Program->gD,bodyPost_ret->gJ,cell_of_row->tN,info_parts->AC,run_loadVar_row->NT
open Go.Addr renaming add->iN
open Go.Instr renaming makeFunc->vJ
open Go.IntKind renaming i64->aI
open Go.Oper renaming wp->lX
open Go.Region renaming wanted->nR
open Go.Result renaming andThen->jB
open Go.RowKit.Below renaming refl->aB
open Go.Value renaming int->bO
open Go.World renaming ownsRow_nil->aBx,size_alloc->fV
open Go.World.ownsRow renaming alloc->aBy,kept->NH,lt->aT4
open Int renaming le_refl->lJ,toNat_natCast->eG
open List renaming append_assoc->cF,append_nil->eE,drop_append_of_le_length->aTb,flatMap_append->pZ,flatMap_cons->sH,getD_eq_getElem?_getD->aV,getElem?_eq_getElem->aN,getElem?_eq_none->dL,getElem?_eq_some_iff->eU,getElem?_map->dY,getElem?_range->pF,getElem?_take->lW,getElem_mem->gT,length_append->aL,length_cons->cR,length_eq_zero_iff->mV,length_map->bJ,length_set->mW,map_cons->pG,mem_append->cU,mem_cons->kD,mem_cons_of_mem->jD,mem_cons_self->lY,mem_map->dU,mem_range->jF,mem_singleton->dC,range->dG,replicate->bB,sum_cons->pV,take_add_one->cQ,take_append_drop->jE,take_append_of_le_length->GO,take_of_length_le->cS
open Nat renaming le_refl->aA,le_trans->aW,lt_of_lt_of_le->dR,mod_two_eq_zero_or_one->FU,zero_add->iZ,zero_le->aU
open Option renaming map_some->xW
open Option.some renaming inj->bW
namespace Go.Proofs.YtpgmbhpbgkljdaaGreatDoor
section
def jU (now x:Int):List Bool:=(bB (x-now).toNat [true,false]).flatten++(bB (now-x).toNat [true,true]).flatten++[false]
def eI (now:Int):List Int->List Bool
 |[]=>[]
 |x::l=>jU now x++eI x l
theorem CY (x:Int):∀(l:List Int) (now:Int),eI now (l++[x])=eI now l++jU (l.getLastD now) x
 |[],now=>by simp[eI]
 |y::l,now=>by
  show jU now y++eI y (l++[x])=(jU now y++eI y l)++_;rw[CY x l y,cF]
  congr 3
  cases l<;>rfl
def dW (l:List Int):List Bool:=aY (l.getD 0 0).toNat 5++eI (l.getD 0 0) l
theorem aHk (now x:Int) (h1:1<=now) (h2:now<=20) (h3:1<=x) (h4:x<=20):(jU now x).length<=39:=by
 unfold jU;simp only[aL,List.length_flatten,List.map_replicate,List.sum_replicate_nat,cR,List.length_nil];omega
theorem CZ:∀(l:List Int) (now:Int),1<=now->now<=20->(∀x∈l,1<=x/\x<=20)->(eI now l).length<=39*l.length
 |[],_,_,_,_=>by simp[eI]
 |x::l,now,h1,h2,h=>by
  have hx:=h x (lY ..);have:=CZ l x hx.1 hx.2 (fun y hy=>h y (jD _ hy));have:=aHk now x h1 h2 hx.1 hx.2;unfold eI;rw[aL,cR];omega
def iB (s:List UInt8):Nat->Int->Int->Int×Int×Int
 |0,_,_=>(0,0,2)
 |f+1,at',n=>
  if aO s.length at' 1≠0 then(0,0,aO s.length at' 1)
  else if aE s at' 1=0 then(n,at'+1,0)
  else if aO s.length (at'+1) 1≠0 then(0,0,aO s.length (at'+1) 1)
  else
   let m:=if aE s (at'+1) 1=0 then n+1 else n-1
   if m<1\/20<m then(0,0,3) else iB s f (at'+2) m
def eD (s:List UInt8) (at' n:Int):Int×Int×Int:=iB s (8*s.length+2) at' n
theorem JX (s:List UInt8):∀(f g:Nat) (at' n:Int),0<=at'->8*(s.length:Int)+1-at'<=f->8*(s.length:Int)+1-at'<=g->1<=f->1<=g->iB s f at' n=iB s g at' n
 |0,_,_,_,_,_,_,h,_=>by omega
 |_,0,_,_,_,_,_,_,h=>by omega
 |f+1,g+1,at',n,h0,hf,hg,_,_=>by
  unfold iB;split
  ·rfl
  ·next h1=>
   have h1:=fQ (dK.1 h1);split
   ·rfl
   ·split
    ·rfl
    ·next h2=>
     have h2:=fQ (dK.1 h2);simp only
     generalize (if aE s (at'+1) 1=0 then n+1 else n-1)=m
     by_cases hm:m<1\/20<m
     ·rw[if_pos hm,if_pos hm]
     ·rw[if_neg hm,if_neg hm];exact JX s f g _ _ (by omega) (by omega) (by omega) (by omega) (by omega)
theorem wF (s:List UInt8) (at' n:Int) (h0:0<=at'):eD s at' n=
  if aO s.length at' 1≠0 then(0,0,aO s.length at' 1)
  else if aE s at' 1=0 then(n,at'+1,0)
  else if aO s.length (at'+1) 1≠0 then(0,0,aO s.length (at'+1) 1)
  else if(if aE s (at'+1) 1=0 then n+1 else n-1)<1\/20<(if aE s (at'+1) 1=0 then n+1 else n-1) then(0,0,3)
  else eD s (at'+2) (if aE s (at'+1) 1=0 then n+1 else n-1):=by
 unfold eD
 conv=>lhs;unfold iB
 split
 ·rfl
 ·next h1=>
  have h1:=fQ (dK.1 h1);split
  ·rfl
  ·split
   ·rfl
   ·next h2=>
    have h2:=fQ (dK.1 h2);simp only
    generalize (if aE s (at'+1) 1=0 then n+1 else n-1)=m
    by_cases hm:m<1\/20<m
    ·rw[if_pos hm,if_pos hm]
    ·rw[if_neg hm,if_neg hm];exact JX s _ _ _ _ (by omega) (by omega) (by omega) (by omega) (by omega)
theorem DA (s:List UInt8):∀(f:Nat) (at' n:Int),0<=at'->1<=n->n<=20->(iB s f at' n).2.2=0->1<=(iB s f at' n).1/\(iB s f at' n).1<=20/\at'<(iB s f at' n).2.1/\(iB s f at' n).2.1<=8*(s.length:Int)
 |0,_,_,_,_,_,h=>by unfold iB at h;simp at h
 |f+1,at',n,h0,h1,h2,h=>by
  unfold iB at h ⊢;split at h
  ·next q=>exact absurd h q
  ·next q=>
   have q1:=fQ (dK.1 q);rw[if_neg q];split at h
   ·next k=>
    rw[if_pos k];exact⟨h1,h2,by show at'<at'+1;omega,by show at'+1<=_;omega⟩
   ·next k=>
    rw[if_neg k];split at h
    ·next q2=>exact absurd h q2
    ·next q2=>
     rw[if_neg q2];simp only at h ⊢;generalize (if aE s (at'+1) 1=0 then n+1 else n-1)=m at h ⊢
     by_cases q3:m<1\/20<m
     ·rw[if_pos q3] at h;simp at h
     ·rw[if_neg q3] at h ⊢;have:=DA s f (at'+2) m (by omega) (by omega) (by omega) h;omega
def aZ (s:List UInt8) (at':Int):Nat->List Int×Int×Int×Int
 |0=>([],(aE s at' 5:Int),at'+5,if aO s.length at' 5≠0 then aO s.length at' 5 else if(aE s at' 5:Int)<1\/20<(aE s at' 5:Int) then 3 else 0)
 |k+1=>
  let p:=aZ s at' k
  if p.2.2.2≠0 then p
  else let q:=eD s p.2.2.1 p.2.1
   if q.2.2≠0 then(p.1,p.2.1,p.2.2.1,q.2.2) else(p.1++[q.1],q.1,q.2.1,0)
def eJ (s:List UInt8) (at':Int) (n:Int):List Int×Int×Int:=
 if at'<0\/n<2\/258<n then([],0,1)
 else let p:=aZ s at' n.toNat
  if p.2.2.2≠0 then([],0,p.2.2.2) else(p.1,p.2.2.1,0)
theorem yR (s:List UInt8) (at':Int) (h0:0<=at'):∀k,(aZ s at' k).2.2.2=0->(aZ s at' k).1.length=k/\(∀x∈(aZ s at' k).1,1<=x/\x<=20)/\(1<=(aZ s at' k).2.1/\(aZ s at' k).2.1<=20)/\at'<(aZ s at' k).2.2.1/\(aZ s at' k).2.2.1<=8*(s.length:Int)
 |0,h=>by
  unfold aZ at h ⊢;simp only at h ⊢;split at h
  ·next q=>exact absurd h q
  ·next q=>
   have q1:=fQ (dK.1 q);split at h
   ·simp at h
   ·next q2=>exact⟨rfl,fun x hx=>by simp at hx,by omega,by omega,by omega⟩
 |k+1,h=>by
  unfold aZ at h ⊢;simp only at h ⊢;split at h
  ·next q=>exact absurd h q
  ·next q=>
   obtain⟨h1,h2,h3,h4,h5⟩:=yR s at' h0 k (dK.1 q);rw[if_neg q];split at h
   ·next q2=>exact absurd h q2
   ·next q2=>
    rw[if_neg q2];have:=DA s _ (aZ s at' k).2.2.1 (aZ s at' k).2.1 (by omega) h3.1 h3.2 (dK.1 q2);refine⟨by simp[h1],fun x hx=>?_,⟨this.1,this.2.1⟩,by show at'<(eD _ _ _).2.1;unfold eD;omega,this.2.2.2⟩;rcases cU.1 hx with hx|hx
    ·exact h2 x hx
    ·obtain rfl:=dC.1 hx;exact⟨this.1,this.2.1⟩
theorem SB {a c:List UInt8} {b:UInt8} (h:b∈a):plc (a++c) b=plc a b:=by
 unfold plc;rw[List.findIdx_append,if_pos (by
  have:=rG h;unfold plc at this;exact this)]
theorem SC {a c:List UInt8} {i:Nat} (h:i<a.length):eF (a++c) i=eF a i++c:=by
 unfold eF;rw[aTb (by omega),GO (by rw[List.length_drop];omega),GO (by omega),aTb (by omega)];simp[cF]
theorem aHl {a:List UInt8} {i:Nat} {b:UInt8}:b∈eF a i↔b∈a:=(uE a i).mem_iff
theorem JY:∀(s a c:List UInt8),(∀b∈s,b∈a)->cM (a++c) s=cM a s/\eB (a++c) s=eB a s++c
 |[],_,_,_=>⟨rfl,rfl⟩
 |b::s,a,c,h=>by
  have hb:=h b (lY ..);have ih:=JY s (eF a (plc a b)) c (fun x hx=>aHl.2 (h x (jD _ hx)));have e:eF (a++c) (plc (a++c) b)=eF a (plc a b)++c:=by rw[SB hb,SC (rG hb)]
  unfold cM eB;rw[e,SB hb];exact⟨by rw[ih.1],ih.2⟩
theorem SD:∀(l:List Int) (a c:List UInt8),(∀x∈l,0<=x/\x<(a.length:Int))->unL (a++c) l=unL a l/\unA (a++c) l=unA a l++c
 |[],_,_,_=>⟨rfl,rfl⟩
 |x::l,a,c,h=>by
  have hx:=h x (lY ..);have ih:=SD l (eF a x.toNat) c (fun y hy=>by rw[vS];exact h y (jD _ hy));have e:eF (a++c) x.toNat=eF a x.toNat++c:=SC (by omega);unfold unL unA;rw[e];refine⟨?_,ih.2⟩;rw[ih.1]
  congr 1
  rw[aV,List.getElem?_append_left (by omega),aV]
def cC (n:Nat):List UInt8:=(dG n).map UInt8.ofNat
theorem oR (n:Nat):(cC n).length=n:=by simp[cC]
theorem JZ {n:Nat} (h:n<=6):cC 6=cC n++(cC 6).drop n:=by
 have e:(cC 6).take n=cC n:=by
  unfold cC;rw[<-List.map_take,List.take_range,Nat.min_eq_left h]
 rw[<-e,jE]
theorem KA {n:Nat} (h:n<=6) (b:UInt8):b∈cC n↔b.toNat<n:=by
 unfold cC;rw[dU];constructor
 ·rintro⟨k,hk,rfl⟩;rw[jF] at hk;rw[UInt8.toNat_ofNat',Nat.mod_eq_of_lt (by omega)];exact hk
 ·intro hb;exact⟨b.toNat,jF.2 hb,by simp⟩
def lF (p:Int):List Bool:=bB p.toNat true++[false]
def dE (l:List Int):List Bool:=l.flatMap lF
theorem KB (l:List Int) (p:Int):dE (l++[p])=dE l++lF p:=by unfold dE;simp[pZ]
def jK (s:List UInt8) (tables:Int):Nat->Int->Int->Int×Int×Int
 |0,_,_=>(0,0,2)
 |f+1,at',n=>
  if aO s.length at' 1≠0 then(0,0,aO s.length at' 1)
  else if aE s at' 1=0 then(n,at'+1,0)
  else if n+1=tables then(0,0,3)
  else jK s tables f (at'+1) (n+1)
def gV (s:List UInt8) (tables at' n:Int):Int×Int×Int:=jK s tables (8*s.length+2) at' n
theorem KC (s:List UInt8) (tables:Int):∀(f g:Nat) (at' n:Int),0<=at'->8*(s.length:Int)+1-at'<=f->8*(s.length:Int)+1-at'<=g->1<=f->1<=g->jK s tables f at' n=jK s tables g at' n
 |0,_,_,_,_,_,_,h,_=>by omega
 |_,0,_,_,_,_,_,_,h=>by omega
 |f+1,g+1,at',n,h0,hf,hg,_,_=>by
  unfold jK;split
  ·rfl
  ·next h1=>
   have h1:=fQ (dK.1 h1);split
   ·rfl
   ·split
    ·rfl
    ·exact KC s tables f g _ _ (by omega) (by omega) (by omega) (by omega) (by omega)
theorem DB (s:List UInt8) (tables at' n:Int) (h0:0<=at'):gV s tables at' n=
  if aO s.length at' 1≠0 then(0,0,aO s.length at' 1)
  else if aE s at' 1=0 then(n,at'+1,0)
  else if n+1=tables then(0,0,3)
  else gV s tables (at'+1) (n+1):=by
 unfold gV
 conv=>lhs;unfold jK
 split
 ·rfl
 ·next h1=>
  have h1:=fQ (dK.1 h1);split
  ·rfl
  ·split
   ·rfl
   ·exact KC s tables _ _ _ _ (by omega) (by omega) (by omega) (by omega) (by omega)
theorem DC (s:List UInt8) (tables:Int):∀(f:Nat) (at' n:Int),0<=at'->0<=n->n<tables->(jK s tables f at' n).2.2=0->0<=(jK s tables f at' n).1/\(jK s tables f at' n).1<tables/\at'<(jK s tables f at' n).2.1/\(jK s tables f at' n).2.1<=8*(s.length:Int)
 |0,_,_,_,_,_,h=>by unfold jK at h;simp at h
 |f+1,at',n,h0,h1,h2,h=>by
  unfold jK at h ⊢;split at h
  ·next q=>exact absurd h q
  ·next q=>
   have q1:=fQ (dK.1 q);rw[if_neg q];split at h
   ·next k=>
    rw[if_pos k];exact⟨h1,h2,by show at'<at'+1;omega,by show at'+1<=_;omega⟩
   ·next k=>
    rw[if_neg k];split at h
    ·simp at h
    ·next q3=>
     rw[if_neg q3];have:=DC s tables f (at'+1) (n+1) (by omega) (by omega) (by omega) h;omega
def cO (s:List UInt8) (tables at':Int):Nat->List Int×Int×Int
 |0=>([],at',0)
 |k+1=>
  let p:=cO s tables at' k
  if p.2.2≠0 then p
  else let q:=gV s tables p.2.1 0
   if q.2.2≠0 then(p.1,p.2.1,q.2.2) else(p.1++[q.1],q.2.1,0)
theorem wG (s:List UInt8) (tables at':Int) (h0:0<=at') (ht:0<tables):∀k,(cO s tables at' k).2.2=0->(cO s tables at' k).1.length=k/\(∀x∈(cO s tables at' k).1,0<=x/\x<tables)/\at'<=(cO s tables at' k).2.1/\((cO s tables at' k).2.1=at'\/(cO s tables at' k).2.1<=8*(s.length:Int))
 |0,_=>⟨rfl,fun x hx=>by simp[cO] at hx,lJ _,.inl rfl⟩
 |k+1,h=>by
  unfold cO at h ⊢;simp only at h ⊢;split at h
  ·next q=>exact absurd h q
  ·next q=>
   obtain⟨h1,h2,h3,h4⟩:=wG s tables at' h0 ht k (dK.1 q);rw[if_neg q];split at h
   ·next q2=>exact absurd h q2
   ·next q2=>
    rw[if_neg q2];have:=DC s tables (8*s.length+2) (cO s tables at' k).2.1 0 (by omega) (by omega) ht (dK.1 q2);refine⟨by simp[h1],fun x hx=>?_,by show at'<=(gV _ _ _ _).2.1;unfold gV;omega,.inr this.2.2.2⟩;rcases cU.1 hx with hx|hx
    ·exact h2 x hx
    ·obtain rfl:=dC.1 hx;exact⟨this.1,this.2.1⟩
def dD (s:List UInt8) (at' n tables:Int):List Int×Int×Int:=
 if tables<2\/6<tables\/at'<0\/n<0\/1048576<n then([],0,1)
 else let p:=cO s tables at' n.toNat
  if p.2.2≠0 then([],0,p.2.2) else((unL (cC tables.toNat) p.1).map (fun b=>(b.toNat:Int)),p.2.1,0)
def cK (m:List Int):List (List Int):=(dG ((m.length+9)/10)).map (fun i=>(m.drop (10*i)).take 10)
theorem iD (m:List Int):(cK m).length=(m.length+9)/10:=by simp[cK]
theorem wH (m:List Int) (i:Nat) (h:i<(m.length+9)/10):(cK m)[i]? =some ((m.drop (10*i)).take 10):=by simp[cK,h]
def KD (m:List Int) (n:Int):Bool:=m.any (fun s=>decide (s<0)||decide (n<=s))
theorem aHm {m:List Int} {n:Int} (h:∀x∈m,0<=x/\x<n):KD m n=false:=by
 unfold KD;rw[List.any_eq_false];intro x hx;have:=h x hx;simp;omega
def SE (lens g:List Int):Int:=if bL lens≠0 then bL lens else if KD g lens.length then 5 else 0
def lT (lens:List Int) (g:List Int):Int:=g.foldl (fun n s=>n+lens.getD s.toNat 0) 0
def nI (lens g:List Int):Int:=if SE lens g=0 then lT lens g else 0
theorem SF (lens g:List Int) (s:Int):lT lens (g++[s])=lT lens g+lens.getD s.toNat 0:=by unfold lT;rw[List.foldl_append];rfl
theorem SG {lens:List Int} (hl:∀x∈lens,1<=x/\x<=20) (g:List Int):0<=lT lens g/\lT lens g<=20*(g.length:Int):=by
 refine yA (P:=fun g=>0<=lT lens g/\lT lens g<=20*(g.length:Int)) (by simp[lT]) (fun g s ih=>?_) g;rw[SF,aL,List.length_singleton];have:0<=lens.getD s.toNat 0/\lens.getD s.toNat 0<=20:=by
  rw[aV]
  by_cases h:s.toNat<lens.length
  ·rw[aN h];have:=hl _ (gT h);simp only[Option.getD_some];omega
  ·rw[dL (by omega)];simp
 omega
def dJ (m:List Int) (n which:Nat):Nat->List Int
 |0=>bB n 0
 |k+1=>if k/10%2=which then(dJ m n which k).set (m.getD k 0).toNat ((dJ m n which k).getD (m.getD k 0).toNat 0+1) else dJ m n which k
theorem rP (m:List Int) (n which:Nat):∀k,(dJ m n which k).length=n
 |0=>by simp[dJ]
 |k+1=>by
  unfold dJ;split
  ·rw[mW,rP m n which k]
  ·exact rP m n which k
theorem SH:∀(l:List Int) (i:Nat),i<l.length->(l.set i (l.getD i 0+1)).sum=l.sum+1
 |[],i,h=>by simp at h
 |x::l,0,_=>by simp[List.set_cons_zero];omega
 |x::l,i+1,h=>by
  have:=SH l i (by simpa using h);simp only[List.set_cons_succ,pV,List.getD_cons_succ];omega
theorem wI (m:List Int) (n which:Nat) (h:∀x∈m,0<=x/\x<(n:Int)):∀k,k<=m.length->0<=(dJ m n which k).sum/\(dJ m n which k).sum<=(k:Int)/\∀x∈dJ m n which k,0<=x/\x<=(k:Int)
 |0,_=>by
  refine⟨by simp[dJ],by simp[dJ],fun x hx=>?_⟩;unfold dJ at hx;have:=List.eq_of_mem_replicate hx;omega
 |k+1,hk=>by
  obtain⟨h1,h2,h3⟩:=wI m n which h k (by omega);have hx:=h m[k] (gT (by omega));have e:m.getD k 0=m[k]:=by rw[aV,aN (by omega)];rfl
  unfold dJ;split
  ·rw[e,SH _ _ (by rw[rP];omega)];refine⟨by omega,by omega,fun x hx2=>?_⟩;rcases List.mem_or_eq_of_mem_set hx2 with q|q
   ·have:=h3 x q;omega
   ·have hg:0<=(dJ m n which k).getD m[k].toNat 0/\(dJ m n which k).getD m[k].toNat 0<=(k:Int):=by
     rw[aV,aN (by rw[rP];omega)];exact h3 _ (gT _)
    rw[q];omega
  ·exact⟨h1,by omega,fun x hx2=>by have:=h3 x hx2;omega⟩
def iK (m:List Int) (n which:Nat):List Int:=dJ m n which m.length
def nJ (ws:List Int):List Int:=kL (ws.map (fun w=>max w 1))
theorem DD (ws:List Int) (h:∀x∈ws,0<=x):(ws.map (fun w=>max w 1)).sum<=ws.sum+ws.length:=by
 induction ws with
 |nil=>decide
 |cons x l ih=>
  have:=ih (fun y hy=>h y (jD _ hy));have:=h x (lY ..);simp only[pG,pV,cR];omega
theorem KE {ws:List Int} (h2:2<=ws.length) (h258:ws.length<=258) (h0:∀x∈ws,0<=x) (hs:ws.sum<=20000):fY (nJ ws)/\(nJ ws).length=ws.length:=by
 have hm:(ws.map (fun w=>max w 1)).length=ws.length:=bJ ..;have:=aGh (ws.map (fun w=>max w 1)) (by omega) (fun x hx=>by
  obtain⟨y,_,rfl⟩:=dU.1 hx;omega) (by have:=DD ws h0;omega)
 unfold fY nJ;rw[this.1,hm];exact⟨⟨h2,h258,this.2⟩,rfl⟩
def dN (m:List Int) (n which:Nat):List Int:=nJ (iK m n which)
theorem rQ {m:List Int} {n which:Nat} (h2:2<=n) (h258:n<=258) (h:∀x∈m,0<=x/\x<(n:Int)) (hm:m.length<=20000):fY (dN m n which)/\(dN m n which).length=n:=by
 have hs:=wI m n which h m.length (aA _);have hl:=rP m n which m.length;have:=KE (ws:=iK m n which) (by unfold iK;omega) (by unfold iK;omega) (fun x hx=>(hs.2.2 x hx).1) (by unfold iK;omega);exact⟨this.1,by rw[dN,this.2];exact hl⟩
def nX (a b g:List Int):Int:=if nI b g<nI a g then 1 else 0
def cT (m:List Int) (n:Nat):List Int:=(cK m).map (nX (dN m n 0) (dN m n 1))
theorem wJ (m:List Int) (n:Nat):(cT m n).length=(m.length+9)/10:=by unfold cT;rw[bJ,iD]
theorem DE (m:List Int) (n:Nat):∀x∈cT m n,x=0\/x=1:=fun x hx=>by
 obtain⟨g,_,rfl⟩:=dU.1 hx;unfold nX;split
 ·exact .inr rfl
 ·exact .inl rfl
def eR (l syms:List Int):List Bool:=syms.flatMap (fun s=>aY (fO l s.toNat) (bG l s.toNat))
theorem SI (l syms:List Int) (s:Int):eR l (syms++[s])=eR l syms++aY (fO l s.toNat) (bG l s.toNat):=by unfold eR;simp[pZ]
theorem rR {l:List Int} (h:fY l):∀syms:List Int,(∀x∈syms,0<=x/\x<(l.length:Int))->(eR l syms).length<=20*syms.length
 |[],_=>by simp[eR]
 |s::syms,hs=>by
  have ih:=rR h syms (fun x hx=>hs x (jD _ hx));have h1:=hs s (lY ..);have:=(jG h (s:=s.toNat) (by omega)).2.1;unfold eR at ih ⊢;rw[sH,aL,cY,cR];omega
end
section
open Go.RowKit Go
theorem IZ {x:Int} (h1: -9223372036854775808<=x) (h2:x<=9223372036854775807):wrap64 x=x:=by unfold wrap64;omega
theorem JA {x:Int} (h1: -9223372036854775808<=x) (h2:x<=9223372036854775807):aI.wrap x=x:=by rw[IntKind.wrap_i64];omega
theorem aEe (l:List Bool) (w:World) (hl:l.length<=1000000):
  Calls Tryz.prog 117 #[.agg #[.string (mkS (aD l)),.int .i64 (l.length:Int)]] w fun e w'=>e=.returned (.bool true)/\Below w.heap.size w w':=by
 obtain⟨s,hs⟩:∃s,s=mkS (aD l):=⟨_,rfl⟩;have hsz:s.size=(l.length+7)/8:=by rw[hs,cP,gY]
 have hsl:s.data.toList=aD l:=by rw[hs,fW]
 rw[<-hs];clear hs;have HB:=hid (fun i (_:l.length<=i)=>show dI s.data.toList i=false by rw[hsl,sO,aV,dL (by omega)];rfl);clear hsl;obtain⟨n,hn⟩:∃n,n=l.length:=⟨_,rfl⟩;rw[<-hn] at hl hsz HB ⊢;clear hn;obtain⟨q,hq⟩:∃q,q=n/8:=⟨_,rfl⟩;obtain⟨r,hr⟩:∃r,r=n%8:=⟨_,rfl⟩;obtain⟨m,hm⟩:∃m,m=min r 1:=⟨_,rfl⟩;have hqm:q+m=s.size:=by omega
 have n1:decide ((n:Int)<0)=false:=decide_eq_false (by omega);have e1:(n:Int).tdiv 8=(q:Int):=by rw[Int.tdiv_eq_ediv_of_nonneg (by omega)];omega
 have e2:(n:Int).tmod 8=(r:Int):=by rw[Int.tmod_eq_emod_of_nonneg (by omega)];omega
 have e3:min (r:Int) 1=(m:Int):=by omega
 have e3':(if(1:Int)<(r:Int) then(1:Int) else(r:Int))=(m:Int):=by split<;>omega
 have hs8:n<=8*s.size:=by omega
 have hsm:s.size<=125001:=by omega
 have hq6:q<=125001:=by omega
 clear hq hr hm hsz;have b1:(q:Int)+(m:Int)=(s.size:Int):=by omega
 have b2:(s.size:Int)<=125001:=by omega
 have b3:(q:Int)<=125001:=by omega
 have e4:aI.wrap ((q:Int)+(m:Int))=(s.size:Int):=by rw[b1];exact JA (by omega) (by omega)
 have m1:aI.wrap (8*(s.size:Int))=8*(s.size:Int):=JA (by clear e4;omega) (by clear e4;omega);have f1:wrap64 (q:Int)=(q:Int):=IZ (by clear e4 m1;omega) (by clear e4 m1;omega);have f2:wrap64 ((q:Int)+(m:Int))=(s.size:Int):=by rw[b1];exact IZ (by clear e4 m1 f1;omega) (by clear e4 m1 f1;omega)
 clear b1 b2 b3 hq6;clear hqm;go_enter Tryz.func117,Tryz.ntmps117;go_wp2_with fail;clear f1 f2 e4 e1 e2 e3 e3';have hQ:=Arr.new w 77 [.string s,.int .i64 (n:Int)];have hB0:Below w.heap.size w (w.alloc (.cells #[.string s,.int .i64 (n:Int)] 77)):=bD (aB _ _) _;change Arr (w.alloc (.cells #[.string s,.int .i64 (n:Int)] 77)) _ _ _ at hQ;generalize w.alloc (.cells #[.string s,.int .i64 (n:Int)] 77)=w0 at*
 go_loopg [3] (8*s.size-n) (fun g s3 wr=>∃k:Nat,n<=k/\k<=8*s.size/\g=8*s.size-k/\s3=.int .i64 (k:Int)/\wr=w0)
 case atStart=>exact⟨n,by omega,hs8,rfl,rfl,rfl⟩
 case round=>
  obtain⟨k,hnk,hk,hg,rfl,rfl⟩:=hrel;have HG:=hid hg;clear hg;have c0:=hQ.cell (i:=0) rfl;have c1:=hQ.cell (i:=1) rfl
  by_cases hlt:k<8*s.size
  ·have t1:decide ((k:Int)<8*(s.size:Int))=true:=decide_eq_true (by omega);go_wp2_with fail;refine(IW s k _ hlt (by omega)).mono ?_;rintro e w1 ⟨rfl,rfl⟩;rw[HB.out k hnk];have z:((sS false:Nat):Int)=0:=rfl;rw[z];go_wp2_with fail;have hg:=HG.out
   go_roundg (8*s.size-(k+1))
   case measure=>omega
   case rel=>exact⟨k+1,by omega,by omega,rfl,by go_num,rfl⟩
  ·have t1:decide ((k:Int)<8*(s.size:Int))=false:=decide_eq_false (by omega);go_wp2_with fail;go_ret;exact⟨rfl,hB0⟩
theorem WrS.below {w w':World} {p B:Nat} {l:List Bool} (h:WrS w p B l) (hb:Below w.heap.size w w'):WrS w' p B l:=by
 obtain⟨v,hA,ho⟩:=h;exact⟨v,hA.below hb hA.lt,Ow.below ho hb (aA _)⟩
theorem WrS.alloc {w:World} {p B:Nat} {l:List Bool} (h:WrS w p B l) (o:Obj):WrS (w.alloc o) p B l:=by
 obtain⟨v,hA,ho⟩:=h;exact⟨v,hA.alloc o,Ow.alloc ho o⟩
theorem WrS.lt {w:World} {p B:Nat} {l:List Bool} (h:WrS w p B l):p<w.heap.size:=by
 obtain⟨v,hA,_⟩:=h;exact hA.lt
theorem PV (p B:Nat) (l m:List Bool) (w:World) (h:WrS w p B l) (hp:p<B) (hB:B<=w.heap.size) (hl:l.length+m.length<=1000000):
  Calls Tryz.prog 79 #[.pointer (some ⟨p,0,none⟩),.agg #[.string (mkS (aD m)),.int .i64 (m.length:Int)]] w fun e w'=>e=.returned (.tuple #[])/\WrS w' p B (l++m)/\Below p w w'/\nU w w':=by
 have hsz:(mkS (aD m)).size=(m.length+7)/8:=by rw[cP,gY]
 have hpl:=h.lt;go_enter Tryz.func79,Tryz.ntmps79;go_wp2_with fail;have hQ:=Arr.new w 77 [.string (mkS (aD m)),.int .i64 (m.length:Int)];have hB0:Below w.heap.size w (w.alloc (.cells #[.string (mkS (aD m)),.int .i64 (m.length:Int)] 77)):=bD (aB _ _) _;have hW:=h.alloc (.cells #[.string (mkS (aD m)),.int .i64 (m.length:Int)] 77);change Arr (w.alloc (.cells #[.string (mkS (aD m)),.int .i64 (m.length:Int)] 77)) _ _ _ at hQ;generalize w.alloc (.cells #[.string (mkS (aD m)),.int .i64 (m.length:Int)] 77)=w0 at*
 refine(aEe m w0 (by omega)).mono ?_;rintro e w1 ⟨rfl,h1⟩;have hQ1:=hQ.below h1 hQ.lt;have hW1:=hW.below h1;have hB1:=bV hB0 h1;have hK1:nU w w1:=fun g' cs' hg'=>hg'.below hB1 hg'.lt
 have c0:=hQ1.cell (i:=0) rfl;have c1:=hQ1.cell (i:=1) rfl;clear hQ hW hB0 h1 h;have hs8:m.length<=8*(mkS (aD m)).size:=by omega
 have hs9:(mkS (aD m)).size<=140737488355328:=by omega
 have HB:=hid (fun k (hk:k<m.length)=>show dI (mkS (aD m)).data.toList k=m[k] by rw[fW,sO,aV,aN hk];rfl);obtain⟨s,hs⟩:∃s,s=mkS (aD m):=⟨_,rfl⟩;rw[<-hs] at c0 HB hs8 hs9 hQ1 ⊢;clear hs hsz;go_wp2_with fail
 go_loopg [4,12] m.length (fun g _s4 x12 wr=>∃k:Nat,k<=m.length/\g=m.length-k/\x12=.int .i64 (k:Int)/\WrS wr p B (l++m.take k)/\Below p w wr/\nU w wr/\Arr wr w.heap.size 77 [.string s,.int .i64 (m.length:Int)])
 case atStart=>exact⟨0,aU _,rfl,rfl,by rw[List.take_zero,eE];exact hW1,hB1.mono (by omega),hK1,hQ1⟩
 case round=>
  obtain⟨k,hk,hg,rfl,hw,hbel,hkp,hq⟩:=hrel;have HG:=hid hg;clear hg c0 c1;have c0:=hq.cell (i:=0) rfl
  by_cases hlt:k<m.length
  ·have t1:decide ((k:Int)<(m.length:Int))=true:=decide_eq_true (by omega);have hbs:=hbel.size;have hlen:(l++m.take k).length<=1000000:=by rw[aL,List.length_take];omega
   have HT:=hid (show m.take (k+1)=m.take k++[m[k]] by rw[cQ,aN hlt];rfl);obtain⟨b,hb⟩:∃b,b=m[k]:=⟨_,rfl⟩;have hbit:=HB.out k hlt;rw[<-hb] at hbit;have hcall:=PU p B _ b wr hw hp (by omega) hlen;have HBb:=hid hb;have hq8:k<8*s.size:=by omega
   clear hb;go_wp2_with fail;refine(IW s k _ hq8 hs9).mono ?_;rintro e w2 ⟨rfl,rfl⟩;rw[hbit]
   cases b with
   |true=>
    have z:((sS true:Nat):Int)=128:=rfl;rw[z];go_wp2_with fail;refine hcall.mono ?_;rintro e w3 ⟨rfl,k1,k2,k3⟩;go_wp2_with fail;have hg:=HG.out
    go_roundg (m.length-(k+1))
    case measure=>omega
    case rel=>exact⟨k+1,by omega,rfl,by go_num,by rw[HT.out,<-cF,<-HBb.out];exact k1,hbel.trans k2,fun g' cs' hg'=>k3 g' cs' (hkp g' cs' hg'),k3 _ _ hq⟩
   |false=>
    have z:((sS false:Nat):Int)=0:=rfl;rw[z];go_wp2_with fail;refine hcall.mono ?_;rintro e w3 ⟨rfl,k1,k2,k3⟩;go_wp2_with fail;have hg:=HG.out
    go_roundg (m.length-(k+1))
    case measure=>omega
    case rel=>exact⟨k+1,by omega,rfl,by go_num,by rw[HT.out,<-cF,<-HBb.out];exact k1,hbel.trans k2,fun g' cs' hg'=>k3 g' cs' (hkp g' cs' hg'),k3 _ _ hq⟩
  ·have t1:decide ((k:Int)<(m.length:Int))=false:=decide_eq_false (by omega);rw[cS (by omega)] at hw;go_wp2_with fail
   go_end0
   exact⟨rfl,hw,hbel,hkp⟩
end
section
open Go.RowKit Go Go.Shelf
def eL (l:List Bool):Value:=.agg #[.string (mkS (aD l)),.int .i64 (l.length:Int)]
theorem aEf {P:gD} {fn:Func} {p q:Tmp} {ty tz:TypeId} (h:fn.results=#[.cell p ty,.cell q tz]) (tmps:Array Value) (w:World) (g:Nat) (t:TypeId) (cs:Array Value) (fr:Nat×Nat) (d:TypeDesc)
  (hp:tmps.getD p undef=.pointer (some ⟨g,0,none⟩)) (hg:w.heap[g]? =some (.cells cs t fr))
  (hu:P.underlying ty=some d) (hd:(match d with|.struct _|.array _ _=>true|_=>false)=true) (hi:(P.info? ty).map (·.size)=some cs.size)
  (b:Addr) (v:Value) (hq:tmps.getD q undef=.pointer (some b)) (hv:(loadVar tz b).run P w=.ok v w):
  (results fn tmps).run P w=.ok (.tuple #[.agg cs,v]) w:=by
 have hp':tmps[p]?.getD undef=.pointer (some ⟨g,0,none⟩):=by simpa using hp
 have hq':tmps[q]?.getD undef=.pointer (some b):=by simpa using hq
 simp[results,h,hp',hq',asAddr,NT w g t ty cs fr d hg hu hd hi,hv,jB]
theorem qH {P:gD} {fn:Func} {p u:Tmp} {ty:TypeId} (h:fn.results=#[.cell p ty,.tmp u]) (tmps:Array Value) (w:World) (g:Nat) (t:TypeId) (cs:Array Value) (fr:Nat×Nat) (d:TypeDesc)
  (hp:tmps.getD p undef=.pointer (some ⟨g,0,none⟩)) (hg:w.heap[g]? =some (.cells cs t fr))
  (hu:P.underlying ty=some d) (hd:(match d with|.struct _|.array _ _=>true|_=>false)=true) (hi:(P.info? ty).map (·.size)=some cs.size):
  (results fn tmps).run P w=.ok (.tuple #[.agg cs,tmps.getD u undef]) w:=by
 rw[results_cell_tmp h,hp];simp[asAddr,jB,NT w g t ty cs fr d hg hu hd hi]
theorem aEg (p q:Addr) (w:World):
  CallsD Tryz.prog 116 #[.pointer (some p),.pointer (some q)] .returning w fun e u' w'=>e=.returned (.tuple #[])/\u'=.returning/\w'=w:=by
 refine callsD_of_wpS Tryz.func116 rfl fun c₀ cs hu=>?_
 apply wpS_seq;apply wpS_region;simp[wpOpsS,go_sem,recoverD,hu,Tryz.ntmps116,Exit.thenS];refine wpS_of_wp ?_;go_wp2
 cases c₀
 simp_all [bodyPostS,results,Tryz.f116]
def aEh (w0:World) (g:Nat) (caps:Array Value) (l:List Bool):Prop:=
 ∀W p B,Below w0.heap.size w0 W->w0.heap.size<=p->p<B->B<=W.heap.size->WrS W p B []->
  Calls Tryz.prog g (#[.pointer (some ⟨p,0,none⟩)]++caps) W fun e W'=>e=.returned (.tuple #[])/\WrS W' p B l/\Below p W W'/\nU W W'
theorem PW (g:Nat) (caps:Array Value) (l:List Bool) (w:World) (hg:Enters Tryz.prog g) (hdo:aEh w g caps l) (_hl:l.length<=1000000):
  Calls Tryz.prog 77 #[.func (.func g) #[] caps] w fun e w'=>e=.returned (.tuple #[eL l,.int .i64 0])/\Below w.heap.size w w':=by
 have hmf:∀(fn:Fn) (first cap:Array Value) (w:World),(vJ fn first cap).run Tryz.prog w=.ok (.func fn first cap) w:=fun _ _ _ _=>rfl
 have hE:∀args W,(callFunc g args).run Tryz.prog W=.ok (.enter g args) W:=hg;have HD:=hid hdo;clear hdo hg
 go_enter_defers Tryz.func77,Tryz.ntmps77
 go_wp2_with fail;have k0:Arr ((w.alloc (.cells #[.string ⟨#[]⟩,.int .i64 0] 77)).alloc (.cells #[.int .i64 0] 26)) w.heap.size 77 [.string ⟨#[]⟩,.int .i64 0]:=(Arr.new w 77 [.string ⟨#[]⟩,.int .i64 0]).alloc _;have k1:=Arr.new (w.alloc (.cells #[.string ⟨#[]⟩,.int .i64 0] 77)) 26 [.int .i64 0];have k2:=Arr.new ((w.alloc (.cells #[.string ⟨#[]⟩,.int .i64 0] 77)).alloc (.cells #[.int .i64 0] 26)) 184 [.slice none 0 0,.int .i64 0]
 have hB0:Below w.heap.size w (((w.alloc (.cells #[.string ⟨#[]⟩,.int .i64 0] 77)).alloc (.cells #[.int .i64 0] 26)).alloc (.cells #[.slice none 0 0,.int .i64 0] 184)):=
  (((aB _ w).alloc (aA _) _).alloc (by simp) _).alloc (by simp;omega) _
 have hs0:(((w.alloc (.cells #[.string ⟨#[]⟩,.int .i64 0] 77)).alloc (.cells #[.int .i64 0] 26)).alloc (.cells #[.slice none 0 0,.int .i64 0] 184)).heap.size=w.heap.size+1+1+1:=by simp
 have h0:=k0.alloc (.cells #[.slice none 0 0,.int .i64 0] 184);have h1:=k1.alloc (.cells #[.slice none 0 0,.int .i64 0] 184);rw[fV] at h1;rw[fV,fV] at k2;clear k0 k1;change Arr (((w.alloc (.cells #[.string ⟨#[]⟩,.int .i64 0] 77)).alloc (.cells #[.int .i64 0] 26)).alloc (.cells #[.slice none 0 0,.int .i64 0] 184)) _ _ _ at k2;change Arr (((w.alloc (.cells #[.string ⟨#[]⟩,.int .i64 0] 77)).alloc (.cells #[.int .i64 0] 26)).alloc (.cells #[.slice none 0 0,.int .i64 0] 184)) _ _ _ at h1
 generalize (((w.alloc (.cells #[.string ⟨#[]⟩,.int .i64 0] 77)).alloc (.cells #[.int .i64 0] 26)).alloc (.cells #[.slice none 0 0,.int .i64 0] 184))=w0 at*
 refine(HD.out w0 (w.heap.size+1+1) (w.heap.size+1+1+1) hB0 (by omega) (by omega) (by omega) ⟨_,k2,Ow.nil _ _ _⟩).mono ?_;rintro e w1 ⟨rfl,⟨v,hA,ho⟩,hb,_⟩;have h0':=h0.below hb (by omega);have h1':=h1.below hb (by omega);have hB1:=hB0.trans (hb.mono (by omega));clear h0 h1 k2 hb hB0 hs0 HD;obtain⟨a,n,c,rfl,HN,hc1,hc2⟩:=ho.openN;have hcv:(convert 75 9 (.slice a n c)).run Tryz.prog w1=.ok (.string (mkS (aD l))) w1:=lQ ho.rd;have c0:=hA.cell (i:=0) rfl;have c1:=hA.cell (i:=1) rfl;have f0:=h0'.free 0;have f1:=h0'.free 1;have g0:=h1'.free 0;have d0:=h0'.cell (i:=0) rfl
 have d1:=h0'.cell (i:=1) rfl;have d2:=h1'.cell (i:=0) rfl;clear ho hA;go_wp2_with fail;refine leaves_cons (f:=116) (args:=#[.pointer (some ⟨w.heap.size,0,none⟩),.pointer (some ⟨w.heap.size+1,0,none⟩)]) (by simp) (by simp[go_sem]) ?_;refine(aEg ⟨w.heap.size,0,none⟩ ⟨w.heap.size+1,0,none⟩ _).mono ?_;rintro e u' w'' ⟨rfl,rfl,rfl⟩;have z0:Arr (((w1.setCell ⟨w.heap.size,0,none⟩ (.string (mkS (aD l)))).setCell ⟨w.heap.size,1,none⟩ (.int .i64 (l.length:Int))).setCell ⟨w.heap.size+1,0,none⟩ (.int .i64 0)) w.heap.size 77 [.string (mkS (aD l)),.int .i64 (l.length:Int)]:=
  ((h0'.set 0 _).set 1 _).other ⟨w.heap.size+1,0,none⟩ (by simp) _
 have z1:Arr (((w1.setCell ⟨w.heap.size,0,none⟩ (.string (mkS (aD l)))).setCell ⟨w.heap.size,1,none⟩ (.int .i64 (l.length:Int))).setCell ⟨w.heap.size+1,0,none⟩ (.int .i64 0)) (w.heap.size+1) 26 [.int .i64 0]:=
  ((h1'.other ⟨w.heap.size,0,none⟩ (by simp) _).other ⟨w.heap.size,1,none⟩ (by simp) _).set 0 _
 have hB2:Below w.heap.size w (((w1.setCell ⟨w.heap.size,0,none⟩ (.string (mkS (aD l)))).setCell ⟨w.heap.size,1,none⟩ (.int .i64 (l.length:Int))).setCell ⟨w.heap.size+1,0,none⟩ (.int .i64 0)):=
  ((hB1.setCell (p:=⟨w.heap.size,0,none⟩) (aA _) _).setCell (p:=⟨w.heap.size,1,none⟩) (aA _) _).setCell (p:=⟨w.heap.size+1,0,none⟩) (Nat.le_succ _) _
 have z2:=z1.cell (i:=0) rfl;generalize ((w1.setCell ⟨w.heap.size,0,none⟩ (.string (mkS (aD l)))).setCell ⟨w.heap.size,1,none⟩ (.int .i64 (l.length:Int))).setCell ⟨w.heap.size+1,0,none⟩ (.int .i64 0)=w2 at*
 refine⟨_,aEf rfl _ _ w.heap.size _ _ (0,0) _ rfl z0 Tryz.underlying77 rfl mF ⟨w.heap.size+1,0,none⟩ (.int .i64 0) rfl (by simp[go_sem,z2]),rfl,hB2⟩
theorem aEi (bb bv bn:Nat) (l:List Bool) (v n:Nat) (W:World) (p B:Nat) (h1:Arr W bb 77 [.string (mkS (aD l)),.int .i64 (l.length:Int)]) (h2:W.cell? ⟨bv,0,none⟩=some (.int .u64 (v:Int))) (h3:W.cell? ⟨bn,0,none⟩=some (.int .i64 (n:Int)))
  (hbv:bv<p) (hbn:bn<p) (hv:v<18446744073709551616) (hn:n<=64) (hl:l.length<=900000) (hp:p<B) (hB:B<=W.heap.size) (hw:WrS W p B []):
  Calls Tryz.prog 78 #[.pointer (some ⟨p,0,none⟩),.pointer (some ⟨bb,0,none⟩),.pointer (some ⟨bv,0,none⟩),.pointer (some ⟨bn,0,none⟩)] W fun e W'=>e=.returned (.tuple #[])/\WrS W' p B (l++aY v n)/\Below p W W'/\nU W W':=by
 have c0:=h1.cell (i:=0) rfl;have c1:=h1.cell (i:=1) rfl;have hcall:=PV p B [] l W hw hp hB (by simp;omega);rw[List.nil_append] at hcall;clear hw;go_enter Tryz.func78,Tryz.ntmps78;go_wp2_with fail;refine hcall.mono ?_;rintro e w1 ⟨rfl,k1,k2,k3⟩;have c2:=(k2.cell (p:=⟨bv,0,none⟩) hbv).trans h2;have c3:=(k2.cell (p:=⟨bn,0,none⟩) hbn).trans h3;have hcall2:=aEd p B l v n w1 k1 hp (by have:=k2.size;omega) (by omega) hv hn;go_wp2_with fail;refine hcall2.mono ?_;rintro e w2 ⟨rfl,j1,j2,j3⟩;go_wp2_with fail
 go_end0
 exact⟨rfl,j1,k2.trans j2,fun g cs hg=>j3 g cs (k3 g cs hg)⟩
theorem uH (l:List Bool) (v n:Nat) (w:World) (hv:v<18446744073709551616) (hn:n<=64) (hl:l.length<=900000):
  Calls Tryz.prog 44 #[eL l,.int .u64 (v:Int),.int .i64 (n:Int)] w fun e w'=>e=.returned (.tuple #[eL (l++aY v n),.int .i64 0])/\Below w.heap.size w w':=by
 have hmf:∀(fn:Fn) (first cap:Array Value) (w:World),(vJ fn first cap).run Tryz.prog w=.ok (.func fn first cap) w:=fun _ _ _ _=>rfl
 unfold eL;go_enter Tryz.func44,Tryz.ntmps44;go_wp2_with fail;have hB0:Below w.heap.size w ((((w.alloc (.cells #[.string (mkS (aD l)),.int .i64 (l.length:Int)] 77)).alloc (.cells #[.int .u64 (v:Int)] 46)).alloc (.cells #[.int .i64 (n:Int)] 3)).alloc (.cells #[.string ⟨#[]⟩,.int .i64 0] 77)):=
  ((((aB _ w).alloc (aA _) _).alloc (by simp) _).alloc (by simp;omega) _).alloc (by simp;omega) _
 have hs0:((((w.alloc (.cells #[.string (mkS (aD l)),.int .i64 (l.length:Int)] 77)).alloc (.cells #[.int .u64 (v:Int)] 46)).alloc (.cells #[.int .i64 (n:Int)] 3)).alloc (.cells #[.string ⟨#[]⟩,.int .i64 0] 77)).heap.size=w.heap.size+1+1+1+1:=by simp
 have k0:=(((Arr.new w 77 [.string (mkS (aD l)),.int .i64 (l.length:Int)]).alloc (.cells #[.int .u64 (v:Int)] 46)).alloc (.cells #[.int .i64 (n:Int)] 3)).alloc (.cells #[.string ⟨#[]⟩,.int .i64 0] 77);have k1:=((Arr.new (w.alloc (.cells #[.string (mkS (aD l)),.int .i64 (l.length:Int)] 77)) 46 [.int .u64 (v:Int)]).alloc (.cells #[.int .i64 (n:Int)] 3)).alloc (.cells #[.string ⟨#[]⟩,.int .i64 0] 77)
 have k2:=(Arr.new ((w.alloc (.cells #[.string (mkS (aD l)),.int .i64 (l.length:Int)] 77)).alloc (.cells #[.int .u64 (v:Int)] 46)) 3 [.int .i64 (n:Int)]).alloc (.cells #[.string ⟨#[]⟩,.int .i64 0] 77);have k3:=Arr.new (((w.alloc (.cells #[.string (mkS (aD l)),.int .i64 (l.length:Int)] 77)).alloc (.cells #[.int .u64 (v:Int)] 46)).alloc (.cells #[.int .i64 (n:Int)] 3)) 77 [.string ⟨#[]⟩,.int .i64 0];simp only[fV] at k1 k2 k3
 change Arr ((((w.alloc (.cells #[.string (mkS (aD l)),.int .i64 (l.length:Int)] 77)).alloc (.cells #[.int .u64 (v:Int)] 46)).alloc (.cells #[.int .i64 (n:Int)] 3)).alloc (.cells #[.string ⟨#[]⟩,.int .i64 0] 77)) _ _ _ at k0;change Arr ((((w.alloc (.cells #[.string (mkS (aD l)),.int .i64 (l.length:Int)] 77)).alloc (.cells #[.int .u64 (v:Int)] 46)).alloc (.cells #[.int .i64 (n:Int)] 3)).alloc (.cells #[.string ⟨#[]⟩,.int .i64 0] 77)) _ _ _ at k1
 change Arr ((((w.alloc (.cells #[.string (mkS (aD l)),.int .i64 (l.length:Int)] 77)).alloc (.cells #[.int .u64 (v:Int)] 46)).alloc (.cells #[.int .i64 (n:Int)] 3)).alloc (.cells #[.string ⟨#[]⟩,.int .i64 0] 77)) _ _ _ at k2;change Arr ((((w.alloc (.cells #[.string (mkS (aD l)),.int .i64 (l.length:Int)] 77)).alloc (.cells #[.int .u64 (v:Int)] 46)).alloc (.cells #[.int .i64 (n:Int)] 3)).alloc (.cells #[.string ⟨#[]⟩,.int .i64 0] 77)) _ _ _ at k3
 generalize ((((w.alloc (.cells #[.string (mkS (aD l)),.int .i64 (l.length:Int)] 77)).alloc (.cells #[.int .u64 (v:Int)] 46)).alloc (.cells #[.int .i64 (n:Int)] 3)).alloc (.cells #[.string ⟨#[]⟩,.int .i64 0] 77))=w0 at*
 refine(PW 78 #[.pointer (some ⟨w.heap.size,0,none⟩),.pointer (some ⟨w.heap.size+1,0,none⟩),.pointer (some ⟨w.heap.size+1+1,0,none⟩)] (l++aY v n) w0 (enters_of Tryz.func78 (by kernel_rfl) rfl) ?_ (by rw[aL,cY];omega)).mono ?_
 ·intro W p B hW hp hpB hBW hWr;exact aEi w.heap.size (w.heap.size+1) (w.heap.size+1+1) l v n W p B (k0.below hW k0.lt) ((k1.below hW k1.lt).cell (i:=0) rfl) ((k2.below hW k2.lt).cell (i:=0) rfl) (by omega) (by omega) hv hn hl hpB hBW hWr
 rintro e w1 ⟨rfl,hb⟩;have h3:=k3.below hb k3.lt;have hB1:=bV hB0 hb;have f0:=h3.free 0;have f1:=h3.free 1;have d0:=h3.cell (i:=0) rfl;have d1:=h3.cell (i:=1) rfl;clear k0 k1 k2 k3 hb hB0 hs0;unfold eL;generalize hm:l++aY v n=m at*
 have HM:=hid hm;clear hm;go_wp2_with fail;have z0:Arr ((w1.setCell ⟨w.heap.size+1+1+1,0,none⟩ (.string (mkS (aD m)))).setCell ⟨w.heap.size+1+1+1,1,none⟩ (.int .i64 (m.length:Int))) (w.heap.size+1+1+1) 77 [.string (mkS (aD m)),.int .i64 (m.length:Int)]:=(h3.set 0 _).set 1 _
 exact gJ (qH rfl _ _ (w.heap.size+1+1+1) _ _ (0,0) _ rfl z0 Tryz.underlying77 rfl mF) rfl ⟨by rw[HM.out];rfl,(hB1.setCell (p:=⟨w.heap.size+1+1+1,0,none⟩) (by show w.heap.size<=w.heap.size+1+1+1;omega) _).setCell (p:=⟨w.heap.size+1+1+1,1,none⟩) (by show w.heap.size<=w.heap.size+1+1+1;omega) _⟩
def qI (w:World) (v:Value) (ls:List (List Bool)):Prop:=
 ∃a cap,v=.slice a ls.length cap/\ls.length<=cap/\cap<=maxLen/\
  (0<ls.length->∃b off,a=some ⟨b,off,none⟩/\b<w.heap.size/\∀j l,ls[j]? =some l->w.cell? ⟨b,off+j*2,none⟩=some (.string (mkS (aD l)))/\w.cell? ⟨b,off+j*2+1,none⟩=some (.int .i64 (l.length:Int)))
theorem qI.below {w w':World} {v:Value} {l:List (List Bool)} (h:qI w v l) (hb:Below w.heap.size w w'):qI w' v l:=by
 obtain⟨a,cap,rfl,h1,h2,h3⟩:=h;refine⟨a,cap,rfl,h1,h2,fun h=>?_⟩;obtain⟨b,off,rfl,hlt,hc⟩:=h3 h;exact⟨b,off,rfl,dR hlt hb.size,fun j p hp=>by rw[(lP hb).1 _ _ hlt,(lP hb).1 _ _ hlt];exact hc j p hp⟩
theorem aEj (bs:Nat) (v:Value) (ls:List (List Bool)) (w0 W:World) (p B:Nat) (hr:qI w0 v ls) (h1:W.cell? ⟨bs,0,none⟩=some v) (hW:Below w0.heap.size w0 W)
  (_hbs:bs<p) (h0p:w0.heap.size<=p) (hl:ls.flatten.length<=900000) (hp:p<B) (hB:B<=W.heap.size) (hw:WrS W p B []):
  Calls Tryz.prog 81 #[.pointer (some ⟨p,0,none⟩),.pointer (some ⟨bs,0,none⟩)] W fun e W'=>e=.returned (.tuple #[])/\WrS W' p B ls.flatten/\Below p W W'/\nU W W':=by
 obtain⟨a,cap,rfl,hn1,hn2,hA⟩:=hr;unfold maxLen at hn2;go_enter Tryz.func81,Tryz.ntmps81;go_wp2_with fail
 go_loopg [7,4] ls.length (fun g s7 _s4 wr=>∃k:Nat,k<=ls.length/\g=ls.length-k/\s7=.int .i64 (k:Int)/\WrS wr p B (ls.take k).flatten/\Below p W wr/\nU W wr)
 case atStart=>exact⟨0,aU _,rfl,rfl,by simpa using hw,aB _ _,fun _ _ h=>h⟩
 case round=>
  obtain⟨k,hk,hg,rfl,hwr,hbel,hkp⟩:=hrel;have HG:=hid hg;clear hg
  by_cases hlt:k<ls.length
  ·have t1:decide ((k:Int)<(ls.length:Int))=true:=decide_eq_true (by omega);obtain⟨b,off,rfl,hb,hc⟩:=hA (by omega);obtain⟨l,hx⟩:∃l,ls[k]? =some l:=⟨_,aN hlt⟩;obtain⟨x0,x1⟩:=hc k l hx;have hbs:=hbel.size;have c0:=(hbel.cell (p:=⟨b,off+k*2,none⟩) (dR hb h0p)).trans ((hW.cell (p:=⟨b,off+k*2,none⟩) hb).trans x0);have c1:=(hbel.cell (p:=⟨b,off+k*2+1,none⟩) (dR hb h0p)).trans ((hW.cell (p:=⟨b,off+k*2+1,none⟩) hb).trans x1);have HT:=hid (show(ls.take (k+1)).flatten=(ls.take k).flatten++l by rw[cQ,hx];simp)
   have hlen:(ls.take k).flatten.length+l.length<=900000:=by
    have:ls.flatten=(ls.take (k+1)).flatten++(ls.drop (k+1)).flatten:=by rw[<-List.flatten_append,jE]
    have h2:=congrArg List.length this;rw[HT.out,aL,aL] at h2;omega
   clear hx hc hA x0 x1 h1;have hcall:=PV p B (ls.take k).flatten l (wr.alloc (.cells #[.string (mkS (aD l)),.int .i64 (l.length:Int)] 77)) (hwr.alloc _) hp (by simp;omega) (by omega);go_wp2_with fail;refine hcall.mono ?_;rintro e w2 ⟨rfl,k1,k2,k3⟩;go_wp2_with fail;have hg:=HG.out
   go_roundg (ls.length-(k+1))
   case measure=>omega
   case rel=>exact⟨k+1,by omega,rfl,by go_num,by rw[HT.out];exact k1,(hbel.alloc (by omega) _).trans k2,fun g cs hg'=>k3 g cs ((hkp g cs hg').alloc _)⟩
  ·have t1:decide ((k:Int)<(ls.length:Int))=false:=decide_eq_false (by omega);rw[cS (by omega)] at hwr;go_wp2_with fail
   go_end0
   exact⟨rfl,hwr,hbel,hkp⟩
theorem CF (v:Value) (ls:List (List Bool)) (w:World) (hr:qI w v ls) (hl:ls.flatten.length<=900000):
  Calls Tryz.prog 45 #[v] w fun e w'=>e=.returned (.tuple #[eL ls.flatten,.int .i64 0])/\Below w.heap.size w w':=by
 have hmf:∀(fn:Fn) (first cap:Array Value) (w:World),(vJ fn first cap).run Tryz.prog w=.ok (.func fn first cap) w:=fun _ _ _ _=>rfl
 obtain⟨a,cap,rfl,hn1,hn2,hA⟩:=hr;have hr:qI w (.slice a ls.length cap) ls:=⟨a,cap,rfl,hn1,hn2,hA⟩;clear hA;go_enter Tryz.func45,Tryz.ntmps45;go_wp2_with fail;have hB0:Below w.heap.size w ((w.alloc (.cells #[.slice a ls.length cap] 78)).alloc (.cells #[.string ⟨#[]⟩,.int .i64 0] 77)):=((aB _ w).alloc (aA _) _).alloc (by simp) _;have hs0:((w.alloc (.cells #[.slice a ls.length cap] 78)).alloc (.cells #[.string ⟨#[]⟩,.int .i64 0] 77)).heap.size=w.heap.size+1+1:=by simp
 have k0:=(Arr.new w 78 [.slice a ls.length cap]).alloc (.cells #[.string ⟨#[]⟩,.int .i64 0] 77);have k3:=Arr.new (w.alloc (.cells #[.slice a ls.length cap] 78)) 77 [.string ⟨#[]⟩,.int .i64 0];simp only[fV] at k3;change Arr ((w.alloc (.cells #[.slice a ls.length cap] 78)).alloc (.cells #[.string ⟨#[]⟩,.int .i64 0] 77)) _ _ _ at k0;change Arr ((w.alloc (.cells #[.slice a ls.length cap] 78)).alloc (.cells #[.string ⟨#[]⟩,.int .i64 0] 77)) _ _ _ at k3;have hr0:=hr.below hB0
 generalize ((w.alloc (.cells #[.slice a ls.length cap] 78)).alloc (.cells #[.string ⟨#[]⟩,.int .i64 0] 77))=w0 at*
 refine(PW 81 #[.pointer (some ⟨w.heap.size,0,none⟩)] ls.flatten w0 (enters_of Tryz.func81 (by kernel_rfl) rfl) ?_ (by omega)).mono ?_
 ·intro W p B hW hp hpB hBW hWr;exact aEj w.heap.size _ ls w0 W p B hr0 ((k0.below hW k0.lt).cell (i:=0) rfl) hW (by omega) hp hl hpB hBW hWr
 rintro e w1 ⟨rfl,hb⟩;have h3:=k3.below hb k3.lt;have hB1:=bV hB0 hb;have f0:=h3.free 0;have f1:=h3.free 1;have d0:=h3.cell (i:=0) rfl;have d1:=h3.cell (i:=1) rfl;clear k0 k3 hb hB0 hs0 hr0;unfold eL;generalize hm:ls.flatten=m at*
 have HM:=hid hm;clear hm;go_wp2_with fail;have z0:Arr ((w1.setCell ⟨w.heap.size+1,0,none⟩ (.string (mkS (aD m)))).setCell ⟨w.heap.size+1,1,none⟩ (.int .i64 (m.length:Int))) (w.heap.size+1) 77 [.string (mkS (aD m)),.int .i64 (m.length:Int)]:=(h3.set 0 _).set 1 _;exact gJ (qH rfl _ _ (w.heap.size+1) _ _ (0,0) _ rfl z0 Tryz.underlying77 rfl mF) rfl ⟨by rw[HM.out];rfl,(hB1.setCell (p:=⟨w.heap.size+1,0,none⟩) (by show w.heap.size<=w.heap.size+1;omega) _).setCell (p:=⟨w.heap.size+1,1,none⟩) (by show w.heap.size<=w.heap.size+1;omega) _⟩
theorem kG {ops:Array Oper} {rest:List Oper} {o:Oper} {a:Act} {Q:Exit->Act->World->Prop} {w:World} (hgd:o.guard=none) (s x:iM)
  (ho:o.op=.call {callee:=.builtin .append,args:=#[s,x],argTypes:=#[39,39]}) (base:Nat) (v:Value) (l m:List Int) (hs:a.eval s=v) (hown:OwI w base v l)
  (u:Value) (hx:a.eval x=u) (hr:RdI w u m) (hm:0<m.length) (hroom:(l.length+m.length)*8<=140737488355328) (hbase:base<=w.heap.size)
  (h:∀v' w',OwI w' base v' (l++m)->Below base w w'->w.grownBy w' v.ownBlock->(v'.ownBlock=v.ownBlock\/v'.ownBlock=some w.heap.size)->wpList Tryz.prog ops Q rest (a.put o.dst v') w'):wpList Tryz.prog ops Q (o::rest) a w:=by
 obtain⟨i,hi,hz,h2,h3⟩:=gL.info;obtain⟨ad,c,rfl,hc1,hc2,hA⟩:=hr.open;obtain⟨b,off,rfl,hb,hcell⟩:=hA hm;refine wpList_append_own_at w hgd s x 39 ho base 3 i (.int .i64 0) 1 8 Tryz.underlying39 hi hz h2 h3 rfl (by decide) v (l.map (bO .i64)).length (l.map (bO .i64)) hs hown ⟨b,off,none⟩ m.length c (m.map (bO .i64)) hx (by simp)
  (fun j u' hj=>?_) (fun u' hu=>?_) (by simp only[maxLen,bJ];omega) (by simpa using hroom) hbase (fun v' w' q1 q2 _ q4=>h v' w' ?_ (rC hown q2 hbase) q2 q4)
 ·rw[dY] at hj
  cases e:m[j]? with
  |none=>rw[e] at hj;simp at hj
  |some y=>
   rw[e] at hj;simp at hj;rw[show(⟨b,off,none⟩:Addr).add j=⟨b,off+j,none⟩ by unfold iN;split<;>simp_all,hcell j y e,<-hj]
 ·obtain⟨y,_,rfl⟩:=dU.1 hu;rfl
 ·unfold OwI Ow;rw[List.map_append,aL]
  simpa using q1
def kH (l:List Bool):List Value:=[.string (mkS (aD l)),.int .i64 (l.length:Int)]
def gG (w:World) (B:Nat) (v:Value) (ls:List (List Bool)):Prop:=w.ownsRow B 77 2 v ls.length (ls.flatMap kH)
theorem gG.nil (w:World) (B:Nat):gG w B (.slice none 0 0) []:=aBx _ _ _ _
theorem gG.alloc {w:World} {B:Nat} {v:Value} {l:List (List Bool)} (h:gG w B v l) (o:Obj):gG (w.alloc o) B v l:=aBy h o
theorem gG.below {w w':World} {B C:Nat} {v:Value} {l:List (List Bool)} (h:gG w B v l) (hb:Below C w w') (hC:w.heap.size<=C):gG w' B v l:=GZ h hb hC
theorem gG.base {w:World} {B B':Nat} {v:Value} {l:List (List Bool)} (h:gG w B v l) (hb:B'<=B):gG w B' v l:=IA h hb
theorem PX:∀(ls:List (List Bool)) (j:Nat) (l:List Bool),ls[j]? =some l->(ls.flatMap kH)[j*2]? =some (.string (mkS (aD l)))/\(ls.flatMap kH)[j*2+1]? =some (.int .i64 (l.length:Int))
 |[],j,l,h=>by simp at h
 |x::ls,0,l,h=>by
  simp at h;subst h;exact⟨rfl,rfl⟩
 |x::ls,j+1,l,h=>by
  have ih:=PX ls j l (by simpa using h);rw[sH,show(j+1)*2=j*2+2 by omega];exact⟨by rw[<-ih.1];rfl,by rw[<-ih.2];rfl⟩
theorem gG.rd {w:World} {B:Nat} {v:Value} {ls:List (List Bool)} (h:gG w B v ls):qI w v ls:=by
 obtain⟨hl,h⟩:=h;rcases h with⟨rfl,h0⟩|⟨g,cap,cur,rfl,hb,hg,hnc,hcm,hcs,ht⟩
 ·have:ls=[]:=mV.1 h0;subst this;exact⟨none,0,rfl,aA _,by simp[maxLen],fun h=>absurd h (by simp)⟩
 ·refine⟨_,cap,rfl,hnc,hcm,fun _=>⟨g,0,rfl,(gQ.1 hg).1,fun j l hj=>?_⟩⟩;obtain⟨e1,e2⟩:=PX ls j l hj;have hjl:=(eU.1 hj).1;rw[iZ,tN w g (j*2) cur _ (0,0) hg,tN w g (j*2+1) cur _ (0,0) hg];rw[<-ht,lW,if_pos (by omega)] at e1 e2;exact⟨by simpa using e1,by simpa using e2⟩
theorem JB:(Tryz.prog.info? 77).map (fun i=>(i.zero,i.size,i.bytes))=some (some (.agg #[.string ⟨#[]⟩,.int .i64 0]),2,24):=by kernel_rfl
theorem PY {ops:Array Oper} {rest:List Oper} {o:Oper} {a:Act} {Q:Exit->Act->World->Prop} {w:World} (hgd:o.guard=none) (s x:iM)
  (ho:o.op=.call {callee:=.builtin .append,args:=#[s,x],argTypes:=#[78,78]}) (base:Nat) (v:Value) (ls:List (List Bool)) (l:List Bool) (hs:a.eval s=v) (hown:gG w base v ls)
  (g:Nat) (hx:a.eval x=.slice (some ⟨g,0,none⟩) 1 1) (hc:Arr w g 77 (kH l)) (hroom:(ls.length+1)*24<=140737488355328) (hbase:base<=w.heap.size)
  (h:∀v' w',gG w' base v' (ls++[l])->Below base w w'->w.grownBy w' v.ownBlock->wpList Tryz.prog ops Q rest (a.put o.dst v') w'):wpList Tryz.prog ops Q (o::rest) a w:=by
 obtain⟨i,hi,hz,h2,h3⟩:=AC JB;refine wpList_append_own_at w hgd s x 78 ho base 77 i _ 2 24 Tryz.underlying78 hi hz h2 h3 rfl (by decide) v ls.length (ls.flatMap kH) hs hown ⟨g,0,none⟩ 1 1 (kH l) hx rfl
  (fun j u' hj=>?_) (fun u' hu=>?_) (by simp only[maxLen];omega) hroom hbase (fun v' w' q1 q2 _ _=>h v' w' ?_ (rC hown q2 hbase) q2)
 ·rw[show(⟨g,0,none⟩:Addr).add j=⟨g,j,none⟩ by unfold iN;split<;>simp_all];exact hc.cell hj
 ·unfold kH at hu;rcases kD.1 hu with rfl|hu
  ·rfl
  ·obtain rfl:=dC.1 hu;rfl
 ·unfold gG;rw[aL,pZ,List.flatMap_singleton];exact q1
abbrev VV:=Value×Value
def prC (l:List VV):List Value:=l.flatMap (fun q=>[q.1,q.2])
theorem RK (l m:List VV):prC (l++m)=prC l++prC m:=pZ
theorem JK (l:List VV):(prC l).length=l.length*2:=by
 induction l with
 |nil=>rfl
 |cons x l ih=>show([x.1,x.2]++prC l).length=_;rw[aL,ih];simp;omega
theorem CQ:∀(l:List VV) (j:Nat) (q:VV),l[j]? =some q->(prC l)[j*2]? =some q.1/\(prC l)[j*2+1]? =some q.2
 |[],j,q,h=>by simp at h
 |x::l,0,q,h=>by
  simp at h;subst h;exact⟨rfl,rfl⟩
 |x::l,j+1,q,h=>by
  have ih:=CQ l j q (by simpa using h);have e:prC (x::l)=x.1::x.2::prC l:=rfl;rw[e,show(j+1)*2=j*2+2 by omega];exact⟨by rw[<-ih.1];rfl,by rw[<-ih.2];rfl⟩
theorem aGc (l:List VV) (j:Nat) (u:Value) (h:(prC l)[j]? =some u):∃q,l[j/2]? =some q/\u=if j%2=0 then q.1 else q.2:=by
 have hj:=(eU.1 h).1;rw[JK] at hj;have hq:l[j/2]? =some l[j/2]:=aN (by omega);obtain⟨e1,e2⟩:=CQ l _ _ hq;refine⟨_,hq,?_⟩;rcases FU j with k|k
 ·rw[show j/2*2=j by omega,h] at e1;rw[if_pos k];exact bW e1
 ·rw[show j/2*2+1=j by omega,h] at e2;rw[if_neg (by omega)];exact bW e2
def nG (l:List VV):Prop:=∀q∈l,q.1.oneCell'=true/\q.2.oneCell'=true
theorem nG.cells {l:List VV} (h:nG l):∀u∈prC l,u.oneCell'=true:=fun u hu=>by
 obtain⟨q,hq,hu⟩:=List.mem_flatMap.1 hu;rcases kD.1 hu with rfl|hu
 ·exact(h q hq).1
 ·obtain rfl:=dC.1 hu;exact(h q hq).2
theorem nG.app {l m:List VV} (h:nG l) (k:nG m):nG (l++m):=fun q hq=>(cU.1 hq).elim (h q) (k q)
structure El2 (P:gD) (t e bytes:Nat) (z:Value):Prop where
 under:P.underlying t=some (.slice e)
 info:∃i,P.info? e=some i/\i.zero=some z/\i.size=2/\i.bytes=bytes
 cells:z.cells.size=2
 pos:1<=bytes
theorem El2.mk' {P:gD} {t e bytes:Nat} {z:Value} (h:(P.info? e).map (fun i=>(i.zero,i.size,i.bytes))=some (some z,2,bytes)) (hu:P.underlying t=some (.slice e)) (hc:z.cells.size=2) (hb:1<=bytes):El2 P t e bytes z:=by
 obtain⟨i0,hi,hz0,hz1,hz2⟩:=AC h;exact⟨hu,⟨i0,hi,hz0,hz1,hz2⟩,hc,hb⟩
def OwP (w:World) (B e:Nat) (v:Value) (l:List VV):Prop:=w.ownsRow B e 2 v l.length (prC l)
theorem OwP.nil (w:World) (B e:Nat):OwP w B e (.slice none 0 0) []:=aBx _ _ _ _
theorem OwP.alloc {w:World} {B e:Nat} {v:Value} {l:List VV} (h:OwP w B e v l) (o:Obj):OwP (w.alloc o) B e v l:=aBy h o
theorem OwP.below {w w':World} {B C e:Nat} {v:Value} {l:List VV} (h:OwP w B e v l) (hb:Below C w w') (hC:w.heap.size<=C):OwP w' B e v l:=GZ h hb hC
theorem OwP.base {w:World} {B B' e:Nat} {v:Value} {l:List VV} (h:OwP w B e v l) (hb:B'<=B):OwP w B' e v l:=IA h hb
theorem OwP.kept {w w':World} {B e:Nat} {v:Value} {l:List VV} {row:Option Nat} (h:OwP w B e v l) (hg:w.grownBy w' row) (hne:v.ownBlock=none\/v.ownBlock≠row):OwP w' B e v l:=NH h hg hne
theorem OwP.lt {w:World} {B e:Nat} {v:Value} {l:List VV} (h:OwP w B e v l):∀k,v.ownBlock=some k->B<=k/\k<w.heap.size:=aT4 h
def kK (w:World) (v:Value) (l:List VV):Prop:=
 (v=.slice none 0 0/\l=[])\/∃b off cap,v=.slice (some ⟨b,off,none⟩) l.length cap/\l.length<=cap/\cap<=maxLen/\b<w.heap.size/\∀j q,l[j]? =some q->w.cell? ⟨b,off+j*2,none⟩=some q.1/\w.cell? ⟨b,off+j*2+1,none⟩=some q.2
theorem kK.below {w w':World} {v:Value} {l:List VV} (h:kK w v l) (hb:Below w.heap.size w w'):kK w' v l:=by
 rcases h with h|⟨b,off,cap,rfl,h1,h2,hl,hc⟩
 ·exact .inl h
 ·exact .inr ⟨b,off,cap,rfl,h1,h2,dR hl hb.size,fun j q hq=>by rw[hb.cell (p:=⟨b,off+j*2,none⟩) hl,hb.cell (p:=⟨b,off+j*2+1,none⟩) hl];exact hc j q hq⟩
theorem OwP.src {w:World} {B e:Nat} {v:Value} {l:List VV} (h:OwP w B e v l):kK w v l:=by
 obtain⟨hl,h⟩:=h;rcases h with⟨rfl,h0⟩|⟨g,cap,cur,rfl,hb,hg,hnc,hcm,hcs,ht⟩
 ·exact .inl ⟨rfl,mV.1 h0⟩
 ·refine .inr ⟨g,0,cap,rfl,hnc,hcm,(gQ.1 hg).1,fun j q hj=>?_⟩;obtain⟨e1,e2⟩:=CQ l j q hj;have hjl:=(eU.1 hj).1;rw[iZ,tN w g (j*2) cur _ (0,0) hg,tN w g (j*2+1) cur _ (0,0) hg];rw[<-ht,lW,if_pos (by omega)] at e1 e2;exact⟨by simpa using e1,by simpa using e2⟩
theorem kK.new (w:World) (e:TypeId) (q:VV):kK (w.alloc (.cells #[q.1,q.2] e)) (.slice (some ⟨w.heap.size,0,none⟩) 1 1) [q]:=by
 have h:=Arr.new w e [q.1,q.2];refine .inr ⟨w.heap.size,0,1,rfl,by simp,by simp[maxLen],by simp,fun j p hp=>?_⟩
 cases j with
 |zero=>simp at hp;subst hp;exact⟨h.cell (i:=0) rfl,h.cell (i:=1) rfl⟩
 |succ j=>simp at hp
theorem kK.open {w:World} {v:Value} {l:List VV} (h:kK w v l):∃a cap,v=.slice a l.length cap/\l.length<=cap/\cap<=maxLen/\
  (0<l.length->∃b off,a=some ⟨b,off,none⟩/\b<w.heap.size/\∀j q,l[j]? =some q->w.cell? ⟨b,off+j*2,none⟩=some q.1/\w.cell? ⟨b,off+j*2+1,none⟩=some q.2):=by
 rcases h with⟨rfl,rfl⟩|⟨b,off,cap,rfl,h1,h2,hl,hc⟩
 ·exact⟨none,0,rfl,aA _,by simp[maxLen],fun h=>absurd h (by simp)⟩
 ·exact⟨_,cap,rfl,h1,h2,fun _=>⟨b,off,rfl,hl,hc⟩⟩
section
variable {P:gD} {t e bytes:Nat} {z:Value}
theorem JL (E:El2 P t e bytes z) {w:World} (ty:TypeId) (base:Nat) (v:Value) (l:List VV) (hown:OwP w base e v l) (sv:Value) (m:List VV) (hsrc:kK w sv m) (h1:nG m) (hroom:(l.length+m.length)*bytes<=140737488355328) (hbase:base<=w.heap.size):
  ∃v' w',(Builtin.append_ #[t,t] ty #[v,sv]).run P w=.ok v' w'/\OwP w' base e v' (l++m)/\Below base w w'/\w.grownBy w' v.ownBlock:=by
 obtain⟨i,hi,hz,h2,h3⟩:=E.info;rcases hsrc with⟨rfl,rfl⟩|⟨b,off,cap,rfl,_,_,_,hc⟩
 ·refine⟨v,w,run_append_owned_none (P:=P) (w:=w) base t ty e i 2 E.under hi v l.length _ hown,by rw[eE];exact hown,aB _ _,⟨rfl,rfl,rfl,aA _,fun _ _ _=>rfl⟩⟩
 ·have hpos:=E.pos;have hn:l.length+m.length<=140737488355328:=aW (Nat.le_mul_of_pos_right _ hpos) hroom;obtain⟨v',w',q1,q2,q3,_⟩:=run_append_own (P:=P) w base t ty e i z 2 bytes E.under hi hz h2 h3 E.cells (by decide) v l.length _ hown ⟨b,off,none⟩ m.length cap (prC m) (JK m) (fun j u hu=>by
    obtain⟨q,hq,rfl⟩:=aGc m j u hu;obtain⟨c1,c2⟩:=hc _ _ hq;have e:(⟨b,off,none⟩:Addr).add j=⟨b,off+j,none⟩:=by unfold iN;split<;>simp_all
    rw[e];rcases FU j with k|k
    ·rw[if_pos k,<-c1,show j/2*2=j by omega]
    ·rw[if_neg (by omega),<-c2,Nat.add_assoc,show j/2*2+1=j by omega]) h1.cells (by simp only[maxLen];omega) hroom hbase
  refine⟨v',w',q1,?_,rC hown q3 hbase,q3⟩;unfold OwP;rw[RK,aL];exact q2
end
theorem JW {ops:Array Oper} {o:Oper} {a:Act} {K:Act->World->Prop} {Q:Exit->Act->World->Prop} {E:Prop} {w:World} (hgd:o.guard=none) (s x:iM)
  (ho:o.op=.call {callee:=.builtin .append,args:=#[s,x],argTypes:=#[39,39]}) (base:Nat) (v:Value) (l:List Int) (hs:a.eval s=v) (hown:OwI w base v l)
  (sv:Value) (m:List Int) (hx:a.eval x=sv) (hsrc:pQ w sv m) (hroom:(l.length+m.length)*8<=140737488355328) (hbase:base<=w.heap.size)
  (h:∀v' w',OwI w' base v' (l++m)->Below base w w'->w.grownBy w' v.ownBlock->K (a.put o.dst v') w'):if nR o (yielded ops a.tmps)=true then lX Tryz.prog o a w K Q else E:=by
 have hw:nR o (yielded ops a.tmps)=true:=by simp[nR,hgd]
 rw[if_pos hw];obtain⟨v',w',hr,q1,q2,q3⟩:=RH o.type base v l hown sv m hsrc hroom hbase;unfold lX execOp;simp only[ho,resolve,invoke,builtin,Sem.run_bind,Sem.run_pure,Result.andThen_ok,List.map_toArray,pG,List.map_nil,hs,hx,hr];exact h v' w' q1 q2 q3
theorem kZ {w1 w2:World} {p1 p2 p3:Addr} {v1 v2 v3:Value} {B:Nat} {w0:World}
  (h:w1.cell? p1=some v1/\w1.cell? p2=some v2/\w1.cell? p3=some v3/\Below B w0 w1/\B<=w1.heap.size) (hb:Below w1.heap.size w1 w2):
  w2.cell? p1=some v1/\w2.cell? p2=some v2/\w2.cell? p3=some v3/\Below B w0 w2/\B<=w2.heap.size:=by
 obtain⟨h1,h2,h3,h6,h7⟩:=h;have k:∀{p:Addr} {v:Value},w1.cell? p=some v->w2.cell? p=some v:=fun{p} {v} hp=>(hb.cell (World.block_lt_of_cell? w1 p hp)).trans hp
 exact⟨k h1,k h2,k h3,h6.trans (hb.mono h7),aW h7 hb.size⟩
theorem CX {w1 w2:World} {b1 o1 b2 o2 b3 o3:Nat} {v1 v2 v3:Value} {B:Nat} {w0:World}
  (h:w1.cell? ⟨b1,o1,none⟩=some v1/\w1.cell? ⟨b2,o2,none⟩=some v2/\w1.cell? ⟨b3,o3,none⟩=some v3/\Below B w0 w1/\B<=w1.heap.size) (hb:Below B w1 w2) (k1:b1<B) (k2:b2<B) (k3:b3<B):
  w2.cell? ⟨b1,o1,none⟩=some v1/\w2.cell? ⟨b2,o2,none⟩=some v2/\w2.cell? ⟨b3,o3,none⟩=some v3/\Below B w0 w2/\B<=w2.heap.size:=by
 obtain⟨h1,h2,h3,h6,h7⟩:=h;exact⟨(hb.cell (p:=⟨b1,o1,none⟩) k1).trans h1,(hb.cell (p:=⟨b2,o2,none⟩) k2).trans h2,(hb.cell (p:=⟨b3,o3,none⟩) k3).trans h3,h6.trans hb,aW h7 hb.size⟩
theorem ST {l:List Int} (h:¬(2<=l.length/\l.length<=258)):bL l=1:=by
 unfold bL;rw[if_pos (fun q=>h ⟨q.1,q.2.1⟩)]
theorem DG {l:List Int} {k:Nat} {x:Int} (h:l[k]? =some x) (hx:¬(1<=x/\x<=20)):bL l=1:=by
 unfold bL;rw[if_pos (fun q=>hx (q.2.2 x (List.mem_of_getElem? h)))]
theorem SU {l:List Int} (h:fY l):bL l=if 1048576<jR l then 6 else 0:=by
 unfold bL;rw[if_neg (fun k=>k h)]
def cD (n:Nat) (f:Nat->Value×Value):List Value:=(dG (n*2)).map (fun j=>if j%2=0 then(f (j/2)).1 else(f (j/2)).2)
theorem DI (n:Nat) (f:Nat->Value×Value):(cD n f).length=n*2:=by simp[cD]
theorem uR (n:Nat) (f:Nat->Value×Value) (i:Nat) (h:i<n):(cD n f)[i*2]? =some (f i).1:=by
 unfold cD;rw[dY,pF (by omega)];simp
theorem uS (n:Nat) (f:Nat->Value×Value) (i:Nat) (h:i<n):(cD n f)[i*2+1]? =some (f i).2:=by
 unfold cD;rw[dY,pF (by omega)];have e1:(i*2+1)%2=1:=by omega
 have e2:(i*2+1)/2=i:=by omega
 simp[e1,e2]
theorem KG (n:Nat) (f f':Nat->Value×Value) (i:Nat) (a b:Value) (h:∀d,d<n->f' d=if d=i then(a,b) else f d):((cD n f).set (i*2) a).set (i*2+1) b=cD n f':=by
 apply List.ext_getElem?;intro j
 by_cases hj:j<n*2
 ·rw[List.getElem?_set,List.getElem?_set];have hl:((cD n f).set (i*2) a).length=n*2:=by rw[mW,DI]
  rw[hl,DI];have hf:=h (j/2) (by omega)
  by_cases h1:i*2+1=j
  ·have hji:j/2=i:=by omega
   rw[if_pos h1,if_pos (by omega)];unfold cD;rw[dY,pF hj];simp only[xW];rw[hf,if_pos hji];simp[show ¬j%2=0 by omega]
  ·rw[if_neg h1]
   by_cases h2:i*2=j
   ·have hji:j/2=i:=by omega
    rw[if_pos h2,if_pos (by omega)];unfold cD;rw[dY,pF hj];simp only[xW];rw[hf,if_pos hji];simp[show j%2=0 by omega]
   ·rw[if_neg h2];unfold cD;rw[dY,dY,pF hj];have hne:¬j/2=i:=fun e=>by
     have m1:=Nat.div_add_mod j 2;have m2:=Nat.mod_lt j (by decide:0<2);omega
    rw[if_neg hne] at hf;rw[xW,xW,hf]
 ·rw[dL (by rw[mW,mW,DI];omega),dL (by rw[DI];omega)]
theorem rS {n:Nat} {f g:Nat->Value×Value} (h:∀d,d<n->f d=g d):cD n f=cD n g:=by
 unfold cD;apply List.map_congr_left;intro j hj;rw[jF] at hj;rw[h (j/2) (by omega)]
theorem SW (a b:Value) (n:Nat):(madeCells #[a,b] (n*2))=(cD n (fun _=>(a,b))).toArray:=by
 unfold madeCells cD;apply Array.ext
 ·simp
 ·intro j h1 h2;simp only[Array.getElem_map,Array.getElem_range,List.getElem_toArray,List.getElem_map,List.getElem_range];rcases FU j with e|e
  ·simp[e]
  ·simp[e]
theorem mk2 {P:gD} {ops:Array Oper} {rest:List Oper} {o:Oper} {a:Act} {Q:Exit->Act->World->Prop} {w:World} {t e bytes:Nat} {z x y:Value} (hu:P.underlying t=some (.slice e)) (hinfo:(P.info? e).map (fun i=>(i.zero,i.size,i.bytes))=some (some z,2,bytes)) (hzc:z.cells=#[x,y]) (hgd:o.guard=none) (l c:iM)
  (ho:o.op=.makeSlice t l c) (n:Nat) (hl:a.eval l=.int .i64 (n:Int)) (hc:a.eval c=.int .i64 (n:Int)) (hroom:n*bytes<=140737488355328) (hn:n<=140737488355328)
  (h:wpList P ops Q rest (a.put o.dst (.slice (some ⟨w.heap.size,0,none⟩) n n)) (w.alloc (.cells (cD n (fun _=>(x,y))).toArray e))):wpList P ops Q (o::rest) a w:=by
 refine wpList_plain hgd fun K hK'=>?_
 obtain⟨i,hi,hz,h2,h3⟩:=AC hinfo;have hb:(i.bytes:Int)*(n:Int)<=281474976710656:=by
  rw[h3,<-Int.natCast_mul,Nat.mul_comm];omega
 have hrun:=run_make (P:=P) w t e i z hu hi hz .i64 .i64 (n:Int) (n:Int) (by omega) (lJ _) hb (by omega);rw[h2,eG,hzc,SW] at hrun;unfold lX;simp[execOp,ho,hl,hc,hrun,jB];exact hK' _ _ h
def qP (l:List Int) (d:Nat):Value×Value:=(.int .i64 (bG l d:Int),.int .u64 (fO l d:Int))
def iW (l:List Int) (n i:Nat):Nat:=fC l n+bU (l.take i) n
theorem DJ {l:List Int} (h:fY l) (hk:jR l<=1048576) {n i:Nat} (hn:n<=20):iW l n i<=1048576:=by
 have h1:=PE h.2.2 hk hn;have h2:bU (l.take i) n<=bU l n:=by
  unfold bU;exact List.Sublist.countP_le (List.take_sublist ..)
 have h3:2^n<=2^20:=Nat.pow_le_pow_right (by decide) hn;have h4:(2:Nat)^20=1048576:=by decide
 unfold iW;omega
theorem SX:(Tryz.prog.info? 180).map (fun i=>(i.zero,i.size,i.bytes))=some (some (.agg #[.int .i64 0,.int .u64 0]),2,16):=by kernel_rfl
def Wds (w:World) (B:Nat) (v:Value) (l:List Int):Prop:=∃b,B<=b/\v=.slice (some ⟨b,0,none⟩) l.length l.length/\Arr w b 180 (cD l.length (qP l))
theorem Wds.below {w w':World} {B C:Nat} {v:Value} {l:List Int} (h:Wds w B v l) (hb:Below C w w') (hC:w.heap.size<=C):Wds w' B v l:=by
 obtain⟨b,h1,h2,h3⟩:=h;exact⟨b,h1,h2,h3.below hb (by have:=h3.lt;omega)⟩
theorem UE (s:List UInt8) (a:Int) (k:Nat) (h:(aZ s a k).2.2.2≠0):∀m,(aZ s a (k+m))=aZ s a k
 |0=>rfl
 |m+1=>by
  have ih:=UE s a k h m;show(if(aZ s a (k+m)).2.2.2≠0 then aZ s a (k+m) else _)=_;rw[ih,if_pos h]
theorem KO (s:List UInt8) (a n:Nat) (h1:2<=n) (h2:n<=258):eJ s (a:Int) (n:Int)=if(aZ s a n).2.2.2≠0 then([],0,(aZ s a n).2.2.2) else((aZ s a n).1,(aZ s a n).2.2.1,0):=by
 unfold eJ;rw[if_neg (by omega),eG]
theorem UF {s:List UInt8} {a n k:Nat} (h1:2<=n) (h2:n<=258) (hk:k<=n) (h:(aZ s a k).2.2.2≠0):eJ s (a:Int) (n:Int)=([],0,(aZ s a k).2.2.2):=by
 have:=UE s a k h (n-k);rw[show k+(n-k)=n by omega] at this;rw[KO s a n h1 h2,this,if_pos h]
theorem UG (s:List UInt8) (a:Int):aZ s a 0=([],(aE s a 5:Int),a+5,if aO s.length a 5≠0 then aO s.length a 5 else if(aE s a 5:Int)<1\/20<(aE s a 5:Int) then 3 else 0):=rfl
theorem UH {s:List UInt8} {a:Int} {k:Nat} (h:(aZ s a k).2.2.2=0):aZ s a (k+1)=
  if(eD s (aZ s a k).2.2.1 (aZ s a k).2.1).2.2≠0 then((aZ s a k).1,(aZ s a k).2.1,(aZ s a k).2.2.1,(eD s (aZ s a k).2.2.1 (aZ s a k).2.1).2.2)
  else((aZ s a k).1++[(eD s (aZ s a k).2.2.1 (aZ s a k).2.1).1],(eD s (aZ s a k).2.2.1 (aZ s a k).2.1).1,(eD s (aZ s a k).2.2.1 (aZ s a k).2.1).2.1,0):=by
 show(if(aZ s a k).2.2.2≠0 then aZ s a k else _)=_;rw[if_neg (fun q=>q h)]
def wM (w w':World) (s:List UInt8) (a n:Nat) (e:Ending):Prop:=
 ∃v,e=.returned (.tuple #[v,.int .i64 (eJ s (a:Int) (n:Int)).2.1,.int .i64 (eJ s (a:Int) (n:Int)).2.2])/\OwI w' w.heap.size v (eJ s (a:Int) (n:Int)).1/\Below w.heap.size w w'
theorem yY {w w':World} {s:List UInt8} {a n:Nat} {E:Int} (h:eJ s (a:Int) (n:Int)=([],0,E)) (hb:Below w.heap.size w w'):wM w w' s a n (.returned (.tuple #[.slice none 0 0,.int .i64 0,.int .i64 E])):=by
 refine⟨.slice none 0 0,?_,?_,hb⟩
 ·rw[h]
 ·rw[h];exact OwI.nil _ _
end
end Go.Proofs.YtpgmbhpbgkljdaaGreatDoor
